/- Texts of this claim, cut down to what its theorem uses and laid end to end (wip/shake.py). -/
import Derived.ArgAppend
import Derived.Below
import Derived.BigQuiet
import Derived.ChangeOld
import Derived.ChangeSlices
import Derived.Deep.AppendLies
import Derived.Deep.CutBlock
import Derived.Deep.DeepCutAuto
import Derived.Deep.Draws
import Derived.Deep.LoopGhost
import Derived.Deep.Matrix
import Derived.Deep.OwnRows
import Derived.Deep.QuietTactic
import Derived.Deep.RegionHeld3
import Derived.KernelRfl
import Derived.Laws.BitsLemmas
import Derived.Laws.BytesArg
import Derived.Laws.CopyOwn
import Derived.Laws.IdiomCopy
import Derived.Laws.MakeOwn
import Derived.Laws.OwnMore
import Derived.Laws.Rows
import Derived.Laws.Slices
import Derived.Laws.StructEq
import Derived.Lib.AppendStr
import Derived.Lib.ConvBytes
import Derived.LoopIn
import Derived.LoopNIn
import Derived.Maps.AppendAt
import Derived.OpenShut
import Derived.OrdersHeld
import Derived.OwnWalk
import Derived.OwnWalkIn
import Derived.ProofKit
import Derived.RangeFuncBound
import Derived.RangeFuncBox
import Derived.RangeFuncCalls
import Derived.RangeFuncFrom
import Derived.RangeFuncLeaves
import Derived.RangeFuncNested
import Derived.RowKit
import Derived.RowKit3
import Derived.Shelf.Abstract
import Derived.ShutString
import Derived.SizedLaws
import Derived.Tactics
import Derived.TacticsInMore
import Derived.Test.YtjjedbcgkljdeaaProg
import Derived.WalkKit
import Derived.WideLaws
import GoSem.ClaimData
import Derived.Test.YtjjedbcgkljdeaaKLoops4
section
namespace Go.Proofs.Ytjjedbcgkljdeaa.M
open Go.RowKit Go.Proofs.YtjjedbcgkljdeaaW.PrintWords Go.Proofs.YtjjedbcgkljdeaaW.PrintLast Go.Proofs.YtjjedbcgkljdeaaW.PrintMore Go.Proofs.Ytjjedbcgkljdeaa.A
theorem index_l0 (l : List Int) (x : Int) (hl : l.length ≤ 100000) : ∀ (d i : Nat), i + d = l.length → ∃ v : Int, (0 ≤ v ↔ x ∈ l.drop i) ∧ Evt (fun k => slices_Index_int_int.l0 k l x (l.length : Int) (i : Int)) v
 | 0, i, hd => by
  refine ⟨-1, ⟨fun h => by omega, fun h => ?_⟩, Evt.succ ?_⟩
  ·rw [List.drop_of_length_le (by omega)] at h; cases h
  ·simp only [slices_Index_int_int.l0]
   exact Evt.neg (by omega) (Evt.const _)
 | d + 1, i, hd => by
  have hi : i < l.length := by omega
  obtain ⟨v, hv, he⟩ := index_l0 l x hl d (i + 1) (by omega)
  rw [List.drop_eq_getElem_cons hi]; by_cases e : x = l[i]
  ·refine ⟨(i : Int), ⟨fun _ => by rw [e]; exact List.mem_cons_self, fun _ => by omega⟩, Evt.succ ?_⟩
   simp only [slices_Index_int_int.l0, rd_nat _ _ hi]
   exact Evt.pos (by omega) (Evt.pos (by omega) (Evt.pos (by omega) (Evt.pos e (Evt.const _))))
  ·refine ⟨v, by rw [hv, List.mem_cons]; exact ⟨.inr, fun h => h.resolve_left e⟩, Evt.succ ?_⟩
   simp only [slices_Index_int_int.l0, rd_nat _ _ hi, wrap_succ i (by omega)]
   exact Evt.pos (by omega) (Evt.pos (by omega) (Evt.pos (by omega) (Evt.neg e he)))
theorem contains_ev (l : List Int) (x : Int) (hl : l.length ≤ 100000) : ∃ v : Bool, (v = true ↔ x ∈ l) ∧ Evt (fun k => slices_Contains_int_int.f k l x) v := by
 obtain ⟨v, hv, he⟩ := index_l0 l x hl l.length 0 (by omega)
 rw [List.drop_zero] at hv; refine ⟨decide (v ≥ 0), by rw [decide_eq_true_eq]; exact hv, ?_⟩
 unfold slices_Contains_int_int.f slices_Index_int_int.f
 exact Evt.bind he (Evt.const _)
structure LfI (g left : List (List Int)) (a i : Nat) : Prop where
 len : left.length = g.length
 done : ∀ c : Nat, c < a → rd_L1 left (c : Int) = restRow g (c : Int) (rd_L1 g (c : Int))
 now : rd_L1 left (a : Int) = restRow g (a : Int) ((rd_L1 g (a : Int)).take i)
 rest : ∀ c : Nat, a < c → rd_L1 left (c : Int) = []
theorem LfI.zero (g : List (List Int)) : LfI g (List.replicate g.length []) 0 0 := by
 have hrep : ∀ a : Nat, rd_L1 (List.replicate g.length []) (a : Int) = [] := fun a => by
  unfold rd_L1
  rw [List.getD_eq_getElem?_getD, List.getElem?_replicate]; split <;> rfl
 exact ⟨by simp, fun c hc => absurd hc (by omega), by rw [hrep]; rfl, fun c _ => hrep c⟩
theorem LfI.next {g left : List (List Int)} {a i : Nat} (h : LfI g left a i) (hi : (rd_L1 g (a : Int)).length ≤ i) : LfI g left (a + 1) 0 := by
 refine ⟨h.len, fun c hc => ?_, ?_, fun c hc => h.rest c (by omega)⟩
 ·by_cases e : c = a
  ·subst e; rw [h.now, List.take_of_length_le hi]
  ·exact h.done c (by omega)
 ·rw [h.rest (a + 1) (by omega)]; rfl
theorem LfI.skip {g left : List (List Int)} {a i : Nat} (h : LfI g left a i) (hi : i < (rd_L1 g (a : Int)).length) (hd : TD g (rd_L1 g (a : Int))[i] (a : Int)) : LfI g left a (i + 1) := by
 refine ⟨h.len, h.done, ?_, h.rest⟩
 rw [h.now, restRow_take g _ _ i hi, if_pos hd, List.append_nil]
theorem LfI.push {g left : List (List Int)} {a i : Nat} (h : LfI g left a i) (ha : a < g.length) (hi : i < (rd_L1 g (a : Int)).length) (hd : ¬ TD g (rd_L1 g (a : Int))[i] (a : Int)) :
  LfI g (left.set a (rd_L1 left (a : Int) ++ [(rd_L1 g (a : Int))[i]])) a (i + 1) := by
 have hl := h.len; have hset : ∀ c : Nat, rd_L1 (left.set a (rd_L1 left (a : Int) ++ [(rd_L1 g (a : Int))[i]])) (c : Int) = if c = a then rd_L1 left (a : Int) ++ [(rd_L1 g (a : Int))[i]] else rd_L1 left (c : Int) := fun c => by
  have := rd_L1_set left (a : Int) (c : Int) (rd_L1 left (a : Int) ++ [(rd_L1 g (a : Int))[i]]) (by omega) (by omega) (by omega)
  rw [Int.toNat_natCast] at this; rw [this]; by_cases e : c = a
  ·rw [if_pos (by omega), if_pos e]
  ·rw [if_neg (by omega), if_neg e]
 refine ⟨by rw [List.length_set, hl], fun c hc => ?_, ?_, fun c hc => ?_⟩
 ·rw [hset, if_neg (by omega)]; exact h.done c hc
 ·rw [hset, if_pos rfl, h.now, restRow_take g _ _ i hi, if_neg hd]
 ·rw [hset, if_neg (by omega)]; exact h.rest c hc
theorem LfI.all {g left : List (List Int)} (h : LfI g left g.length 0) : left = restL g := by
 apply List.ext_getElem (by rw [h.len, restL_len])
 intro i h1 h2
 have hi : i < g.length := by rw [← h.len]; exact h1
 have := h.done i hi
 rw [rd_L1_nat left i h1] at this; rw [this, ← restL_row (by omega) (by omega), rd_L1_nat _ i h2]
theorem LfI.row_len {g left : List (List Int)} {a i : Nat} (h : LfI g left a i) (hr : ∀ r ∈ g, r.length ≤ 4) : (rd_L1 left (a : Int)).length ≤ 4 := by
 rw [h.now]; refine Nat.le_trans (List.length_filter_le _ _) ?_
 rw [List.length_take]; have := rd_L1_len hr (a : Int)
 omega
theorem rdB_ev (g bk : List (List Int)) (hg : Gr g) (hn : g.length ≤ 40) (hr : ∀ r ∈ g, r.length ≤ 4) (hbk : BackOf g bk) (a : Nat) (ha : a < g.length) :
  ∀ (m i : Nat) (left : List (List Int)), i + m = (rd_L1 g (a : Int)).length → LfI g left a i → ∃ r, LfI g r (a + 1) 0 ∧ Evt (fun k => Go.Proofs.Ytjjedbcgkljdeaa.D.rdB k bk a ((rd_L1 g (a : Int)).drop i) left) r
 | 0, i, left, hm, h => by
  rw [List.drop_of_length_le (by omega)]
  exact ⟨left, h.next (by omega), Evt.const _⟩
 | m + 1, i, left, hm, h => by
  have hi : i < (rd_L1 g (a : Int)).length := by omega
  have hx := hg.row (a : Int) _ (List.getElem_mem hi); have hmem := List.getElem_mem hi; have hbl := hbk.len; have hll := h.len; have hrowl := h.row_len hr; obtain ⟨v, hv1, hv2⟩ := contains_ev (rd_L1 bk (rd_L1 g (a : Int))[i]) (a : Int) (by have := hbk.rows (rd_L1 g (a : Int))[i]; omega)
  rw [hbk.mem _ hx.1 hx.2] at hv1; rw [List.drop_eq_getElem_cons hi]; simp only [Go.Proofs.Ytjjedbcgkljdeaa.D.rdB]
  by_cases hvt : v = true
  ·obtain ⟨r, r1, r2⟩ := rdB_ev g bk hg hn hr hbk a ha m (i + 1) left (by omega) (h.skip hi (hv1.1 hvt).2.2.2)
   exact ⟨r, r1, Evt.pos hx.1 (Evt.pos (by omega) (Evt.bind hv2 (Evt.pos hvt r2)))⟩
  ·obtain ⟨r, r1, r2⟩ := rdB_ev g bk hg hn hr hbk a ha m (i + 1) _ (by omega) (h.push ha hi (fun hd => hvt (hv1.2 ⟨by omega, by omega, hmem, hd⟩)))
   exact ⟨r, r1, Evt.pos hx.1 (Evt.pos (by omega) (Evt.bind hv2 (Evt.neg hvt (Evt.pos (by omega) (Evt.pos (by omega) r2)))))⟩
theorem rdA_ev (g bk : List (List Int)) (hg : Gr g) (hn : g.length ≤ 40) (hr : ∀ r ∈ g, r.length ≤ 4) (hbk : BackOf g bk) :
  ∀ (m a : Nat) (left : List (List Int)), a + m = g.length → LfI g left a 0 → Evt (fun k => Go.Proofs.Ytjjedbcgkljdeaa.D.rdA k bk g (List.range' a m) left) (restL g)
 | 0, a, left, hm, h => by
  obtain rfl : a = g.length := by omega
  rw [h.all]; exact Evt.const _
 | m + 1, a, left, hm, h => by
  obtain ⟨r, r1, r2⟩ := rdB_ev g bk hg hn hr hbk a (by omega) (rd_L1 g (a : Int)).length 0 left (by omega) h
  have ih := rdA_ev g bk hg hn hr hbk m (a + 1) r (by omega) r1
  rw [List.drop_zero] at r2; simp only [List.range'_succ, Go.Proofs.Ytjjedbcgkljdeaa.D.rdA]
  exact Evt.bind r2 ih
theorem rrest_l (g : List (List Int)) (tb : List (List Bool)) (there : List Bool) (hg : Gr g) (hn : g.length ≤ 40) (hr : ∀ r ∈ g, r.length ≤ 4) (htb : TabOf tb g.length (TD g)) (res : Bool) (hres : Evt (fun k => r7_Reducible.l2 k g there (restL g) 0) res) : ∀ (m a : Nat) (left : List (List Int)), a + m = g.length → LfI g left a 0 →
  Evt (fun k => r7_Reducible.l0 k g tb there left (a : Int)) res
 | 0, a, left, hm, h => by
  obtain rfl : a = g.length := by omega
  refine Evt.succ ?_
  simp only [r7_Reducible.l0]
  rw [h.all]; exact Evt.neg (by omega) hres
 | m + 1, a, left, hm, h => by
  have ih := fun l hl => rrest_l g tb there hg hn hr htb res hres m (a + 1) l (by omega) hl
  have hbl := htb.len; have inner : ∀ (e i : Nat) (left : List (List Int)), i + e = (rd_L1 g (a : Int)).length → LfI g left a i → Evt (fun k => r7_Reducible.l1 k g tb there left (a : Int) (i : Int)) res := by
   intro e
   induction e with
   | zero =>
    intro i left he hl
    refine Evt.succ ?_
    simp only [r7_Reducible.l1, wrap_succ a (by omega)]
    exact Evt.pos (by omega) (Evt.pos (by omega) (Evt.neg (by omega) (ih left (hl.next (by omega)))))
   | succ e ihe =>
    intro i left he hl
    have hi : i < (rd_L1 g (a : Int)).length := by omega
    have hrl := rd_L1_len hr (a : Int); have hx := hg.row (a : Int) ((rd_L1 g (a : Int))[i]) (List.getElem_mem hi); have hll := hl.len; have hrowl := hl.row_len hr; have hm0 : rd (rd_L1 g (a : Int)) (i : Int) = (rd_L1 g (a : Int))[i] := rd_nat _ _ hi
    have hT := htb.iff ((rd_L1 g (a : Int))[i]) (a : Int) hx.1 hx.2 (by omega) (by omega)
    have hrw := htb.row ((rd_L1 g (a : Int))[i]) hx.1 hx.2; have hpush := fun hdd hh => ihe (i + 1) _ hh (hl.push (by omega) hi hdd)
    have hskip := fun hdd => ihe (i + 1) left (by omega) (hl.skip hi hdd)
    unfold Db at hT
    generalize (rd_L1 g (a : Int))[i] = x at *
    refine Evt.succ ?_
    simp only [r7_Reducible.l1, hm0, wrap_succ i (by omega), Int.toNat_natCast]
    refine Evt.pos (by omega) (Evt.pos (by omega) (Evt.pos (by omega) (Evt.pos (by omega) (Evt.pos hx.1 (Evt.pos (by omega) (Evt.pos (by omega) ?_))))))
    by_cases hvt : rdOf false (rd_L3 tb x) (a : Int) = true
    ·exact Evt.pos hvt (hskip (hT.1 hvt))
    ·exact Evt.neg hvt (Evt.pos (by omega) (Evt.pos (by omega) (hpush (fun h => hvt (hT.2 h)) (by omega))))
  refine Evt.succ ?_
  simp only [r7_Reducible.l0]
  exact Evt.pos (by omega) (inner (rd_L1 g (a : Int)).length 0 left (by omega) h)
theorem rred_l2 (g : List (List Int)) (there : List Bool) (hg : Gr g) (hn : g.length ≤ 40) (hr : ∀ r ∈ g, r.length ≤ 4) (hs : there.length = g.length) (hs2 : ∀ x : Int, 0 ≤ x → (rdOf false there x = true ↔ Rg g 0 x)) :
  ∀ (m a : Nat), a + m = g.length → ∃ v : Bool, (v = true ↔ ∀ c : Int, (a : Int) ≤ c → Rg g 0 c → c < (g.length : Int) → ¬ Rch (restL g) (fun _ => false) (rd_L1 (restL g) c) c) ∧ Evt (fun k => r7_Reducible.l2 k g there (restL g) (a : Int)) v
 | 0, a, hm => by
  refine ⟨true, ⟨fun _ c h0 _ h1 => by omega, fun _ => rfl⟩, Evt.succ ?_⟩
  simp only [r7_Reducible.l2]
  exact Evt.neg (by omega) (Evt.const _)
 | m + 1, a, hm => by
  obtain ⟨v, hv1, hv2⟩ := rred_l2 g there hg hn hr hs hs2 m (a + 1) (by omega)
  have hl := restL_len g; have hrr := restL_rows hr; by_cases hR : rdOf false there (a : Int) = true
  ·have hin : InR (restL g).length (rd_L1 (restL g) (a : Int)) := (restL_gr hg).row _
   obtain ⟨s, s1, s2, s3⟩ := refFrom_ev (restL g) (rd_L1 (restL g) (a : Int)) (-1) (restL_gr hg) hin (by omega) (fun x => by have := rd_L1_len hrr x; omega) (by have := rd_L1_len hrr (a : Int); omega)
   have heq : Rch (restL g) (fun n => n == -1) (rd_L1 (restL g) (a : Int)) (a : Int) ↔ Rch (restL g) (fun _ => false) (rd_L1 (restL g) (a : Int)) (a : Int) := by
    constructor
    ·exact Rch.congr (fun _ _ _ _ h => h) (fun y hy => hy.range (restL_gr hg) hin) (fun _ _ _ => rfl)
    ·exact Rch.congr (fun _ _ _ _ h => h) (fun y hy => hy.range (restL_gr hg) hin) (fun y hy _ => by simp; omega)
   by_cases hc : rdOf false s (a : Int) = true
   ·refine ⟨false, ⟨fun h => (by cases h), fun h => absurd (heq.1 ((s3 _ (by omega)).1 hc)) (h _ (Int.le_refl _) ((hs2 _ (by omega)).1 hR) (by omega))⟩, Evt.succ ?_⟩
    simp only [r7_Reducible.l2]
    exact Evt.pos (by omega) (Evt.pos (by omega) (Evt.pos (by omega) (Evt.pos hR (Evt.pos (by omega) (Evt.bind s1 (Evt.pos (by omega) (Evt.pos hc (Evt.const _))))))))
   ·refine ⟨v, ?_, Evt.succ ?_⟩
    ·rw [hv1]; constructor
     ·intro h c h0 hcR h1
      by_cases e : c = (a : Int)
      ·rw [e]; exact fun hh => hc ((s3 _ (by omega)).2 (heq.2 hh))
      ·exact h c (by omega) hcR h1
     ·exact fun h c h0 hcR h1 => h c (by omega) hcR h1
    ·simp only [r7_Reducible.l2, wrap_succ a (by omega)]
     exact Evt.pos (by omega) (Evt.pos (by omega) (Evt.pos (by omega) (Evt.pos hR (Evt.pos (by omega) (Evt.bind s1 (Evt.pos (by omega) (Evt.neg hc hv2)))))))
  ·refine ⟨v, ?_, Evt.succ ?_⟩
   ·rw [hv1]; constructor
    ·intro h c h0 hcR h1
     by_cases e : c = (a : Int)
     ·rw [e] at hcR; exact absurd ((hs2 _ (by omega)).2 hcR) hR
     ·exact h c (by omega) hcR h1
    ·exact fun h c h0 hcR h1 => h c (by omega) hcR h1
   ·simp only [r7_Reducible.l2, wrap_succ a (by omega)]
    exact Evt.pos (by omega) (Evt.pos (by omega) (Evt.pos (by omega) (Evt.neg hR hv2)))
theorem rred_ev (g : List (List Int)) (hg : Gr g) (h1 : 1 ≤ g.length) (hn : g.length ≤ 40) (hr : ∀ r ∈ g, r.length ≤ 4) : ∃ v : Bool, (v = true ↔ RedP g) ∧ Evt (fun k => r7_Reducible.f k g) v := by
 obtain ⟨tb, htb, htb2⟩ := table_ev g hg h1 hn hr; obtain ⟨there, _, ht, ht1, ht2⟩ := reached_ev g h1 hg hn hr; have hin : InR g.length [0] := fun x hx => by obtain rfl := List.mem_singleton.1 hx; omega
 obtain ⟨v, hv1, hv2⟩ := rred_l2 g there hg hn hr ht1 ht2 g.length 0 (by omega)
 have h := rrest_l g tb there hg hn hr htb2 v hv2 g.length 0 _ (by omega) (LfI.zero g)
 refine ⟨v, ?_, ?_⟩
 ·rw [hv1]; constructor
  ·exact fun h a ha => h a (ha.range hg hin).1 ha (ha.range hg hin).2
  ·exact fun h c _ hc _ => h c hc
 ·unfold r7_Reducible.f
  exact Evt.bind htb (Evt.bind ht (Evt.pos (by omega) (Evt.pos (by omega) (by simpa using h))))
theorem plF_ev (P : List Int) (n : Nat) (hP : InR n P) (hnd : P.Nodup) : ∀ (d j : Nat) (pl : List Int), j + d = P.length → pl.length = n → (∀ i (hi : i < P.length), i < j → rd pl P[i] = (i : Int)) →
  ∃ r, Go.Proofs.Ytjjedbcgkljdeaa.D.plF (P.drop j) j pl = some r ∧ r.length = n ∧ ∀ i (hi : i < P.length), rd r P[i] = (i : Int)
 | 0, j, pl, hd, hl, h => by
  rw [List.drop_of_length_le (by omega)]
  exact ⟨pl, rfl, hl, fun i hi => h i hi (by omega)⟩
 | d + 1, j, pl, hd, hl, h => by
  have hj : j < P.length := by omega
  obtain ⟨hq0, hq1⟩ := hP _ (List.getElem_mem hj); obtain ⟨r, r1, r2, r3⟩ := plF_ev P n hP hnd d (j + 1) (pl.set (P[j]).toNat (j : Int)) (by omega) (by simp [hl]) (fun i hi hij => by
   rw [rd_set pl P[j] (j : Int) P[i] hq0 (by omega) (hP _ (List.getElem_mem hi)).1]
   by_cases e : P[i] = P[j]
   ·rw [if_pos e]; have := nodup_inj hnd hi hj e
    omega
   ·rw [if_neg e]; refine h i hi ?_
    rcases Nat.lt_or_ge i j with h | h
    ·exact h
    ·exfalso
     apply e
     have : i = j := by omega
     subst this; rfl)
  refine ⟨r, ?_, r2, r3⟩
  rw [List.drop_eq_getElem_cons hj, Go.Proofs.Ytjjedbcgkljdeaa.D.plF, if_pos hq0, if_pos (by omega)]
  exact r1
theorem rdC_ev (seen : List Bool) (place : List Int) (n : Nat) (a : Nat) (ha : a < n) (hs : seen.length = n) (hp : place.length = n) : ∀ (l : List Int), InR n l → ∃ v : Bool, Go.Proofs.Ytjjedbcgkljdeaa.D.rdC seen place a l = some v ∧ (v = true ↔ (rdOf false seen (a : Int) = true → ∀ b ∈ l, rd place b < rd place (a : Int)))
 | [], _ => ⟨true, rfl, ⟨fun _ _ b hb => (by cases hb), fun _ => rfl⟩⟩
 | b :: bs, hl => by
  obtain ⟨hb0, hb1⟩ := hl b (by simp)
  obtain ⟨v, v1, v2⟩ := rdC_ev seen place n a ha hs hp bs (fun x hx => hl x (by simp [hx]))
  rw [Go.Proofs.Ytjjedbcgkljdeaa.D.rdC, if_pos (by omega)]
  by_cases hR : rdOf false seen (a : Int) = true
  ·rw [if_pos hR, if_pos hb0, if_pos (by omega), if_pos (by omega)]
   by_cases hge : rd place b ≥ rd place (a : Int)
   ·rw [if_pos hge]; exact ⟨false, rfl, ⟨fun h => (by cases h), fun h => absurd (h hR b (by simp)) (by omega)⟩⟩
   ·rw [if_neg hge]; refine ⟨v, v1, ?_⟩
    rw [v2]; constructor
    ·intro h _ x hx
     rcases List.mem_cons.1 hx with rfl | hx
     ·omega
     ·exact h hR x hx
    ·exact fun h _ x hx => h hR x (by simp [hx])
  ·rw [if_neg hR]; exact ⟨v, v1, by rw [v2]; exact ⟨fun _ h => absurd h hR, fun _ h => absurd h hR⟩⟩
theorem rdD_ev (seen : List Bool) (place : List Int) (left : List (List Int)) (n : Nat) (hs : seen.length = n) (hp : place.length = n) (hleft : ∀ a : Int, InR n (rd_L1 left a)) :
  ∀ (m a : Nat), a + m = n → ∃ v : Bool, Go.Proofs.Ytjjedbcgkljdeaa.D.rdD seen place left (List.range' a m) = some v ∧ (v = true ↔ ∀ c : Nat, a ≤ c → c < n → rdOf false seen (c : Int) = true → ∀ b ∈ rd_L1 left (c : Int), rd place b < rd place (c : Int))
 | 0, a, hm => ⟨true, rfl, ⟨fun _ c h0 h1 => by omega, fun _ => rfl⟩⟩
 | m + 1, a, hm => by
  obtain ⟨v, v1, v2⟩ := rdC_ev seen place n a (by omega) hs hp (rd_L1 left (a : Int)) (hleft _)
  obtain ⟨u, u1, u2⟩ := rdD_ev seen place left n hs hp hleft m (a + 1) (by omega)
  rw [List.range'_succ, Go.Proofs.Ytjjedbcgkljdeaa.D.rdD, v1, Option.bind_some]; cases v with
  | true =>
   rw [if_pos rfl]; refine ⟨u, u1, ?_⟩
   rw [u2]; constructor
   ·intro h c h0 h1 hR b hb
    by_cases e : c = a
    ·subst e; exact v2.1 rfl hR b hb
    ·exact h c (by omega) h1 hR b hb
   ·exact fun h c h0 h1 => h c (by omega) h1
  | false =>
   rw [if_neg (by simp)]
   refine ⟨false, rfl, ⟨fun h => (by cases h), fun h => ?_⟩⟩
   exact v2.2 (h a (Nat.le_refl _) (by omega))
theorem red_ev (g : List (List Int)) (hv : validB g = true) (h1 : 1 ≤ g.length) (hg : Gr g) (hn : g.length ≤ 40) (hr : ∀ r ∈ g, r.length ≤ 4) : ∃ v : Bool, (v = true ↔ RedP g) ∧ Evt (fun k => Go.Proofs.Ytjjedbcgkljdeaa.D.graph_Reducible.f k g) (v, 0) := by
 have hve := valid_ev g (by omega) (fun r h => Nat.le_trans (hr r h) (by omega))
 rw [hv] at hve; obtain ⟨bk, hb, hb1⟩ := backs_ev g hg h1 hn hr; have hl := restL_len g; have hG := restL_gr hg; have hrr := restL_rows hr; have hin0 : InR g.length [0] := fun x hx => by obtain rfl := List.mem_singleton.1 hx; omega
 have hrng : ∀ x, Rg g 0 x → 0 ≤ x ∧ x < (g.length : Int) := fun x h => h.range hg hin0
 have hA := rdA_ev g bk hg hn hr hb1 g.length 0 _ (by omega) (LfI.zero g)
 rw [← List.range_eq_range'] at hA; obtain ⟨P, hP, hPl, hPo, hPd⟩ := order_dfs (restL g) 0 hG (by omega) (by omega) (by omega) (fun r h => Nat.le_trans (hrr r h) (by omega))
 have hPR : ∀ x, x ∈ P ↔ Rg g 0 x := fun x => (hPo.mem x).trans (rest_rg hrng hg h1 x)
 obtain ⟨place, p1, p2, p3⟩ := plF_ev P g.length (fun x hx => hrng x ((hPR x).1 hx)) hPo.nodup P.length 0 (List.replicate g.length 0) (by omega) (by simp) (fun i _ hi => absurd hi (by omega))
 rw [List.drop_zero] at p1; obtain ⟨seen, s1, s2, s3⟩ := fromF_ev (fun _ => false) (restL g) [0] hG (by rw [hl]; exact hin0) (by omega)
 have hs3 : ∀ x : Int, 0 ≤ x → (rdOf false seen x = true ↔ Rg g 0 x) := fun x hx => (s3 x hx).trans (rest_rg hrng hg h1 x)
 obtain ⟨v, v1, v2⟩ := rdD_ev seen place (restL g) g.length (by omega) p2 (fun a => by have := hG.row a; rwa [hl] at this) g.length 0 (by omega)
 rw [← List.range_eq_range'] at v1; refine ⟨v, ?_, ?_⟩
 ·rw [v2]; constructor
  ·intro h a ha hc
   -- places fall along every path
   have hfall : ∀ x, Rch (restL g) (fun _ => false) (rd_L1 (restL g) a) x → Rg g 0 x ∧ rd place x < rd place a := by
    have edge : ∀ p x, Rg g 0 p → x ∈ rd_L1 (restL g) p → Rg g 0 x ∧ rd place x < rd place p := by
     intro p x hp hx
     obtain ⟨p0, p1'⟩ := hrng p hp; obtain ⟨c, rfl⟩ := Int.eq_ofNat_of_zero_le p0; refine ⟨?_, h c (Nat.zero_le _) (by omega) ((hs3 _ p0).2 hp) x hx⟩
     rw [restL_row p0 p1'] at hx; exact Rch.step hp (restRow_mem.1 hx).1 rfl
    intro x hx
    induction hx with
    | base h2 _ => exact edge a _ ha h2
    | step _ h2 _ ih =>
     obtain ⟨e1, e2⟩ := edge _ _ ih.1 h2; exact ⟨e1, by omega⟩
   have := (hfall a hc).2
   omega
  ·intro h c _ hc hR b hb
   have hcR := (hs3 _ (by omega)).1 hR
   obtain ⟨i, hi, hic⟩ := List.mem_iff_getElem.1 ((hPR _).2 hcR); rw [← hic] at hb ⊢
   rcases hPd i hi b hb with ⟨j, hj, hji, rfl⟩ | hcyc
   ·rw [p3 j hj, p3 i hi]; omega
   ·exfalso
    refine h P[i] (by rw [hic]; exact hcR) ?_
    have : ∀ x, Rch (restL g) (fun _ => false) [b] x → Rch (restL g) (fun _ => false) (rd_L1 (restL g) P[i]) x := by
     intro x hx
     induction hx with
     | base h2 _ => obtain rfl := List.mem_singleton.1 h2; exact Rch.base hb rfl
     | step _ h2 _ ih => exact Rch.step ih h2 rfl
    exact this _ hcyc
 ·unfold Go.Proofs.Ytjjedbcgkljdeaa.D.graph_Reducible.f
  refine Evt.bind hve (Evt.pos rfl (Evt.pos (by omega) (Evt.bind hb (Evt.bind hA (Evt.pos hl (Evt.bind (a := P) hP (Evt.bind (a := place) ?_ (Evt.bind (a := seen) s1 (Evt.bind (a := v) ?_ (Evt.const _)))))))))) 
  ·rw [p1]; exact Evt.const _
  ·rw [hl, v1]; exact Evt.const _
end Go.Proofs.Ytjjedbcgkljdeaa.M
end
section
namespace Go.Proofs.Ytjjedbcgkljdeaa.M
open Go.RowKit Go.Proofs.Ytjjedbcgkljdeaa.D
theorem awake_ev : Evt (fun k => l7_awake.f k) true := Evt.of_mono l7_awake.mono (k := 400) (by kernel_rfl)
end Go.Proofs.Ytjjedbcgkljdeaa.M
end
section
namespace Go.Proofs.Ytjjedbcgkljdeaa.L
open Go.RowKit Go.Proofs.YtjjedbcgkljdeaaW.PrintWords Go.Proofs.YtjjedbcgkljdeaaW.PrintLast Go.Proofs.YtjjedbcgkljdeaaW.PrintMore Go.Proofs.Ytjjedbcgkljdeaa.A Go.Proofs.Ytjjedbcgkljdeaa.B Go.Proofs.Ytjjedbcgkljdeaa.C Go.Proofs.Ytjjedbcgkljdeaa.D
set_option linter.unusedVariables false
set_option linter.unusedSimpArgs false
def l7_GraphLoops.f (k : Nat) (l0 : List (List Int)) : Option (Bool) := (l7_wide.f k l0).bind fun t166 => (if t166 = true then ((l7_awake.f k).bind fun t167 => (some t167)) else ((graph_Frontier.f k l0).bind fun bt168 => ((graph_Loops.f k l0).bind fun bt172 => ((graph_Reducible.f k l0).bind fun bt176 => ((l7_code.f k l0).bind fun t178 => (if t178 = 0 then (if bt168.2 = 0 then (if bt172.2 = 0 then (if bt176.2 = 0 then ((r7_Frontier.f k l0).bind fun t180 => ((r6_SameLists.f k bt168.1 t180).bind fun t183 => (if t183 = true then ((r7_Loops.f k l0).bind fun t184 => ((r6_SameLists.f k bt172.1 t184).bind fun t187 => (if t187 = true then ((r7_Reducible.f k l0).bind fun t188 => (if (bt176.1 == t188) = true then ((l7_awake.f k).bind fun t189 => (some t189)) else (some false))) else (some false)))) else (some false)))) else (some false)) else (some false)) else (some false)) else (if bt168.2 = t178 then (if bt172.2 = t178 then (if bt176.2 = t178 then (if (wrap64 ((bt168.1.length : Int) + (bt172.1.length : Int))) = 0 then (if bt176.1 = true then (some false) else ((l7_awake.f k).bind fun t179 => (some t179))) else (some false)) else (some false)) else (some false)) else (some false))))))))
set_option maxHeartbeats 8000000 in
set_option maxRecDepth 100000 in
theorem l7_GraphLoops.calls (k : Nat) (A0 : Option Addr) (c0 : Nat) (l0 : List (List Int)) (r : Bool) (w : World) (hr0 : Kd.C (Kd.slice 3 (Kd.int .i64)) w A0 l0.length l0) (hc0 : l0.length ≤ c0) (h : l7_GraphLoops.f k l0 = some r) (hrt : r = true := by rfl) :
  Calls Try.prog 3 #[.slice A0 l0.length c0] w fun e w' => e = .returned (.bool r) ∧ Below w.heap.size w w' := by
 have HRT := Aside0.mk hrt; clear hrt; have HR0 := Aside0.mk hr0; have HC0 := Aside0.mk hc0; clear hr0 hc0; have HB := Aside0.mk (Below.refl w.heap.size w); have H : ((l7_wide.f k l0).bind fun t166 => (if t166 = true then ((l7_awake.f k).bind fun t167 => (some t167)) else ((graph_Frontier.f k l0).bind fun bt168 => ((graph_Loops.f k l0).bind fun bt172 => ((graph_Reducible.f k l0).bind fun bt176 => ((l7_code.f k l0).bind fun t178 => (if t178 = 0 then (if bt168.2 = 0 then (if bt172.2 = 0 then (if bt176.2 = 0 then ((r7_Frontier.f k l0).bind fun t180 => ((r6_SameLists.f k bt168.1 t180).bind fun t183 => (if t183 = true then ((r7_Loops.f k l0).bind fun t184 => ((r6_SameLists.f k bt172.1 t184).bind fun t187 => (if t187 = true then ((r7_Reducible.f k l0).bind fun t188 => (if (bt176.1 == t188) = true then ((l7_awake.f k).bind fun t189 => (some t189)) else (some false))) else (some false)))) else (some false)))) else (some false)) else (some false)) else (some false)) else (if bt168.2 = t178 then (if bt172.2 = t178 then (if bt176.2 = t178 then (if (wrap64 ((bt168.1.length : Int) + (bt172.1.length : Int))) = 0 then (if bt176.1 = true then (some false) else ((l7_awake.f k).bind fun t179 => (some t179))) else (some false)) else (some false)) else (some false)) else (some false))))))))) = some r := h
 clear h; replace H := Option.bind_eq_some_iff.mp H; obtain ⟨t166, A20, H⟩ := H; replace H : (if t166 = true then ((l7_awake.f k).bind fun t167 => (some t167)) else ((graph_Frontier.f k l0).bind fun bt168 => ((graph_Loops.f k l0).bind fun bt172 => ((graph_Reducible.f k l0).bind fun bt176 => ((l7_code.f k l0).bind fun t178 => (if t178 = 0 then (if bt168.2 = 0 then (if bt172.2 = 0 then (if bt176.2 = 0 then ((r7_Frontier.f k l0).bind fun t180 => ((r6_SameLists.f k bt168.1 t180).bind fun t183 => (if t183 = true then ((r7_Loops.f k l0).bind fun t184 => ((r6_SameLists.f k bt172.1 t184).bind fun t187 => (if t187 = true then ((r7_Reducible.f k l0).bind fun t188 => (if (bt176.1 == t188) = true then ((l7_awake.f k).bind fun t189 => (some t189)) else (some false))) else (some false)))) else (some false)))) else (some false)) else (some false)) else (some false)) else (if bt168.2 = t178 then (if bt172.2 = t178 then (if bt176.2 = t178 then (if (wrap64 ((bt168.1.length : Int) + (bt172.1.length : Int))) = 0 then (if bt176.1 = true then (some false) else ((l7_awake.f k).bind fun t179 => (some t179))) else (some false)) else (some false)) else (some false)) else (some false)))))))) = some r := H
 have A2 := Aside0.mk A20; clear A20; by_cases c3 : t166 = true
 ·subst c3; have H1 : ((l7_awake.f k).bind fun t167 => (some t167)) = some r := by rw [if_pos rfl] at H; exact H
  clear H; have H := H1; clear H1; replace H := Option.bind_eq_some_iff.mp H; obtain ⟨t167, A40, H⟩ := H; replace H : (some t167) = some r := H; have A4 := Aside0.mk A40; clear A40; obtain rfl := Option.some.inj H; go_enter Try.func3, Try.ntmps3
  go_wp2_with (first | ((with_reducible refine gate_callee (f := 13) rfl ?_); refine goesL_ (some 11) rfl rfl Try.func13 (by kernel_rfl) rfl #[.slice A0 l0.length c0] rfl (by (try simp only [List.map_toArray, List.map_cons, List.map_nil]); first | done | rfl | (simp only [List.length_drop, List.length_take]; rfl)) ?_; (with_reducible refine (l7_wide.calls k _ _ l0 true _ ?side1 ?side2 A2.out).mono ?_); (case side1 => repeat (first | exact HR0.out | with_reducible first | refine Kd.C_alloc ?_ _ | refine Kd.C_drewN ?_ _ | refine Kd.C_drew ?_)); (case side2 => exact HC0.out); rintro e w' ⟨rfl, ⟨nd, rfl⟩⟩; refine ⟨_, rfl, ?_⟩) | ((with_reducible refine gate_callee (f := 14) rfl ?_); refine goesL_ (some 12) rfl rfl Try.func14 (by kernel_rfl) rfl #[] rfl (by (try simp only [List.map_toArray, List.map_cons, List.map_nil]); first | done | rfl | (simp only [List.length_drop, List.length_take]; rfl)) ?_; (with_reducible refine (l7_awake.calls k  t167 _ A4.out).mono ?_); rintro e w5 ⟨rfl, hb⟩; refine ⟨_, rfl, ?_⟩; have n0_ := Aside0.mk (below_step (by repeat (first | (with_reducible first | exact HB.out | apply below_alloc | apply pw_below_drewN | apply below_drew1) | exact HB.out)) hb); clear HB; have HB := n0_; clear n0_; (try clear hb); (try clear hb2); (try clear hk); (try clear hi)))
  go_ret
  exact ⟨by first | rfl | (simp [errW_none, errW_some] <;> rfl) | (simp [*, errW_none, errW_some] <;> rfl), by repeat (first | (with_reducible first | exact HB.out | apply below_alloc | apply pw_below_drewN | apply below_drew1) | exact HB.out)⟩
 ·replace c3 := Bool.eq_false_iff.mpr c3; subst c3; have H1 : ((graph_Frontier.f k l0).bind fun bt168 => ((graph_Loops.f k l0).bind fun bt172 => ((graph_Reducible.f k l0).bind fun bt176 => ((l7_code.f k l0).bind fun t178 => (if t178 = 0 then (if bt168.2 = 0 then (if bt172.2 = 0 then (if bt176.2 = 0 then ((r7_Frontier.f k l0).bind fun t180 => ((r6_SameLists.f k bt168.1 t180).bind fun t183 => (if t183 = true then ((r7_Loops.f k l0).bind fun t184 => ((r6_SameLists.f k bt172.1 t184).bind fun t187 => (if t187 = true then ((r7_Reducible.f k l0).bind fun t188 => (if (bt176.1 == t188) = true then ((l7_awake.f k).bind fun t189 => (some t189)) else (some false))) else (some false)))) else (some false)))) else (some false)) else (some false)) else (some false)) else (if bt168.2 = t178 then (if bt172.2 = t178 then (if bt176.2 = t178 then (if (wrap64 ((bt168.1.length : Int) + (bt172.1.length : Int))) = 0 then (if bt176.1 = true then (some false) else ((l7_awake.f k).bind fun t179 => (some t179))) else (some false)) else (some false)) else (some false)) else (some false))))))) = some r := by rw [if_neg (show ¬ (false = true) by decide)] at H; exact H
  clear H; have H := H1; clear H1; replace H := Option.bind_eq_some_iff.mp H; obtain ⟨⟨t168, t169⟩, A60, H⟩ := H; replace H : ((graph_Loops.f k l0).bind fun bt172 => ((graph_Reducible.f k l0).bind fun bt176 => ((l7_code.f k l0).bind fun t178 => (if t178 = 0 then (if t169 = 0 then (if bt172.2 = 0 then (if bt176.2 = 0 then ((r7_Frontier.f k l0).bind fun t180 => ((r6_SameLists.f k t168 t180).bind fun t183 => (if t183 = true then ((r7_Loops.f k l0).bind fun t184 => ((r6_SameLists.f k bt172.1 t184).bind fun t187 => (if t187 = true then ((r7_Reducible.f k l0).bind fun t188 => (if (bt176.1 == t188) = true then ((l7_awake.f k).bind fun t189 => (some t189)) else (some false))) else (some false)))) else (some false)))) else (some false)) else (some false)) else (some false)) else (if t169 = t178 then (if bt172.2 = t178 then (if bt176.2 = t178 then (if (wrap64 ((t168.length : Int) + (bt172.1.length : Int))) = 0 then (if bt176.1 = true then (some false) else ((l7_awake.f k).bind fun t179 => (some t179))) else (some false)) else (some false)) else (some false)) else (some false)))))) = some r := H
  have A6 := Aside0.mk A60; clear A60; replace H := Option.bind_eq_some_iff.mp H; obtain ⟨⟨t172, t173⟩, A70, H⟩ := H; replace H : ((graph_Reducible.f k l0).bind fun bt176 => ((l7_code.f k l0).bind fun t178 => (if t178 = 0 then (if t169 = 0 then (if t173 = 0 then (if bt176.2 = 0 then ((r7_Frontier.f k l0).bind fun t180 => ((r6_SameLists.f k t168 t180).bind fun t183 => (if t183 = true then ((r7_Loops.f k l0).bind fun t184 => ((r6_SameLists.f k t172 t184).bind fun t187 => (if t187 = true then ((r7_Reducible.f k l0).bind fun t188 => (if (bt176.1 == t188) = true then ((l7_awake.f k).bind fun t189 => (some t189)) else (some false))) else (some false)))) else (some false)))) else (some false)) else (some false)) else (some false)) else (if t169 = t178 then (if t173 = t178 then (if bt176.2 = t178 then (if (wrap64 ((t168.length : Int) + (t172.length : Int))) = 0 then (if bt176.1 = true then (some false) else ((l7_awake.f k).bind fun t179 => (some t179))) else (some false)) else (some false)) else (some false)) else (some false))))) = some r := H
  have A7 := Aside0.mk A70; clear A70; replace H := Option.bind_eq_some_iff.mp H; obtain ⟨⟨t176, t177⟩, A80, H⟩ := H; replace H : ((l7_code.f k l0).bind fun t178 => (if t178 = 0 then (if t169 = 0 then (if t173 = 0 then (if t177 = 0 then ((r7_Frontier.f k l0).bind fun t180 => ((r6_SameLists.f k t168 t180).bind fun t183 => (if t183 = true then ((r7_Loops.f k l0).bind fun t184 => ((r6_SameLists.f k t172 t184).bind fun t187 => (if t187 = true then ((r7_Reducible.f k l0).bind fun t188 => (if (t176 == t188) = true then ((l7_awake.f k).bind fun t189 => (some t189)) else (some false))) else (some false)))) else (some false)))) else (some false)) else (some false)) else (some false)) else (if t169 = t178 then (if t173 = t178 then (if t177 = t178 then (if (wrap64 ((t168.length : Int) + (t172.length : Int))) = 0 then (if t176 = true then (some false) else ((l7_awake.f k).bind fun t179 => (some t179))) else (some false)) else (some false)) else (some false)) else (some false)))) = some r := H
  have A8 := Aside0.mk A80; clear A80; replace H := Option.bind_eq_some_iff.mp H; obtain ⟨t178, A90, H⟩ := H; replace H : (if t178 = 0 then (if t169 = 0 then (if t173 = 0 then (if t177 = 0 then ((r7_Frontier.f k l0).bind fun t180 => ((r6_SameLists.f k t168 t180).bind fun t183 => (if t183 = true then ((r7_Loops.f k l0).bind fun t184 => ((r6_SameLists.f k t172 t184).bind fun t187 => (if t187 = true then ((r7_Reducible.f k l0).bind fun t188 => (if (t176 == t188) = true then ((l7_awake.f k).bind fun t189 => (some t189)) else (some false))) else (some false)))) else (some false)))) else (some false)) else (some false)) else (some false)) else (if t169 = t178 then (if t173 = t178 then (if t177 = t178 then (if (wrap64 ((t168.length : Int) + (t172.length : Int))) = 0 then (if t176 = true then (some false) else ((l7_awake.f k).bind fun t179 => (some t179))) else (some false)) else (some false)) else (some false)) else (some false))) = some r := H
  have A9 := Aside0.mk A90; clear A90; by_cases c10 : t178 = 0
  ·rw [if_pos c10] at H; have c10b0 : (t178 == 0) = true := beq_iff_eq.mpr c10
   have c10b1 : (t178 != 0) = false := bne_eq_false_iff_eq.mpr c10
   clear c10; by_cases c11 : t169 = 0
   ·rw [if_pos c11] at H; have c11b0 : (t169 == 0) = true := beq_iff_eq.mpr c11
    have c11b1 : (t169 != 0) = false := bne_eq_false_iff_eq.mpr c11
    clear c11; by_cases c12 : t173 = 0
    ·rw [if_pos c12] at H; have c12b0 : (t173 == 0) = true := beq_iff_eq.mpr c12
     have c12b1 : (t173 != 0) = false := bne_eq_false_iff_eq.mpr c12
     clear c12; by_cases c13 : t177 = 0
     ·rw [if_pos c13] at H; have c13b0 : (t177 == 0) = true := beq_iff_eq.mpr c13
      have c13b1 : (t177 != 0) = false := bne_eq_false_iff_eq.mpr c13
      clear c13; replace H := Option.bind_eq_some_iff.mp H; obtain ⟨t180, A140, H⟩ := H; replace H : ((r6_SameLists.f k t168 t180).bind fun t183 => (if t183 = true then ((r7_Loops.f k l0).bind fun t184 => ((r6_SameLists.f k t172 t184).bind fun t187 => (if t187 = true then ((r7_Reducible.f k l0).bind fun t188 => (if (t176 == t188) = true then ((l7_awake.f k).bind fun t189 => (some t189)) else (some false))) else (some false)))) else (some false))) = some r := H
      have A14 := Aside0.mk A140; clear A140; replace H := Option.bind_eq_some_iff.mp H; obtain ⟨t183, A150, H⟩ := H; replace H : (if t183 = true then ((r7_Loops.f k l0).bind fun t184 => ((r6_SameLists.f k t172 t184).bind fun t187 => (if t187 = true then ((r7_Reducible.f k l0).bind fun t188 => (if (t176 == t188) = true then ((l7_awake.f k).bind fun t189 => (some t189)) else (some false))) else (some false)))) else (some false)) = some r := H
      have A15 := Aside0.mk A150; clear A150; by_cases c16 : t183 = true
      ·subst c16; have H1 : ((r7_Loops.f k l0).bind fun t184 => ((r6_SameLists.f k t172 t184).bind fun t187 => (if t187 = true then ((r7_Reducible.f k l0).bind fun t188 => (if (t176 == t188) = true then ((l7_awake.f k).bind fun t189 => (some t189)) else (some false))) else (some false)))) = some r := by rw [if_pos rfl] at H; exact H
       clear H; have H := H1; clear H1; replace H := Option.bind_eq_some_iff.mp H; obtain ⟨t184, A170, H⟩ := H; replace H : ((r6_SameLists.f k t172 t184).bind fun t187 => (if t187 = true then ((r7_Reducible.f k l0).bind fun t188 => (if (t176 == t188) = true then ((l7_awake.f k).bind fun t189 => (some t189)) else (some false))) else (some false))) = some r := H
       have A17 := Aside0.mk A170; clear A170; replace H := Option.bind_eq_some_iff.mp H; obtain ⟨t187, A180, H⟩ := H; replace H : (if t187 = true then ((r7_Reducible.f k l0).bind fun t188 => (if (t176 == t188) = true then ((l7_awake.f k).bind fun t189 => (some t189)) else (some false))) else (some false)) = some r := H
       have A18 := Aside0.mk A180; clear A180; by_cases c19 : t187 = true
       ·subst c19; have H1 : ((r7_Reducible.f k l0).bind fun t188 => (if (t176 == t188) = true then ((l7_awake.f k).bind fun t189 => (some t189)) else (some false))) = some r := by rw [if_pos rfl] at H; exact H
        clear H; have H := H1; clear H1; replace H := Option.bind_eq_some_iff.mp H; obtain ⟨t188, A200, H⟩ := H; replace H : (if (t176 == t188) = true then ((l7_awake.f k).bind fun t189 => (some t189)) else (some false)) = some r := H
        have A20 := Aside0.mk A200; clear A200; by_cases c21 : (t176 == t188) = true
        ·rw [if_pos c21] at H; have c21b0 : (t176 == t188) = true := c21
         (try (have c21b1 : decide (t176 = t188) = true := by simpa using c21))
         (try (have c21b2 : (t176 == t188) = true := by simpa using c21))
         clear c21; replace H := Option.bind_eq_some_iff.mp H; obtain ⟨t189, A220, H⟩ := H; replace H : (some t189) = some r := H; have A22 := Aside0.mk A220; clear A220; obtain rfl := Option.some.inj H; go_enter Try.func3, Try.ntmps3
         go_wp2_with (first | ((with_reducible refine gate_callee (f := 13) rfl ?_); refine goesL_ (some 11) rfl rfl Try.func13 (by kernel_rfl) rfl #[.slice A0 l0.length c0] rfl (by (try simp only [List.map_toArray, List.map_cons, List.map_nil]); first | done | rfl | (simp only [List.length_drop, List.length_take]; rfl)) ?_; (with_reducible refine (l7_wide.calls k _ _ l0 false _ ?side1 ?side2 A2.out).mono ?_); (case side1 => repeat (first | exact HR0.out | with_reducible first | refine Kd.C_alloc ?_ _ | refine Kd.C_drewN ?_ _ | refine Kd.C_drew ?_)); (case side2 => exact HC0.out); rintro e w' ⟨rfl, ⟨nd, rfl⟩⟩; refine ⟨_, rfl, ?_⟩) | ((with_reducible refine gate_callee (f := 15) rfl ?_); refine goesL_ (some 15) rfl rfl Try.func15 (by kernel_rfl) rfl #[.slice A0 l0.length c0] rfl (by (try simp only [List.map_toArray, List.map_cons, List.map_nil]); first | done | rfl | (simp only [List.length_drop, List.length_take]; rfl)) ?_; (with_reducible refine (graph_Frontier.calls k _ _ l0 t168 t169 _ ?side1 ?side2 A6.out).mono ?_); (case side1 => repeat (first | exact HR0.out | with_reducible first | refine Kd.C_alloc ?_ _ | refine Kd.C_drewN ?_ _ | refine Kd.C_drew ?_)); (case side2 => exact HC0.out); rintro e w23 ⟨v170, rfl, ho0, hb⟩; refine ⟨_, rfl, ?_⟩; have n0_ := Aside0.mk (Kd.S_lower ho0 (below_size (by repeat (first | (with_reducible first | exact HB.out | apply below_alloc | apply pw_below_drewN | apply below_drew1) | exact HB.out)))); have n1_ := Aside0.mk (below_step (by repeat (first | (with_reducible first | exact HB.out | apply below_alloc | apply pw_below_drewN | apply below_drew1) | exact HB.out)) hb); clear HB; have HO171 := n0_; have HB := n1_; clear n0_ n1_; (try clear hb); (try clear hb2); (try clear hk); (try clear hi); (try clear ho0)) | ((with_reducible refine gate_callee (f := 16) rfl ?_); refine goesL_ (some 20) rfl rfl Try.func16 (by kernel_rfl) rfl #[.slice A0 l0.length c0] rfl (by (try simp only [List.map_toArray, List.map_cons, List.map_nil]); first | done | rfl | (simp only [List.length_drop, List.length_take]; rfl)) ?_; (with_reducible refine (graph_Loops.calls k _ _ l0 t172 t173 _ ?side1 ?side2 A7.out).mono ?_); (case side1 => repeat (first | exact (Kd.C_below HR0.out HB.out) | with_reducible first | refine Kd.C_alloc ?_ _ | refine Kd.C_drewN ?_ _ | refine Kd.C_drew ?_)); (case side2 => exact HC0.out); rintro e w24 ⟨v174, rfl, ho0, hb⟩; refine ⟨_, rfl, ?_⟩; have n0_ := Aside0.mk (Kd.S_elder' (by (with_reducible repeat (first | apply Kd.S_alloc | apply Kd.S_drewN | apply Kd.S_drew)); exact HO171.out) (Kd.S_base ho0) hb); have n1_ := Aside0.mk (Kd.S_lower (Kd.S_new' ho0 (Kd.S_lt (by (with_reducible repeat (first | apply Kd.S_alloc | apply Kd.S_drewN | apply Kd.S_drew)); exact HO171.out))) (below_size (by repeat (first | (with_reducible first | exact HB.out | apply below_alloc | apply pw_below_drewN | apply below_drew1) | exact HB.out)))); have n2_ := Aside0.mk (below_step (by repeat (first | (with_reducible first | exact HB.out | apply below_alloc | apply pw_below_drewN | apply below_drew1) | exact HB.out)) hb); clear HO171; clear HB; have HO171 := n0_; have HO175 := n1_; have HB := n2_; clear n0_ n1_ n2_; (try clear hb); (try clear hb2); (try clear hk); (try clear hi); (try clear ho0)) | ((with_reducible refine gate_callee (f := 17) rfl ?_); refine goesL_ (some 25) rfl rfl Try.func17 (by kernel_rfl) rfl #[.slice A0 l0.length c0] rfl (by (try simp only [List.map_toArray, List.map_cons, List.map_nil]); first | done | rfl | (simp only [List.length_drop, List.length_take]; rfl)) ?_; (with_reducible refine (graph_Reducible.calls k _ _ l0 t176 t177 _ ?side1 ?side2 A8.out).mono ?_); (case side1 => repeat (first | exact (Kd.C_below HR0.out HB.out) | with_reducible first | refine Kd.C_alloc ?_ _ | refine Kd.C_drewN ?_ _ | refine Kd.C_drew ?_)); (case side2 => exact HC0.out); rintro e w25 ⟨rfl, hb⟩; refine ⟨_, rfl, ?_⟩; have n0_ := Aside0.mk (Kd.S_below (by (with_reducible repeat (first | apply Kd.S_alloc | apply Kd.S_drewN | apply Kd.S_drew)); exact HO171.out) hb); have n1_ := Aside0.mk (Kd.S_below (by (with_reducible repeat (first | apply Kd.S_alloc | apply Kd.S_drewN | apply Kd.S_drew)); exact HO175.out) hb); have n2_ := Aside0.mk (below_step (by repeat (first | (with_reducible first | exact HB.out | apply below_alloc | apply pw_below_drewN | apply below_drew1) | exact HB.out)) hb); clear HO171; clear HO175; clear HB; have HO171 := n0_; have HO175 := n1_; have HB := n2_; clear n0_ n1_ n2_; (try clear hb); (try clear hb2); (try clear hk); (try clear hi)) | ((with_reducible refine gate_callee (f := 18) rfl ?_); refine goesL_ (some 29) rfl rfl Try.func18 (by kernel_rfl) rfl #[.slice A0 l0.length c0] rfl (by (try simp only [List.map_toArray, List.map_cons, List.map_nil]); first | done | rfl | (simp only [List.length_drop, List.length_take]; rfl)) ?_; (with_reducible refine (l7_code.calls k _ _ l0 t178 _ ?side1 ?side2 A9.out).mono ?_); (case side1 => repeat (first | exact (Kd.C_below HR0.out HB.out) | with_reducible first | refine Kd.C_alloc ?_ _ | refine Kd.C_drewN ?_ _ | refine Kd.C_drew ?_)); (case side2 => exact HC0.out); rintro e w' ⟨rfl, ⟨nd, rfl⟩⟩; refine ⟨_, rfl, ?_⟩) | (go_at_call 20; (with_reducible refine (r7_Frontier.calls k _ _ l0 t180 _ ?side1 ?side2 A14.out).mono ?_); (case side1 => repeat (first | exact (Kd.C_below HR0.out (by repeat (first | (with_reducible first | exact HB.out | apply below_alloc | apply pw_below_drewN | apply below_drew1) | exact HB.out))) | with_reducible first | refine Kd.C_alloc ?_ _ | refine Kd.C_drewN ?_ _ | refine Kd.C_drew ?_)); (case side2 => exact HC0.out); rintro e w26 ⟨v181, rfl, ho0, hb⟩; have n0_ := Aside0.mk (Kd.S_elder' (by (with_reducible repeat (first | apply Kd.S_alloc | apply Kd.S_drewN | apply Kd.S_drew)); exact HO171.out) (Kd.S_base ho0) hb); have n1_ := Aside0.mk (Kd.S_elder' (by (with_reducible repeat (first | apply Kd.S_alloc | apply Kd.S_drewN | apply Kd.S_drew)); exact HO175.out) (Kd.S_base ho0) hb); have n2_ := Aside0.mk (Kd.S_lower (Kd.S_new' (Kd.S_new' ho0 (Kd.S_lt (by (with_reducible repeat (first | apply Kd.S_alloc | apply Kd.S_drewN | apply Kd.S_drew)); exact HO171.out))) (Kd.S_lt (by (with_reducible repeat (first | apply Kd.S_alloc | apply Kd.S_drewN | apply Kd.S_drew)); exact HO175.out))) (below_size (by repeat (first | (with_reducible first | exact HB.out | apply below_alloc | apply pw_below_drewN | apply below_drew1) | exact HB.out)))); have n3_ := Aside0.mk (below_step (by repeat (first | (with_reducible first | exact HB.out | apply below_alloc | apply pw_below_drewN | apply below_drew1) | exact HB.out)) hb); clear HO171; clear HO175; clear HB; have HO171 := n0_; have HO175 := n1_; have HO182 := n2_; have HB := n3_; clear n0_ n1_ n2_ n3_; (try clear hb); (try clear hb2); (try clear hk); (try clear hi); (try clear ho0); obtain ⟨Ao27, co27, eo27⟩ := Kd.S_slice HO171.out; subst eo27; obtain ⟨Ao28, co28, eo28⟩ := Kd.S_slice HO182.out; subst eo28) | (go_at_call 19; (with_reducible refine (r6_SameLists.calls k _ _ t168 _ _ t180 true _ ?side1 ?side2 ?side3 ?side4 A15.out).mono ?_); (case side1 => repeat (first | exact (Kd.S_reads' HO171.out).2.2 | with_reducible first | refine Kd.C_alloc ?_ _ | refine Kd.C_drewN ?_ _ | refine Kd.C_drew ?_)); (case side2 => exact (Kd.S_reads' HO171.out).2.1); (case side3 => repeat (first | exact (Kd.S_reads' HO182.out).2.2 | with_reducible first | refine Kd.C_alloc ?_ _ | refine Kd.C_drewN ?_ _ | refine Kd.C_drew ?_)); (case side4 => exact (Kd.S_reads' HO182.out).2.1); rintro e w' ⟨rfl, ⟨nd, rfl⟩⟩) | (go_at_call 21; (with_reducible refine (r7_Loops.calls k _ _ l0 t184 _ ?side1 ?side2 A17.out).mono ?_); (case side1 => repeat (first | exact (Kd.C_below HR0.out (by repeat (first | (with_reducible first | exact HB.out | apply below_alloc | apply pw_below_drewN | apply below_drew1) | exact HB.out))) | with_reducible first | refine Kd.C_alloc ?_ _ | refine Kd.C_drewN ?_ _ | refine Kd.C_drew ?_)); (case side2 => exact HC0.out); rintro e w29 ⟨v185, rfl, ho0, hb⟩; have n0_ := Aside0.mk (Kd.S_elder' (by (with_reducible repeat (first | apply Kd.S_alloc | apply Kd.S_drewN | apply Kd.S_drew)); exact HO171.out) (Kd.S_base ho0) hb); have n1_ := Aside0.mk (Kd.S_elder' (by (with_reducible repeat (first | apply Kd.S_alloc | apply Kd.S_drewN | apply Kd.S_drew)); exact HO175.out) (Kd.S_base ho0) hb); have n2_ := Aside0.mk (Kd.S_elder' (by (with_reducible repeat (first | apply Kd.S_alloc | apply Kd.S_drewN | apply Kd.S_drew)); exact HO182.out) (Kd.S_base ho0) hb); have n3_ := Aside0.mk (Kd.S_lower (Kd.S_new' (Kd.S_new' (Kd.S_new' ho0 (Kd.S_lt (by (with_reducible repeat (first | apply Kd.S_alloc | apply Kd.S_drewN | apply Kd.S_drew)); exact HO171.out))) (Kd.S_lt (by (with_reducible repeat (first | apply Kd.S_alloc | apply Kd.S_drewN | apply Kd.S_drew)); exact HO175.out))) (Kd.S_lt (by (with_reducible repeat (first | apply Kd.S_alloc | apply Kd.S_drewN | apply Kd.S_drew)); exact HO182.out))) (below_size (by repeat (first | (with_reducible first | exact HB.out | apply below_alloc | apply pw_below_drewN | apply below_drew1) | exact HB.out)))); have n4_ := Aside0.mk (below_step (by repeat (first | (with_reducible first | exact HB.out | apply below_alloc | apply pw_below_drewN | apply below_drew1) | exact HB.out)) hb); clear HO171; clear HO175; clear HO182; clear HB; have HO171 := n0_; have HO175 := n1_; have HO182 := n2_; have HO186 := n3_; have HB := n4_; clear n0_ n1_ n2_ n3_ n4_; (try clear hb); (try clear hb2); (try clear hk); (try clear hi); (try clear ho0); obtain ⟨Ao30, co30, eo30⟩ := Kd.S_slice HO175.out; subst eo30; obtain ⟨Ao31, co31, eo31⟩ := Kd.S_slice HO186.out; subst eo31) | (go_at_call 19; (with_reducible refine (r6_SameLists.calls k _ _ t172 _ _ t184 true _ ?side1 ?side2 ?side3 ?side4 A18.out).mono ?_); (case side1 => repeat (first | exact (Kd.S_reads' HO175.out).2.2 | with_reducible first | refine Kd.C_alloc ?_ _ | refine Kd.C_drewN ?_ _ | refine Kd.C_drew ?_)); (case side2 => exact (Kd.S_reads' HO175.out).2.1); (case side3 => repeat (first | exact (Kd.S_reads' HO186.out).2.2 | with_reducible first | refine Kd.C_alloc ?_ _ | refine Kd.C_drewN ?_ _ | refine Kd.C_drew ?_)); (case side4 => exact (Kd.S_reads' HO186.out).2.1); rintro e w' ⟨rfl, ⟨nd, rfl⟩⟩) | (go_at_call 22; (with_reducible refine (r7_Reducible.calls k _ _ l0 t188 _ ?side1 ?side2 A20.out).mono ?_); (case side1 => repeat (first | exact (Kd.C_below HR0.out (by repeat (first | (with_reducible first | exact HB.out | apply below_alloc | apply pw_below_drewN | apply below_drew1) | exact HB.out))) | with_reducible first | refine Kd.C_alloc ?_ _ | refine Kd.C_drewN ?_ _ | refine Kd.C_drew ?_)); (case side2 => exact HC0.out); rintro e w32 ⟨rfl, hb⟩; have n0_ := Aside0.mk (Kd.S_below (by (with_reducible repeat (first | apply Kd.S_alloc | apply Kd.S_drewN | apply Kd.S_drew)); exact HO171.out) hb); have n1_ := Aside0.mk (Kd.S_below (by (with_reducible repeat (first | apply Kd.S_alloc | apply Kd.S_drewN | apply Kd.S_drew)); exact HO175.out) hb); have n2_ := Aside0.mk (Kd.S_below (by (with_reducible repeat (first | apply Kd.S_alloc | apply Kd.S_drewN | apply Kd.S_drew)); exact HO182.out) hb); have n3_ := Aside0.mk (Kd.S_below (by (with_reducible repeat (first | apply Kd.S_alloc | apply Kd.S_drewN | apply Kd.S_drew)); exact HO186.out) hb); have n4_ := Aside0.mk (below_step (by repeat (first | (with_reducible first | exact HB.out | apply below_alloc | apply pw_below_drewN | apply below_drew1) | exact HB.out)) hb); clear HO171; clear HO175; clear HO182; clear HO186; clear HB; have HO171 := n0_; have HO175 := n1_; have HO182 := n2_; have HO186 := n3_; have HB := n4_; clear n0_ n1_ n2_ n3_ n4_; (try clear hb); (try clear hb2); (try clear hk); (try clear hi)) | (go_at_call 14; (with_reducible refine (l7_awake.calls k  t189 _ A22.out).mono ?_); rintro e w33 ⟨rfl, hb⟩; have n0_ := Aside0.mk (Kd.S_below (by (with_reducible repeat (first | apply Kd.S_alloc | apply Kd.S_drewN | apply Kd.S_drew)); exact HO171.out) hb); have n1_ := Aside0.mk (Kd.S_below (by (with_reducible repeat (first | apply Kd.S_alloc | apply Kd.S_drewN | apply Kd.S_drew)); exact HO175.out) hb); have n2_ := Aside0.mk (Kd.S_below (by (with_reducible repeat (first | apply Kd.S_alloc | apply Kd.S_drewN | apply Kd.S_drew)); exact HO182.out) hb); have n3_ := Aside0.mk (Kd.S_below (by (with_reducible repeat (first | apply Kd.S_alloc | apply Kd.S_drewN | apply Kd.S_drew)); exact HO186.out) hb); have n4_ := Aside0.mk (below_step (by repeat (first | (with_reducible first | exact HB.out | apply below_alloc | apply pw_below_drewN | apply below_drew1) | exact HB.out)) hb); clear HO171; clear HO175; clear HO182; clear HO186; clear HB; have HO171 := n0_; have HO175 := n1_; have HO182 := n2_; have HO186 := n3_; have HB := n4_; clear n0_ n1_ n2_ n3_ n4_; (try clear hb); (try clear hb2); (try clear hk); (try clear hi)))
         go_ret
         exact ⟨by first | rfl | (simp [errW_none, errW_some] <;> rfl) | (simp [*, errW_none, errW_some] <;> rfl), by repeat (first | (with_reducible first | exact HB.out | apply below_alloc | apply pw_below_drewN | apply below_drew1) | exact HB.out)⟩
        ·rw [if_neg c21] at H; have c21b0 : (t176 == t188) = false := by simpa using c21
         (try (have c21b1 : decide (t176 = t188) = false := by simpa using c21))
         (try (have c21b2 : (t176 == t188) = false := by simpa using c21))
         (try (have c21b3 : ¬ (t176 = t188) := by simpa using c21))
         clear c21; exact absurd (Option.some.inj H) (by rw [HRT.out]; decide)
       ·replace c19 := Bool.eq_false_iff.mpr c19; subst c19; have H1 : (some false) = some r := by rw [if_neg (show ¬ (false = true) by decide)] at H; exact H
        clear H; have H := H1; clear H1; exact absurd (Option.some.inj H) (by rw [HRT.out]; decide)
      ·replace c16 := Bool.eq_false_iff.mpr c16; subst c16; have H1 : (some false) = some r := by rw [if_neg (show ¬ (false = true) by decide)] at H; exact H
       clear H; have H := H1; clear H1; exact absurd (Option.some.inj H) (by rw [HRT.out]; decide)
     ·rw [if_neg c13] at H; have c13b0 : (t177 == 0) = false := beq_eq_false_iff_ne.mpr c13
      have c13b1 : (t177 != 0) = true := bne_iff_ne.mpr c13
      exact absurd (Option.some.inj H) (by rw [HRT.out]; decide)
    ·rw [if_neg c12] at H; have c12b0 : (t173 == 0) = false := beq_eq_false_iff_ne.mpr c12
     have c12b1 : (t173 != 0) = true := bne_iff_ne.mpr c12
     exact absurd (Option.some.inj H) (by rw [HRT.out]; decide)
   ·rw [if_neg c11] at H; have c11b0 : (t169 == 0) = false := beq_eq_false_iff_ne.mpr c11
    have c11b1 : (t169 != 0) = true := bne_iff_ne.mpr c11
    exact absurd (Option.some.inj H) (by rw [HRT.out]; decide)
  ·rw [if_neg c10] at H; have c10b0 : (t178 == 0) = false := beq_eq_false_iff_ne.mpr c10
   have c10b1 : (t178 != 0) = true := bne_iff_ne.mpr c10
   by_cases c68 : t169 = t178
   ·rw [if_pos c68] at H; have c68b0 : (t169 == t178) = true := beq_iff_eq.mpr c68
    have c68b1 : (t169 != t178) = false := bne_eq_false_iff_eq.mpr c68
    clear c68; by_cases c69 : t173 = t178
    ·rw [if_pos c69] at H; have c69b0 : (t173 == t178) = true := beq_iff_eq.mpr c69
     have c69b1 : (t173 != t178) = false := bne_eq_false_iff_eq.mpr c69
     clear c69; by_cases c70 : t177 = t178
     ·rw [if_pos c70] at H; have c70b0 : (t177 == t178) = true := beq_iff_eq.mpr c70
      have c70b1 : (t177 != t178) = false := bne_eq_false_iff_eq.mpr c70
      clear c70; by_cases c71 : (wrap64 ((t168.length : Int) + (t172.length : Int))) = 0
      ·rw [if_pos c71] at H; have c71b0 : ((wrap64 ((t168.length : Int) + (t172.length : Int))) == 0) = true := beq_iff_eq.mpr c71
       have c71b1 : ((wrap64 ((t168.length : Int) + (t172.length : Int))) != 0) = false := bne_eq_false_iff_eq.mpr c71
       clear c71; by_cases c72 : t176 = true
       ·subst c72; have H1 : (some false) = some r := by rw [if_pos rfl] at H; exact H
        clear H; have H := H1; clear H1; exact absurd (Option.some.inj H) (by rw [HRT.out]; decide)
       ·replace c72 := Bool.eq_false_iff.mpr c72; subst c72; have H1 : ((l7_awake.f k).bind fun t179 => (some t179)) = some r := by rw [if_neg (show ¬ (false = true) by decide)] at H; exact H
        clear H; have H := H1; clear H1; replace H := Option.bind_eq_some_iff.mp H; obtain ⟨t179, A780, H⟩ := H; replace H : (some t179) = some r := H; have A78 := Aside0.mk A780; clear A780; obtain rfl := Option.some.inj H; go_enter Try.func3, Try.ntmps3
        go_wp2_with (first | ((with_reducible refine gate_callee (f := 13) rfl ?_); refine goesL_ (some 11) rfl rfl Try.func13 (by kernel_rfl) rfl #[.slice A0 l0.length c0] rfl (by (try simp only [List.map_toArray, List.map_cons, List.map_nil]); first | done | rfl | (simp only [List.length_drop, List.length_take]; rfl)) ?_; (with_reducible refine (l7_wide.calls k _ _ l0 false _ ?side1 ?side2 A2.out).mono ?_); (case side1 => repeat (first | exact HR0.out | with_reducible first | refine Kd.C_alloc ?_ _ | refine Kd.C_drewN ?_ _ | refine Kd.C_drew ?_)); (case side2 => exact HC0.out); rintro e w' ⟨rfl, ⟨nd, rfl⟩⟩; refine ⟨_, rfl, ?_⟩) | ((with_reducible refine gate_callee (f := 15) rfl ?_); refine goesL_ (some 15) rfl rfl Try.func15 (by kernel_rfl) rfl #[.slice A0 l0.length c0] rfl (by (try simp only [List.map_toArray, List.map_cons, List.map_nil]); first | done | rfl | (simp only [List.length_drop, List.length_take]; rfl)) ?_; (with_reducible refine (graph_Frontier.calls k _ _ l0 t168 t169 _ ?side1 ?side2 A6.out).mono ?_); (case side1 => repeat (first | exact HR0.out | with_reducible first | refine Kd.C_alloc ?_ _ | refine Kd.C_drewN ?_ _ | refine Kd.C_drew ?_)); (case side2 => exact HC0.out); rintro e w79 ⟨v170, rfl, ho0, hb⟩; refine ⟨_, rfl, ?_⟩; have n0_ := Aside0.mk (Kd.S_lower ho0 (below_size (by repeat (first | (with_reducible first | exact HB.out | apply below_alloc | apply pw_below_drewN | apply below_drew1) | exact HB.out)))); have n1_ := Aside0.mk (below_step (by repeat (first | (with_reducible first | exact HB.out | apply below_alloc | apply pw_below_drewN | apply below_drew1) | exact HB.out)) hb); clear HB; have HO171 := n0_; have HB := n1_; clear n0_ n1_; (try clear hb); (try clear hb2); (try clear hk); (try clear hi); (try clear ho0)) | ((with_reducible refine gate_callee (f := 16) rfl ?_); refine goesL_ (some 20) rfl rfl Try.func16 (by kernel_rfl) rfl #[.slice A0 l0.length c0] rfl (by (try simp only [List.map_toArray, List.map_cons, List.map_nil]); first | done | rfl | (simp only [List.length_drop, List.length_take]; rfl)) ?_; (with_reducible refine (graph_Loops.calls k _ _ l0 t172 t173 _ ?side1 ?side2 A7.out).mono ?_); (case side1 => repeat (first | exact (Kd.C_below HR0.out HB.out) | with_reducible first | refine Kd.C_alloc ?_ _ | refine Kd.C_drewN ?_ _ | refine Kd.C_drew ?_)); (case side2 => exact HC0.out); rintro e w80 ⟨v174, rfl, ho0, hb⟩; refine ⟨_, rfl, ?_⟩; have n0_ := Aside0.mk (Kd.S_elder' (by (with_reducible repeat (first | apply Kd.S_alloc | apply Kd.S_drewN | apply Kd.S_drew)); exact HO171.out) (Kd.S_base ho0) hb); have n1_ := Aside0.mk (Kd.S_lower (Kd.S_new' ho0 (Kd.S_lt (by (with_reducible repeat (first | apply Kd.S_alloc | apply Kd.S_drewN | apply Kd.S_drew)); exact HO171.out))) (below_size (by repeat (first | (with_reducible first | exact HB.out | apply below_alloc | apply pw_below_drewN | apply below_drew1) | exact HB.out)))); have n2_ := Aside0.mk (below_step (by repeat (first | (with_reducible first | exact HB.out | apply below_alloc | apply pw_below_drewN | apply below_drew1) | exact HB.out)) hb); clear HO171; clear HB; have HO171 := n0_; have HO175 := n1_; have HB := n2_; clear n0_ n1_ n2_; (try clear hb); (try clear hb2); (try clear hk); (try clear hi); (try clear ho0)) | ((with_reducible refine gate_callee (f := 17) rfl ?_); refine goesL_ (some 25) rfl rfl Try.func17 (by kernel_rfl) rfl #[.slice A0 l0.length c0] rfl (by (try simp only [List.map_toArray, List.map_cons, List.map_nil]); first | done | rfl | (simp only [List.length_drop, List.length_take]; rfl)) ?_; (with_reducible refine (graph_Reducible.calls k _ _ l0 false t177 _ ?side1 ?side2 A8.out).mono ?_); (case side1 => repeat (first | exact (Kd.C_below HR0.out HB.out) | with_reducible first | refine Kd.C_alloc ?_ _ | refine Kd.C_drewN ?_ _ | refine Kd.C_drew ?_)); (case side2 => exact HC0.out); rintro e w81 ⟨rfl, hb⟩; refine ⟨_, rfl, ?_⟩; have n0_ := Aside0.mk (Kd.S_below (by (with_reducible repeat (first | apply Kd.S_alloc | apply Kd.S_drewN | apply Kd.S_drew)); exact HO171.out) hb); have n1_ := Aside0.mk (Kd.S_below (by (with_reducible repeat (first | apply Kd.S_alloc | apply Kd.S_drewN | apply Kd.S_drew)); exact HO175.out) hb); have n2_ := Aside0.mk (below_step (by repeat (first | (with_reducible first | exact HB.out | apply below_alloc | apply pw_below_drewN | apply below_drew1) | exact HB.out)) hb); clear HO171; clear HO175; clear HB; have HO171 := n0_; have HO175 := n1_; have HB := n2_; clear n0_ n1_ n2_; (try clear hb); (try clear hb2); (try clear hk); (try clear hi)) | ((with_reducible refine gate_callee (f := 18) rfl ?_); refine goesL_ (some 29) rfl rfl Try.func18 (by kernel_rfl) rfl #[.slice A0 l0.length c0] rfl (by (try simp only [List.map_toArray, List.map_cons, List.map_nil]); first | done | rfl | (simp only [List.length_drop, List.length_take]; rfl)) ?_; (with_reducible refine (l7_code.calls k _ _ l0 t178 _ ?side1 ?side2 A9.out).mono ?_); (case side1 => repeat (first | exact (Kd.C_below HR0.out HB.out) | with_reducible first | refine Kd.C_alloc ?_ _ | refine Kd.C_drewN ?_ _ | refine Kd.C_drew ?_)); (case side2 => exact HC0.out); rintro e w' ⟨rfl, ⟨nd, rfl⟩⟩; refine ⟨_, rfl, ?_⟩; obtain ⟨Ao82, co82, eo82⟩ := Kd.S_slice HO171.out; subst eo82; obtain ⟨Ao83, co83, eo83⟩ := Kd.S_slice HO175.out; subst eo83) | (go_at_call 14; (with_reducible refine (l7_awake.calls k  t179 _ A78.out).mono ?_); rintro e w84 ⟨rfl, hb⟩; have n0_ := Aside0.mk (Kd.S_below (by (with_reducible repeat (first | apply Kd.S_alloc | apply Kd.S_drewN | apply Kd.S_drew)); exact HO171.out) hb); have n1_ := Aside0.mk (Kd.S_below (by (with_reducible repeat (first | apply Kd.S_alloc | apply Kd.S_drewN | apply Kd.S_drew)); exact HO175.out) hb); have n2_ := Aside0.mk (below_step (by repeat (first | (with_reducible first | exact HB.out | apply below_alloc | apply pw_below_drewN | apply below_drew1) | exact HB.out)) hb); clear HO171; clear HO175; clear HB; have HO171 := n0_; have HO175 := n1_; have HB := n2_; clear n0_ n1_ n2_; (try clear hb); (try clear hb2); (try clear hk); (try clear hi)))
        go_ret
        exact ⟨by first | rfl | (simp [errW_none, errW_some] <;> rfl) | (simp [*, errW_none, errW_some] <;> rfl), by repeat (first | (with_reducible first | exact HB.out | apply below_alloc | apply pw_below_drewN | apply below_drew1) | exact HB.out)⟩
      ·rw [if_neg c71] at H; have c71b0 : ((wrap64 ((t168.length : Int) + (t172.length : Int))) == 0) = false := beq_eq_false_iff_ne.mpr c71
       have c71b1 : ((wrap64 ((t168.length : Int) + (t172.length : Int))) != 0) = true := bne_iff_ne.mpr c71
       exact absurd (Option.some.inj H) (by rw [HRT.out]; decide)
     ·rw [if_neg c70] at H; have c70b0 : (t177 == t178) = false := beq_eq_false_iff_ne.mpr c70
      have c70b1 : (t177 != t178) = true := bne_iff_ne.mpr c70
      exact absurd (Option.some.inj H) (by rw [HRT.out]; decide)
    ·rw [if_neg c69] at H; have c69b0 : (t173 == t178) = false := beq_eq_false_iff_ne.mpr c69
     have c69b1 : (t173 != t178) = true := bne_iff_ne.mpr c69
     exact absurd (Option.some.inj H) (by rw [HRT.out]; decide)
   ·rw [if_neg c68] at H; have c68b0 : (t169 == t178) = false := beq_eq_false_iff_ne.mpr c68
    have c68b1 : (t169 != t178) = true := bne_iff_ne.mpr c68
    exact absurd (Option.some.inj H) (by rw [HRT.out]; decide)
end Go.Proofs.Ytjjedbcgkljdeaa.L
end
section
namespace Go.Proofs.Ytjjedbcgkljdeaa.L
open Go.RowKit Go.Proofs.YtjjedbcgkljdeaaW.PrintWords Go.Proofs.YtjjedbcgkljdeaaW.PrintLast Go.Proofs.YtjjedbcgkljdeaaW.PrintMore Go.Proofs.Ytjjedbcgkljdeaa.D Go.Proofs.Ytjjedbcgkljdeaa.M
theorem rowsOf_rows (F : Int → Int → Prop) (n : Nat) (hn : n ≤ 100000) : ∀ r ∈ rowsOf F n, r.length ≤ 100000 := by
 intro r hr
 unfold rowsOf at hr
 obtain ⟨a, _, rfl⟩ := List.mem_map.1 hr; exact Nat.le_trans (rowTo_len _ _) hn
theorem Pure.GraphLoops (g : List (List Int)) (_hm : g.length ≤ maxLen) : ∃ k, l7_GraphLoops.f k g = some true := by
 refine Evt.get ?_
 unfold l7_GraphLoops.f
 refine Evt.bind (wide_ev g) ?_
 by_cases hw : wideB g = true
 ·exact Evt.pos hw (Evt.bind awake_ev (Evt.const true))
 refine Evt.neg hw ?_
 obtain ⟨hn, hr⟩ := wideB_false (Bool.eq_false_iff.2 hw); have hr' : ∀ r ∈ g, r.length ≤ 100000 := fun r h => Nat.le_trans (hr r h) (by omega)
 have hc := code_ev g (by omega) hr'
 by_cases hv : validB g = true
 ·obtain ⟨h1, hg, _⟩ := validB_true hv; rw [if_pos hv] at hc; obtain ⟨T, hTe, hT⟩ := turned_ev 4 (by omega) g hg (by omega) (by omega) hr
  obtain ⟨v, hv1, hv2⟩ := red_ev g hv h1 hg hn hr; obtain ⟨u, hu1, hu2⟩ := rred_ev g hg h1 hn hr; have e : v = u := by rw [Bool.eq_iff_iff, hv1, hu1]
  refine Evt.bind (front_ev g hv h1 hg hn hr) (Evt.bind (loops_ev g hv h1 hg hn hr T hTe hT) (Evt.bind hv2 (Evt.bind hc (Evt.pos rfl (Evt.pos rfl (Evt.pos rfl (Evt.pos rfl ?_)))))))
  refine Evt.bind (rfront_ev g hg h1 hn hr) (Evt.bind (sameLists_ev _ (by rw [rowsOf_len]; omega) (rowsOf_rows _ _ (by omega))) (Evt.pos rfl ?_))
  refine Evt.bind (rloops_ev g h1 hg hn hr T hT) (Evt.bind (sameLists_ev _ (by rw [rowsOf_len]; omega) (rowsOf_rows _ _ (by omega))) (Evt.pos rfl ?_))
  exact Evt.bind hu2 (Evt.pos (by rw [e]; simp) (Evt.bind awake_ev (Evt.const true)))
 ·rw [if_neg hv] at hc; have hve := valid_ev g (by omega) hr'
  rw [Bool.eq_false_iff.2 hv] at hve; refine Evt.bind (a := ([], 1)) ?_ (Evt.bind (a := ([], 1)) ?_ (Evt.bind (a := (false, 1)) ?_ (Evt.bind hc (Evt.neg (by decide) (Evt.pos rfl (Evt.pos rfl (Evt.pos rfl (Evt.pos (by simp [wrap64]) (Evt.neg (by simp) (Evt.bind awake_ev (Evt.const true)))))))))))
  ·unfold graph_Frontier.f
   exact Evt.bind hve (Evt.neg (by decide) (Evt.const _))
  ·unfold graph_Loops.f
   exact Evt.bind hve (Evt.neg (by decide) (Evt.const _))
  ·unfold graph_Reducible.f
   exact Evt.bind hve (Evt.neg (by decide) (Evt.const _))
end Go.Proofs.Ytjjedbcgkljdeaa.L
end
