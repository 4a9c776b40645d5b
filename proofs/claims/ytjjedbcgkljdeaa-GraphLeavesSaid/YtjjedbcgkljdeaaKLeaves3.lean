/- Texts of this claim, cut down to what its theorem uses and laid end to end (wip/shake.py). -/
import Derived.ArgAppend
import Derived.Below
import Derived.BigQuiet
import Derived.ChangeOld
import Derived.ChangeSlices
import Derived.Deep.AppendLies
import Derived.Deep.CutBlock
import Derived.Deep.DeepCutAuto
import Derived.Deep.Draws
import Derived.Deep.LoopGhost
import Derived.Deep.Matrix
import Derived.Deep.OwnRows
import Derived.Deep.QuietTactic
import Derived.Deep.RegionHeld3
import Derived.KernelRfl
import Derived.Laws.BitsLemmas
import Derived.Laws.BytesArg
import Derived.Laws.CopyOwn
import Derived.Laws.IdiomCopy
import Derived.Laws.MakeOwn
import Derived.Laws.OwnMore
import Derived.Laws.Rows
import Derived.Laws.Slices
import Derived.Laws.StructEq
import Derived.Lib.AppendStr
import Derived.Lib.ConvBytes
import Derived.LoopIn
import Derived.LoopNIn
import Derived.Maps.AppendAt
import Derived.OpenShut
import Derived.OrdersHeld
import Derived.OwnWalk
import Derived.OwnWalkIn
import Derived.ProofKit
import Derived.RangeFuncBound
import Derived.RangeFuncBox
import Derived.RangeFuncCalls
import Derived.RangeFuncFrom
import Derived.RangeFuncLeaves
import Derived.RangeFuncNested
import Derived.RowKit
import Derived.RowKit3
import Derived.Shelf.Abstract
import Derived.ShutString
import Derived.SizedLaws
import Derived.Tactics
import Derived.TacticsInMore
import Derived.Test.YtjjedbcgkljdeaaProg
import Derived.WalkKit
import Derived.WideLaws
import GoSem.ClaimData
import Derived.Test.YtjjedbcgkljdeaaKLeaves2
section
namespace Go.Proofs.Ytjjedbcgkljdeaa.M
open Go.RowKit Go.Proofs.YtjjedbcgkljdeaaW.PrintWords Go.Proofs.YtjjedbcgkljdeaaW.PrintLast Go.Proofs.YtjjedbcgkljdeaaW.PrintMore Go.Proofs.Ytjjedbcgkljdeaa.A
def uf (l : List Int) : Int → Int := fun x => if 0 ≤ x then rd l x else -1
theorem uf_pos {l : List Int} {x : Int} (h : 0 ≤ x) : uf l x = rd l x := if_pos h
theorem rd_set (l : List Int) (q d x : Int) (h0 : 0 ≤ q) (h1 : q < l.length) (hx : 0 ≤ x) : rd (l.set q.toNat d) x = if x = q then d else rd l x := by
 unfold rd
 simp only [List.getD_eq_getElem?_getD, List.getElem?_set]
 by_cases h : x = q
 ·subst h; rw [if_pos rfl, if_pos rfl, if_pos (by omega)]; rfl
 ·rw [if_neg (by omega), if_neg h]
theorem uf_set (l : List Int) (q d : Int) (h0 : 0 ≤ q) (h1 : q < l.length) : uf (l.set q.toNat d) = put (uf l) q d := by
 funext x
 unfold put uf
 by_cases hx : 0 ≤ x
 ·rw [if_pos hx, rd_set l q d x h0 h1 hx, if_pos hx]
 ·rw [if_neg hx, if_neg hx]; rw [if_neg (by rintro rfl; exact hx h0)]
theorem put_id (up : Int → Int) (q : Int) : put up q (up q) = up := by
 funext x
 unfold put
 split
 next h => rw [h]
 next => rfl
structure Lst (R : Int → Prop) (atL upL : List Int) (n : Nat) : Prop where
 la : atL.length = n
 lu : upL.length = n
 rng : ∀ x, R x → 0 ≤ x ∧ x < (n : Int)
 neg : ∀ x, 0 ≤ x → x < (n : Int) → ¬ R x → rd atL x < 0
 nonneg : ∀ x, R x → 0 ≤ rd atL x
section
variable {R : Int → Prop} {root : Int} {E dom : Int → Int → Prop} {atL upL : List Int} {n : Nat}
theorem isect (hl : Lst R atL upL n) (s : Sta R (uf atL) root E dom) (t : Tre R (uf atL) root (uf upL)) (x1 : Int) (x5 : List Int) (x11 : List (List Int)) (x12 : Bool) (x13 x14 : Int) (x73 : List Int) (x74 : Int) (j : Nat) (hj : j < 1000000000000) :
  ∀ (N : Nat) (d p : Int), Df R (uf upL) d → Df R (uf upL) p → (uf atL root - uf atL d).toNat + (uf atL root - uf atL p).toNat ≤ N →
  ∃ c, (Df R (uf upL) c ∧ Ch (uf upL) root d c ∧ Ch (uf upL) root p c ∧ ∀ e, Ch (uf upL) root d e → Ch (uf upL) root p e → Ch (uf upL) root c e) ∧
   ∀ r, Evt (fun k => Go.Proofs.Ytjjedbcgkljdeaa.B.graph_tree.l4 k x1 x5 atL upL x11 x12 x13 x14 c x73 x74 ((j + 1 : Nat) : Int)) r →
    Evt (fun k => Go.Proofs.Ytjjedbcgkljdeaa.B.graph_tree.l5 k x1 x5 atL upL x11 x12 x13 x14 d p x73 x74 (j : Int)) r ∧
    Evt (fun k => Go.Proofs.Ytjjedbcgkljdeaa.B.graph_tree.l6 k x1 x5 atL upL x11 x12 x13 x14 d p x73 x74 (j : Int)) r ∧
    Evt (fun k => Go.Proofs.Ytjjedbcgkljdeaa.B.graph_tree.l7 k x1 x5 atL upL x11 x12 x13 x14 d p x73 x74 (j : Int)) r
 | N, d, p, hd, hp, hN => by
  obtain ⟨hd0, hd1⟩ := hl.rng d hd.1; obtain ⟨hp0, hp1⟩ := hl.rng p hp.1; have hla := hl.la; have hlu := hl.lu; have ed := uf_pos (l := atL) hd0; have ep := uf_pos (l := atL) hp0; have ud := uf_pos (l := upL) hd0; have up_ := uf_pos (l := upL) hp0; have hmd := s.max d hd.1; have hmp := s.max p hp.1; by_cases e : d = p
  ·subst e; refine ⟨d, ⟨hd, Ch.refl _, Ch.refl _, fun _ h _ => h⟩, fun r h4 => ?_⟩
   have h5 : Evt (fun k => Go.Proofs.Ytjjedbcgkljdeaa.B.graph_tree.l5 k x1 x5 atL upL x11 x12 x13 x14 d d x73 x74 (j : Int)) r := by
    refine Evt.succ ?_
    simp only [Go.Proofs.Ytjjedbcgkljdeaa.B.graph_tree.l5, wrap_succ j (by omega)]
    exact Evt.pos (by first | rfl | trivial) h4
   have h7 : Evt (fun k => Go.Proofs.Ytjjedbcgkljdeaa.B.graph_tree.l7 k x1 x5 atL upL x11 x12 x13 x14 d d x73 x74 (j : Int)) r := by
    refine Evt.succ ?_
    simp only [Go.Proofs.Ytjjedbcgkljdeaa.B.graph_tree.l7]
    exact Evt.pos hd0 (Evt.pos (by omega) (Evt.pos hd0 (Evt.pos (by omega) (Evt.neg (by omega) h5))))
   refine ⟨h5, Evt.succ ?_, h7⟩
   simp only [Go.Proofs.Ytjjedbcgkljdeaa.B.graph_tree.l6]
   exact Evt.pos hd0 (Evt.pos (by omega) (Evt.pos hd0 (Evt.pos (by omega) (Evt.neg (by omega) h7))))
  ·have hne : uf atL d ≠ uf atL p := fun h => e (s.inj d p hd.1 hp.1 h)
   by_cases hlt : uf atL p < uf atL d
   ·have hpr : p ≠ root := fun h => by subst h; omega
    obtain ⟨h1, h2⟩ := t.inc p hp hpr; have h3 := s.max _ h2.1; obtain ⟨c, ⟨c1, c2, c3, c4⟩, hc⟩ := isect hl s t x1 x5 x11 x12 x13 x14 x73 x74 j hj (N - 1) d (uf upL p) hd h2 (by omega)
    refine ⟨c, ⟨c1, c2, Ch.up hpr c3, fun x hx hy => c4 x hx ?_⟩, fun r h4 => ?_⟩
    ·cases hy with
     | refl => have := t.le hd hx; omega
     | up _ h => exact h
    ·obtain ⟨_, i6, _⟩ := hc r h4; rw [up_] at i6; have h6 : Evt (fun k => Go.Proofs.Ytjjedbcgkljdeaa.B.graph_tree.l6 k x1 x5 atL upL x11 x12 x13 x14 d p x73 x74 (j : Int)) r := by
      refine Evt.succ ?_
      simp only [Go.Proofs.Ytjjedbcgkljdeaa.B.graph_tree.l6]
      exact Evt.pos hp0 (Evt.pos (by omega) (Evt.pos hd0 (Evt.pos (by omega) (Evt.pos (by omega) (Evt.pos (by omega) i6)))))
     have h5 : Evt (fun k => Go.Proofs.Ytjjedbcgkljdeaa.B.graph_tree.l5 k x1 x5 atL upL x11 x12 x13 x14 d p x73 x74 (j : Int)) r := by
      refine Evt.succ ?_
      simp only [Go.Proofs.Ytjjedbcgkljdeaa.B.graph_tree.l5]
      exact Evt.neg e h6
     refine ⟨h5, h6, Evt.succ ?_⟩
     simp only [Go.Proofs.Ytjjedbcgkljdeaa.B.graph_tree.l7]
     exact Evt.pos hd0 (Evt.pos (by omega) (Evt.pos hp0 (Evt.pos (by omega) (Evt.neg (by omega) h5))))
   ·have hdr : d ≠ root := fun h => by subst h; omega
    obtain ⟨h1, h2⟩ := t.inc d hd hdr; have h3 := s.max _ h2.1; obtain ⟨c, ⟨c1, c2, c3, c4⟩, hc⟩ := isect hl s t x1 x5 x11 x12 x13 x14 x73 x74 j hj (N - 1) (uf upL d) p h2 hp (by omega)
    refine ⟨c, ⟨c1, Ch.up hdr c2, c3, fun x hx hy => c4 x ?_ hy⟩, fun r h4 => ?_⟩
    ·cases hx with
     | refl => have := t.le hp hy; omega
     | up _ h => exact h
    ·obtain ⟨_, _, i7⟩ := hc r h4; rw [ud] at i7; have h7 : Evt (fun k => Go.Proofs.Ytjjedbcgkljdeaa.B.graph_tree.l7 k x1 x5 atL upL x11 x12 x13 x14 d p x73 x74 (j : Int)) r := by
      refine Evt.succ ?_
      simp only [Go.Proofs.Ytjjedbcgkljdeaa.B.graph_tree.l7]
      exact Evt.pos hd0 (Evt.pos (by omega) (Evt.pos hp0 (Evt.pos (by omega) (Evt.pos (by omega) (Evt.pos (by omega) i7)))))
     have h6 : Evt (fun k => Go.Proofs.Ytjjedbcgkljdeaa.B.graph_tree.l6 k x1 x5 atL upL x11 x12 x13 x14 d p x73 x74 (j : Int)) r := by
      refine Evt.succ ?_
      simp only [Go.Proofs.Ytjjedbcgkljdeaa.B.graph_tree.l6]
      exact Evt.pos hp0 (Evt.pos (by omega) (Evt.pos hd0 (Evt.pos (by omega) (Evt.neg (by omega) h7))))
     refine ⟨Evt.succ ?_, h6, h7⟩
     simp only [Go.Proofs.Ytjjedbcgkljdeaa.B.graph_tree.l5]
     exact Evt.neg e h6
  termination_by _ d p => (uf atL root - uf atL d).toNat + (uf atL root - uf atL p).toNat
  decreasing_by all_goals omega
def LI (R : Int → Prop) (root : Int) (upL : List Int) (l : List Int) (d : Int) : Prop :=
 (d = -1 ∧ ∀ p ∈ l, ¬ Df R (uf upL) p) ∨ (Df R (uf upL) d ∧ (∀ p ∈ l, Df R (uf upL) p → Ch (uf upL) root p d) ∧ ∀ e, (∀ p ∈ l, Df R (uf upL) p → Ch (uf upL) root p e) → Ch (uf upL) root d e)
theorem l4_run (hl : Lst R atL upL n) (s : Sta R (uf atL) root E dom) (t : Tre R (uf atL) root (uf upL)) (x1 : Int) (x5 : List Int) (x11 : List (List Int)) (x12 : Bool) (x13 x14 : Int) (row : List Int) (hrow : InR n row) (hlen : row.length < 1000000000000) :
  ∀ (m j : Nat) (d : Int), j + m = row.length → LI R root upL (row.take j) d → ∃ c, LI R root upL row c ∧
   ∀ r, Evt (fun k => if 0 ≤ x14 then (if x14 < (upL.length : Int) then (if (rd upL x14) = c then (Go.Proofs.Ytjjedbcgkljdeaa.B.graph_tree.l3 k x1 x5 atL upL x11 x12 (wrap64 (x13 - 1))) else (Go.Proofs.Ytjjedbcgkljdeaa.B.graph_tree.l3 k x1 x5 atL (upL.set (x14 : Int).toNat c) x11 true (wrap64 (x13 - 1)))) else none) else none) r →
    Evt (fun k => Go.Proofs.Ytjjedbcgkljdeaa.B.graph_tree.l4 k x1 x5 atL upL x11 x12 x13 x14 d row (row.length : Int) (j : Int)) r
 | 0, j, d, hj, hd => by
  refine ⟨d, by rwa [List.take_of_length_le (by omega)] at hd, fun r hr => Evt.succ ?_⟩
  simp only [Go.Proofs.Ytjjedbcgkljdeaa.B.graph_tree.l4]
  exact Evt.neg (by omega) hr
 | m + 1, j, d, hj, hd => by
  have hjl : j < row.length := by omega
  have hmem := List.getElem_mem hjl; have htake : row.take (j + 1) = row.take j ++ [row[j]] := List.take_succ_eq_append_getElem hjl
  have hrdp : rd row (j : Int) = row[j] := rd_nat _ _ hjl
  obtain ⟨hp0, hp1⟩ := hrow _ hmem; generalize row[j] = p at *
  have hla := hl.la; have hlu := hl.lu; have ep := uf_pos (l := atL) hp0; have up_ := uf_pos (l := upL) hp0; by_cases hpD : Df R (uf upL) p
  ·have hR := hl.nonneg p hpD.1; have hU : 0 ≤ rd upL p := by have := hpD.2; rwa [up_] at this
   -- d, p or p, p
   have core : ∀ d0, Df R (uf upL) d0 → (∀ x ∈ row.take j, Df R (uf upL) x → Ch (uf upL) root x d0 ∨ d0 = p) → (∀ e, (∀ x ∈ row.take (j + 1), Df R (uf upL) x → Ch (uf upL) root x e) → Ch (uf upL) root d0 e) → (d0 = p → ∀ x ∈ row.take j, ¬ Df R (uf upL) x ∨ Ch (uf upL) root x d0) →
     ∃ c, LI R root upL row c ∧ ∀ r, Evt (fun k => if 0 ≤ x14 then (if x14 < (upL.length : Int) then (if (rd upL x14) = c then (Go.Proofs.Ytjjedbcgkljdeaa.B.graph_tree.l3 k x1 x5 atL upL x11 x12 (wrap64 (x13 - 1))) else (Go.Proofs.Ytjjedbcgkljdeaa.B.graph_tree.l3 k x1 x5 atL (upL.set (x14 : Int).toNat c) x11 true (wrap64 (x13 - 1)))) else none) else none) r →
      Evt (fun k => Go.Proofs.Ytjjedbcgkljdeaa.B.graph_tree.l5 k x1 x5 atL upL x11 x12 x13 x14 d0 p row (row.length : Int) (j : Int)) r := by
    intro d0 hd0 h1 h2 h3
    obtain ⟨c, ⟨c1, c2, c3, c4⟩, hc⟩ := isect hl s t x1 x5 x11 x12 x13 x14 row (row.length : Int) j (by omega) _ d0 p hd0 hpD (Nat.le_refl _)
    have hLI : LI R root upL (row.take (j + 1)) c := by
     refine .inr ⟨c1, fun x hx hxD => ?_, fun e he => c4 e (h2 e he) (he p (by rw [htake]; simp) hpD)⟩
     rw [htake] at hx; rcases List.mem_append.1 hx with h | h
     ·rcases h1 x h hxD with h4 | h4
      ·exact h4.trans c2
      ·rcases h3 h4 x h with h5 | h5
       ·exact absurd hxD h5
       ·exact h5.trans c2
     ·obtain rfl := List.mem_singleton.1 h; exact c3
    obtain ⟨c', i1, i2⟩ := l4_run hl s t x1 x5 x11 x12 x13 x14 row hrow hlen m (j + 1) c (by omega) hLI
    exact ⟨c', i1, fun r hr => (hc r (i2 r hr)).1⟩
   rcases hd with ⟨rfl, hno⟩ | ⟨hdD, ha, hb⟩
   ·obtain ⟨c, c1, c2⟩ := core p hpD (fun x hx hxD => absurd hxD (hno x hx)) (fun e he => he p (by rw [htake]; simp) hpD) (fun _ x hx => .inl (hno x hx))
    refine ⟨c, c1, fun r hr => Evt.succ ?_⟩
    simp only [Go.Proofs.Ytjjedbcgkljdeaa.B.graph_tree.l4, hrdp]
    refine Evt.pos (by omega) (Evt.pos (by omega) (Evt.pos (by omega) (Evt.pos hp0 (Evt.pos (by omega) (Evt.neg (by omega) (Evt.pos (by omega) (Evt.succ ?_)))))))
    simp only [Go.Proofs.Ytjjedbcgkljdeaa.B.graph_tree.j5]
    refine Evt.neg (by simp; omega) (Evt.pos (by omega) (Evt.succ ?_))
    simp only [Go.Proofs.Ytjjedbcgkljdeaa.B.graph_tree.j6]
    exact c2 r hr
   ·obtain ⟨c, c1, c2⟩ := core d hdD (fun x hx hxD => .inl (ha x hx hxD)) (fun e he => hb e (fun x hx hxD => he x (by rw [htake]; simp [hx]) hxD)) (fun _ x hx => by
     by_cases hxD : Df R (uf upL) x
     ·exact .inr (ha x hx hxD)
     ·exact .inl hxD)
    have hd0 := (hl.rng d hdD.1).1; refine ⟨c, c1, fun r hr => Evt.succ ?_⟩
    simp only [Go.Proofs.Ytjjedbcgkljdeaa.B.graph_tree.l4, hrdp]
    refine Evt.pos (by omega) (Evt.pos (by omega) (Evt.pos (by omega) (Evt.pos hp0 (Evt.pos (by omega) (Evt.neg (by omega) (Evt.pos (by omega) (Evt.succ ?_)))))))
    simp only [Go.Proofs.Ytjjedbcgkljdeaa.B.graph_tree.j5]
    refine Evt.neg (by simp; omega) (Evt.neg (by omega) (Evt.succ ?_))
    simp only [Go.Proofs.Ytjjedbcgkljdeaa.B.graph_tree.j6]
    exact c2 r hr
  ·have hLI : LI R root upL (row.take (j + 1)) d := by
    have hsplit : ∀ x, x ∈ row.take (j + 1) → Df R (uf upL) x → x ∈ row.take j := fun x hx hxD => by
     rw [htake] at hx; rcases List.mem_append.1 hx with h | h
     ·exact h
     ·obtain rfl := List.mem_singleton.1 h; exact absurd hxD hpD
    rcases hd with ⟨rfl, hno⟩ | ⟨hdD, ha, hb⟩
    ·exact .inl ⟨rfl, fun x hx hxD => hno x (hsplit x hx hxD) hxD⟩
    ·exact .inr ⟨hdD, fun x hx hxD => ha x (hsplit x hx hxD) hxD, fun e he => hb e (fun x hx hxD => he x (by rw [htake]; simp [hx]) hxD)⟩
   obtain ⟨c, c1, c2⟩ := l4_run hl s t x1 x5 x11 x12 x13 x14 row hrow hlen m (j + 1) d (by omega) hLI
   refine ⟨c, c1, fun r hr => Evt.succ ?_⟩
   simp only [Go.Proofs.Ytjjedbcgkljdeaa.B.graph_tree.l4, hrdp]
   refine Evt.pos (by omega) (Evt.pos (by omega) (Evt.pos (by omega) (Evt.pos hp0 (Evt.pos (by omega) ?_))))
   have fin : ∀ b, b = true → Evt (fun k => Go.Proofs.Ytjjedbcgkljdeaa.B.graph_tree.j5 k x1 x5 atL upL x11 x12 x13 x14 d p row (row.length : Int) (j : Int) b) r := by
    intro b hb
    refine Evt.succ ?_
    simp only [Go.Proofs.Ytjjedbcgkljdeaa.B.graph_tree.j5, wrap_succ j (by omega)]
    exact Evt.pos hb (c2 r hr)
   by_cases ha : rd atL p < 0
   ·exact Evt.pos ha (fin true rfl)
   ·refine Evt.neg ha (Evt.pos (by omega) (fin _ ?_))
    have hRp : R p := by
     by_cases h : R p
     ·exact h
     ·exact absurd (hl.neg p hp0 hp1 h) ha
    have : ¬ 0 ≤ uf upL p := fun h => hpD ⟨hRp, h⟩
    rw [up_] at this; simp; omega
end
end Go.Proofs.Ytjjedbcgkljdeaa.M
end
section
namespace Go.Proofs.Ytjjedbcgkljdeaa.M
open Go.RowKit Go.Proofs.YtjjedbcgkljdeaaW.PrintWords Go.Proofs.YtjjedbcgkljdeaaW.PrintLast Go.Proofs.YtjjedbcgkljdeaaW.PrintMore Go.Proofs.Ytjjedbcgkljdeaa.A
def val (L : Nat) (at_ : Int → Int) (u : Int) : Nat := if u < 0 then L + 1 else ((L : Int) - at_ u).toNat
def Phi (P : List Int) (at_ up : Int → Int) : Nat := (P.map fun x => val P.length at_ (up x)).sum
theorem sum_le {l : List Int} {f g : Int → Nat} (h : ∀ x ∈ l, f x ≤ g x) : (l.map f).sum ≤ (l.map g).sum := by
 induction l with
 | nil => exact Nat.le_refl _
 | cons a l ih =>
  have h1 := h a (by simp)
  have h2 := ih (fun x hx => h x (by simp [hx]))
  simp only [List.map_cons, List.sum_cons]
  omega
theorem sum_lt {l : List Int} {f g : Int → Nat} (h : ∀ x ∈ l, f x ≤ g x) {a : Int} (ha : a ∈ l) (hlt : f a < g a) : (l.map f).sum < (l.map g).sum := by
 induction l with
 | nil => cases ha
 | cons b l ih =>
  have h1 := h b (by simp)
  have h2 : ∀ x ∈ l, f x ≤ g x := fun x hx => h x (by simp [hx])
  simp only [List.map_cons, List.sum_cons]
  rcases List.mem_cons.1 ha with rfl | ha
  ·have := sum_le h2; omega
  ·have := ih h2 ha; omega
structure Swp (R : Int → Prop) (root : Int) (E dom : Int → Int → Prop) (atL P : List Int) (T : List (List Int)) (n : Nat) : Prop where
 s : Sta R (uf atL) root E dom
 at_ : ∀ i (hi : i < P.length), rd atL P[i] = (i : Int)
 mem : ∀ x, x ∈ P ↔ R x
 last : ∃ P0, P = P0 ++ [root]
 len : P.length ≤ n
 nb : n ≤ 100000
 tl : T.length = n
 row : ∀ q, R q → InR n (rd_L1 T q) ∧ (rd_L1 T q).length < 1000000000000 ∧ ∀ p, E p q ↔ R p ∧ p ∈ rd_L1 T q
section
variable {R : Int → Prop} {root : Int} {E dom : Int → Int → Prop} {atL : List Int} {P : List Int} {T : List (List Int)} {n : Nat}
theorem l3_run (w : Swp R root E dom atL P T n) : ∀ (m : Nat) (upL : List Int) (fl : Bool), m + 1 ≤ P.length → Lst R atL upL n → Inv R (uf atL) root E dom (m : Int) (uf upL) → (∀ x, 0 ≤ x → x < (n : Int) → ¬ R x → rd upL x = -1) →
  ∃ upL' fl', Lst R atL upL' n ∧ Inv R (uf atL) root E dom 0 (uf upL') ∧ (∀ x, 0 ≤ x → x < (n : Int) → ¬ R x → rd upL' x = -1) ∧ Phi P (uf atL) (uf upL') ≤ Phi P (uf atL) (uf upL) ∧
   (fl' = false → fl = false ∧ upL' = upL ∧ ∀ i (hi : i < P.length), i < m → Nca R E (uf upL) root P[i] (uf upL P[i])) ∧ (fl = false → fl' = true → Phi P (uf atL) (uf upL') < Phi P (uf atL) (uf upL)) ∧
   ∀ r, Evt (fun k => Go.Proofs.Ytjjedbcgkljdeaa.B.graph_tree.l2 k root P atL upL' T fl') r → Evt (fun k => Go.Proofs.Ytjjedbcgkljdeaa.B.graph_tree.l3 k root P atL upL T fl ((m : Int) - 1)) r
 | 0, upL, fl, hm, hl, hv, hs => by
  refine ⟨upL, fl, hl, hv, hs, Nat.le_refl _, fun h => ⟨h, rfl, fun i _ hi => absurd hi (by omega)⟩, fun h1 h2 => (by rw [h1] at h2; cases h2), fun r hr => Evt.succ ?_⟩
  simp only [Go.Proofs.Ytjjedbcgkljdeaa.B.graph_tree.l3]
  exact Evt.neg (by omega) hr
 | m + 1, upL, fl, hm, hl, hv, hs => by
  have hmP : m < P.length := by omega
  have hq := (w.mem P[m]).1 (List.getElem_mem hmP); have hatq := w.at_ m hmP; have hrdP : rd P (m : Int) = P[m] := rd_nat _ _ hmP
  have hqr : P[m] ≠ root := by
   intro e
   obtain ⟨P0, hP0⟩ := w.last; have h1 := w.at_ (P.length - 1) (by omega)
   have h2 : P[P.length - 1]'(by omega) = root := by
    have : P.length - 1 = P0.length := by rw [hP0]; simp
    simp only [this]
    simp only [hP0, List.getElem_append_right (Nat.le_refl _), Nat.sub_self, List.getElem_cons_zero]
   rw [h2, ← e, hatq] at h1; omega
  obtain ⟨hrow, hrl, hE⟩ := w.row _ hq; obtain ⟨hq0, hq1⟩ := hl.rng _ hq; have hlu := hl.lu; have htl := w.tl; have hlen := w.len; have hnb := w.nb; generalize hPm : P[m] = q at *
  obtain ⟨c, hc, hc2⟩ := l4_run hl w.s hv.tre root P T fl (m : Int) q (rd_L1 T q) hrow hrl (rd_L1 T q).length 0 (-1) (by omega) (.inl ⟨rfl, fun p hp => by simp at hp⟩)
  have hatu : uf atL q = (m : Int) := by rw [uf_pos hq0]; exact hatq
  obtain ⟨p0, hp0, hp0a⟩ := w.s.fwd q hq hqr; have hp0D := hv.dfi p0 (w.s.src _ _ hp0) (by omega)
  have hN : Nca R E (uf upL) root q c := by
   rcases hc with ⟨_, hno⟩ | ⟨_, ha, hb⟩
   ·exact absurd hp0D (hno p0 ((hE p0).1 hp0).2)
   ·exact ⟨fun p hp hpD => ha p ((hE p).1 hp).2 hpD, fun e he => hb e (fun p hp hpD => he p ((hE p).2 ⟨hpD.1, hp⟩) hpD)⟩
  obtain ⟨hv', hc0, hcat, hcR, hmon⟩ := hv.step w.s hq hqr (by omega) hN
  have hv'' : Inv R (uf atL) root E dom (m : Int) (put (uf upL) q c) := by
   have : ((m + 1 : Nat) : Int) - 1 = (m : Int) := by omega
   rwa [this] at hv'
  have hw1 : wrap64 ((m : Int) - 1) = (m : Int) - 1 := wrap64_id (by omega) (by omega)
  have enter : ∀ r, Evt (fun k => Go.Proofs.Ytjjedbcgkljdeaa.B.graph_tree.l4 k root P atL upL T fl (m : Int) q (-1) (rd_L1 T q) ((rd_L1 T q).length : Int) 0) r →
    Evt (fun k => Go.Proofs.Ytjjedbcgkljdeaa.B.graph_tree.l3 k root P atL upL T fl (((m + 1 : Nat) : Int) - 1)) r := by
   intro r h
   refine Evt.succ ?_
   rw [show ((m + 1 : Nat) : Int) - 1 = (m : Int) by omega]
   simp only [Go.Proofs.Ytjjedbcgkljdeaa.B.graph_tree.l3, hrdP]
   exact Evt.pos (by omega) (Evt.pos (by omega) (Evt.pos (by omega) (Evt.pos hq0 (Evt.pos (by omega) h))))
  by_cases heq : rd upL q = c
  ·have hid : put (uf upL) q c = uf upL := by
    have : c = uf upL q := by rw [uf_pos hq0]; exact heq.symm
    rw [this]; exact put_id _ _
   rw [hid] at hv''
   obtain ⟨upL', fl', a1, a2, a3, a4, a5, a6, a7⟩ := l3_run w m upL fl (by omega) hl hv'' hs
   refine ⟨upL', fl', a1, a2, a3, a4, fun h => ?_, a6, fun r hr => enter r (hc2 r ?_)⟩
   ·obtain ⟨b1, b2, b3⟩ := a5 h; refine ⟨b1, b2, fun i hi him => ?_⟩
    by_cases e : i = m
    ·subst e; rw [hPm, uf_pos hq0, heq]; exact hN
    ·exact b3 i hi (by omega)
   ·rw [hw1]; exact Evt.pos hq0 (Evt.pos (by omega) (Evt.pos heq (a7 r hr)))
  ·have hset : uf (upL.set q.toNat c) = put (uf upL) q c := uf_set upL q c hq0 (by omega)
   have hl' : Lst R atL (upL.set q.toNat c) n := ⟨hl.la, by rw [List.length_set, hlu], hl.rng, hl.neg, hl.nonneg⟩
   rw [← hset] at hv''
   have hs' : ∀ x, 0 ≤ x → x < (n : Int) → ¬ R x → rd (upL.set q.toNat c) x = -1 := fun x hx0 hx1 hx => by
    rw [rd_set upL q c x hq0 (by omega) hx0, if_neg (fun e : x = q => hx (e ▸ hq))]
    exact hs x hx0 hx1 hx
   have hphi : Phi P (uf atL) (uf (upL.set q.toNat c)) < Phi P (uf atL) (uf upL) := by
    unfold Phi
    have hcase : val P.length (uf atL) c < val P.length (uf atL) (uf upL q) := by
     unfold val
     rw [if_neg (by omega)]
     have hcn := hl.nonneg c hcR; rw [← uf_pos (l := atL) hc0] at hcn; by_cases hun : uf upL q < 0
     ·rw [if_pos hun]; omega
     ·rw [if_neg hun]; have hne : c ≠ uf upL q := by rw [uf_pos hq0]; exact fun e => heq e.symm
      have h1 := hmon ⟨hq, by omega⟩ hne
      have h2 : uf atL c < (P.length : Int) := by
       obtain ⟨i, hi, hic⟩ := List.mem_iff_getElem.1 ((w.mem c).2 hcR); rw [uf_pos hc0, ← hic, w.at_ i hi]; omega
      omega
    refine sum_lt (fun x _ => ?_) ((w.mem q).2 hq) ?_
    ·rw [hset]; unfold put
     split
     next e => subst e; exact Nat.le_of_lt hcase
     next => exact Nat.le_refl _
    ·rw [hset, put_same]; exact hcase
   obtain ⟨upL', fl', a1, a2, a3, a4, a5, a6, a7⟩ := l3_run w m (upL.set q.toNat c) true (by omega) hl' hv'' hs'
   refine ⟨upL', fl', a1, a2, a3, by omega, fun h => absurd (a5 h).1 (by simp), fun _ _ => by omega, fun r hr => enter r (hc2 r ?_)⟩
   rw [hw1]; exact Evt.pos hq0 (Evt.pos (by omega) (Evt.neg heq (a7 r hr)))
theorem Inv.again (_w : Swp R root E dom atL P T n) {upL : List Int} (hl : Lst R atL upL n) (v : Inv R (uf atL) root E dom 0 (uf upL)) (M : Int) (_hM : 0 ≤ M) : Inv R (uf atL) root E dom M (uf upL) := by
 have hp : ∀ x, R x → 0 ≤ uf atL x := fun x hx => by rw [uf_pos (hl.rng x hx).1]; exact hl.nonneg x hx
 exact ⟨v.tre, v.q1, v.N, v.K, fun a p ha har hpa hpD hlt _ => v.J a p ha har hpa hpD hlt (.inl (hp a ha.1)), fun a ha _ => v.dfi a ha (hp a ha), .inl fun a ha => v.dfi a ha (hp a ha)⟩
structure Fix (R : Int → Prop) (at_ : Int → Int) (root : Int) (E dom : Int → Int → Prop) (up : Int → Int) : Prop where
 inv : Inv R at_ root E dom 0 up
 all : ∀ x, R x → Df R up x
 nca : ∀ x, R x → x ≠ root → Nca R E up root x (up x)
theorem l2_run (w : Swp R root E dom atL P T n) : ∀ (F : Nat) (upL : List Int), Phi P (uf atL) (uf upL) ≤ F → Lst R atL upL n → Inv R (uf atL) root E dom ((P.length - 1 : Nat) : Int) (uf upL) → (∀ x, 0 ≤ x → x < (n : Int) → ¬ R x → rd upL x = -1) →
  ∃ upL', Lst R atL upL' n ∧ Fix R (uf atL) root E dom (uf upL') ∧ (∀ x, 0 ≤ x → x < (n : Int) → ¬ R x → rd upL' x = -1) ∧ Evt (fun k => Go.Proofs.Ytjjedbcgkljdeaa.B.graph_tree.l2 k root P atL upL T true) (upL'.set root.toNat (-1))
 | F, upL, hF, hl, hv, hs => by
  have hP1 : 1 ≤ P.length := by obtain ⟨P0, h⟩ := w.last; rw [h]; simp
  have hlen := w.len; have hnb := w.nb; obtain ⟨hr0, hr1⟩ := hl.rng root w.s.rootR; obtain ⟨upL', fl', a1, a2, a3, a4, a5, a6, a7⟩ := l3_run w (P.length - 1) upL false (by omega) hl hv hs
  have hp : ∀ x, R x → 0 ≤ uf atL x := fun x hx => by rw [uf_pos (hl.rng x hx).1]; exact hl.nonneg x hx
  have enter : ∀ r, Evt (fun k => Go.Proofs.Ytjjedbcgkljdeaa.B.graph_tree.l2 k root P atL upL' T fl') r → Evt (fun k => Go.Proofs.Ytjjedbcgkljdeaa.B.graph_tree.l2 k root P atL upL T true) r := by
   intro r hr
   refine Evt.succ ?_
   simp only [Go.Proofs.Ytjjedbcgkljdeaa.B.graph_tree.l2]
   refine Evt.pos (by first | rfl | trivial) ?_
   rw [wrap64_id (by omega) (by omega), show (P.length : Int) - 2 = ((P.length - 1 : Nat) : Int) - 1 by omega]
   exact a7 r hr
  cases fl' with
  | false =>
   obtain ⟨_, rfl, b3⟩ := a5 rfl; refine ⟨upL', a1, ⟨a2, fun x hx => a2.dfi x hx (hp x hx), fun x hx hxr => ?_⟩, a3, enter _ (Evt.succ ?_)⟩
   ·obtain ⟨i, hi, rfl⟩ := List.mem_iff_getElem.1 ((w.mem x).2 hx); refine b3 i hi ?_
    rcases Nat.lt_or_ge i (P.length - 1) with h | h
    ·exact h
    ·exfalso
     apply hxr
     obtain ⟨P0, hP0⟩ := w.last; have e : i = P0.length := by rw [hP0] at hi h; simp at hi h; omega
     simp only [e]
     simp only [hP0, List.getElem_append_right (Nat.le_refl _), Nat.sub_self, List.getElem_cons_zero]
   ·simp only [Go.Proofs.Ytjjedbcgkljdeaa.B.graph_tree.l2]
    have := a1.lu
    exact Evt.neg (by simp) (Evt.pos hr0 (Evt.pos (by omega) (Evt.const _)))
  | true =>
   have hlt := a6 rfl rfl; obtain ⟨u, b1, b2, b3, b4⟩ := l2_run w (F - 1) upL' (by omega) a1 (a2.again w a1 _ (by omega)) a3
   exact ⟨u, b1, b2, b3, enter _ b4⟩
  termination_by _ upL => Phi P (uf atL) (uf upL)
  decreasing_by omega
end
end Go.Proofs.Ytjjedbcgkljdeaa.M
end
section
namespace Go.Proofs.Ytjjedbcgkljdeaa.M
open Go.RowKit Go.Proofs.YtjjedbcgkljdeaaW.PrintWords Go.Proofs.YtjjedbcgkljdeaaW.PrintLast Go.Proofs.YtjjedbcgkljdeaaW.PrintMore Go.Proofs.Ytjjedbcgkljdeaa.A
def Rg (g : List (List Int)) (root : Int) (x : Int) : Prop := Rch g (fun _ => false) [root] x
def Ed (g : List (List Int)) (root : Int) (p q : Int) : Prop := Rg g root p ∧ q ∈ rd_L1 g p
def Dom (g : List (List Int)) (root : Int) (x y : Int) : Prop := Rg g root y ∧ ¬ Rch g (fun n => n == x) [root] y
theorem nodup_inj {l : List Int} (h : l.Nodup) {i j : Nat} (hi : i < l.length) (hj : j < l.length) (e : l[i] = l[j]) : i = j := by
 rcases Nat.lt_trichotomy i j with h1 | h1 | h1
 ·exact absurd e (List.pairwise_iff_getElem.1 h i j hi hj h1)
 ·exact h1
 ·exact absurd e.symm (List.pairwise_iff_getElem.1 h j i hj hi h1)
theorem rd_replicate (n : Nat) (v x : Int) (h0 : 0 ≤ x) (h1 : x < (n : Int)) : rd (List.replicate n v) x = v := by
 unfold rd
 rw [List.getD_eq_getElem?_getD, List.getElem?_replicate, if_pos (by omega)]
 rfl
theorem replicate_of {l : List Int} {v : Int} {n : Nat} (hl : l.length = n) (h : ∀ x : Int, 0 ≤ x → x < (n : Int) → rd l x = v) : l = List.replicate n v := by
 apply List.ext_getElem (by simp [hl])
 intro i h1 h2
 have := h (i : Int) (by omega) (by omega)
 rw [rd_nat l i h1] at this; rw [this, List.getElem_replicate]
theorem l0_run (g : List (List Int)) (root : Int) (P : List Int) (n : Nat) (hn : n ≤ 100000) (r : List Int) (hr : Evt (fun k => Go.Proofs.Ytjjedbcgkljdeaa.B.graph_tree.l1 k g root P (List.replicate n (-1)) (List.replicate n (-1)) P (P.length : Int) 0) r) :
  ∀ (d i : Nat) (a u : List Int), i + d = n → a.length = n → u.length = n → (∀ x : Int, 0 ≤ x → x < (i : Int) → rd a x = -1 ∧ rd u x = -1) → Evt (fun k => Go.Proofs.Ytjjedbcgkljdeaa.B.graph_tree.l0 k g root P a u (n : Int) (i : Int)) r
 | 0, i, a, u, hd, ha, hu, h => by
  obtain rfl : i = n := by omega
  refine Evt.succ ?_
  simp only [Go.Proofs.Ytjjedbcgkljdeaa.B.graph_tree.l0]
  refine Evt.neg (by omega) ?_
  rw [replicate_of ha (fun x h0 h1 => (h x h0 h1).1), replicate_of hu (fun x h0 h1 => (h x h0 h1).2)]
  exact hr
 | d + 1, i, a, u, hd, ha, hu, h => by
  refine Evt.succ ?_
  simp only [Go.Proofs.Ytjjedbcgkljdeaa.B.graph_tree.l0, wrap_succ i (by omega)]
  refine Evt.pos (by omega) (Evt.pos (by omega) (Evt.pos (by omega) (Evt.pos (by omega) ?_)))
  refine l0_run g root P n hn r hr d (i + 1) _ _ (by omega) (by simp [ha]) (by simp [hu]) fun x h0 h1 => ?_
  rw [rd_set a (i : Int) (-1) x (by omega) (by omega) h0, rd_set u (i : Int) (-1) x (by omega) (by omega) h0]
  by_cases e : x = (i : Int)
  ·rw [if_pos e, if_pos e]; exact ⟨rfl, rfl⟩
  ·rw [if_neg e, if_neg e]; exact h x h0 (by omega)
theorem l1_run (g : List (List Int)) (root : Int) (P u : List Int) (n : Nat) (hn : n ≤ 100000) (hP : InR n P) (hnd : P.Nodup) (hlen : P.length ≤ n) :
  ∀ (d j : Nat) (a : List Int), j + d = P.length → a.length = n → (∀ i (hi : i < P.length), i < j → rd a P[i] = (i : Int)) → (∀ x : Int, 0 ≤ x → x < (n : Int) → x ∉ P → rd a x = -1) →
   ∃ a', a'.length = n ∧ (∀ i (hi : i < P.length), rd a' P[i] = (i : Int)) ∧ (∀ x : Int, 0 ≤ x → x < (n : Int) → x ∉ P → rd a' x = -1) ∧
    ∀ r, Evt (fun k => if 0 ≤ root then (if root < (u.length : Int) then ((graph_turned.f k g).bind fun t => Go.Proofs.Ytjjedbcgkljdeaa.B.graph_tree.l2 k root P a' (u.set (root : Int).toNat root) t true) else none) else none) r → Evt (fun k => Go.Proofs.Ytjjedbcgkljdeaa.B.graph_tree.l1 k g root P a u P (P.length : Int) (j : Int)) r
 | 0, j, a, hd, ha, h1, h2 => by
  refine ⟨a, ha, fun i hi => h1 i hi (by omega), h2, fun r hr => Evt.succ ?_⟩
  simp only [Go.Proofs.Ytjjedbcgkljdeaa.B.graph_tree.l1]
  exact Evt.neg (by omega) hr
 | d + 1, j, a, hd, ha, h1, h2 => by
  have hj : j < P.length := by omega
  have hm := List.getElem_mem hj; obtain ⟨hq0, hq1⟩ := hP _ hm; obtain ⟨a', b1, b2, b3, b4⟩ := l1_run g root P u n hn hP hnd hlen d (j + 1) (a.set (P[j]).toNat (j : Int)) (by omega) (by simp [ha])
   (fun i hi hij => by
    rw [rd_set a P[j] (j : Int) P[i] hq0 (by omega) (hP _ (List.getElem_mem hi)).1]
    by_cases e : P[i] = P[j]
    ·rw [if_pos e]; have := nodup_inj hnd hi hj e
     omega
    ·rw [if_neg e]; refine h1 i hi ?_
     rcases Nat.lt_or_ge i j with h | h
     ·exact h
     ·exfalso
      apply e
      have : i = j := by omega
      subst this; rfl)
   (fun x h0 hx1 hx => by
    rw [rd_set a P[j] (j : Int) x hq0 (by omega) h0, if_neg (fun e : x = P[j] => hx (e ▸ hm))]
    exact h2 x h0 hx1 hx)
  refine ⟨a', b1, b2, b3, fun r hr => Evt.succ ?_⟩
  simp only [Go.Proofs.Ytjjedbcgkljdeaa.B.graph_tree.l1, rd_nat P j hj, wrap_succ j (by omega)]
  exact Evt.pos (by omega) (Evt.pos (by omega) (Evt.pos (by omega) (Evt.pos hq0 (Evt.pos (by omega) (b4 r hr)))))
structure TreeOf (g : List (List Int)) (root : Int) (up : List Int) : Prop where
 len : up.length = g.length
 ch : ∀ n x, Rg g root n → (Ch (uf up) root n x ↔ Dom g root x n)
 dfd : ∀ n, Rg g root n → 0 ≤ rd up n
 up_lt : ∀ n, Rg g root n → n ≠ root → Rg g root (rd up n) ∧ rd up n ≠ n
 no : ∀ x : Int, 0 ≤ x → x < (g.length : Int) → ¬ Rg g root x → rd up x = -1
 lvl : ∃ f : Int → Nat, ∀ n, Rg g root n → n ≠ root → f (rd up n) < f n
theorem tree_ev (B : Nat) (hB : B ≤ 100000) (g : List (List Int)) (root : Int) (hg : Gr g) (h0 : 0 ≤ root) (h1 : root < (g.length : Int)) (hn : g.length ≤ 100000) (hBn : B * g.length ≤ 10000000000) (hr : ∀ r ∈ g, r.length ≤ B) :
  ∃ up, Evt (fun k => Go.Proofs.Ytjjedbcgkljdeaa.B.graph_tree.f k g root) (up.set root.toNat (-1)) ∧ TreeOf g root up := by
 obtain ⟨P, hPe, hPl, hPo, _⟩ := order_spec g root hg h0 h1 hn (fun r h => Nat.le_trans (hr r h) hB)
 obtain ⟨T, hTe, hT⟩ := turned_ev B hB g hg hn hBn hr; have hin : InR g.length [root] := fun x hx => by obtain rfl := List.mem_singleton.1 hx; exact ⟨h0, h1⟩
 have hrng : ∀ x, Rg g root x → 0 ≤ x ∧ x < (g.length : Int) := fun x h => h.range hg hin
 have hPR : InR g.length P := fun x hx => hrng x ((hPo.mem x).1 hx)
 have hrootR : Rg g root root := Rch.base (by simp) rfl
 obtain ⟨a, ha, ha1, ha2, ha3⟩ := l1_run g root P (List.replicate g.length (-1)) g.length hn hPR hPo.nodup hPl P.length 0 (List.replicate g.length (-1)) (by omega) (by simp) (fun i _ hi => absurd hi (by omega)) (fun x hx0 hx1 _ => rd_replicate _ _ x hx0 hx1)
 have hP1 : 1 ≤ P.length := by obtain ⟨P0, h⟩ := hPo.last; rw [h]; simp
 have hlastP : P[P.length - 1]'(by omega) = root := by
  obtain ⟨P0, hP0⟩ := hPo.last; have : P.length - 1 = P0.length := by rw [hP0]; simp
  simp only [this]
  simp only [hP0, List.getElem_append_right (Nat.le_refl _), Nat.sub_self, List.getElem_cons_zero]
 have hat : ∀ i (hi : i < P.length), uf a P[i] = (i : Int) := fun i hi => by rw [uf_pos (hPR _ (List.getElem_mem hi)).1]; exact ha1 i hi
 have hatr : uf a root = ((P.length - 1 : Nat) : Int) := by
  have := hat (P.length - 1) (by omega)
  rwa [hlastP] at this
 have hS : Sta (Rg g root) (uf a) root (Ed g root) (Dom g root) := by
  refine ⟨fun x y hx hy e => ?_, hrootR, fun x hx => (hrng x hx).1, fun x hx => ?_, fun p q h => h.1, fun x hx hne => ?_, fun x p q hd hne he => ⟨he.1, fun hc => hd.2 (Rch.step hc he.2 (by simpa using (Ne.symm hne)))⟩, fun x hd => ?_⟩
  ·obtain ⟨i, hi, rfl⟩ := List.mem_iff_getElem.1 ((hPo.mem x).2 hx); obtain ⟨j, hj, rfl⟩ := List.mem_iff_getElem.1 ((hPo.mem y).2 hy); rw [hat i hi, hat j hj] at e; have : i = j := by omega
   subst this; rfl
  ·obtain ⟨i, hi, rfl⟩ := List.mem_iff_getElem.1 ((hPo.mem x).2 hx); rw [hat i hi, hatr]; omega
  ·obtain ⟨i, hi, rfl⟩ := List.mem_iff_getElem.1 ((hPo.mem x).2 hx); obtain ⟨j, hj, h2, h3⟩ := hPo.fwd i hi hne; exact ⟨P[j], ⟨(hPo.mem _).1 (List.getElem_mem hj), h3⟩, by rw [hat i hi, hat j hj]; omega⟩
  ·by_cases e : x = root
   ·exact e
   ·exact absurd (Rch.base (by simp) (by simpa using Ne.symm e)) hd.2
 have hW : Swp (Rg g root) root (Ed g root) (Dom g root) a P T g.length := by
  refine ⟨hS, ha1, hPo.mem, hPo.last, hPl, hn, hT.len, fun q hq => ⟨fun p hp => ?_, by have := hT.rows q; omega, fun p => ?_⟩⟩
  ·have := (hT.mem q (hrng q hq).1 (hrng q hq).2 p).1 hp
   exact ⟨this.1, this.2.1⟩
  ·rw [hT.mem q (hrng q hq).1 (hrng q hq).2 p]; exact ⟨fun h => ⟨h.1, (hrng p h.1).1, (hrng p h.1).2, h.2⟩, fun h => ⟨h.1, h.2.2.2⟩⟩
 have hlr : (List.replicate g.length (-1 : Int)).length = g.length := by simp
 have hu0 : uf ((List.replicate g.length (-1)).set root.toNat root) = put (uf (List.replicate g.length (-1))) root root := uf_set _ root root h0 (by rw [hlr]; exact h1)
 have hup : ∀ x, x ≠ root → uf ((List.replicate g.length (-1)).set root.toNat root) x < 0 ∨ ¬ Rg g root x := fun x hx => by
  rw [hu0, put_other hx]; by_cases hR : Rg g root x
  ·left
   rw [uf_pos (hrng x hR).1, rd_replicate _ _ x (hrng x hR).1 (hrng x hR).2]; omega
  ·exact .inr hR
 have hDf : ∀ x, Df (Rg g root) (uf ((List.replicate g.length (-1)).set root.toNat root)) x → x = root := fun x hx => by
  by_cases e : x = root
  ·exact e
  ·rcases hup x e with h | h
   ·have := hx.2; omega
   ·exact absurd hx.1 h
 have hrr : uf ((List.replicate g.length (-1)).set root.toNat root) root = root := by rw [hu0, put_same]
 have hL : Lst (Rg g root) a ((List.replicate g.length (-1)).set root.toNat root) g.length := by
  refine ⟨ha, by simp, hrng, fun x hx0 hx1 hx => ?_, fun x hx => ?_⟩
  ·rw [ha2 x hx0 hx1 (fun h => hx ((hPo.mem x).1 h))]; omega
  ·obtain ⟨i, hi, rfl⟩ := List.mem_iff_getElem.1 ((hPo.mem x).2 hx); rw [ha1 i hi]; omega
 have hI : Inv (Rg g root) (uf a) root (Ed g root) (Dom g root) ((P.length - 1 : Nat) : Int) (uf ((List.replicate g.length (-1)).set root.toNat root)) := by
  refine ⟨⟨hrr, fun x hx hne => absurd (hDf x hx) hne⟩, fun x hx hne => absurd (hDf x hx) hne, fun x hx hne => absurd (hDf x hx) hne, fun x _ hx hne => absurd (hDf x hx) hne, fun x _ hx hne => absurd (hDf x hx) hne, fun x hx hle => ?_, .inr fun x hx => ?_⟩
  ·have hm := hS.max x hx; have e : x = root := hS.inj x root hx hrootR (by omega)
   subst e; exact ⟨hrootR, by rw [hrr]; exact h0⟩
  ·rw [hDf x hx, hatr]; exact Int.le_refl _
 obtain ⟨up, b1, b2, b3, b4⟩ := l2_run hW _ _ (Nat.le_refl _) hL hI (fun x hx0 hx1 hx => by
  rw [rd_set _ root root x h0 (by rw [hlr]; exact h1) hx0, if_neg (fun e : x = root => hx (e ▸ hrootR)), rd_replicate _ _ x hx0 hx1])
 refine ⟨up, ?_, b1.lu, fun m x hm => ⟨fun hc => ⟨hm, fun hav => ?_⟩, fun hd => b2.inv.dom_ch hS _ m x (Nat.le_refl _) (b2.all m hm) hd⟩, fun m hm => ?_, fun m hm hne => ?_, b3, fun x => (uf a root - uf a x).toNat, fun m hm hne => ?_⟩
 ·unfold Go.Proofs.Ytjjedbcgkljdeaa.B.graph_tree.f
  refine Evt.bind hPe (Evt.pos (by omega) (Evt.pos (by omega) ?_))
  simp only [Option.bind_some, Int.toNat_natCast, List.length_replicate]
  refine l0_run g root P g.length hn _ ?_ g.length 0 _ _ (by omega) (by simp) (by simp) (fun x hx0 hx1 => absurd hx1 (by omega))
  refine ha3 _ ?_
  rw [hlr]; exact Evt.pos h0 (Evt.pos h1 (Evt.bind hTe b4))
 ·-- the way up avoids what a path avoids
  have key : ∀ y, Rch g (fun n => n == x) [root] y → Rg g root y ∧ ¬ Ch (uf up) root y x := by
   intro y hy
   induction hy with
   | base h h2 =>
    obtain rfl := List.mem_singleton.1 h; refine ⟨hrootR, fun hc => ?_⟩
    have := hc.root_eq
    simp [this] at h2
   | @step p y _ hpy h2 ih =>
    have hyR : Rg g root y := Rch.step ih.1 hpy rfl
    refine ⟨hyR, fun hc => ?_⟩
    cases hc with
    | refl => simp at h2
    | up hne hc2 =>
     have hnc := b2.nca y hyR hne; exact ih.2 ((hnc.above p ⟨ih.1, hpy⟩ (b2.all p ih.1)).trans hc2)
  exact (key m hav).2 hc
 ·have := (b2.all m hm).2
  rwa [uf_pos (hrng m hm).1] at this
 ·obtain ⟨c1, c2⟩ := b2.inv.tre.inc m (b2.all m hm) hne; rw [uf_pos (l := up) (hrng m hm).1] at c1 c2
  exact ⟨c2.1, fun e => by rw [e] at c1; omega⟩
 ·obtain ⟨c1, c2⟩ := b2.inv.tre.inc m (b2.all m hm) hne; have h3 := hS.max _ c2.1; rw [uf_pos (l := up) (hrng m hm).1] at c1 h3
  show (uf a root - uf a (rd up m)).toNat < (uf a root - uf a m).toNat
  omega
end Go.Proofs.Ytjjedbcgkljdeaa.M
end
section
namespace Go.Proofs.Ytjjedbcgkljdeaa.M
open Go.RowKit Go.Proofs.YtjjedbcgkljdeaaW.PrintWords Go.Proofs.YtjjedbcgkljdeaaW.PrintLast Go.Proofs.YtjjedbcgkljdeaaW.PrintMore Go.Proofs.Ytjjedbcgkljdeaa.A
theorem validB_true {g : List (List Int)} (h : validB g = true) : 1 ≤ g.length ∧ Gr g ∧ ∀ r ∈ g, r.length ≤ 2 := by
 unfold validB rowB inB at h
 simp only [Bool.and_eq_true, decide_eq_true_eq, List.all_eq_true] at h
 exact ⟨h.1, fun r hr x hx => (h.2.2 r hr).2 x hx, fun r hr => (h.2.2 r hr).1⟩
theorem Rch.congr {g g' : List (List Int)} {P P' : Int → Bool} {l : List Int} (hg : ∀ a x, 0 ≤ a → a < (g.length : Int) → x ∈ rd_L1 g a → x ∈ rd_L1 g' a) (hr : ∀ x, Rch g P l x → 0 ≤ x ∧ x < (g.length : Int)) (hP : ∀ x : Int, 0 ≤ x → P x = false → P' x = false) {x : Int} (h : Rch g P l x) : Rch g' P' l x := by
 induction h with
 | base h1 h2 => exact Rch.base h1 (hP _ (hr _ (Rch.base h1 h2)).1 h2)
 | step h1 h2 h3 ih => exact Rch.step ih (hg _ _ (hr _ h1).1 (hr _ h1).2 h2) (hP _ (hr _ (Rch.step h1 h2 h3)).1 h3)
theorem exits_inR (g : List (List Int)) : InR g.length (exitsL g 0) := by
 intro x hx
 unfold exitsL at hx
 rw [List.drop_zero, List.mem_filterMap] at hx; obtain ⟨a, ha, h2⟩ := hx; have := List.mem_range.1 ha
 split at h2
 ·obtain rfl := Option.some.inj h2; omega
 ·cases h2
theorem exits_len (g : List (List Int)) : (exitsL g 0).length ≤ g.length := by
 unfold exitsL
 refine Nat.le_trans (List.length_filterMap_le _ _) ?_
 simp
theorem ending_ev (g : List (List Int)) (hg : Gr g) (hn : g.length ≤ 40) (hr : ∀ r ∈ g, r.length ≤ 4) :
  ∃ t r, Evt (fun k => graph_turned.f k g) t ∧ Evt (fun k => graph_fromOpen.f k t (exitsL g 0)) r ∧ Evt (fun k => r7_Ending.f k g) r ∧ r.length = g.length ∧ TurnedOf 4 g t ∧ ∀ x : Int, 0 ≤ x → (rdOf false r x = true ↔ Rch t (fun _ => false) (exitsL g 0) x) := by
 obtain ⟨t, ht, ht1⟩ := turned_ev 4 (by omega) g hg (by omega) (by omega) hr
 obtain ⟨u, hu, hu1⟩ := rturned_ev 4 (by omega) g hg (by omega) (by omega) hr
 have hlt := ht1.len; have hlu := hu1.len; have hie := exits_inR g; obtain ⟨a, ha, ha1, ha2⟩ := fromF_ev (fun _ => false) t (exitsL g 0) ht1.gr (by rw [hlt]; exact hie) (by omega)
 obtain ⟨b, hb, hb1, hb2⟩ := refFrom_ev u (exitsL g 0) (-1) hu1.gr (by rw [hlu]; exact hie) (by omega) (fun x => by have := hu1.rows x; omega) (by have := exits_len g; omega)
 have e : a = b := by
  refine ext_bool (by omega) fun x hx hxl => ?_
  rw [ha2 x hx, hb2 x hx]; constructor
  ·refine Rch.congr (fun c y hc0 hc1 hy => ?_) (fun y hy => hy.range ht1.gr (by rw [hlt]; exact hie)) (fun y hy _ => by simp; omega)
   rw [hlt] at hc1; exact (hu1.mem c hc0 hc1 y).2 ((ht1.mem c hc0 hc1 y).1 hy)
  ·refine Rch.congr (fun c y hc0 hc1 hy => ?_) (fun y hy => hy.range hu1.gr (by rw [hlu]; exact hie)) (fun y hy _ => rfl)
   rw [hlu] at hc1; exact (ht1.mem c hc0 hc1 y).2 ((hu1.mem c hc0 hc1 y).1 hy)
 refine ⟨t, a, ht, ha, ?_, by omega, ht1, ha2⟩
 unfold r7_Ending.f
 rw [e]; exact Evt.bind hu (Evt.bind (rexits_ev g (by omega)) (Evt.bind hb (Evt.const b)))
end Go.Proofs.Ytjjedbcgkljdeaa.M
end
section
namespace Go.Proofs.Ytjjedbcgkljdeaa.M
open Go.RowKit Go.Proofs.YtjjedbcgkljdeaaW.PrintWords Go.Proofs.YtjjedbcgkljdeaaW.PrintLast Go.Proofs.YtjjedbcgkljdeaaW.PrintMore Go.Proofs.Ytjjedbcgkljdeaa.A
def Db (t : List (List Bool)) (a b : Int) : Bool := rdOf false (rd_L3 t a) b
structure TabOf (t : List (List Bool)) (n : Nat) (D : Int → Int → Prop) : Prop where
 len : t.length = n
 row : ∀ a : Int, 0 ≤ a → a < (n : Int) → (rd_L3 t a).length = n
 iff : ∀ a b : Int, 0 ≤ a → a < (n : Int) → 0 ≤ b → b < (n : Int) → (Db t a b = true ↔ D a b)
theorem rd_L3_append (t : List (List Bool)) (r : List Bool) (a : Int) (h0 : 0 ≤ a) : rd_L3 (t ++ [r]) a = if a < (t.length : Int) then rd_L3 t a else if a = (t.length : Int) then r else [] := by
 unfold rd_L3
 simp only [List.getD_eq_getElem?_getD]
 by_cases h : a < (t.length : Int)
 ·rw [if_pos h, List.getElem?_append_left (by omega)]
 ·rw [if_neg h, List.getElem?_append_right (by omega)]
  by_cases e : a = (t.length : Int)
  ·rw [if_pos e, show a.toNat - t.length = 0 by omega]; rfl
  ·rw [if_neg e, List.getElem?_eq_none (by simp; omega)]; rfl
structure TabTo (t : List (List Bool)) (n a : Nat) (D : Int → Int → Prop) : Prop where
 len : t.length = a
 row : ∀ x : Int, 0 ≤ x → x < (a : Int) → (rd_L3 t x).length = n
 iff : ∀ x b : Int, 0 ≤ x → x < (a : Int) → 0 ≤ b → b < (n : Int) → (Db t x b = true ↔ D x b)
theorem TabTo.nil (n : Nat) (D : Int → Int → Prop) : TabTo [] n 0 D := ⟨rfl, fun _ _ _ => by omega, fun _ _ _ _ => by omega⟩
theorem TabTo.push {t : List (List Bool)} {n a : Nat} {D : Int → Int → Prop} (h : TabTo t n a D) {r : List Bool} (hr : r.length = n) (hD : ∀ b : Int, 0 ≤ b → b < (n : Int) → (rdOf false r b = true ↔ D (a : Int) b)) : TabTo (t ++ [r]) n (a + 1) D := by
 have hl := h.len; refine ⟨by simp [hl], fun x h0 h1 => ?_, fun x b h0 h1 hb0 hb1 => ?_⟩
 ·rw [rd_L3_append _ _ _ h0]; by_cases e : x < (t.length : Int)
  ·rw [if_pos e]; exact h.row x h0 (by omega)
  ·rw [if_neg e, if_pos (by omega)]; exact hr
 ·unfold Db
  rw [rd_L3_append _ _ _ h0]; by_cases e : x < (t.length : Int)
  ·rw [if_pos e]; exact h.iff x b h0 (by omega) hb0 hb1
  ·have e2 : x = (a : Int) := by omega
   rw [if_neg e, if_pos (by omega), e2]
   exact hD b hb0 hb1
theorem TabTo.done {t : List (List Bool)} {n : Nat} {D : Int → Int → Prop} (h : TabTo t n n D) : TabOf t n D := ⟨h.len, h.row, h.iff⟩
theorem ptable_l1 (g x4 : List (List Int)) (there can : List Bool) (acc : List (List Bool)) (a : Int) (hn : g.length ≤ 100000) (h1 : there.length = g.length) (h2 : can.length = g.length) (hacc : acc.length < 100001) :
  ∀ (d i : Nat) (row : List Bool), i + d = g.length → row.length = g.length → (∀ b : Int, 0 ≤ b → b < (i : Int) → rdOf false row b = (rdOf false there b && !rdOf false can b)) →
   ∃ r, r.length = g.length ∧ (∀ b : Int, 0 ≤ b → b < (g.length : Int) → rdOf false r b = (rdOf false there b && !rdOf false can b)) ∧ ∀ res, Evt (fun k => r7_PostTable.l0 k g there x4 (acc ++ [r]) (wrap64 (a + 1))) res → Evt (fun k => r7_PostTable.l1 k g there x4 acc a row can (i : Int)) res
 | 0, i, row, hd, hl, h => by
  refine ⟨row, hl, fun b h0 hb => h b h0 (by omega), fun res hr => Evt.succ ?_⟩
  simp only [r7_PostTable.l1]
  exact Evt.neg (by omega) (Evt.pos (by omega) hr)
 | d + 1, i, row, hd, hl, h => by
  have step : ∀ v : Bool, v = (rdOf false there (i : Int) && !rdOf false can (i : Int)) → ∀ b : Int, 0 ≤ b → b < ((i + 1 : Nat) : Int) → rdOf false (row.set (i : Int).toNat v) b = (rdOf false there b && !rdOf false can b) := by
   intro v hv b h0 hb
   rw [rdOf_set row (i : Int) b v (by omega) (by omega) h0]
   by_cases e : b = (i : Int)
   ·rw [if_pos e, hv, e]
   ·rw [if_neg e]; exact h b h0 (by omega)
  by_cases ht : rdOf false there (i : Int) = true
  ·obtain ⟨r, a1, a2, a3⟩ := ptable_l1 g x4 there can acc a hn h1 h2 hacc d (i + 1) (row.set (i : Int).toNat (!rdOf false can (i : Int))) (by omega) (by simp [hl]) (step _ (by rw [ht, Bool.true_and]))
   refine ⟨r, a1, a2, fun res hr => Evt.succ ?_⟩
   simp only [r7_PostTable.l1, wrap_succ i (by omega)]
   exact Evt.pos (by omega) (Evt.pos (by omega) (Evt.pos (by omega) (Evt.pos ht (Evt.pos (by omega) (Evt.pos (by omega) (a3 res hr))))))
  ·obtain ⟨r, a1, a2, a3⟩ := ptable_l1 g x4 there can acc a hn h1 h2 hacc d (i + 1) (row.set (i : Int).toNat false) (by omega) (by simp [hl]) (step _ (by rw [Bool.eq_false_iff.2 ht, Bool.false_and]))
   refine ⟨r, a1, a2, fun res hr => Evt.succ ?_⟩
   simp only [r7_PostTable.l1, wrap_succ i (by omega)]
   exact Evt.pos (by omega) (Evt.pos (by omega) (Evt.pos (by omega) (Evt.neg ht (Evt.pos (by omega) (a3 res hr)))))
def PD (g t : List (List Int)) (a b : Int) : Prop := Rch t (fun _ => false) (exitsL g 0) b ∧ ¬ Rch t (fun n => n == a) (exitsL g 0) b
theorem ptable_l0 (g u : List (List Int)) (ends : List Bool) (hn : g.length ≤ 40) (hu : TurnedOf 4 g u) (he : ends.length = g.length) (hen : ∀ x : Int, 0 ≤ x → (rdOf false ends x = true ↔ Rch u (fun _ => false) (exitsL g 0) x)) :
  ∀ (d a : Nat) (acc : List (List Bool)), a + d = g.length → TabTo acc g.length a (PD g u) → ∃ t, TabOf t g.length (PD g u) ∧ Evt (fun k => r7_PostTable.l0 k g ends u acc (a : Int)) t
 | 0, a, acc, hd, h => by
  obtain rfl : a = g.length := by omega
  refine ⟨acc, h.done, Evt.succ ?_⟩
  simp only [r7_PostTable.l0]
  exact Evt.neg (by omega) (Evt.const acc)
 | d + 1, a, acc, hd, h => by
  have hlu := hu.len; have hal := h.len; obtain ⟨can, hc, hc1, hc2⟩ := refFrom_ev u (exitsL g 0) (a : Int) hu.gr (by rw [hlu]; exact exits_inR g) (by omega) (fun x => by have := hu.rows x; omega) (by have := exits_len g; omega)
  obtain ⟨r, r1, r2, r3⟩ := ptable_l1 g u ends can acc (a : Int) (by omega) he (by omega) (by omega) g.length 0 (List.replicate g.length false) (by omega) (by simp) (fun b h0 hb => absurd hb (by omega))
  obtain ⟨t, t1, t2⟩ := ptable_l0 g u ends hn hu he hen d (a + 1) (acc ++ [r]) (by omega) (h.push r1 fun b hb0 hb1 => by
   rw [r2 b hb0 hb1, Bool.and_eq_true, hen b hb0, Bool.not_eq_true', Bool.eq_false_iff, Ne, hc2 b hb0]; exact Iff.rfl)
  refine ⟨t, t1, Evt.succ ?_⟩
  simp only [r7_PostTable.l0]
  refine Evt.pos (by omega) (Evt.pos (by omega) (Evt.pos (by omega) (Evt.bind (rexits_ev g (by omega)) (Evt.bind hc ?_))))
  simp only [Int.toNat_natCast]
  exact r3 t (by rw [wrap_succ a (by omega)]; exact t2)
theorem PD.turned {B B' : Nat} {g t u : List (List Int)} (ht : TurnedOf B g t) (hu : TurnedOf B' g u) {P : Int → Bool} {x : Int} (h : Rch t P (exitsL g 0) x) : Rch u P (exitsL g 0) x := by
 have hlt := ht.len; refine Rch.congr (fun c y hc0 hc1 hy => ?_) (fun y hy => hy.range ht.gr (by rw [hlt]; exact exits_inR g)) (fun _ _ h => h) h
 rw [hlt] at hc1; exact (hu.mem c hc0 hc1 y).2 ((ht.mem c hc0 hc1 y).1 hy)
theorem ptable_ev (g : List (List Int)) (hg : Gr g) (hn : g.length ≤ 40) (hr : ∀ r ∈ g, r.length ≤ 4) : ∃ t u, TurnedOf 4 g u ∧ Evt (fun k => r7_PostTable.f k g) t ∧ TabOf t g.length (PD g u) := by
 obtain ⟨t0, ends, _, _, he, he1, ht0, he2⟩ := ending_ev g hg hn hr; obtain ⟨u, hu, hu1⟩ := rturned_ev 4 (by omega) g hg (by omega) (by omega) hr
 obtain ⟨t, t1, t2⟩ := ptable_l0 g u ends hn hu1 he1 (fun x hx => by rw [he2 x hx]; exact ⟨PD.turned ht0 hu1, PD.turned hu1 ht0⟩) g.length 0 [] (by omega) (TabTo.nil _ _)
 exact ⟨t, u, hu1, Evt.bind he (Evt.bind hu t2), t1⟩
def Near (t : List (List Bool)) (_n : Nat) (a b : Int) (c : Int) : Bool := decide (c = b) || !Db t c b || Db t c a
def Imm (t : List (List Bool)) (n : Nat) (a b : Int) : Prop := a ≠ b ∧ Db t a b = true ∧ ∀ c : Int, 0 ≤ c → c < (n : Int) → Near t n a b c = true
theorem imm_l2 (t : List (List Bool)) (n : Nat) (hn : n ≤ 100000) (ht : t.length = n) (hrow : ∀ a : Int, 0 ≤ a → a < (n : Int) → (rd_L3 t a).length = n) (acc : List Int) (a b best : Int) (ha0 : 0 ≤ a) (ha1 : a < (n : Int)) (hb0 : 0 ≤ b) (hb1 : b < (n : Int)) (r : List Int) (v : Bool)
  (hv : v = true ↔ ∀ c : Int, 0 ≤ c → c < (n : Int) → Near t n a b c = true) (hr : Evt (fun k => r7_Immediate.l1 k t acc b (if v = true then a else best) (wrap64 (a + 1))) r) :
  ∀ (d i : Nat) (f : Bool), i + d = n → (f = true ↔ ∀ c : Int, 0 ≤ c → c < (i : Int) → Near t n a b c = true) → Evt (fun k => r7_Immediate.l2 k t acc b best a f (i : Int)) r
 | 0, i, f, hd, hf => by
  obtain rfl : i = n := by omega
  have e : f = v := by rw [Bool.eq_iff_iff, hf, hv]
  subst e; refine Evt.succ ?_
  simp only [r7_Immediate.l2]
  refine Evt.neg (by omega) ?_
  by_cases h : f = true
  ·exact Evt.pos h (by simpa only [if_pos h] using hr)
  ·exact Evt.neg h (by simpa only [if_neg h] using hr)
 | d + 1, i, f, hd, hf => by
  have next : ∀ f' : Bool, (f' = true ↔ f = true ∧ Near t n a b (i : Int) = true) → Evt (fun k => r7_Immediate.l2 k t acc b best a f' ((i + 1 : Nat) : Int)) r := by
   intro f' hf'
   refine imm_l2 t n hn ht hrow acc a b best ha0 ha1 hb0 hb1 r v hv hr d (i + 1) f' (by omega) ?_
   rw [hf', hf]; constructor
   ·intro h c hc0 hc1
    by_cases e : c = (i : Int)
    ·rw [e]; exact h.2
    ·exact h.1 c hc0 (by omega)
   ·exact fun h => ⟨fun c hc0 hc1 => h c hc0 (by omega), h _ (by omega) (by omega)⟩
  have hri := hrow (i : Int) (by omega) (by omega)
  refine Evt.succ ?_
  simp only [r7_Immediate.l2, wrap_succ i (by omega)]
  refine Evt.pos (by omega) ?_
  by_cases h : f = true
  ·refine Evt.pos h ?_
   by_cases e : (i : Int) = b
   ·exact Evt.pos e (next true ⟨fun _ => ⟨h, by unfold Near; rw [decide_eq_true e]; rfl⟩, fun _ => rfl⟩)
   ·refine Evt.neg e (Evt.pos (by omega) (Evt.pos hb0 (Evt.pos (by omega) ?_)))
    by_cases e2 : rdOf false (rd_L3 t (i : Int)) b = true
    ·refine Evt.pos e2 (Evt.pos ha0 (Evt.pos (by omega) (next _ ?_)))
     have : Near t n a b (i : Int) = rdOf false (rd_L3 t (i : Int)) a := by unfold Near Db; rw [decide_eq_false e, e2]; rfl
     rw [this]; exact ⟨fun h2 => ⟨h, h2⟩, fun h2 => h2.2⟩
    ·refine Evt.neg e2 (next true ⟨fun _ => ⟨h, ?_⟩, fun _ => rfl⟩)
     unfold Near Db
     rw [Bool.eq_false_iff.2 e2]; simp
  ·exact Evt.neg h (next false ⟨fun h2 => (by cases h2), fun h2 => absurd h2.1 h⟩)
theorem imm_l1 (t : List (List Bool)) (n : Nat) (hn : n ≤ 100000) (ht : t.length = n) (hrow : ∀ a : Int, 0 ≤ a → a < (n : Int) → (rd_L3 t a).length = n) (acc : List Int) (hacc : acc.length ≤ 100000) (b : Int) (hb0 : 0 ≤ b) (hb1 : b < (n : Int)) (u : Int) (hu : u = -1 ∨ 0 ≤ u ∧ u < (n : Int)) (hI : ∀ a : Int, 0 ≤ a → a < (n : Int) → (Imm t n a b ↔ u = a)) (r : List Int)
  (hr : Evt (fun k => r7_Immediate.l0 k t (acc ++ [u]) (wrap64 (b + 1))) r) :
  ∀ (d i : Nat), i + d = n → Evt (fun k => r7_Immediate.l1 k t acc b (if u < (i : Int) then u else -1) (i : Int)) r
 | 0, i, hd => by
  obtain rfl : i = n := by omega
  refine Evt.succ ?_
  simp only [r7_Immediate.l1]
  rw [if_pos (by omega)]
  exact Evt.neg (by omega) (Evt.pos (by omega) hr)
 | d + 1, i, hd => by
  have ih := imm_l1 t n hn ht hrow acc hacc b hb0 hb1 u hu hI r hr d (i + 1) (by omega)
  have hri := hrow (i : Int) (by omega) (by omega)
  have hIi := hI (i : Int) (by omega) (by omega)
  have same : ¬ u = (i : Int) → (if u < ((i + 1 : Nat) : Int) then u else -1) = (if u < (i : Int) then u else -1) := by
   intro hne
   by_cases h : u < (i : Int)
   ·rw [if_pos h, if_pos (by omega)]
   ·rw [if_neg h, if_neg (by omega)]
  have skip : ¬ u = (i : Int) → ∀ f : Bool, f = true → Evt (fun k => r7_Immediate.j2 k t acc b (if u < (i : Int) then u else -1) (i : Int) f) r := by
   intro hne f hf
   refine Evt.succ ?_
   simp only [r7_Immediate.j2, wrap_succ i (by omega)]
   refine Evt.pos hf ?_
   rw [same hne] at ih; exact ih
  refine Evt.succ ?_
  simp only [r7_Immediate.l1]
  refine Evt.pos (by omega) ?_
  by_cases e : (i : Int) = b
  ·exact Evt.pos e (skip (fun hc => (hIi.2 hc).1 e) true rfl)
  ·refine Evt.neg e (Evt.pos (by omega) (Evt.pos hb0 (Evt.pos (by omega) ?_)))
   by_cases hD : rdOf false (rd_L3 t (i : Int)) b = true
   ·refine Evt.succ ?_
    simp only [r7_Immediate.j2]
    refine Evt.neg (by rw [hD]; simp) ?_
    have hnear : (∀ c : Int, 0 ≤ c → c < (n : Int) → Near t n (i : Int) b c = true) ↔ u = (i : Int) := by
     rw [← hIi]; exact ⟨fun h => ⟨e, hD, h⟩, fun h => h.2.2⟩
    refine imm_l2 t n hn ht hrow acc (i : Int) b _ (by omega) (by omega) hb0 hb1 r (decide (u = (i : Int))) (by rw [decide_eq_true_eq, hnear]) ?_ n 0 true (by omega) ⟨fun _ c hc0 hc1 => absurd hc1 (by omega), fun _ => rfl⟩
    rw [wrap_succ i (by omega)]
    by_cases hu2 : u = (i : Int)
    ·rw [if_pos (by simpa using hu2)]
     rw [if_pos (by omega), hu2] at ih
     exact ih
    ·rw [if_neg (by simpa using hu2)]
     rw [same hu2] at ih; exact ih
   ·exact skip (fun hc => hD (hIi.2 hc).2.1) _ (by rw [Bool.eq_false_iff.2 hD]; rfl)
theorem imm_l0 (t : List (List Bool)) (n : Nat) (hn : n ≤ 100000) (ht : t.length = n) (hrow : ∀ a : Int, 0 ≤ a → a < (n : Int) → (rd_L3 t a).length = n) (up : List Int) (hup : up.length = n) (hu : ∀ b : Int, 0 ≤ b → b < (n : Int) → rd up b = -1 ∨ 0 ≤ rd up b ∧ rd up b < (n : Int)) (hI : ∀ a b : Int, 0 ≤ a → a < (n : Int) → 0 ≤ b → b < (n : Int) → (Imm t n a b ↔ rd up b = a)) :
  ∀ (d b : Nat), b + d = n → Evt (fun k => r7_Immediate.l0 k t (up.take b) (b : Int)) up
 | 0, b, hd => by
  refine Evt.succ ?_
  simp only [r7_Immediate.l0]
  rw [List.take_of_length_le (by omega)]
  exact Evt.neg (by omega) (Evt.const up)
 | d + 1, b, hd => by
  have ih := imm_l0 t n hn ht hrow up hup hu hI d (b + 1) (by omega)
  have hbl : b < up.length := by omega
  refine Evt.succ ?_
  simp only [r7_Immediate.l0]
  refine Evt.pos (by omega) ?_
  have h := imm_l1 t n hn ht hrow (up.take b) (by rw [List.length_take]; omega) (b : Int) (by omega) (by omega) (rd up (b : Int)) (hu _ (by omega) (by omega)) (fun a h0 h1 => hI a _ h0 h1 (by omega) (by omega)) up
   (by rw [wrap_succ b (by omega), rd_nat up b hbl, ← List.take_succ_eq_append_getElem hbl]; exact ih) n 0 (by omega)
  have hu0 := hu (b : Int) (by omega) (by omega)
  have e : (if rd up (b : Int) < ((0 : Nat) : Int) then rd up (b : Int) else -1) = -1 := by
   by_cases hh : rd up (b : Int) < ((0 : Nat) : Int)
   ·rw [if_pos hh]; omega
   ·rw [if_neg hh]
  rw [e] at h; exact h
theorem imm_ev (t : List (List Bool)) (n : Nat) (hn : n ≤ 100000) (ht : t.length = n) (hrow : ∀ a : Int, 0 ≤ a → a < (n : Int) → (rd_L3 t a).length = n) (up : List Int) (hup : up.length = n) (hu : ∀ b : Int, 0 ≤ b → b < (n : Int) → rd up b = -1 ∨ 0 ≤ rd up b ∧ rd up b < (n : Int)) (hI : ∀ a b : Int, 0 ≤ a → a < (n : Int) → 0 ≤ b → b < (n : Int) → (Imm t n a b ↔ rd up b = a)) : Evt (fun k => r7_Immediate.f k t) up := by
 unfold r7_Immediate.f
 simpa using imm_l0 t n hn ht hrow up hup hu hI n 0 (by omega)
end Go.Proofs.Ytjjedbcgkljdeaa.M
end
section
namespace Go.Proofs.Ytjjedbcgkljdeaa.C
open Go.RowKit Go.Proofs.YtjjedbcgkljdeaaW.PrintWords Go.Proofs.YtjjedbcgkljdeaaW.PrintLast Go.Proofs.YtjjedbcgkljdeaaW.PrintMore Go.Proofs.Ytjjedbcgkljdeaa.A Go.Proofs.Ytjjedbcgkljdeaa.B
set_option linter.unusedVariables false
set_option linter.unusedSimpArgs false
theorem info33 : (Try.prog.info? 33).map (fun i => (i.zero, i.size, i.bytes)) = some (some (.slice none 0 0), 1, 24) := by kernel_rfl
-- the values' own types
end Go.Proofs.Ytjjedbcgkljdeaa.C
end
section
namespace Go.Proofs.Ytjjedbcgkljdeaa.C
open Go.RowKit Go.Proofs.YtjjedbcgkljdeaaW.PrintWords Go.Proofs.YtjjedbcgkljdeaaW.PrintLast Go.Proofs.YtjjedbcgkljdeaaW.PrintMore Go.Proofs.Ytjjedbcgkljdeaa.A Go.Proofs.Ytjjedbcgkljdeaa.B
set_option linter.unusedVariables false
set_option linter.unusedSimpArgs false
def graph_posts.l0 : Nat → List (List Int) → List Int → Int → Int → Option (List Int)
 | 0, _, _, _, _ => none
 | k + 1, x0, x4, x21, x22 => if x22 < x21 then (if 0 ≤ x22 then (if x22 < (x4.length : Int) then (if (rd x4 x22) = (x0.length : Int) then (graph_posts.l0 k x0 (x4.set (x22 : Int).toNat (-1)) x21 (wrap64 (x22 + 1))) else (graph_posts.l0 k x0 x4 x21 (wrap64 (x22 + 1)))) else (none)) else (none)) else (some x4)
def graph_posts.f (k : Nat) (l0 : List (List Int)) : Option (List Int) := (graph_turned.f k l0).bind fun t101 => ((graph_exits.f k l0).bind fun t104 => (if t101.length < 5864062014805 then ((graph_treeCut.f k (t101 ++ [t104]) (l0.length : Int) (l0.length : Int)).bind fun t110 => (graph_posts.l0 k l0 t110 (t110.length : Int) 0)) else (none)))
theorem graph_posts.mono_l : ∀ k, (∀ y0 y1 y2 y3, LeO (graph_posts.l0 k y0 y1 y2 y3) (graph_posts.l0 (k + 1) y0 y1 y2 y3))
 | 0 => fun _ _ _ _ r h => by simp [graph_posts.l0] at h
 | k + 1 => by
  have ih0 := graph_posts.mono_l k
  ·intro y0 y1 y2 y3
   unfold graph_posts.l0
   repeat' first
   | (with_reducible exact ih0 _ _ _ _)
   | (with_reducible exact graph_exits.mono _ _)
   | (with_reducible exact graph_treeCut.mono _ _ _ _)
   | (with_reducible exact graph_turned.mono _ _)
   | (with_reducible exact LeO.refl _)
   | (with_reducible exact LeO.none _)
   | (with_reducible refine LeO.ite ?_ ?_)
   | (with_reducible refine LeO.bind ?_ (fun _ => ?_))
theorem graph_posts.mono : ∀ a0 k, LeO (graph_posts.f k a0) (graph_posts.f (k + 1) a0) := by
 intro a0 k
 have ih0 := graph_posts.mono_l k; unfold graph_posts.f
 repeat' first
   | (with_reducible exact ih0 _ _ _ _)
   | (with_reducible exact graph_exits.mono _ _)
   | (with_reducible exact graph_treeCut.mono _ _ _ _)
   | (with_reducible exact graph_turned.mono _ _)
   | (with_reducible exact LeO.refl _)
   | (with_reducible exact LeO.none _)
   | (with_reducible refine LeO.ite ?_ ?_)
   | (with_reducible refine LeO.bind ?_ (fun _ => ?_))
set_option maxHeartbeats 8000000 in
set_option maxRecDepth 100000 in
theorem graph_posts.calls (k : Nat) (A0 : Option Addr) (c0 : Nat) (l0 : List (List Int)) (r : List Int) (w : World) (hr0 : Kd.C (Kd.slice 3 (Kd.int .i64)) w A0 l0.length l0) (hc0 : l0.length ≤ c0) (h : graph_posts.f k l0 = some r) :
  Calls Try.prog 61 #[.slice A0 l0.length c0] w fun e w' => ∃ v0_ : Value, e = .returned (v0_) ∧ Kd.R (Kd.int .i64) 3 w' w.heap.size (fun _ => True) v0_ r ∧ Below w.heap.size w w' := by
 have HR0 := Aside0.mk hr0; have HC0 := Aside0.mk hc0; clear hr0 hc0; have HB := Aside0.mk (Below.refl w.heap.size w); have H : ((graph_turned.f k l0).bind fun t101 => ((graph_exits.f k l0).bind fun t104 => (if t101.length < 5864062014805 then ((graph_treeCut.f k (t101 ++ [t104]) (l0.length : Int) (l0.length : Int)).bind fun t110 => (graph_posts.l0 k l0 t110 (t110.length : Int) 0)) else (none)))) = some r := h
 clear h; replace H := Option.bind_eq_some_iff.mp H; obtain ⟨t101, A20, H⟩ := H; replace H : ((graph_exits.f k l0).bind fun t104 => (if t101.length < 5864062014805 then ((graph_treeCut.f k (t101 ++ [t104]) (l0.length : Int) (l0.length : Int)).bind fun t110 => (graph_posts.l0 k l0 t110 (t110.length : Int) 0)) else (none))) = some r := H
 have A2 := Aside0.mk A20; clear A20; replace H := Option.bind_eq_some_iff.mp H; obtain ⟨t104, A30, H⟩ := H; replace H : (if t101.length < 5864062014805 then ((graph_treeCut.f k (t101 ++ [t104]) (l0.length : Int) (l0.length : Int)).bind fun t110 => (graph_posts.l0 k l0 t110 (t110.length : Int) 0)) else (none)) = some r := H
 have A3 := Aside0.mk A30; clear A30; by_cases c4 : t101.length < 5864062014805
 ·rw [if_pos c4] at H; have LMc4 := Aside0.mk c4; clear c4; obtain ⟨y107, hy107⟩ : ∃ y_ : List (List Int), y_ = (t101 ++ [t104]) := ⟨_, rfl⟩; replace H : ((graph_treeCut.f k y107 (l0.length : Int) (l0.length : Int)).bind fun t110 => (graph_posts.l0 k l0 t110 (t110.length : Int) 0)) = some r := by first | (with_reducible first | (rw [hy107]; exact H) | exact H) | (have H2_ := (Option.bind_some _ _).symm.trans H; first | with_reducible exact H2_ | (rw [hy107]; exact H2_)) | (rw [hy107]; exact H) | exact H
  have Ny107 := Aside0.mk hy107; clear hy107; replace H := Option.bind_eq_some_iff.mp H; obtain ⟨t110, A50, H⟩ := H; replace H : (graph_posts.l0 k l0 t110 (t110.length : Int) 0) = some r := H; have A5 := Aside0.mk A50; clear A50; have H' := Aside0.mk H
  clear H; go_enter Try.func61, Try.ntmps61
  go_wp2_with (first | ((with_reducible refine gate_callee (f := 51) rfl ?_); refine goesL_ (some 8) rfl rfl Try.func51 (by kernel_rfl) rfl #[.slice A0 l0.length c0] rfl (by (try simp only [List.map_toArray, List.map_cons, List.map_nil]); first | done | rfl | (simp only [List.length_drop, List.length_take]; rfl)) ?_; (with_reducible refine (graph_turned.calls k _ _ l0 t101 _ ?side1 ?side2 A2.out).mono ?_); (case side1 => repeat (first | exact HR0.out | with_reducible first | refine Kd.C_alloc ?_ _ | refine Kd.C_drewN ?_ _ | refine Kd.C_drew ?_)); (case side2 => exact HC0.out); rintro e w6 ⟨v102, rfl, ho0, hb⟩; refine ⟨_, rfl, ?_⟩; have n0_ := Aside0.mk (Kd.S_lower ho0 (below_size (by repeat (first | (with_reducible first | exact HB.out | apply below_alloc | apply pw_below_drewN | apply below_drew1) | exact HB.out)))); have n1_ := Aside0.mk (below_step (by repeat (first | (with_reducible first | exact HB.out | apply below_alloc | apply pw_below_drewN | apply below_drew1) | exact HB.out)) hb); clear HB; have HO103 := n0_; have HB := n1_; clear n0_ n1_; (try clear hb); (try clear hb2); (try clear hk); (try clear hi); (try clear ho0)) | ((with_reducible refine gate_callee (f := 65) rfl ?_); refine goesL_ (some 10) rfl rfl Try.func65 (by kernel_rfl) rfl #[.slice A0 l0.length c0] rfl (by (try simp only [List.map_toArray, List.map_cons, List.map_nil]); first | done | rfl | (simp only [List.length_drop, List.length_take]; rfl)) ?_; (with_reducible refine (graph_exits.calls k _ _ l0 t104 _ ?side1 ?side2 A3.out).mono ?_); (case side1 => repeat (first | exact (Kd.C_below HR0.out HB.out) | with_reducible first | refine Kd.C_alloc ?_ _ | refine Kd.C_drewN ?_ _ | refine Kd.C_drew ?_)); (case side2 => exact HC0.out); rintro e w7 ⟨v105, rfl, ho0, hb⟩; refine ⟨_, rfl, ?_⟩; have n0_ := Aside0.mk (Kd.S_elder' (by (with_reducible repeat (first | apply Kd.S_alloc | apply Kd.S_drewN | apply Kd.S_drew)); exact HO103.out) (Kd.R_base ho0) hb); have n1_ := Aside0.mk (Kd.R_lower ho0 (below_size (by repeat (first | (with_reducible first | exact HB.out | apply below_alloc | apply pw_below_drewN | apply below_drew1) | exact HB.out)))); have n2_ := Aside0.mk (below_step (by repeat (first | (with_reducible first | exact HB.out | apply below_alloc | apply pw_below_drewN | apply below_drew1) | exact HB.out)) hb); clear HO103; clear HB; have HO103 := n0_; have HO106 := n1_; have HB := n2_; clear n0_ n1_ n2_; (try clear hb); (try clear hb2); (try clear hk); (try clear hi); (try clear ho0); obtain ⟨Ao9, co9, eo9⟩ := Kd.R_slice HO106.out; subst eo9) | ((with_reducible refine gate_builtin (b := .append) (xs := #[.tmp 8, .tmp 11]) rfl ?_); at_builtin; refine Kd.S_append (Kd.slice 3 (Kd.int .i64)) (w0 := w) w.heap.size rfl (.tmp 8) (.tmp 11) 22 33 (.slice none 0 0) 24 rfl Try.underlying22 info33 rfl (by decide) (by omega) v102 t101 t104 [.slice Ao9 t104.length co9] (fun _ => True) (fun k_ => some k_ = (.slice Ao9 t104.length co9 : Value).ownBlock) rfl rfl ?aP (fun k_ hk_ => ((Kd.R_mono (ok' := fun k_ => ((fun _ => True)) k_ ∧ some k_ ≠ (v102 : Value).ownBlock) (Kd.R_apart' (HO106.out) (Kd.S_typed HO103.out) (by decide)) (fun k_ hk => ⟨trivial, hk.2⟩))).1 k_ hk_.symm) ?aF ?aO ?aB ?aS ?aL ?_; (case aP => exact Kd.M_row (Kd.R_mono (Kd.R_tight rfl (Kd.R_mono (ok' := fun k_ => ((fun _ => True)) k_ ∧ some k_ ≠ (v102 : Value).ownBlock) (Kd.R_apart' (HO106.out) (Kd.S_typed HO103.out) (by decide)) (fun k_ hk => ⟨trivial, hk.2⟩))) (fun _ h_ => h_))); (case aB => exact (by repeat (first | (with_reducible first | exact HB.out | apply below_alloc | apply pw_below_drewN | apply below_drew1) | exact HB.out))); (case aF => exact (fun _ _ => trivial)); (case aO => exact (by (with_reducible repeat (first | apply Kd.S_alloc | apply Kd.S_drewN | apply Kd.S_drew)); exact Kd.S_mono HO103.out (fun k_ hk => ⟨trivial, fun e_ => hk.2 e_⟩))); (case aS => exact (below_size (by repeat (first | (with_reducible first | exact HB.out | apply below_alloc | apply pw_below_drewN | apply below_drew1) | exact HB.out)))); (case aL => have := LMc4.out; omega); intro v108 w8 ho hb hg hat; rw [← Ny107.out] at ho; have n0_ := Aside0.mk (hb); have n1_ := Aside0.mk (ho); clear HB; clear HO103; clear HO106; have HB := n0_; have HO109 := n1_; clear n0_ n1_; clear ho hb hg hat; obtain ⟨Ao10, co10, eo10⟩ := Kd.S_slice HO109.out; subst eo10) | ((with_reducible refine gate_callee (f := 48) rfl ?_); refine goesL_ _ rfl rfl Try.func48 (by kernel_rfl) rfl #[.slice Ao10 y107.length co10, .int .i64 (l0.length : Int)] rfl (by (try simp only [List.map_toArray, List.map_cons, List.map_nil]); first | done | rfl | (simp only [List.length_drop, List.length_take]; rfl)) ?_; (with_reducible refine (graph_treeCut.calls k _ _ y107 (l0.length : Int) (l0.length : Int) t110 _ ?side1 ?side2 A5.out).mono ?_); (case side1 => repeat (first | exact (Kd.S_reads' HO109.out).2.2 | with_reducible first | refine Kd.C_alloc ?_ _ | refine Kd.C_drewN ?_ _ | refine Kd.C_drew ?_)); (case side2 => exact (Kd.S_reads' HO109.out).2.1); rintro e w11 ⟨Ao12, mt_, co12, rfl, ho0, hb, hcut1_, hcut2_, hcut3_⟩; refine ⟨_, rfl, ?_⟩; have n0_ := Aside0.mk (Kd.S_elder' (by (with_reducible repeat (first | apply Kd.S_alloc | apply Kd.S_drewN | apply Kd.S_drew)); exact HO109.out) (Kd.R_base ho0) hb); have n1_ := Aside0.mk (Kd.R_lower ho0 (below_size (by repeat (first | (with_reducible first | exact HB.out | apply below_alloc | apply pw_below_drewN | apply below_drew1) | exact HB.out)))); have n2_ := Aside0.mk (below_step (by repeat (first | (with_reducible first | exact HB.out | apply below_alloc | apply pw_below_drewN | apply below_drew1) | exact HB.out)) hb); clear HO109; clear HB; have HO109 := n0_; have HO112 := n1_; have HB := n2_; clear n0_ n1_ n2_; (try clear hb); (try clear hb2); (try clear hk); (try clear hi); (try clear ho0)) | ((with_reducible refine gate_dst (N := 19) rfl ?_); refine cut_op (j := t110.length) rfl rfl rfl rfl hcut1_ hcut2_ hcut3_ ?_))
  go_loopg [22] k (fun kq v22 w' => ∃ (x4_1 : List Int) (x22_1 : Int), v22 = .int .i64 x22_1 ∧ Aside0 (graph_posts.l0 kq l0 x4_1 (t110.length : Int) x22_1 = some r) ∧ Aside0 (kq ≤ k) ∧ Aside0 (Kd.R (Kd.int .i64) 3 w' w.heap.size (fun _ => True) (.slice Ao12 t110.length co12) x4_1) ∧ Aside0 (Below w.heap.size w w'))
  case atStart => exact ⟨(t110), (0), (by first | rfl | (simp; done) | (simp [*]; done)), H', ⟨Nat.le_refl _⟩, ⟨by (with_reducible repeat (first | apply Kd.R_alloc | apply Kd.R_drewN | apply Kd.R_drew)); exact HO112.out⟩, ⟨by repeat (first | (with_reducible first | exact HB.out | apply below_alloc | apply pw_below_drewN | apply below_drew1) | exact HB.out)⟩⟩
  case round =>
   clear H'; try clear p2
   try clear c4
   try clear c5
   try clear c6
   try clear c8
   obtain ⟨x4_1, x22_1, rfl, HA, HK1, HO_4, HB⟩ := hrel; have hl4_1 := (Kd.R_reads' HO_4.out).1; rw [hl4_1] at HO_4; (try simp only [hl4_1])
   cases gk with
   | zero => exact absurd HA.out (by simp [graph_posts.l0])
   | succ k1 =>
    have H := HA.out; clear HA; simp only [graph_posts.l0] at H
    by_cases c13 : x22_1 < (t110.length : Int)
    ·rw [if_pos c13] at H; have c13b0 : decide (x22_1 < (t110.length : Int)) = true := decide_eq_true c13
     have c13b7 := c13b0; (try simp only [hl4_1] at c13b7)
     clear c13; by_cases c14 : 0 ≤ x22_1
     ·rw [if_pos c14] at H; have c14b0 : decide (0 ≤ x22_1) = true := decide_eq_true c14
      clear c14; by_cases c15 : x22_1 < (x4_1.length : Int)
      ·rw [if_pos c15] at H; have c15b0 : decide (x22_1 < (x4_1.length : Int)) = true := decide_eq_true c15
       have c15b7 := c15b0; (try simp only [hl4_1] at c15b7)
       clear c15; by_cases c16 : (rd x4_1 x22_1) = (l0.length : Int)
       ·rw [if_pos c16] at H; have c16b0 : ((rd x4_1 x22_1) == (l0.length : Int)) = true := beq_iff_eq.mpr c16
        have c16b1 : ((rd x4_1 x22_1) != (l0.length : Int)) = false := bne_eq_false_iff_eq.mpr c16
        clear c16; obtain ⟨y114, hy114⟩ : ∃ y_ : List Int, y_ = (x4_1.set (x22_1 : Int).toNat (-1)) := ⟨_, rfl⟩; replace H : (graph_posts.l0 k1 l0 y114 (t110.length : Int) (wrap64 (x22_1 + 1))) = some r := by first | (with_reducible first | (rw [hy114]; exact H) | exact H) | (have H2_ := (Option.bind_some _ _).symm.trans H; first | with_reducible exact H2_ | (rw [hy114]; exact H2_)) | (rw [hy114]; exact H) | exact H
        have Ny114 := Aside0.mk hy114; clear hy114; have H' := Aside0.mk H
        clear H; have p113 : 0 ≤ (x22_1 : Int) := of_decide_eq_true (by with_reducible assumption)
        have q113 : x22_1 < (x4_1.length : Int) := of_decide_eq_true (by with_reducible assumption)
        obtain ⟨ad113, e113, hx113_0⟩ := Kd.at_int (Kd.R_reads' HO_4.out).2.2 x22_1 p113 q113; cases e113; replace p113 := eq_true p113; replace q113 := eq_true q113; have p17 : 0 ≤ (x22_1 : Int) := of_decide_eq_true (by with_reducible assumption)
        have q17 : (x22_1 : Int) < ((x4_1.length : Int) : Int) := of_decide_eq_true (by with_reducible assumption)
        obtain ⟨go17, co17, eo17, gb17, gl17, cl17, HG17⟩ := Kd.R_form HO_4.out (by omega)
        (first | cases eo17 | (injection eo17 with ea_ en_ ec_; (first | subst ea_ | (injection ea_ with ea_; subst ea_)); subst ec_; clear en_))
        have GB17 := Aside0.mk gb17; have GG17 := Aside0.mk HG17; clear gb17 gl17 HG17; (first | simp only [add_plain] at hx113_0 | skip)
        obtain ⟨hx17_0, hf17_0⟩ := Kd.R_celln 0 HO_4.out (x22_1 : Int) p17 q17; replace p17 := eq_true p17; replace q17 := eq_true q17; have HP18 := Kd.R_putg HO_4.out (x22_1 : Int) (-1); go_wp2_with (first | ((with_reducible refine gate_store (t := 3) (p := 33) rfl ?_); refine store_event (t := 3) (p := 33) (v := ?vo_w19) (w1 := (wr.setCell ⟨go17, (x22_1 : Int).toNat, none⟩ (.int .i64 (-1)))) ?hg ?ho ?hn ?hr ?_; (case ho => rfl); (case hg => rfl); (case hn => rfl); (case hr => first | (go_simp; done) | (go_simp; rfl)); intro w19 hw; have hg : wr.grownBy w19 (some go17) := (by rw [hw]; exact HP18.2); have hp_ : Kd.R (Kd.int .i64) 3 w19 w.heap.size (fun _ => True) (.slice (some ⟨go17, 0, none⟩) x4_1.length co12) y114 := (by rw [hw, Ny114.out]; exact HP18.1); clear HP18; have n0_ := Aside0.mk (hp_); have n1_ := Aside0.mk ((by rw [hw]; exact below_set (HB.out) GB17.out : Below w.heap.size w w19)); clear HO_4; clear HB; have HO_4 := n0_; have HB := n1_; clear n0_ n1_; clear hg hw hp_))
        (try simp only [← hl4_1])
        go_roundg k1
        case measure => have := HK1.out; omega
        case rel => exact ⟨(y114), (wrap64 (x22_1 + 1)), (by first | rfl | (simp; done) | (simp [*]; done)), H', ⟨by have := HK1.out; omega⟩, ⟨by (try simp only [hl4_1]); (with_reducible repeat (first | apply Kd.R_alloc | apply Kd.R_drewN | apply Kd.R_drew)); exact HO_4.out⟩, ⟨by repeat (first | (with_reducible first | exact HB.out | apply below_alloc | apply pw_below_drewN | apply below_drew1) | exact HB.out)⟩⟩
       ·rw [if_neg c16] at H; have c16b0 : ((rd x4_1 x22_1) == (l0.length : Int)) = false := beq_eq_false_iff_ne.mpr c16
        have c16b1 : ((rd x4_1 x22_1) != (l0.length : Int)) = true := bne_iff_ne.mpr c16
        have H' := Aside0.mk H
        clear H; have p113 : 0 ≤ (x22_1 : Int) := of_decide_eq_true (by with_reducible assumption)
        have q113 : x22_1 < (x4_1.length : Int) := of_decide_eq_true (by with_reducible assumption)
        obtain ⟨ad113, e113, hx113_0⟩ := Kd.at_int (Kd.R_reads' HO_4.out).2.2 x22_1 p113 q113; cases e113; replace p113 := eq_true p113; replace q113 := eq_true q113; go_wp2
        (try simp only [← hl4_1])
        go_roundg k1
        case measure => have := HK1.out; omega
        case rel => exact ⟨(x4_1), (wrap64 (x22_1 + 1)), (by first | rfl | (simp; done) | (simp [*]; done)), H', ⟨by have := HK1.out; omega⟩, ⟨by (try simp only [hl4_1]); (with_reducible repeat (first | apply Kd.R_alloc | apply Kd.R_drewN | apply Kd.R_drew)); exact HO_4.out⟩, ⟨by repeat (first | (with_reducible first | exact HB.out | apply below_alloc | apply pw_below_drewN | apply below_drew1) | exact HB.out)⟩⟩
      ·rw [if_neg c15] at H; exact absurd H (by simp)
     ·rw [if_neg c14] at H; exact absurd H (by simp)
    ·rw [if_neg c13] at H; have c13b0 : decide (x22_1 < (t110.length : Int)) = false := decide_eq_false c13
     have c13b7 := c13b0; (try simp only [hl4_1] at c13b7)
     clear c13; obtain rfl := Option.some.inj H; go_wp2
     go_ret
     exact ⟨_, by first | rfl | (simp [errW_none, errW_some] <;> rfl) | (simp [*, errW_none, errW_some] <;> rfl), by (with_reducible repeat (first | apply Kd.R_alloc | apply Kd.R_drewN | apply Kd.R_drew)); exact HO_4.out, by repeat (first | (with_reducible first | exact HB.out | apply below_alloc | apply pw_below_drewN | apply below_drew1) | exact HB.out)⟩
 ·rw [if_neg c4] at H; exact absurd H (by simp)
def graph_Postdominators.f (k : Nat) (l0 : List (List Int)) : Option (List Int × Int) := (graph_valid.f k l0).bind fun t115 => (if t115 = true then ((graph_posts.f k l0).bind fun t116 => (some (t116, 0))) else (some (([] : List Int), 1)))
theorem graph_Postdominators.mono : ∀ a0 k, LeO (graph_Postdominators.f k a0) (graph_Postdominators.f (k + 1) a0) := by
 intro a0 k
 unfold graph_Postdominators.f
 repeat' first
   | (with_reducible exact graph_posts.mono _ _)
   | (with_reducible exact graph_valid.mono _ _)
   | (with_reducible exact LeO.refl _)
   | (with_reducible exact LeO.none _)
   | (with_reducible refine LeO.ite ?_ ?_)
   | (with_reducible refine LeO.bind ?_ (fun _ => ?_))
set_option maxHeartbeats 8000000 in
set_option maxRecDepth 100000 in
theorem graph_Postdominators.calls (k : Nat) (A0 : Option Addr) (c0 : Nat) (l0 : List (List Int)) (r1 : List Int) (r2 : Int) (w : World) (hr0 : Kd.C (Kd.slice 3 (Kd.int .i64)) w A0 l0.length l0) (hc0 : l0.length ≤ c0) (h : graph_Postdominators.f k l0 = some (r1, r2)) :
  Calls Try.prog 27 #[.slice A0 l0.length c0] w fun e w' => ∃ v0_ : Value, e = .returned (.tuple #[v0_, .int .i64 r2]) ∧ Kd.R (Kd.int .i64) 3 w' w.heap.size (fun _ => True) v0_ r1 ∧ Below w.heap.size w w' := by
 have HR0 := Aside0.mk hr0; have HC0 := Aside0.mk hc0; clear hr0 hc0; have HB := Aside0.mk (Below.refl w.heap.size w); have H : ((graph_valid.f k l0).bind fun t115 => (if t115 = true then ((graph_posts.f k l0).bind fun t116 => (some (t116, 0))) else (some (([] : List Int), 1)))) = some (r1, r2) := h
 clear h; replace H := Option.bind_eq_some_iff.mp H; obtain ⟨t115, A20, H⟩ := H; replace H : (if t115 = true then ((graph_posts.f k l0).bind fun t116 => (some (t116, 0))) else (some (([] : List Int), 1))) = some (r1, r2) := H
 have A2 := Aside0.mk A20; clear A20; by_cases c3 : t115 = true
 ·subst c3; have H1 : ((graph_posts.f k l0).bind fun t116 => (some (t116, 0))) = some (r1, r2) := by rw [if_pos rfl] at H; exact H
  clear H; have H := H1; clear H1; replace H := Option.bind_eq_some_iff.mp H; obtain ⟨t116, A40, H⟩ := H; replace H : (some (t116, 0)) = some (r1, r2) := H; have A4 := Aside0.mk A40; clear A40; simp only [Option.some.injEq, Prod.mk.injEq] at H
  obtain ⟨rfl, rfl⟩ := H; go_enter Try.func27, Try.ntmps27
  go_wp2_with (first | ((with_reducible refine gate_callee (f := 47) rfl ?_); refine goesL_ (some 5) rfl rfl Try.func47 (by kernel_rfl) rfl #[.slice A0 l0.length c0] rfl (by (try simp only [List.map_toArray, List.map_cons, List.map_nil]); first | done | rfl | (simp only [List.length_drop, List.length_take]; rfl)) ?_; (with_reducible refine (graph_valid.calls k _ _ l0 true _ ?side1 ?side2 A2.out).mono ?_); (case side1 => repeat (first | exact HR0.out | with_reducible first | refine Kd.C_alloc ?_ _ | refine Kd.C_drewN ?_ _ | refine Kd.C_drew ?_)); (case side2 => exact HC0.out); rintro e w' ⟨rfl, ⟨nd, rfl⟩⟩; refine ⟨_, rfl, ?_⟩) | ((with_reducible refine gate_callee (f := 61) rfl ?_); refine goesL_ (some 8) rfl rfl Try.func61 (by kernel_rfl) rfl #[.slice A0 l0.length c0] rfl (by (try simp only [List.map_toArray, List.map_cons, List.map_nil]); first | done | rfl | (simp only [List.length_drop, List.length_take]; rfl)) ?_; (with_reducible refine (graph_posts.calls k _ _ l0 t116 _ ?side1 ?side2 A4.out).mono ?_); (case side1 => repeat (first | exact HR0.out | with_reducible first | refine Kd.C_alloc ?_ _ | refine Kd.C_drewN ?_ _ | refine Kd.C_drew ?_)); (case side2 => exact HC0.out); rintro e w5 ⟨v117, rfl, ho0, hb⟩; refine ⟨_, rfl, ?_⟩; have n0_ := Aside0.mk (Kd.R_lower ho0 (below_size (by repeat (first | (with_reducible first | exact HB.out | apply below_alloc | apply pw_below_drewN | apply below_drew1) | exact HB.out)))); have n1_ := Aside0.mk (below_step (by repeat (first | (with_reducible first | exact HB.out | apply below_alloc | apply pw_below_drewN | apply below_drew1) | exact HB.out)) hb); clear HB; have HO118 := n0_; have HB := n1_; clear n0_ n1_; (try clear hb); (try clear hb2); (try clear hk); (try clear hi); (try clear ho0)))
  go_ret2
  exact ⟨_, by first | rfl | (simp [errW_none, errW_some] <;> rfl) | (simp [*, errW_none, errW_some] <;> rfl), by (with_reducible repeat (first | apply Kd.R_alloc | apply Kd.R_drewN | apply Kd.R_drew)); exact HO118.out, by repeat (first | (with_reducible first | exact HB.out | apply below_alloc | apply pw_below_drewN | apply below_drew1) | exact HB.out)⟩
 ·replace c3 := Bool.eq_false_iff.mpr c3; subst c3; have H1 : (some (([] : List Int), 1)) = some (r1, r2) := by rw [if_neg (show ¬ (false = true) by decide)] at H; exact H
  clear H; have H := H1; clear H1; simp only [Option.some.injEq, Prod.mk.injEq] at H
  obtain ⟨rfl, rfl⟩ := H; go_enter Try.func27, Try.ntmps27
  go_wp2_with (first | ((with_reducible refine gate_callee (f := 47) rfl ?_); refine goesL_ (some 5) rfl rfl Try.func47 (by kernel_rfl) rfl #[.slice A0 l0.length c0] rfl (by (try simp only [List.map_toArray, List.map_cons, List.map_nil]); first | done | rfl | (simp only [List.length_drop, List.length_take]; rfl)) ?_; (with_reducible refine (graph_valid.calls k _ _ l0 false _ ?side1 ?side2 A2.out).mono ?_); (case side1 => repeat (first | exact HR0.out | with_reducible first | refine Kd.C_alloc ?_ _ | refine Kd.C_drewN ?_ _ | refine Kd.C_drew ?_)); (case side2 => exact HC0.out); rintro e w' ⟨rfl, ⟨nd, rfl⟩⟩; refine ⟨_, rfl, ?_⟩))
  go_ret2
  exact ⟨_, by first | rfl | (simp [errW_none, errW_some] <;> rfl) | (simp [*, errW_none, errW_some] <;> rfl), by first | exact Kd.R_nil _ _ _ _ _ | exact Kd.N_nil _ _ _ _ _ | exact Kd.V_nil _ _ _ _ _ | exact Kd.Q_nil _ _ _ _ _ | exact Kd.S_nil _ _ _ _ _, by repeat (first | (with_reducible first | exact HB.out | apply below_alloc | apply pw_below_drewN | apply below_drew1) | exact HB.out)⟩
end Go.Proofs.Ytjjedbcgkljdeaa.C
end
section
namespace Go.Proofs.Ytjjedbcgkljdeaa.C
open Go Go.RowKit Go.Shelf Go.Proofs.YtjjedbcgkljdeaaW.PrintWords Go.Proofs.YtjjedbcgkljdeaaW.PrintLast Go.Proofs.YtjjedbcgkljdeaaW.PrintMore Go.Proofs.Ytjjedbcgkljdeaa.A Go.Proofs.Ytjjedbcgkljdeaa
def graph_fromReg.f (k : Nat) (l0 : List (List Int)) (l1 : List Int) (a2 : Int) : Option (List Bool) := fromF (fun n => n == a2) k l0 l1
theorem graph_fromReg.mono : ∀ a0 a1 a2 k, LeO (graph_fromReg.f k a0 a1 a2) (graph_fromReg.f (k + 1) a0 a1 a2) := fun a0 a1 _ k => fromF_mono _ a0 a1 k
theorem reg_closed (w : World) (pe : Nat) (e : Int) (he : w.heap[pe]? = some (.cells #[.int .i64 e] 3 (0, 0))) (len : Nat) : Closed_reg w (fun n => n == e) len (pe := pe) := by
 intro W1 hb n _ _
 have c : W1.cell? ⟨pe, 0, none⟩ = some (.int .i64 e) := (blk_cell (blk_below he hb) 0).trans rfl
 go_enter Try.func62, Try.ntmps62
 go_wp2
 go_ret
 exact ⟨by simp, Drawn0.refl _⟩
theorem graph_fromReg.calls (k : Nat) (A0 : Option Addr) (c0 : Nat) (l0 : List (List Int)) (A1 : Option Addr) (c1 : Nat) (l1 : List Int) (a2 : Int) (r : List Bool) (w : World) (hr0 : Kd.C (Kd.slice 3 (Kd.int .i64)) w A0 l0.length l0) (_hc0 : l0.length ≤ c0) (hr1 : Kd.C (Kd.int .i64) w A1 l1.length l1) (_hc1 : l1.length ≤ c1) (h : graph_fromReg.f k l0 l1 a2 = some r) {pe : Nat} (he : w.heap[pe]? = some (.cells #[.int .i64 a2] 3 (0, 0))) :
  Calls Try.prog 49 #[.slice A0 l0.length c0, .slice A1 l1.length c1, .func (.func 62) #[] #[.pointer (some ⟨pe, 0, none⟩)]] w fun e w' => ∃ v0_ : Value, e = .returned v0_ ∧ Kd.R Kd.bool 4 w' w.heap.size (fun _ => True) v0_ r ∧ Below w.heap.size w w' :=
 from_reg (pe := pe) (fun n => n == a2) k A0 c0 l0 A1 c1 l1 r w hr0 hr1 (reg_closed w pe a2 he _) h
theorem box_op {ops : Array Oper} {Q : Exit → Act → World → Prop} {rest : List Oper} {a : Act} {W : World} {o : Oper} {p v : Operand} {x : Int} (hgd : o.guard = none) (ho : o.op = .store 3 p v)
  (hp : a.eval p = .pointer (some ⟨W.heap.size, 0, none⟩)) (hv : a.eval v = .int .i64 x)
  (h : ∀ W', Below W.heap.size W W' → W'.heap[W.heap.size]? = some (.cells #[.int .i64 x] 3 (0, 0)) → wpList Try.prog ops Q rest (a.put o.dst undef) W') : wpList Try.prog ops Q (o :: rest) a (W.alloc (.cells #[.int .i64 0] 3)) := by
 refine wpList_plain hgd fun K hK => ?_
 have hf : (W.alloc (.cells #[.int .i64 0] 3)).frozen? ⟨W.heap.size, 0, none⟩ = false := blk_frozen (new_at _ rfl) 0
 have h1 : Below W.heap.size W ((W.alloc (.cells #[.int .i64 0] 3)).setCell ⟨W.heap.size, 0, none⟩ (.int .i64 x)) := (below_alloc (Below.refl _ _) _).setCell (by simp) _
 have h2 : ((W.alloc (.cells #[.int .i64 0] 3)).setCell ⟨W.heap.size, 0, none⟩ (.int .i64 x)).heap[W.heap.size]? = some (.cells #[.int .i64 x] 3 (0, 0)) := by
  have h0 : (W.alloc (.cells #[.int .i64 0] 3)).heap[W.heap.size]? = some (.cells #[.int .i64 0] 3 (0, 0)) := new_at _ rfl
  rw [blk_set h0]; rfl
 have hn := hK _ _ (h _ h1 h2); unfold Oper.wp
 have hr : (execOp a.eval o).run Try.prog (W.alloc (.cells #[.int .i64 0] 3)) = .ok .skip ((W.alloc (.cells #[.int .i64 0] 3)).setCell ⟨W.heap.size, 0, none⟩ (.int .i64 x)) := by
  unfold execOp
  simp only [ho, hp, hv]
  simp [go_sem, hf]
 rw [hr]; exact hn
end Go.Proofs.Ytjjedbcgkljdeaa.C
end
section
namespace Go.Proofs.Ytjjedbcgkljdeaa.M
open Go.RowKit Go.Proofs.YtjjedbcgkljdeaaW.PrintWords Go.Proofs.YtjjedbcgkljdeaaW.PrintLast Go.Proofs.YtjjedbcgkljdeaaW.PrintMore Go.Proofs.Ytjjedbcgkljdeaa.A
structure Wk (G : List (List Int)) (root : Int) (up : List Int) (n : Nat) (dl : List Int) : Prop where
 tree : TreeOf G root up
 rng : ∀ x, Rg G root x → 0 ≤ x
 len : dl.length = n
 yes : ∀ b : Int, 0 ≤ b → b < (n : Int) → Rg G root b → (b ≠ root ∧ rd dl b = rd up b ∧ rd up b < (n : Int)) ∨ (rd dl b = -1 ∧ ∀ a : Int, 0 ≤ a → a < (n : Int) → Ch (uf up) root b a → a = b)
 no : ∀ b : Int, 0 ≤ b → b < (n : Int) → ¬ Rg G root b → rd dl b = -1
section
variable {G : List (List Int)} {root : Int} {up : List Int} {n : Nat} {dl : List Int}
theorem TreeOf.ch_rg (h : TreeOf G root up) (hr : ∀ x, Rg G root x → 0 ≤ x) {b a : Int} (hb : Rg G root b) (hc : Ch (uf up) root b a) : Rg G root a := by
 induction hc with
 | refl => exact hb
 | @up m x hn _ ih =>
  rw [uf_pos (hr m hb)] at ih; exact ih (h.up_lt m hb hn).1
theorem TreeOf.ch_step (_h : TreeOf G root up) (hr : ∀ x, Rg G root x → 0 ≤ x) {b a : Int} (hb : Rg G root b) (hne : a ≠ b) : Ch (uf up) root b a ↔ b ≠ root ∧ Ch (uf up) root (rd up b) a := by
 rw [← uf_pos (l := up) (hr b hb)]; constructor
 ·intro hc
  cases hc with
  | refl => exact absurd rfl hne
  | up hn h => exact ⟨hn, h⟩
 ·exact fun h => Ch.up h.1 h.2
theorem TreeOf.ch_lvl (h : TreeOf G root up) (hr : ∀ x, Rg G root x → 0 ≤ x) {f : Int → Nat} (hf : ∀ n, Rg G root n → n ≠ root → f (rd up n) < f n) {b a : Int} (hb : Rg G root b) (hc : Ch (uf up) root b a) : a = b ∨ f a < f b := by
 induction hc with
 | refl => exact .inl rfl
 | @up m x hn _ ih =>
  rw [uf_pos (hr m hb)] at ih; have h1 := hf m hb hn; rcases ih (h.up_lt m hb hn).1 with e | e
  ·rw [e]; exact .inr h1
  ·exact .inr (by omega)
theorem TreeOf.anti (h : TreeOf G root up) (hr : ∀ x, Rg G root x → 0 ≤ x) {b a : Int} (hb : Rg G root b) (h1 : Ch (uf up) root b a) (h2 : Ch (uf up) root a b) : a = b := by
 obtain ⟨f, hf⟩ := h.lvl; rcases h.ch_lvl hr hf hb h1 with e | e
 ·exact e
 ·rcases h.ch_lvl hr hf (h.ch_rg hr hb h1) h2 with e2 | e2
  ·exact e2.symm
  ·omega
theorem Wk.range (w : Wk G root up n dl) (b : Int) (h0 : 0 ≤ b) (h1 : b < (n : Int)) : rd dl b = -1 ∨ 0 ≤ rd dl b ∧ rd dl b < (n : Int) := by
 by_cases hb : Rg G root b
 ·rcases w.yes b h0 h1 hb with ⟨hn, e, hlt⟩ | ⟨e, _⟩
  ·rw [e]; exact .inr ⟨w.rng _ (w.tree.up_lt b hb hn).1, hlt⟩
  ·exact .inl e
 ·exact .inl (w.no b h0 h1 hb)
theorem Wk.imm (w : Wk G root up n dl) {t : List (List Bool)} {D : Int → Int → Prop} (ht : TabOf t n D) (hD : ∀ a b : Int, 0 ≤ a → a < (n : Int) → 0 ≤ b → b < (n : Int) → (D a b ↔ Dom G root a b)) (a b : Int) (ha0 : 0 ≤ a) (ha1 : a < (n : Int)) (hb0 : 0 ≤ b) (hb1 : b < (n : Int)) : Imm t n a b ↔ rd dl b = a := by
 have tr := w.tree; have hdb : ∀ x y : Int, 0 ≤ x → x < (n : Int) → 0 ≤ y → y < (n : Int) → (Db t x y = true ↔ Dom G root x y) := fun x y h1 h2 h3 h4 => (ht.iff x y h1 h2 h3 h4).trans (hD x y h1 h2 h3 h4)
 by_cases hb : Rg G root b
 ·have hch : ∀ x, Dom G root x b ↔ Ch (uf up) root b x := fun x => (tr.ch b x hb).symm
  rcases w.yes b hb0 hb1 hb with ⟨hn, e, hlt⟩ | ⟨e, hno⟩
  ·obtain ⟨hu, hub⟩ := tr.up_lt b hb hn; have hu0 := w.rng _ hu; have hbu : Ch (uf up) root b (rd up b) := (tr.ch_step w.rng hb hub).2 ⟨hn, Ch.refl _⟩
   rw [e]; constructor
   ·rintro ⟨h1, h2, h3⟩
    have hba : Ch (uf up) root b a := (hch a).1 ((hdb a b ha0 ha1 hb0 hb1).1 h2)
    have hua := ((tr.ch_step w.rng hb h1).1 hba).2; have haR := tr.ch_rg w.rng hb hba; have h4 := h3 (rd up b) hu0 hlt; unfold Near at h4
    rw [decide_eq_false hub, (hdb _ b hu0 hlt hb0 hb1).2 ((hch _).2 hbu)] at h4; have h5 : Dom G root (rd up b) a := (hdb _ a hu0 hlt ha0 ha1).1 (by simpa using h4)
    exact (tr.anti w.rng hu hua ((tr.ch a _ haR).2 h5)).symm
   ·rintro rfl
    refine ⟨hub, (hdb _ b hu0 hlt hb0 hb1).2 ((hch _).2 hbu), fun c hc0 hc1 => ?_⟩
    unfold Near
    by_cases hcb : c = b
    ·rw [decide_eq_true hcb]; rfl
    ·by_cases hcD : Db t c b = true
     ·have h1 := ((tr.ch_step w.rng hb hcb).1 ((hch c).1 ((hdb c b hc0 hc1 hb0 hb1).1 hcD))).2; rw [(hdb c _ hc0 hc1 hu0 hlt).2 ((tr.ch _ c hu).1 h1)]; simp
     ·rw [Bool.eq_false_iff.2 hcD]; simp
  ·rw [e]; constructor
   ·rintro ⟨h1, h2, _⟩
    exact absurd (hno a ha0 ha1 ((hch a).1 ((hdb a b ha0 ha1 hb0 hb1).1 h2))) h1
   ·intro h; omega
 ·rw [w.no b hb0 hb1 hb]; constructor
  ·rintro ⟨_, h2, _⟩
   exact absurd ((hdb a b ha0 ha1 hb0 hb1).1 h2).1 hb
  ·intro h; omega
end
theorem posts_l0 (x0 : List (List Int)) (n : Nat) (hn : n ≤ 100000) (hx : x0.length = n) (u : List Int) (hu : u.length = n) : ∀ (d i : Nat) (a : List Int), i + d = n → a.length = n → (∀ x : Int, 0 ≤ x → x < (n : Int) → rd a x = if x < (i : Int) ∧ rd u x = (n : Int) then -1 else rd u x) →
  ∃ r, r.length = n ∧ (∀ x : Int, 0 ≤ x → x < (n : Int) → rd r x = if rd u x = (n : Int) then -1 else rd u x) ∧ Evt (fun k => Go.Proofs.Ytjjedbcgkljdeaa.C.graph_posts.l0 k x0 a (n : Int) (i : Int)) r
 | 0, i, a, hd, ha, h => by
  refine ⟨a, ha, fun x h0 h1 => ?_, Evt.succ ?_⟩
  ·rw [h x h0 h1]; by_cases e : rd u x = (n : Int)
   ·rw [if_pos e, if_pos ⟨by omega, e⟩]
   ·rw [if_neg e, if_neg (fun h => e h.2)]
  ·simp only [Go.Proofs.Ytjjedbcgkljdeaa.C.graph_posts.l0]
   exact Evt.neg (by omega) (Evt.const a)
 | d + 1, i, a, hd, ha, h => by
  have hi := h (i : Int) (by omega) (by omega)
  rw [if_neg (by omega)] at hi
  by_cases e : rd u (i : Int) = (n : Int)
  ·obtain ⟨r, r1, r2, r3⟩ := posts_l0 x0 n hn hx u hu d (i + 1) (a.set (i : Int).toNat (-1)) (by omega) (by simp [ha]) (fun x h0 h1 => by
    rw [rd_set a (i : Int) (-1) x (by omega) (by omega) h0]
    by_cases ex : x = (i : Int)
    ·subst ex; rw [if_pos rfl, if_pos ⟨by omega, e⟩]
    ·rw [if_neg ex, h x h0 h1]; by_cases e2 : rd u x = (n : Int)
     ·by_cases e3 : x < (i : Int)
      ·rw [if_pos ⟨e3, e2⟩, if_pos ⟨by omega, e2⟩]
      ·rw [if_neg (fun h => e3 h.1), if_neg (fun h => by omega)]
     ·rw [if_neg (fun h => e2 h.2), if_neg (fun h => e2 h.2)])
   refine ⟨r, r1, r2, Evt.succ ?_⟩
   simp only [Go.Proofs.Ytjjedbcgkljdeaa.C.graph_posts.l0, wrap_succ i (by omega)]
   exact Evt.pos (by omega) (Evt.pos (by omega) (Evt.pos (by omega) (Evt.pos (by rw [hi, hx]; exact e) r3)))
  ·obtain ⟨r, r1, r2, r3⟩ := posts_l0 x0 n hn hx u hu d (i + 1) a (by omega) ha (fun x h0 h1 => by
    rw [h x h0 h1]; by_cases e2 : rd u x = (n : Int)
    ·by_cases e3 : x < (i : Int)
     ·rw [if_pos ⟨e3, e2⟩, if_pos ⟨by omega, e2⟩]
     ·have : x ≠ (i : Int) := fun h => by subst h; exact e e2
      rw [if_neg (fun h => e3 h.1), if_neg (fun h => by omega)]
    ·rw [if_neg (fun h => e2 h.2), if_neg (fun h => e2 h.2)])
   refine ⟨r, r1, r2, Evt.succ ?_⟩
   simp only [Go.Proofs.Ytjjedbcgkljdeaa.C.graph_posts.l0, wrap_succ i (by omega)]
   exact Evt.pos (by omega) (Evt.pos (by omega) (Evt.pos (by omega) (Evt.neg (by rw [hi, hx]; exact e) r3)))
theorem rd_L1_snoc (T : List (List Int)) (r : List Int) (a : Int) (h0 : 0 ≤ a) : rd_L1 (T ++ [r]) a = if a < (T.length : Int) then rd_L1 T a else if a = (T.length : Int) then r else [] := by
 unfold rd_L1
 simp only [List.getD_eq_getElem?_getD]
 by_cases h : a < (T.length : Int)
 ·rw [if_pos h, List.getElem?_append_left (by omega)]
 ·rw [if_neg h, List.getElem?_append_right (by omega)]
  by_cases e : a = (T.length : Int)
  ·rw [if_pos e, show a.toNat - T.length = 0 by omega]; rfl
  ·rw [if_neg e, List.getElem?_eq_none (by simp; omega)]; rfl
theorem rch_snoc {T : List (List Int)} {X : List Int} (hT : Gr T) (hX : InR T.length X) {P : Int → Bool} (hP : P (T.length : Int) = false) (x : Int) :
  Rch (T ++ [X]) P [(T.length : Int)] x ↔ x = (T.length : Int) ∨ Rch T P X x := by
 constructor
 ·intro h
  induction h with
  | base h _ => exact .inl (List.mem_singleton.1 h)
  | @step a y _ hy hPy ih =>
   right
   rcases ih with rfl | ih
   ·rw [rd_L1_snoc _ _ _ (by omega), if_neg (by omega), if_pos rfl] at hy
    exact Rch.base hy hPy
   ·obtain ⟨a0, a1⟩ := ih.range hT hX; rw [rd_L1_snoc _ _ _ a0, if_pos a1] at hy; exact Rch.step ih hy hPy
 ·have hroot : Rch (T ++ [X]) P [(T.length : Int)] (T.length : Int) := Rch.base (by simp) hP
  rintro (rfl | h)
  ·exact hroot
  ·induction h with
   | base h hPx => exact Rch.step hroot (by rw [rd_L1_snoc _ _ _ (by omega), if_neg (by omega), if_pos rfl]; exact h) hPx
   | @step a y ha hy hPy ih =>
    obtain ⟨a0, a1⟩ := ha.range hT hX; exact Rch.step ih (by rw [rd_L1_snoc _ _ _ a0, if_pos a1]; exact hy) hPy
theorem posts_ev (g : List (List Int)) (hg : Gr g) (hn : g.length ≤ 40) (hr : ∀ r ∈ g, r.length ≤ 4) :
  ∃ T up pl t, TurnedOf 4 g T ∧ Evt (fun k => Go.Proofs.Ytjjedbcgkljdeaa.C.graph_posts.f k g) pl ∧ Wk (T ++ [exitsL g 0]) (g.length : Int) up g.length pl ∧ Evt (fun k => r7_PostTable.f k g) t ∧ TabOf t g.length (PD g T) ∧ Evt (fun k => r7_Immediate.f k t) pl ∧
   (∀ a b : Int, 0 ≤ a → a < (g.length : Int) → 0 ≤ b → b < (g.length : Int) → (PD g T a b ↔ Dom (T ++ [exitsL g 0]) (g.length : Int) a b)) ∧ (∀ b : Int, 0 ≤ b → b < (g.length : Int) → (Rg (T ++ [exitsL g 0]) (g.length : Int) b ↔ Rch T (fun _ => false) (exitsL g 0) b)) := by
 obtain ⟨T, hTe, hT⟩ := turned_ev 4 (by omega) g hg (by omega) (by omega) hr
 have hlT := hT.len; have hX : InR T.length (exitsL g 0) := by rw [hlT]; exact exits_inR g
 have hXl := exits_len g; have hGl : (T ++ [exitsL g 0]).length = g.length + 1 := by simp [hlT]
 have hG : Gr (T ++ [exitsL g 0]) := by
  intro r hr x hx
  rw [hGl]; rcases List.mem_append.1 hr with h | h
  ·have := hT.gr r h x hx; omega
  ·obtain rfl := List.mem_singleton.1 h; have := hX x hx; omega
 have hrows : ∀ r ∈ T ++ [exitsL g 0], r.length ≤ 1000 := by
  intro r hr
  rcases List.mem_append.1 hr with h | h
  ·obtain ⟨i, hi, rfl⟩ := List.mem_iff_getElem.1 h; have := hT.rows (i : Int)
   rw [rd_L1_nat T i hi] at this; omega
  ·obtain rfl := List.mem_singleton.1 h; omega
 obtain ⟨up, hue, hU⟩ := tree_ev 1000 (by omega) (T ++ [exitsL g 0]) (g.length : Int) hG (by omega) (by omega) (by omega) (by omega) hrows
 have hin : InR (T ++ [exitsL g 0]).length [(g.length : Int)] := fun x hx => by obtain rfl := List.mem_singleton.1 hx; omega
 have hrng : ∀ x, Rg (T ++ [exitsL g 0]) (g.length : Int) x → 0 ≤ x ∧ x < (g.length : Int) + 1 := fun x h => by have := h.range hG hin; omega
 have hul := hU.len; have hcl : ((up.set ((g.length : Int)).toNat (-1)).take g.length).length = g.length := by simp [List.length_take]; omega
 have hcut : ∀ x : Int, 0 ≤ x → x < (g.length : Int) → rd ((up.set ((g.length : Int)).toNat (-1)).take g.length) x = rd up x := fun x h0 h1 => by
  unfold rd
  simp only [List.getD_eq_getElem?_getD, List.getElem?_take, List.getElem?_set]
  rw [if_pos (by omega), if_neg (by omega)]
 obtain ⟨pl, p1, p2, p3⟩ := posts_l0 g g.length (by omega) rfl _ hcl g.length 0 _ (by omega) hcl (fun x h0 h1 => by rw [if_neg (fun h => by omega)])
 obtain ⟨t, u, hu, ht, ht2⟩ := ptable_ev g hg hn hr; have hPDeq : ∀ a b, PD g u a b ↔ PD g T a b := fun a b => ⟨fun h => ⟨PD.turned hu hT h.1, fun hc => h.2 (PD.turned hT hu hc)⟩, fun h => ⟨PD.turned hT hu h.1, fun hc => h.2 (PD.turned hu hT hc)⟩⟩
 have ht3 : TabOf t g.length (PD g T) := ⟨ht2.len, ht2.row, fun a b h0 h1 h2 h3 => (ht2.iff a b h0 h1 h2 h3).trans (hPDeq a b)⟩
 have hsn : ∀ P : Int → Bool, P (g.length : Int) = false → ∀ x, Rch (T ++ [exitsL g 0]) P [(g.length : Int)] x ↔ x = (g.length : Int) ∨ Rch T P (exitsL g 0) x := fun P hP x => by
  have := rch_snoc hT.gr hX (P := P) (by rw [hlT]; exact hP) x
  rwa [hlT] at this
 have hRg : ∀ b : Int, 0 ≤ b → b < (g.length : Int) → (Rg (T ++ [exitsL g 0]) (g.length : Int) b ↔ Rch T (fun _ => false) (exitsL g 0) b) := fun b h0 h1 => by
  unfold Rg
  rw [hsn _ rfl]; exact ⟨fun h => h.resolve_left (by omega), .inr⟩
 have hDom : ∀ a b : Int, 0 ≤ a → a < (g.length : Int) → 0 ≤ b → b < (g.length : Int) → (PD g T a b ↔ Dom (T ++ [exitsL g 0]) (g.length : Int) a b) := fun a b ha0 ha1 hb0 hb1 => by
  unfold PD Dom
  rw [hRg b hb0 hb1, hsn (fun n => n == a) (by simp; omega)]
  exact ⟨fun h => ⟨h.1, fun hc => hc.elim (fun e => by omega) h.2⟩, fun h => ⟨h.1, fun hc => h.2 (.inr hc)⟩⟩
 have hw : Wk (T ++ [exitsL g 0]) (g.length : Int) up g.length pl := by
  refine ⟨hU, fun x h => (hrng x h).1, p1, fun b hb0 hb1 hb => ?_, fun b hb0 hb1 hb => ?_⟩
  ·rw [p2 b hb0 hb1, hcut b hb0 hb1]; have hne : b ≠ (g.length : Int) := by omega
   have hu2 := (hU.up_lt b hb hne).1; by_cases e : rd up b = (g.length : Int)
   ·rw [if_pos e]; refine .inr ⟨rfl, fun a ha0 ha1 hc => ?_⟩
    by_cases ea : a = b
    ·exact ea
    ·have h1 := ((hU.ch_step (fun x h => (hrng x h).1) hb ea).1 hc).2
     rw [e] at h1; have := h1.root_eq
     omega
   ·rw [if_neg e]; exact .inl ⟨hne, rfl, by have := hrng _ hu2; omega⟩
  ·rw [p2 b hb0 hb1, hcut b hb0 hb1, hU.no b hb0 (by omega) hb, if_neg (by omega)]
 refine ⟨T, up, pl, t, hT, ?_, hw, ht, ht3, imm_ev t g.length (by omega) ht3.len ht3.row _ hw.len hw.range (fun a b ha0 ha1 hb0 hb1 => hw.imm ht3 hDom a b ha0 ha1 hb0 hb1), hDom, hRg⟩
 unfold Go.Proofs.Ytjjedbcgkljdeaa.C.graph_posts.f
 refine Evt.bind hTe (Evt.bind (exits_ev g (by omega)) (Evt.pos (by omega) (Evt.bind (a := (up.set ((g.length : Int)).toNat (-1)).take g.length) ?_ ?_)))
 ·unfold Go.Proofs.Ytjjedbcgkljdeaa.B.graph_treeCut.f
  refine Evt.bind hue (Evt.pos (by omega) (Evt.pos (by simp; omega) ?_))
  simp only [Int.toNat_natCast]
  exact Evt.const _
 ·rw [hcl]; exact p3
end Go.Proofs.Ytjjedbcgkljdeaa.M
end
section
namespace Go.Proofs.Ytjjedbcgkljdeaa.D
open Go.RowKit Go.Proofs.YtjjedbcgkljdeaaW.PrintWords Go.Proofs.YtjjedbcgkljdeaaW.PrintLast Go.Proofs.YtjjedbcgkljdeaaW.PrintMore Go.Proofs.Ytjjedbcgkljdeaa.A Go.Proofs.Ytjjedbcgkljdeaa.B Go.Proofs.Ytjjedbcgkljdeaa.C
set_option linter.unusedVariables false
set_option linter.unusedSimpArgs false
def rd_L1 (xs : List (List Int)) (i : Int) : (List Int) := xs.getD i.toNat ([] : List Int)
theorem at_L1 {w : World} {A : Option Addr} {n : Nat} {xs : List (List Int)} (h : Kd.C (Kd.slice 3 (Kd.int .i64)) w A n xs) (i : Int) (h0 : 0 ≤ i) (h1 : i < n) : ∃ ad A0 c0, A = some ad ∧ w.cell? (ad.add i.toNat) = some (.slice A0 (rd_L1 xs i).length c0) ∧ (rd_L1 xs i).length ≤ c0 ∧ (Kd.int .i64).C w A0 (rd_L1 xs i).length (rd_L1 xs i) := by
 obtain ⟨ad, c, e, _, hK, hc0⟩ := Kd.C_get h ([] : List Int) i h0 h1; have hc : ∀ j u, c[j]? = some u → w.cell? (ad.add (i.toNat * 1 + j)) = some u := hc0
 obtain ⟨A0, c0, rfl, l0, g0⟩ := hK; exact ⟨ad, A0, c0, e, by have hq := hc 0 _ rfl; rwa [Nat.mul_one, Nat.add_zero] at hq, l0, g0⟩
end Go.Proofs.Ytjjedbcgkljdeaa.D
end
section
namespace Go.Proofs.Ytjjedbcgkljdeaa.D
open Go.RowKit Go.Proofs.YtjjedbcgkljdeaaW.PrintWords Go.Proofs.YtjjedbcgkljdeaaW.PrintLast Go.Proofs.YtjjedbcgkljdeaaW.PrintMore Go.Proofs.Ytjjedbcgkljdeaa.A Go.Proofs.Ytjjedbcgkljdeaa.B Go.Proofs.Ytjjedbcgkljdeaa.C
set_option linter.unusedVariables false
set_option linter.unusedSimpArgs false
def graph_Region.f (k : Nat) (l0 : List (List Int)) (a1 : Int) : Option (List Int × Int) := (graph_valid.f k l0).bind fun t101 => (if t101 = true then ((graph_within.f k l0 (([a1] : List Int))).bind fun t105 => (if t105 = true then ((graph_posts.f k l0).bind fun t106 => (if 0 ≤ a1 then (if a1 < (t106.length : Int) then (if a1 < (l0.length : Int) then ((graph_fromReg.f k l0 (rd_L1 l0 a1) (rd t106 a1)).bind fun t111 => ((graph_list.f k t111).bind fun t114 => (some (t114, 0)))) else (none)) else (none)) else (none))) else (some (([] : List Int), 6)))) else (some (([] : List Int), 1)))
theorem graph_Region.mono : ∀ a0 a1 k, LeO (graph_Region.f k a0 a1) (graph_Region.f (k + 1) a0 a1) := by
 intro a0 a1 k
 unfold graph_Region.f
 repeat' first
   | (with_reducible exact graph_fromReg.mono _ _ _ _)
   | (with_reducible exact graph_list.mono _ _)
   | (with_reducible exact graph_posts.mono _ _)
   | (with_reducible exact graph_valid.mono _ _)
   | (with_reducible exact graph_within.mono _ _ _)
   | (with_reducible exact LeO.refl _)
   | (with_reducible exact LeO.none _)
   | (with_reducible refine LeO.ite ?_ ?_)
   | (with_reducible refine LeO.bind ?_ (fun _ => ?_))
set_option maxHeartbeats 8000000 in
set_option maxRecDepth 100000 in
theorem graph_Region.calls (k : Nat) (A0 : Option Addr) (c0 : Nat) (l0 : List (List Int)) (a1 : Int) (r1 : List Int) (r2 : Int) (w : World) (hr0 : Kd.C (Kd.slice 3 (Kd.int .i64)) w A0 l0.length l0) (hc0 : l0.length ≤ c0) (h : graph_Region.f k l0 a1 = some (r1, r2)) :
  Calls Try.prog 23 #[.slice A0 l0.length c0, .int .i64 a1] w fun e w' => ∃ v0_ : Value, e = .returned (.tuple #[v0_, .int .i64 r2]) ∧ Kd.R (Kd.int .i64) 3 w' w.heap.size (fun _ => True) v0_ r1 ∧ Below w.heap.size w w' := by
 have HR0 := Aside0.mk hr0; have HC0 := Aside0.mk hc0; clear hr0 hc0; have HB := Aside0.mk (Below.refl w.heap.size w); have H : ((graph_valid.f k l0).bind fun t101 => (if t101 = true then ((graph_within.f k l0 (([a1] : List Int))).bind fun t105 => (if t105 = true then ((graph_posts.f k l0).bind fun t106 => (if 0 ≤ a1 then (if a1 < (t106.length : Int) then (if a1 < (l0.length : Int) then ((graph_fromReg.f k l0 (rd_L1 l0 a1) (rd t106 a1)).bind fun t111 => ((graph_list.f k t111).bind fun t114 => (some (t114, 0)))) else (none)) else (none)) else (none))) else (some (([] : List Int), 6)))) else (some (([] : List Int), 1)))) = some (r1, r2) := h
 clear h; replace H := Option.bind_eq_some_iff.mp H; obtain ⟨t101, A30, H⟩ := H; replace H : (if t101 = true then ((graph_within.f k l0 (([a1] : List Int))).bind fun t105 => (if t105 = true then ((graph_posts.f k l0).bind fun t106 => (if 0 ≤ a1 then (if a1 < (t106.length : Int) then (if a1 < (l0.length : Int) then ((graph_fromReg.f k l0 (rd_L1 l0 a1) (rd t106 a1)).bind fun t111 => ((graph_list.f k t111).bind fun t114 => (some (t114, 0)))) else (none)) else (none)) else (none))) else (some (([] : List Int), 6)))) else (some (([] : List Int), 1))) = some (r1, r2) := H
 have A3 := Aside0.mk A30; clear A30; by_cases c4 : t101 = true
 ·subst c4; have H1 : ((graph_within.f k l0 (([a1] : List Int))).bind fun t105 => (if t105 = true then ((graph_posts.f k l0).bind fun t106 => (if 0 ≤ a1 then (if a1 < (t106.length : Int) then (if a1 < (l0.length : Int) then ((graph_fromReg.f k l0 (rd_L1 l0 a1) (rd t106 a1)).bind fun t111 => ((graph_list.f k t111).bind fun t114 => (some (t114, 0)))) else (none)) else (none)) else (none))) else (some (([] : List Int), 6)))) = some (r1, r2) := by rw [if_pos rfl] at H; exact H
  clear H; have H := H1; clear H1; obtain ⟨y102, hy102⟩ : ∃ y_ : List Int, y_ = (([a1] : List Int)) := ⟨_, rfl⟩; replace H : ((graph_within.f k l0 y102).bind fun t105 => (if t105 = true then ((graph_posts.f k l0).bind fun t106 => (if 0 ≤ a1 then (if a1 < (t106.length : Int) then (if a1 < (l0.length : Int) then ((graph_fromReg.f k l0 (rd_L1 l0 a1) (rd t106 a1)).bind fun t111 => ((graph_list.f k t111).bind fun t114 => (some (t114, 0)))) else (none)) else (none)) else (none))) else (some (([] : List Int), 6)))) = some (r1, r2) := by first | (with_reducible first | (rw [hy102]; exact H) | exact H) | (have H2_ := (Option.bind_some _ _).symm.trans H; first | with_reducible exact H2_ | (rw [hy102]; exact H2_)) | (rw [hy102]; exact H) | exact H
  have Ny102 := Aside0.mk hy102; clear hy102; replace H := Option.bind_eq_some_iff.mp H; obtain ⟨t105, A50, H⟩ := H; replace H : (if t105 = true then ((graph_posts.f k l0).bind fun t106 => (if 0 ≤ a1 then (if a1 < (t106.length : Int) then (if a1 < (l0.length : Int) then ((graph_fromReg.f k l0 (rd_L1 l0 a1) (rd t106 a1)).bind fun t111 => ((graph_list.f k t111).bind fun t114 => (some (t114, 0)))) else (none)) else (none)) else (none))) else (some (([] : List Int), 6))) = some (r1, r2) := H
  have A5 := Aside0.mk A50; clear A50; by_cases c6 : t105 = true
  ·subst c6; have H1 : ((graph_posts.f k l0).bind fun t106 => (if 0 ≤ a1 then (if a1 < (t106.length : Int) then (if a1 < (l0.length : Int) then ((graph_fromReg.f k l0 (rd_L1 l0 a1) (rd t106 a1)).bind fun t111 => ((graph_list.f k t111).bind fun t114 => (some (t114, 0)))) else (none)) else (none)) else (none))) = some (r1, r2) := by rw [if_pos rfl] at H; exact H
   clear H; have H := H1; clear H1; replace H := Option.bind_eq_some_iff.mp H; obtain ⟨t106, A70, H⟩ := H; replace H : (if 0 ≤ a1 then (if a1 < (t106.length : Int) then (if a1 < (l0.length : Int) then ((graph_fromReg.f k l0 (rd_L1 l0 a1) (rd t106 a1)).bind fun t111 => ((graph_list.f k t111).bind fun t114 => (some (t114, 0)))) else (none)) else (none)) else (none)) = some (r1, r2) := H
   have A7 := Aside0.mk A70; clear A70; by_cases c8 : 0 ≤ a1
   ·rw [if_pos c8] at H; have c8b0 : decide (0 ≤ a1) = true := decide_eq_true c8
    clear c8; by_cases c9 : a1 < (t106.length : Int)
    ·rw [if_pos c9] at H; have c9b0 : decide (a1 < (t106.length : Int)) = true := decide_eq_true c9
     clear c9; by_cases c10 : a1 < (l0.length : Int)
     ·rw [if_pos c10] at H; have c10b0 : decide (a1 < (l0.length : Int)) = true := decide_eq_true c10
      clear c10; replace H := Option.bind_eq_some_iff.mp H; obtain ⟨t111, A110, H⟩ := H; replace H : ((graph_list.f k t111).bind fun t114 => (some (t114, 0))) = some (r1, r2) := H
      have A11 := Aside0.mk A110; clear A110; replace H := Option.bind_eq_some_iff.mp H; obtain ⟨t114, A120, H⟩ := H; replace H : (some (t114, 0)) = some (r1, r2) := H; have A12 := Aside0.mk A120; clear A120; simp only [Option.some.injEq, Prod.mk.injEq] at H
      obtain ⟨rfl, rfl⟩ := H; go_enter Try.func23, Try.ntmps23
      go_wp2_with (first | ((with_reducible refine gate_store (t := 3) (p := 6) rfl ?_); refine box_op rfl rfl rfl rfl ?_; intro Wb_ hbb_ hbx_; have nb_ := Aside0.mk (below_step (by repeat (first | (with_reducible first | exact HB.out | apply below_alloc | apply pw_below_drewN | apply below_drew1) | exact HB.out)) hbb_); clear HB; have HB := nb_; have HBX_ := Aside0.mk hbx_; have hw110_ := (hbb_.cell (World.block_lt_of_cell? _ _ hx110_0)).trans hx110_0; have t_ := Aside0.mk (Kd.R_below HO104.out hbb_); clear HO104; have HO104 := t_; clear t_; have t_ := Aside0.mk (Kd.R_below HO108.out hbb_); clear HO108; have HO108 := t_; clear t_; clear hbb_ hbx_ nb_) | ((with_reducible refine gate_callee (f := 47) rfl ?_); refine goesL_ (some 8) rfl rfl Try.func47 (by kernel_rfl) rfl #[.slice A0 l0.length c0] rfl (by (try simp only [List.map_toArray, List.map_cons, List.map_nil]); first | done | rfl | (simp only [List.length_drop, List.length_take]; rfl)) ?_; (with_reducible refine (graph_valid.calls k _ _ l0 true _ ?side1 ?side2 A3.out).mono ?_); (case side1 => repeat (first | exact HR0.out | with_reducible first | refine Kd.C_alloc ?_ _ | refine Kd.C_drewN ?_ _ | refine Kd.C_drew ?_)); (case side2 => exact HC0.out); rintro e w' ⟨rfl, ⟨nd, rfl⟩⟩; refine ⟨_, rfl, ?_⟩) | ((with_reducible refine gate_dst (N := 12) rfl ?_); refine Kd.R_lit (Kd.int .i64) _ 3 ?hg (N := 12) ?hd (xs := ([a1] : List Int)) (inner := [.int .i64 a1]) (ok := fun _ => True) (okp := fun _ => True) ?hr ?hp (fun _ hk => hk) trivial (Below.refl _ _) (Nat.le_refl _) (by simp) ?_; (case hd => rfl); (case hg => rfl); (case hr => first | (go_simp; done) | (go_simp; rfl)); (case hp => exact (Reps.one (show Kd.M (Kd.int .i64) _ _ _ a1 [.int .i64 a1] from rfl) (Reps.none _ _))); intro v103 w13 ho14 hb hg_ hnew_; clear hg_ hnew_; (first | rw [← Ny102.out] at ho14 | (simp only [Int.reduceToNat] at ho14; rw [← Ny102.out] at ho14)); have n0_ := Aside0.mk (Kd.R_lower ho14 (below_size (by repeat (first | (with_reducible first | exact HB.out | apply below_alloc | apply pw_below_drewN | apply below_drew1) | exact HB.out)))); have n1_ := Aside0.mk (below_step (by repeat (first | (with_reducible first | exact HB.out | apply below_alloc | apply pw_below_drewN | apply below_drew1) | exact HB.out)) hb); clear HB; have HO104 := n0_; have HB := n1_; clear n0_ n1_; clear hb ho14; obtain ⟨Ao15, co15, eo15⟩ := Kd.R_slice HO104.out; subst eo15) | ((with_reducible refine gate_callee (f := 60) rfl ?_); refine goesL_ (some 13) rfl rfl Try.func60 (by kernel_rfl) rfl #[.slice A0 l0.length c0, .slice Ao15 y102.length co15] rfl (by (try simp only [List.map_toArray, List.map_cons, List.map_nil]); first | done | rfl | (simp only [List.length_drop, List.length_take]; rfl)) ?_; (with_reducible refine (graph_within.calls k _ _ l0 _ _ y102 true _ ?side1 ?side2 ?side3 ?side4 A5.out).mono ?_); (case side1 => repeat (first | exact (Kd.C_below HR0.out HB.out) | with_reducible first | refine Kd.C_alloc ?_ _ | refine Kd.C_drewN ?_ _ | refine Kd.C_drew ?_)); (case side2 => exact HC0.out); (case side3 => repeat (first | exact (Kd.R_reads' HO104.out).2.2 | with_reducible first | refine Kd.C_alloc ?_ _ | refine Kd.C_drewN ?_ _ | refine Kd.C_drew ?_)); (case side4 => exact (Kd.R_reads' HO104.out).2.1); rintro e w' ⟨rfl, ⟨nd, rfl⟩⟩; refine ⟨_, rfl, ?_⟩) | ((with_reducible refine gate_callee (f := 61) rfl ?_); refine goesL_ (some 16) rfl rfl Try.func61 (by kernel_rfl) rfl #[.slice A0 l0.length c0] rfl (by (try simp only [List.map_toArray, List.map_cons, List.map_nil]); first | done | rfl | (simp only [List.length_drop, List.length_take]; rfl)) ?_; (with_reducible refine (graph_posts.calls k _ _ l0 t106 _ ?side1 ?side2 A7.out).mono ?_); (case side1 => repeat (first | exact (Kd.C_below HR0.out (by repeat (first | (with_reducible first | exact HB.out | apply below_alloc | apply pw_below_drewN | apply below_drew1) | exact HB.out))) | with_reducible first | refine Kd.C_alloc ?_ _ | refine Kd.C_drewN ?_ _ | refine Kd.C_drew ?_)); (case side2 => exact HC0.out); rintro e w16 ⟨v107, rfl, ho0, hb⟩; refine ⟨_, rfl, ?_⟩; have n0_ := Aside0.mk (Kd.R_elder' (by (with_reducible repeat (first | apply Kd.R_alloc | apply Kd.R_drewN | apply Kd.R_drew)); exact HO104.out) (Kd.R_base ho0) hb); have n1_ := Aside0.mk (Kd.R_lower (Kd.R_new' ho0 (Kd.R_lt (by (with_reducible repeat (first | apply Kd.R_alloc | apply Kd.R_drewN | apply Kd.R_drew)); exact HO104.out))) (below_size (by repeat (first | (with_reducible first | exact HB.out | apply below_alloc | apply pw_below_drewN | apply below_drew1) | exact HB.out)))); have n2_ := Aside0.mk (below_step (by repeat (first | (with_reducible first | exact HB.out | apply below_alloc | apply pw_below_drewN | apply below_drew1) | exact HB.out)) hb); clear HO104; clear HB; have HO104 := n0_; have HO108 := n1_; have HB := n2_; clear n0_ n1_ n2_; (try clear hb); (try clear hb2); (try clear hk); (try clear hi); (try clear ho0); obtain ⟨Ao17, co17, eo17⟩ := Kd.R_slice HO108.out; subst eo17; have p109 : 0 ≤ (a1 : Int) := of_decide_eq_true (by with_reducible assumption); have q109 : a1 < (t106.length : Int) := of_decide_eq_true (by with_reducible assumption); obtain ⟨ad109, e109, hx109_0⟩ := Kd.at_int (Kd.R_reads' HO108.out).2.2 a1 p109 q109; cases e109; replace p109 := eq_true p109; replace q109 := eq_true q109; have p110 : 0 ≤ (a1 : Int) := of_decide_eq_true (by with_reducible assumption); have q110 : a1 < (l0.length : Int) := of_decide_eq_true (by with_reducible assumption); obtain ⟨ad110, A110_0, c110_0, e110, hx110_0, hl110_0, hi110_0⟩ := at_L1 HR0.out a1 p110 q110; cases e110; replace hx110_0 := (HB.out.cell (World.block_lt_of_cell? w _ hx110_0)).trans hx110_0; have HR110_0 := Aside0.mk hi110_0; have HC110_0 := Aside0.mk hl110_0; clear hi110_0 hl110_0; replace p110 := eq_true p110; replace q110 := eq_true q110) | ((go_at_call 49); (with_reducible refine (graph_fromReg.calls k _ _ l0 _ _ (rd_L1 l0 a1) (rd t106 a1) t111 _ ?side1 ?side2 ?side3 ?side4 A11.out HBX_.out).mono ?_); (case side1 => repeat (first | exact (Kd.C_below HR0.out HB.out) | with_reducible first | refine Kd.C_alloc ?_ _ | refine Kd.C_drewN ?_ _ | refine Kd.C_drew ?_)); (case side2 => exact HC0.out); (case side3 => repeat (first | exact (Kd.C_below HR110_0.out HB.out) | with_reducible first | refine Kd.C_alloc ?_ _ | refine Kd.C_drewN ?_ _ | refine Kd.C_drew ?_)); (case side4 => exact HC110_0.out); rintro e w18 ⟨v112, rfl, ho0, hb⟩; have n0_ := Aside0.mk (Kd.R_below (by (with_reducible repeat (first | apply Kd.R_alloc | apply Kd.R_drewN | apply Kd.R_drew)); exact HO104.out) hb); have n1_ := Aside0.mk (Kd.R_below (by (with_reducible repeat (first | apply Kd.R_alloc | apply Kd.R_drewN | apply Kd.R_drew)); exact HO108.out) hb); have n2_ := Aside0.mk (Kd.R_lower ho0 (below_size (by repeat (first | (with_reducible first | exact HB.out | apply below_alloc | apply pw_below_drewN | apply below_drew1) | exact HB.out)))); have n3_ := Aside0.mk (below_step (by repeat (first | (with_reducible first | exact HB.out | apply below_alloc | apply pw_below_drewN | apply below_drew1) | exact HB.out)) hb); clear HO104; clear HO108; clear HB; have HO104 := n0_; have HO108 := n1_; have HO113 := n2_; have HB := n3_; clear n0_ n1_ n2_ n3_; (try clear hb); (try clear hb2); (try clear hk); (try clear hi); (try clear ho0); obtain ⟨Ao19, co19, eo19⟩ := Kd.R_slice HO113.out; subst eo19) | ((with_reducible refine gate_callee (f := 54) rfl ?_); refine goesL_ (some 27) rfl rfl Try.func54 (by kernel_rfl) rfl #[.slice Ao19 t111.length co19] rfl (by (try simp only [List.map_toArray, List.map_cons, List.map_nil]); first | done | rfl | (simp only [List.length_drop, List.length_take]; rfl)) ?_; (with_reducible refine (graph_list.calls k _ _ t111 t114 _ ?side1 ?side2 A12.out).mono ?_); (case side1 => repeat (first | exact (Kd.R_reads' HO113.out).2.2 | with_reducible first | refine Kd.C_alloc ?_ _ | refine Kd.C_drewN ?_ _ | refine Kd.C_drew ?_)); (case side2 => exact (Kd.R_reads' HO113.out).2.1); rintro e w20 ⟨v115, rfl, ho0, hb⟩; refine ⟨_, rfl, ?_⟩; have n0_ := Aside0.mk (Kd.R_elder' (by (with_reducible repeat (first | apply Kd.R_alloc | apply Kd.R_drewN | apply Kd.R_drew)); exact HO104.out) (Kd.R_base ho0) hb); have n1_ := Aside0.mk (Kd.R_elder' (by (with_reducible repeat (first | apply Kd.R_alloc | apply Kd.R_drewN | apply Kd.R_drew)); exact HO108.out) (Kd.R_base ho0) hb); have n2_ := Aside0.mk (Kd.R_below (by (with_reducible repeat (first | apply Kd.R_alloc | apply Kd.R_drewN | apply Kd.R_drew)); exact HO113.out) hb); have n3_ := Aside0.mk (Kd.R_lower (Kd.R_new' (Kd.R_new' ho0 (Kd.R_lt (by (with_reducible repeat (first | apply Kd.R_alloc | apply Kd.R_drewN | apply Kd.R_drew)); exact HO104.out))) (Kd.R_lt (by (with_reducible repeat (first | apply Kd.R_alloc | apply Kd.R_drewN | apply Kd.R_drew)); exact HO108.out))) (below_size (by repeat (first | (with_reducible first | exact HB.out | apply below_alloc | apply pw_below_drewN | apply below_drew1) | exact HB.out)))); have n4_ := Aside0.mk (below_step (by repeat (first | (with_reducible first | exact HB.out | apply below_alloc | apply pw_below_drewN | apply below_drew1) | exact HB.out)) hb); clear HO104; clear HO108; clear HO113; clear HB; have HO104 := n0_; have HO108 := n1_; have HO113 := n2_; have HO116 := n3_; have HB := n4_; clear n0_ n1_ n2_ n3_ n4_; (try clear hb); (try clear hb2); (try clear hk); (try clear hi); (try clear ho0)))
      go_ret2
      exact ⟨_, by first | rfl | (simp [errW_none, errW_some] <;> rfl) | (simp [*, errW_none, errW_some] <;> rfl), by (with_reducible repeat (first | apply Kd.R_alloc | apply Kd.R_drewN | apply Kd.R_drew)); exact Kd.R_mono HO116.out (fun _ hk => trivial), by repeat (first | (with_reducible first | exact HB.out | apply below_alloc | apply pw_below_drewN | apply below_drew1) | exact HB.out)⟩
     ·rw [if_neg c10] at H; exact absurd H (by simp)
    ·rw [if_neg c9] at H; exact absurd H (by simp)
   ·rw [if_neg c8] at H; exact absurd H (by simp)
  ·replace c6 := Bool.eq_false_iff.mpr c6; subst c6; have H1 : (some (([] : List Int), 6)) = some (r1, r2) := by rw [if_neg (show ¬ (false = true) by decide)] at H; exact H
   clear H; have H := H1; clear H1; simp only [Option.some.injEq, Prod.mk.injEq] at H
   obtain ⟨rfl, rfl⟩ := H; go_enter Try.func23, Try.ntmps23
   go_wp2_with (first | ((with_reducible refine gate_callee (f := 47) rfl ?_); refine goesL_ (some 8) rfl rfl Try.func47 (by kernel_rfl) rfl #[.slice A0 l0.length c0] rfl (by (try simp only [List.map_toArray, List.map_cons, List.map_nil]); first | done | rfl | (simp only [List.length_drop, List.length_take]; rfl)) ?_; (with_reducible refine (graph_valid.calls k _ _ l0 true _ ?side1 ?side2 A3.out).mono ?_); (case side1 => repeat (first | exact HR0.out | with_reducible first | refine Kd.C_alloc ?_ _ | refine Kd.C_drewN ?_ _ | refine Kd.C_drew ?_)); (case side2 => exact HC0.out); rintro e w' ⟨rfl, ⟨nd, rfl⟩⟩; refine ⟨_, rfl, ?_⟩) | ((with_reducible refine gate_dst (N := 12) rfl ?_); refine Kd.R_lit (Kd.int .i64) _ 3 ?hg (N := 12) ?hd (xs := ([a1] : List Int)) (inner := [.int .i64 a1]) (ok := fun _ => True) (okp := fun _ => True) ?hr ?hp (fun _ hk => hk) trivial (Below.refl _ _) (Nat.le_refl _) (by simp) ?_; (case hd => rfl); (case hg => rfl); (case hr => first | (go_simp; done) | (go_simp; rfl)); (case hp => exact (Reps.one (show Kd.M (Kd.int .i64) _ _ _ a1 [.int .i64 a1] from rfl) (Reps.none _ _))); intro v103 w21 ho22 hb hg_ hnew_; clear hg_ hnew_; (first | rw [← Ny102.out] at ho22 | (simp only [Int.reduceToNat] at ho22; rw [← Ny102.out] at ho22)); have n0_ := Aside0.mk (Kd.R_lower ho22 (below_size (by repeat (first | (with_reducible first | exact HB.out | apply below_alloc | apply pw_below_drewN | apply below_drew1) | exact HB.out)))); have n1_ := Aside0.mk (below_step (by repeat (first | (with_reducible first | exact HB.out | apply below_alloc | apply pw_below_drewN | apply below_drew1) | exact HB.out)) hb); clear HB; have HO104 := n0_; have HB := n1_; clear n0_ n1_; clear hb ho22; obtain ⟨Ao23, co23, eo23⟩ := Kd.R_slice HO104.out; subst eo23) | ((with_reducible refine gate_callee (f := 60) rfl ?_); refine goesL_ (some 13) rfl rfl Try.func60 (by kernel_rfl) rfl #[.slice A0 l0.length c0, .slice Ao23 y102.length co23] rfl (by (try simp only [List.map_toArray, List.map_cons, List.map_nil]); first | done | rfl | (simp only [List.length_drop, List.length_take]; rfl)) ?_; (with_reducible refine (graph_within.calls k _ _ l0 _ _ y102 false _ ?side1 ?side2 ?side3 ?side4 A5.out).mono ?_); (case side1 => repeat (first | exact (Kd.C_below HR0.out HB.out) | with_reducible first | refine Kd.C_alloc ?_ _ | refine Kd.C_drewN ?_ _ | refine Kd.C_drew ?_)); (case side2 => exact HC0.out); (case side3 => repeat (first | exact (Kd.R_reads' HO104.out).2.2 | with_reducible first | refine Kd.C_alloc ?_ _ | refine Kd.C_drewN ?_ _ | refine Kd.C_drew ?_)); (case side4 => exact (Kd.R_reads' HO104.out).2.1); rintro e w' ⟨rfl, ⟨nd, rfl⟩⟩; refine ⟨_, rfl, ?_⟩))
   go_ret2
   exact ⟨_, by first | rfl | (simp [errW_none, errW_some] <;> rfl) | (simp [*, errW_none, errW_some] <;> rfl), by first | exact Kd.R_nil _ _ _ _ _ | exact Kd.N_nil _ _ _ _ _ | exact Kd.V_nil _ _ _ _ _ | exact Kd.Q_nil _ _ _ _ _ | exact Kd.S_nil _ _ _ _ _, by repeat (first | (with_reducible first | exact HB.out | apply below_alloc | apply pw_below_drewN | apply below_drew1) | exact HB.out)⟩
 ·replace c4 := Bool.eq_false_iff.mpr c4; subst c4; have H1 : (some (([] : List Int), 1)) = some (r1, r2) := by rw [if_neg (show ¬ (false = true) by decide)] at H; exact H
  clear H; have H := H1; clear H1; simp only [Option.some.injEq, Prod.mk.injEq] at H
  obtain ⟨rfl, rfl⟩ := H; go_enter Try.func23, Try.ntmps23
  go_wp2_with (first | ((with_reducible refine gate_callee (f := 47) rfl ?_); refine goesL_ (some 8) rfl rfl Try.func47 (by kernel_rfl) rfl #[.slice A0 l0.length c0] rfl (by (try simp only [List.map_toArray, List.map_cons, List.map_nil]); first | done | rfl | (simp only [List.length_drop, List.length_take]; rfl)) ?_; (with_reducible refine (graph_valid.calls k _ _ l0 false _ ?side1 ?side2 A3.out).mono ?_); (case side1 => repeat (first | exact HR0.out | with_reducible first | refine Kd.C_alloc ?_ _ | refine Kd.C_drewN ?_ _ | refine Kd.C_drew ?_)); (case side2 => exact HC0.out); rintro e w' ⟨rfl, ⟨nd, rfl⟩⟩; refine ⟨_, rfl, ?_⟩))
  go_ret2
  exact ⟨_, by first | rfl | (simp [errW_none, errW_some] <;> rfl) | (simp [*, errW_none, errW_some] <;> rfl), by first | exact Kd.R_nil _ _ _ _ _ | exact Kd.N_nil _ _ _ _ _ | exact Kd.V_nil _ _ _ _ _ | exact Kd.Q_nil _ _ _ _ _ | exact Kd.S_nil _ _ _ _ _, by repeat (first | (with_reducible first | exact HB.out | apply below_alloc | apply pw_below_drewN | apply below_drew1) | exact HB.out)⟩
end Go.Proofs.Ytjjedbcgkljdeaa.D
end
section
namespace Go.Proofs.Ytjjedbcgkljdeaa.D
open Go Go.RowKit Go.Shelf Go.Proofs.YtjjedbcgkljdeaaW.PrintWords Go.Proofs.YtjjedbcgkljdeaaW.PrintLast Go.Proofs.YtjjedbcgkljdeaaW.PrintMore Go.Proofs.Ytjjedbcgkljdeaa Go.Proofs.Ytjjedbcgkljdeaa.A Go.Proofs.Ytjjedbcgkljdeaa.B Go.Proofs.Ytjjedbcgkljdeaa.C
theorem C_ints {w : World} {A : Option Addr} {xs : List Int} (hm : xs.length ≤ 9223372036854775807) (h : 0 < xs.length → ∃ ad, A = some ad ∧ ∀ j (hj : j < xs.length), w.cell? (ad.add j) = some (.int .i64 xs[j])) : Kd.C (Kd.int .i64) w A xs.length xs := by
 refine ⟨rfl, hm, fun hn => ?_⟩
 obtain ⟨ad, e, hc⟩ := h hn; refine ⟨ad, e, fun j p hj => ⟨[.int .i64 p], rfl, rfl, fun i u hu => ?_⟩⟩
 obtain ⟨hj1, hj2⟩ := List.getElem?_eq_some_iff.1 hj; cases i with
 | zero =>
  simp only [List.getElem?_cons_zero, Option.some.injEq] at hu
  subst hu; rw [show j * (Kd.int .i64).sz + 0 = j by simp [Kd.int, Kd.scalar], hc j hj1, hj2]
 | succ i => simp at hu
theorem C_rows {w : World} {A : Option Addr} {xs : List (List Int)} (hm : xs.length ≤ 9223372036854775807) (h : 0 < xs.length → ∃ ad, A = some ad ∧ ∀ j (hj : j < xs.length), ∃ A1 c1, w.cell? (ad.add j) = some (.slice A1 xs[j].length c1) ∧ xs[j].length ≤ c1 ∧ Kd.C (Kd.int .i64) w A1 xs[j].length xs[j]) : Kd.C (Kd.slice 3 (Kd.int .i64)) w A xs.length xs := by
 refine ⟨rfl, hm, fun hn => ?_⟩
 obtain ⟨ad, e, hc⟩ := h hn; refine ⟨ad, e, fun j p hj => ?_⟩
 obtain ⟨hj1, rfl⟩ := List.getElem?_eq_some_iff.1 hj; obtain ⟨A1, c1, h1, h2, h3⟩ := hc j hj1; refine ⟨[.slice A1 xs[j].length c1], rfl, ⟨A1, c1, rfl, h2, h3⟩, fun i u hu => ?_⟩
 cases i with
 | zero =>
  simp only [List.getElem?_cons_zero, Option.some.injEq] at hu
  subst hu; rw [show j * (Kd.slice 3 (Kd.int .i64)).sz + 0 = j by simp [Kd.slice], h1]
 | succ i => simp at hu
theorem C_litI {w : World} {g : Nat} {xs : List Int} (hm : xs.length ≤ 9223372036854775807) (h : w.heap[g]? = some (.cells (nums .i64 xs).toArray 3 (0, 0))) : Kd.C (Kd.int .i64) w (some ⟨g, 0, none⟩) xs.length xs :=
 C_ints hm fun _ => ⟨_, rfl, fun j hj => by rw [add_plain, blk_cell h j]; simp [nums, hj]⟩
theorem C_litR {w : World} {g : Nat} {xs : List (List Int)} {cs : List Value} (hm : xs.length ≤ 9223372036854775807) (h : w.heap[g]? = some (.cells cs.toArray 33 (0, 0)))
  (hc : ∀ j (hj : j < xs.length), ∃ g1 : Nat, cs[j]? = some (.slice (some ⟨g1, 0, none⟩) xs[j].length xs[j].length) ∧ w.heap[g1]? = some (.cells (nums .i64 xs[j]).toArray 3 (0, 0)) ∧ xs[j].length ≤ 9223372036854775807) : Kd.C (Kd.slice 3 (Kd.int .i64)) w (some ⟨g, 0, none⟩) xs.length xs :=
 C_rows hm fun _ => ⟨_, rfl, fun j hj => by
  obtain ⟨g1, h1, h2, h3⟩ := hc j hj; refine ⟨_, _, ?_, Nat.le_refl _, C_litI h3 h2⟩
  rw [add_plain, blk_cell h j]; simpa using h1⟩
def dD : List (List Int) := [[1, 2], [3], [3], []]
def dL : List (List Int) := [[1], [2, 3], [1], []]
def dR : List (List Int) := [[1, 2], [2], [1]]
def wD (w : World) : World := (((((w.alloc (.cells #[.int .i64 1, .int .i64 2] 3)).alloc (.cells #[.int .i64 3] 3)).alloc (.cells #[.int .i64 3] 3)).alloc (.cells #[] 3)).alloc (.cells #[.slice (some ⟨w.heap.size, 0, none⟩) 2 2, .slice (some ⟨w.heap.size + 1, 0, none⟩) 1 1, .slice (some ⟨w.heap.size + 1 + 1, 0, none⟩) 1 1, .slice (some ⟨w.heap.size + 1 + 1 + 1, 0, none⟩) 0 0] 33))
theorem wD_below (w : World) : Below w.heap.size w (wD w) := below_alloc (below_alloc (below_alloc (below_alloc (below_alloc (Below.refl _ _) _) _) _) _) _
theorem wD_C (w : World) : Kd.C (Kd.slice 3 (Kd.int .i64)) (wD w) (some ⟨w.heap.size + 1 + 1 + 1 + 1, 0, none⟩) dD.length dD :=
 C_litR (cs := [.slice (some ⟨w.heap.size, 0, none⟩) 2 2, .slice (some ⟨w.heap.size + 1, 0, none⟩) 1 1, .slice (some ⟨w.heap.size + 1 + 1, 0, none⟩) 1 1, .slice (some ⟨w.heap.size + 1 + 1 + 1, 0, none⟩) 0 0]) (by decide) (new_at _ (by simp)) (by
  intro j hj
  match j, hj with
  | 0, _ => exact ⟨w.heap.size, rfl, blk_alloc (blk_alloc (blk_alloc (blk_alloc (new_at _ rfl) _) _) _) _, Nat.le_of_ble_eq_true rfl⟩
  | 1, _ => exact ⟨w.heap.size + 1, rfl, blk_alloc (blk_alloc (blk_alloc (new_at _ (by simp)) _) _) _, Nat.le_of_ble_eq_true rfl⟩
  | 2, _ => exact ⟨w.heap.size + 1 + 1, rfl, blk_alloc (blk_alloc (new_at _ (by simp)) _) _, Nat.le_of_ble_eq_true rfl⟩
  | 3, _ => exact ⟨w.heap.size + 1 + 1 + 1, rfl, blk_alloc (new_at _ (by simp)) _, Nat.le_of_ble_eq_true rfl⟩)
def wL (w : World) : World := (((((w.alloc (.cells #[.int .i64 1] 3)).alloc (.cells #[.int .i64 2, .int .i64 3] 3)).alloc (.cells #[.int .i64 1] 3)).alloc (.cells #[] 3)).alloc (.cells #[.slice (some ⟨w.heap.size, 0, none⟩) 1 1, .slice (some ⟨w.heap.size + 1, 0, none⟩) 2 2, .slice (some ⟨w.heap.size + 1 + 1, 0, none⟩) 1 1, .slice (some ⟨w.heap.size + 1 + 1 + 1, 0, none⟩) 0 0] 33))
theorem wL_below (w : World) : Below w.heap.size w (wL w) := below_alloc (below_alloc (below_alloc (below_alloc (below_alloc (Below.refl _ _) _) _) _) _) _
theorem wL_C (w : World) : Kd.C (Kd.slice 3 (Kd.int .i64)) (wL w) (some ⟨w.heap.size + 1 + 1 + 1 + 1, 0, none⟩) dL.length dL :=
 C_litR (cs := [.slice (some ⟨w.heap.size, 0, none⟩) 1 1, .slice (some ⟨w.heap.size + 1, 0, none⟩) 2 2, .slice (some ⟨w.heap.size + 1 + 1, 0, none⟩) 1 1, .slice (some ⟨w.heap.size + 1 + 1 + 1, 0, none⟩) 0 0]) (by decide) (new_at _ (by simp)) (by
  intro j hj
  match j, hj with
  | 0, _ => exact ⟨w.heap.size, rfl, blk_alloc (blk_alloc (blk_alloc (blk_alloc (new_at _ rfl) _) _) _) _, Nat.le_of_ble_eq_true rfl⟩
  | 1, _ => exact ⟨w.heap.size + 1, rfl, blk_alloc (blk_alloc (blk_alloc (new_at _ (by simp)) _) _) _, Nat.le_of_ble_eq_true rfl⟩
  | 2, _ => exact ⟨w.heap.size + 1 + 1, rfl, blk_alloc (blk_alloc (new_at _ (by simp)) _) _, Nat.le_of_ble_eq_true rfl⟩
  | 3, _ => exact ⟨w.heap.size + 1 + 1 + 1, rfl, blk_alloc (new_at _ (by simp)) _, Nat.le_of_ble_eq_true rfl⟩)
def wR (w : World) : World := ((((w.alloc (.cells #[.int .i64 1, .int .i64 2] 3)).alloc (.cells #[.int .i64 2] 3)).alloc (.cells #[.int .i64 1] 3)).alloc (.cells #[.slice (some ⟨w.heap.size, 0, none⟩) 2 2, .slice (some ⟨w.heap.size + 1, 0, none⟩) 1 1, .slice (some ⟨w.heap.size + 1 + 1, 0, none⟩) 1 1] 33))
theorem wR_below (w : World) : Below w.heap.size w (wR w) := below_alloc (below_alloc (below_alloc (below_alloc (Below.refl _ _) _) _) _) _
theorem wR_C (w : World) : Kd.C (Kd.slice 3 (Kd.int .i64)) (wR w) (some ⟨w.heap.size + 1 + 1 + 1, 0, none⟩) dR.length dR :=
 C_litR (cs := [.slice (some ⟨w.heap.size, 0, none⟩) 2 2, .slice (some ⟨w.heap.size + 1, 0, none⟩) 1 1, .slice (some ⟨w.heap.size + 1 + 1, 0, none⟩) 1 1]) (by decide) (new_at _ (by simp)) (by
  intro j hj
  match j, hj with
  | 0, _ => exact ⟨w.heap.size, rfl, blk_alloc (blk_alloc (blk_alloc (new_at _ rfl) _) _) _, Nat.le_of_ble_eq_true rfl⟩
  | 1, _ => exact ⟨w.heap.size + 1, rfl, blk_alloc (blk_alloc (new_at _ (by simp)) _) _, Nat.le_of_ble_eq_true rfl⟩
  | 2, _ => exact ⟨w.heap.size + 1 + 1, rfl, blk_alloc (new_at _ (by simp)) _, Nat.le_of_ble_eq_true rfl⟩)
def same4 (k : Nat) : Option Bool :=
 (r5_SameInts.f k [-1, 0, 0, 0] [-1, 0, 0, 0]).bind fun a => (r5_SameInts.f k [3, 3, 3, -1] [3, 3, 3, -1]).bind fun b => (r5_SameInts.f k [3] [3]).bind fun c => (r5_SameInts.f k [1, 2] [1, 2]).bind fun d =>
  if (a && b && c && d) = true then some true else none
def l7_awake.f (k : Nat) : Option Bool :=
 (graph_Dominators.f k dD).bind fun a => if a = ([-1, 0, 0, 0], 0) then (graph_Postdominators.f k dD).bind fun b => if b = ([3, 3, 3, -1], 0) then
 (graph_Frontier.f k dD).bind fun c => if c = ([[], [3], [3], []], 0) then (graph_Region.f k dD 0).bind fun r => if r = ([1, 2], 0) then
 (graph_Loops.f k dL).bind fun l => if l = ([[], [1, 2], [], []], 0) then (graph_Reducible.f k dR).bind fun d => if d = (false, 0) then same4 k
 else none else none else none else none else none else none
theorem l7_awake.mono : ∀ k, LeO (l7_awake.f k) (l7_awake.f (k + 1)) := fun k => by
 unfold l7_awake.f same4
 refine LeO.bind (graph_Dominators.mono _ k) fun _ => LeO.ite (LeO.bind (graph_Postdominators.mono _ k) fun _ => LeO.ite (LeO.bind (graph_Frontier.mono _ k) fun _ => LeO.ite (LeO.bind (graph_Region.mono _ _ k) fun _ => LeO.ite (LeO.bind (graph_Loops.mono _ k) fun _ => LeO.ite (LeO.bind (graph_Reducible.mono _ k) fun _ => LeO.ite ?_ (LeO.none _)) (LeO.none _)) (LeO.none _)) (LeO.none _)) (LeO.none _)) (LeO.none _)
 exact LeO.bind (r5_SameInts.mono _ _ k) fun _ => LeO.bind (r5_SameInts.mono _ _ k) fun _ => LeO.bind (r5_SameInts.mono _ _ k) fun _ => LeO.bind (r5_SameInts.mono _ _ k) fun _ => LeO.refl _
set_option maxHeartbeats 4000000 in
set_option maxRecDepth 100000 in
theorem l7_awake.calls (k : Nat) (r : Bool) (w : World) (h : l7_awake.f k = some r) :
  Calls Try.prog 14 #[] w fun e w' => e = .returned (.bool r) ∧ Below w.heap.size w w' := by
 unfold l7_awake.f same4 at h
 obtain ⟨v1, hv1, h⟩ := Option.bind_eq_some_iff.mp h; split at h
 case isFalse => cases h
 next e1 =>
 obtain ⟨v2, hv2, h⟩ := Option.bind_eq_some_iff.mp h; split at h
 case isFalse => cases h
 next e2 =>
 obtain ⟨v3, hv3, h⟩ := Option.bind_eq_some_iff.mp h; split at h
 case isFalse => cases h
 next e3 =>
 obtain ⟨v4, hv4, h⟩ := Option.bind_eq_some_iff.mp h; split at h
 case isFalse => cases h
 next e4 =>
 obtain ⟨v5, hv5, h⟩ := Option.bind_eq_some_iff.mp h; split at h
 case isFalse => cases h
 next e5 =>
 obtain ⟨v6, hv6, h⟩ := Option.bind_eq_some_iff.mp h; split at h
 case isFalse => cases h
 next e6 =>
 obtain ⟨s1, hs1, h⟩ := Option.bind_eq_some_iff.mp h; obtain ⟨s2, hs2, h⟩ := Option.bind_eq_some_iff.mp h; obtain ⟨s3, hs3, h⟩ := Option.bind_eq_some_iff.mp h; obtain ⟨s4, hs4, h⟩ := Option.bind_eq_some_iff.mp h; split at h
 case isFalse => cases h
 next e7 =>
 obtain rfl := Option.some.inj h; subst e1 e2 e3 e4 e5 e6; simp only [Bool.and_eq_true] at e7
 obtain ⟨⟨⟨rfl, rfl⟩, rfl⟩, rfl⟩ := e7; have H1 := Aside0.mk hv1; have H2 := Aside0.mk hv2; have H3 := Aside0.mk hv3; have H4 := Aside0.mk hv4; have H5 := Aside0.mk hv5; have H6 := Aside0.mk hv6; have S1 := Aside0.mk hs1; have S2 := Aside0.mk hs2; have S3 := Aside0.mk hs3; have S4 := Aside0.mk hs4; clear hv1 hv2 hv3 hv4 hv5 hv6 hs1 hs2 hs3 hs4 h; go_enter Try.func14, Try.ntmps14
 go_wp2_with fail
 have HB1 := Aside0.mk (wD_below w); have HC := Aside0.mk (wD_C w); refine (graph_Dominators.calls k _ 4 dD _ _ (wD w) HC.out (by decide) H1.out).mono ?_
 rintro e W2 ⟨vA, rfl, hrA, hbA⟩
 obtain ⟨AA, cA, rfl⟩ := Kd.R_slice hrA; have HA := Aside0.mk hrA; have HC2 := Aside0.mk (Kd.C_below HC.out hbA); have HB2 : Aside0 (Below w.heap.size w W2) := ⟨HB1.out.trans (hbA.mono HB1.out.size)⟩
 clear hrA hbA HC HB1; go_wp2_with fail
 refine (graph_Postdominators.calls k _ 4 dD _ _ _ HC2.out (by decide) H2.out).mono ?_
 rintro e W3 ⟨vP, rfl, hrP, hbP⟩
 obtain ⟨AP, cP, rfl⟩ := Kd.R_slice hrP; have HP := Aside0.mk hrP; have HA3 := Aside0.mk (Kd.R_below HA.out hbP); have HC3 := Aside0.mk (Kd.C_below HC2.out hbP); have HB3 : Aside0 (Below w.heap.size w W3) := ⟨HB2.out.trans (hbP.mono HB2.out.size)⟩
 clear hrP hbP HC2 HB2 HA; go_wp2_with fail
 refine (graph_Frontier.calls k _ 4 dD _ _ _ HC3.out (by decide) H3.out).mono ?_
 rintro e W4 ⟨vF, rfl, hrF, hbF⟩
 obtain ⟨AF, cF, rfl⟩ := Kd.R_slice (Kd.S_R hrF); have HF := Aside0.mk (Kd.S_R hrF); have HA4 := Aside0.mk (Kd.R_below HA3.out hbF); have HP4 := Aside0.mk (Kd.R_below HP.out hbF); have HC4 := Aside0.mk (Kd.C_below HC3.out hbF); have HB4 : Aside0 (Below w.heap.size w W4) := ⟨HB3.out.trans (hbF.mono HB3.out.size)⟩
 clear hrF hbF HC3 HB3 HA3 HP; go_wp2_with fail
 refine (graph_Region.calls k _ 4 dD 0 _ _ _ HC4.out (by decide) H4.out).mono ?_
 rintro e W5 ⟨vR, rfl, hrR, hbR⟩
 obtain ⟨AR, cR, rfl⟩ := Kd.R_slice hrR; have HR := Aside0.mk hrR; have HA5 := Aside0.mk (Kd.R_below HA4.out hbR); have HP5 := Aside0.mk (Kd.R_below HP4.out hbR); have HF5 := Aside0.mk (Kd.R_below HF.out hbR); have HB5 : Aside0 (Below w.heap.size w W5) := ⟨HB4.out.trans (hbR.mono HB4.out.size)⟩
 clear hrR hbR HC4 HB4 HA4 HP4 HF; go_wp2_with fail
 have HB6 : Aside0 (Below w.heap.size w (wL W5)) := ⟨HB5.out.trans ((wL_below W5).mono HB5.out.size)⟩
 refine (graph_Loops.calls k _ 4 dL _ _ (wL W5) (wL_C W5) (by decide) H5.out).mono ?_
 rintro e W6 ⟨vL, rfl, hrL, hbL⟩
 obtain ⟨AL, cL, rfl⟩ := Kd.R_slice (Kd.S_R hrL); have HL := Aside0.mk (Kd.S_R hrL); have hb56 : Below W5.heap.size W5 W6 := (wL_below W5).trans (hbL.mono (wL_below W5).size)
 have HA6 := Aside0.mk (Kd.R_below HA5.out hb56); have HP6 := Aside0.mk (Kd.R_below HP5.out hb56); have HF6 := Aside0.mk (Kd.R_below HF5.out hb56); have HR6 := Aside0.mk (Kd.R_below HR.out hb56); have HB7 : Aside0 (Below w.heap.size w W6) := ⟨HB6.out.trans (hbL.mono HB6.out.size)⟩
 clear hrL hbL HB5 HB6 HA5 HP5 HF5 HR hb56; go_wp2_with fail
 have HB8 : Aside0 (Below w.heap.size w (wR W6)) := ⟨HB7.out.trans ((wR_below W6).mono HB7.out.size)⟩
 refine (graph_Reducible.calls k _ 3 dR _ _ (wR W6) (wR_C W6) (by decide) H6.out).mono ?_
 rintro e W7 ⟨rfl, hbR⟩
 have hb67 : Below W6.heap.size W6 W7 := (wR_below W6).trans (hbR.mono (wR_below W6).size)
 have HA7 := Aside0.mk (Kd.R_below HA6.out hb67); have HP7 := Aside0.mk (Kd.R_below HP6.out hb67); have HF7 := Aside0.mk (Kd.R_below HF6.out hb67); have HR7 := Aside0.mk (Kd.R_below HR6.out hb67); have HL7 := Aside0.mk (Kd.R_below HL.out hb67); have HB9 : Aside0 (Below w.heap.size w W7) := ⟨HB8.out.trans (hbR.mono HB8.out.size)⟩
 clear hbR HB7 HB8 HA6 HP6 HF6 HR6 HL hb67; obtain ⟨gF, cF', eF', _⟩ := Kd.R_form HF7.out (by decide)
 cases eF'
 obtain ⟨gL, cL', eL', _⟩ := Kd.R_form HL7.out (by decide)
 cases eL'
 obtain ⟨adF, AF1, cF1, eF, hF1, hFc, hFr⟩ := at_L1 (Kd.R_reads' HF7.out).2.2 1 (by decide) (by decide)
 cases eF; obtain ⟨adL, AL1, cL1, eL, hL1, hLc, hLr⟩ := at_L1 (Kd.R_reads' HL7.out).2.2 1 (by decide) (by decide)
 cases eL; have HFC := Aside0.mk hFc; have HFR := Aside0.mk hFr; have HLC := Aside0.mk hLc; have HLR := Aside0.mk hLr; clear hFc hFr hLc hLr; have hF1' : W7.cell? ⟨gF, 1, none⟩ = some (.slice AF1 1 cF1) := hF1
 have hL1' : W7.cell? ⟨gL, 1, none⟩ = some (.slice AL1 2 cL1) := hL1
 clear hF1 hL1; go_wp2_with fail
 refine (r5_SameInts.calls k _ _ [-1, 0, 0, 0] _ 4 [-1, 0, 0, 0] true _ (Kd.C_alloc (Kd.R_reads' HA7.out).2.2 _) (Kd.R_reads' HA7.out).2.1 (C_litI (by decide) (new_at _ rfl)) (by decide) S1.out).mono ?_
 rintro e W8 ⟨rfl, ⟨n8, rfl⟩⟩
 obtain ⟨W8, hW8⟩ : ∃ W : World, W = (W7.alloc (.cells (nums .i64 [-1, 0, 0, 0]).toArray 3)).drewN n8 := ⟨_, rfl⟩; rw [← hW8]; have HX8 : Aside0 (Below W7.heap.size W7 W8) := ⟨by rw [hW8]; exact pw_below_drewN (below_alloc (Below.refl _ _) _) _⟩
 clear hW8; go_wp2_with fail
 have hP8 := Kd.R_reads' (Kd.R_below HP7.out HX8.out); refine (r5_SameInts.calls k _ _ [3, 3, 3, -1] _ 4 [3, 3, 3, -1] true _ (Kd.C_alloc hP8.2.2 _) hP8.2.1 (C_litI (by decide) (new_at _ rfl)) (by decide) S2.out).mono ?_
 clear hP8; rintro e W9 ⟨rfl, ⟨n9, rfl⟩⟩
 obtain ⟨W9, hW9⟩ : ∃ W : World, W = (W8.alloc (.cells (nums .i64 [3, 3, 3, -1]).toArray 3)).drewN n9 := ⟨_, rfl⟩; rw [← hW9]; have HX9 : Aside0 (Below W7.heap.size W7 W9) := ⟨by rw [hW9]; exact pw_below_drewN (below_alloc HX8.out _) _⟩
 clear hW9; have hF2 := (HX9.out.cell (World.block_lt_of_cell? _ _ hF1')).trans hF1'; go_wp2_with fail
 clear hF2; refine (r5_SameInts.calls k _ _ [3] _ 1 [3] true _ (Kd.C_alloc (Kd.C_below HFR.out HX9.out) _) HFC.out (C_litI (by decide) (new_at _ rfl)) (by decide) S3.out).mono ?_
 rintro e W10 ⟨rfl, ⟨n10, rfl⟩⟩
 obtain ⟨W10, hW10⟩ : ∃ W : World, W = (W9.alloc (.cells (nums .i64 [3]).toArray 3)).drewN n10 := ⟨_, rfl⟩; rw [← hW10]; have HX10 : Aside0 (Below W7.heap.size W7 W10) := ⟨by rw [hW10]; exact pw_below_drewN (below_alloc HX9.out _) _⟩
 clear hW10; go_wp2_with fail
 have hR8 := Kd.R_reads' (Kd.R_below HR7.out HX10.out); refine (r5_SameInts.calls k _ _ [1, 2] _ 2 [1, 2] true _ (Kd.C_alloc hR8.2.2 _) hR8.2.1 (C_litI (by decide) (new_at _ rfl)) (by decide) S4.out).mono ?_
 clear hR8; rintro e W11 ⟨rfl, ⟨n11, rfl⟩⟩
 obtain ⟨W11, hW11⟩ : ∃ W : World, W = (W10.alloc (.cells (nums .i64 [1, 2]).toArray 3)).drewN n11 := ⟨_, rfl⟩; rw [← hW11]; have HX11 : Aside0 (Below W7.heap.size W7 W11) := ⟨by rw [hW11]; exact pw_below_drewN (below_alloc HX10.out _) _⟩
 clear hW11; have hL2 := (HX11.out.cell (World.block_lt_of_cell? _ _ hL1')).trans hL1'; go_wp2_with fail
 clear hL2; refine (r5_SameInts.calls k _ _ [1, 2] _ 2 [1, 2] true _ (Kd.C_alloc (Kd.C_below HLR.out HX11.out) _) HLC.out (C_litI (by decide) (new_at _ rfl)) (by decide) S4.out).mono ?_
 rintro e W12 ⟨rfl, ⟨n12, rfl⟩⟩
 obtain ⟨W12, hW12⟩ : ∃ W : World, W = (W11.alloc (.cells (nums .i64 [1, 2]).toArray 3)).drewN n12 := ⟨_, rfl⟩; rw [← hW12]; have HX12 : Aside0 (Below W7.heap.size W7 W12) := ⟨by rw [hW12]; exact pw_below_drewN (below_alloc HX11.out _) _⟩
 clear hW12; go_wp2
 go_ret
 exact ⟨by simp, HB9.out.trans (HX12.out.mono HB9.out.size)⟩
end Go.Proofs.Ytjjedbcgkljdeaa.D
end
section
namespace Go.Proofs.Ytjjedbcgkljdeaa.D
open Go Go.RowKit Go.Shelf Go.Proofs.YtjjedbcgkljdeaaW.PrintWords Go.Proofs.YtjjedbcgkljdeaaW.PrintLast Go.Proofs.YtjjedbcgkljdeaaW.PrintMore Go.Proofs.Ytjjedbcgkljdeaa Go.Proofs.Ytjjedbcgkljdeaa.A
structure IsRows (w : World) (a : Option Addr) (len cap : Nat) (xs : List (List Int)) : Prop where
 len : len = xs.length
 cap : xs.length ≤ cap
 max : xs.length ≤ maxLen
 reads : Kd.C (Kd.slice 3 (Kd.int .i64)) w a xs.length xs
theorem isRows_nil (w : World) : IsRows w none 0 0 [] := ⟨rfl, Nat.le_refl _, Nat.zero_le _, rfl, Nat.zero_le _, fun h => absurd h (by simp)⟩
theorem isRows_of {w : World} {a : Addr} {len cap : Nat} {A : Nat → Option Addr} {L C : Nat → Nat} {Z : Nat → List Int} (hl : len ≤ cap) (hm : cap ≤ maxLen)
  (h : ∀ r, r < cap → w.cell? (a.add r) = some (.slice (A r) (L r) (C r)) ∧ L r ≤ C r ∧ C r ≤ maxLen ∧ (Z r).length = C r ∧ (∀ n ∈ Z r, (Lit.int .i64 n).wf = true) ∧ (A r = none → C r = 0) ∧
    ∀ a', A r = some a' → (0 : Nat) ≤ a'.block ∧ ∀ c, c < C r → w.cell? (a'.add c) = some (.int .i64 ((Z r).getD c 0))) : IsRows w (some a) len cap ((List.range len).map fun r => (Z r).take (L r)) := by
 have hlen : ((List.range len).map fun r => (Z r).take (L r)).length = len := by simp
 have hM : maxLen ≤ 9223372036854775807 := by unfold maxLen; omega
 refine ⟨hlen.symm, by omega, by omega, C_rows (by omega) fun _ => ⟨a, rfl, fun j hj => ?_⟩⟩
 rw [hlen] at hj; obtain ⟨h1, h2, h3, h4, h5, h6, h7⟩ := h j (by omega)
 have e : ((List.range len).map fun r => (Z r).take (L r))[j]'(by rw [hlen]; exact hj) = (Z j).take (L j) := by simp
 have e2 : ((Z j).take (L j)).length = L j := by rw [List.length_take]; omega
 rw [e]; refine ⟨A j, C j, by rw [e2]; exact h1, by omega, C_ints (by omega) fun hp => ?_⟩
 cases hA : A j with
 | none => have := h6 hA; omega
 | some a' =>
  refine ⟨a', rfl, fun i hi => ?_⟩
  have h8 := (h7 a' hA).2 i (by omega)
  rw [h8, List.getElem_take, List.getD_eq_getElem?_getD, List.getElem?_eq_getElem (by omega)]
  rfl
end Go.Proofs.Ytjjedbcgkljdeaa.D
end
section
namespace Go.Proofs.Ytjjedbcgkljdeaa.D
open Go Go.RowKit Go.Shelf Go.Proofs.YtjjedbcgkljdeaaW.PrintWords Go.Proofs.YtjjedbcgkljdeaaW.PrintLast Go.Proofs.YtjjedbcgkljdeaaW.PrintMore Go.Proofs.Ytjjedbcgkljdeaa Go.Proofs.Ytjjedbcgkljdeaa.A
structure IsBytes (w : World) (a : Option Addr) (len cap : Nat) (xs : List Int) : Prop where
 len : len = xs.length
 cap : xs.length ≤ cap
 reads : Kd.C (Kd.int .u8) w a xs.length xs
 rng : ∀ x ∈ xs, 0 ≤ x ∧ x ≤ 255
theorem isBytes_nil (w : World) : IsBytes w none 0 0 [] := ⟨rfl, Nat.le_refl _, ⟨rfl, Nat.zero_le _, fun h => absurd h (by simp)⟩, fun _ h => by cases h⟩
theorem isBytes_of {w : World} {a : Addr} {len cap : Nat} {zs : List Int} (hl : len ≤ cap) (hm : cap ≤ maxLen) (hz : zs.length = cap) (hcell : ∀ i, i < zs.length → w.cell? (a.add i) = some (.int .u8 (zs.getD i 0))) (hwf : ∀ n ∈ zs, (Lit.int .u8 n).wf = true) :
  IsBytes w (some a) len cap (zs.take len) := by
 have hM : maxLen ≤ 9223372036854775807 := by unfold maxLen; omega
 have hlen : (zs.take len).length = len := by rw [List.length_take]; omega
 refine ⟨hlen.symm, by omega, ⟨rfl, by omega, fun _ => ⟨a, rfl, fun j p hj => ⟨[.int .u8 p], rfl, rfl, fun i u hu => ?_⟩⟩⟩, fun x hx => ?_⟩
 ·obtain ⟨hj1, hj2⟩ := List.getElem?_eq_some_iff.1 hj; rw [List.getElem_take] at hj2; cases i with
  | zero =>
   simp only [List.getElem?_cons_zero, Option.some.injEq] at hu
   subst hu; rw [show j * (Kd.int .u8).sz + 0 = j by simp [Kd.int, Kd.scalar], hcell j (by omega), ← hj2, List.getD_eq_getElem?_getD, List.getElem?_eq_getElem (by omega)]
   rfl
  | succ i => simp at hu
 ·have := hwf x (List.mem_of_mem_take hx)
  simp only [Lit.wf, Bool.and_eq_true, decide_eq_true_eq] at this
  have e0 : IntKind.u8.min = 0 := by decide
  have e1 : IntKind.u8.max = 255 := by decide
  omega
end Go.Proofs.Ytjjedbcgkljdeaa.D
end
section
namespace Go.Proofs.Ytjjedbcgkljdeaa.M
open Go.RowKit Go.Proofs.YtjjedbcgkljdeaaW.PrintWords Go.Proofs.YtjjedbcgkljdeaaW.PrintLast Go.Proofs.YtjjedbcgkljdeaaW.PrintMore Go.Proofs.Ytjjedbcgkljdeaa.A
theorem within_l0 (g : List (List Int)) (l : List Int) (hl : l.length ≤ 100000) : ∀ (d i : Nat), i + d = l.length → Evt (fun k => graph_within.l0 k g l (l.length : Int) (i : Int)) ((l.drop i).all (inB g.length))
 | 0, i, hd => by
  rw [List.drop_of_length_le (by omega)]
  refine Evt.succ ?_
  simp only [graph_within.l0]
  exact Evt.neg (by omega) (Evt.const true)
 | d + 1, i, hd => by
  have hi : i < l.length := by omega
  have ih := within_l0 g l hl d (i + 1) (by omega)
  rw [List.drop_eq_getElem_cons hi, all_c]; refine Evt.succ ?_
  simp only [graph_within.l0, rd_nat _ _ hi, wrap_succ i (by omega)]
  refine Evt.pos (by omega) (Evt.pos (by omega) (Evt.pos (by omega) ?_))
  by_cases h0 : l[i] < 0
  ·rw [inB_f (.inl h0), Bool.false_and]; exact Evt.pos h0 (Evt.const false)
  ·by_cases h1 : l[i] ≥ (g.length : Int)
   ·rw [inB_f (.inr h1), Bool.false_and]; exact Evt.neg h0 (Evt.pos h1 (Evt.const false))
   ·rw [inB_t (by omega) (by omega), Bool.true_and]
    exact Evt.neg h0 (Evt.neg h1 ih)
theorem within_ev (g : List (List Int)) (l : List Int) (hl : l.length ≤ 100000) : Evt (fun k => graph_within.f k g l) (l.all (inB g.length)) := by
 unfold graph_within.f
 simpa using within_l0 g l hl l.length 0 (by omega)
theorem inB_iff {n : Nat} {x : Int} : inB n x = true ↔ 0 ≤ x ∧ x < (n : Int) := by simp [inB]
end Go.Proofs.Ytjjedbcgkljdeaa.M
end
section
namespace Go.Proofs.Ytjjedbcgkljdeaa.M
open Go.RowKit Go.Proofs.YtjjedbcgkljdeaaW.PrintWords Go.Proofs.YtjjedbcgkljdeaaW.PrintLast Go.Proofs.YtjjedbcgkljdeaaW.PrintMore Go.Proofs.Ytjjedbcgkljdeaa.A
def usableB (g : List (List Int)) : Bool := !wideB g && validB g
theorem usableB_true {g : List (List Int)} (h : usableB g = true) : validB g = true ∧ 1 ≤ g.length ∧ Gr g ∧ g.length ≤ 40 ∧ ∀ r ∈ g, r.length ≤ 4 := by
 unfold usableB at h
 simp only [Bool.and_eq_true, Bool.not_eq_true'] at h
 obtain ⟨h1, h2, _⟩ := validB_true h.2; obtain ⟨h3, h4⟩ := wideB_false h.1; exact ⟨h.2, h1, h2, h3, h4⟩
theorem usable_ev (g : List (List Int)) : Evt (fun k => l7_usable.f k g) (usableB g) := by
 unfold l7_usable.f usableB
 refine Evt.bind (wide_ev g) ?_
 by_cases hw : wideB g = true
 ·rw [hw]; exact Evt.pos rfl (Evt.const false)
 ·obtain ⟨hn, hr⟩ := wideB_false (Bool.eq_false_iff.2 hw); rw [Bool.eq_false_iff.2 hw]; refine Evt.neg (by simp) (Evt.bind (rvalid_ev g (by omega) (fun r h => Nat.le_trans (hr r h) (by omega))) ?_)
  simpa using Evt.const _
end Go.Proofs.Ytjjedbcgkljdeaa.M
end
section
namespace Go.Proofs.Ytjjedbcgkljdeaa.M
open Go.RowKit Go.Proofs.YtjjedbcgkljdeaaW.PrintWords Go.Proofs.YtjjedbcgkljdeaaW.PrintLast Go.Proofs.YtjjedbcgkljdeaaW.PrintMore Go.Proofs.Ytjjedbcgkljdeaa.A
noncomputable def rowTo (C : Int → Prop) (i : Nat) : List Int := (List.range i).filterMap fun (b : Nat) => @ite _ (C (b : Int)) (Classical.propDecidable _) (some (b : Int)) none
theorem rowTo_mem (C : Int → Prop) (i : Nat) (x : Int) : x ∈ rowTo C i ↔ 0 ≤ x ∧ x < (i : Int) ∧ C x := by
 unfold rowTo
 rw [List.mem_filterMap]; constructor
 ·rintro ⟨b, hb, h⟩
  have := List.mem_range.1 hb
  split at h
  next hC => obtain rfl := Option.some.inj h; exact ⟨by omega, by omega, hC⟩
  next => cases h
 ·rintro ⟨h0, h1, h2⟩
  obtain ⟨b, rfl⟩ := Int.eq_ofNat_of_zero_le h0; exact ⟨b, List.mem_range.2 (by omega), by rw [if_pos h2]⟩
theorem rowTo_len (C : Int → Prop) (i : Nat) : (rowTo C i).length ≤ i := by
 unfold rowTo
 refine Nat.le_trans (List.length_filterMap_le _ _) ?_
 simp
theorem fm_congr {l : List Nat} {f g : Nat → Option Int} (h : ∀ x ∈ l, f x = g x) : l.filterMap f = l.filterMap g := by
 induction l with
 | nil => rfl
 | cons a l ih =>
  rw [List.filterMap_cons, List.filterMap_cons, h a (by simp), ih (fun x hx => h x (by simp [hx]))]
theorem rising_row (s : List Bool) (C : Int → Prop) (n : Nat) (hs : s.length = n) (h : ∀ b : Int, 0 ≤ b → b < (n : Int) → (rdOf false s b = true ↔ C b)) : risingL s 0 = rowTo C n := by
 unfold risingL rowTo
 rw [hs, List.drop_zero]; refine fm_congr fun b hb => ?_
 have hb2 := List.mem_range.1 hb; have := h (b : Int) (by omega) (by omega)
 by_cases hC : C (b : Int)
 ·rw [if_pos hC, if_pos (this.2 hC)]
 ·rw [if_neg hC, if_neg (fun e => hC (this.1 e))]
end Go.Proofs.Ytjjedbcgkljdeaa.M
end
section
namespace Go.Proofs.Ytjjedbcgkljdeaa.M
open Go.RowKit Go.Proofs.YtjjedbcgkljdeaaW.PrintWords Go.Proofs.YtjjedbcgkljdeaaW.PrintLast Go.Proofs.YtjjedbcgkljdeaaW.PrintMore Go.Proofs.Ytjjedbcgkljdeaa.A
theorem in_l0 (x : Int) (l : List Int) (hl : l.length ≤ 100000) : ∀ (d i : Nat), i + d = l.length → ∃ v : Bool, (v = true ↔ x ∈ l.drop i) ∧ Evt (fun k => r7_In.l0 k x l (i : Int)) v
 | 0, i, hd => by
  refine ⟨false, ⟨fun h => (by cases h), fun h => ?_⟩, Evt.succ ?_⟩
  ·rw [List.drop_of_length_le (by omega)] at h; cases h
  ·simp only [r7_In.l0]
   exact Evt.neg (by omega) (Evt.const _)
 | d + 1, i, hd => by
  have hi : i < l.length := by omega
  obtain ⟨v, hv, he⟩ := in_l0 x l hl d (i + 1) (by omega)
  rw [List.drop_eq_getElem_cons hi]; by_cases e : l[i] = x
  ·refine ⟨true, ⟨fun _ => by rw [e]; exact List.mem_cons_self, fun _ => rfl⟩, Evt.succ ?_⟩
   simp only [r7_In.l0, rd_nat _ _ hi]
   exact Evt.pos (by omega) (Evt.pos (by omega) (Evt.pos e (Evt.const _)))
  ·refine ⟨v, by rw [hv, List.mem_cons]; exact ⟨.inr, fun h => h.resolve_left (fun e2 => e e2.symm)⟩, Evt.succ ?_⟩
   simp only [r7_In.l0, rd_nat _ _ hi, wrap_succ i (by omega)]
   exact Evt.pos (by omega) (Evt.pos (by omega) (Evt.neg e he))
theorem in_ev (x : Int) (l : List Int) (hl : l.length ≤ 100000) : ∃ v : Bool, (v = true ↔ x ∈ l) ∧ Evt (fun k => r7_In.f k x l) v := by
 obtain ⟨v, hv, he⟩ := in_l0 x l hl l.length 0 (by omega)
 exact ⟨v, by rw [hv, List.drop_zero], he⟩
end Go.Proofs.Ytjjedbcgkljdeaa.M
end
section
namespace Go.Proofs.Ytjjedbcgkljdeaa.M
open Go.RowKit Go.Proofs.YtjjedbcgkljdeaaW.PrintWords Go.Proofs.YtjjedbcgkljdeaaW.PrintLast Go.Proofs.YtjjedbcgkljdeaaW.PrintMore Go.Proofs.Ytjjedbcgkljdeaa.A
section
variable {g : List (List Int)}
theorem row_range (hg : Gr g) (a x : Int) (h0 : 0 ≤ a) (h : x ∈ rd_L1 g a) : 0 ≤ a ∧ a < (g.length : Int) ∧ 0 ≤ x ∧ x < (g.length : Int) := by
 obtain ⟨x0, x1⟩ := hg.row a x h; refine ⟨h0, ?_, x0, x1⟩
 rcases Int.lt_or_le a (g.length : Int) with h1 | h1
 ·exact h1
 ·obtain ⟨n, rfl⟩ := Int.eq_ofNat_of_zero_le h0; have : rd_L1 g (n : Int) = [] := by
   unfold rd_L1
   rw [List.getD_eq_getElem?_getD, List.getElem?_eq_none (by simp; omega)]
   rfl
  rw [this] at h; cases h
theorem Rch.back' {B : Nat} {T : List (List Int)} (hT : TurnedOf B g T) (hg : Gr g) {P : Int → Bool} {S : List Int} {x z : Int} (hx0 : 0 ≤ x) (h : Rch g P [x] z) (k : Rch T P S z) : Rch T P S x := by
 have nn : ∀ y, Rch g P [x] y → 0 ≤ y := by
  intro y hy
  cases hy with
  | base h1 _ => obtain rfl := List.mem_singleton.1 h1; exact hx0
  | step _ h2 _ => exact (hg.row _ _ h2).1
 induction h with
 | base h1 _ => obtain rfl := List.mem_singleton.1 h1; exact k
 | @step a z h1 h2 h3 ih =>
  obtain ⟨a0, a1, z0, z1⟩ := row_range hg a z (nn a h1) h2; exact ih (Rch.step k ((hT.mem z z0 z1 a).2 ⟨a0, a1, h2⟩) h1.ok)
end
end Go.Proofs.Ytjjedbcgkljdeaa.M
end
section
namespace Go.Proofs.Ytjjedbcgkljdeaa.M
open Go.RowKit Go.Proofs.YtjjedbcgkljdeaaW.PrintWords Go.Proofs.YtjjedbcgkljdeaaW.PrintLast Go.Proofs.YtjjedbcgkljdeaaW.PrintMore Go.Proofs.Ytjjedbcgkljdeaa.A
theorem exitsL_mem (g : List (List Int)) (e : Int) (h0 : 0 ≤ e) (h1 : e < (g.length : Int)) (he : (rd_L1 g e).length = 0) : e ∈ exitsL g 0 := by
 obtain ⟨n, rfl⟩ := Int.eq_ofNat_of_zero_le h0; unfold exitsL
 rw [List.drop_zero, List.mem_filterMap]; exact ⟨n, List.mem_range.2 (by omega), by rw [if_pos he]⟩
theorem region_means (g : List (List Int)) (hv : validB g = true) (hg : Gr g) (hn : g.length ≤ 40) (hr : ∀ r ∈ g, r.length ≤ 4) (b : Int) (hb0 : 0 ≤ b) (hb1 : b < (g.length : Int)) :
  ∃ pl : List Int, pl.length = g.length ∧ Evt (fun k => Go.Proofs.Ytjjedbcgkljdeaa.C.graph_Postdominators.f k g) (pl, 0) ∧
   Evt (fun k => Go.Proofs.Ytjjedbcgkljdeaa.D.graph_Region.f k g b) (rowTo (Rch g (fun n => n == rd pl b) (rd_L1 g b)) g.length, 0) ∧
   (0 ≤ rd pl b → rd pl b ≠ b ∧ ∀ e : Int, Rch g (fun n => n == rd pl b) [b] e → (rd_L1 g e).length ≠ 0) := by
 have hve := valid_ev g (by omega) (fun r h => Nat.le_trans (hr r h) (by omega))
 rw [hv] at hve; have hwi := within_ev g [b] (by simp)
 have hf : [b].all (inB g.length) = true := by
  simp only [List.all_cons, List.all_nil, Bool.and_true, inB_iff]
  exact ⟨hb0, hb1⟩
 rw [hf] at hwi; obtain ⟨T, up, pl, t, hT, hpe, hw, hte, _, himm, hDom, hRg⟩ := posts_ev g hg hn hr; have hpl := hw.len; have hrow := hg.row b; obtain ⟨s, hs, hs1, hs2⟩ := fromF_ev (fun n => n == rd pl b) g (rd_L1 g b) hg hrow (by omega)
 refine ⟨pl, hpl, ?_, ?_, ?_⟩
 ·unfold Go.Proofs.Ytjjedbcgkljdeaa.C.graph_Postdominators.f
  exact Evt.bind hve (Evt.pos rfl (Evt.bind hpe (Evt.const _)))
 ·rw [← rising_row s (Rch g (fun n => n == rd pl b) (rd_L1 g b)) g.length hs1 (fun x h0 _ => hs2 x h0)]
  unfold Go.Proofs.Ytjjedbcgkljdeaa.D.graph_Region.f
  refine Evt.bind hve (Evt.pos rfl (Evt.bind hwi (Evt.pos rfl (Evt.bind hpe (Evt.pos hb0 (Evt.pos (by omega) (Evt.pos hb1 (Evt.bind (a := s) ?_ (Evt.bind (list_ev s (by omega)) (Evt.const _))))))))))
  exact hs
 ·intro hp
  by_cases hR : Rg (T ++ [exitsL g 0]) (g.length : Int) b
  ·rcases hw.yes b hb0 hb1 hR with ⟨hne, hup, hlt⟩ | ⟨hm, _⟩
   ·have hu := hw.tree.up_lt b hR hne; rw [hup] at hp ⊢
    refine ⟨hu.2, fun e he hee => ?_⟩
    have hch : Ch (uf up) (g.length : Int) b (rd up b) := (hw.tree.ch_step hw.rng hR hu.2).2 ⟨hne, Ch.refl _⟩
    have hD := (hDom (rd up b) b hp hlt hb0 hb1).2 ((hw.tree.ch b (rd up b) hR).1 hch); have hin : InR g.length [b] := fun x hx => by obtain rfl := List.mem_singleton.1 hx; exact ⟨hb0, hb1⟩
    obtain ⟨e0, e1⟩ := he.range hg hin; exact hD.2 (Rch.back' hT hg hb0 he (Rch.base (exitsL_mem g e e0 e1 hee) he.ok))
   ·omega
  ·have := hw.no b hb0 hb1 hR
   omega
end Go.Proofs.Ytjjedbcgkljdeaa.M
end
section
namespace Go.Proofs.Ytjjedbcgkljdeaa.M
open Go.RowKit Go.Proofs.Ytjjedbcgkljdeaa.D
theorem awake_ev : Evt (fun k => l7_awake.f k) true := Evt.of_mono l7_awake.mono (k := 400) (by kernel_rfl)
end Go.Proofs.Ytjjedbcgkljdeaa.M
end
section
namespace Go.Proofs.Ytjjedbcgkljdeaa.L
open Go.RowKit Go.Proofs.YtjjedbcgkljdeaaW.PrintWords Go.Proofs.YtjjedbcgkljdeaaW.PrintLast Go.Proofs.YtjjedbcgkljdeaaW.PrintMore Go.Proofs.Ytjjedbcgkljdeaa.A Go.Proofs.Ytjjedbcgkljdeaa.B Go.Proofs.Ytjjedbcgkljdeaa.C Go.Proofs.Ytjjedbcgkljdeaa.D
set_option linter.unusedVariables false
set_option linter.unusedSimpArgs false
def rd_L1 (xs : List (List Int)) (i : Int) : (List Int) := xs.getD i.toNat ([] : List Int)
theorem at_L1 {w : World} {A : Option Addr} {n : Nat} {xs : List (List Int)} (h : Kd.C (Kd.slice 3 (Kd.int .i64)) w A n xs) (i : Int) (h0 : 0 ≤ i) (h1 : i < n) : ∃ ad A0 c0, A = some ad ∧ w.cell? (ad.add i.toNat) = some (.slice A0 (rd_L1 xs i).length c0) ∧ (rd_L1 xs i).length ≤ c0 ∧ (Kd.int .i64).C w A0 (rd_L1 xs i).length (rd_L1 xs i) := by
 obtain ⟨ad, c, e, _, hK, hc0⟩ := Kd.C_get h ([] : List Int) i h0 h1; have hc : ∀ j u, c[j]? = some u → w.cell? (ad.add (i.toNat * 1 + j)) = some u := hc0
 obtain ⟨A0, c0, rfl, l0, g0⟩ := hK; exact ⟨ad, A0, c0, e, by have hq := hc 0 _ rfl; rwa [Nat.mul_one, Nat.add_zero] at hq, l0, g0⟩
end Go.Proofs.Ytjjedbcgkljdeaa.L
end
section
namespace Go.Proofs.Ytjjedbcgkljdeaa.L
open Go.RowKit Go.Proofs.YtjjedbcgkljdeaaW.PrintWords Go.Proofs.YtjjedbcgkljdeaaW.PrintLast Go.Proofs.YtjjedbcgkljdeaaW.PrintMore Go.Proofs.Ytjjedbcgkljdeaa.A Go.Proofs.Ytjjedbcgkljdeaa.B Go.Proofs.Ytjjedbcgkljdeaa.C Go.Proofs.Ytjjedbcgkljdeaa.D
set_option linter.unusedVariables false
set_option linter.unusedSimpArgs false
mutual
def l7_GraphLeaves.j0 : Nat → List (List Int) → Int → List Int → Bool → Option (Bool)
 | 0, _, _, _, _ => none
 | k + 1, x0, x1, x2, x26 => if x26 = true then ((l7_awake.f k).bind fun t321 => (some t321)) else (if (x0.length : Int) = 0 then (none) else ((graph_Region.f k x0 (Int.tmod (wrap64 ((Int.tmod x1 (x0.length : Int)) + (x0.length : Int))) (x0.length : Int))).bind fun bt322 => ((graph_Postdominators.f k x0).bind fun bt326 => (if bt322.2 = 0 then (if bt326.2 = 0 then (l7_GraphLeaves.j1 k x0 (Int.tmod (wrap64 ((Int.tmod x1 (x0.length : Int)) + (x0.length : Int))) (x0.length : Int)) x2 bt322.1 bt326.1 ((bt326.1.length : Int) != (x0.length : Int))) else (l7_GraphLeaves.j1 k x0 (Int.tmod (wrap64 ((Int.tmod x1 (x0.length : Int)) + (x0.length : Int))) (x0.length : Int)) x2 bt322.1 bt326.1 true)) else (l7_GraphLeaves.j1 k x0 (Int.tmod (wrap64 ((Int.tmod x1 (x0.length : Int)) + (x0.length : Int))) (x0.length : Int)) x2 bt322.1 bt326.1 true)))))
def l7_GraphLeaves.j1 : Nat → List (List Int) → Int → List Int → List Int → List Int → Bool → Option (Bool)
 | 0, _, _, _, _, _, _ => none
 | k + 1, x0, x1, x2, x7, x9, x61 => if x61 = true then (some false) else (if 0 ≤ x1 then (if x1 < (x9.length : Int) then (l7_GraphLeaves.l0 k x0 x1 x2 x7 (rd x9 x1) 0) else (none)) else (none))
def l7_GraphLeaves.l0 : Nat → List (List Int) → Int → List Int → List Int → Int → Int → Option (Bool)
 | 0, _, _, _, _, _, _ => none
 | k + 1, x0, x1, x2, x7, x11, x12 => if x12 < (x7.length : Int) then (if 0 ≤ x12 then (if (rd x7 x12) < 0 then (l7_GraphLeaves.j3 k x0 x1 x2 x7 x11 x12 (rd x7 x12) true) else (if (rd x7 x12) ≥ (x0.length : Int) then (l7_GraphLeaves.j3 k x0 x1 x2 x7 x11 x12 (rd x7 x12) true) else (l7_GraphLeaves.j3 k x0 x1 x2 x7 x11 x12 (rd x7 x12) ((rd x7 x12) == x11)))) else (none)) else (l7_GraphLeaves.l2 k x0 x2 x7 x11 x1 false 0)
def l7_GraphLeaves.j3 : Nat → List (List Int) → Int → List Int → List Int → Int → Int → Int → Bool → Option (Bool)
 | 0, _, _, _, _, _, _, _, _ => none
 | k + 1, x0, x1, x2, x7, x11, x12, x13, x88 => if x88 = true then (some false) else (l7_GraphLeaves.l1 k x0 x1 x2 x7 x11 x12 x13 0)
def l7_GraphLeaves.l1 : Nat → List (List Int) → Int → List Int → List Int → Int → Int → Int → Int → Option (Bool)
 | 0, _, _, _, _, _, _, _, _ => none
 | k + 1, x0, x1, x2, x7, x11, x12, x13, x14 => if 0 ≤ x13 then (if x13 < (x0.length : Int) then (if x14 < ((rd_L1 x0 x13).length : Int) then (if 0 ≤ x14 then (if (rd (rd_L1 x0 x13) x14) = x11 then (l7_GraphLeaves.l1 k x0 x1 x2 x7 x11 x12 x13 (wrap64 (x14 + 1))) else ((r7_In.f k (rd (rd_L1 x0 x13) x14) x7).bind fun t335 => (if t335 = true then (l7_GraphLeaves.l1 k x0 x1 x2 x7 x11 x12 x13 (wrap64 (x14 + 1))) else (some false)))) else (none)) else (l7_GraphLeaves.l0 k x0 x1 x2 x7 x11 (wrap64 (x12 + 1)))) else (none)) else (none)
def l7_GraphLeaves.l2 : Nat → List (List Int) → List Int → List Int → Int → Int → Bool → Int → Option (Bool)
 | 0, _, _, _, _, _, _, _ => none
 | k + 1, x0, x2, x7, x11, x16, x17, x18 => if x18 < (x2.length : Int) then (if 0 ≤ x16 then (if x16 < (x0.length : Int) then (l7_GraphLeaves.j6 k x0 x2 x7 x11 x16 x17 x18 (decide (((rd_L1 x0 x16).length : Int) > 0))) else (none)) else (none)) else (l7_GraphLeaves.j6 k x0 x2 x7 x11 x16 x17 x18 false)
def l7_GraphLeaves.j6 : Nat → List (List Int) → List Int → List Int → Int → Int → Bool → Int → Bool → Option (Bool)
 | 0, _, _, _, _, _, _, _, _ => none
 | k + 1, x0, x2, x7, x11, x16, x17, x18, x126 => if x126 = true then (if 0 ≤ x16 then (if x16 < (x0.length : Int) then (if 0 ≤ x18 then (if x18 < (x2.length : Int) then (if ((rd_L1 x0 x16).length : Int) = 0 then (none) else (if 0 ≤ (Int.tmod (wrap64 (rd x2 x18)) ((rd_L1 x0 x16).length : Int)) then (if (Int.tmod (wrap64 (rd x2 x18)) ((rd_L1 x0 x16).length : Int)) < ((rd_L1 x0 x16).length : Int) then (if x17 = true then (l7_GraphLeaves.l2 k x0 x2 x7 x11 (rd (rd_L1 x0 x16) (Int.tmod (wrap64 (rd x2 x18)) ((rd_L1 x0 x16).length : Int))) true (wrap64 (x18 + 1))) else (if ((rd (rd_L1 x0 x16) (Int.tmod (wrap64 (rd x2 x18)) ((rd_L1 x0 x16).length : Int))) = x11) then (l7_GraphLeaves.l2 k x0 x2 x7 x11 (rd (rd_L1 x0 x16) (Int.tmod (wrap64 (rd x2 x18)) ((rd_L1 x0 x16).length : Int))) ((rd (rd_L1 x0 x16) (Int.tmod (wrap64 (rd x2 x18)) ((rd_L1 x0 x16).length : Int))) == x11) (wrap64 (x18 + 1))) else ((r7_In.f k (rd (rd_L1 x0 x16) (Int.tmod (wrap64 (rd x2 x18)) ((rd_L1 x0 x16).length : Int))) x7).bind fun t341 => (if t341 = true then (l7_GraphLeaves.l2 k x0 x2 x7 x11 (rd (rd_L1 x0 x16) (Int.tmod (wrap64 (rd x2 x18)) ((rd_L1 x0 x16).length : Int))) ((rd (rd_L1 x0 x16) (Int.tmod (wrap64 (rd x2 x18)) ((rd_L1 x0 x16).length : Int))) == x11) (wrap64 (x18 + 1))) else (some false))))) else (none)) else (none))) else (none)) else (none)) else (none)) else (none)) else (if x11 < 0 then ((l7_awake.f k).bind fun t342 => (some t342)) else (if 0 ≤ x16 then (if x16 < (x0.length : Int) then (if ((rd_L1 x0 x16).length : Int) > 0 then ((l7_awake.f k).bind fun t344 => (some t344)) else (if x17 = true then ((l7_awake.f k).bind fun t345 => (some t345)) else (some false))) else (none)) else (none)))
end
def l7_GraphLeaves.f (k : Nat) (l0 : List (List Int)) (a1 : Int) (l2 : List Int) : Option (Bool) := (l7_usable.f k l0).bind fun t320 => (if t320 = true then (l7_GraphLeaves.j0 k l0 a1 l2 (decide ((l2.length : Int) > 200))) else (l7_GraphLeaves.j0 k l0 a1 l2 true))
set_option maxHeartbeats 8000000 in
set_option maxRecDepth 100000 in
theorem l7_GraphLeaves.calls (k : Nat) (A0 : Option Addr) (c0 : Nat) (l0 : List (List Int)) (a1 : Int) (A2 : Option Addr) (c2 : Nat) (l2 : List Int) (r : Bool) (w : World) (hr0 : Kd.C (Kd.slice 3 (Kd.int .i64)) w A0 l0.length l0) (hc0 : l0.length ≤ c0) (hr2 : Kd.C (Kd.int .u8) w A2 l2.length l2) (hc2 : l2.length ≤ c2) (h : l7_GraphLeaves.f k l0 a1 l2 = some r) :
  Calls Try.prog 5 #[.slice A0 l0.length c0, .int .i64 a1, .slice A2 l2.length c2] w fun e w' => e = .returned (.bool r) ∧ Below w.heap.size w w' := by
 have HR0 := Aside0.mk hr0; have HC0 := Aside0.mk hc0; clear hr0 hc0; have HR2 := Aside0.mk hr2; have HC2 := Aside0.mk hc2; clear hr2 hc2; have HB := Aside0.mk (Below.refl w.heap.size w); have H : ((l7_usable.f k l0).bind fun t320 => (if t320 = true then (l7_GraphLeaves.j0 k l0 a1 l2 (decide ((l2.length : Int) > 200))) else (l7_GraphLeaves.j0 k l0 a1 l2 true))) = some r := h
 clear h; have HC4 := Aside0.mk H; clear H; go_enter Try.func5, Try.ntmps5
 go_upto_region 1 with (fail)
 repeat (go_quiet (fail); go_upto_region 1 with (fail))
 go_cut [26] (fun v26 wc => ∃ (kq : Nat) (x26_3 : Bool), v26 = .bool x26_3 ∧ Aside0 (l7_GraphLeaves.j0 kq l0 a1 l2 x26_3 = some r) ∧ Aside0 (kq ≤ k) ∧ Aside0 (Below w.heap.size w wc))
 case first =>
  have H := HC4.out; clear HC4; replace H := Option.bind_eq_some_iff.mp H; obtain ⟨t320, A50, H⟩ := H; replace H : (if t320 = true then (l7_GraphLeaves.j0 k l0 a1 l2 (decide ((l2.length : Int) > 200))) else (l7_GraphLeaves.j0 k l0 a1 l2 true)) = some r := H
  have A5 := Aside0.mk A50; clear A50; by_cases c6 : t320 = true
  ·subst c6; have H1 : (l7_GraphLeaves.j0 k l0 a1 l2 (decide ((l2.length : Int) > 200))) = some r := by rw [if_pos rfl] at H; exact H
   clear H; have H := H1; clear H1; have H' := Aside0.mk H
   clear H; go_wp2_with (first | (go_at_call 26; (with_reducible refine (l7_usable.calls k _ _ l0 true _ ?side1 ?side2 A5.out).mono ?_); (case side1 => repeat (first | exact (Kd.C_below HR0.out HB.out) | with_reducible first | refine Kd.C_alloc ?_ _ | refine Kd.C_drewN ?_ _ | refine Kd.C_drew ?_)); (case side2 => exact HC0.out); rintro e w' ⟨rfl, ⟨nd, rfl⟩⟩; (try first | exact ⟨rfl, _, World.drewN_drewN _ _ _⟩ | exact ⟨rfl, _, Eq.trans (World.drewN_drewN _ _ _) (congrArg (World.drewN _) (Nat.add_assoc _ _ _))⟩)))
   repeat (go_quiet (first | (go_at_call 26; (with_reducible refine (l7_usable.calls k _ _ l0 true _ ?side1 ?side2 A5.out).mono ?_); (case side1 => repeat (first | exact (Kd.C_below HR0.out HB.out) | with_reducible first | refine Kd.C_alloc ?_ _ | refine Kd.C_drewN ?_ _ | refine Kd.C_drew ?_)); (case side2 => exact HC0.out); rintro e w' ⟨rfl, ⟨nd, rfl⟩⟩; (try first | exact ⟨rfl, _, World.drewN_drewN _ _ _⟩ | exact ⟨rfl, _, Eq.trans (World.drewN_drewN _ _ _) (congrArg (World.drewN _) (Nat.add_assoc _ _ _))⟩))); try go_wp2_with (first | (go_at_call 26; (with_reducible refine (l7_usable.calls k _ _ l0 true _ ?side1 ?side2 A5.out).mono ?_); (case side1 => repeat (first | exact (Kd.C_below HR0.out HB.out) | with_reducible first | refine Kd.C_alloc ?_ _ | refine Kd.C_drewN ?_ _ | refine Kd.C_drew ?_)); (case side2 => exact HC0.out); rintro e w' ⟨rfl, ⟨nd, rfl⟩⟩; (try first | exact ⟨rfl, _, World.drewN_drewN _ _ _⟩ | exact ⟨rfl, _, Eq.trans (World.drewN_drewN _ _ _) (congrArg (World.drewN _) (Nat.add_assoc _ _ _))⟩))))
   go_meet
   case rel => exact ⟨_, (decide ((l2.length : Int) > 200)), (by first | rfl | (simp; done) | (simp [*]; done)), H', ⟨by first | omega | exact Nat.le_refl _⟩, ⟨by repeat (first | (with_reducible first | exact HB.out | apply below_alloc | apply pw_below_drewN | apply below_drew1) | exact HB.out)⟩⟩
  ·replace c6 := Bool.eq_false_iff.mpr c6; subst c6; have H1 : (l7_GraphLeaves.j0 k l0 a1 l2 true) = some r := by rw [if_neg (show ¬ (false = true) by decide)] at H; exact H
   clear H; have H := H1; clear H1; have H' := Aside0.mk H
   clear H; go_wp2_with (first | (go_at_call 26; (with_reducible refine (l7_usable.calls k _ _ l0 false _ ?side1 ?side2 A5.out).mono ?_); (case side1 => repeat (first | exact (Kd.C_below HR0.out HB.out) | with_reducible first | refine Kd.C_alloc ?_ _ | refine Kd.C_drewN ?_ _ | refine Kd.C_drew ?_)); (case side2 => exact HC0.out); rintro e w' ⟨rfl, ⟨nd, rfl⟩⟩; (try first | exact ⟨rfl, _, World.drewN_drewN _ _ _⟩ | exact ⟨rfl, _, Eq.trans (World.drewN_drewN _ _ _) (congrArg (World.drewN _) (Nat.add_assoc _ _ _))⟩)))
   repeat (go_quiet (first | (go_at_call 26; (with_reducible refine (l7_usable.calls k _ _ l0 false _ ?side1 ?side2 A5.out).mono ?_); (case side1 => repeat (first | exact (Kd.C_below HR0.out HB.out) | with_reducible first | refine Kd.C_alloc ?_ _ | refine Kd.C_drewN ?_ _ | refine Kd.C_drew ?_)); (case side2 => exact HC0.out); rintro e w' ⟨rfl, ⟨nd, rfl⟩⟩; (try first | exact ⟨rfl, _, World.drewN_drewN _ _ _⟩ | exact ⟨rfl, _, Eq.trans (World.drewN_drewN _ _ _) (congrArg (World.drewN _) (Nat.add_assoc _ _ _))⟩))); try go_wp2_with (first | (go_at_call 26; (with_reducible refine (l7_usable.calls k _ _ l0 false _ ?side1 ?side2 A5.out).mono ?_); (case side1 => repeat (first | exact (Kd.C_below HR0.out HB.out) | with_reducible first | refine Kd.C_alloc ?_ _ | refine Kd.C_drewN ?_ _ | refine Kd.C_drew ?_)); (case side2 => exact HC0.out); rintro e w' ⟨rfl, ⟨nd, rfl⟩⟩; (try first | exact ⟨rfl, _, World.drewN_drewN _ _ _⟩ | exact ⟨rfl, _, Eq.trans (World.drewN_drewN _ _ _) (congrArg (World.drewN _) (Nat.add_assoc _ _ _))⟩))))
   go_meet
   case rel => exact ⟨_, (true), (by first | rfl | (simp; done) | (simp [*]; done)), H', ⟨by first | omega | exact Nat.le_refl _⟩, ⟨by repeat (first | (with_reducible first | exact HB.out | apply below_alloc | apply pw_below_drewN | apply below_drew1) | exact HB.out)⟩⟩
 case rest =>
  clear HC4; try clear c2
  try clear p2
  try clear c5
  try clear c6
  obtain ⟨kq, x26_3, rfl, HA, HJ3, HB⟩ := hcut; cases kq with
  | zero => exact absurd HA.out (by simp [l7_GraphLeaves.j0])
  | succ kj3 =>
   have H := HA.out; clear HA; simp only [l7_GraphLeaves.j0] at H
   by_cases c7 : x26_3 = true
   ·subst c7; have H1 : ((l7_awake.f kj3).bind fun t321 => (some t321)) = some r := by rw [if_pos rfl] at H; exact H
    clear H; have H := H1; clear H1; replace H := Option.bind_eq_some_iff.mp H; obtain ⟨t321, A80, H⟩ := H; replace H : (some t321) = some r := H; have A8 := Aside0.mk A80; clear A80; obtain rfl := Option.some.inj H; go_wp2_with (first | (go_at_call 14; (with_reducible refine (l7_awake.calls kj3  t321 _ A8.out).mono ?_); rintro e w9 ⟨rfl, hb⟩; have n0_ := Aside0.mk (below_step (by repeat (first | (with_reducible first | exact HB.out | apply below_alloc | apply pw_below_drewN | apply below_drew1) | exact HB.out)) hb); clear HB; have HB := n0_; clear n0_; (try clear hb); (try clear hb2); (try clear hk); (try clear hi)))
    repeat (go_quiet (first | (go_at_call 14; (with_reducible refine (l7_awake.calls kj3  t321 _ A8.out).mono ?_); rintro e w9 ⟨rfl, hb⟩; have n0_ := Aside0.mk (below_step (by repeat (first | (with_reducible first | exact HB.out | apply below_alloc | apply pw_below_drewN | apply below_drew1) | exact HB.out)) hb); clear HB; have HB := n0_; clear n0_; (try clear hb); (try clear hb2); (try clear hk); (try clear hi))); try go_wp2_with (first | (go_at_call 14; (with_reducible refine (l7_awake.calls kj3  t321 _ A8.out).mono ?_); rintro e w9 ⟨rfl, hb⟩; have n0_ := Aside0.mk (below_step (by repeat (first | (with_reducible first | exact HB.out | apply below_alloc | apply pw_below_drewN | apply below_drew1) | exact HB.out)) hb); clear HB; have HB := n0_; clear n0_; (try clear hb); (try clear hb2); (try clear hk); (try clear hi))))
    go_ret
    exact ⟨by first | rfl | (simp [errW_none, errW_some] <;> rfl) | (simp [*, errW_none, errW_some] <;> rfl), by repeat (first | (with_reducible first | exact HB.out | apply below_alloc | apply pw_below_drewN | apply below_drew1) | exact HB.out)⟩
   ·replace c7 := Bool.eq_false_iff.mpr c7; subst c7; have H1 : (if (l0.length : Int) = 0 then (none) else ((graph_Region.f kj3 l0 (Int.tmod (wrap64 ((Int.tmod a1 (l0.length : Int)) + (l0.length : Int))) (l0.length : Int))).bind fun bt322 => ((graph_Postdominators.f kj3 l0).bind fun bt326 => (if bt322.2 = 0 then (if bt326.2 = 0 then (l7_GraphLeaves.j1 kj3 l0 (Int.tmod (wrap64 ((Int.tmod a1 (l0.length : Int)) + (l0.length : Int))) (l0.length : Int)) l2 bt322.1 bt326.1 ((bt326.1.length : Int) != (l0.length : Int))) else (l7_GraphLeaves.j1 kj3 l0 (Int.tmod (wrap64 ((Int.tmod a1 (l0.length : Int)) + (l0.length : Int))) (l0.length : Int)) l2 bt322.1 bt326.1 true)) else (l7_GraphLeaves.j1 kj3 l0 (Int.tmod (wrap64 ((Int.tmod a1 (l0.length : Int)) + (l0.length : Int))) (l0.length : Int)) l2 bt322.1 bt326.1 true))))) = some r := by rw [if_neg (show ¬ (false = true) by decide)] at H; exact H
    clear H; have H := H1; clear H1; by_cases c10 : (l0.length : Int) = 0
    ·rw [if_pos c10] at H; exact absurd H (by simp)
    ·rw [if_neg c10] at H; have c10b0 : ((l0.length : Int) == 0) = false := beq_eq_false_iff_ne.mpr c10
     have c10b1 : ((l0.length : Int) != 0) = true := bne_iff_ne.mpr c10
     have c10b2 : ¬ (l0 = []) := fun h_ => c10 (by rw [h_]; rfl)
     replace H := Option.bind_eq_some_iff.mp H; obtain ⟨⟨t322, t323⟩, A110, H⟩ := H; replace H : ((graph_Postdominators.f kj3 l0).bind fun bt326 => (if t323 = 0 then (if bt326.2 = 0 then (l7_GraphLeaves.j1 kj3 l0 (Int.tmod (wrap64 ((Int.tmod a1 (l0.length : Int)) + (l0.length : Int))) (l0.length : Int)) l2 t322 bt326.1 ((bt326.1.length : Int) != (l0.length : Int))) else (l7_GraphLeaves.j1 kj3 l0 (Int.tmod (wrap64 ((Int.tmod a1 (l0.length : Int)) + (l0.length : Int))) (l0.length : Int)) l2 t322 bt326.1 true)) else (l7_GraphLeaves.j1 kj3 l0 (Int.tmod (wrap64 ((Int.tmod a1 (l0.length : Int)) + (l0.length : Int))) (l0.length : Int)) l2 t322 bt326.1 true))) = some r := H
     have A11 := Aside0.mk A110; clear A110; replace H := Option.bind_eq_some_iff.mp H; obtain ⟨⟨t326, t327⟩, A120, H⟩ := H; replace H : (if t323 = 0 then (if t327 = 0 then (l7_GraphLeaves.j1 kj3 l0 (Int.tmod (wrap64 ((Int.tmod a1 (l0.length : Int)) + (l0.length : Int))) (l0.length : Int)) l2 t322 t326 ((t326.length : Int) != (l0.length : Int))) else (l7_GraphLeaves.j1 kj3 l0 (Int.tmod (wrap64 ((Int.tmod a1 (l0.length : Int)) + (l0.length : Int))) (l0.length : Int)) l2 t322 t326 true)) else (l7_GraphLeaves.j1 kj3 l0 (Int.tmod (wrap64 ((Int.tmod a1 (l0.length : Int)) + (l0.length : Int))) (l0.length : Int)) l2 t322 t326 true)) = some r := H
     have A12 := Aside0.mk A120; clear A120; have HC13 := Aside0.mk H; clear H; go_upto_region 6 with (first | (go_at_call 23; (with_reducible refine (graph_Region.calls kj3 _ _ l0 (Int.tmod (wrap64 ((Int.tmod a1 (l0.length : Int)) + (l0.length : Int))) (l0.length : Int)) t322 t323 _ ?side1 ?side2 A11.out).mono ?_); (case side1 => repeat (first | exact (Kd.C_below HR0.out HB.out) | with_reducible first | refine Kd.C_alloc ?_ _ | refine Kd.C_drewN ?_ _ | refine Kd.C_drew ?_)); (case side2 => exact HC0.out); rintro e w14 ⟨v324, rfl, ho0, hb⟩; have n0_ := Aside0.mk (Kd.R_lower ho0 (below_size (by repeat (first | (with_reducible first | exact HB.out | apply below_alloc | apply pw_below_drewN | apply below_drew1) | exact HB.out)))); have n1_ := Aside0.mk (below_step (by repeat (first | (with_reducible first | exact HB.out | apply below_alloc | apply pw_below_drewN | apply below_drew1) | exact HB.out)) hb); clear HB; have HO325 := n0_; have HB := n1_; clear n0_ n1_; (try clear hb); (try clear hb2); (try clear hk); (try clear hi); (try clear ho0)) | (go_at_call 27; (with_reducible refine (graph_Postdominators.calls kj3 _ _ l0 t326 t327 _ ?side1 ?side2 A12.out).mono ?_); (case side1 => repeat (first | exact (Kd.C_below HR0.out HB.out) | with_reducible first | refine Kd.C_alloc ?_ _ | refine Kd.C_drewN ?_ _ | refine Kd.C_drew ?_)); (case side2 => exact HC0.out); rintro e w15 ⟨v328, rfl, ho0, hb⟩; have n0_ := Aside0.mk (Kd.R_elder' (by (with_reducible repeat (first | apply Kd.R_alloc | apply Kd.R_drewN | apply Kd.R_drew)); exact HO325.out) (Kd.R_base ho0) hb); have n1_ := Aside0.mk (Kd.R_lower (Kd.R_new' ho0 (Kd.R_lt (by (with_reducible repeat (first | apply Kd.R_alloc | apply Kd.R_drewN | apply Kd.R_drew)); exact HO325.out))) (below_size (by repeat (first | (with_reducible first | exact HB.out | apply below_alloc | apply pw_below_drewN | apply below_drew1) | exact HB.out)))); have n2_ := Aside0.mk (below_step (by repeat (first | (with_reducible first | exact HB.out | apply below_alloc | apply pw_below_drewN | apply below_drew1) | exact HB.out)) hb); clear HO325; clear HB; have HO325 := n0_; have HO329 := n1_; have HB := n2_; clear n0_ n1_ n2_; (try clear hb); (try clear hb2); (try clear hk); (try clear hi); (try clear ho0)))
     repeat (go_quiet (first | (go_at_call 23; (with_reducible refine (graph_Region.calls kj3 _ _ l0 (Int.tmod (wrap64 ((Int.tmod a1 (l0.length : Int)) + (l0.length : Int))) (l0.length : Int)) t322 t323 _ ?side1 ?side2 A11.out).mono ?_); (case side1 => repeat (first | exact (Kd.C_below HR0.out HB.out) | with_reducible first | refine Kd.C_alloc ?_ _ | refine Kd.C_drewN ?_ _ | refine Kd.C_drew ?_)); (case side2 => exact HC0.out); rintro e w14 ⟨v324, rfl, ho0, hb⟩; have n0_ := Aside0.mk (Kd.R_lower ho0 (below_size (by repeat (first | (with_reducible first | exact HB.out | apply below_alloc | apply pw_below_drewN | apply below_drew1) | exact HB.out)))); have n1_ := Aside0.mk (below_step (by repeat (first | (with_reducible first | exact HB.out | apply below_alloc | apply pw_below_drewN | apply below_drew1) | exact HB.out)) hb); clear HB; have HO325 := n0_; have HB := n1_; clear n0_ n1_; (try clear hb); (try clear hb2); (try clear hk); (try clear hi); (try clear ho0)) | (go_at_call 27; (with_reducible refine (graph_Postdominators.calls kj3 _ _ l0 t326 t327 _ ?side1 ?side2 A12.out).mono ?_); (case side1 => repeat (first | exact (Kd.C_below HR0.out HB.out) | with_reducible first | refine Kd.C_alloc ?_ _ | refine Kd.C_drewN ?_ _ | refine Kd.C_drew ?_)); (case side2 => exact HC0.out); rintro e w15 ⟨v328, rfl, ho0, hb⟩; have n0_ := Aside0.mk (Kd.R_elder' (by (with_reducible repeat (first | apply Kd.R_alloc | apply Kd.R_drewN | apply Kd.R_drew)); exact HO325.out) (Kd.R_base ho0) hb); have n1_ := Aside0.mk (Kd.R_lower (Kd.R_new' ho0 (Kd.R_lt (by (with_reducible repeat (first | apply Kd.R_alloc | apply Kd.R_drewN | apply Kd.R_drew)); exact HO325.out))) (below_size (by repeat (first | (with_reducible first | exact HB.out | apply below_alloc | apply pw_below_drewN | apply below_drew1) | exact HB.out)))); have n2_ := Aside0.mk (below_step (by repeat (first | (with_reducible first | exact HB.out | apply below_alloc | apply pw_below_drewN | apply below_drew1) | exact HB.out)) hb); clear HO325; clear HB; have HO325 := n0_; have HO329 := n1_; have HB := n2_; clear n0_ n1_ n2_; (try clear hb); (try clear hb2); (try clear hk); (try clear hi); (try clear ho0))); go_upto_region 6 with (first | (go_at_call 23; (with_reducible refine (graph_Region.calls kj3 _ _ l0 (Int.tmod (wrap64 ((Int.tmod a1 (l0.length : Int)) + (l0.length : Int))) (l0.length : Int)) t322 t323 _ ?side1 ?side2 A11.out).mono ?_); (case side1 => repeat (first | exact (Kd.C_below HR0.out HB.out) | with_reducible first | refine Kd.C_alloc ?_ _ | refine Kd.C_drewN ?_ _ | refine Kd.C_drew ?_)); (case side2 => exact HC0.out); rintro e w14 ⟨v324, rfl, ho0, hb⟩; have n0_ := Aside0.mk (Kd.R_lower ho0 (below_size (by repeat (first | (with_reducible first | exact HB.out | apply below_alloc | apply pw_below_drewN | apply below_drew1) | exact HB.out)))); have n1_ := Aside0.mk (below_step (by repeat (first | (with_reducible first | exact HB.out | apply below_alloc | apply pw_below_drewN | apply below_drew1) | exact HB.out)) hb); clear HB; have HO325 := n0_; have HB := n1_; clear n0_ n1_; (try clear hb); (try clear hb2); (try clear hk); (try clear hi); (try clear ho0)) | (go_at_call 27; (with_reducible refine (graph_Postdominators.calls kj3 _ _ l0 t326 t327 _ ?side1 ?side2 A12.out).mono ?_); (case side1 => repeat (first | exact (Kd.C_below HR0.out HB.out) | with_reducible first | refine Kd.C_alloc ?_ _ | refine Kd.C_drewN ?_ _ | refine Kd.C_drew ?_)); (case side2 => exact HC0.out); rintro e w15 ⟨v328, rfl, ho0, hb⟩; have n0_ := Aside0.mk (Kd.R_elder' (by (with_reducible repeat (first | apply Kd.R_alloc | apply Kd.R_drewN | apply Kd.R_drew)); exact HO325.out) (Kd.R_base ho0) hb); have n1_ := Aside0.mk (Kd.R_lower (Kd.R_new' ho0 (Kd.R_lt (by (with_reducible repeat (first | apply Kd.R_alloc | apply Kd.R_drewN | apply Kd.R_drew)); exact HO325.out))) (below_size (by repeat (first | (with_reducible first | exact HB.out | apply below_alloc | apply pw_below_drewN | apply below_drew1) | exact HB.out)))); have n2_ := Aside0.mk (below_step (by repeat (first | (with_reducible first | exact HB.out | apply below_alloc | apply pw_below_drewN | apply below_drew1) | exact HB.out)) hb); clear HO325; clear HB; have HO325 := n0_; have HO329 := n1_; have HB := n2_; clear n0_ n1_ n2_; (try clear hb); (try clear hb2); (try clear hk); (try clear hi); (try clear ho0))))
     (try simp only [Act.put, List.setIfInBounds_toArray, List.set_cons_zero, List.set_cons_succ])
     go_cut [61] (fun v61 wc => ∃ (kq : Nat) (x61_12 : Bool), v61 = .bool x61_12 ∧ Aside0 (l7_GraphLeaves.j1 kq l0 (Int.tmod (wrap64 ((Int.tmod a1 (l0.length : Int)) + (l0.length : Int))) (l0.length : Int)) l2 t322 t326 x61_12 = some r) ∧ Aside0 (kq ≤ kj3) ∧ Aside0 (Kd.R (Kd.int .i64) 3 wc w.heap.size (fun k_ => some k_ ≠ (v328 : Value).ownBlock) v324 t322) ∧ Aside0 (Kd.R (Kd.int .i64) 3 wc w.heap.size (fun k_ => some k_ ≠ (v324 : Value).ownBlock) v328 t326) ∧ Aside0 (Below w.heap.size w wc))
     case first =>
      have H := HC13.out; clear HC13; by_cases c16 : t323 = 0
      ·rw [if_pos c16] at H; have c16b0 : (t323 == 0) = true := beq_iff_eq.mpr c16
       have c16b1 : (t323 != 0) = false := bne_eq_false_iff_eq.mpr c16
       clear c16; (first | rw [c16b0] | (simp only [i64_w, i32_w]; rw [c16b0]) | skip)
       by_cases c17 : t327 = 0
       ·rw [if_pos c17] at H; have c17b0 : (t327 == 0) = true := beq_iff_eq.mpr c17
        have c17b1 : (t327 != 0) = false := bne_eq_false_iff_eq.mpr c17
        clear c17; have H' := Aside0.mk H
        clear H; obtain ⟨Ao18, co18, eo18⟩ := Kd.R_slice HO329.out; subst eo18; go_wp2
        repeat (go_quiet (fail); try go_wp2)
        go_meet
        case rel => exact ⟨_, (((t326.length : Int) != (l0.length : Int))), (by first | rfl | (simp; done) | (simp [*]; done)), H', ⟨by have := HJ3.out; first | omega | exact Nat.le_refl _⟩, ⟨by (with_reducible repeat (first | apply Kd.R_alloc | apply Kd.R_drewN | apply Kd.R_drew)); exact Kd.R_mono HO325.out (fun _ hk => hk.2)⟩, ⟨by (with_reducible repeat (first | apply Kd.R_alloc | apply Kd.R_drewN | apply Kd.R_drew)); exact Kd.R_mono HO329.out (fun _ hk => hk.2)⟩, ⟨by repeat (first | (with_reducible first | exact HB.out | apply below_alloc | apply pw_below_drewN | apply below_drew1) | exact HB.out)⟩⟩
       ·rw [if_neg c17] at H; have c17b0 : (t327 == 0) = false := beq_eq_false_iff_ne.mpr c17
        have c17b1 : (t327 != 0) = true := bne_iff_ne.mpr c17
        have H' := Aside0.mk H
        clear H; go_wp2
        repeat (go_quiet (fail); try go_wp2)
        go_meet
        case rel => exact ⟨_, (true), (by first | rfl | (simp; done) | (simp [*]; done)), H', ⟨by have := HJ3.out; first | omega | exact Nat.le_refl _⟩, ⟨by (with_reducible repeat (first | apply Kd.R_alloc | apply Kd.R_drewN | apply Kd.R_drew)); exact Kd.R_mono HO325.out (fun _ hk => hk.2)⟩, ⟨by (with_reducible repeat (first | apply Kd.R_alloc | apply Kd.R_drewN | apply Kd.R_drew)); exact Kd.R_mono HO329.out (fun _ hk => hk.2)⟩, ⟨by repeat (first | (with_reducible first | exact HB.out | apply below_alloc | apply pw_below_drewN | apply below_drew1) | exact HB.out)⟩⟩
      ·rw [if_neg c16] at H; have c16b0 : (t323 == 0) = false := beq_eq_false_iff_ne.mpr c16
       have c16b1 : (t323 != 0) = true := bne_iff_ne.mpr c16
       (first | rw [c16b0] | (simp only [i64_w, i32_w]; rw [c16b0]) | skip)
       have H' := Aside0.mk H
       clear H; go_wp2
       repeat (go_quiet (fail); try go_wp2)
       go_meet
       case rel => exact ⟨_, (true), (by first | rfl | (simp; done) | (simp [*]; done)), H', ⟨by have := HJ3.out; first | omega | exact Nat.le_refl _⟩, ⟨by (with_reducible repeat (first | apply Kd.R_alloc | apply Kd.R_drewN | apply Kd.R_drew)); exact Kd.R_mono HO325.out (fun _ hk => hk.2)⟩, ⟨by (with_reducible repeat (first | apply Kd.R_alloc | apply Kd.R_drewN | apply Kd.R_drew)); exact Kd.R_mono HO329.out (fun _ hk => hk.2)⟩, ⟨by repeat (first | (with_reducible first | exact HB.out | apply below_alloc | apply pw_below_drewN | apply below_drew1) | exact HB.out)⟩⟩
     case rest =>
      clear HC13; try clear c1
      try clear c2
      try clear p2
      try clear c5
      try clear c6
      try clear p6
      try clear c7
      try clear c10
      try clear c10b0
      try clear c10b1
      try clear c10b2
      try clear c16
      try clear c16b0
      try clear c16b1
      try clear c17
      try clear c17b0
      try clear c17b1
      try clear p2
      obtain ⟨kq, x61_12, rfl, HA, HJ12, HO_7, HO_9, HB⟩ := hcut; cases kq with
      | zero => exact absurd HA.out (by simp [l7_GraphLeaves.j1])
      | succ kj12 =>
       have H := HA.out; clear HA; simp only [l7_GraphLeaves.j1] at H
       by_cases c19 : x61_12 = true
       ·subst c19; have H1 : (some false) = some r := by rw [if_pos rfl] at H; exact H
        clear H; have H := H1; clear H1; obtain rfl := Option.some.inj H; go_wp2
        repeat (go_quiet (fail); try go_wp2)
        go_ret
        exact ⟨by first | rfl | (simp [errW_none, errW_some] <;> rfl) | (simp [*, errW_none, errW_some] <;> rfl), by repeat (first | (with_reducible first | exact HB.out | apply below_alloc | apply pw_below_drewN | apply below_drew1) | exact HB.out)⟩
       ·replace c19 := Bool.eq_false_iff.mpr c19; subst c19; have H1 : (if 0 ≤ (Int.tmod (wrap64 ((Int.tmod a1 (l0.length : Int)) + (l0.length : Int))) (l0.length : Int)) then (if (Int.tmod (wrap64 ((Int.tmod a1 (l0.length : Int)) + (l0.length : Int))) (l0.length : Int)) < (t326.length : Int) then (l7_GraphLeaves.l0 kj12 l0 (Int.tmod (wrap64 ((Int.tmod a1 (l0.length : Int)) + (l0.length : Int))) (l0.length : Int)) l2 t322 (rd t326 (Int.tmod (wrap64 ((Int.tmod a1 (l0.length : Int)) + (l0.length : Int))) (l0.length : Int))) 0) else (none)) else (none)) = some r := by rw [if_neg (show ¬ (false = true) by decide)] at H; exact H
        clear H; have H := H1; clear H1; obtain ⟨ji20, hji20⟩ : ∃ j_ : Int, (Int.tmod (wrap64 ((Int.tmod a1 (l0.length : Int)) + (l0.length : Int))) (l0.length : Int)) = j_ := ⟨_, rfl⟩; replace H : (if 0 ≤ (ji20) then (if (ji20) < (t326.length : Int) then (l7_GraphLeaves.l0 kj12 l0 (ji20) l2 t322 (rd t326 (ji20)) 0) else (none)) else (none)) = some r := by first | (rw [hji20] at H; exact H) | (simp only [hji20] at H ⊢; exact H)
        by_cases c21 : 0 ≤ (ji20)
        ·rw [if_pos c21] at H; have c21b0 : decide (0 ≤ (ji20)) = true := decide_eq_true c21
         clear c21; by_cases c22 : (ji20) < (t326.length : Int)
         ·rw [if_pos c22] at H; have c22b0 : decide ((ji20) < (t326.length : Int)) = true := decide_eq_true c22
          clear c22; have H' := Aside0.mk H
          clear H; obtain ⟨Ao23, co23, eo23⟩ := Kd.R_slice HO_9.out; subst eo23; have p330 : 0 ≤ ((ji20) : Int) := of_decide_eq_true (by with_reducible assumption)
          have q330 : (ji20) < (t326.length : Int) := of_decide_eq_true (by with_reducible assumption)
          obtain ⟨ad330, e330, hx330_0⟩ := Kd.at_int (Kd.R_reads' HO_9.out).2.2 (ji20) p330 q330; cases e330; replace p330 := eq_true p330; replace q330 := eq_true q330; go_wp2
          repeat (go_quiet (fail); try go_wp2)
          go_loopg [12] kj12 (fun kq v12 w' => ∃ (x12_3 : Int), v12 = .int .i64 x12_3 ∧ Aside0 (l7_GraphLeaves.l0 kq l0 (ji20) l2 t322 (rd t326 (ji20)) x12_3 = some r) ∧ Aside0 (kq ≤ kj12) ∧ Aside0 (Kd.R (Kd.int .i64) 3 w' w.heap.size (fun _ => True) v324 t322) ∧ Aside0 (Below w.heap.size w w'))
          case atStart => exact ⟨(0), (by first | rfl | (simp; done) | (simp [*]; done)), H', ⟨Nat.le_refl _⟩, ⟨by (with_reducible repeat (first | apply Kd.R_alloc | apply Kd.R_drewN | apply Kd.R_drew)); exact Kd.R_mono HO_7.out (fun _ hk => trivial)⟩, ⟨by repeat (first | (with_reducible first | exact HB.out | apply below_alloc | apply pw_below_drewN | apply below_drew1) | exact HB.out)⟩⟩
          case round =>
           clear H'; try clear c1
           try clear c2
           try clear p2
           try clear p3
           try clear q3
           try clear hx3
           try clear c5
           try clear c6
           try clear p6
           try clear c7
           try clear c10
           try clear c10b0
           try clear c10b1
           try clear c10b2
           try clear c16
           try clear c16b0
           try clear c16b1
           try clear c17
           try clear c17b0
           try clear c17b1
           try clear c19
           try clear c21
           try clear c21b0
           try clear c22
           try clear c22b0
           try clear hx330_0
           try clear p2
           try clear p330
           try clear p6
           try clear q330
           obtain ⟨x12_3, rfl, HA, HK3, HO_7, HB⟩ := hrel; cases gk with
           | zero => exact absurd HA.out (by simp [l7_GraphLeaves.l0])
           | succ k3 =>
            have H := HA.out; clear HA; simp only [l7_GraphLeaves.l0] at H
            by_cases c24 : x12_3 < (t322.length : Int)
            ·rw [if_pos c24] at H; have c24b0 : decide (x12_3 < (t322.length : Int)) = true := decide_eq_true c24
             clear c24; by_cases c25 : 0 ≤ x12_3
             ·rw [if_pos c25] at H; have c25b0 : decide (0 ≤ x12_3) = true := decide_eq_true c25
              clear c25; have HC26 := Aside0.mk H; clear H; obtain ⟨Ao27, co27, eo27⟩ := Kd.R_slice HO_7.out; subst eo27; have p331 : 0 ≤ (x12_3 : Int) := of_decide_eq_true (by with_reducible assumption)
              have q331 : x12_3 < (t322.length : Int) := of_decide_eq_true (by with_reducible assumption)
              obtain ⟨ad331, e331, hx331_0⟩ := Kd.at_int (Kd.R_reads' HO_7.out).2.2 x12_3 p331 q331; cases e331; replace p331 := eq_true p331; replace q331 := eq_true q331; go_upto_region 13 with (fail)
              repeat (go_quiet (fail); go_upto_region 13 with (fail))
              go_cut [88] (fun v88 wc => ∃ (kq : Nat) (x88_25 : Bool), v88 = .bool x88_25 ∧ Aside0 (l7_GraphLeaves.j3 kq l0 (ji20) l2 t322 (rd t326 (ji20)) x12_3 (rd t322 x12_3) x88_25 = some r) ∧ Aside0 (kq ≤ k3) ∧ Aside0 (Kd.R (Kd.int .i64) 3 wc w.heap.size (fun _ => True) (.slice (some ad331) t322.length co27) t322) ∧ Aside0 (Below w.heap.size w wc))
              case first =>
               have H := HC26.out; clear HC26; by_cases c28 : (rd t322 x12_3) < 0
               ·rw [if_pos c28] at H; have c28b0 : decide ((rd t322 x12_3) < 0) = true := decide_eq_true c28
                clear c28; (first | rw [c28b0] | (simp only [i64_w, i32_w]; rw [c28b0]) | skip)
                have H' := Aside0.mk H
                clear H; go_wp2
                repeat (go_quiet (fail); try go_wp2)
                go_meet
                case rel => exact ⟨_, (true), (by first | rfl | (simp; done) | (simp [*]; done)), H', ⟨by have := HJ3.out; have := HJ12.out; have := HK3.out; first | omega | exact Nat.le_refl _⟩, ⟨by (with_reducible repeat (first | apply Kd.R_alloc | apply Kd.R_drewN | apply Kd.R_drew)); exact HO_7.out⟩, ⟨by repeat (first | (with_reducible first | exact HB.out | apply below_alloc | apply pw_below_drewN | apply below_drew1) | exact HB.out)⟩⟩
               ·rw [if_neg c28] at H; have c28b0 : decide ((rd t322 x12_3) < 0) = false := decide_eq_false c28
                clear c28; (first | rw [c28b0] | (simp only [i64_w, i32_w]; rw [c28b0]) | skip)
                by_cases c29 : (rd t322 x12_3) ≥ (l0.length : Int)
                ·rw [if_pos c29] at H; have c29b0 : decide ((l0.length : Int) ≤ (rd t322 x12_3)) = true := decide_eq_true c29
                 clear c29; have H' := Aside0.mk H
                 clear H; go_wp2
                 repeat (go_quiet (fail); try go_wp2)
                 go_meet
                 case rel => exact ⟨_, (true), (by first | rfl | (simp; done) | (simp [*]; done)), H', ⟨by have := HJ3.out; have := HJ12.out; have := HK3.out; first | omega | exact Nat.le_refl _⟩, ⟨by (with_reducible repeat (first | apply Kd.R_alloc | apply Kd.R_drewN | apply Kd.R_drew)); exact HO_7.out⟩, ⟨by repeat (first | (with_reducible first | exact HB.out | apply below_alloc | apply pw_below_drewN | apply below_drew1) | exact HB.out)⟩⟩
                ·rw [if_neg c29] at H; have c29b0 : decide ((l0.length : Int) ≤ (rd t322 x12_3)) = false := decide_eq_false c29
                 clear c29; have H' := Aside0.mk H
                 clear H; go_wp2
                 repeat (go_quiet (fail); try go_wp2)
                 go_meet
                 case rel => exact ⟨_, (((rd t322 x12_3) == (rd t326 (ji20)))), (by first | rfl | (simp; done) | (simp only [← hji20] <;> (first | rfl | simp)) | (simp [*]; done)), H', ⟨by have := HJ3.out; have := HJ12.out; have := HK3.out; first | omega | exact Nat.le_refl _⟩, ⟨by (with_reducible repeat (first | apply Kd.R_alloc | apply Kd.R_drewN | apply Kd.R_drew)); exact HO_7.out⟩, ⟨by repeat (first | (with_reducible first | exact HB.out | apply below_alloc | apply pw_below_drewN | apply below_drew1) | exact HB.out)⟩⟩
              case rest =>
               clear HC26; try clear c1
               try clear c2
               try clear p2
               try clear p3
               try clear q3
               try clear hx3
               try clear c5
               try clear c6
               try clear p6
               try clear c7
               try clear c10
               try clear c10b0
               try clear c10b1
               try clear c10b2
               try clear c16
               try clear c16b0
               try clear c16b1
               try clear c17
               try clear c17b0
               try clear c17b1
               try clear c19
               try clear c21
               try clear c21b0
               try clear c22
               try clear c22b0
               try clear c24
               try clear c24b0
               try clear c25
               try clear c25b0
               try clear c28
               try clear c28b0
               try clear c29
               try clear c29b0
               try clear hx330_0
               try clear hx331_0
               try clear p2
               try clear p3
               try clear p330
               try clear p331
               try clear p6
               try clear q3
               try clear q330
               try clear q331
               obtain ⟨kq, x88_25, rfl, HA, HJ25, HO_7, HB⟩ := hcut; cases kq with
               | zero => exact absurd HA.out (by simp [l7_GraphLeaves.j3])
               | succ kj25 =>
                have H := HA.out; clear HA; simp only [l7_GraphLeaves.j3] at H
                by_cases c30 : x88_25 = true
                ·subst c30; have H1 : (some false) = some r := by rw [if_pos rfl] at H; exact H
                 clear H; have H := H1; clear H1; obtain rfl := Option.some.inj H; go_wp2
                 repeat (go_quiet (fail); try go_wp2)
                 go_ret
                 exact ⟨by first | rfl | (simp [errW_none, errW_some] <;> rfl) | (simp only [← hji20]; first | rfl | (simp [errW_none, errW_some] <;> rfl)) | (simp [*, errW_none, errW_some] <;> rfl), by repeat (first | (with_reducible first | exact HB.out | apply below_alloc | apply pw_below_drewN | apply below_drew1) | exact HB.out)⟩
                ·replace c30 := Bool.eq_false_iff.mpr c30; subst c30; have H1 : (l7_GraphLeaves.l1 kj25 l0 (ji20) l2 t322 (rd t326 (ji20)) x12_3 (rd t322 x12_3) 0) = some r := by rw [if_neg (show ¬ (false = true) by decide)] at H; exact H
                 clear H; have H := H1; clear H1; have H' := Aside0.mk H
                 clear H; go_wp2
                 repeat (go_quiet (fail); try go_wp2)
                 go_loopg [14] kj25 (fun kq v14 w' => ∃ (x14_5 : Int), v14 = .int .i64 x14_5 ∧ Aside0 (l7_GraphLeaves.l1 kq l0 (ji20) l2 t322 (rd t326 (ji20)) x12_3 (rd t322 x12_3) x14_5 = some r) ∧ Aside0 (kq ≤ kj25) ∧ Aside0 (Kd.R (Kd.int .i64) 3 w' w.heap.size (fun _ => True) (.slice (some ad331) t322.length co27) t322) ∧ Aside0 (Below w.heap.size w w'))
                 case atStart => exact ⟨(0), (by first | rfl | (simp; done) | (simp [*]; done)), H', ⟨Nat.le_refl _⟩, ⟨by (with_reducible repeat (first | apply Kd.R_alloc | apply Kd.R_drewN | apply Kd.R_drew)); exact HO_7.out⟩, ⟨by repeat (first | (with_reducible first | exact HB.out | apply below_alloc | apply pw_below_drewN | apply below_drew1) | exact HB.out)⟩⟩
                 case round =>
                  clear H'; try clear c1
                  try clear c2
                  try clear p2
                  try clear c3
                  try clear p3
                  try clear q3
                  try clear hx3
                  try clear c5
                  try clear c6
                  try clear p6
                  try clear c7
                  try clear c10
                  try clear c10b0
                  try clear c10b1
                  try clear c10b2
                  try clear c16
                  try clear c16b0
                  try clear c16b1
                  try clear c17
                  try clear c17b0
                  try clear c17b1
                  try clear c19
                  try clear c21
                  try clear c21b0
                  try clear c22
                  try clear c22b0
                  try clear c24
                  try clear c24b0
                  try clear c25
                  try clear c25b0
                  try clear c28
                  try clear c28b0
                  try clear c29
                  try clear c29b0
                  try clear c30
                  try clear hx330_0
                  try clear hx331_0
                  try clear p2
                  try clear p3
                  try clear p330
                  try clear p331
                  try clear p6
                  try clear q3
                  try clear q330
                  try clear q331
                  obtain ⟨x14_5, rfl, HA, HK5, HO_7, HB⟩ := hrel; cases gk with
                  | zero => exact absurd HA.out (by simp [l7_GraphLeaves.l1])
                  | succ k5 =>
                   have H := HA.out; clear HA; simp only [l7_GraphLeaves.l1] at H
                   by_cases c31 : 0 ≤ (rd t322 x12_3)
                   ·rw [if_pos c31] at H; have c31b0 : decide (0 ≤ (rd t322 x12_3)) = true := decide_eq_true c31
                    clear c31; by_cases c32 : (rd t322 x12_3) < (l0.length : Int)
                    ·rw [if_pos c32] at H; have c32b0 : decide ((rd t322 x12_3) < (l0.length : Int)) = true := decide_eq_true c32
                     clear c32; by_cases c33 : x14_5 < ((rd_L1 l0 (rd t322 x12_3)).length : Int)
                     ·rw [if_pos c33] at H; have c33b0 : decide (x14_5 < ((rd_L1 l0 (rd t322 x12_3)).length : Int)) = true := decide_eq_true c33
                      clear c33; by_cases c34 : 0 ≤ x14_5
                      ·rw [if_pos c34] at H; have c34b0 : decide (0 ≤ x14_5) = true := decide_eq_true c34
                       clear c34; by_cases c35 : (rd (rd_L1 l0 (rd t322 x12_3)) x14_5) = (rd t326 (ji20))
                       ·rw [if_pos c35] at H; have c35b0 : ((rd (rd_L1 l0 (rd t322 x12_3)) x14_5) == (rd t326 (ji20))) = true := beq_iff_eq.mpr c35
                        have c35b1 : ((rd (rd_L1 l0 (rd t322 x12_3)) x14_5) != (rd t326 (ji20))) = false := bne_eq_false_iff_eq.mpr c35
                        clear c35; have H' := Aside0.mk H
                        clear H; have p332 : 0 ≤ ((rd t322 x12_3) : Int) := of_decide_eq_true (by with_reducible assumption)
                        have q332 : (rd t322 x12_3) < (l0.length : Int) := of_decide_eq_true (by with_reducible assumption)
                        obtain ⟨ad332, A332_0, c332_0, e332, hx332_0, hl332_0, hi332_0⟩ := at_L1 HR0.out (rd t322 x12_3) p332 q332; cases e332; replace hx332_0 := (HB.out.cell (World.block_lt_of_cell? w _ hx332_0)).trans hx332_0; have HR332_0 := Aside0.mk hi332_0; have HC332_0 := Aside0.mk hl332_0; clear hi332_0 hl332_0; replace p332 := eq_true p332; replace q332 := eq_true q332; have p333 : 0 ≤ ((rd t322 x12_3) : Int) := of_decide_eq_true (by with_reducible assumption)
                        have q333 : (rd t322 x12_3) < (l0.length : Int) := of_decide_eq_true (by with_reducible assumption)
                        obtain ⟨ad333, A333_0, c333_0, e333, hx333_0, hl333_0, hi333_0⟩ := at_L1 HR0.out (rd t322 x12_3) p333 q333; obtain rfl : ad332 = ad333 := (by injection e333)
                        replace hx333_0 := (HB.out.cell (World.block_lt_of_cell? w _ hx333_0)).trans hx333_0; have HR333_0 := Aside0.mk hi333_0; have HC333_0 := Aside0.mk hl333_0; clear hi333_0 hl333_0; replace p333 := eq_true p333; replace q333 := eq_true q333; have ea_ := Option.some.inj (hx332_0.symm.trans hx333_0); injection ea_ with ea_ en_ ec_
                        subst ea_; subst ec_; clear en_; have p334 : 0 ≤ (x14_5 : Int) := of_decide_eq_true (by with_reducible assumption)
                        have q334 : x14_5 < ((rd_L1 l0 (rd t322 x12_3)).length : Int) := of_decide_eq_true (by with_reducible assumption)
                        obtain ⟨ad334, e334, hx334_0⟩ := Kd.at_int HR333_0.out x14_5 p334 q334; cases e334; replace hx334_0 := (HB.out.cell (World.block_lt_of_cell? w _ hx334_0)).trans hx334_0; replace p334 := eq_true p334; replace q334 := eq_true q334; go_wp2
                        repeat (go_quiet (fail); try go_wp2)
                        subst hji20; go_roundg k5
                        case measure => have := HJ3.out; have := HJ12.out; have := HK3.out; have := HJ25.out; have := HK5.out; omega
                        case rel => exact ⟨(wrap64 (x14_5 + 1)), (by first | rfl | (simp; done) | (simp [*]; done)), H', ⟨by have := HJ3.out; have := HJ12.out; have := HK3.out; have := HJ25.out; have := HK5.out; omega⟩, ⟨by (with_reducible repeat (first | apply Kd.R_alloc | apply Kd.R_drewN | apply Kd.R_drew)); exact HO_7.out⟩, ⟨by repeat (first | (with_reducible first | exact HB.out | apply below_alloc | apply pw_below_drewN | apply below_drew1) | exact HB.out)⟩⟩
                       ·rw [if_neg c35] at H; have c35b0 : ((rd (rd_L1 l0 (rd t322 x12_3)) x14_5) == (rd t326 (ji20))) = false := beq_eq_false_iff_ne.mpr c35
                        have c35b1 : ((rd (rd_L1 l0 (rd t322 x12_3)) x14_5) != (rd t326 (ji20))) = true := bne_iff_ne.mpr c35
                        replace H := Option.bind_eq_some_iff.mp H; obtain ⟨t335, A360, H⟩ := H; replace H : (if t335 = true then (l7_GraphLeaves.l1 k5 l0 (ji20) l2 t322 (rd t326 (ji20)) x12_3 (rd t322 x12_3) (wrap64 (x14_5 + 1))) else (some false)) = some r := H
                        have A36 := Aside0.mk A360; clear A360; by_cases c37 : t335 = true
                        ·subst c37; have H1 : (l7_GraphLeaves.l1 k5 l0 (ji20) l2 t322 (rd t326 (ji20)) x12_3 (rd t322 x12_3) (wrap64 (x14_5 + 1))) = some r := by rw [if_pos rfl] at H; exact H
                         clear H; have H := H1; clear H1; have H' := Aside0.mk H
                         clear H; have p332 : 0 ≤ ((rd t322 x12_3) : Int) := of_decide_eq_true (by with_reducible assumption)
                         have q332 : (rd t322 x12_3) < (l0.length : Int) := of_decide_eq_true (by with_reducible assumption)
                         obtain ⟨ad332, A332_0, c332_0, e332, hx332_0, hl332_0, hi332_0⟩ := at_L1 HR0.out (rd t322 x12_3) p332 q332; cases e332; replace hx332_0 := (HB.out.cell (World.block_lt_of_cell? w _ hx332_0)).trans hx332_0; have HR332_0 := Aside0.mk hi332_0; have HC332_0 := Aside0.mk hl332_0; clear hi332_0 hl332_0; replace p332 := eq_true p332; replace q332 := eq_true q332; have p333 : 0 ≤ ((rd t322 x12_3) : Int) := of_decide_eq_true (by with_reducible assumption)
                         have q333 : (rd t322 x12_3) < (l0.length : Int) := of_decide_eq_true (by with_reducible assumption)
                         obtain ⟨ad333, A333_0, c333_0, e333, hx333_0, hl333_0, hi333_0⟩ := at_L1 HR0.out (rd t322 x12_3) p333 q333; obtain rfl : ad332 = ad333 := (by injection e333)
                         replace hx333_0 := (HB.out.cell (World.block_lt_of_cell? w _ hx333_0)).trans hx333_0; have HR333_0 := Aside0.mk hi333_0; have HC333_0 := Aside0.mk hl333_0; clear hi333_0 hl333_0; replace p333 := eq_true p333; replace q333 := eq_true q333; have ea_ := Option.some.inj (hx332_0.symm.trans hx333_0); injection ea_ with ea_ en_ ec_
                         subst ea_; subst ec_; clear en_; have p334 : 0 ≤ (x14_5 : Int) := of_decide_eq_true (by with_reducible assumption)
                         have q334 : x14_5 < ((rd_L1 l0 (rd t322 x12_3)).length : Int) := of_decide_eq_true (by with_reducible assumption)
                         obtain ⟨ad334, e334, hx334_0⟩ := Kd.at_int HR333_0.out x14_5 p334 q334; cases e334; replace hx334_0 := (HB.out.cell (World.block_lt_of_cell? w _ hx334_0)).trans hx334_0; replace p334 := eq_true p334; replace q334 := eq_true q334; go_wp2_with (first | (go_at_call 28; (with_reducible refine (r7_In.calls k5 (rd (rd_L1 l0 (rd t322 x12_3)) x14_5) _ _ t322 true _ ?side1 ?side2 A36.out).mono ?_); (case side1 => repeat (first | exact (Kd.R_reads' HO_7.out).2.2 | with_reducible first | refine Kd.C_alloc ?_ _ | refine Kd.C_drewN ?_ _ | refine Kd.C_drew ?_)); (case side2 => exact (Kd.R_reads' HO_7.out).2.1); rintro e w' ⟨rfl, ⟨nd, rfl⟩⟩; (try first | exact ⟨rfl, _, World.drewN_drewN _ _ _⟩ | exact ⟨rfl, _, Eq.trans (World.drewN_drewN _ _ _) (congrArg (World.drewN _) (Nat.add_assoc _ _ _))⟩)))
                         repeat (go_quiet (first | (go_at_call 28; (with_reducible refine (r7_In.calls k5 (rd (rd_L1 l0 (rd t322 x12_3)) x14_5) _ _ t322 true _ ?side1 ?side2 A36.out).mono ?_); (case side1 => repeat (first | exact (Kd.R_reads' HO_7.out).2.2 | with_reducible first | refine Kd.C_alloc ?_ _ | refine Kd.C_drewN ?_ _ | refine Kd.C_drew ?_)); (case side2 => exact (Kd.R_reads' HO_7.out).2.1); rintro e w' ⟨rfl, ⟨nd, rfl⟩⟩; (try first | exact ⟨rfl, _, World.drewN_drewN _ _ _⟩ | exact ⟨rfl, _, Eq.trans (World.drewN_drewN _ _ _) (congrArg (World.drewN _) (Nat.add_assoc _ _ _))⟩))); try go_wp2_with (first | (go_at_call 28; (with_reducible refine (r7_In.calls k5 (rd (rd_L1 l0 (rd t322 x12_3)) x14_5) _ _ t322 true _ ?side1 ?side2 A36.out).mono ?_); (case side1 => repeat (first | exact (Kd.R_reads' HO_7.out).2.2 | with_reducible first | refine Kd.C_alloc ?_ _ | refine Kd.C_drewN ?_ _ | refine Kd.C_drew ?_)); (case side2 => exact (Kd.R_reads' HO_7.out).2.1); rintro e w' ⟨rfl, ⟨nd, rfl⟩⟩; (try first | exact ⟨rfl, _, World.drewN_drewN _ _ _⟩ | exact ⟨rfl, _, Eq.trans (World.drewN_drewN _ _ _) (congrArg (World.drewN _) (Nat.add_assoc _ _ _))⟩))))
                         subst hji20; go_roundg k5
                         case measure => have := HJ3.out; have := HJ12.out; have := HK3.out; have := HJ25.out; have := HK5.out; omega
                         case rel => exact ⟨(wrap64 (x14_5 + 1)), (by first | rfl | (simp; done) | (simp [*]; done)), H', ⟨by have := HJ3.out; have := HJ12.out; have := HK3.out; have := HJ25.out; have := HK5.out; omega⟩, ⟨by (with_reducible repeat (first | apply Kd.R_alloc | apply Kd.R_drewN | apply Kd.R_drew)); exact HO_7.out⟩, ⟨by repeat (first | (with_reducible first | exact HB.out | apply below_alloc | apply pw_below_drewN | apply below_drew1) | exact HB.out)⟩⟩
                        ·replace c37 := Bool.eq_false_iff.mpr c37; subst c37; have H1 : (some false) = some r := by rw [if_neg (show ¬ (false = true) by decide)] at H; exact H
                         clear H; have H := H1; clear H1; obtain rfl := Option.some.inj H; have p332 : 0 ≤ ((rd t322 x12_3) : Int) := of_decide_eq_true (by with_reducible assumption)
                         have q332 : (rd t322 x12_3) < (l0.length : Int) := of_decide_eq_true (by with_reducible assumption)
                         obtain ⟨ad332, A332_0, c332_0, e332, hx332_0, hl332_0, hi332_0⟩ := at_L1 HR0.out (rd t322 x12_3) p332 q332; cases e332; replace hx332_0 := (HB.out.cell (World.block_lt_of_cell? w _ hx332_0)).trans hx332_0; have HR332_0 := Aside0.mk hi332_0; have HC332_0 := Aside0.mk hl332_0; clear hi332_0 hl332_0; replace p332 := eq_true p332; replace q332 := eq_true q332; have p333 : 0 ≤ ((rd t322 x12_3) : Int) := of_decide_eq_true (by with_reducible assumption)
                         have q333 : (rd t322 x12_3) < (l0.length : Int) := of_decide_eq_true (by with_reducible assumption)
                         obtain ⟨ad333, A333_0, c333_0, e333, hx333_0, hl333_0, hi333_0⟩ := at_L1 HR0.out (rd t322 x12_3) p333 q333; obtain rfl : ad332 = ad333 := (by injection e333)
                         replace hx333_0 := (HB.out.cell (World.block_lt_of_cell? w _ hx333_0)).trans hx333_0; have HR333_0 := Aside0.mk hi333_0; have HC333_0 := Aside0.mk hl333_0; clear hi333_0 hl333_0; replace p333 := eq_true p333; replace q333 := eq_true q333; have ea_ := Option.some.inj (hx332_0.symm.trans hx333_0); injection ea_ with ea_ en_ ec_
                         subst ea_; subst ec_; clear en_; have p334 : 0 ≤ (x14_5 : Int) := of_decide_eq_true (by with_reducible assumption)
                         have q334 : x14_5 < ((rd_L1 l0 (rd t322 x12_3)).length : Int) := of_decide_eq_true (by with_reducible assumption)
                         obtain ⟨ad334, e334, hx334_0⟩ := Kd.at_int HR333_0.out x14_5 p334 q334; cases e334; replace hx334_0 := (HB.out.cell (World.block_lt_of_cell? w _ hx334_0)).trans hx334_0; replace p334 := eq_true p334; replace q334 := eq_true q334; go_wp2_with (first | (go_at_call 28; (with_reducible refine (r7_In.calls k5 (rd (rd_L1 l0 (rd t322 x12_3)) x14_5) _ _ t322 false _ ?side1 ?side2 A36.out).mono ?_); (case side1 => repeat (first | exact (Kd.R_reads' HO_7.out).2.2 | with_reducible first | refine Kd.C_alloc ?_ _ | refine Kd.C_drewN ?_ _ | refine Kd.C_drew ?_)); (case side2 => exact (Kd.R_reads' HO_7.out).2.1); rintro e w' ⟨rfl, ⟨nd, rfl⟩⟩; (try first | exact ⟨rfl, _, World.drewN_drewN _ _ _⟩ | exact ⟨rfl, _, Eq.trans (World.drewN_drewN _ _ _) (congrArg (World.drewN _) (Nat.add_assoc _ _ _))⟩)))
                         repeat (go_quiet (first | (go_at_call 28; (with_reducible refine (r7_In.calls k5 (rd (rd_L1 l0 (rd t322 x12_3)) x14_5) _ _ t322 false _ ?side1 ?side2 A36.out).mono ?_); (case side1 => repeat (first | exact (Kd.R_reads' HO_7.out).2.2 | with_reducible first | refine Kd.C_alloc ?_ _ | refine Kd.C_drewN ?_ _ | refine Kd.C_drew ?_)); (case side2 => exact (Kd.R_reads' HO_7.out).2.1); rintro e w' ⟨rfl, ⟨nd, rfl⟩⟩; (try first | exact ⟨rfl, _, World.drewN_drewN _ _ _⟩ | exact ⟨rfl, _, Eq.trans (World.drewN_drewN _ _ _) (congrArg (World.drewN _) (Nat.add_assoc _ _ _))⟩))); try go_wp2_with (first | (go_at_call 28; (with_reducible refine (r7_In.calls k5 (rd (rd_L1 l0 (rd t322 x12_3)) x14_5) _ _ t322 false _ ?side1 ?side2 A36.out).mono ?_); (case side1 => repeat (first | exact (Kd.R_reads' HO_7.out).2.2 | with_reducible first | refine Kd.C_alloc ?_ _ | refine Kd.C_drewN ?_ _ | refine Kd.C_drew ?_)); (case side2 => exact (Kd.R_reads' HO_7.out).2.1); rintro e w' ⟨rfl, ⟨nd, rfl⟩⟩; (try first | exact ⟨rfl, _, World.drewN_drewN _ _ _⟩ | exact ⟨rfl, _, Eq.trans (World.drewN_drewN _ _ _) (congrArg (World.drewN _) (Nat.add_assoc _ _ _))⟩))))
                         go_ret
                         exact ⟨by first | rfl | (simp [errW_none, errW_some] <;> rfl) | (simp only [← hji20]; first | rfl | (simp [errW_none, errW_some] <;> rfl)) | (simp [*, errW_none, errW_some] <;> rfl), by repeat (first | (with_reducible first | exact HB.out | apply below_alloc | apply pw_below_drewN | apply below_drew1) | exact HB.out)⟩
                      ·rw [if_neg c34] at H; exact absurd H (by simp)
                     ·rw [if_neg c33] at H; have c33b0 : decide (x14_5 < ((rd_L1 l0 (rd t322 x12_3)).length : Int)) = false := decide_eq_false c33
                      clear c33; have H' := Aside0.mk H
                      clear H; have p332 : 0 ≤ ((rd t322 x12_3) : Int) := of_decide_eq_true (by with_reducible assumption)
                      have q332 : (rd t322 x12_3) < (l0.length : Int) := of_decide_eq_true (by with_reducible assumption)
                      obtain ⟨ad332, A332_0, c332_0, e332, hx332_0, hl332_0, hi332_0⟩ := at_L1 HR0.out (rd t322 x12_3) p332 q332; cases e332; replace hx332_0 := (HB.out.cell (World.block_lt_of_cell? w _ hx332_0)).trans hx332_0; have HR332_0 := Aside0.mk hi332_0; have HC332_0 := Aside0.mk hl332_0; clear hi332_0 hl332_0; replace p332 := eq_true p332; replace q332 := eq_true q332; go_wp2
                      repeat (go_quiet (fail); try go_wp2)
                      go_roundg k5
                      case measure => have := HJ3.out; have := HJ12.out; have := HK3.out; have := HJ25.out; have := HK5.out; omega
                      case rel => exact ⟨(wrap64 (x12_3 + 1)), (by first | rfl | (simp; done) | (simp [*]; done)), H', ⟨by have := HJ3.out; have := HJ12.out; have := HK3.out; have := HJ25.out; have := HK5.out; omega⟩, ⟨by (with_reducible repeat (first | apply Kd.R_alloc | apply Kd.R_drewN | apply Kd.R_drew)); exact HO_7.out⟩, ⟨by repeat (first | (with_reducible first | exact HB.out | apply below_alloc | apply pw_below_drewN | apply below_drew1) | exact HB.out)⟩⟩
                    ·rw [if_neg c32] at H; exact absurd H (by simp)
                   ·rw [if_neg c31] at H; exact absurd H (by simp)
             ·rw [if_neg c25] at H; exact absurd H (by simp)
            ·rw [if_neg c24] at H; have c24b0 : decide (x12_3 < (t322.length : Int)) = false := decide_eq_false c24
             clear c24; have H' := Aside0.mk H
             clear H; obtain ⟨Ao38, co38, eo38⟩ := Kd.R_slice HO_7.out; subst eo38; go_wp2
             repeat (go_quiet (fail); try go_wp2)
             go_loopg [16, 17, 18] k3 (fun kq v16 v17 v18 w' => ∃ (x16_4 : Int) (x17_4 : Bool) (x18_4 : Int), v16 = .int .i64 x16_4 ∧ v17 = .bool x17_4 ∧ v18 = .int .i64 x18_4 ∧ Aside0 (l7_GraphLeaves.l2 kq l0 l2 t322 (rd t326 (ji20)) x16_4 x17_4 x18_4 = some r) ∧ Aside0 (kq ≤ k3) ∧ Aside0 (Kd.R (Kd.int .i64) 3 w' w.heap.size (fun _ => True) (.slice Ao38 t322.length co38) t322) ∧ Aside0 (Below w.heap.size w w'))
             case atStart => exact ⟨((ji20)), (false), (0), (by first | rfl | (simp; done) | (simp only [← hji20] <;> (first | rfl | simp)) | (simp [*]; done)), (by first | rfl | (simp; done) | (simp [*]; done)), (by first | rfl | (simp; done) | (simp [*]; done)), H', ⟨Nat.le_refl _⟩, ⟨by (with_reducible repeat (first | apply Kd.R_alloc | apply Kd.R_drewN | apply Kd.R_drew)); exact HO_7.out⟩, ⟨by repeat (first | (with_reducible first | exact HB.out | apply below_alloc | apply pw_below_drewN | apply below_drew1) | exact HB.out)⟩⟩
             case round =>
              clear H'; try clear c1
              try clear c2
              try clear p2
              try clear c3
              try clear p3
              try clear q3
              try clear hx3
              try clear c5
              try clear c6
              try clear p6
              try clear c7
              try clear c10
              try clear c10b0
              try clear c10b1
              try clear c10b2
              try clear c16
              try clear c16b0
              try clear c16b1
              try clear c17
              try clear c17b0
              try clear c17b1
              try clear c19
              try clear c21
              try clear c21b0
              try clear c22
              try clear c22b0
              try clear c24
              try clear c24b0
              try clear c25
              try clear c25b0
              try clear c28
              try clear c28b0
              try clear c29
              try clear c29b0
              try clear c30
              try clear c31
              try clear c31b0
              try clear c32
              try clear c32b0
              try clear c33
              try clear c33b0
              try clear p33
              try clear q33
              try clear hx33
              try clear c34
              try clear c34b0
              try clear c35
              try clear c35b0
              try clear c35b1
              try clear c37
              try clear hx330_0
              try clear hx331_0
              try clear hx332_0
              try clear hx333_0
              try clear hx334_0
              try clear p2
              try clear p3
              try clear p330
              try clear p331
              try clear p332
              try clear p333
              try clear p334
              try clear p6
              try clear q3
              try clear q330
              try clear q331
              try clear q332
              try clear q333
              try clear q334
              obtain ⟨x16_4, x17_4, x18_4, rfl, rfl, rfl, HA, HK4, HO_7, HB⟩ := hrel; cases gk with
              | zero => exact absurd HA.out (by simp [l7_GraphLeaves.l2])
              | succ k4 =>
               have H := HA.out; clear HA; simp only [l7_GraphLeaves.l2] at H
               have HC39 := Aside0.mk H; clear H; go_upto_region 23 with (fail)
               repeat (go_quiet (fail); go_upto_region 23 with (fail))
               go_cut [126] (fun v126 wc => ∃ (kq : Nat) (x126_38 : Bool), v126 = .bool x126_38 ∧ Aside0 (l7_GraphLeaves.j6 kq l0 l2 t322 (rd t326 (ji20)) x16_4 x17_4 x18_4 x126_38 = some r) ∧ Aside0 (kq ≤ k4) ∧ Aside0 (Kd.R (Kd.int .i64) 3 wc w.heap.size (fun _ => True) (.slice Ao38 t322.length co38) t322) ∧ Aside0 (Below w.heap.size w wc))
               case first =>
                have H := HC39.out; clear HC39; by_cases c40 : x18_4 < (l2.length : Int)
                ·rw [if_pos c40] at H; have c40b0 : decide (x18_4 < (l2.length : Int)) = true := decide_eq_true c40
                 clear c40; (first | rw [c40b0] | (simp only [i64_w, i32_w]; rw [c40b0]) | skip)
                 by_cases c41 : 0 ≤ x16_4
                 ·rw [if_pos c41] at H; have c41b0 : decide (0 ≤ x16_4) = true := decide_eq_true c41
                  clear c41; by_cases c42 : x16_4 < (l0.length : Int)
                  ·rw [if_pos c42] at H; have c42b0 : decide (x16_4 < (l0.length : Int)) = true := decide_eq_true c42
                   clear c42; have H' := Aside0.mk H
                   clear H; have p336 : 0 ≤ (x16_4 : Int) := of_decide_eq_true (by with_reducible assumption)
                   have q336 : x16_4 < (l0.length : Int) := of_decide_eq_true (by with_reducible assumption)
                   obtain ⟨ad336, A336_0, c336_0, e336, hx336_0, hl336_0, hi336_0⟩ := at_L1 HR0.out x16_4 p336 q336; cases e336; replace hx336_0 := (HB.out.cell (World.block_lt_of_cell? w _ hx336_0)).trans hx336_0; have HR336_0 := Aside0.mk hi336_0; have HC336_0 := Aside0.mk hl336_0; clear hi336_0 hl336_0; replace p336 := eq_true p336; replace q336 := eq_true q336; go_wp2
                   repeat (go_quiet (fail); try go_wp2)
                   go_meet
                   case rel => exact ⟨_, (decide (((rd_L1 l0 x16_4).length : Int) > 0)), (by first | rfl | (simp; done) | (simp [*]; done)), H', ⟨by have := HJ3.out; have := HJ12.out; have := HK3.out; have := HK4.out; first | omega | exact Nat.le_refl _⟩, ⟨by (with_reducible repeat (first | apply Kd.R_alloc | apply Kd.R_drewN | apply Kd.R_drew)); exact HO_7.out⟩, ⟨by repeat (first | (with_reducible first | exact HB.out | apply below_alloc | apply pw_below_drewN | apply below_drew1) | exact HB.out)⟩⟩
                  ·rw [if_neg c42] at H; exact absurd H (by simp)
                 ·rw [if_neg c41] at H; exact absurd H (by simp)
                ·rw [if_neg c40] at H; have c40b0 : decide (x18_4 < (l2.length : Int)) = false := decide_eq_false c40
                 clear c40; (first | rw [c40b0] | (simp only [i64_w, i32_w]; rw [c40b0]) | skip)
                 have H' := Aside0.mk H
                 clear H; go_wp2
                 repeat (go_quiet (fail); try go_wp2)
                 go_meet
                 case rel => exact ⟨_, (false), (by first | rfl | (simp; done) | (simp [*]; done)), H', ⟨by have := HJ3.out; have := HJ12.out; have := HK3.out; have := HK4.out; first | omega | exact Nat.le_refl _⟩, ⟨by (with_reducible repeat (first | apply Kd.R_alloc | apply Kd.R_drewN | apply Kd.R_drew)); exact HO_7.out⟩, ⟨by repeat (first | (with_reducible first | exact HB.out | apply below_alloc | apply pw_below_drewN | apply below_drew1) | exact HB.out)⟩⟩
               case rest =>
                clear HC39; try clear c1
                try clear c2
                try clear p2
                try clear c3
                try clear p3
                try clear q3
                try clear hx3
                try clear c4
                try clear c5
                try clear c6
                try clear p6
                try clear c7
                try clear c10
                try clear c10b0
                try clear c10b1
                try clear c10b2
                try clear c16
                try clear c16b0
                try clear c16b1
                try clear c17
                try clear c17b0
                try clear c17b1
                try clear c19
                try clear c21
                try clear c21b0
                try clear c22
                try clear c22b0
                try clear c24
                try clear c24b0
                try clear c25
                try clear c25b0
                try clear c28
                try clear c28b0
                try clear c29
                try clear c29b0
                try clear c30
                try clear c31
                try clear c31b0
                try clear c32
                try clear c32b0
                try clear c33
                try clear c33b0
                try clear p33
                try clear q33
                try clear hx33
                try clear c34
                try clear c34b0
                try clear c35
                try clear c35b0
                try clear c35b1
                try clear c37
                try clear c40
                try clear c40b0
                try clear c41
                try clear c41b0
                try clear c42
                try clear c42b0
                try clear hx330_0
                try clear hx331_0
                try clear hx332_0
                try clear hx333_0
                try clear hx334_0
                try clear hx336_0
                try clear p2
                try clear p3
                try clear p33
                try clear p330
                try clear p331
                try clear p332
                try clear p333
                try clear p334
                try clear p336
                try clear p6
                try clear q3
                try clear q33
                try clear q330
                try clear q331
                try clear q332
                try clear q333
                try clear q334
                try clear q336
                obtain ⟨kq, x126_38, rfl, HA, HJ38, HO_7, HB⟩ := hcut; cases kq with
                | zero => exact absurd HA.out (by simp [l7_GraphLeaves.j6])
                | succ kj38 =>
                 have H := HA.out; clear HA; simp only [l7_GraphLeaves.j6] at H
                 by_cases c43 : x126_38 = true
                 ·subst c43; have H1 : (if 0 ≤ x16_4 then (if x16_4 < (l0.length : Int) then (if 0 ≤ x18_4 then (if x18_4 < (l2.length : Int) then (if ((rd_L1 l0 x16_4).length : Int) = 0 then (none) else (if 0 ≤ (Int.tmod (wrap64 (rd l2 x18_4)) ((rd_L1 l0 x16_4).length : Int)) then (if (Int.tmod (wrap64 (rd l2 x18_4)) ((rd_L1 l0 x16_4).length : Int)) < ((rd_L1 l0 x16_4).length : Int) then (if x17_4 = true then (l7_GraphLeaves.l2 kj38 l0 l2 t322 (rd t326 (ji20)) (rd (rd_L1 l0 x16_4) (Int.tmod (wrap64 (rd l2 x18_4)) ((rd_L1 l0 x16_4).length : Int))) true (wrap64 (x18_4 + 1))) else (if ((rd (rd_L1 l0 x16_4) (Int.tmod (wrap64 (rd l2 x18_4)) ((rd_L1 l0 x16_4).length : Int))) = (rd t326 (ji20))) then (l7_GraphLeaves.l2 kj38 l0 l2 t322 (rd t326 (ji20)) (rd (rd_L1 l0 x16_4) (Int.tmod (wrap64 (rd l2 x18_4)) ((rd_L1 l0 x16_4).length : Int))) ((rd (rd_L1 l0 x16_4) (Int.tmod (wrap64 (rd l2 x18_4)) ((rd_L1 l0 x16_4).length : Int))) == (rd t326 (ji20))) (wrap64 (x18_4 + 1))) else ((r7_In.f kj38 (rd (rd_L1 l0 x16_4) (Int.tmod (wrap64 (rd l2 x18_4)) ((rd_L1 l0 x16_4).length : Int))) t322).bind fun t341 => (if t341 = true then (l7_GraphLeaves.l2 kj38 l0 l2 t322 (rd t326 (ji20)) (rd (rd_L1 l0 x16_4) (Int.tmod (wrap64 (rd l2 x18_4)) ((rd_L1 l0 x16_4).length : Int))) ((rd (rd_L1 l0 x16_4) (Int.tmod (wrap64 (rd l2 x18_4)) ((rd_L1 l0 x16_4).length : Int))) == (rd t326 (ji20))) (wrap64 (x18_4 + 1))) else (some false))))) else (none)) else (none))) else (none)) else (none)) else (none)) else (none)) = some r := by rw [if_pos rfl] at H; exact H
                  clear H; have H := H1; clear H1; by_cases c44 : 0 ≤ x16_4
                  ·rw [if_pos c44] at H; have c44b0 : decide (0 ≤ x16_4) = true := decide_eq_true c44
                   clear c44; by_cases c45 : x16_4 < (l0.length : Int)
                   ·rw [if_pos c45] at H; have c45b0 : decide (x16_4 < (l0.length : Int)) = true := decide_eq_true c45
                    clear c45; by_cases c46 : 0 ≤ x18_4
                    ·rw [if_pos c46] at H; have c46b0 : decide (0 ≤ x18_4) = true := decide_eq_true c46
                     clear c46; by_cases c47 : x18_4 < (l2.length : Int)
                     ·rw [if_pos c47] at H; have c47b0 : decide (x18_4 < (l2.length : Int)) = true := decide_eq_true c47
                      clear c47; by_cases c48 : ((rd_L1 l0 x16_4).length : Int) = 0
                      ·rw [if_pos c48] at H; exact absurd H (by simp)
                      ·rw [if_neg c48] at H; have c48b0 : (((rd_L1 l0 x16_4).length : Int) == 0) = false := beq_eq_false_iff_ne.mpr c48
                       have c48b1 : (((rd_L1 l0 x16_4).length : Int) != 0) = true := bne_iff_ne.mpr c48
                       have c48b2 : ¬ ((rd_L1 l0 x16_4) = []) := fun h_ => c48 (by rw [h_]; rfl)
                       obtain ⟨ji49, hji49⟩ : ∃ j_ : Int, (Int.tmod (wrap64 (rd l2 x18_4)) ((rd_L1 l0 x16_4).length : Int)) = j_ := ⟨_, rfl⟩; replace H : (if 0 ≤ (ji49) then (if (ji49) < ((rd_L1 l0 x16_4).length : Int) then (if x17_4 = true then (l7_GraphLeaves.l2 kj38 l0 l2 t322 (rd t326 (ji20)) (rd (rd_L1 l0 x16_4) (ji49)) true (wrap64 (x18_4 + 1))) else (if ((rd (rd_L1 l0 x16_4) (ji49)) = (rd t326 (ji20))) then (l7_GraphLeaves.l2 kj38 l0 l2 t322 (rd t326 (ji20)) (rd (rd_L1 l0 x16_4) (ji49)) ((rd (rd_L1 l0 x16_4) (ji49)) == (rd t326 (ji20))) (wrap64 (x18_4 + 1))) else ((r7_In.f kj38 (rd (rd_L1 l0 x16_4) (ji49)) t322).bind fun t341 => (if t341 = true then (l7_GraphLeaves.l2 kj38 l0 l2 t322 (rd t326 (ji20)) (rd (rd_L1 l0 x16_4) (ji49)) ((rd (rd_L1 l0 x16_4) (ji49)) == (rd t326 (ji20))) (wrap64 (x18_4 + 1))) else (some false))))) else (none)) else (none)) = some r := by first | (rw [hji49] at H; exact H) | (simp only [hji49] at H ⊢; exact H)
                       by_cases c50 : 0 ≤ (ji49)
                       ·rw [if_pos c50] at H; have c50b0 : decide (0 ≤ (ji49)) = true := decide_eq_true c50
                        clear c50; by_cases c51 : (ji49) < ((rd_L1 l0 x16_4).length : Int)
                        ·rw [if_pos c51] at H; have c51b0 : decide ((ji49) < ((rd_L1 l0 x16_4).length : Int)) = true := decide_eq_true c51
                         clear c51; by_cases c52 : x17_4 = true
                         ·subst c52; have H1 : (l7_GraphLeaves.l2 kj38 l0 l2 t322 (rd t326 (ji20)) (rd (rd_L1 l0 x16_4) (ji49)) true (wrap64 (x18_4 + 1))) = some r := by rw [if_pos rfl] at H; exact H
                          clear H; have H := H1; clear H1; have H' := Aside0.mk H
                          clear H; have p337 : 0 ≤ (x16_4 : Int) := of_decide_eq_true (by with_reducible assumption)
                          have q337 : x16_4 < (l0.length : Int) := of_decide_eq_true (by with_reducible assumption)
                          obtain ⟨ad337, A337_0, c337_0, e337, hx337_0, hl337_0, hi337_0⟩ := at_L1 HR0.out x16_4 p337 q337; cases e337; replace hx337_0 := (HB.out.cell (World.block_lt_of_cell? w _ hx337_0)).trans hx337_0; have HR337_0 := Aside0.mk hi337_0; have HC337_0 := Aside0.mk hl337_0; clear hi337_0 hl337_0; replace p337 := eq_true p337; replace q337 := eq_true q337; have p338 : 0 ≤ (x18_4 : Int) := of_decide_eq_true (by with_reducible assumption)
                          have q338 : x18_4 < (l2.length : Int) := of_decide_eq_true (by with_reducible assumption)
                          obtain ⟨ad338, e338, hx338_0⟩ := Kd.at_int HR2.out x18_4 p338 q338; cases e338; replace hx338_0 := (HB.out.cell (World.block_lt_of_cell? w _ hx338_0)).trans hx338_0; replace p338 := eq_true p338; replace q338 := eq_true q338; have p339 : 0 ≤ (x16_4 : Int) := of_decide_eq_true (by with_reducible assumption)
                          have q339 : x16_4 < (l0.length : Int) := of_decide_eq_true (by with_reducible assumption)
                          obtain ⟨ad339, A339_0, c339_0, e339, hx339_0, hl339_0, hi339_0⟩ := at_L1 HR0.out x16_4 p339 q339; obtain rfl : ad337 = ad339 := (by injection e339)
                          replace hx339_0 := (HB.out.cell (World.block_lt_of_cell? w _ hx339_0)).trans hx339_0; have HR339_0 := Aside0.mk hi339_0; have HC339_0 := Aside0.mk hl339_0; clear hi339_0 hl339_0; replace p339 := eq_true p339; replace q339 := eq_true q339; have ea_ := Option.some.inj (hx337_0.symm.trans hx339_0); injection ea_ with ea_ en_ ec_
                          subst ea_; subst ec_; clear en_; have p340 : 0 ≤ ((ji49) : Int) := of_decide_eq_true (by with_reducible assumption)
                          have q340 : (ji49) < ((rd_L1 l0 x16_4).length : Int) := of_decide_eq_true (by with_reducible assumption)
                          obtain ⟨ad340, e340, hx340_0⟩ := Kd.at_int HR337_0.out (ji49) p340 q340; cases e340; replace hx340_0 := (HB.out.cell (World.block_lt_of_cell? w _ hx340_0)).trans hx340_0; replace p340 := eq_true p340; replace q340 := eq_true q340; go_wp2
                          repeat (go_quiet (fail); try go_wp2)
                          subst hji20; go_roundg kj38
                          case measure => have := HJ3.out; have := HJ12.out; have := HK3.out; have := HK4.out; have := HJ38.out; omega
                          case rel => exact ⟨(rd (rd_L1 l0 x16_4) (ji49)), (true), (wrap64 (x18_4 + 1)), (by first | rfl | (simp; done) | (simp only [← hji49] <;> (first | rfl | simp)) | (simp [*]; done)), (by first | rfl | (simp; done) | (simp [*]; done)), (by first | rfl | (simp; done) | (simp [*]; done)), H', ⟨by have := HJ3.out; have := HJ12.out; have := HK3.out; have := HK4.out; have := HJ38.out; omega⟩, ⟨by (with_reducible repeat (first | apply Kd.R_alloc | apply Kd.R_drewN | apply Kd.R_drew)); exact HO_7.out⟩, ⟨by repeat (first | (with_reducible first | exact HB.out | apply below_alloc | apply pw_below_drewN | apply below_drew1) | exact HB.out)⟩⟩
                         ·replace c52 := Bool.eq_false_iff.mpr c52; subst c52; have H1 : (if ((rd (rd_L1 l0 x16_4) (ji49)) = (rd t326 (ji20))) then (l7_GraphLeaves.l2 kj38 l0 l2 t322 (rd t326 (ji20)) (rd (rd_L1 l0 x16_4) (ji49)) ((rd (rd_L1 l0 x16_4) (ji49)) == (rd t326 (ji20))) (wrap64 (x18_4 + 1))) else ((r7_In.f kj38 (rd (rd_L1 l0 x16_4) (ji49)) t322).bind fun t341 => (if t341 = true then (l7_GraphLeaves.l2 kj38 l0 l2 t322 (rd t326 (ji20)) (rd (rd_L1 l0 x16_4) (ji49)) ((rd (rd_L1 l0 x16_4) (ji49)) == (rd t326 (ji20))) (wrap64 (x18_4 + 1))) else (some false)))) = some r := by rw [if_neg (show ¬ (false = true) by decide)] at H; exact H
                          clear H; have H := H1; clear H1; by_cases c53 : ((rd (rd_L1 l0 x16_4) (ji49)) = (rd t326 (ji20)))
                          ·rw [if_pos c53] at H; have c53b0 : ((rd (rd_L1 l0 x16_4) (ji49)) == (rd t326 (ji20))) = true := beq_iff_eq.mpr c53
                           have c53b1 : ((rd (rd_L1 l0 x16_4) (ji49)) != (rd t326 (ji20))) = false := bne_eq_false_iff_eq.mpr c53
                           clear c53; have H' := Aside0.mk H
                           clear H; have p337 : 0 ≤ (x16_4 : Int) := of_decide_eq_true (by with_reducible assumption)
                           have q337 : x16_4 < (l0.length : Int) := of_decide_eq_true (by with_reducible assumption)
                           obtain ⟨ad337, A337_0, c337_0, e337, hx337_0, hl337_0, hi337_0⟩ := at_L1 HR0.out x16_4 p337 q337; cases e337; replace hx337_0 := (HB.out.cell (World.block_lt_of_cell? w _ hx337_0)).trans hx337_0; have HR337_0 := Aside0.mk hi337_0; have HC337_0 := Aside0.mk hl337_0; clear hi337_0 hl337_0; replace p337 := eq_true p337; replace q337 := eq_true q337; have p338 : 0 ≤ (x18_4 : Int) := of_decide_eq_true (by with_reducible assumption)
                           have q338 : x18_4 < (l2.length : Int) := of_decide_eq_true (by with_reducible assumption)
                           obtain ⟨ad338, e338, hx338_0⟩ := Kd.at_int HR2.out x18_4 p338 q338; cases e338; replace hx338_0 := (HB.out.cell (World.block_lt_of_cell? w _ hx338_0)).trans hx338_0; replace p338 := eq_true p338; replace q338 := eq_true q338; have p339 : 0 ≤ (x16_4 : Int) := of_decide_eq_true (by with_reducible assumption)
                           have q339 : x16_4 < (l0.length : Int) := of_decide_eq_true (by with_reducible assumption)
                           obtain ⟨ad339, A339_0, c339_0, e339, hx339_0, hl339_0, hi339_0⟩ := at_L1 HR0.out x16_4 p339 q339; obtain rfl : ad337 = ad339 := (by injection e339)
                           replace hx339_0 := (HB.out.cell (World.block_lt_of_cell? w _ hx339_0)).trans hx339_0; have HR339_0 := Aside0.mk hi339_0; have HC339_0 := Aside0.mk hl339_0; clear hi339_0 hl339_0; replace p339 := eq_true p339; replace q339 := eq_true q339; have ea_ := Option.some.inj (hx337_0.symm.trans hx339_0); injection ea_ with ea_ en_ ec_
                           subst ea_; subst ec_; clear en_; have p340 : 0 ≤ ((ji49) : Int) := of_decide_eq_true (by with_reducible assumption)
                           have q340 : (ji49) < ((rd_L1 l0 x16_4).length : Int) := of_decide_eq_true (by with_reducible assumption)
                           obtain ⟨ad340, e340, hx340_0⟩ := Kd.at_int HR337_0.out (ji49) p340 q340; cases e340; replace hx340_0 := (HB.out.cell (World.block_lt_of_cell? w _ hx340_0)).trans hx340_0; replace p340 := eq_true p340; replace q340 := eq_true q340; go_wp2
                           repeat (go_quiet (fail); try go_wp2)
                           subst hji20; go_roundg kj38
                           case measure => have := HJ3.out; have := HJ12.out; have := HK3.out; have := HK4.out; have := HJ38.out; omega
                           case rel => exact ⟨(rd (rd_L1 l0 x16_4) (ji49)), (((rd (rd_L1 l0 x16_4) (ji49)) == (rd t326 (Int.tmod (wrap64 ((Int.tmod a1 (l0.length : Int)) + (l0.length : Int))) (l0.length : Int))))), (wrap64 (x18_4 + 1)), (by first | rfl | (simp; done) | (simp only [← hji49] <;> (first | rfl | simp)) | (simp [*]; done)), (by first | rfl | (rw [c53b0]; done) | (simp only [c53b0]; done)), (by first | rfl | (simp; done) | (simp [*]; done)), H', ⟨by have := HJ3.out; have := HJ12.out; have := HK3.out; have := HK4.out; have := HJ38.out; omega⟩, ⟨by (with_reducible repeat (first | apply Kd.R_alloc | apply Kd.R_drewN | apply Kd.R_drew)); exact HO_7.out⟩, ⟨by repeat (first | (with_reducible first | exact HB.out | apply below_alloc | apply pw_below_drewN | apply below_drew1) | exact HB.out)⟩⟩
                          ·rw [if_neg c53] at H; have c53b0 : ((rd (rd_L1 l0 x16_4) (ji49)) == (rd t326 (ji20))) = false := beq_eq_false_iff_ne.mpr c53
                           have c53b1 : ((rd (rd_L1 l0 x16_4) (ji49)) != (rd t326 (ji20))) = true := bne_iff_ne.mpr c53
                           replace H := Option.bind_eq_some_iff.mp H; obtain ⟨t341, A540, H⟩ := H; replace H : (if t341 = true then (l7_GraphLeaves.l2 kj38 l0 l2 t322 (rd t326 (ji20)) (rd (rd_L1 l0 x16_4) (ji49)) ((rd (rd_L1 l0 x16_4) (ji49)) == (rd t326 (ji20))) (wrap64 (x18_4 + 1))) else (some false)) = some r := H
                           have A54 := Aside0.mk A540; clear A540; by_cases c55 : t341 = true
                           ·subst c55; have H1 : (l7_GraphLeaves.l2 kj38 l0 l2 t322 (rd t326 (ji20)) (rd (rd_L1 l0 x16_4) (ji49)) ((rd (rd_L1 l0 x16_4) (ji49)) == (rd t326 (ji20))) (wrap64 (x18_4 + 1))) = some r := by rw [if_pos rfl] at H; exact H
                            clear H; have H := H1; clear H1; have H' := Aside0.mk H
                            clear H; have p337 : 0 ≤ (x16_4 : Int) := of_decide_eq_true (by with_reducible assumption)
                            have q337 : x16_4 < (l0.length : Int) := of_decide_eq_true (by with_reducible assumption)
                            obtain ⟨ad337, A337_0, c337_0, e337, hx337_0, hl337_0, hi337_0⟩ := at_L1 HR0.out x16_4 p337 q337; cases e337; replace hx337_0 := (HB.out.cell (World.block_lt_of_cell? w _ hx337_0)).trans hx337_0; have HR337_0 := Aside0.mk hi337_0; have HC337_0 := Aside0.mk hl337_0; clear hi337_0 hl337_0; replace p337 := eq_true p337; replace q337 := eq_true q337; have p338 : 0 ≤ (x18_4 : Int) := of_decide_eq_true (by with_reducible assumption)
                            have q338 : x18_4 < (l2.length : Int) := of_decide_eq_true (by with_reducible assumption)
                            obtain ⟨ad338, e338, hx338_0⟩ := Kd.at_int HR2.out x18_4 p338 q338; cases e338; replace hx338_0 := (HB.out.cell (World.block_lt_of_cell? w _ hx338_0)).trans hx338_0; replace p338 := eq_true p338; replace q338 := eq_true q338; have p339 : 0 ≤ (x16_4 : Int) := of_decide_eq_true (by with_reducible assumption)
                            have q339 : x16_4 < (l0.length : Int) := of_decide_eq_true (by with_reducible assumption)
                            obtain ⟨ad339, A339_0, c339_0, e339, hx339_0, hl339_0, hi339_0⟩ := at_L1 HR0.out x16_4 p339 q339; obtain rfl : ad337 = ad339 := (by injection e339)
                            replace hx339_0 := (HB.out.cell (World.block_lt_of_cell? w _ hx339_0)).trans hx339_0; have HR339_0 := Aside0.mk hi339_0; have HC339_0 := Aside0.mk hl339_0; clear hi339_0 hl339_0; replace p339 := eq_true p339; replace q339 := eq_true q339; have ea_ := Option.some.inj (hx337_0.symm.trans hx339_0); injection ea_ with ea_ en_ ec_
                            subst ea_; subst ec_; clear en_; have p340 : 0 ≤ ((ji49) : Int) := of_decide_eq_true (by with_reducible assumption)
                            have q340 : (ji49) < ((rd_L1 l0 x16_4).length : Int) := of_decide_eq_true (by with_reducible assumption)
                            obtain ⟨ad340, e340, hx340_0⟩ := Kd.at_int HR337_0.out (ji49) p340 q340; cases e340; replace hx340_0 := (HB.out.cell (World.block_lt_of_cell? w _ hx340_0)).trans hx340_0; replace p340 := eq_true p340; replace q340 := eq_true q340; go_wp2_with (first | (go_at_call 28; (with_reducible refine (r7_In.calls kj38 (rd (rd_L1 l0 x16_4) (ji49)) _ _ t322 true _ ?side1 ?side2 A54.out).mono ?_); (case side1 => repeat (first | exact (Kd.R_reads' HO_7.out).2.2 | with_reducible first | refine Kd.C_alloc ?_ _ | refine Kd.C_drewN ?_ _ | refine Kd.C_drew ?_)); (case side2 => exact (Kd.R_reads' HO_7.out).2.1); rintro e w' ⟨rfl, ⟨nd, rfl⟩⟩; (try first | exact ⟨rfl, _, World.drewN_drewN _ _ _⟩ | exact ⟨rfl, _, Eq.trans (World.drewN_drewN _ _ _) (congrArg (World.drewN _) (Nat.add_assoc _ _ _))⟩)))
                            repeat (go_quiet (first | (go_at_call 28; (with_reducible refine (r7_In.calls kj38 (rd (rd_L1 l0 x16_4) (ji49)) _ _ t322 true _ ?side1 ?side2 A54.out).mono ?_); (case side1 => repeat (first | exact (Kd.R_reads' HO_7.out).2.2 | with_reducible first | refine Kd.C_alloc ?_ _ | refine Kd.C_drewN ?_ _ | refine Kd.C_drew ?_)); (case side2 => exact (Kd.R_reads' HO_7.out).2.1); rintro e w' ⟨rfl, ⟨nd, rfl⟩⟩; (try first | exact ⟨rfl, _, World.drewN_drewN _ _ _⟩ | exact ⟨rfl, _, Eq.trans (World.drewN_drewN _ _ _) (congrArg (World.drewN _) (Nat.add_assoc _ _ _))⟩))); try go_wp2_with (first | (go_at_call 28; (with_reducible refine (r7_In.calls kj38 (rd (rd_L1 l0 x16_4) (ji49)) _ _ t322 true _ ?side1 ?side2 A54.out).mono ?_); (case side1 => repeat (first | exact (Kd.R_reads' HO_7.out).2.2 | with_reducible first | refine Kd.C_alloc ?_ _ | refine Kd.C_drewN ?_ _ | refine Kd.C_drew ?_)); (case side2 => exact (Kd.R_reads' HO_7.out).2.1); rintro e w' ⟨rfl, ⟨nd, rfl⟩⟩; (try first | exact ⟨rfl, _, World.drewN_drewN _ _ _⟩ | exact ⟨rfl, _, Eq.trans (World.drewN_drewN _ _ _) (congrArg (World.drewN _) (Nat.add_assoc _ _ _))⟩))))
                            subst hji20; go_roundg kj38
                            case measure => have := HJ3.out; have := HJ12.out; have := HK3.out; have := HK4.out; have := HJ38.out; omega
                            case rel => exact ⟨(rd (rd_L1 l0 x16_4) (ji49)), (((rd (rd_L1 l0 x16_4) (ji49)) == (rd t326 (Int.tmod (wrap64 ((Int.tmod a1 (l0.length : Int)) + (l0.length : Int))) (l0.length : Int))))), (wrap64 (x18_4 + 1)), (by first | rfl | (simp; done) | (simp only [← hji49] <;> (first | rfl | simp)) | (simp [*]; done)), (by first | rfl | (rw [c53b0]; done) | (simp only [c53b0]; done)), (by first | rfl | (simp; done) | (simp [*]; done)), H', ⟨by have := HJ3.out; have := HJ12.out; have := HK3.out; have := HK4.out; have := HJ38.out; omega⟩, ⟨by (with_reducible repeat (first | apply Kd.R_alloc | apply Kd.R_drewN | apply Kd.R_drew)); exact HO_7.out⟩, ⟨by repeat (first | (with_reducible first | exact HB.out | apply below_alloc | apply pw_below_drewN | apply below_drew1) | exact HB.out)⟩⟩
                           ·replace c55 := Bool.eq_false_iff.mpr c55; subst c55; have H1 : (some false) = some r := by rw [if_neg (show ¬ (false = true) by decide)] at H; exact H
                            clear H; have H := H1; clear H1; obtain rfl := Option.some.inj H; have p337 : 0 ≤ (x16_4 : Int) := of_decide_eq_true (by with_reducible assumption)
                            have q337 : x16_4 < (l0.length : Int) := of_decide_eq_true (by with_reducible assumption)
                            obtain ⟨ad337, A337_0, c337_0, e337, hx337_0, hl337_0, hi337_0⟩ := at_L1 HR0.out x16_4 p337 q337; cases e337; replace hx337_0 := (HB.out.cell (World.block_lt_of_cell? w _ hx337_0)).trans hx337_0; have HR337_0 := Aside0.mk hi337_0; have HC337_0 := Aside0.mk hl337_0; clear hi337_0 hl337_0; replace p337 := eq_true p337; replace q337 := eq_true q337; have p338 : 0 ≤ (x18_4 : Int) := of_decide_eq_true (by with_reducible assumption)
                            have q338 : x18_4 < (l2.length : Int) := of_decide_eq_true (by with_reducible assumption)
                            obtain ⟨ad338, e338, hx338_0⟩ := Kd.at_int HR2.out x18_4 p338 q338; cases e338; replace hx338_0 := (HB.out.cell (World.block_lt_of_cell? w _ hx338_0)).trans hx338_0; replace p338 := eq_true p338; replace q338 := eq_true q338; have p339 : 0 ≤ (x16_4 : Int) := of_decide_eq_true (by with_reducible assumption)
                            have q339 : x16_4 < (l0.length : Int) := of_decide_eq_true (by with_reducible assumption)
                            obtain ⟨ad339, A339_0, c339_0, e339, hx339_0, hl339_0, hi339_0⟩ := at_L1 HR0.out x16_4 p339 q339; obtain rfl : ad337 = ad339 := (by injection e339)
                            replace hx339_0 := (HB.out.cell (World.block_lt_of_cell? w _ hx339_0)).trans hx339_0; have HR339_0 := Aside0.mk hi339_0; have HC339_0 := Aside0.mk hl339_0; clear hi339_0 hl339_0; replace p339 := eq_true p339; replace q339 := eq_true q339; have ea_ := Option.some.inj (hx337_0.symm.trans hx339_0); injection ea_ with ea_ en_ ec_
                            subst ea_; subst ec_; clear en_; have p340 : 0 ≤ ((ji49) : Int) := of_decide_eq_true (by with_reducible assumption)
                            have q340 : (ji49) < ((rd_L1 l0 x16_4).length : Int) := of_decide_eq_true (by with_reducible assumption)
                            obtain ⟨ad340, e340, hx340_0⟩ := Kd.at_int HR337_0.out (ji49) p340 q340; cases e340; replace hx340_0 := (HB.out.cell (World.block_lt_of_cell? w _ hx340_0)).trans hx340_0; replace p340 := eq_true p340; replace q340 := eq_true q340; go_wp2_with (first | (go_at_call 28; (with_reducible refine (r7_In.calls kj38 (rd (rd_L1 l0 x16_4) (ji49)) _ _ t322 false _ ?side1 ?side2 A54.out).mono ?_); (case side1 => repeat (first | exact (Kd.R_reads' HO_7.out).2.2 | with_reducible first | refine Kd.C_alloc ?_ _ | refine Kd.C_drewN ?_ _ | refine Kd.C_drew ?_)); (case side2 => exact (Kd.R_reads' HO_7.out).2.1); rintro e w' ⟨rfl, ⟨nd, rfl⟩⟩; (try first | exact ⟨rfl, _, World.drewN_drewN _ _ _⟩ | exact ⟨rfl, _, Eq.trans (World.drewN_drewN _ _ _) (congrArg (World.drewN _) (Nat.add_assoc _ _ _))⟩)))
                            repeat (go_quiet (first | (go_at_call 28; (with_reducible refine (r7_In.calls kj38 (rd (rd_L1 l0 x16_4) (ji49)) _ _ t322 false _ ?side1 ?side2 A54.out).mono ?_); (case side1 => repeat (first | exact (Kd.R_reads' HO_7.out).2.2 | with_reducible first | refine Kd.C_alloc ?_ _ | refine Kd.C_drewN ?_ _ | refine Kd.C_drew ?_)); (case side2 => exact (Kd.R_reads' HO_7.out).2.1); rintro e w' ⟨rfl, ⟨nd, rfl⟩⟩; (try first | exact ⟨rfl, _, World.drewN_drewN _ _ _⟩ | exact ⟨rfl, _, Eq.trans (World.drewN_drewN _ _ _) (congrArg (World.drewN _) (Nat.add_assoc _ _ _))⟩))); try go_wp2_with (first | (go_at_call 28; (with_reducible refine (r7_In.calls kj38 (rd (rd_L1 l0 x16_4) (ji49)) _ _ t322 false _ ?side1 ?side2 A54.out).mono ?_); (case side1 => repeat (first | exact (Kd.R_reads' HO_7.out).2.2 | with_reducible first | refine Kd.C_alloc ?_ _ | refine Kd.C_drewN ?_ _ | refine Kd.C_drew ?_)); (case side2 => exact (Kd.R_reads' HO_7.out).2.1); rintro e w' ⟨rfl, ⟨nd, rfl⟩⟩; (try first | exact ⟨rfl, _, World.drewN_drewN _ _ _⟩ | exact ⟨rfl, _, Eq.trans (World.drewN_drewN _ _ _) (congrArg (World.drewN _) (Nat.add_assoc _ _ _))⟩))))
                            go_ret
                            exact ⟨by first | rfl | (simp [errW_none, errW_some] <;> rfl) | (simp only [← hji20, ← hji49]; first | rfl | (simp [errW_none, errW_some] <;> rfl)) | (simp [*, errW_none, errW_some] <;> rfl), by repeat (first | (with_reducible first | exact HB.out | apply below_alloc | apply pw_below_drewN | apply below_drew1) | exact HB.out)⟩
                        ·rw [if_neg c51] at H; exact absurd H (by simp)
                       ·rw [if_neg c50] at H; exact absurd H (by simp)
                     ·rw [if_neg c47] at H; exact absurd H (by simp)
                    ·rw [if_neg c46] at H; exact absurd H (by simp)
                   ·rw [if_neg c45] at H; exact absurd H (by simp)
                  ·rw [if_neg c44] at H; exact absurd H (by simp)
                 ·replace c43 := Bool.eq_false_iff.mpr c43; subst c43; have H1 : (if (rd t326 (ji20)) < 0 then ((l7_awake.f kj38).bind fun t342 => (some t342)) else (if 0 ≤ x16_4 then (if x16_4 < (l0.length : Int) then (if ((rd_L1 l0 x16_4).length : Int) > 0 then ((l7_awake.f kj38).bind fun t344 => (some t344)) else (if x17_4 = true then ((l7_awake.f kj38).bind fun t345 => (some t345)) else (some false))) else (none)) else (none))) = some r := by rw [if_neg (show ¬ (false = true) by decide)] at H; exact H
                  clear H; have H := H1; clear H1; by_cases c56 : (rd t326 (ji20)) < 0
                  ·rw [if_pos c56] at H; have c56b0 : decide ((rd t326 (ji20)) < 0) = true := decide_eq_true c56
                   clear c56; replace H := Option.bind_eq_some_iff.mp H; obtain ⟨t342, A570, H⟩ := H; replace H : (some t342) = some r := H; have A57 := Aside0.mk A570; clear A570; obtain rfl := Option.some.inj H; go_wp2_with (first | (go_at_call 14; (with_reducible refine (l7_awake.calls kj38  t342 _ A57.out).mono ?_); rintro e w58 ⟨rfl, hb⟩; have n0_ := Aside0.mk (Kd.R_below (by (with_reducible repeat (first | apply Kd.R_alloc | apply Kd.R_drewN | apply Kd.R_drew)); exact HO_7.out) hb); have n1_ := Aside0.mk (below_step (by repeat (first | (with_reducible first | exact HB.out | apply below_alloc | apply pw_below_drewN | apply below_drew1) | exact HB.out)) hb); clear HO_7; clear HB; have HO_7 := n0_; have HB := n1_; clear n0_ n1_; (try clear hb); (try clear hb2); (try clear hk); (try clear hi)))
                   repeat (go_quiet (first | (go_at_call 14; (with_reducible refine (l7_awake.calls kj38  t342 _ A57.out).mono ?_); rintro e w58 ⟨rfl, hb⟩; have n0_ := Aside0.mk (Kd.R_below (by (with_reducible repeat (first | apply Kd.R_alloc | apply Kd.R_drewN | apply Kd.R_drew)); exact HO_7.out) hb); have n1_ := Aside0.mk (below_step (by repeat (first | (with_reducible first | exact HB.out | apply below_alloc | apply pw_below_drewN | apply below_drew1) | exact HB.out)) hb); clear HO_7; clear HB; have HO_7 := n0_; have HB := n1_; clear n0_ n1_; (try clear hb); (try clear hb2); (try clear hk); (try clear hi))); try go_wp2_with (first | (go_at_call 14; (with_reducible refine (l7_awake.calls kj38  t342 _ A57.out).mono ?_); rintro e w58 ⟨rfl, hb⟩; have n0_ := Aside0.mk (Kd.R_below (by (with_reducible repeat (first | apply Kd.R_alloc | apply Kd.R_drewN | apply Kd.R_drew)); exact HO_7.out) hb); have n1_ := Aside0.mk (below_step (by repeat (first | (with_reducible first | exact HB.out | apply below_alloc | apply pw_below_drewN | apply below_drew1) | exact HB.out)) hb); clear HO_7; clear HB; have HO_7 := n0_; have HB := n1_; clear n0_ n1_; (try clear hb); (try clear hb2); (try clear hk); (try clear hi))))
                   go_ret
                   exact ⟨by first | rfl | (simp [errW_none, errW_some] <;> rfl) | (simp only [← hji20]; first | rfl | (simp [errW_none, errW_some] <;> rfl)) | (simp [*, errW_none, errW_some] <;> rfl), by repeat (first | (with_reducible first | exact HB.out | apply below_alloc | apply pw_below_drewN | apply below_drew1) | exact HB.out)⟩
                  ·rw [if_neg c56] at H; have c56b0 : decide ((rd t326 (ji20)) < 0) = false := decide_eq_false c56
                   clear c56; by_cases c59 : 0 ≤ x16_4
                   ·rw [if_pos c59] at H; have c59b0 : decide (0 ≤ x16_4) = true := decide_eq_true c59
                    clear c59; by_cases c60 : x16_4 < (l0.length : Int)
                    ·rw [if_pos c60] at H; have c60b0 : decide (x16_4 < (l0.length : Int)) = true := decide_eq_true c60
                     clear c60; by_cases c61 : ((rd_L1 l0 x16_4).length : Int) > 0
                     ·rw [if_pos c61] at H; have c61b0 : decide (0 < ((rd_L1 l0 x16_4).length : Int)) = true := decide_eq_true c61
                      have c61b1 : decide (0 < (rd_L1 l0 x16_4).length) = true := decide_eq_true (by omega)
                      clear c61; replace H := Option.bind_eq_some_iff.mp H; obtain ⟨t344, A620, H⟩ := H; replace H : (some t344) = some r := H; have A62 := Aside0.mk A620; clear A620; obtain rfl := Option.some.inj H; have p343 : 0 ≤ (x16_4 : Int) := of_decide_eq_true (by with_reducible assumption)
                      have q343 : x16_4 < (l0.length : Int) := of_decide_eq_true (by with_reducible assumption)
                      obtain ⟨ad343, A343_0, c343_0, e343, hx343_0, hl343_0, hi343_0⟩ := at_L1 HR0.out x16_4 p343 q343; cases e343; replace hx343_0 := (HB.out.cell (World.block_lt_of_cell? w _ hx343_0)).trans hx343_0; have HR343_0 := Aside0.mk hi343_0; have HC343_0 := Aside0.mk hl343_0; clear hi343_0 hl343_0; replace p343 := eq_true p343; replace q343 := eq_true q343; go_wp2_with (first | (go_at_call 14; (with_reducible refine (l7_awake.calls kj38  t344 _ A62.out).mono ?_); rintro e w63 ⟨rfl, hb⟩; have n0_ := Aside0.mk (Kd.R_below (by (with_reducible repeat (first | apply Kd.R_alloc | apply Kd.R_drewN | apply Kd.R_drew)); exact HO_7.out) hb); have n1_ := Aside0.mk (below_step (by repeat (first | (with_reducible first | exact HB.out | apply below_alloc | apply pw_below_drewN | apply below_drew1) | exact HB.out)) hb); clear HO_7; clear HB; have HO_7 := n0_; have HB := n1_; clear n0_ n1_; (try clear hb); (try clear hb2); (try clear hk); (try clear hi)))
                      repeat (go_quiet (first | (go_at_call 14; (with_reducible refine (l7_awake.calls kj38  t344 _ A62.out).mono ?_); rintro e w63 ⟨rfl, hb⟩; have n0_ := Aside0.mk (Kd.R_below (by (with_reducible repeat (first | apply Kd.R_alloc | apply Kd.R_drewN | apply Kd.R_drew)); exact HO_7.out) hb); have n1_ := Aside0.mk (below_step (by repeat (first | (with_reducible first | exact HB.out | apply below_alloc | apply pw_below_drewN | apply below_drew1) | exact HB.out)) hb); clear HO_7; clear HB; have HO_7 := n0_; have HB := n1_; clear n0_ n1_; (try clear hb); (try clear hb2); (try clear hk); (try clear hi))); try go_wp2_with (first | (go_at_call 14; (with_reducible refine (l7_awake.calls kj38  t344 _ A62.out).mono ?_); rintro e w63 ⟨rfl, hb⟩; have n0_ := Aside0.mk (Kd.R_below (by (with_reducible repeat (first | apply Kd.R_alloc | apply Kd.R_drewN | apply Kd.R_drew)); exact HO_7.out) hb); have n1_ := Aside0.mk (below_step (by repeat (first | (with_reducible first | exact HB.out | apply below_alloc | apply pw_below_drewN | apply below_drew1) | exact HB.out)) hb); clear HO_7; clear HB; have HO_7 := n0_; have HB := n1_; clear n0_ n1_; (try clear hb); (try clear hb2); (try clear hk); (try clear hi))))
                      go_ret
                      exact ⟨by first | rfl | (simp [errW_none, errW_some] <;> rfl) | (simp only [← hji20]; first | rfl | (simp [errW_none, errW_some] <;> rfl)) | (simp [*, errW_none, errW_some] <;> rfl), by repeat (first | (with_reducible first | exact HB.out | apply below_alloc | apply pw_below_drewN | apply below_drew1) | exact HB.out)⟩
                     ·rw [if_neg c61] at H; have c61b0 : decide (0 < ((rd_L1 l0 x16_4).length : Int)) = false := decide_eq_false c61
                      have c61b1 : decide (0 < (rd_L1 l0 x16_4).length) = false := decide_eq_false (by omega)
                      clear c61; by_cases c64 : x17_4 = true
                      ·subst c64; have H1 : ((l7_awake.f kj38).bind fun t345 => (some t345)) = some r := by rw [if_pos rfl] at H; exact H
                       clear H; have H := H1; clear H1; replace H := Option.bind_eq_some_iff.mp H; obtain ⟨t345, A650, H⟩ := H; replace H : (some t345) = some r := H; have A65 := Aside0.mk A650; clear A650; obtain rfl := Option.some.inj H; have p343 : 0 ≤ (x16_4 : Int) := of_decide_eq_true (by with_reducible assumption)
                       have q343 : x16_4 < (l0.length : Int) := of_decide_eq_true (by with_reducible assumption)
                       obtain ⟨ad343, A343_0, c343_0, e343, hx343_0, hl343_0, hi343_0⟩ := at_L1 HR0.out x16_4 p343 q343; cases e343; replace hx343_0 := (HB.out.cell (World.block_lt_of_cell? w _ hx343_0)).trans hx343_0; have HR343_0 := Aside0.mk hi343_0; have HC343_0 := Aside0.mk hl343_0; clear hi343_0 hl343_0; replace p343 := eq_true p343; replace q343 := eq_true q343; go_wp2_with (first | (go_at_call 14; (with_reducible refine (l7_awake.calls kj38  t345 _ A65.out).mono ?_); rintro e w66 ⟨rfl, hb⟩; have n0_ := Aside0.mk (Kd.R_below (by (with_reducible repeat (first | apply Kd.R_alloc | apply Kd.R_drewN | apply Kd.R_drew)); exact HO_7.out) hb); have n1_ := Aside0.mk (below_step (by repeat (first | (with_reducible first | exact HB.out | apply below_alloc | apply pw_below_drewN | apply below_drew1) | exact HB.out)) hb); clear HO_7; clear HB; have HO_7 := n0_; have HB := n1_; clear n0_ n1_; (try clear hb); (try clear hb2); (try clear hk); (try clear hi)))
                       repeat (go_quiet (first | (go_at_call 14; (with_reducible refine (l7_awake.calls kj38  t345 _ A65.out).mono ?_); rintro e w66 ⟨rfl, hb⟩; have n0_ := Aside0.mk (Kd.R_below (by (with_reducible repeat (first | apply Kd.R_alloc | apply Kd.R_drewN | apply Kd.R_drew)); exact HO_7.out) hb); have n1_ := Aside0.mk (below_step (by repeat (first | (with_reducible first | exact HB.out | apply below_alloc | apply pw_below_drewN | apply below_drew1) | exact HB.out)) hb); clear HO_7; clear HB; have HO_7 := n0_; have HB := n1_; clear n0_ n1_; (try clear hb); (try clear hb2); (try clear hk); (try clear hi))); try go_wp2_with (first | (go_at_call 14; (with_reducible refine (l7_awake.calls kj38  t345 _ A65.out).mono ?_); rintro e w66 ⟨rfl, hb⟩; have n0_ := Aside0.mk (Kd.R_below (by (with_reducible repeat (first | apply Kd.R_alloc | apply Kd.R_drewN | apply Kd.R_drew)); exact HO_7.out) hb); have n1_ := Aside0.mk (below_step (by repeat (first | (with_reducible first | exact HB.out | apply below_alloc | apply pw_below_drewN | apply below_drew1) | exact HB.out)) hb); clear HO_7; clear HB; have HO_7 := n0_; have HB := n1_; clear n0_ n1_; (try clear hb); (try clear hb2); (try clear hk); (try clear hi))))
                       go_ret
                       exact ⟨by first | rfl | (simp [errW_none, errW_some] <;> rfl) | (simp only [← hji20]; first | rfl | (simp [errW_none, errW_some] <;> rfl)) | (simp [*, errW_none, errW_some] <;> rfl), by repeat (first | (with_reducible first | exact HB.out | apply below_alloc | apply pw_below_drewN | apply below_drew1) | exact HB.out)⟩
                      ·replace c64 := Bool.eq_false_iff.mpr c64; subst c64; have H1 : (some false) = some r := by rw [if_neg (show ¬ (false = true) by decide)] at H; exact H
                       clear H; have H := H1; clear H1; obtain rfl := Option.some.inj H; have p343 : 0 ≤ (x16_4 : Int) := of_decide_eq_true (by with_reducible assumption)
                       have q343 : x16_4 < (l0.length : Int) := of_decide_eq_true (by with_reducible assumption)
                       obtain ⟨ad343, A343_0, c343_0, e343, hx343_0, hl343_0, hi343_0⟩ := at_L1 HR0.out x16_4 p343 q343; cases e343; replace hx343_0 := (HB.out.cell (World.block_lt_of_cell? w _ hx343_0)).trans hx343_0; have HR343_0 := Aside0.mk hi343_0; have HC343_0 := Aside0.mk hl343_0; clear hi343_0 hl343_0; replace p343 := eq_true p343; replace q343 := eq_true q343; go_wp2
                       repeat (go_quiet (fail); try go_wp2)
                       go_ret
                       exact ⟨by first | rfl | (simp [errW_none, errW_some] <;> rfl) | (simp only [← hji20]; first | rfl | (simp [errW_none, errW_some] <;> rfl)) | (simp [*, errW_none, errW_some] <;> rfl), by repeat (first | (with_reducible first | exact HB.out | apply below_alloc | apply pw_below_drewN | apply below_drew1) | exact HB.out)⟩
                    ·rw [if_neg c60] at H; exact absurd H (by simp)
                   ·rw [if_neg c59] at H; exact absurd H (by simp)
         ·rw [if_neg c22] at H; exact absurd H (by simp)
        ·rw [if_neg c21] at H; exact absurd H (by simp)
end Go.Proofs.Ytjjedbcgkljdeaa.L
end
section
namespace Go.Proofs.Ytjjedbcgkljdeaa.L
open Go.RowKit Go.Proofs.YtjjedbcgkljdeaaW.PrintWords Go.Proofs.YtjjedbcgkljdeaaW.PrintLast Go.Proofs.YtjjedbcgkljdeaaW.PrintMore Go.Proofs.Ytjjedbcgkljdeaa.D Go.Proofs.Ytjjedbcgkljdeaa.M
theorem rch_row {g : List (List Int)} {P : Int → Bool} {b z s : Int} (h : Rch g P [b] z) (hs : s ∈ Go.Proofs.Ytjjedbcgkljdeaa.A.rd_L1 g z) (hp : P s = false) : Rch g P (Go.Proofs.Ytjjedbcgkljdeaa.A.rd_L1 g b) s := by
 induction h generalizing s with
 | base h1 _ => obtain rfl := List.mem_singleton.1 h1; exact Rch.base hs hp
 | step _ h2 h3 ih => exact Rch.step (ih h2 h3) hs hp
section
variable {g : List (List Int)} {b p : Int}
theorem leaves_l2 (hg : Gr g) (hn : g.length ≤ 40) (u : List Int) (hul : u.length ≤ 200) (hu : ∀ x ∈ u, 0 ≤ x ∧ x ≤ 255) (hex : 0 ≤ p → ∀ e : Int, Rch g (fun n => n == p) [b] e → (rd_L1 g e).length ≠ 0) :
  ∀ (m i : Nat) (z : Int) (left : Bool), i + m = u.length → 0 ≤ z → z < (g.length : Int) → (left = false → Rch g (fun n => n == p) [b] z) →
   Evt (fun k => l7_GraphLeaves.l2 k g u (rowTo (Rch g (fun n => n == p) (rd_L1 g b)) g.length) p z left (i : Int)) true := by
 have fin : ∀ (i : Nat) (z : Int) (left : Bool), 0 ≤ z → z < (g.length : Int) → (left = false → Rch g (fun n => n == p) [b] z) →
   Evt (fun k => l7_GraphLeaves.j6 k g u (rowTo (Rch g (fun n => n == p) (rd_L1 g b)) g.length) p z left (i : Int) false) true := by
  intro i z left z0 z1 hz
  refine Evt.succ ?_
  simp only [l7_GraphLeaves.j6]
  refine Evt.neg (by simp) ?_
  by_cases hp : p < 0
  ·exact Evt.pos hp (Evt.bind awake_ev (Evt.const true))
  refine Evt.neg hp (Evt.pos z0 (Evt.pos z1 ?_))
  by_cases hl : ((rd_L1 g z).length : Int) > 0
  ·exact Evt.pos hl (Evt.bind awake_ev (Evt.const true))
  refine Evt.neg hl ?_
  by_cases hf : left = true
  ·exact Evt.pos hf (Evt.bind awake_ev (Evt.const true))
  ·exact absurd (show (rd_L1 g z).length = 0 by omega) (hex (by omega) z (hz (Bool.eq_false_iff.2 hf)))
 intro m
 induction m with
 | zero =>
  intro i z left hm z0 z1 hz
  refine Evt.succ ?_
  simp only [l7_GraphLeaves.l2]
  exact Evt.neg (by omega) (fin i z left z0 z1 hz)
 | succ m ih =>
  intro i z left hm z0 z1 hz
  have hi : i < u.length := by omega
  refine Evt.succ ?_
  simp only [l7_GraphLeaves.l2]
  refine Evt.pos (by omega) (Evt.pos z0 (Evt.pos z1 ?_))
  by_cases hl : ((rd_L1 g z).length : Int) > 0
  ·rw [decide_eq_true hl]; have hrd : rd u (i : Int) = u[i] := rd_nat _ _ hi
   have hub := hu u[i] (List.getElem_mem hi); have hw : wrap64 (rd u (i : Int)) = u[i] := by
    rw [hrd]; unfold wrap64
    omega
   have t0 : 0 ≤ Int.tmod u[i] ((rd_L1 g z).length : Int) := Int.tmod_nonneg _ hub.1
   have t1 : Int.tmod u[i] ((rd_L1 g z).length : Int) < ((rd_L1 g z).length : Int) := Int.tmod_lt_of_pos _ hl
   refine Evt.succ ?_
   simp only [l7_GraphLeaves.j6, hw, wrap_succ i (by omega)]
   generalize ht : Int.tmod u[i] ((rd_L1 g z).length : Int) = t at *
   obtain ⟨t, rfl⟩ := Int.eq_ofNat_of_zero_le t0; have ht2 : t < (rd_L1 g z).length := by omega
   have hrt : rd (rd_L1 g z) (t : Int) = (rd_L1 g z)[t] := rd_nat _ _ ht2
   have hmem : (rd_L1 g z)[t] ∈ rd_L1 g z := List.getElem_mem ht2
   have hx := hg.row z _ hmem; refine Evt.pos trivial (Evt.pos z0 (Evt.pos z1 (Evt.pos (by omega) (Evt.pos (by omega) (Evt.neg (by omega) (Evt.pos (by omega) (Evt.pos (by omega) ?_)))))))
   simp only [hrt]
   generalize (rd_L1 g z)[t] = s at *
   by_cases hf : left = true
   ·exact Evt.pos hf (ih (i + 1) s true (by omega) hx.1 hx.2 (fun h => by cases h))
   refine Evt.neg hf ?_
   have hzz := hz (Bool.eq_false_iff.2 hf); by_cases hsp : s = p
   ·exact Evt.pos hsp (ih (i + 1) s (s == p) (by omega) hx.1 hx.2 (fun h => absurd hsp (by simpa using h)))
   ·have hps : (s == p) = false := by simpa using hsp
    obtain ⟨w, hw1, hw2⟩ := in_ev s (rowTo (Rch g (fun n => n == p) (rd_L1 g b)) g.length) (Nat.le_trans (rowTo_len _ _) (by omega))
    have hwt : w = true := hw1.2 ((rowTo_mem _ _ _).2 ⟨hx.1, hx.2, rch_row hzz hmem hps⟩)
    exact Evt.neg hsp (Evt.bind hw2 (Evt.pos hwt (ih (i + 1) s (s == p) (by omega) hx.1 hx.2 (fun _ => Rch.step hzz hmem hps))))
  ·rw [decide_eq_false hl]; exact fin i z left z0 z1 hz
theorem leaves_l1 (hg : Gr g) (hn : g.length ≤ 40) (hrs : ∀ r ∈ g, r.length ≤ 4) (u : List Int) (q : Int) (hq0 : 0 ≤ q) (hq1 : q < (g.length : Int)) (hq : Rch g (fun n => n == p) (rd_L1 g b) q) (j : Nat) (hj : j ≤ 100000) (r : Bool)
  (next : Evt (fun k => l7_GraphLeaves.l0 k g b u (rowTo (Rch g (fun n => n == p) (rd_L1 g b)) g.length) p ((j + 1 : Nat) : Int)) r) :
  ∀ (m i : Nat), i + m = (rd_L1 g q).length → Evt (fun k => l7_GraphLeaves.l1 k g b u (rowTo (Rch g (fun n => n == p) (rd_L1 g b)) g.length) p (j : Int) q (i : Int)) r
 | 0, i, hm => by
  refine Evt.succ ?_
  simp only [l7_GraphLeaves.l1, wrap_succ j (by omega)]
  exact Evt.pos hq0 (Evt.pos hq1 (Evt.neg (by omega) next))
 | m + 1, i, hm => by
  have hi : i < (rd_L1 g q).length := by omega
  have hrl : (rd_L1 g q).length ≤ 4 := rd_L1_len hrs q
  have hrd : rd (rd_L1 g q) (i : Int) = (rd_L1 g q)[i] := rd_nat _ _ hi
  have hmem : (rd_L1 g q)[i] ∈ rd_L1 g q := List.getElem_mem hi
  have hx := hg.row q _ hmem; have ih := leaves_l1 hg hn hrs u q hq0 hq1 hq j hj r next m (i + 1) (by omega)
  refine Evt.succ ?_
  simp only [l7_GraphLeaves.l1, hrd, wrap_succ i (by omega)]
  generalize (rd_L1 g q)[i] = s at *
  refine Evt.pos hq0 (Evt.pos hq1 (Evt.pos (by omega) (Evt.pos (by omega) ?_)))
  by_cases hsp : s = p
  ·exact Evt.pos hsp ih
  ·obtain ⟨w, hw1, hw2⟩ := in_ev s (rowTo (Rch g (fun n => n == p) (rd_L1 g b)) g.length) (Nat.le_trans (rowTo_len _ _) (by omega))
   have hwt : w = true := hw1.2 ((rowTo_mem _ _ _).2 ⟨hx.1, hx.2, Rch.step hq hmem (by simpa using hsp)⟩)
   exact Evt.neg hsp (Evt.bind hw2 (Evt.pos hwt ih))
theorem leaves_l0 (hg : Gr g) (hn : g.length ≤ 40) (hrs : ∀ r ∈ g, r.length ≤ 4) (u : List Int) (r : Bool)
  (next : Evt (fun k => l7_GraphLeaves.l2 k g u (rowTo (Rch g (fun n => n == p) (rd_L1 g b)) g.length) p b false 0) r) :
  ∀ (m j : Nat), j + m = (rowTo (Rch g (fun n => n == p) (rd_L1 g b)) g.length).length → Evt (fun k => l7_GraphLeaves.l0 k g b u (rowTo (Rch g (fun n => n == p) (rd_L1 g b)) g.length) p (j : Int)) r
 | 0, j, hm => by
  refine Evt.succ ?_
  simp only [l7_GraphLeaves.l0]
  exact Evt.neg (by omega) next
 | m + 1, j, hm => by
  have hRl := rowTo_len (Rch g (fun n => n == p) (rd_L1 g b)) g.length
  have hj : j < (rowTo (Rch g (fun n => n == p) (rd_L1 g b)) g.length).length := by omega
  have ih := leaves_l0 hg hn hrs u r next m (j + 1) (by omega)
  have hrd : rd (rowTo (Rch g (fun n => n == p) (rd_L1 g b)) g.length) (j : Int) = (rowTo (Rch g (fun n => n == p) (rd_L1 g b)) g.length)[j] := rd_nat _ _ hj
  have hx := (rowTo_mem _ _ _).1 (List.getElem_mem hj); refine Evt.succ ?_
  simp only [l7_GraphLeaves.l0, hrd]
  generalize (rowTo (Rch g (fun n => n == p) (rd_L1 g b)) g.length)[j] = q at *
  have hqp : (q == p) = false := hx.2.2.ok
  refine Evt.pos (by omega) (Evt.pos (by omega) (Evt.neg (by omega) (Evt.neg (by omega) ?_)))
  rw [hqp]; refine Evt.succ ?_
  simp only [l7_GraphLeaves.j3]
  exact Evt.neg (by simp) (leaves_l1 hg hn hrs u q hx.1 hx.2.1 hx.2.2 j (by omega) r ih _ 0 (Nat.zero_add _))
end
theorem Pure.GraphLeaves (g : List (List Int)) (_hm : g.length ≤ maxLen) (a : Int) (_ha : (Lit.int .i64 a).wf = true) (u : List Int) (hu : ∀ x ∈ u, 0 ≤ x ∧ x ≤ 255) : ∃ k, l7_GraphLeaves.f k g a u = some true := by
 refine Evt.get ?_
 unfold l7_GraphLeaves.f
 refine Evt.bind (usable_ev g) ?_
 have out : ∀ f : Bool, f = true → Evt (fun k => l7_GraphLeaves.j0 k g a u f) true := by
  intro f hf
  refine Evt.succ ?_
  simp only [l7_GraphLeaves.j0]
  exact Evt.pos hf (Evt.bind awake_ev (Evt.const true))
 by_cases hus : usableB g = true
 ·obtain ⟨hv, h1, hg, hn, hr⟩ := usableB_true hus; refine Evt.pos hus ?_
  by_cases hul : (u.length : Int) > 200
  ·exact out _ (decide_eq_true hul)
  rw [decide_eq_false hul]; have m0 : -(g.length : Int) < Int.tmod a (g.length : Int) := by
   have h := Int.tmod_lt_of_pos (-a) (show (0 : Int) < (g.length : Int) by omega)
   rw [Int.neg_tmod] at h; omega
  have m1 : Int.tmod a (g.length : Int) < (g.length : Int) := Int.tmod_lt_of_pos _ (by omega)
  have hw : wrap64 (Int.tmod a (g.length : Int) + (g.length : Int)) = Int.tmod a (g.length : Int) + (g.length : Int) := by
   unfold wrap64
   omega
  have b0 : 0 ≤ Int.tmod (Int.tmod a (g.length : Int) + (g.length : Int)) (g.length : Int) := Int.tmod_nonneg _ (by omega)
  have b1 : Int.tmod (Int.tmod a (g.length : Int) + (g.length : Int)) (g.length : Int) < (g.length : Int) := Int.tmod_lt_of_pos _ (by omega)
  refine Evt.succ ?_
  simp only [l7_GraphLeaves.j0, hw]
  generalize Int.tmod (Int.tmod a (g.length : Int) + (g.length : Int)) (g.length : Int) = b at *
  obtain ⟨pl, hpl, hpe, hre, hex⟩ := region_means g hv hg hn hr b b0 b1; refine Evt.neg (by simp) (Evt.neg (by omega) (Evt.bind hre (Evt.bind hpe (Evt.pos rfl (Evt.pos rfl (Evt.succ ?_))))))
  simp only [l7_GraphLeaves.j1]
  refine Evt.neg (by rw [hpl]; simp) (Evt.pos b0 (Evt.pos (by omega) ?_))
  have hbp : b ≠ rd pl b := by
   intro e
   exact (hex (by omega)).1 e.symm
  exact leaves_l0 hg hn hr u true (leaves_l2 hg hn u (by omega) hu (fun h => (hex h).2) u.length 0 b false (by omega) b0 b1 (fun _ => Rch.base (by simp) (by simpa using hbp))) _ 0 (Nat.zero_add _)
 ·exact Evt.neg hus (out true rfl)
end Go.Proofs.Ytjjedbcgkljdeaa.L
end
