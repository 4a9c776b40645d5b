/- Texts of this claim, cut down to what its theorem uses and laid end to end (wip/shake.py). -/
import Derived.ArgAppend
import Derived.Below
import Derived.BigQuiet
import Derived.ChangeOld
import Derived.ChangeVars
import Derived.Deep.AppendLies
import Derived.Deep.CutBlock
import Derived.Deep.DeepCutAuto
import Derived.Deep.Draws
import Derived.Deep.LoopGhost
import Derived.Deep.OwnRows
import Derived.Deep.QuietTactic
import Derived.Deep.RegionHeld3
import Derived.Deep.Slices
import Derived.KernelRfl
import Derived.LaidLaws
import Derived.LaidMore
import Derived.Laws.BitsLemmas
import Derived.Laws.BytesArg
import Derived.Laws.IdiomCopy
import Derived.Laws.MakeOwn
import Derived.Laws.OwnMore
import Derived.Laws.Rows
import Derived.Laws.Slices
import Derived.Laws.StructEq
import Derived.Lay
import Derived.Lib.AppendStr
import Derived.Lib.ConvBytes
import Derived.Lib.LaidTab
import Derived.Maps.AppendAt
import Derived.Maps.OwnOps
import Derived.Maps.OwnSet
import Derived.OpenShut
import Derived.OrdersHeld
import Derived.OwnWalk
import Derived.ProofKit
import Derived.RowKit
import Derived.RowKit3
import Derived.SevenTiedAt
import Derived.Shelf.Strings.BuilderK
import Derived.Shelf.Strings.Fields
import Derived.ShutString
import Derived.SizedLaws
import Derived.Stop.Joined
import Derived.StringKeys
import Derived.Tactics
import Derived.Test.YtplcemlennloaaaDoorCards
import Derived.Test.YtplcemlennloaaaDoorProg
import Derived.Test.YtplcemlennloaaaDoorRows
import Derived.Test.YtplcemlennloaaaDoorTie
import Derived.WalkKit
import Derived.WideLaws
namespace Go.Proofs.YtplcemlennloaaaDoor
end Go.Proofs.YtplcemlennloaaaDoor
namespace Go.Proofs.YtplcemlennloaaaDoor.A
end Go.Proofs.YtplcemlennloaaaDoor.A
namespace Go.Proofs.YtplcemlennloaaaDoor.B
end Go.Proofs.YtplcemlennloaaaDoor.B
namespace Go.Proofs.YtplcemlennloaaaDoor.C
end Go.Proofs.YtplcemlennloaaaDoor.C
namespace Go.Proofs.YtplcemlennloaaaDoor.M
end Go.Proofs.YtplcemlennloaaaDoor.M
namespace Go.Proofs.YtplcemlennloaaaDoor.N
end Go.Proofs.YtplcemlennloaaaDoor.N
namespace Go.Proofs.YtplcemlennloaaaDoor.Op
end Go.Proofs.YtplcemlennloaaaDoor.Op
namespace Go.Proofs.YtplcemlennloaaaDoor.S
end Go.Proofs.YtplcemlennloaaaDoor.S
namespace Go.Proofs.YtplcemlennloaaaDoor.lexBack
end Go.Proofs.YtplcemlennloaaaDoor.lexBack
namespace Go.Proofs.YtplcemlennloaaaDoorW.PrintLast
end Go.Proofs.YtplcemlennloaaaDoorW.PrintLast
namespace Go.Proofs.YtplcemlennloaaaDoorW.PrintMore
end Go.Proofs.YtplcemlennloaaaDoorW.PrintMore
namespace Go.Proofs.YtplcemlennloaaaDoorW.PrintWords
end Go.Proofs.YtplcemlennloaaaDoorW.PrintWords
section
-- PRINTED BY print.sh 35421559b90ae4d0a3588c463048766b98c2df88dd9212a6774a882060cdf62d: not written by this session
-- PRINTED WORDS (module Derived/Print/Words.lean): go-wishes' parts 1 to 38 and go-gate-2's additions: AI agents of Go's test side, Mon Nov 16 2026; no person has read them. Plain theorems and definitions: no macro, no elab, no axiom.
set_option linter.unusedVariables false
set_option linter.unusedSimpArgs false
namespace Go.Proofs.YtplcemlennloaaaDoorW.PrintWords
open Go.RowKit
structure Aside0 (p : Prop) : Prop where mk :: (out : p)
structure Drawn0 (w w' : World) : Prop where mk :: (out : ∃ n, w' = w.drewN n)
theorem Drawn0.refl (w : World) : Drawn0 w w := ⟨⟨0, rfl⟩⟩
theorem Drawn0.step {w w' : World} (h : Drawn0 w w') (n : Nat) : Drawn0 w (w'.drewN n) := by
 obtain ⟨m, rfl⟩ := h; exact ⟨⟨m + n, World.drewN_drewN ..⟩⟩
def bt (s : ByteArray) (i : Int) : Int := if h : i.toNat < s.size then ((s[i.toNat]'h).toNat : Int) else 0
theorem bt_at (s : ByteArray) (i : Int) : ∀ h : i.toNat < s.size, ((s[i.toNat]'h).toNat : Int) = bt s i := fun h => by simp [bt, h]
theorem below_alloc {w W : World} (h : Below w.heap.size w W) (o : Obj) : Below w.heap.size w (W.alloc o) := h.alloc h.size o
theorem pw_below_drewN {B : Nat} {w W : World} (h : Below B w W) (n : Nat) : Below B w (W.drewN n) := ⟨h.os, h.tape, h.output, h.size, h.block⟩
theorem below_then {B : Nat} {w w1 w2 : World} (h : Below B w w1) (hB : B ≤ w1.heap.size) (k : Below w1.heap.size w1 w2) : Below B w w2 :=
 h.trans ⟨k.os, k.tape, k.output, k.size, fun i hi => k.block i (Nat.lt_of_lt_of_le hi hB)⟩
theorem pw_cell_below {w w1 : World} (h : Below w.heap.size w w1) {a : Addr} {v : Value} (hc : w.cell? a = some v) : w1.cell? a = some v := (h.cell (World.block_lt_of_cell? w a hc)).trans hc
theorem own_nil (W : World) (base : Nat) (e : TypeId) (size : Nat) : W.ownsRow base e size (.slice none 0 0) 0 [] := ⟨by simp, .inl ⟨rfl, rfl⟩⟩
theorem own_base {w : World} {base : Nat} {e : TypeId} {size n : Nat} {v : Value} {xs : List Value} (h : w.ownsRow base e size v n xs) (k : Nat) (hk : v.ownBlock = some k) : base ≤ k := by
 rcases h.2 with ⟨rfl, _⟩ | ⟨g, cap, cur, rfl, hb, _⟩
 ·simp [Value.ownBlock] at hk
 ·have : g = k := by simpa [Value.ownBlock] using hk
  omega
theorem own_lt {w : World} {base : Nat} {e : TypeId} {size n : Nat} {v : Value} {xs : List Value} (h : w.ownsRow base e size v n xs) (k : Nat) (hk : v.ownBlock = some k) : k < w.heap.size := by
 rcases h.2 with ⟨rfl, _⟩ | ⟨g, cap, cur, rfl, hb, hh, _⟩
 ·simp [Value.ownBlock] at hk
 ·have : g = k := by simpa [Value.ownBlock] using hk
  subst this; exact (Array.getElem?_eq_some_iff.1 hh).1
theorem data_length (s : ByteArray) : s.data.toList.length = s.size := by rw [Array.length_toList]; rfl
def LeO {α : Type} (a b : Option α) : Prop := ∀ r, a = some r → b = some r
theorem LeO.refl {α : Type} (a : Option α) : LeO a a := fun _ h => h
theorem LeO.ite {α : Type} {c : Prop} [Decidable c] {a a' b b' : Option α} (h : LeO a a') (k : LeO b b') : LeO (if c then a else b) (if c then a' else b') := by
 split
 ·exact h
 ·exact k
theorem LeO.bind {α β : Type} {a a' : Option α} {f f' : α → Option β} (h : LeO a a') (k : ∀ x, LeO (f x) (f' x)) : LeO (a.bind f) (a'.bind f') := by
 intro r hr
 obtain ⟨x, hx, hf⟩ := Option.bind_eq_some_iff.1 hr; exact Option.bind_eq_some_iff.2 ⟨x, h x hx, k x r hf⟩
def Reps {α : Type} (R : α → List Value → Prop) (size : Nat) (ps : List α) (cs : List Value) : Prop :=
 cs.length = ps.length * size ∧ ∀ j p, ps[j]? = some p → R p ((cs.drop (j * size)).take size)
theorem Reps.none {α : Type} (R : α → List Value → Prop) (size : Nat) : Reps R size [] [] := ⟨by simp, fun j p h => by simp at h⟩
theorem Reps.snoc {α : Type} {R : α → List Value → Prop} {size : Nat} {ps : List α} {cs c : List Value} {p : α} (h : Reps R size ps cs) (hp : R p c) (hc : c.length = size) : Reps R size (ps ++ [p]) (cs ++ c) := by
 refine ⟨by rw [List.length_append, h.1, hc, List.length_append, List.length_singleton, Nat.add_mul, Nat.one_mul], fun j q hq => ?_⟩
 rcases Nat.lt_or_ge j ps.length with hj | hj
 ·rw [List.getElem?_append_left hj] at hq; have h1 : j * size + size ≤ cs.length := by rw [h.1, ← Nat.succ_mul]; exact Nat.mul_le_mul_right _ hj
  have h2 := h.2 j q hq; rw [List.drop_append_of_le_length (by omega), List.take_append_of_le_length (by rw [List.length_drop]; omega)]
  exact h2
 ·have hj' : j = ps.length := by
   have := (List.getElem?_eq_some_iff.1 hq).1
   rw [List.length_append, List.length_singleton] at this; omega
  subst hj'; have hq' : p = q := by simpa using hq
  subst hq'; rw [← h.1, List.drop_left, ← hc, List.take_length]; exact hp
theorem Reps.imp_ {α : Type} {R R' : α → List Value → Prop} {size : Nat} {ps : List α} {cs : List Value} (h : Reps R size ps cs) (hR : ∀ p c, R p c → R' p c) : Reps R' size ps cs := ⟨h.1, fun j p hj => hR _ _ (h.2 j p hj)⟩
def ReadsRow {α : Type} (R : α → List Value → Prop) (size : Nat) (w : World) (A : Option Addr) (n : Nat) (ps : List α) : Prop :=
 ps.length = n ∧ n ≤ 9223372036854775807 ∧ (0 < n → ∃ ad, A = some ad ∧ ∀ j p, ps[j]? = some p → ∃ c, c.length = size ∧ R p c ∧ ∀ i u, c[i]? = some u → w.cell? (ad.add (j * size + i)) = some u)
theorem ReadsRow.get_ {α : Type} {R : α → List Value → Prop} {size : Nat} {w : World} {A : Option Addr} {n : Nat} {ps : List α} (h : ReadsRow R size w A n ps) (d : α) (i : Int) (h0 : 0 ≤ i) (h1 : i < n) :
  ∃ ad c, A = some ad ∧ c.length = size ∧ R (ps.getD i.toNat d) c ∧ ∀ j u, c[j]? = some u → w.cell? (ad.add (i.toNat * size + j)) = some u := by
 obtain ⟨ad, e, hc⟩ := h.2.2 (by omega)
 have hl : i.toNat < ps.length := by have := h.1; omega
 obtain ⟨c, hs, hr, hcell⟩ := hc i.toNat _ (List.getElem?_eq_getElem hl); refine ⟨ad, c, e, hs, ?_, hcell⟩
 rw [List.getD_eq_getElem?_getD, List.getElem?_eq_getElem hl]; exact hr
theorem ReadsRow.imp_ {α : Type} {R R' : α → List Value → Prop} {size : Nat} {w w1 : World} {A : Option Addr} {n : Nat} {ps : List α} (h : ReadsRow R size w A n ps) (hb : Below w.heap.size w w1) (hR : ∀ p c, R p c → R' p c) : ReadsRow R' size w1 A n ps :=
 ⟨h.1, h.2.1, fun hn => by
  obtain ⟨ad, e, hc⟩ := h.2.2 hn; refine ⟨ad, e, fun j p hj => ?_⟩
  obtain ⟨c, hs, hr, hcell⟩ := hc j p hj; exact ⟨c, hs, hR _ _ hr, fun i u hu => pw_cell_below hb (hcell i u hu)⟩⟩
theorem own_reads_row {α : Type} {R : α → List Value → Prop} {w : World} {base n size : Nat} {e : TypeId} {v : Value} {ps : List α} {cs : List Value} (h : w.ownsRow base e size v n cs) (hR : Reps R size ps cs) (hn : ps.length = n) :
  ∃ A c, v = .slice A n c ∧ ReadsRow R size w A n ps := by
 rcases Nat.eq_zero_or_pos n with h0 | h0
 ·rcases h.2 with ⟨rfl, rfl⟩ | ⟨g, cap, cur, rfl, _⟩
  ·exact ⟨none, 0, rfl, hn, by omega, fun hp => absurd hp (by omega)⟩
  ·exact ⟨_, cap, rfl, hn, by omega, fun hp => absurd hp (by omega)⟩
 ·obtain ⟨g, cap, rfl, _, _⟩ := h.form h0; have hm : n ≤ 9223372036854775807 := by
   rcases h.2 with ⟨_, h1⟩ | ⟨g', cap', cur, he, _, _, h1, h2, _⟩
   ·omega
   ·simp only [maxLen] at h2
    omega
  refine ⟨_, cap, rfl, hn, hm, fun _ => ⟨_, rfl, fun j p hj => ⟨(cs.drop (j * size)).take size, ?_, hR.2 j p hj, fun i u hu => ?_⟩⟩⟩
  ·have hjl := (List.getElem?_eq_some_iff.1 hj).1; have h1 : j * size + size ≤ cs.length := by rw [hR.1, ← Nat.succ_mul]; exact Nat.mul_le_mul_right _ hjl
   rw [List.length_take, List.length_drop]; omega
  ·refine h.cells (g := g) rfl _ u ?_
   rw [List.getElem?_take] at hu; split at hu
   ·rw [List.getElem?_drop] at hu; exact hu
   ·cases hu
theorem add_field (ad : Addr) (m j : Nat) (hj : 0 < j) : ad.add (m + j) = ⟨(ad.add m).block, (ad.add m).off + j, none⟩ := by
 unfold Addr.add
 by_cases hm : m = 0
 ·subst hm; simp [Nat.ne_of_gt hj]
 ·simp [hm, Nat.add_assoc]
section
variable {P : Program} {ops : Array Oper} {rest : List Oper} {o : Oper} {a : Act} {Q : Exit → Act → World → Prop}
theorem print_append_cells {w0 W : World} (base : Nat) (hgd : o.guard = none) (s x : Operand) (t e : TypeId) (z : Value) (size bytes : Nat)
  (ho : o.op = .call { callee := .builtin .append, args := #[s, x], argTypes := #[t, t] })
  (ht : P.underlying t = some (.slice e)) (hinfo : (P.info? e).map (fun i => (i.zero, i.size, i.bytes)) = some (some z, size, bytes)) (hz : z.cells.size = size) (hs0 : 0 < size) (hb0 : 0 < bytes)
  (v : Value) (n : Nat) (xs ys : List Value) (hs : a.eval s = v) (hx : a.eval x = .slice (some ⟨W.heap.size, 0, none⟩) 1 1) (hys : ys.length = size) (h1 : ∀ u ∈ ys, u.oneCell' = true)
  (HO : W.ownsRow base e size v n xs) (HB : Below base w0 W) (hbase : base ≤ W.heap.size) (hl : (n + 1) * bytes ≤ 140737488355328)
  (h : ∀ v1 w1, w1.ownsRow base e size v1 (n + 1) (xs ++ ys) → Below base w0 w1 → W.grownBy w1 v.ownBlock → (v1.ownBlock = v.ownBlock ∨ ∃ b, v1.ownBlock = some b ∧ W.heap.size ≤ b) → wpList P ops Q rest (a.put o.dst v1) w1) :
  wpList P ops Q (o :: rest) a (W.alloc (.cells ys.toArray e)) := by
 obtain ⟨i0, hi, hzz⟩ := Option.map_eq_some_iff.1 hinfo; simp only [Prod.mk.injEq] at hzz
 obtain ⟨hz0, hz1, hz2⟩ := hzz; have hlen : n + 1 ≤ 140737488355328 := Nat.le_trans (Nat.le_mul_of_pos_right _ hb0) hl
 refine wpList_append_own_at (W.alloc (.cells ys.toArray e)) hgd s x t ho base e i0 z size bytes ht hi hz0 hz1 hz2 hz hs0 v n xs hs (HO.alloc _) ⟨W.heap.size, 0, none⟩ 1 1 ys hx (by rw [hys]; simp)
  (by simpa using World.news_of_block (cs := ys.toArray) (t := e) (fr := (0, 0)) (heap_alloc_new W (.cells ys.toArray e))) h1 (by simp only [maxLen]; omega) hl (by simp; omega) ?_
 intro v1 w1 hown hg _ hat
 refine h v1 w1 hown ((HB.alloc hbase _).grown hg (by simp; omega) (own_base HO)) (World.grownBy.trans (World.grownBy_alloc W _ _) hg) ?_
 rcases hat with hat | hat
 ·exact .inl hat
 ·exact .inr ⟨_, hat, by simp⟩
end
theorem blk_set {w : World} {g : Nat} {t : TypeId} {cs : Array Value} (h : w.heap[g]? = some (.cells cs t (0, 0))) (i : Nat) (u : Value) : (w.setCell ⟨g, i, none⟩ u).heap[g]? = some (.cells (cs.setIfInBounds i u) t (0, 0)) := by
 simp [World.setCell, Array.getElem?_modify, h]
theorem blk_lt {w : World} {g : Nat} {o : Obj} (h : w.heap[g]? = some o) : g < w.heap.size := (Array.getElem?_eq_some_iff.1 h).1
theorem blk_cell {w : World} {g : Nat} {t : TypeId} {cs : Array Value} (h : w.heap[g]? = some (.cells cs t (0, 0))) (i : Nat) : w.cell? ⟨g, i, none⟩ = cs[i]? := cell_of_row w g i cs t (0, 0) h
theorem blk_frozen {w : World} {g : Nat} {t : TypeId} {cs : Array Value} (h : w.heap[g]? = some (.cells cs t (0, 0))) (i : Nat) : w.frozen? ⟨g, i, none⟩ = false := by simp [World.frozen?, h]
theorem blk_grown {w w1 : World} {g : Nat} {o : Obj} {row : Option Nat} (h : w.heap[g]? = some o) (hg : w.grownBy w1 row) (hne : some g ≠ row) : w1.heap[g]? = some o := (hg.block g (blk_lt h) hne).trans h
theorem own_weaken {w : World} {base base' : Nat} {e : TypeId} {size n : Nat} {v : Value} {xs : List Value} (h : w.ownsRow base e size v n xs) (hb : base' ≤ base) : w.ownsRow base' e size v n xs := by
 obtain ⟨h1, h2⟩ := h; refine ⟨h1, ?_⟩
 rcases h2 with h2 | ⟨g, cap, cur, rfl, hg, r⟩
 ·exact .inl h2
 ·exact .inr ⟨g, cap, cur, rfl, Nat.le_trans hb hg, r⟩
section
variable {α : Type} {enc : α → Value} {d : α}
def encs (enc : α → Value) (xs : List α) : List Value := xs.map enc
def rdOf (d : α) (xs : List α) (i : Int) : α := xs.getD i.toNat d
theorem encs_length (xs : List α) : (encs enc xs).length = xs.length := by simp [encs]
def ReadsOf (enc : α → Value) (d : α) (w : World) (A : Option Addr) (n : Nat) (xs : List α) : Prop :=
 xs.length = n ∧ n ≤ 9223372036854775807 ∧ (0 < n → ∃ ad, A = some ad ∧ ∀ j, j < n → w.cell? (ad.add j) = some (enc (xs.getD j d)))
theorem ReadsOf.at_ {w : World} {A : Option Addr} {n : Nat} {xs : List α} (h : ReadsOf enc d w A n xs) (i : Int) (h0 : 0 ≤ i) (h1 : i < n) : ∃ ad, A = some ad ∧ w.cell? (ad.add i.toNat) = some (enc (rdOf d xs i)) := by
 obtain ⟨ad, e, hc⟩ := h.2.2 (by omega)
 exact ⟨ad, e, hc _ (by omega)⟩
end
theorem blk_drew {w : World} {g : Nat} {o : Obj} (h : w.heap[g]? = some o) : w.drew.heap[g]? = some o := h
theorem blk_drewN {w : World} {g : Nat} {o : Obj} (h : w.heap[g]? = some o) (n : Nat) : (w.drewN n).heap[g]? = some o := h
theorem blk_below {w w1 : World} {g : Nat} {o : Obj} (h : w.heap[g]? = some o) (hb : Below w.heap.size w w1) : w1.heap[g]? = some o := (hb.block g (blk_lt h)).trans h
theorem blk_new (w : World) (o : Obj) : (w.alloc o).heap[w.heap.size]? = some o := heap_alloc_new w o
section
variable {P : Program}
theorem results_ct {fn : Func} {p u : Tmp} {ty : TypeId} (h : fn.results = #[.cell p ty, .tmp u]) (tmps : Array Value) (w : World) (g : Nat) (t : TypeId) (cs : Array Value) (fr : Nat × Nat) (d : TypeDesc)
  (hp : tmps.getD p undef = .pointer (some ⟨g, 0, none⟩)) (hg : w.heap[g]? = some (.cells cs t fr))
  (hu : P.underlying ty = some d) (hd : (match d with | .struct _ | .array _ _ => true | _ => false) = true) (hi : (P.info? ty).map (·.size) = some cs.size) :
  (results fn tmps).run P w = .ok (.tuple #[.agg cs, tmps.getD u undef]) w := by
 have hp' : tmps[p]?.getD undef = .pointer (some ⟨g, 0, none⟩) := by simpa using hp
 simp [results, h, hp', asAddr, run_loadVar_row w g t ty cs fr d hg hu hd hi]
end
theorem own_le {w : World} {base n m c size : Nat} {e : TypeId} {A : Option Addr} {xs : List Value} (h : w.ownsRow base e size (.slice A m c) n xs) : m ≤ c := by
 rcases h.2 with ⟨he, _⟩ | ⟨g, cap, cur, he, _, _, hnc, _⟩
 ·injection he with _ h2 h3
  omega
 ·injection he with _ h2 h3
  omega
def OwnRow {α : Type} (R : α → List Value → Prop) (e : TypeId) (size : Nat) (w : World) (base : Nat) (v : Value) (ps : List α) : Prop :=
 ∃ inner, w.ownsRow base e size v ps.length inner ∧ Reps R size ps inner
section
variable {α : Type} {R R' : α → List Value → Prop} {e : TypeId} {size : Nat} {w w1 : World} {base : Nat} {v : Value} {ps : List α}
theorem OwnRow.none_ (R : α → List Value → Prop) (e : TypeId) (size : Nat) (w : World) (base : Nat) : OwnRow R e size w base (.slice none 0 0) [] := ⟨[], own_nil _ _ _ _, Reps.none _ _⟩
theorem OwnRow.imp_ (h : OwnRow R e size w base v ps) (hR : ∀ p c, R p c → R' p c) : OwnRow R' e size w base v ps := by
 obtain ⟨inner, ho, hr⟩ := h; exact ⟨inner, ho, hr.imp_ hR⟩
theorem OwnRow.reads (h : OwnRow R e size w base v ps) : ∃ A c, v = .slice A ps.length c ∧ ps.length ≤ c ∧ ReadsRow R size w A ps.length ps := by
 obtain ⟨inner, ho, hr⟩ := h; obtain ⟨A, c, rfl, hrow⟩ := own_reads_row ho hr rfl; exact ⟨A, c, rfl, own_le ho, hrow⟩
end
structure Kd (α : Type) where
 sz : Nat
 E : List Nat
 K : World → α → List Value → Prop
 M : World → Nat → (Nat → Prop) → α → List Value → Prop
 K_len : ∀ {w x cs}, K w x cs → cs.length = sz
 K_one : ∀ {w x cs}, K w x cs → ∀ u ∈ cs, u.oneCell' = true
 K_below : ∀ {w w1 : World} {x cs}, Below w.heap.size w w1 → K w x cs → K w1 x cs
 K_of_M : ∀ {w base ok x cs}, M w base ok x cs → K w x cs
 M_mono : ∀ {w base ok ok' x cs}, (∀ k, ok k → ok' k) → M w base ok x cs → M w base ok' x cs
 M_bound : ∀ {w : World} {base ok x cs}, M w base ok x cs → M w base (fun k => ok k ∧ base ≤ k ∧ k < w.heap.size ∧ ∃ q, q ∈ E ∧ ∃ cells, w.heap[k]? = some (.cells cells q (0, 0))) x cs
 M_move : ∀ {w w1 : World} {base ok x cs}, (∀ k, ok k → w1.heap[k]? = w.heap[k]?) → M w base ok x cs → M w1 base ok x cs
 M_lower : ∀ {w base base' ok x cs}, base' ≤ base → M w base ok x cs → M w base' ok x cs
theorem own_move {w w1 : World} {base : Nat} {e : TypeId} {size n : Nat} {v : Value} {xs : List Value} (h : w.ownsRow base e size v n xs) (hm : ∀ k, v.ownBlock = some k → w1.heap[k]? = w.heap[k]?) : w1.ownsRow base e size v n xs := by
 obtain ⟨h1, h2⟩ := h; refine ⟨h1, ?_⟩
 rcases h2 with h2 | ⟨g, cap, cur, rfl, hg, hh, r⟩
 ·exact .inl h2
 ·exact .inr ⟨g, cap, cur, rfl, hg, (hm g (by simp [Value.ownBlock])).trans hh, r⟩
theorem own_typed {w : World} {base : Nat} {e : TypeId} {size n : Nat} {v : Value} {xs : List Value} (h : w.ownsRow base e size v n xs) (k : Nat) (hk : v.ownBlock = some k) : ∃ cells, w.heap[k]? = some (.cells cells e (0, 0)) := by
 rcases h.2 with ⟨rfl, _⟩ | ⟨g, cap, cur, rfl, hg, hh, r⟩
 ·simp [Value.ownBlock] at hk
 ·have : g = k := by simpa [Value.ownBlock] using hk
  subst this; exact ⟨cur, hh⟩
namespace Kd
def C {α : Type} (d : Kd α) (w : World) (A : Option Addr) (n : Nat) (xs : List α) : Prop := ReadsRow (d.K w) d.sz w A n xs
def R {α : Type} (d : Kd α) (e : Nat) (w : World) (base : Nat) (ok : Nat → Prop) (v : Value) (xs : List α) : Prop :=
 (∀ k, v.ownBlock = some k → ok k) ∧ OwnRow (d.M w base (fun k => ok k ∧ some k ≠ v.ownBlock)) e d.sz w base v xs
section
variable {α : Type} {d : Kd α} {e : Nat} {w w1 : World} {base : Nat} {ok ok' : Nat → Prop} {v : Value} {xs : List α}
theorem R_nil (d : Kd α) (e : Nat) (w : World) (base : Nat) (ok : Nat → Prop) : d.R e w base ok (.slice none 0 0) [] := ⟨fun k hk => by simp [Value.ownBlock] at hk, OwnRow.none_ _ _ _ _ _⟩
theorem R_mono (h : d.R e w base ok v xs) (hok : ∀ k, ok k → ok' k) : d.R e w base ok' v xs := ⟨fun k hk => hok k (h.1 k hk), h.2.imp_ (fun _ _ hp => d.M_mono (fun k hk => ⟨hok k hk.1, hk.2⟩) hp)⟩
theorem R_bound (h : d.R e w base ok v xs) : d.R e w base (fun k => ok k ∧ base ≤ k ∧ k < w.heap.size ∧ ∃ q, q ∈ e :: d.E ∧ ∃ cells, w.heap[k]? = some (.cells cells q (0, 0))) v xs := by
 obtain ⟨h0, inner, ho, hr⟩ := h; refine ⟨fun k hk => ?_, inner, ho, hr.imp_ (fun _ _ hp => d.M_mono (fun k hk => ?_) (d.M_bound hp))⟩
 ·obtain ⟨cells, hc⟩ := own_typed ho k hk; exact ⟨h0 k hk, own_base ho k hk, own_lt ho k hk, e, List.mem_cons_self, cells, hc⟩
 ·obtain ⟨⟨h1, h2⟩, h3, h4, q, hq, hc⟩ := hk; exact ⟨⟨h1, h3, h4, q, List.mem_cons_of_mem _ hq, hc⟩, h2⟩
theorem R_move (h : d.R e w base ok v xs) (hm : ∀ k, ok k → w1.heap[k]? = w.heap[k]?) : d.R e w1 base ok v xs := by
 obtain ⟨h0, inner, ho, hr⟩ := h; exact ⟨h0, inner, own_move ho (fun k hk => hm k (h0 k hk)), hr.imp_ (fun _ _ hp => d.M_move (fun k hk => hm k hk.1) hp)⟩
theorem R_lower {base' : Nat} (h : d.R e w base ok v xs) (hb : base' ≤ base) : d.R e w base' ok v xs := by
 obtain ⟨h0, inner, ho, hr⟩ := h; exact ⟨h0, inner, own_weaken ho hb, hr.imp_ (fun _ _ hp => d.M_lower hb hp)⟩
theorem R_step (h : d.R e w base ok v xs) (hm : ∀ k, ok k → k < w.heap.size → w1.heap[k]? = w.heap[k]?) : d.R e w1 base ok v xs :=
 R_mono (R_move (R_bound h) (fun k hk => hm k hk.1 hk.2.2.1)) (fun _ hk => hk.1)
theorem M_step {x : α} {cs : List Value} (h : d.M w base ok x cs) (hm : ∀ k, ok k → k < w.heap.size → w1.heap[k]? = w.heap[k]?) : d.M w1 base ok x cs :=
 d.M_mono (fun _ hk => hk.1) (d.M_move (fun k hk => hm k hk.1 hk.2.2.1) (d.M_bound h))
theorem R_below (h : d.R e w base ok v xs) (hb : Below w.heap.size w w1) : d.R e w1 base ok v xs := R_step h (fun k _ hk => hb.block k hk)
theorem M_below {x : α} {cs : List Value} (h : d.M w base ok x cs) (hb : Below w.heap.size w w1) : d.M w1 base ok x cs := M_step h (fun k _ hk => hb.block k hk)
theorem R_far (h : d.R e w base ok v xs) {p : Addr} (hok : ∀ k, ok k → k ≠ p.block) (u : Value) : d.R e (w.setCell p u) base ok v xs := R_step h (fun k ho _ => Below.heap_setCell w p u k (hok k ho))
theorem R_reads (h : d.R e w base ok v xs) : ∃ A c, v = .slice A xs.length c ∧ xs.length ≤ c ∧ d.C w A xs.length xs := by
 obtain ⟨A, c, he, hl, hr⟩ := OwnRow.reads h.2; exact ⟨A, c, he, hl, hr.imp_ (Below.refl _ _) (fun _ _ hp => d.K_of_M hp)⟩
theorem R_slice (h : d.R e w base ok v xs) : ∃ A c, v = .slice A xs.length c := by
 obtain ⟨A, c, he, _⟩ := R_reads h; exact ⟨A, c, he⟩
theorem R_own (h : d.R e w base ok v xs) : ∃ inner, w.ownsRow base e d.sz v xs.length inner := by
 obtain ⟨_, inner, ho, _⟩ := h; exact ⟨inner, ho⟩
end
def scalar {α : Type} (enc : α → Value) (h1 : ∀ x, (enc x).oneCell' = true) : Kd α where
 sz := 1
 E := []
 K := fun _ x cs => cs = [enc x]
 M := fun _ _ _ x cs => cs = [enc x]
 K_len := fun h => by rw [h]; rfl
 K_one := fun h u hu => by
  rw [h] at hu; rw [List.mem_singleton.1 hu]; exact h1 _
 K_below := fun _ h => h
 K_of_M := fun h => h
 M_mono := fun _ h => h
 M_bound := fun h => h
 M_move := fun _ h => h
 M_lower := fun _ h => h
def int (k : IntKind) : Kd Int := scalar (Value.int k) (fun _ => rfl)
def string : Kd ByteArray := scalar Value.string (fun _ => rfl)
def pair {α β : Type} (a : Kd α) (b : Kd β) : Kd (α × β) where
 sz := a.sz + b.sz
 E := a.E ++ b.E
 K := fun w x cs => ∃ c0 c1, cs = c0 ++ c1 ∧ a.K w x.1 c0 ∧ b.K w x.2 c1
 M := fun w base ok x cs => ∃ c0 c1, cs = c0 ++ c1 ∧ a.M w base ok x.1 c0 ∧ b.M w base ok x.2 c1
 K_len := by
  rintro w x cs ⟨c0, c1, rfl, h0, h1⟩
  rw [List.length_append, a.K_len h0, b.K_len h1]
 K_one := by
  rintro w x cs ⟨c0, c1, rfl, h0, h1⟩ u hu
  rcases List.mem_append.1 hu with hu | hu
  ·exact a.K_one h0 u hu
  ·exact b.K_one h1 u hu
 K_below := by
  rintro w w1 x cs hb ⟨c0, c1, rfl, h0, h1⟩
  exact ⟨c0, c1, rfl, a.K_below hb h0, b.K_below hb h1⟩
 K_of_M := by
  rintro w base ok x cs ⟨c0, c1, rfl, h0, h1⟩
  exact ⟨c0, c1, rfl, a.K_of_M h0, b.K_of_M h1⟩
 M_mono := by
  rintro w base ok ok' x cs hok ⟨c0, c1, rfl, h0, h1⟩
  exact ⟨c0, c1, rfl, a.M_mono hok h0, b.M_mono hok h1⟩
 M_bound := by
  rintro w base ok x cs ⟨c0, c1, rfl, h0, h1⟩
  refine ⟨c0, c1, rfl, a.M_mono ?_ (a.M_bound h0), b.M_mono ?_ (b.M_bound h1)⟩
  ·rintro k ⟨h2, h3, h4, q, hq, hc⟩
   exact ⟨h2, h3, h4, q, List.mem_append_left _ hq, hc⟩
  ·rintro k ⟨h2, h3, h4, q, hq, hc⟩
   exact ⟨h2, h3, h4, q, List.mem_append_right _ hq, hc⟩
 M_move := by
  rintro w w1 base ok x cs hm ⟨c0, c1, rfl, h0, h1⟩
  exact ⟨c0, c1, rfl, a.M_move hm h0, b.M_move hm h1⟩
 M_lower := by
  rintro w base base' ok x cs hb ⟨c0, c1, rfl, h0, h1⟩
  exact ⟨c0, c1, rfl, a.M_lower hb h0, b.M_lower hb h1⟩
def iso {α β : Type} (d : Kd α) (f : β → α) : Kd β where
 sz := d.sz
 E := d.E
 K := fun w x cs => d.K w (f x) cs
 M := fun w base ok x cs => d.M w base ok (f x) cs
 K_len := d.K_len
 K_one := d.K_one
 K_below := d.K_below
 K_of_M := d.K_of_M
 M_mono := d.M_mono
 M_bound := d.M_bound
 M_move := d.M_move
 M_lower := d.M_lower
theorem C_get {α : Type} {d : Kd α} {w : World} {A : Option Addr} {n : Nat} {xs : List α} (h : d.C w A n xs) (z : α) (i : Int) (h0 : 0 ≤ i) (h1 : i < n) :
  ∃ ad c, A = some ad ∧ c.length = d.sz ∧ d.K w (xs.getD i.toNat z) c ∧ ∀ j u, c[j]? = some u → w.cell? (ad.add (i.toNat * d.sz + j)) = some u := ReadsRow.get_ h z i h0 h1
theorem R_appended {α : Type} {d : Kd α} {e base : Nat} {ok okp : Nat → Prop} {W w1 : World} {v v1 : Value} {xs : List α} {p : α} {inner cs : List Value} (h0 : ∀ k, v.ownBlock = some k → ok k) (hr : Reps (d.M W base (fun k => ok k ∧ some k ≠ v.ownBlock)) d.sz xs inner) (hp : d.M W base okp p cs) (hokp : ∀ k, okp k → ok k ∧ some k ≠ v.ownBlock) (hfresh : ∀ k, W.heap.size ≤ k → ok k)
  (hown : w1.ownsRow base e d.sz v1 (xs.length + 1) (inner ++ cs)) (hg : W.grownBy w1 v.ownBlock) (hat : v1.ownBlock = v.ownBlock ∨ ∃ b, v1.ownBlock = some b ∧ W.heap.size ≤ b) : d.R e w1 base ok v1 (xs ++ [p]) := by
 have hne : ∀ k, some k ≠ v.ownBlock → k < W.heap.size → some k ≠ v1.ownBlock := by
  intro k hk hlt
  rcases hat with hat | ⟨b, hb, hle⟩
  ·rw [hat]; exact hk
  ·rw [hb]; intro he
   injection he with he
   omega
 have step : ∀ {q : α} {c : List Value} {o : Nat → Prop}, d.M W base o q c → (∀ k, o k → ok k ∧ some k ≠ v.ownBlock) → d.M w1 base (fun k => ok k ∧ some k ≠ v1.ownBlock) q c := by
  intro q c o hq ho
  have h1 := d.M_move (w1 := w1) (fun k hk => hg.block k hk.2.2.1 (ho k hk.1).2) (d.M_bound hq)
  exact d.M_mono (fun k hk => ⟨(ho k hk.1).1, hne k (ho k hk.1).2 hk.2.2.1⟩) h1
 refine ⟨fun k hk => ?_, inner ++ cs, by rw [List.length_append, List.length_singleton]; exact hown, ?_⟩
 ·rcases hat with hat | ⟨b, hb, hle⟩
  ·exact h0 k (hat ▸ hk)
  ·rw [hb] at hk; injection hk with hk
   exact hfresh k (by omega)
 ·exact (hr.imp_ (fun _ _ hq => step hq (fun _ hk => hk))).snoc (step hp hokp) (d.K_len (d.K_of_M hp))
section
variable {P : Program} {ops : Array Oper} {rest : List Oper} {o : Oper} {a : Act} {Q : Exit → Act → World → Prop} {α : Type}
theorem R_append (d : Kd α) {w0 W : World} (base : Nat) (hgd : o.guard = none) (s x : Operand) (t e : TypeId) (z : Value) (bytes : Nat)
  (ho : o.op = .call { callee := .builtin .append, args := #[s, x], argTypes := #[t, t] })
  (ht : P.underlying t = some (.slice e)) (hinfo : (P.info? e).map (fun i => (i.zero, i.size, i.bytes)) = some (some z, d.sz, bytes)) (hz : z.cells.size = d.sz) (hs0 : 0 < d.sz) (hb0 : 0 < bytes)
  (v : Value) (xs : List α) (p : α) (cs : List Value) (ok okp : Nat → Prop) (hs : a.eval s = v) (hx : a.eval x = .slice (some ⟨W.heap.size, 0, none⟩) 1 1) (hp : d.M W base okp p cs) (hokp : ∀ k, okp k → ok k ∧ some k ≠ v.ownBlock) (hfresh : ∀ k, W.heap.size ≤ k → ok k)
  (HO : d.R e W base ok v xs) (HB : Below base w0 W) (hbase : base ≤ W.heap.size) (hl : (xs.length + 1) * bytes ≤ 140737488355328)
  (h : ∀ v1 w1, d.R e w1 base ok v1 (xs ++ [p]) → Below base w0 w1 → W.grownBy w1 v.ownBlock → (v1.ownBlock = v.ownBlock ∨ ∃ b, v1.ownBlock = some b ∧ W.heap.size ≤ b) → wpList P ops Q rest (a.put o.dst v1) w1) :
  wpList P ops Q (o :: rest) a (W.alloc (.cells cs.toArray e)) := by
 obtain ⟨h0, inner, hown, hr⟩ := HO; refine print_append_cells base hgd s x t e z d.sz bytes ho ht hinfo hz hs0 hb0 v xs.length inner cs hs hx (d.K_len (d.K_of_M hp)) (d.K_one (d.K_of_M hp)) hown HB hbase hl ?_
 intro v1 w1 hown1 hb1 hg1 hat1
 exact h v1 w1 (R_appended h0 hr hp hokp hfresh hown1 hg1 hat1) hb1 hg1 hat1
end
theorem reps_scalar {α : Type} {enc : α → Value} (xs : List α) : Reps (fun (x : α) (cs : List Value) => cs = [enc x]) 1 xs (encs enc xs) := by
 refine ⟨by simp [encs], fun j p hj => ?_⟩
 obtain ⟨hl, hp⟩ := List.getElem?_eq_some_iff.1 hj; have hl' : j < (encs enc xs).length := by rw [encs_length]; exact hl
 rw [Nat.mul_one, List.drop_eq_getElem_cons hl']; simp [encs, hp]
theorem R_of_own {α : Type} {enc : α → Value} {h1 : ∀ x, (enc x).oneCell' = true} {e : Nat} {w : World} {base : Nat} {ok : Nat → Prop} {v : Value} {xs : List α} (ho : w.ownsRow base e 1 v xs.length (encs enc xs)) (hok : ∀ k, v.ownBlock = some k → ok k) : (scalar enc h1).R e w base ok v xs := ⟨hok, encs enc xs, ho, reps_scalar xs⟩
theorem reads_of_C {α : Type} {enc : α → Value} {d : α} {h1 : ∀ x, (enc x).oneCell' = true} {w : World} {A : Option Addr} {n : Nat} {xs : List α} (h : (scalar enc h1).C w A n xs) : ReadsOf enc d w A n xs := by
 refine ⟨h.1, h.2.1, fun hn => ?_⟩
 obtain ⟨ad, e, hc⟩ := h.2.2 hn; refine ⟨ad, e, fun j hj => ?_⟩
 have hl : j < xs.length := by have := h.1; omega
 obtain ⟨c, _, hK, hcell⟩ := hc j _ (List.getElem?_eq_getElem hl); have hK' : c = [enc xs[j]] := hK
 subst hK'; have := hcell 0 _ rfl
 simpa [scalar, List.getD_eq_getElem?_getD, List.getElem?_eq_getElem hl] using this
end Kd
namespace Kd
section
variable {α β : Type} {d : Kd α} {d' : Kd β} {e e' : Nat} {w w1 W : World} {base b b' : Nat} {ok ok' okv oku : Nat → Prop} {v u : Value} {xs : List α} {ys : List β}
theorem R_drewN (h : d.R e w base ok v xs) (m : Nat) : d.R e (w.drewN m) base ok v xs := R_below h (pw_below_drewN (Below.refl _ _) m)
theorem R_reads' {A : Option Addr} {n c : Nat} (h : d.R e w base ok (.slice A n c) xs) : n = xs.length ∧ n ≤ c ∧ d.C w A xs.length xs := by
 obtain ⟨A', c', he, hl, hr⟩ := R_reads h; injection he with h1 h2 h3
 subst h1; exact ⟨h2, by omega, hr⟩
theorem R_lt (h : d.R e w base ok v xs) : ∀ k, v.ownBlock = some k → k < w.heap.size := by
 obtain ⟨inner, ho⟩ := R_own h; exact own_lt ho
theorem R_base (h : d.R e w base ok v xs) : ∀ k, v.ownBlock = some k → base ≤ k := by
 obtain ⟨inner, ho⟩ := R_own h; exact own_base ho
theorem R_away (h : d.R e w base ok v xs) {g : Nat} (hok : ∀ k, ok k → k ≠ g) : some g ≠ v.ownBlock := fun e => hok g (h.1 g e.symm) rfl
end
section
variable {w W : World} {A : Option Addr} {n : Nat}
theorem at_string {xs : List ByteArray} (h : Kd.string.C w A n xs) (i : Int) (h0 : 0 ≤ i) (h1 : i < n) : ∃ ad, A = some ad ∧ w.cell? (ad.add i.toNat) = some (.string (rdOf ByteArray.empty xs i)) :=
 ReadsOf.at_ (reads_of_C (enc := Value.string) (d := ByteArray.empty) (h1 := fun _ => rfl) h) i h0 h1
variable {α : Type} {enc : α → Value} {h1 : ∀ x, (enc x).oneCell' = true} {e base g cap : Nat} {ok : Nat → Prop} {xs : List α}
end
section
variable {P : Program} {ops : Array Oper} {rest : List Oper} {o : Oper} {a : Act} {Q : Exit → Act → World → Prop}
theorem event_run {W w1 : World} {v : Value} (hgd : o.guard = none) (hrun : (execOp a.eval o).run P W = .ok (.value v) w1) (h : wpList P ops Q rest (a.put o.dst v) w1) : wpList P ops Q (o :: rest) a W := by
 refine wpList_plain hgd fun K hK => ?_
 unfold Oper.wp
 rw [hrun]; exact hK _ _ h
variable {α : Type}
theorem R_lit (d : Kd α) {w0 W : World} (base e : Nat) (hgd : o.guard = none) {N : Tmp} (_hd : o.dst = some N) {xs : List α} {inner : List Value} {ok okp : Nat → Prop}
  (hrun : (execOp a.eval o).run P W = .ok (.value (.slice (some ⟨W.heap.size, 0, none⟩) xs.length xs.length)) (W.alloc (.cells inner.toArray e)))
  (hrep : Reps (d.M W base okp) d.sz xs inner) (hok : ∀ k, okp k → ok k) (hfresh : ok W.heap.size) (HB : Below base w0 W) (hbase : base ≤ W.heap.size) (hm : xs.length ≤ 9223372036854775807)
  (h : ∀ v1 w1, d.R e w1 base ok v1 xs → Below base w0 w1 → W.grownBy w1 none → (∃ b, v1.ownBlock = some b ∧ W.heap.size ≤ b) → wpList P ops Q rest (a.put o.dst v1) w1) : wpList P ops Q (o :: rest) a W := by
 refine event_run hgd hrun (h _ _ ⟨fun k hk => ?_, inner, ?_, ?_⟩ (HB.alloc hbase _) (World.grownBy_alloc W _ none) ⟨W.heap.size, by simp [Value.ownBlock], Nat.le_refl _⟩)
 ·have : W.heap.size = k := by simpa [Value.ownBlock] using hk
  subst this; exact hfresh
 ·have h2 := World.ownsRow_lit (base := base) (e := e) (size := d.sz) W inner.toArray xs.length hbase (by simpa [maxLen] using hm) (by simpa using hrep.1)
  simpa using h2
 ·refine hrep.imp_ (fun p c hp => d.M_mono (fun k hk => ⟨hok k hk.1, fun he => ?_⟩) (M_below (d.M_bound hp) (below_alloc (Below.refl _ _) _)))
  have h3 : k = W.heap.size := by simpa [Value.ownBlock] using he
  have := hk.2.2.1
  omega
end
end Kd
namespace Kd
section
variable {α : Type} {d : Kd α} {e e' : Nat} {w w1 W : World} {base : Nat} {ok : Nat → Prop} {u v : Value} {xs : List α}
theorem R_elder' (hu : d.R e W base ok u xs) (hbase : ∀ k, v.ownBlock = some k → W.heap.size ≤ k) (hb : Below W.heap.size W w1) : d.R e w1 base (fun k => ok k ∧ some k ≠ v.ownBlock) u xs :=
 R_mono (R_move (R_bound hu) (fun k hk => hb.block k hk.2.2.1)) (fun k hk => ⟨hk.1, fun he => by have := hbase k he.symm; have := hk.2.2.1; omega⟩)
theorem R_new' (h : d.R e w1 W.heap.size ok v xs) (hlt : ∀ k, u.ownBlock = some k → k < W.heap.size) : d.R e w1 W.heap.size (fun k => ok k ∧ some k ≠ u.ownBlock) v xs :=
 R_mono (R_bound h) (fun k hk => ⟨hk.1, fun he => by have := hlt k he.symm; have := hk.2.1; omega⟩)
end
end Kd
theorem below_size {w W : World} (h : Below w.heap.size w W) : w.heap.size ≤ W.heap.size := h.size
theorem below_step {w W w2 : World} (h : Below w.heap.size w W) (k : Below W.heap.size W w2) : Below w.heap.size w w2 := below_then h h.size k
theorem below_set {w W : World} {g j : Nat} {v : Value} (h : Below w.heap.size w W) (hg : w.heap.size ≤ g) : Below w.heap.size w (W.setCell ⟨g, j, none⟩ v) := h.setCell hg _
theorem blk_put {w : World} {g : Nat} {t : TypeId} {cs cs' : Array Value} (h : w.heap[g]? = some (.cells cs t (0, 0))) (i : Nat) (u : Value) (e : cs.setIfInBounds i u = cs') : (w.setCell ⟨g, i, none⟩ u).heap[g]? = some (.cells cs' t (0, 0)) := e ▸ blk_set h i u
theorem below_drew1 {base : Nat} {w W : World} (h : Below base w W) : Below base w W.drew := h.drew
namespace Kd
section
variable {α : Type} {d : Kd α} {e base g : Nat} {ok : Nat → Prop} {w w1 : World} {v : Value} {xs : List α} {o : Obj}
theorem R_elderB (h : d.R e w base ok v xs) (a : Nat) (ha : w.heap.size ≤ a) : d.R e w base (fun k => ok k ∧ k ≠ a) v xs := R_mono (R_bound h) (fun k hk => ⟨hk.1, by have := hk.2.2.1; omega⟩)
theorem freshB (hb : w.heap[g]? = some o) : ∀ k, w.heap.size ≤ k → k ≠ g := fun k hk => by have := blk_lt hb; omega
end
end Kd
section
variable {P : Program} {ops : Array Oper} {rest : List Oper} {o : Oper} {a : Act} {Q : Exit → Act → World → Prop}
theorem box_event {W : World} (hgd : o.guard = none) {N : Tmp} (_hd : o.dst = some N) {cs : Array Value} {t : TypeId}
  (hrun : (execOp a.eval o).run P W = .ok (.value (.pointer (some ⟨W.heap.size, 0, none⟩))) (W.alloc (.cells cs t (0, 0))))
  (h : ∀ g, g = W.heap.size → ∀ w1, w1.heap[g]? = some (.cells cs t (0, 0)) → Below W.heap.size W w1 → wpList P ops Q rest (a.put o.dst (.pointer (some ⟨g, 0, none⟩))) w1) : wpList P ops Q (o :: rest) a W :=
 Kd.event_run hgd hrun (h _ rfl _ (blk_new W _) (below_alloc (Below.refl _ _) _))
end
section
variable {P : Program} {ops : Array Oper} {rest : List Oper} {o : Oper} {a : Act} {Q : Exit → Act → World → Prop} {W : World}
theorem gate_dst {N : Tmp} (_hN : o.dst = some N) (h : wpList P ops Q (o :: rest) a W) : wpList P ops Q (o :: rest) a W := h
end
end Go.Proofs.YtplcemlennloaaaDoorW.PrintWords
end
section
namespace Go.Proofs.YtplcemlennloaaaDoor
open Go Go.Shelf
def ren : Ren where
 f := fun x => match x with
  | 157 => 37
  | 229 => 45
  | 199 => 46
  | 261 => 49
  | 311 => 51
  | 312 => 52
  | n => n
 t := fun x => match x with
  | 9 => 9
  | 31 => 34
  | 3 => 3
  | 5 => 5
  | 4 => 4
  | 119 => 65
  | 0 => 0
  | 40 => 67
  | 152 => 72
  | 21 => 21
  | 154 => 74
  | 51 => 68
  | 141 => 76
  | 196 => 80
  | 193 => 77
  | 198 => 83
  | 49 => 81
  | 194 => 78
  | 201 => 86
  | 226 => 88
  | 46 => 89
  | 227 => 90
  | n => n
 g := fun x => match x with
  | 0 => 0
  | 6 => 1
  | n => n
theorem lays157 : Lays.n157 Tryd.prog ren := by
 constructor <;> first | kernel_rfl | (intro w; rfl) | rfl
theorem hi157 : (Tryd.prog.info? (ren.t 9)).map (fun i => (i.zero, i.size, i.bytes)) = some (some (.string ByteArray.empty), 1, 16) := by kernel_rfl
theorem hg157 : Tryd.prog.globalNamed "strings.asciiSpace" = some (ren.g 0) := by kernel_rfl
def Tab (w : World) : Prop := ∀ c : Nat, c < 256 → w.cell? ⟨0, c, none⟩ = some (.int .u8 (if Lib.isSp (UInt8.ofNat c) then 1 else 0))
theorem Tab.of {w : World} (h : Lib.TabIs Tryd.prog w "strings.asciiSpace" .u8 Lib.asciiSpaceTab) : Tab w := fun c hc => by
 have := h.cell hg157 c (by rw [Lib.asciiSpaceTab_length]; exact hc)
 rw [Lib.asciiSpaceTab_at c hc] at this; exact this
theorem Tab.below {w w' : World} (h : Tab w) (hb : RowKit.Below w.heap.size w w') : Tab w' := fun c hc => by
 have h1 := h c hc; exact (hb.cell (World.block_lt_of_cell? w _ h1)).trans h1
theorem fields_calls (s : ByteArray) (w : World) (hs : s.size < 4294967281) (hascii : ∀ (j : Nat) b, s.data.toList[j]? = some b → b.toNat < 128) (hT : Tab w) :
  Calls Tryd.prog 37 #[.string s] w fun e w' =>
   e = .returned (.slice (some ⟨w.heap.size, 0, none⟩) (Lib.fields s.data.toList).length (Lib.fields s.data.toList).length) ∧ w' = w.alloc (.cells ((Lib.fields s.data.toList).map fun l => Value.string ⟨l.toArray⟩).toArray 9) :=
 Any.strings_Fields_core lays157 hi157 s w hs hascii hT
end Go.Proofs.YtplcemlennloaaaDoor
end
section
-- PRINTED BY print.sh 35421559b90ae4d0a3588c463048766b98c2df88dd9212a6774a882060cdf62d: not written by this session
namespace Go.Proofs.YtplcemlennloaaaDoorW.PrintLast
section
variable {P : Program} {ops : Array Oper} {Q : Exit → Act → World → Prop} {md : Region.Mode} {S : World → Prop} {ds : List Nat}
def Region.reachB (md : Region.Mode) (ops : Array Oper) (i : Nat) : Nat → Nat → Bool
 | 0, _ => false
 | fuel + 1, d => match ops[d]? with
  | some o => o.after.any fun e => Region.binds md e && (e.on == i || Region.reachB md ops i fuel e.on)
  | none => false
def Region.closedB (md : Region.Mode) (ops : Array Oper) (listed : Array Bool) : Bool :=
 (List.range ops.size).all fun j => !listed.getD j false || match ops[j]? with
  | some o => o.after.all fun e => !Region.binds md e || listed.getD e.on false
  | none => true
def Region.lastB (md : Region.Mode) (ops : Array Oper) (listed : Array Bool) (ds : List Nat) (i : Nat) : Bool :=
 ds.all fun d => listed.getD d true || Region.reachB md ops i ops.size d
def ListedClosed (md : Region.Mode) (ops : Array Oper) (listed : Array Bool) : Prop :=
 ∀ j oj, ops[j]? = some oj → listed.getD j false = true → ∀ e ∈ oj.after, Region.binds md e = true → listed.getD e.on false = true
theorem Region.closedB_spec {listed : Array Bool} (h : Region.closedB md ops listed = true) : ListedClosed md ops listed := by
 intro j oj hj hl e he hb
 have hlt : j < ops.size := (Array.getElem?_eq_some_iff.1 hj).1
 have h1 := List.all_eq_true.1 h j (List.mem_range.2 hlt); simp only [hl, hj, Bool.not_true, Bool.false_or] at h1
 have h2 := Array.all_eq_true_iff_forall_mem.1 h1 e he; simpa [hb] using h2
theorem ListedClosed.set {listed : Array Bool} {i : Nat} (h : ListedClosed md ops listed) (hi : i ∈ Region.ready md ops listed) : ListedClosed md ops (listed.setIfInBounds i true) := by
 obtain ⟨_, oi, hoi, hall⟩ := mem_ready.1 hi; intro j oj hj hl e he hb
 by_cases hij : i = j
 ·subst hij; have : oj = oi := Option.some.inj (hj.symm.trans hoi)
  subst this; exact getD_set_true (hall e he hb)
 ·rw [getD_set_ne false hij] at hl; exact getD_set_true (h j oj hj hl e he hb)
theorem Region.reach_listed {listed : Array Bool} {i : Nat} (hc : ListedClosed md ops listed) : ∀ (fuel d : Nat), Region.reachB md ops i fuel d = true → listed.getD d false = true → listed.getD i false = true
 | 0, _, h, _ => by simp [Region.reachB] at h
 | fuel + 1, d, h, hl => by
  unfold Region.reachB at h
  cases ho : ops[d]? with
  | none => rw [ho] at h; simp at h
  | some o =>
   rw [ho] at h; obtain ⟨e, he, h1⟩ := Array.any_eq_true'.1 h; simp only [Bool.and_eq_true, Bool.or_eq_true, beq_iff_eq] at h1
   have hle := hc d o ho hl e he h1.1; rcases h1.2 with h2 | h2
   ·rw [← h2]; exact hle
   ·exact Region.reach_listed hc fuel e.on h2 hle
theorem Region.reach_not_ready {listed : Array Bool} {i d fuel : Nat} (hc : ListedClosed md ops listed) (hr : Region.reachB md ops i fuel d = true) (hun : listed.getD i true = false) : d ∉ Region.ready md ops listed := by
 intro hd
 obtain ⟨_, o, ho, hall⟩ := mem_ready.1 hd; have hi : listed.getD i false = true := by
  cases fuel with
  | zero => simp [Region.reachB] at hr
  | succ n =>
   unfold Region.reachB at hr
   rw [ho] at hr; obtain ⟨e, he, h1⟩ := Array.any_eq_true'.1 hr; simp only [Bool.and_eq_true, Bool.or_eq_true, beq_iff_eq] at h1
   have hle := hall e he h1.1; rcases h1.2 with h2 | h2
   ·rw [← h2]; exact hle
   ·exact Region.reach_listed hc n e.on h2 hle
 rcases Nat.lt_or_ge i listed.size with h' | h'
 ·simp [h'] at hun hi
  rw [hun] at hi; cases hi
 ·simp [Array.getElem?_eq_none h'] at hun
def wpAnyLast (P : Program) (md : Region.Mode) (ops : Array Oper) (Q : Exit → Act → World → Prop) (S : World → Prop) (ds : List Nat) : Nat → Array Bool → Act → World → Prop
 | 0, listed, a, w => Region.ready md ops listed = [] ∧ Q .normal a w
 | fuel + 1, listed, a, w =>
  (Region.ready md ops listed = [] → Q .normal a w) ∧
  ∀ i ∈ Region.ready md ops listed, wpOp P ops Q i (fun a' w' => (i ∉ ds → S w → S w') ∧ wpAnyLast P md ops Q S ds fuel (listed.setIfInBounds i true) a' w') a w
theorem wpAny_of_last : ∀ (fuel : Nat) (listed : Array Bool) (a : Act) (w : World), wpAnyLast P md ops Q S ds fuel listed a w → wpAny P md ops Q fuel listed a w
 | 0, _, _, _, h => h
 | fuel + 1, _, _, _, h => ⟨h.1, fun i hi => wpOp_mono (fun a' w' h' => wpAny_of_last fuel _ a' w' h'.2) (h.2 i hi)⟩
theorem wpAnyLast_first {i : Nat} {oi : Oper} {v : Value} (hi : ops[i]? = some oi) (hsel : ∀ (j : Nat) (o : Oper) cs b, ops[j]? = some o → o.op ≠ .select cs b)
  (hQ : ∀ c a w, Q (.panic c) (a.put oi.dst v) w → Q (.panic c) a w) (n : Nat) :
  ∀ (fuel : Nat) (listed : Array Bool) (a : Act) (w : World),
   (∀ j oj, ops[j]? = some oj → j ≠ i → listed.getD j true = false → (∀ e ∈ oj.after, Region.binds md e = true → e.on ≠ i) → oi.apart ops oj = true) →
   ListedClosed md ops listed → (∀ d ∈ ds, listed.getD d true = false → Region.reachB md ops i n d = true) →
   i ∈ Region.ready md ops listed → YieldsIf P ops S oi v a → S w →
   wpAnyLast P md ops Q S ds fuel (listed.setIfInBounds i true) (a.put oi.dst v) w → wpAnyLast P md ops Q S ds (fuel + 1) listed a w := by
 intro fuel
 induction fuel with
 | zero =>
  intro listed a w _ _ _ hr hy hS H
  refine ⟨fun h => (by rw [h] at hr; cases hr), fun j hj => ?_⟩
  by_cases hji : j = i
  ·subst hji; exact hy.wpOp hi hS ⟨fun _ h => h, H⟩
  ·have := ready_mono hj hji
   rw [H.1] at this; cases this
 | succ fuel ih =>
  intro listed a w hfree hc hd hr hy hS H
  refine ⟨fun h => (by rw [h] at hr; cases hr), fun j hj => ?_⟩
  by_cases hji : j = i
  ·subst hji; exact hy.wpOp hi hS ⟨fun _ h => h, H⟩
  ·have h1 := H.2 j (ready_mono hj hji); obtain ⟨hjun, oj, hoj, hall⟩ := mem_ready.1 hj; have hiun := (mem_ready.1 hr).1; have hnot : ∀ e ∈ oj.after, Region.binds md e = true → e.on ≠ i := fun e he hb heq => by
    have h1 := hall e he hb; rw [heq] at h1; rcases Nat.lt_or_ge i listed.size with h' | h'
    ·simp [h'] at hiun h1; rw [hiun] at h1; cases h1
    ·simp [Array.getElem?_eq_none h'] at h1
   have hjd : j ∉ ds := fun hm => Region.reach_not_ready hc (hd j hm hjun) hiun hj
   have h2 := wpOp_putIf hoj (hfree j oj hoj hji hjun hnot) (fun cs b => hsel i oi cs b hi) (fun cs b => hsel j oj cs b hoj) hQ hy h1
   have hfree' : ∀ k ok, ops[k]? = some ok → k ≠ i → (listed.setIfInBounds j true).getD k true = false →
     (∀ e ∈ ok.after, Region.binds md e = true → e.on ≠ i) → oi.apart ops ok = true := fun k ok hk hki hun hno => by
    refine hfree k ok hk hki ?_ hno
    by_cases hjk : j = k
    ·subst hjk; exact hjun
    ·rw [getD_set_ne true hjk] at hun; exact hun
   have hd' : ∀ d ∈ ds, (listed.setIfInBounds j true).getD d true = false → Region.reachB md ops i n d = true := fun d hm hun => by
    refine hd d hm ?_
    by_cases hjk : j = d
    ·subst hjk; exact hjun
    ·rw [getD_set_ne true hjk] at hun; exact hun
   refine wpOp_mono (fun a' w' h3 => ⟨h3.2.1, ih (listed.setIfInBounds j true) a' w' hfree' (hc.set hj) hd' (ready_mono hr (Ne.symm hji)) h3.1 (h3.2.1 hjd hS) ?_⟩) h2
   rw [Array.setIfInBounds_comm _ _ hji]; exact h3.2.2
theorem wpAnyLast_any {i : Nat} {oi : Oper} {v : Value} (hi : ops[i]? = some oi) (hsel : ∀ (j : Nat) (o : Oper) cs b, ops[j]? = some o → o.op ≠ .select cs b)
  (hQ : ∀ c a w, Q (.panic c) (a.put oi.dst v) w → Q (.panic c) a w) :
  ∀ (fuel : Nat) (listed : Array Bool) (a : Act) (w : World),
   (∀ j oj, ops[j]? = some oj → j ≠ i → listed.getD j true = false → (∀ e ∈ oj.after, Region.binds md e = true → e.on ≠ i) → oi.apart ops oj = true) →
   i ∈ Region.ready md ops listed → Yields P ops oi v a →
   wpAnyLast P md ops Q S ds fuel (listed.setIfInBounds i true) (a.put oi.dst v) w → wpAnyLast P md ops Q S ds (fuel + 1) listed a w := by
 intro fuel
 induction fuel with
 | zero =>
  intro listed a w _ hr hy H
  refine ⟨fun h => (by rw [h] at hr; cases hr), fun j hj => ?_⟩
  by_cases hji : j = i
  ·subst hji; exact (hy.yieldsIf (S := fun _ => True)).wpOp hi trivial ⟨fun _ h => h, H⟩
  ·have := ready_mono hj hji
   rw [H.1] at this; cases this
 | succ fuel ih =>
  intro listed a w hfree hr hy H
  refine ⟨fun h => (by rw [h] at hr; cases hr), fun j hj => ?_⟩
  by_cases hji : j = i
  ·subst hji; exact (hy.yieldsIf (S := fun _ => True)).wpOp hi trivial ⟨fun _ h => h, H⟩
  ·have h1 := H.2 j (ready_mono hj hji); obtain ⟨hjun, oj, hoj, hall⟩ := mem_ready.1 hj; have hiun := (mem_ready.1 hr).1; have hnot : ∀ e ∈ oj.after, Region.binds md e = true → e.on ≠ i := fun e he hb heq => by
    have h1 := hall e he hb; rw [heq] at h1; rcases Nat.lt_or_ge i listed.size with h' | h'
    ·simp [h'] at hiun h1; rw [hiun] at h1; cases h1
    ·simp [Array.getElem?_eq_none h'] at h1
   have h2 := wpOp_put hoj (hfree j oj hoj hji hjun hnot) (fun cs b => hsel i oi cs b hi) (fun cs b => hsel j oj cs b hoj) hQ hy h1
   have hfree' : ∀ k ok, ops[k]? = some ok → k ≠ i → (listed.setIfInBounds j true).getD k true = false →
     (∀ e ∈ ok.after, Region.binds md e = true → e.on ≠ i) → oi.apart ops ok = true := fun k ok hk hki hun hno => by
    refine hfree k ok hk hki ?_ hno
    by_cases hjk : j = k
    ·subst hjk; exact hjun
    ·rw [getD_set_ne true hjk] at hun; exact hun
   refine wpOp_mono (fun a' w' h3 => ⟨h3.2.1, ih (listed.setIfInBounds j true) a' w' hfree' (ready_mono hr (Ne.symm hji)) h3.1 ?_⟩) h2
   rw [Array.setIfInBounds_comm _ _ hji]; exact h3.2.2
theorem wpAnyLast_take {i : Nat} {oi : Oper} {v : Value} {fuel : Nat} {listed : Array Bool} {a : Act} {w : World} (hi : ops[i]? = some oi)
  (hs : Region.noSelect ops = true) (hf : Region.free md ops listed i = true) (hr : (Region.ready md ops listed).contains i = true)
  (hc : Region.closedB md ops listed = true) (hl : Region.lastB md ops listed ds i = true)
  (hQ : ∀ c a w, Q (.panic c) (a.put oi.dst v) w → Q (.panic c) a w) (hy : YieldsIf P ops S oi v a) (hS : S w)
  (h : wpAnyLast P md ops Q S ds fuel (listed.setIfInBounds i true) (a.put oi.dst v) w) : wpAnyLast P md ops Q S ds (fuel + 1) listed a w :=
 wpAnyLast_first hi (Region.noSelect_spec hs) hQ ops.size fuel listed a w (Region.free_spec hi hf) (Region.closedB_spec hc)
  (fun d hm hun => by have := List.all_eq_true.1 hl d hm; rw [hun] at this; simpa using this) (by simpa using hr) hy hS h
theorem wpAnyLast_all {rs : List Nat} {fuel : Nat} {listed : Array Bool} {a : Act} {w : World} (hr : Region.ready md ops listed = rs) (hne : rs ≠ [])
  (h : ∀ i ∈ rs, wpOp P ops Q i (fun a' w' => (i ∉ ds → S w → S w') ∧ wpAnyLast P md ops Q S ds fuel (listed.setIfInBounds i true) a' w') a w) : wpAnyLast P md ops Q S ds (fuel + 1) listed a w :=
 ⟨fun h0 => absurd (hr ▸ h0) hne, hr ▸ h⟩
theorem wpAnyLast_done {listed : Array Bool} {a : Act} {w : World} (hr : Region.ready md ops listed = []) (h : Q .normal a w) :
  ∀ fuel, wpAnyLast P md ops Q S ds fuel listed a w
 | 0 => ⟨hr, h⟩
 | _ + 1 => ⟨fun _ => h, by rw [hr]; simp⟩
theorem wp_region_last {id : Nat} {a : Act} {w : World} (hm : P.follows .mixedOrders = true)
  (h : wpAnyLast P .any ops Q S ds ops.size (Array.replicate ops.size false) a { w with drawn := w.drawn + 1 }) : (Code.region id ops true).wp P Q a w :=
 wp_region_any hm (wpAny_of_last _ _ _ _ h)
end
section
variable {P : Program} {ops : Array Oper} {Q : Exit → Act → World → Prop} {md : Region.Mode} {S : World → Prop} {ds : List Nat}
def AllReadyL (P : Program) (md : Region.Mode) (ops : Array Oper) (Q : Exit → Act → World → Prop) (S : World → Prop) (ds : List Nat) (fuel : Nat) (listed : Array Bool) (a : Act) (w : World) (rs : List Nat) : Prop :=
 ∀ i ∈ rs, wpOp P ops Q i (fun a' w' => (i ∉ ds → S w → S w') ∧ wpAnyLast P md ops Q S ds fuel (listed.setIfInBounds i true) a' w') a w
theorem AllReadyL.nil {fuel : Nat} {listed : Array Bool} {a : Act} {w : World} : AllReadyL P md ops Q S ds fuel listed a w [] := fun _ h => by cases h
theorem AllReadyL.cons {fuel : Nat} {listed : Array Bool} {a : Act} {w : World} {i : Nat} {o : Oper} {rs : List Nat} (ho : ops[i]? = some o) (hd : i ∉ ds)
  (h : ∀ K' : Act → World → Prop, Shut (∀ a w, S w → (S w → wpAnyLast P md ops Q S ds fuel (listed.setIfInBounds i true) a w) → K' a w) → if Region.wanted o (yielded ops a.tmps) = true then Oper.wp P o a w K' Q else K' (a.put o.dst undef) w)
  (hs : AllReadyL P md ops Q S ds fuel listed a w rs) : AllReadyL P md ops Q S ds fuel listed a w (i :: rs) := fun j hj => by
 rcases List.mem_cons.1 hj with rfl | hj
 ·exact wpOp_step ho (fun K' hK => h K' (fun a w hS hW => hK a w ⟨fun _ _ => hS, hW hS⟩))
 ·exact hs j hj
theorem wpAnyLast_ready {rs : List Nat} {fuel : Nat} {listed : Array Bool} {a : Act} {w : World} (hr : Region.ready md ops listed = rs) (hne : rs ≠ [])
  (h : AllReadyL P md ops Q S ds fuel listed a w rs) : wpAnyLast P md ops Q S ds (fuel + 1) listed a w := wpAnyLast_all hr hne h
theorem start_ {id n : Nat} {a : Act} {w : World} (l : Array Bool) (hm : P.follows .mixedOrders = true) (hn : ops.size = n) (hl : Array.replicate n false = l) (hS : S w.drew)
  (h : S w.drew → wpAnyLast P .any ops Q S ds n l a w.drew) : (Code.region id ops true).wp P Q a w := by
 subst hn; subst hl; exact wp_region_last hm (h hS)
def takeB (md : Region.Mode) (ops : Array Oper) (ds : List Nat) (l l' : Array Bool) (i : Nat) : Bool :=
 Region.noSelect ops && Region.free md ops l i && (Region.ready md ops l).contains i && Region.closedB md ops l && Region.lastB md ops l ds i && (l.setIfInBounds i true == l')
theorem take_ {i : Nat} {N : Option Tmp} {oi : Oper} {v : Value} {fuel : Nat} {l : Array Bool} {a : Act} {w : World} (l' : Array Bool) (hi : ops[i]? = some oi) (hN : oi.dst = N) (hc : takeB md ops ds l l' i = true)
  (hQ : ∀ c a w, Q (.panic c) (a.put oi.dst v) w → Q (.panic c) a w) (hy : YieldsIf P ops S oi v a) (hS : S w) {a' : Act} (ha : a.put N v = a')
  (h : wpAnyLast P md ops Q S ds fuel l' a' w) : wpAnyLast P md ops Q S ds (fuel + 1) l a w := by
 subst ha; subst hN; simp only [takeB, Bool.and_eq_true, beq_iff_eq] at hc
 obtain ⟨⟨⟨⟨⟨h1, h2⟩, h3⟩, h4⟩, h5⟩, h6⟩ := hc; subst h6; exact wpAnyLast_take hi h1 h2 h3 h4 h5 hQ hy hS h
def anyB (md : Region.Mode) (ops : Array Oper) (l l' : Array Bool) (i : Nat) : Bool :=
 Region.noSelect ops && Region.free md ops l i && (Region.ready md ops l).contains i && (l.setIfInBounds i true == l')
theorem pure_ {i : Nat} {N : Option Tmp} {oi : Oper} {v : Value} {fuel : Nat} {l : Array Bool} {a : Act} {w : World} (l' : Array Bool) (hi : ops[i]? = some oi) (hN : oi.dst = N) (hc : anyB md ops l l' i = true)
  (hQ : ∀ c a w, Q (.panic c) (a.put oi.dst v) w → Q (.panic c) a w) (hy : Yields P ops oi v a) {a' : Act} (ha : a.put N v = a')
  (h : wpAnyLast P md ops Q S ds fuel l' a' w) : wpAnyLast P md ops Q S ds (fuel + 1) l a w := by
 subst ha; subst hN; simp only [anyB, Bool.and_eq_true, beq_iff_eq] at hc
 obtain ⟨⟨⟨h1, h2⟩, h3⟩, h6⟩ := hc; subst h6; exact wpAnyLast_any hi (Region.noSelect_spec h1) hQ fuel l a w (Region.free_spec hi h2) (by simpa using h3) hy h
def readyB (md : Region.Mode) (ops : Array Oper) (l l' : Array Bool) (i : Nat) : Bool := (Region.ready md ops l == [i]) && (l.setIfInBounds i true == l')
theorem one_ {i : Nat} {N : Option Tmp} {oi : Oper} {fuel : Nat} {l : Array Bool} {a : Act} {w : World} (l' : Array Bool) (hi : ops[i]? = some oi) (hN : oi.dst = N) (hc : readyB md ops l l' i = true) (hd : i ∉ ds)
  (h : ∀ K : Act → World → Prop, Shut (∀ a' w', S w' → (S w' → wpAnyLast P md ops Q S ds fuel l' a' w') → K a' w') → if Region.wanted oi (yielded ops a.tmps) = true then Oper.wp P oi a w K Q else K (a.put N undef) w) :
  wpAnyLast P md ops Q S ds (fuel + 1) l a w := by
 subst hN; simp only [readyB, Bool.and_eq_true, beq_iff_eq] at hc
 obtain ⟨h1, h2⟩ := hc; subst h2; exact wpAnyLast_ready h1 (by simp) (AllReadyL.cons hi hd (fun K hK => h K hK) AllReadyL.nil)
theorem done_ {l : Array Bool} {a : Act} {w : World} {n : Nat} (hr : (Region.ready md ops l == []) = true) (h : Q .normal a w) : wpAnyLast P md ops Q S ds n l a w := wpAnyLast_done (by simpa using hr) h n
theorem norm_ {fuel : Nat} {l : Array Bool} {a a' : Act} {w : World} (ha : a = a') (h : wpAnyLast P md ops Q S ds fuel l a' w) : wpAnyLast P md ops Q S ds fuel l a w := by
 subst ha; exact h
theorem call_ {oi : Oper} {N : Option Tmp} {a : Act} {w : World} {K : Act → World → Prop} (f : FuncId) (args : Array Value) (hw : Region.wanted oi (yielded ops a.tmps) = true) (hN : oi.dst = N) (hrun : (execOp a.eval oi).run P w = .ok (.enter f args) w)
  (h : Calls P f args w fun e w' => ∃ v, e = .returned v ∧ K (a.put N v) w') : if Region.wanted oi (yielded ops a.tmps) = true then Oper.wp P oi a w K Q else K (a.put N undef) w := by
 rw [if_pos hw]; subst hN; unfold Oper.wp
 rw [hrun, Oper.upon_enter]; refine h.mono fun e w'' hh => ?_
 obtain ⟨v, rfl, hk⟩ := hh; exact hk
theorem enters_ {f : FuncId} {fn : Func} (hf : P.funcs[f]? = some fn) (hname : (fn.name == "runtime.NumGoroutine") = false) (hb : fn.body.isSome = true) (args : Array Value) (w : World) : (callFunc f args).run P w = .ok (.enter f args) w := by
 have h1 : fn.name ≠ "runtime.NumGoroutine" := by simpa using hname
 obtain ⟨c, hc⟩ := Option.isSome_iff_exists.1 hb; simp [callFunc, hf, h1, hc]
theorem goes_ {oi : Oper} {N : Option Tmp} {a : Act} {w : World} {K : Act → World → Prop} {f : FuncId} {fn : Func} {as_ : Array Operand} {ts : Array TypeId} (hf : P.funcs[f]? = some fn) (hname : (fn.name == "runtime.NumGoroutine") = false) (hb : fn.body.isSome = true) (args : Array Value)
  (hw : Region.wanted oi (yielded ops a.tmps) = true) (hN : oi.dst = N) (hop : oi.op = .call { callee := .value (.func f), args := as_, argTypes := ts }) (hargs : as_.map a.eval = args)
  (h : Calls P f args w fun e w' => ∃ v, e = .returned v ∧ K (a.put N v) w') : if Region.wanted oi (yielded ops a.tmps) = true then Oper.wp P oi a w K Q else K (a.put N undef) w := by
 refine call_ f args hw hN ?_ h
 have he := enters_ hf hname hb args w; unfold execOp
 simp [hop, resolve, Deferred.ofValue, invoke, Act.eval, hargs, he]
theorem goesL_ {rest : List Oper} {oi : Oper} {a : Act} {w : World} (N : Option Tmp) (hd : oi.dst = N) (hg : oi.guard = none) {f : FuncId} {fn : Func} {as_ : Array Operand} {ts : Array TypeId} (hf : P.funcs[f]? = some fn) (hname : (fn.name == "runtime.NumGoroutine") = false) (hb : fn.body.isSome = true) (args : Array Value)
  (hop : oi.op = .call { callee := .value (.func f), args := as_, argTypes := ts }) (hargs : as_.map a.eval = args)
  (h : Calls P f args w fun e w' => ∃ v, e = .returned v ∧ wpList P ops Q rest (a.put N v) w') : wpList P ops Q (oi :: rest) a w := by
 refine wpList_plain hg fun K hK => ?_
 have he := enters_ hf hname hb args w; have hrun : (execOp a.eval oi).run P w = .ok (.enter f args) w := by
  unfold execOp
  simp [hop, resolve, Deferred.ofValue, invoke, Act.eval, hargs, he]
 unfold Oper.wp
 rw [hrun, Oper.upon_enter]; refine h.mono fun e w'' hh => ?_
 obtain ⟨v, rfl, hk⟩ := hh; subst hd; exact hK _ _ hk
theorem skip_ {oi : Oper} {a : Act} {w w1 : World} {K : Act → World → Prop} (hw : Region.wanted oi (yielded ops a.tmps) = true) (hN : oi.dst = none) (hrun : (execOp a.eval oi).run P w = .ok .skip w1)
  (h : K a w1) : if Region.wanted oi (yielded ops a.tmps) = true then Oper.wp P oi a w K Q else K (a.put none undef) w := by
 rw [if_pos hw]; unfold Oper.wp
 rw [hrun]; show K (a.put oi.dst undef) w1
 rw [hN]; exact h
theorem i64_w (n : Int) : IntKind.i64.wrap n = Go.RowKit.wrap64 n := by unfold Go.RowKit.wrap64; exact IntKind.wrap_i64 n
theorem i32_w (n : Int) : IntKind.i32.wrap n = Go.RowKit.wrap32 n := by unfold Go.RowKit.wrap32; exact IntKind.wrap_i32 n
end
end Go.Proofs.YtplcemlennloaaaDoorW.PrintLast
end
section
-- PRINTED BY print.sh 35421559b90ae4d0a3588c463048766b98c2df88dd9212a6774a882060cdf62d: not written by this session
namespace Go.Proofs.YtplcemlennloaaaDoorW.PrintLast
open Go.Proofs.YtplcemlennloaaaDoorW.PrintWords (Aside0)
def needsOf (md : Region.Mode) (o : Oper) : List Nat := (o.after.toList.filter (fun e => Region.binds md e)).map (fun e => e.on)
def clashOf (md : Region.Mode) (ops : Array Oper) (i : Nat) (oi : Oper) : List Nat := (List.range ops.size).filter fun j => !(j == i) && match ops[j]? with
 | some oj => !(oj.after.any (fun e => Region.binds md e && e.on == i) || oi.apart ops oj)
 | none => false
def rtab (md : Region.Mode) (ops : Array Oper) : Bool × List (List Nat × List Nat) := (Region.noSelect ops, (List.range ops.size).map fun i => match ops[i]? with
 | some o => (needsOf md o, clashOf md ops i o)
 | none => ([], []))
def readyAt (T : List (List Nat × List Nat)) (l : List Bool) (i : Nat) : Bool := !l.getD i true && match T[i]? with
 | some r => r.1.all (fun j => l.getD j false)
 | none => false
def readyT (T : List (List Nat × List Nat)) (l : List Bool) : List Nat := (List.range T.length).filter (readyAt T l)
def freeT (T : List (List Nat × List Nat)) (l : List Bool) (i : Nat) : Bool := match T[i]? with
 | some r => r.2.all (fun j => l.getD j true)
 | none => false
def closedT (T : List (List Nat × List Nat)) (l : List Bool) : Bool := (List.range T.length).all fun j => !l.getD j false || match T[j]? with
 | some r => r.1.all (fun k => l.getD k false)
 | none => true
def reachT (T : List (List Nat × List Nat)) (i : Nat) : Nat → Nat → Bool
 | 0, _ => false
 | fuel + 1, d => match T[d]? with
  | some r => r.1.any fun j => j == i || reachT T i fuel j
  | none => false
def lastT (T : List (List Nat × List Nat)) (l : List Bool) (ds : List Nat) (i : Nat) : Bool := ds.all fun d => l.getD d true || reachT T i T.length d
section
variable {md : Region.Mode} {ops : Array Oper} {T : Bool × List (List Nat × List Nat)} {l l' li lj lk : Array Bool} {ds : List Nat} {i j k : Nat}
theorem gd (l : Array Bool) (j : Nat) (b : Bool) : l.getD j b = l.toList.getD j b := by simp [Array.getD_eq_getD_getElem?, List.getD_eq_getElem?_getD]
theorem needs_all (o : Oper) (p : Nat → Bool) : o.after.all (fun e => !Region.binds md e || p e.on) = (needsOf md o).all p := by
 unfold needsOf
 rw [← Array.all_toList]; induction o.after.toList with
 | nil => rfl
 | cons e r ih =>
  rw [List.all_cons, ih, List.filter_cons]; cases h : Region.binds md e <;> simp
theorem needs_any (o : Oper) (p : Nat → Bool) : o.after.any (fun e => Region.binds md e && p e.on) = (needsOf md o).any p := by
 unfold needsOf
 rw [← Array.any_toList]; induction o.after.toList with
 | nil => rfl
 | cons e r ih =>
  rw [List.any_cons, ih, List.filter_cons]; cases h : Region.binds md e <;> simp
theorem rtab_length : (rtab md ops).2.length = ops.size := by simp [rtab]
theorem rtab_some {o : Oper} (h : ops[i]? = some o) : (rtab md ops).2[i]? = some (needsOf md o, clashOf md ops i o) := by
 have hi := (Array.getElem?_eq_some_iff.1 h).1; unfold rtab
 rw [List.getElem?_map, List.getElem?_range hi, Option.map_some, h]
theorem rtab_none (h : ops[i]? = none) : (rtab md ops).2[i]? = none := by
 have hi : ops.size ≤ i := Array.getElem?_eq_none_iff.1 h
 exact List.getElem?_eq_none (by rw [rtab_length]; exact hi)
theorem readyAt_eq : readyAt (rtab md ops).2 l.toList i = (!l.getD i true && ((ops[i]?).map (·.after.all fun e => !Region.binds md e || l.getD e.on false)).getD false) := by
 unfold readyAt
 rw [gd]; cases h : ops[i]? with
 | none => rw [rtab_none h]; rfl
 | some o =>
  rw [rtab_some h]; simp only [Option.map_some, Option.getD_some]
  rw [← needs_all]; simp only [gd]
theorem ready_eq : Region.ready md ops l = readyT (rtab md ops).2 l.toList := by
 unfold Region.ready readyT
 rw [rtab_length]; refine List.filter_congr (fun i _ => ?_)
 rw [readyAt_eq]
theorem free_eq : Region.free md ops l i = freeT (rtab md ops).2 l.toList i := by
 unfold Region.free freeT
 cases h : ops[i]? with
 | none => rw [rtab_none h]
 | some oi =>
  rw [rtab_some h]; simp only [clashOf]
  rw [List.all_filter]; congr 1
  funext j
  rw [gd]; cases hj : ops[j]? with
  | none => cases (j == i) <;> cases (l.toList.getD j true) <;> simp
  | some oj =>
   cases (j == i) <;> cases (l.toList.getD j true) <;> cases (oj.after.any (fun e => Region.binds md e && e.on == i) || oi.apart ops oj) <;> simp_all
theorem closed_eq : Region.closedB md ops l = closedT (rtab md ops).2 l.toList := by
 unfold Region.closedB closedT
 rw [rtab_length]; congr 1
 funext j
 rw [gd]; cases h : ops[j]? with
 | none => rw [rtab_none h]
 | some o =>
  rw [rtab_some h]; simp only
  rw [← needs_all]; simp only [gd]
theorem reach_eq : ∀ (fuel d : Nat), Region.reachB md ops i fuel d = reachT (rtab md ops).2 i fuel d
 | 0, _ => rfl
 | fuel + 1, d => by
  unfold Region.reachB reachT
  cases h : ops[d]? with
  | none => rw [rtab_none h]
  | some o =>
   rw [rtab_some h]; simp only
   rw [← needs_any]; congr 1
   funext e
   rw [reach_eq fuel]
theorem last_eq : Region.lastB md ops l ds i = lastT (rtab md ops).2 l.toList ds i := by
 unfold Region.lastB lastT
 rw [rtab_length]; congr 1
 funext d
 rw [gd, reach_eq]
theorem readyAt_mem (h : readyAt T.2 l.toList i = true) (hT : rtab md ops = T) : (Region.ready md ops l).contains i = true := by
 subst hT; rw [ready_eq]; unfold readyT
 rw [List.contains_iff_mem, List.mem_filter, List.mem_range]; refine ⟨?_, h⟩
 unfold readyAt at h
 rw [Bool.and_eq_true] at h; cases hq : (rtab md ops).2[i]? with
 | none => rw [hq] at h; simp at h
 | some r => exact (List.getElem?_eq_some_iff.1 hq).1
theorem set_of (h : (l.toList.set i true == l'.toList) = true) : (l.setIfInBounds i true == l') = true := by
 rw [beq_iff_eq] at h ⊢
 apply Array.ext'
 rw [Array.toList_setIfInBounds]; exact h
def anyT (T : Bool × List (List Nat × List Nat)) (l l' : List Bool) (i : Nat) : Bool := T.1 && freeT T.2 l i && readyAt T.2 l i && (l.set i true == l')
theorem any_of (hT : rtab md ops = T) (h : anyT T l.toList l'.toList i = true) : anyB md ops l l' i = true := by
 simp only [anyT, Bool.and_eq_true] at h
 obtain ⟨⟨⟨h1, h2⟩, h3⟩, h4⟩ := h; have h5 := readyAt_mem h3 hT; have h6 := set_of h4; subst hT; simp only [anyB, Bool.and_eq_true]
 exact ⟨⟨⟨h1, by rw [free_eq]; exact h2⟩, h5⟩, h6⟩
def takeT (T : Bool × List (List Nat × List Nat)) (ds : List Nat) (l l' : List Bool) (i : Nat) : Bool := T.1 && freeT T.2 l i && readyAt T.2 l i && closedT T.2 l && lastT T.2 l ds i && (l.set i true == l')
theorem take_of (hT : rtab md ops = T) (h : takeT T ds l.toList l'.toList i = true) : takeB md ops ds l l' i = true := by
 simp only [takeT, Bool.and_eq_true] at h
 obtain ⟨⟨⟨⟨⟨h1, h2⟩, h3⟩, h4⟩, h5⟩, h6⟩ := h; have h7 := readyAt_mem h3 hT; have h8 := set_of h6; subst hT; simp only [takeB, Bool.and_eq_true]
 exact ⟨⟨⟨⟨⟨h1, by rw [free_eq]; exact h2⟩, h7⟩, by rw [closed_eq]; exact h4⟩, by rw [last_eq]; exact h5⟩, h8⟩
theorem one_of (hT : rtab md ops = T) (h : (readyT T.2 l.toList == [i] && l.toList.set i true == l'.toList) = true) : readyB md ops l l' i = true := by
 simp only [Bool.and_eq_true] at h
 obtain ⟨h1, h2⟩ := h; subst hT; simp only [readyB, Bool.and_eq_true]
 exact ⟨by rw [ready_eq]; exact h1, set_of h2⟩
theorem done_of (hT : rtab md ops = T) (h : (readyT T.2 l.toList == []) = true) : (Region.ready md ops l == []) = true := by
 subst hT; rw [ready_eq]; exact h
def upM (B : List Nat) (d : Nat) : List Nat → Nat
 | [] => 0
 | n :: r => (2 ^ n ||| (if n < d then B.getD n 0 else 0)) ||| upM B d r
def waitsOk (T : List (List Nat × List Nat)) (B : List Nat) : Bool := (List.range T.length).all fun d => match T[d]? with
 | some r => (B.getD d 0 ||| upM B d r.1) == upM B d r.1
 | none => false
theorem upM_bit {B : List Nat} {d i : Nat} : ∀ {ns : List Nat}, (upM B d ns).testBit i = true → ∃ n ∈ ns, n = i ∨ (n < d ∧ (B.getD n 0).testBit i = true)
 | [], h => by simp [upM] at h
 | n :: r, h => by
  unfold upM at h
  rw [Nat.testBit_or, Nat.testBit_or, Bool.or_eq_true, Bool.or_eq_true] at h; rcases h with (h | h) | h
  ·rw [Nat.testBit_two_pow] at h; exact ⟨n, List.mem_cons_self, .inl (by simpa using h)⟩
  ·by_cases hn : n < d
   ·rw [if_pos hn] at h; exact ⟨n, List.mem_cons_self, .inr ⟨hn, h⟩⟩
   ·rw [if_neg hn] at h; simp at h
  ·obtain ⟨m, hm, h2⟩ := upM_bit h; exact ⟨m, List.mem_cons_of_mem _ hm, h2⟩
theorem reach_bit {T : List (List Nat × List Nat)} {B : List Nat} (hB : waitsOk T B = true) : ∀ (fuel d : Nat), d < fuel → d < T.length → (B.getD d 0).testBit i = true → reachT T i fuel d = true
 | 0, d, h, _, _ => by omega
 | fuel + 1, d, h, hd, hb => by
  have h1 := List.all_eq_true.1 hB d (List.mem_range.2 hd); cases hr : T[d]? with
  | none => rw [hr] at h1; simp at h1
  | some r =>
   rw [hr] at h1; simp only [beq_iff_eq] at h1
   have h2 : (upM B d r.1).testBit i = true := by rw [← h1, Nat.testBit_or, hb, Bool.true_or]
   obtain ⟨n, hn, h3⟩ := upM_bit h2; unfold reachT
   rw [hr]; simp only
   rw [List.any_eq_true]; refine ⟨n, hn, ?_⟩
   rcases h3 with rfl | ⟨h4, h5⟩
   ·simp
   ·rw [reach_bit hB fuel n (by omega) (by omega) h5, Bool.or_true]
def lastW (T : List (List Nat × List Nat)) (B : List Nat) (l : List Bool) (ds : List Nat) (i : Nat) : Bool := ds.all fun d => l.getD d true || (decide (d < T.length) && (B.getD d 0).testBit i)
def takeW (T : Bool × List (List Nat × List Nat)) (B : List Nat) (ds : List Nat) (l l' : List Bool) (i : Nat) : Bool := T.1 && freeT T.2 l i && readyAt T.2 l i && closedT T.2 l && lastW T.2 B l ds i && (l.set i true == l')
theorem take_ofW {B : List Nat} (hT : rtab md ops = T) (hB : waitsOk T.2 B = true) (h : takeW T B ds l.toList l'.toList i = true) : takeB md ops ds l l' i = true := by
 refine take_of hT ?_
 simp only [takeW, takeT, Bool.and_eq_true] at h ⊢
 obtain ⟨⟨⟨⟨⟨h1, h2⟩, h3⟩, h4⟩, h5⟩, h6⟩ := h; refine ⟨⟨⟨⟨⟨h1, h2⟩, h3⟩, h4⟩, ?_⟩, h6⟩
 unfold lastW at h5
 unfold lastT
 rw [List.all_eq_true] at h5 ⊢
 intro d hd
 have h7 := h5 d hd; rw [Bool.or_eq_true, Bool.and_eq_true, decide_eq_true_eq] at h7; rcases h7 with h7 | ⟨h8, h9⟩
 ·rw [h7, Bool.true_or]
 ·rw [reach_bit hB _ d h8 h8 h9, Bool.or_true]
theorem with_tabW {P : Program} {Q : Exit → Act → World → Prop} {S : World → Prop} {n : Nat} {a : Act} {w : World} {B : List Nat} (hT : rtab md ops = T) (hB : waitsOk T.2 B = true) (h : Aside0 (rtab md ops = T) → Aside0 (waitsOk T.2 B = true) → wpAnyLast P md ops Q S ds n l a w) : wpAnyLast P md ops Q S ds n l a w := h ⟨hT⟩ ⟨hB⟩
end
def opsIn : Code → Nat → Option (Array Oper)
 | .region id ops _, k => if id == k then some ops else none
 | .seq a b, k => match opsIn a k with
  | some o => some o
  | none => opsIn b k
 | .cond _ a b, k => match opsIn a k with
  | some o => some o
  | none => opsIn b k
 | .block _ c, k => opsIn c k
 | .loop c, k => opsIn c k
 | .scope c, k => opsIn c k
 | .rangeFunc _ _ a b, k => match opsIn a k with
  | some o => some o
  | none => opsIn b k
 | _, _ => none
def opsOf (f : Func) (k : Nat) : Array Oper := ((f.body.bind fun c => opsIn c k)).getD #[]
end Go.Proofs.YtplcemlennloaaaDoorW.PrintLast
end
section
-- PRINTED BY print.sh 35421559b90ae4d0a3588c463048766b98c2df88dd9212a6774a882060cdf62d: not written by this session
namespace Go.Proofs.YtplcemlennloaaaDoorW.PrintWords
theorem Reps.one {α : Type} {R : α → List Value → Prop} {ps : List α} {cs : List Value} {p : α} {v : Value} (hp : R p [v]) (h : Reps R 1 ps cs) : Reps R 1 (p :: ps) (v :: cs) := by
 refine ⟨by simp [h.1], fun j q hq => ?_⟩
 cases j with
 | zero =>
  simp only [List.getElem?_cons_zero, Option.some.injEq] at hq
  subst hq; simpa using hp
 | succ j =>
  simp only [List.getElem?_cons_succ] at hq
  have h1 := h.2 j q hq; simpa [Nat.mul_one] using h1
end Go.Proofs.YtplcemlennloaaaDoorW.PrintWords
end
section
-- PRINTED BY print.sh 35421559b90ae4d0a3588c463048766b98c2df88dd9212a6774a882060cdf62d: not written by this session
namespace Go.Proofs.YtplcemlennloaaaDoorW.PrintWords
open Go.RowKit
section
variable {P : Program} {ops : Array Oper} {rest : List Oper} {o : Oper} {a : Act} {Q : Exit → Act → World → Prop} {W : World}
theorem gate_guard (hw : Region.wanted o (yielded ops a.tmps) = true) (h : wpList P ops Q ({ o with guard := none } :: rest) a W) : wpList P ops Q (o :: rest) a W := by
 have h1 : Region.wanted { o with guard := none } (yielded ops a.tmps) = true := rfl
 unfold wpList at h ⊢
 rw [if_pos h1] at h; rw [if_pos hw]; exact h
end
end Go.Proofs.YtplcemlennloaaaDoorW.PrintWords
end
section
-- PRINTED BY print.sh 35421559b90ae4d0a3588c463048766b98c2df88dd9212a6774a882060cdf62d: not written by this session
-- PRINTED WORDS (module Derived/Print/More.lean): go-gate-2's additions: an AI agent of Go's test side, Tue Nov 17 2026; no person has read it. Lean checks it.
namespace Go.Proofs.YtplcemlennloaaaDoorW.PrintWords
open Go.RowKit
section
variable {P : Program} {ops : Array Oper} {rest : List Oper} {o : Oper} {a : Act} {Q : Exit → Act → World → Prop} {W : World}
theorem gate_callee {f : FuncId} {as_ : Array Operand} {ts : Array TypeId} (_ho : o.op = .call { callee := .value (.func f), args := as_, argTypes := ts }) (h : wpList P ops Q (o :: rest) a W) : wpList P ops Q (o :: rest) a W := h
theorem gate_builtin {b : Builtin} {xs : Array Operand} {ts : Array TypeId} (_ho : o.op = .call { callee := .builtin b, args := xs, argTypes := ts }) (h : wpList P ops Q (o :: rest) a W) : wpList P ops Q (o :: rest) a W := h
end
theorem drewN_self (w : World) (n : Nat) : w.drewN n = w.drewN n := rfl
theorem cell_grown {W w1 : World} {row : Option Nat} (hg : W.grownBy w1 row) {a : Addr} {v : Value} (h : W.cell? a = some v) (hne : some a.block ≠ row) : w1.cell? a = some v := by
 have := hg.block a.block (World.block_lt_of_cell? W a h) hne
 simpa [World.cell?, this] using h
end Go.Proofs.YtplcemlennloaaaDoorW.PrintWords
end
section
namespace Go.Proofs.YtplcemlennloaaaDoor.A
open Go.RowKit Go.Proofs.YtplcemlennloaaaDoorW.PrintWords Go.Proofs.YtplcemlennloaaaDoorW.PrintLast Go.Proofs.YtplcemlennloaaaDoorW.PrintMore
set_option linter.unusedVariables false
set_option linter.unusedSimpArgs false
def errW : Option Int → Value
 | none => .nilIface
 | some c => .iface 0 (.int .i64 c)
theorem errW_none : errW none = .nilIface := rfl
theorem errW_some (c : Int) : errW (some c) = .iface 0 (.int .i64 c) := rfl
theorem info30 : (Tryd.prog.info? 30).map (fun i => (i.zero, i.size, i.bytes)) = some (some (.agg #[(.int .i64 0), (.int .i64 0), (.string ⟨#[]⟩), (.int .i32 0)]), 4, 40) := by kernel_rfl
-- the values' own types
structure S30 where
 f0 : Int
 f1 : Int
 f2 : ByteArray
 f3 : Int
def z30 : S30 := ⟨(0 : Int), (0 : Int), (⟨#[]⟩ : ByteArray), (0 : Int)⟩
def k30 : Kd S30 := Kd.iso (Kd.pair (Kd.int .i64) (Kd.pair (Kd.int .i64) (Kd.pair Kd.string (Kd.int .i32)))) (fun x : S30 => (x.f0, x.f1, x.f2, x.f3))
theorem k30_open {w : World} {x : S30} {cs : List Value} (h : k30.K w x cs) : cs = [.int .i64 x.f0, .int .i64 x.f1, .string x.f2, .int .i32 x.f3] := by
 obtain ⟨_, _, rfl, rfl, ⟨_, _, rfl, rfl, ⟨_, _, rfl, rfl, rfl⟩⟩⟩ := h; exact rfl
theorem k30_mkM (w : World) (base : Nat) (ok : Nat → Prop) (x : S30)  : k30.M w base ok x [.int .i64 x.f0, .int .i64 x.f1, .string x.f2, .int .i32 x.f3] := ⟨[.int .i64 x.f0], [.int .i64 x.f1, .string x.f2, .int .i32 x.f3], rfl, rfl, ⟨[.int .i64 x.f1], [.string x.f2, .int .i32 x.f3], rfl, rfl, ⟨[.string x.f2], [.int .i32 x.f3], rfl, rfl, rfl⟩⟩⟩
def rd_T30 (xs : List S30) (i : Int) : S30 := xs.getD i.toNat z30
theorem at_T30 {w : World} {A : Option Addr} {n : Nat} {xs : List S30} (h : Kd.C k30 w A n xs) (i : Int) (h0 : 0 ≤ i) (h1 : i < n) : ∃ ad , A = some ad ∧ w.cell? (ad.add (i.toNat * 4)) = some (.int .i64 (rd_T30 xs i).f0) ∧ w.cell? ⟨(ad.add (i.toNat * 4)).block, (ad.add (i.toNat * 4)).off + 1, none⟩ = some (.int .i64 (rd_T30 xs i).f1) ∧ w.cell? ⟨(ad.add (i.toNat * 4)).block, (ad.add (i.toNat * 4)).off + 2, none⟩ = some (.string (rd_T30 xs i).f2) ∧ w.cell? ⟨(ad.add (i.toNat * 4)).block, (ad.add (i.toNat * 4)).off + 3, none⟩ = some (.int .i32 (rd_T30 xs i).f3) := by
 obtain ⟨ad, c, e, _, hK, hc0⟩ := Kd.C_get h z30 i h0 h1; have hc : ∀ j u, c[j]? = some u → w.cell? (ad.add (i.toNat * 4 + j)) = some u := hc0
 obtain rfl := k30_open hK; exact ⟨ad, e, hc 0 _ rfl, by rw [← add_field _ _ 1 (by omega)]; exact hc 1 _ rfl, by rw [← add_field _ _ 2 (by omega)]; exact hc 2 _ rfl, by rw [← add_field _ _ 3 (by omega)]; exact hc 3 _ rfl⟩
end Go.Proofs.YtplcemlennloaaaDoor.A
end
section
namespace Go.Proofs.YtplcemlennloaaaDoor.A
open Go.RowKit Go.Proofs.YtplcemlennloaaaDoorW.PrintWords Go.Proofs.YtplcemlennloaaaDoorW.PrintLast Go.Proofs.YtplcemlennloaaaDoorW.PrintMore
set_option linter.unusedVariables false
set_option linter.unusedSimpArgs false
mutual
def lex_skip.l0 : Nat → ByteArray → Int → Option (Int)
 | 0, _, _ => none
 | k + 1, x0, x1 => if x1 < (x0.size : Int) then (if 0 ≤ x1 then (if (bt x0 x1) = 32 then (lex_skip.j1 k x0 x1 (bt x0 x1) true) else (if (bt x0 x1) = 9 then (lex_skip.j1 k x0 x1 (bt x0 x1) true) else (if (bt x0 x1) = 10 then (lex_skip.j1 k x0 x1 (bt x0 x1) true) else (lex_skip.j1 k x0 x1 (bt x0 x1) ((bt x0 x1) == 13))))) else (none)) else (some x1)
def lex_skip.j1 : Nat → ByteArray → Int → Int → Bool → Option (Int)
 | 0, _, _, _, _ => none
 | k + 1, x0, x1, x5, x14 => if x14 = true then (lex_skip.l0 k x0 (wrap64 (x1 + 1))) else (if x5 = 35 then (lex_skip.l1 k x0 x1) else (some x1))
def lex_skip.l1 : Nat → ByteArray → Int → Option (Int)
 | 0, _, _ => none
 | k + 1, x0, x1 => if x1 < (x0.size : Int) then (if 0 ≤ x1 then (if (bt x0 x1) = 10 then (lex_skip.l0 k x0 x1) else (lex_skip.l1 k x0 (wrap64 (x1 + 1)))) else (none)) else (lex_skip.l0 k x0 x1)
end
def lex_skip.f (k : Nat) (a0 : ByteArray) (a1 : Int) : Option (Int) := lex_skip.l0 k a0 a1
theorem lex_skip.mono_l : ∀ k, (∀ y0 y1, LeO (lex_skip.l0 k y0 y1) (lex_skip.l0 (k + 1) y0 y1)) ∧ (∀ y0 y1 y2 y3, LeO (lex_skip.j1 k y0 y1 y2 y3) (lex_skip.j1 (k + 1) y0 y1 y2 y3)) ∧ (∀ y0 y1, LeO (lex_skip.l1 k y0 y1) (lex_skip.l1 (k + 1) y0 y1))
 | 0 => ⟨fun _ _ r h => by simp [lex_skip.l0] at h, fun _ _ _ _ r h => by simp [lex_skip.j1] at h, fun _ _ r h => by simp [lex_skip.l1] at h⟩
 | k + 1 => by
  obtain ⟨ih0, ih1, ih2⟩ := lex_skip.mono_l k; refine ⟨?_, ?_, ?_⟩
  ·intro y0 y1
   unfold lex_skip.l0
   repeat' first
   | (with_reducible exact ih0 _ _)
   | (with_reducible exact ih1 _ _ _ _)
   | (with_reducible exact ih2 _ _)
   | (with_reducible exact LeO.refl _)
   | (with_reducible exact LeO.none _)
   | (with_reducible refine LeO.ite ?_ ?_)
   | (with_reducible refine LeO.bind ?_ (fun _ => ?_))
  ·intro y0 y1 y2 y3
   unfold lex_skip.j1
   repeat' first
   | (with_reducible exact ih0 _ _)
   | (with_reducible exact ih1 _ _ _ _)
   | (with_reducible exact ih2 _ _)
   | (with_reducible exact LeO.refl _)
   | (with_reducible exact LeO.none _)
   | (with_reducible refine LeO.ite ?_ ?_)
   | (with_reducible refine LeO.bind ?_ (fun _ => ?_))
  ·intro y0 y1
   unfold lex_skip.l1
   repeat' first
   | (with_reducible exact ih0 _ _)
   | (with_reducible exact ih1 _ _ _ _)
   | (with_reducible exact ih2 _ _)
   | (with_reducible exact LeO.refl _)
   | (with_reducible exact LeO.none _)
   | (with_reducible refine LeO.ite ?_ ?_)
   | (with_reducible refine LeO.bind ?_ (fun _ => ?_))
theorem lex_skip.mono : ∀ a0 a1 k, LeO (lex_skip.f k a0 a1) (lex_skip.f (k + 1) a0 a1) := by
 intro a0 a1 k
 obtain ⟨ih0, ih1, ih2⟩ := lex_skip.mono_l k; unfold lex_skip.f
 repeat' first
   | (with_reducible exact ih0 _ _)
   | (with_reducible exact ih1 _ _ _ _)
   | (with_reducible exact ih2 _ _)
   | (with_reducible exact LeO.refl _)
   | (with_reducible exact LeO.none _)
   | (with_reducible refine LeO.ite ?_ ?_)
   | (with_reducible refine LeO.bind ?_ (fun _ => ?_))
set_option maxHeartbeats 8000000 in
set_option maxRecDepth 100000 in
theorem lex_skip.calls (k : Nat) (a0 : ByteArray) (a1 : Int) (r : Int) (w : World) (h : lex_skip.f k a0 a1 = some r) :
  Calls Tryd.prog 24 #[.string a0, .int .i64 a1] w fun e w' => e = .returned (.int .i64 r) ∧ Drawn0 w w' := by
 have H : (lex_skip.l0 k a0 a1) = some r := h
 clear h; have H' := Aside0.mk H
 clear H; go_enter Tryd.func24, Tryd.ntmps24
 go_wp2
 go_loopg [1] k (fun kq v1 w' => ∃ (x1_1 : Int), v1 = .int .i64 x1_1 ∧ Aside0 (lex_skip.l0 kq a0 x1_1 = some r) ∧ Aside0 (kq ≤ k) ∧ Drawn0 w w')
 case atStart => exact ⟨(a1), (by first | rfl | (simp; done) | (simp [*]; done)), H', ⟨Nat.le_refl _⟩, by repeat (first | exact Drawn0.refl _ | apply Drawn0.step)⟩
 case round =>
  clear H'; try clear c2
  try clear p2
  obtain ⟨x1_1, rfl, HA, HK1, ⟨m1, rfl⟩⟩ := hrel; cases gk with
  | zero => exact absurd HA.out (by simp [lex_skip.l0])
  | succ k1 =>
   have H := HA.out; clear HA; simp only [lex_skip.l0] at H
   by_cases c3 : x1_1 < (a0.size : Int)
   ·rw [if_pos c3] at H; have c3b0 : decide (x1_1 < (a0.size : Int)) = true := decide_eq_true c3
    clear c3; by_cases c4 : 0 ≤ x1_1
    ·rw [if_pos c4] at H; have c4b0 : decide (0 ≤ x1_1) = true := decide_eq_true c4
     clear c4; have HC6 := Aside0.mk H; clear H; have p5 : 0 ≤ (x1_1 : Int) := of_decide_eq_true (by with_reducible assumption)
     have q5 : x1_1 < (a0.size : Int) := of_decide_eq_true (by with_reducible assumption)
     have hx5 := bt_at a0 x1_1; replace p5 := eq_true p5; replace q5 := eq_true q5; go_upto_region 4 with (fail)
     go_cut [14] (fun v14 wc => ∃ (kq : Nat) (x14_5 : Bool), v14 = .bool x14_5 ∧ Aside0 (lex_skip.j1 kq a0 x1_1 (bt a0 x1_1) x14_5 = some r) ∧ Aside0 (kq ≤ k1) ∧ Drawn0 w wc)
     case first =>
      have H := HC6.out; clear HC6; by_cases c7 : (bt a0 x1_1) = 32
      ·rw [if_pos c7] at H; have c7b0 : ((bt a0 x1_1) == 32) = true := beq_iff_eq.mpr c7
       have c7b1 : ((bt a0 x1_1) != 32) = false := bne_eq_false_iff_eq.mpr c7
       clear c7; (first | rw [c7b0] | (simp only [i64_w, i32_w]; rw [c7b0]) | skip)
       have H' := Aside0.mk H
       clear H; go_wp2
       go_meet
       case rel => exact ⟨_, (true), (by first | rfl | (simp; done) | (simp [*]; done)), H', ⟨by have := HK1.out; first | omega | exact Nat.le_refl _⟩, by repeat (first | exact Drawn0.refl _ | apply Drawn0.step)⟩
      ·rw [if_neg c7] at H; have c7b0 : ((bt a0 x1_1) == 32) = false := beq_eq_false_iff_ne.mpr c7
       have c7b1 : ((bt a0 x1_1) != 32) = true := bne_iff_ne.mpr c7
       (first | rw [c7b0] | (simp only [i64_w, i32_w]; rw [c7b0]) | skip)
       by_cases c8 : (bt a0 x1_1) = 9
       ·rw [if_pos c8] at H; have c8b0 : ((bt a0 x1_1) == 9) = true := beq_iff_eq.mpr c8
        have c8b1 : ((bt a0 x1_1) != 9) = false := bne_eq_false_iff_eq.mpr c8
        clear c8; have H' := Aside0.mk H
        clear H; go_wp2
        go_meet
        case rel => exact ⟨_, (true), (by first | rfl | (simp; done) | (simp [*]; done)), H', ⟨by have := HK1.out; first | omega | exact Nat.le_refl _⟩, by repeat (first | exact Drawn0.refl _ | apply Drawn0.step)⟩
       ·rw [if_neg c8] at H; have c8b0 : ((bt a0 x1_1) == 9) = false := beq_eq_false_iff_ne.mpr c8
        have c8b1 : ((bt a0 x1_1) != 9) = true := bne_iff_ne.mpr c8
        by_cases c9 : (bt a0 x1_1) = 10
        ·rw [if_pos c9] at H; have c9b0 : ((bt a0 x1_1) == 10) = true := beq_iff_eq.mpr c9
         have c9b1 : ((bt a0 x1_1) != 10) = false := bne_eq_false_iff_eq.mpr c9
         clear c9; have H' := Aside0.mk H
         clear H; go_wp2
         go_meet
         case rel => exact ⟨_, (true), (by first | rfl | (simp; done) | (simp [*]; done)), H', ⟨by have := HK1.out; first | omega | exact Nat.le_refl _⟩, by repeat (first | exact Drawn0.refl _ | apply Drawn0.step)⟩
        ·rw [if_neg c9] at H; have c9b0 : ((bt a0 x1_1) == 10) = false := beq_eq_false_iff_ne.mpr c9
         have c9b1 : ((bt a0 x1_1) != 10) = true := bne_iff_ne.mpr c9
         have H' := Aside0.mk H
         clear H; go_wp2
         go_meet
         case rel => exact ⟨_, (((bt a0 x1_1) == 13)), (by first | rfl | (simp; done) | (simp [*]; done)), H', ⟨by have := HK1.out; first | omega | exact Nat.le_refl _⟩, by repeat (first | exact Drawn0.refl _ | apply Drawn0.step)⟩
     case rest =>
      clear HC6; try clear c2
      try clear p2
      try clear c3
      try clear c3b0
      try clear c4
      try clear c4b0
      try clear p5
      try clear q5
      try clear hx5
      try clear c7
      try clear c7b0
      try clear c7b1
      try clear c8
      try clear c8b0
      try clear c8b1
      try clear c9
      try clear c9b0
      try clear c9b1
      try clear p2
      try clear p5
      try clear q5
      obtain ⟨kq, x14_5, rfl, HA, HJ5, ⟨mc5, rfl⟩⟩ := hcut; cases kq with
      | zero => exact absurd HA.out (by simp [lex_skip.j1])
      | succ kj5 =>
       have H := HA.out; clear HA; simp only [lex_skip.j1] at H
       by_cases c10 : x14_5 = true
       ·subst c10; have H1 : (lex_skip.l0 kj5 a0 (wrap64 (x1_1 + 1))) = some r := by rw [if_pos rfl] at H; exact H
        clear H; have H := H1; clear H1; have H' := Aside0.mk H
        clear H; go_wp2
        go_roundg kj5
        case measure => have := HK1.out; have := HJ5.out; omega
        case rel => exact ⟨(wrap64 (x1_1 + 1)), (by first | rfl | (simp; done) | (simp [*]; done)), H', ⟨by have := HK1.out; have := HJ5.out; omega⟩, by repeat (first | exact Drawn0.refl _ | apply Drawn0.step)⟩
       ·replace c10 := Bool.eq_false_iff.mpr c10; subst c10; have H1 : (if (bt a0 x1_1) = 35 then (lex_skip.l1 kj5 a0 x1_1) else (some x1_1)) = some r := by rw [if_neg (show ¬ (false = true) by decide)] at H; exact H
        clear H; have H := H1; clear H1; by_cases c11 : (bt a0 x1_1) = 35
        ·rw [if_pos c11] at H; have c11b0 : ((bt a0 x1_1) == 35) = true := beq_iff_eq.mpr c11
         have c11b1 : ((bt a0 x1_1) != 35) = false := bne_eq_false_iff_eq.mpr c11
         clear c11; have H' := Aside0.mk H
         clear H; go_wp2
         go_loopg [1] kj5 (fun kq v1 w' => ∃ (x1_3 : Int), v1 = .int .i64 x1_3 ∧ Aside0 (lex_skip.l1 kq a0 x1_3 = some r) ∧ Aside0 (kq ≤ kj5) ∧ Drawn0 w w')
         case atStart => exact ⟨(x1_1), (by first | rfl | (simp; done) | (simp [*]; done)), H', ⟨Nat.le_refl _⟩, by repeat (first | exact Drawn0.refl _ | apply Drawn0.step)⟩
         case round =>
          clear H'; try clear c1
          try clear c2
          try clear p2
          try clear c3
          try clear c3b0
          try clear c4
          try clear c4b0
          try clear c5
          try clear p5
          try clear q5
          try clear hx5
          try clear p6
          try clear c7
          try clear c7b0
          try clear c7b1
          try clear c8
          try clear c8b0
          try clear c8b1
          try clear c9
          try clear c9b0
          try clear c9b1
          try clear c10
          try clear c11
          try clear c11b0
          try clear c11b1
          try clear p2
          try clear p5
          try clear q5
          obtain ⟨x1_3, rfl, HA, HK3, ⟨m3, rfl⟩⟩ := hrel; cases gk with
          | zero => exact absurd HA.out (by simp [lex_skip.l1])
          | succ k3 =>
           have H := HA.out; clear HA; simp only [lex_skip.l1] at H
           by_cases c12 : x1_3 < (a0.size : Int)
           ·rw [if_pos c12] at H; have c12b0 : decide (x1_3 < (a0.size : Int)) = true := decide_eq_true c12
            clear c12; by_cases c13 : 0 ≤ x1_3
            ·rw [if_pos c13] at H; have c13b0 : decide (0 ≤ x1_3) = true := decide_eq_true c13
             clear c13; by_cases c15 : (bt a0 x1_3) = 10
             ·rw [if_pos c15] at H; have c15b0 : ((bt a0 x1_3) == 10) = true := beq_iff_eq.mpr c15
              have c15b1 : ((bt a0 x1_3) != 10) = false := bne_eq_false_iff_eq.mpr c15
              clear c15; have H' := Aside0.mk H
              clear H; have p14 : 0 ≤ (x1_3 : Int) := of_decide_eq_true (by with_reducible assumption)
              have q14 : x1_3 < (a0.size : Int) := of_decide_eq_true (by with_reducible assumption)
              have hx14 := bt_at a0 x1_3; replace p14 := eq_true p14; replace q14 := eq_true q14; go_wp2
              go_roundg k3
              case measure => have := HK1.out; have := HJ5.out; have := HK3.out; omega
              case rel => exact ⟨(x1_3), (by first | rfl | (simp; done) | (simp [*]; done)), H', ⟨by have := HK1.out; have := HJ5.out; have := HK3.out; omega⟩, by repeat (first | exact Drawn0.refl _ | apply Drawn0.step)⟩
             ·rw [if_neg c15] at H; have c15b0 : ((bt a0 x1_3) == 10) = false := beq_eq_false_iff_ne.mpr c15
              have c15b1 : ((bt a0 x1_3) != 10) = true := bne_iff_ne.mpr c15
              have H' := Aside0.mk H
              clear H; have p14 : 0 ≤ (x1_3 : Int) := of_decide_eq_true (by with_reducible assumption)
              have q14 : x1_3 < (a0.size : Int) := of_decide_eq_true (by with_reducible assumption)
              have hx14 := bt_at a0 x1_3; replace p14 := eq_true p14; replace q14 := eq_true q14; go_wp2
              go_roundg k3
              case measure => have := HK1.out; have := HJ5.out; have := HK3.out; omega
              case rel => exact ⟨(wrap64 (x1_3 + 1)), (by first | rfl | (simp; done) | (simp [*]; done)), H', ⟨by have := HK1.out; have := HJ5.out; have := HK3.out; omega⟩, by repeat (first | exact Drawn0.refl _ | apply Drawn0.step)⟩
            ·rw [if_neg c13] at H; exact absurd H (by simp)
           ·rw [if_neg c12] at H; have c12b0 : decide (x1_3 < (a0.size : Int)) = false := decide_eq_false c12
            clear c12; have H' := Aside0.mk H
            clear H; go_wp2
            go_roundg k3
            case measure => have := HK1.out; have := HJ5.out; have := HK3.out; omega
            case rel => exact ⟨(x1_3), (by first | rfl | (simp; done) | (simp [*]; done)), H', ⟨by have := HK1.out; have := HJ5.out; have := HK3.out; omega⟩, by repeat (first | exact Drawn0.refl _ | apply Drawn0.step)⟩
        ·rw [if_neg c11] at H; have c11b0 : ((bt a0 x1_1) == 35) = false := beq_eq_false_iff_ne.mpr c11
         have c11b1 : ((bt a0 x1_1) != 35) = true := bne_iff_ne.mpr c11
         obtain rfl := Option.some.inj H; go_wp2
         go_ret
         exact ⟨by first | rfl | (simp; done) | (simp [*]; done), by repeat (first | exact Drawn0.refl _ | apply Drawn0.step)⟩
    ·rw [if_neg c4] at H; exact absurd H (by simp)
   ·rw [if_neg c3] at H; have c3b0 : decide (x1_1 < (a0.size : Int)) = false := decide_eq_false c3
    clear c3; obtain rfl := Option.some.inj H; go_wp2
    go_ret
    exact ⟨by first | rfl | (simp; done) | (simp [*]; done), by repeat (first | exact Drawn0.refl _ | apply Drawn0.step)⟩
def lex_integer.l0 : Nat → ByteArray → Int → Int → Int → Option (Int × Bool)
 | 0, _, _, _, _ => none
 | k + 1, x0, x4, x7, x8 => if x8 < x7 then (if 0 ≤ x8 then (if x8 < (x0.size : Int) then (if (wrap64 ((wrap64 (10 * x4)) + (((bt x0 x8) - 48) % 256))) > 2147483648 then (some (0, false)) else (lex_integer.l0 k x0 (wrap64 ((wrap64 (10 * x4)) + (((bt x0 x8) - 48) % 256))) x7 (wrap64 (x8 + 1)))) else (none)) else (none)) else (some (wrap32 ((x4) % 4294967296), true))
def lex_integer.f (k : Nat) (a0 : ByteArray) : Option (Int × Bool) := lex_integer.l0 k a0 0 (a0.size : Int) 0
theorem lex_integer.mono_l : ∀ k, (∀ y0 y1 y2 y3, LeO (lex_integer.l0 k y0 y1 y2 y3) (lex_integer.l0 (k + 1) y0 y1 y2 y3))
 | 0 => fun _ _ _ _ r h => by simp [lex_integer.l0] at h
 | k + 1 => by
  have ih0 := lex_integer.mono_l k
  ·intro y0 y1 y2 y3
   unfold lex_integer.l0
   repeat' first
   | (with_reducible exact ih0 _ _ _ _)
   | (with_reducible exact LeO.refl _)
   | (with_reducible exact LeO.none _)
   | (with_reducible refine LeO.ite ?_ ?_)
   | (with_reducible refine LeO.bind ?_ (fun _ => ?_))
theorem lex_integer.mono : ∀ a0 k, LeO (lex_integer.f k a0) (lex_integer.f (k + 1) a0) := by
 intro a0 k
 have ih0 := lex_integer.mono_l k; unfold lex_integer.f
 repeat' first
   | (with_reducible exact ih0 _ _ _ _)
   | (with_reducible exact LeO.refl _)
   | (with_reducible exact LeO.none _)
   | (with_reducible refine LeO.ite ?_ ?_)
   | (with_reducible refine LeO.bind ?_ (fun _ => ?_))
set_option maxHeartbeats 8000000 in
set_option maxRecDepth 100000 in
theorem lex_integer.calls (k : Nat) (a0 : ByteArray) (r1 : Int) (r2 : Bool) (w : World) (h : lex_integer.f k a0 = some (r1, r2)) :
  Calls Tryd.prog 39 #[.string a0] w fun e w' => e = .returned (.tuple #[.int .i32 r1, .bool r2]) ∧ Drawn0 w w' := by
 have H : (lex_integer.l0 k a0 0 (a0.size : Int) 0) = some (r1, r2) := h
 clear h; have H' := Aside0.mk H
 clear H; go_enter Tryd.func39, Tryd.ntmps39
 go_wp2
 go_loopg [4, 8] k (fun kq v4 v8 w' => ∃ (x4_1 : Int) (x8_1 : Int), v4 = .int .i64 x4_1 ∧ v8 = .int .i64 x8_1 ∧ Aside0 (lex_integer.l0 kq a0 x4_1 (a0.size : Int) x8_1 = some (r1, r2)) ∧ Aside0 (kq ≤ k) ∧ Drawn0 w w')
 case atStart => exact ⟨(0), (0), (by first | rfl | (simp; done) | (simp [*]; done)), (by first | rfl | (simp; done) | (simp [*]; done)), H', ⟨Nat.le_refl _⟩, by repeat (first | exact Drawn0.refl _ | apply Drawn0.step)⟩
 case round =>
  clear H'; obtain ⟨x4_1, x8_1, rfl, rfl, HA, HK1, ⟨m1, rfl⟩⟩ := hrel; cases gk with
  | zero => exact absurd HA.out (by simp [lex_integer.l0])
  | succ k1 =>
   have H := HA.out; clear HA; simp only [lex_integer.l0] at H
   by_cases c2 : x8_1 < (a0.size : Int)
   ·rw [if_pos c2] at H; have c2b0 : decide (x8_1 < (a0.size : Int)) = true := decide_eq_true c2
    clear c2; by_cases c3 : 0 ≤ x8_1
    ·rw [if_pos c3] at H; have c3b0 : decide (0 ≤ x8_1) = true := decide_eq_true c3
     clear c3; by_cases c4 : x8_1 < (a0.size : Int)
     ·rw [if_pos c4] at H; have c4b0 : decide (x8_1 < (a0.size : Int)) = true := decide_eq_true c4
      clear c4; by_cases c6 : (wrap64 ((wrap64 (10 * x4_1)) + (((bt a0 x8_1) - 48) % 256))) > 2147483648
      ·rw [if_pos c6] at H; have c6b0 : decide (2147483648 < (wrap64 ((wrap64 (10 * x4_1)) + (((bt a0 x8_1) - 48) % 256)))) = true := decide_eq_true c6
       clear c6; simp only [Option.some.injEq, Prod.mk.injEq] at H
       obtain ⟨rfl, rfl⟩ := H; have p5 : 0 ≤ (x8_1 : Int) := of_decide_eq_true (by with_reducible assumption)
       have q5 : x8_1 < (a0.size : Int) := of_decide_eq_true (by with_reducible assumption)
       have hx5 := bt_at a0 x8_1; replace p5 := eq_true p5; replace q5 := eq_true q5; go_wp2
       go_ret2
       exact ⟨by first | rfl | (simp; done) | (simp [*]; done), by repeat (first | exact Drawn0.refl _ | apply Drawn0.step)⟩
      ·rw [if_neg c6] at H; have c6b0 : decide (2147483648 < (wrap64 ((wrap64 (10 * x4_1)) + (((bt a0 x8_1) - 48) % 256)))) = false := decide_eq_false c6
       clear c6; have H' := Aside0.mk H
       clear H; have p5 : 0 ≤ (x8_1 : Int) := of_decide_eq_true (by with_reducible assumption)
       have q5 : x8_1 < (a0.size : Int) := of_decide_eq_true (by with_reducible assumption)
       have hx5 := bt_at a0 x8_1; replace p5 := eq_true p5; replace q5 := eq_true q5; go_wp2
       go_roundg k1
       case measure => have := HK1.out; omega
       case rel => exact ⟨(wrap64 ((wrap64 (10 * x4_1)) + (((bt a0 x8_1) - 48) % 256))), (wrap64 (x8_1 + 1)), (by first | rfl | (simp; done) | (simp [*]; done)), (by first | rfl | (simp; done) | (simp [*]; done)), H', ⟨by have := HK1.out; omega⟩, by repeat (first | exact Drawn0.refl _ | apply Drawn0.step)⟩
     ·rw [if_neg c4] at H; exact absurd H (by simp)
    ·rw [if_neg c3] at H; exact absurd H (by simp)
   ·rw [if_neg c2] at H; have c2b0 : decide (x8_1 < (a0.size : Int)) = false := decide_eq_false c2
    clear c2; simp only [Option.some.injEq, Prod.mk.injEq] at H
    obtain ⟨rfl, rfl⟩ := H; go_wp2
    go_ret2
    exact ⟨by first | rfl | (simp; done) | (simp [*]; done), by repeat (first | exact Drawn0.refl _ | apply Drawn0.step)⟩
def lex_letter.f (a0 : Int) : Option (Bool) := if a0 ≥ 97 then (if a0 ≤ 122 then (some true) else (if a0 ≥ 65 then (some (decide (a0 ≤ 90))) else (some false))) else (if a0 ≥ 65 then (some (decide (a0 ≤ 90))) else (some false))
set_option maxHeartbeats 8000000 in
set_option maxRecDepth 100000 in
theorem lex_letter.calls (a0 : Int) (r : Bool) (w : World) (h : lex_letter.f a0 = some r) :
  Calls Tryd.prog 28 #[.int .u8 a0] w fun e w' => e = .returned (.bool r) ∧ Drawn0 w w' := by
 have H : (if a0 ≥ 97 then (if a0 ≤ 122 then (some true) else (if a0 ≥ 65 then (some (decide (a0 ≤ 90))) else (some false))) else (if a0 ≥ 65 then (some (decide (a0 ≤ 90))) else (some false))) = some r := h
 clear h; by_cases c2 : a0 ≥ 97
 ·rw [if_pos c2] at H; have c2b0 : decide (97 ≤ a0) = true := decide_eq_true c2
  clear c2; by_cases c3 : a0 ≤ 122
  ·rw [if_pos c3] at H; have c3b0 : decide (a0 ≤ 122) = true := decide_eq_true c3
   clear c3; obtain rfl := Option.some.inj H; go_enter Tryd.func28, Tryd.ntmps28
   go_wp2
   go_ret
   exact ⟨by first | rfl | (simp; done) | (simp [*]; done), by repeat (first | exact Drawn0.refl _ | apply Drawn0.step)⟩
  ·rw [if_neg c3] at H; have c3b0 : decide (a0 ≤ 122) = false := decide_eq_false c3
   clear c3; by_cases c4 : a0 ≥ 65
   ·rw [if_pos c4] at H; have c4b0 : decide (65 ≤ a0) = true := decide_eq_true c4
    clear c4; obtain rfl := Option.some.inj H; go_enter Tryd.func28, Tryd.ntmps28
    go_wp2
    go_ret
    exact ⟨by first | rfl | (simp; done) | (simp [*]; done), by repeat (first | exact Drawn0.refl _ | apply Drawn0.step)⟩
   ·rw [if_neg c4] at H; have c4b0 : decide (65 ≤ a0) = false := decide_eq_false c4
    clear c4; obtain rfl := Option.some.inj H; go_enter Tryd.func28, Tryd.ntmps28
    go_wp2
    go_ret
    exact ⟨by first | rfl | (simp; done) | (simp [*]; done), by repeat (first | exact Drawn0.refl _ | apply Drawn0.step)⟩
 ·rw [if_neg c2] at H; have c2b0 : decide (97 ≤ a0) = false := decide_eq_false c2
  clear c2; by_cases c5 : a0 ≥ 65
  ·rw [if_pos c5] at H; have c5b0 : decide (65 ≤ a0) = true := decide_eq_true c5
   clear c5; obtain rfl := Option.some.inj H; go_enter Tryd.func28, Tryd.ntmps28
   go_wp2
   go_ret
   exact ⟨by first | rfl | (simp; done) | (simp [*]; done), by repeat (first | exact Drawn0.refl _ | apply Drawn0.step)⟩
  ·rw [if_neg c5] at H; have c5b0 : decide (65 ≤ a0) = false := decide_eq_false c5
   clear c5; obtain rfl := Option.some.inj H; go_enter Tryd.func28, Tryd.ntmps28
   go_wp2
   go_ret
   exact ⟨by first | rfl | (simp; done) | (simp [*]; done), by repeat (first | exact Drawn0.refl _ | apply Drawn0.step)⟩
def lex_digit.f (a0 : Int) : Option (Bool) := if a0 ≥ 48 then (some (decide (a0 ≤ 57))) else (some false)
set_option maxHeartbeats 8000000 in
set_option maxRecDepth 100000 in
theorem lex_digit.calls (a0 : Int) (r : Bool) (w : World) (h : lex_digit.f a0 = some r) :
  Calls Tryd.prog 38 #[.int .u8 a0] w fun e w' => e = .returned (.bool r) ∧ Drawn0 w w' := by
 have H : (if a0 ≥ 48 then (some (decide (a0 ≤ 57))) else (some false)) = some r := h
 clear h; by_cases c2 : a0 ≥ 48
 ·rw [if_pos c2] at H; have c2b0 : decide (48 ≤ a0) = true := decide_eq_true c2
  clear c2; obtain rfl := Option.some.inj H; go_enter Tryd.func38, Tryd.ntmps38
  go_wp2
  go_ret
  exact ⟨by first | rfl | (simp; done) | (simp [*]; done), by repeat (first | exact Drawn0.refl _ | apply Drawn0.step)⟩
 ·rw [if_neg c2] at H; have c2b0 : decide (48 ≤ a0) = false := decide_eq_false c2
  clear c2; obtain rfl := Option.some.inj H; go_enter Tryd.func38, Tryd.ntmps38
  go_wp2
  go_ret
  exact ⟨by first | rfl | (simp; done) | (simp [*]; done), by repeat (first | exact Drawn0.refl _ | apply Drawn0.step)⟩
def lex_inner.f (a0 : Int) : Option (Bool) := (lex_letter.f a0).bind fun t101 => (if t101 = true then (some true) else ((lex_digit.f a0).bind fun t102 => (if t102 = true then (some true) else (some (a0 == 95)))))
set_option maxHeartbeats 8000000 in
set_option maxRecDepth 100000 in
theorem lex_inner.calls (a0 : Int) (r : Bool) (w : World) (h : lex_inner.f a0 = some r) :
  Calls Tryd.prog 29 #[.int .u8 a0] w fun e w' => e = .returned (.bool r) ∧ Drawn0 w w' := by
 have H : ((lex_letter.f a0).bind fun t101 => (if t101 = true then (some true) else ((lex_digit.f a0).bind fun t102 => (if t102 = true then (some true) else (some (a0 == 95)))))) = some r := h
 clear h; replace H := Option.bind_eq_some_iff.mp H; obtain ⟨t101, A20, H⟩ := H; replace H : (if t101 = true then (some true) else ((lex_digit.f a0).bind fun t102 => (if t102 = true then (some true) else (some (a0 == 95))))) = some r := H
 have A2 := Aside0.mk A20; clear A20; by_cases c3 : t101 = true
 ·subst c3; have H1 : (some true) = some r := by rw [if_pos rfl] at H; exact H
  clear H; have H := H1; clear H1; obtain rfl := Option.some.inj H; go_enter Tryd.func29, Tryd.ntmps29
  go_wp2_with (first | ((with_reducible refine gate_callee (f := 28) rfl ?_); refine goesL_ (some 4) rfl rfl Tryd.func28 (by kernel_rfl) rfl #[.int .u8 a0] rfl (by (try simp only [List.map_toArray, List.map_cons, List.map_nil]); first | done | rfl | (simp only [List.length_drop, List.length_take]; rfl)) ?_; (with_reducible refine (lex_letter.calls a0 true _ A2.out).mono ?_); rintro e w' ⟨rfl, ⟨nd, rfl⟩⟩; refine ⟨_, rfl, ?_⟩))
  go_ret
  exact ⟨by first | rfl | (simp; done) | (simp [*]; done), by repeat (first | exact Drawn0.refl _ | apply Drawn0.step)⟩
 ·replace c3 := Bool.eq_false_iff.mpr c3; subst c3; have H1 : ((lex_digit.f a0).bind fun t102 => (if t102 = true then (some true) else (some (a0 == 95)))) = some r := by rw [if_neg (show ¬ (false = true) by decide)] at H; exact H
  clear H; have H := H1; clear H1; replace H := Option.bind_eq_some_iff.mp H; obtain ⟨t102, A40, H⟩ := H; replace H : (if t102 = true then (some true) else (some (a0 == 95))) = some r := H
  have A4 := Aside0.mk A40; clear A40; by_cases c5 : t102 = true
  ·subst c5; have H1 : (some true) = some r := by rw [if_pos rfl] at H; exact H
   clear H; have H := H1; clear H1; obtain rfl := Option.some.inj H; go_enter Tryd.func29, Tryd.ntmps29
   go_wp2_with (first | ((with_reducible refine gate_callee (f := 28) rfl ?_); refine goesL_ (some 4) rfl rfl Tryd.func28 (by kernel_rfl) rfl #[.int .u8 a0] rfl (by (try simp only [List.map_toArray, List.map_cons, List.map_nil]); first | done | rfl | (simp only [List.length_drop, List.length_take]; rfl)) ?_; (with_reducible refine (lex_letter.calls a0 false _ A2.out).mono ?_); rintro e w' ⟨rfl, ⟨nd, rfl⟩⟩; refine ⟨_, rfl, ?_⟩) | (go_at_call 38; (with_reducible refine (lex_digit.calls a0 true _ A4.out).mono ?_); rintro e w' ⟨rfl, ⟨nd, rfl⟩⟩))
   go_ret
   exact ⟨by first | rfl | (simp; done) | (simp [*]; done), by repeat (first | exact Drawn0.refl _ | apply Drawn0.step)⟩
  ·replace c5 := Bool.eq_false_iff.mpr c5; subst c5; have H1 : (some (a0 == 95)) = some r := by rw [if_neg (show ¬ (false = true) by decide)] at H; exact H
   clear H; have H := H1; clear H1; obtain rfl := Option.some.inj H; go_enter Tryd.func29, Tryd.ntmps29
   go_wp2_with (first | ((with_reducible refine gate_callee (f := 28) rfl ?_); refine goesL_ (some 4) rfl rfl Tryd.func28 (by kernel_rfl) rfl #[.int .u8 a0] rfl (by (try simp only [List.map_toArray, List.map_cons, List.map_nil]); first | done | rfl | (simp only [List.length_drop, List.length_take]; rfl)) ?_; (with_reducible refine (lex_letter.calls a0 false _ A2.out).mono ?_); rintro e w' ⟨rfl, ⟨nd, rfl⟩⟩; refine ⟨_, rfl, ?_⟩) | (go_at_call 38; (with_reducible refine (lex_digit.calls a0 false _ A4.out).mono ?_); rintro e w' ⟨rfl, ⟨nd, rfl⟩⟩))
   go_ret
   exact ⟨by first | rfl | (simp; done) | (simp [*]; done), by repeat (first | exact Drawn0.refl _ | apply Drawn0.step)⟩
def r2_Blank.f (a0 : Int) : Option (Bool) := if a0 = 32 then (some true) else (if a0 = 9 then (some true) else (if a0 = 10 then (some true) else (some (a0 == 13))))
def r2_letter.f (a0 : Int) : Option (Bool) := if a0 ≥ 97 then (if a0 ≤ 122 then (some true) else (if a0 ≥ 65 then (some (decide (a0 ≤ 90))) else (some false))) else (if a0 ≥ 65 then (some (decide (a0 ≤ 90))) else (some false))
def r2_digit.f (a0 : Int) : Option (Bool) := if a0 ≥ 48 then (some (decide (a0 ≤ 57))) else (some false)
def r2_Inner.f (a0 : Int) : Option (Bool) := (r2_letter.f a0).bind fun t103 => (if t103 = true then (some true) else ((r2_digit.f a0).bind fun t104 => (if t104 = true then (some true) else (some (a0 == 95)))))
def r2_In.l0 : Nat → ByteArray → List ByteArray → Int → Option (Bool)
 | 0, _, _, _ => none
 | k + 1, x0, x1, x5 => if x5 < (x1.length : Int) then (if 0 ≤ x5 then (if (rdOf ByteArray.empty x1 x5).toList = x0.toList then (some true) else (r2_In.l0 k x0 x1 (wrap64 (x5 + 1)))) else (none)) else (some false)
def r2_In.f (k : Nat) (a0 : ByteArray) (l1 : List ByteArray) : Option (Bool) := r2_In.l0 k a0 l1 0
end Go.Proofs.YtplcemlennloaaaDoor.A
end
section
namespace Go.Proofs.YtplcemlennloaaaDoor.A
open Go.RowKit Go.Proofs.YtplcemlennloaaaDoorW.PrintWords Go.Proofs.YtplcemlennloaaaDoorW.PrintLast Go.Proofs.YtplcemlennloaaaDoorW.PrintMore
set_option linter.unusedVariables false
set_option linter.unusedSimpArgs false
def r2_Signs.f  : Option (List ByteArray) := some (([(⟨#[62, 62, 62]⟩ : ByteArray), (⟨#[60, 60]⟩ : ByteArray), (⟨#[62, 62]⟩ : ByteArray), (⟨#[60, 61]⟩ : ByteArray), (⟨#[62, 61]⟩ : ByteArray), (⟨#[61, 61]⟩ : ByteArray), (⟨#[33, 61]⟩ : ByteArray), (⟨#[60, 58]⟩ : ByteArray), (⟨#[38, 38]⟩ : ByteArray), (⟨#[124, 124]⟩ : ByteArray), (⟨#[40]⟩ : ByteArray), (⟨#[41]⟩ : ByteArray), (⟨#[123]⟩ : ByteArray), (⟨#[125]⟩ : ByteArray), (⟨#[91]⟩ : ByteArray), (⟨#[93]⟩ : ByteArray), (⟨#[44]⟩ : ByteArray), (⟨#[59]⟩ : ByteArray), (⟨#[61]⟩ : ByteArray), (⟨#[43]⟩ : ByteArray), (⟨#[45]⟩ : ByteArray), (⟨#[42]⟩ : ByteArray), (⟨#[47]⟩ : ByteArray), (⟨#[37]⟩ : ByteArray), (⟨#[38]⟩ : ByteArray), (⟨#[124]⟩ : ByteArray), (⟨#[94]⟩ : ByteArray), (⟨#[126]⟩ : ByteArray), (⟨#[33]⟩ : ByteArray), (⟨#[60]⟩ : ByteArray), (⟨#[62]⟩ : ByteArray)] : List ByteArray))
def r2_Words.f  : Option (List ByteArray) := some (([(⟨#[102, 117, 110, 99]⟩ : ByteArray), (⟨#[107, 101, 114, 110, 101, 108]⟩ : ByteArray), (⟨#[98, 117, 102, 102, 101, 114]⟩ : ByteArray), (⟨#[105, 110, 116]⟩ : ByteArray), (⟨#[115, 104, 97, 114, 101, 100]⟩ : ByteArray), (⟨#[108, 101, 116]⟩ : ByteArray), (⟨#[105, 102]⟩ : ByteArray), (⟨#[101, 108, 115, 101]⟩ : ByteArray), (⟨#[119, 104, 105, 108, 101]⟩ : ByteArray), (⟨#[98, 114, 101, 97, 107]⟩ : ByteArray), (⟨#[99, 111, 110, 116, 105, 110, 117, 101]⟩ : ByteArray), (⟨#[114, 101, 116, 117, 114, 110]⟩ : ByteArray), (⟨#[98, 97, 114, 114, 105, 101, 114]⟩ : ByteArray), (⟨#[97, 116, 111, 109, 105, 99]⟩ : ByteArray), (⟨#[99, 111, 108, 108, 101, 99, 116]⟩ : ByteArray), (⟨#[116, 105, 100]⟩ : ByteArray), (⟨#[98, 105, 100]⟩ : ByteArray), (⟨#[100, 105, 109]⟩ : ByteArray), (⟨#[103, 114, 105, 100]⟩ : ByteArray), (⟨#[109, 105, 110]⟩ : ByteArray), (⟨#[109, 97, 120]⟩ : ByteArray), (⟨#[97, 100, 100]⟩ : ByteArray), (⟨#[97, 110, 100]⟩ : ByteArray), (⟨#[111, 114]⟩ : ByteArray), (⟨#[120, 111, 114]⟩ : ByteArray)] : List ByteArray))
def r2_end.l0 : Nat → ByteArray → Int → Bool → Option (Int)
 | 0, _, _, _ => none
 | k + 1, x0, x1, x2 => if x1 < (x0.size : Int) then (if 0 ≤ x1 then ((r2_digit.f (bt x0 x1)).bind fun t112 => (if t112 = true then (r2_end.l0 k x0 (wrap64 (x1 + 1)) x2) else (if x2 = true then (some x1) else ((r2_Inner.f (bt x0 x1)).bind fun t113 => (if t113 = true then (r2_end.l0 k x0 (wrap64 (x1 + 1)) x2) else (some x1)))))) else (none)) else (some x1)
def r2_end.f (k : Nat) (a0 : ByteArray) (a1 : Int) (a2 : Bool) : Option (Int) := r2_end.l0 k a0 a1 a2
def r2_Value.l0 : Nat → ByteArray → Int → Int → Option (Int × Bool)
 | 0, _, _, _ => none
 | k + 1, x0, x4, x5 => if x5 < (x0.size : Int) then (if 0 ≤ x5 then (if (wrap64 ((wrap64 (10 * x4)) + (((bt x0 x5) - 48) % 256))) > 2147483648 then (some (0, false)) else (r2_Value.l0 k x0 (wrap64 ((wrap64 (10 * x4)) + (((bt x0 x5) - 48) % 256))) (wrap64 (x5 + 1)))) else (none)) else (some (x4, true))
def r2_Value.f (k : Nat) (a0 : ByteArray) : Option (Int × Bool) := r2_Value.l0 k a0 0 0
def r2_starts.f (a0 : ByteArray) (a1 : Int) (a2 : ByteArray) : Option (Bool) := if (wrap64 (a1 + (a2.size : Int))) ≤ (a0.size : Int) then (if 0 ≤ a1 then (if a1 ≤ (wrap64 (a1 + (a2.size : Int))) then (some ((a0.extract (a1 : Int).toNat ((wrap64 (a1 + (a2.size : Int))) : Int).toNat).toList == a2.toList)) else (none)) else (none)) else (some false)
end Go.Proofs.YtplcemlennloaaaDoor.A
end
section
namespace Go.Proofs.YtplcemlennloaaaDoor.A
open Go.RowKit Go.Proofs.YtplcemlennloaaaDoorW.PrintWords Go.Proofs.YtplcemlennloaaaDoorW.PrintLast Go.Proofs.YtplcemlennloaaaDoorW.PrintMore
set_option linter.unusedVariables false
set_option linter.unusedSimpArgs false
def r2_one.l0 : Nat → ByteArray → Int → List ByteArray → Int → Option (Int × Int × ByteArray × Int × Bool)
 | 0, _, _, _, _ => none
 | k + 1, x0, x1, x11, x12 => if x12 < (x11.length : Int) then (if 0 ≤ x12 then ((r2_starts.f x0 x1 (rdOf ByteArray.empty x11 x12)).bind fun t130 => (if t130 = true then (some (2, x1, rdOf ByteArray.empty x11 x12, 0, true)) else (r2_one.l0 k x0 x1 x11 (wrap64 (x12 + 1))))) else (none)) else (some (0, 0, (⟨#[]⟩ : ByteArray), 0, false))
def r2_one.f (k : Nat) (a0 : ByteArray) (a1 : Int) : Option (Int × Int × ByteArray × Int × Bool) := if 0 ≤ a1 then (if a1 < (a0.size : Int) then ((r2_letter.f (bt a0 a1)).bind fun t115 => (if t115 = true then ((r2_end.f k a0 a1 false).bind fun t116 => (if a1 ≤ t116 then (if t116 ≤ (a0.size : Int) then ((r2_Words.f).bind fun t117 => ((r2_In.f k (a0.extract (a1 : Int).toNat (t116 : Int).toNat) t117).bind fun t120 => (if t120 = true then (some (2, a1, a0.extract (a1 : Int).toNat (t116 : Int).toNat, 0, true)) else (some (0, a1, a0.extract (a1 : Int).toNat (t116 : Int).toNat, 0, decide (((a0.extract (a1 : Int).toNat (t116 : Int).toNat).size : Int) ≤ 16)))))) else (none)) else (none))) else ((r2_digit.f (bt a0 a1)).bind fun t121 => (if t121 = true then ((r2_end.f k a0 a1 true).bind fun t122 => (if a1 ≤ t122 then (if t122 ≤ (a0.size : Int) then ((r2_Value.f k (a0.extract (a1 : Int).toNat (t122 : Int).toNat)).bind fun bt123 => (if bt123.2 = true then (if t122 = (a0.size : Int) then (some (1, a1, a0.extract (a1 : Int).toNat (t122 : Int).toNat, wrap32 (bt123.1), true)) else (if 0 ≤ t122 then (if t122 < (a0.size : Int) then ((r2_Inner.f (bt a0 t122)).bind fun t125 => (some (1, a1, a0.extract (a1 : Int).toNat (t122 : Int).toNat, wrap32 (bt123.1), !t125))) else (none)) else (none))) else (some (1, a1, a0.extract (a1 : Int).toNat (t122 : Int).toNat, wrap32 (bt123.1), false)))) else (none)) else (none))) else ((r2_Signs.f).bind fun t126 => (r2_one.l0 k a0 a1 t126 0)))))) else (none)) else (none)
end Go.Proofs.YtplcemlennloaaaDoor.A
end
section
namespace Go.Proofs.YtplcemlennloaaaDoor.A
open Go.RowKit Go.Proofs.YtplcemlennloaaaDoorW.PrintWords Go.Proofs.YtplcemlennloaaaDoorW.PrintLast Go.Proofs.YtplcemlennloaaaDoorW.PrintMore
set_option linter.unusedVariables false
set_option linter.unusedSimpArgs false
mutual
def r2_Tokens.l0 : Nat → ByteArray → List (S30) → Int → Option ((List (S30)) × Int × Int)
 | 0, _, _, _ => none
 | k + 1, x0, x5, x6 => if x6 < (x0.size : Int) then (if 0 ≤ x6 then (if (bt x0 x6) = 35 then (r2_Tokens.l1 k x0 x5 x6) else ((r2_Blank.f (bt x0 x6)).bind fun t132 => (if t132 = true then (r2_Tokens.l0 k x0 x5 (wrap64 (x6 + 1))) else ((r2_one.f k x0 x6).bind fun bt133 => (if bt133.2.2.2.2 = true then (if x5.length < 3518437208883 then (r2_Tokens.l0 k x0 (x5 ++ [(⟨bt133.1, bt133.2.1, bt133.2.2.1, bt133.2.2.2.1⟩ : S30)]) (wrap64 (x6 + (bt133.2.2.1.size : Int)))) else (none)) else (some (([] : List (S30)), x6, 2))))))) else (none)) else (some (x5, 0, 0))
def r2_Tokens.l1 : Nat → ByteArray → List (S30) → Int → Option ((List (S30)) × Int × Int)
 | 0, _, _, _ => none
 | k + 1, x0, x5, x6 => if x6 < (x0.size : Int) then (if 0 ≤ x6 then (if (bt x0 x6) = 10 then (r2_Tokens.l0 k x0 x5 x6) else (r2_Tokens.l1 k x0 x5 (wrap64 (x6 + 1)))) else (none)) else (r2_Tokens.l0 k x0 x5 x6)
end
def r2_Tokens.f (k : Nat) (a0 : ByteArray) : Option ((List (S30)) × Int × Int) := if (a0.size : Int) > 4000 then (some (([] : List (S30)), 0, 5)) else (r2_Tokens.l0 k a0 ([] : List (S30)) 0)
def r2_Same.l0 : Nat → List (S30) → List (S30) → Bool → Int → Option (Bool)
 | 0, _, _, _, _ => none
 | k + 1, x0, x1, x2, x7 => if x7 < (x0.length : Int) then (if 0 ≤ x7 then (if x7 < (x1.length : Int) then (if ((rd_T30 x0 x7).f0) = ((rd_T30 x1 x7).f0) then (if ((rd_T30 x0 x7).f2).toList = ((rd_T30 x1 x7).f2).toList then (if ((rd_T30 x0 x7).f3) = ((rd_T30 x1 x7).f3) then (if x2 = true then (if ((rd_T30 x0 x7).f1) = ((rd_T30 x1 x7).f1) then (r2_Same.l0 k x0 x1 x2 (wrap64 (x7 + 1))) else (some false)) else (r2_Same.l0 k x0 x1 x2 (wrap64 (x7 + 1)))) else (some false)) else (some false)) else (some false)) else (none)) else (none)) else (some true)
def r2_Same.f (k : Nat) (l0 : List (S30)) (l1 : List (S30)) (a2 : Bool) : Option (Bool) := if (l0.length : Int) = (l1.length : Int) then (r2_Same.l0 k l0 l1 a2 0) else (some false)
set_option maxHeartbeats 8000000 in
set_option maxRecDepth 100000 in
theorem r2_Same.calls (k : Nat) (A0 : Option Addr) (c0 : Nat) (l0 : List (S30)) (A1 : Option Addr) (c1 : Nat) (l1 : List (S30)) (a2 : Bool) (r : Bool) (w : World) (hr0 : Kd.C k30 w A0 l0.length l0) (hc0 : l0.length ≤ c0) (hr1 : Kd.C k30 w A1 l1.length l1) (hc1 : l1.length ≤ c1) (h : r2_Same.f k l0 l1 a2 = some r) :
  Calls Tryd.prog 13 #[.slice A0 l0.length c0, .slice A1 l1.length c1, .bool a2] w fun e w' => e = .returned (.bool r) ∧ Drawn0 w w' := by
 have HR0 := Aside0.mk hr0; have HC0 := Aside0.mk hc0; clear hr0 hc0; have HR1 := Aside0.mk hr1; have HC1 := Aside0.mk hc1; clear hr1 hc1; have H : (if (l0.length : Int) = (l1.length : Int) then (r2_Same.l0 k l0 l1 a2 0) else (some false)) = some r := h
 clear h; by_cases c4 : (l0.length : Int) = (l1.length : Int)
 ·rw [if_pos c4] at H; have c4b0 : ((l0.length : Int) == (l1.length : Int)) = true := beq_iff_eq.mpr c4
  have c4b1 : ((l0.length : Int) != (l1.length : Int)) = false := bne_eq_false_iff_eq.mpr c4
  have c4b2 : (l0.length == l1.length) = true := by first | simpa using c4 | (simp at c4 ⊢; omega)
  clear c4; have H' := Aside0.mk H
  clear H; go_enter Tryd.func13, Tryd.ntmps13
  go_wp2
  repeat (go_quiet (fail); try go_wp2)
  go_loopg [7] k (fun kq v7 w' => ∃ (x7_1 : Int), v7 = .int .i64 x7_1 ∧ Aside0 (r2_Same.l0 kq l0 l1 a2 x7_1 = some r) ∧ Aside0 (kq ≤ k) ∧ Drawn0 w w')
  case atStart => exact ⟨(0), (by first | rfl | (simp; done) | (simp [*]; done)), H', ⟨Nat.le_refl _⟩, by repeat (first | exact Drawn0.refl _ | apply Drawn0.step)⟩
  case round =>
   clear H'; try clear c1
   try clear p2
   try clear c4
   try clear c4b0
   try clear c4b1
   try clear c4b2
   obtain ⟨x7_1, rfl, HA, HK1, ⟨m1, rfl⟩⟩ := hrel; cases gk with
   | zero => exact absurd HA.out (by simp [r2_Same.l0])
   | succ k1 =>
    have H := HA.out; clear HA; simp only [r2_Same.l0] at H
    by_cases c5 : x7_1 < (l0.length : Int)
    ·rw [if_pos c5] at H; have c5b0 : decide (x7_1 < (l0.length : Int)) = true := decide_eq_true c5
     clear c5; by_cases c6 : 0 ≤ x7_1
     ·rw [if_pos c6] at H; have c6b0 : decide (0 ≤ x7_1) = true := decide_eq_true c6
      clear c6; by_cases c7 : x7_1 < (l1.length : Int)
      ·rw [if_pos c7] at H; have c7b0 : decide (x7_1 < (l1.length : Int)) = true := decide_eq_true c7
       clear c7; by_cases c8 : ((rd_T30 l0 x7_1).f0) = ((rd_T30 l1 x7_1).f0)
       ·rw [if_pos c8] at H; have c8b0 : (((rd_T30 l0 x7_1).f0) == ((rd_T30 l1 x7_1).f0)) = true := beq_iff_eq.mpr c8
        have c8b1 : (((rd_T30 l0 x7_1).f0) != ((rd_T30 l1 x7_1).f0)) = false := bne_eq_false_iff_eq.mpr c8
        clear c8; by_cases c9 : ((rd_T30 l0 x7_1).f2).toList = ((rd_T30 l1 x7_1).f2).toList
        ·rw [if_pos c9] at H; have c9b0 : (((rd_T30 l0 x7_1).f2).toList == ((rd_T30 l1 x7_1).f2).toList) = true := beq_iff_eq.mpr c9
         have c9b1 : (((rd_T30 l0 x7_1).f2).toList != ((rd_T30 l1 x7_1).f2).toList) = false := bne_eq_false_iff_eq.mpr c9
         clear c9; by_cases c10 : ((rd_T30 l0 x7_1).f3) = ((rd_T30 l1 x7_1).f3)
         ·rw [if_pos c10] at H; have c10b0 : (((rd_T30 l0 x7_1).f3) == ((rd_T30 l1 x7_1).f3)) = true := beq_iff_eq.mpr c10
          have c10b1 : (((rd_T30 l0 x7_1).f3) != ((rd_T30 l1 x7_1).f3)) = false := bne_eq_false_iff_eq.mpr c10
          clear c10; by_cases c11 : a2 = true
          ·subst c11; have H1 : (if ((rd_T30 l0 x7_1).f1) = ((rd_T30 l1 x7_1).f1) then (r2_Same.l0 k1 l0 l1 true (wrap64 (x7_1 + 1))) else (some false)) = some r := by rw [if_pos rfl] at H; exact H
           clear H; have H := H1; clear H1; by_cases c12 : ((rd_T30 l0 x7_1).f1) = ((rd_T30 l1 x7_1).f1)
           ·rw [if_pos c12] at H; have c12b0 : (((rd_T30 l0 x7_1).f1) == ((rd_T30 l1 x7_1).f1)) = true := beq_iff_eq.mpr c12
            have c12b1 : (((rd_T30 l0 x7_1).f1) != ((rd_T30 l1 x7_1).f1)) = false := bne_eq_false_iff_eq.mpr c12
            clear c12; have H' := Aside0.mk H
            clear H; have p142 : 0 ≤ (x7_1 : Int) := of_decide_eq_true (by with_reducible assumption)
            have q142 : x7_1 < (l0.length : Int) := of_decide_eq_true (by with_reducible assumption)
            obtain ⟨ad142, e142, hx142_0, hx142_1, hx142_2, hx142_3⟩ := at_T30 HR0.out x7_1 p142 q142; cases e142; replace p142 := eq_true p142; replace q142 := eq_true q142; have p143 : 0 ≤ (x7_1 : Int) := of_decide_eq_true (by with_reducible assumption)
            have q143 : x7_1 < (l1.length : Int) := of_decide_eq_true (by with_reducible assumption)
            obtain ⟨ad143, e143, hx143_0, hx143_1, hx143_2, hx143_3⟩ := at_T30 HR1.out x7_1 p143 q143; cases e143; replace p143 := eq_true p143; replace q143 := eq_true q143; have p144 : 0 ≤ (x7_1 : Int) := of_decide_eq_true (by with_reducible assumption)
            have q144 : x7_1 < (l0.length : Int) := of_decide_eq_true (by with_reducible assumption)
            obtain ⟨ad144, e144, hx144_0, hx144_1, hx144_2, hx144_3⟩ := at_T30 HR0.out x7_1 p144 q144; obtain rfl : ad142 = ad144 := (by injection e144)
            replace p144 := eq_true p144; replace q144 := eq_true q144; have p145 : 0 ≤ (x7_1 : Int) := of_decide_eq_true (by with_reducible assumption)
            have q145 : x7_1 < (l1.length : Int) := of_decide_eq_true (by with_reducible assumption)
            obtain ⟨ad145, e145, hx145_0, hx145_1, hx145_2, hx145_3⟩ := at_T30 HR1.out x7_1 p145 q145; obtain rfl : ad143 = ad145 := (by injection e145)
            replace p145 := eq_true p145; replace q145 := eq_true q145; have p146 : 0 ≤ (x7_1 : Int) := of_decide_eq_true (by with_reducible assumption)
            have q146 : x7_1 < (l0.length : Int) := of_decide_eq_true (by with_reducible assumption)
            obtain ⟨ad146, e146, hx146_0, hx146_1, hx146_2, hx146_3⟩ := at_T30 HR0.out x7_1 p146 q146; obtain rfl : ad142 = ad146 := (by injection e146)
            replace p146 := eq_true p146; replace q146 := eq_true q146; have p147 : 0 ≤ (x7_1 : Int) := of_decide_eq_true (by with_reducible assumption)
            have q147 : x7_1 < (l1.length : Int) := of_decide_eq_true (by with_reducible assumption)
            obtain ⟨ad147, e147, hx147_0, hx147_1, hx147_2, hx147_3⟩ := at_T30 HR1.out x7_1 p147 q147; obtain rfl : ad143 = ad147 := (by injection e147)
            replace p147 := eq_true p147; replace q147 := eq_true q147; have p148 : 0 ≤ (x7_1 : Int) := of_decide_eq_true (by with_reducible assumption)
            have q148 : x7_1 < (l0.length : Int) := of_decide_eq_true (by with_reducible assumption)
            obtain ⟨ad148, e148, hx148_0, hx148_1, hx148_2, hx148_3⟩ := at_T30 HR0.out x7_1 p148 q148; obtain rfl : ad142 = ad148 := (by injection e148)
            replace p148 := eq_true p148; replace q148 := eq_true q148; have p149 : 0 ≤ (x7_1 : Int) := of_decide_eq_true (by with_reducible assumption)
            have q149 : x7_1 < (l1.length : Int) := of_decide_eq_true (by with_reducible assumption)
            obtain ⟨ad149, e149, hx149_0, hx149_1, hx149_2, hx149_3⟩ := at_T30 HR1.out x7_1 p149 q149; obtain rfl : ad143 = ad149 := (by injection e149)
            replace p149 := eq_true p149; replace q149 := eq_true q149; go_wp2
            repeat (go_quiet (fail); try go_wp2)
            go_roundg k1
            case measure => have := HK1.out; omega
            case rel => exact ⟨(wrap64 (x7_1 + 1)), (by first | rfl | (simp; done) | (simp [*]; done)), H', ⟨by have := HK1.out; omega⟩, by repeat (first | exact Drawn0.refl _ | apply Drawn0.step)⟩
           ·rw [if_neg c12] at H; have c12b0 : (((rd_T30 l0 x7_1).f1) == ((rd_T30 l1 x7_1).f1)) = false := beq_eq_false_iff_ne.mpr c12
            have c12b1 : (((rd_T30 l0 x7_1).f1) != ((rd_T30 l1 x7_1).f1)) = true := bne_iff_ne.mpr c12
            obtain rfl := Option.some.inj H; have p142 : 0 ≤ (x7_1 : Int) := of_decide_eq_true (by with_reducible assumption)
            have q142 : x7_1 < (l0.length : Int) := of_decide_eq_true (by with_reducible assumption)
            obtain ⟨ad142, e142, hx142_0, hx142_1, hx142_2, hx142_3⟩ := at_T30 HR0.out x7_1 p142 q142; cases e142; replace p142 := eq_true p142; replace q142 := eq_true q142; have p143 : 0 ≤ (x7_1 : Int) := of_decide_eq_true (by with_reducible assumption)
            have q143 : x7_1 < (l1.length : Int) := of_decide_eq_true (by with_reducible assumption)
            obtain ⟨ad143, e143, hx143_0, hx143_1, hx143_2, hx143_3⟩ := at_T30 HR1.out x7_1 p143 q143; cases e143; replace p143 := eq_true p143; replace q143 := eq_true q143; have p144 : 0 ≤ (x7_1 : Int) := of_decide_eq_true (by with_reducible assumption)
            have q144 : x7_1 < (l0.length : Int) := of_decide_eq_true (by with_reducible assumption)
            obtain ⟨ad144, e144, hx144_0, hx144_1, hx144_2, hx144_3⟩ := at_T30 HR0.out x7_1 p144 q144; obtain rfl : ad142 = ad144 := (by injection e144)
            replace p144 := eq_true p144; replace q144 := eq_true q144; have p145 : 0 ≤ (x7_1 : Int) := of_decide_eq_true (by with_reducible assumption)
            have q145 : x7_1 < (l1.length : Int) := of_decide_eq_true (by with_reducible assumption)
            obtain ⟨ad145, e145, hx145_0, hx145_1, hx145_2, hx145_3⟩ := at_T30 HR1.out x7_1 p145 q145; obtain rfl : ad143 = ad145 := (by injection e145)
            replace p145 := eq_true p145; replace q145 := eq_true q145; have p146 : 0 ≤ (x7_1 : Int) := of_decide_eq_true (by with_reducible assumption)
            have q146 : x7_1 < (l0.length : Int) := of_decide_eq_true (by with_reducible assumption)
            obtain ⟨ad146, e146, hx146_0, hx146_1, hx146_2, hx146_3⟩ := at_T30 HR0.out x7_1 p146 q146; obtain rfl : ad142 = ad146 := (by injection e146)
            replace p146 := eq_true p146; replace q146 := eq_true q146; have p147 : 0 ≤ (x7_1 : Int) := of_decide_eq_true (by with_reducible assumption)
            have q147 : x7_1 < (l1.length : Int) := of_decide_eq_true (by with_reducible assumption)
            obtain ⟨ad147, e147, hx147_0, hx147_1, hx147_2, hx147_3⟩ := at_T30 HR1.out x7_1 p147 q147; obtain rfl : ad143 = ad147 := (by injection e147)
            replace p147 := eq_true p147; replace q147 := eq_true q147; have p148 : 0 ≤ (x7_1 : Int) := of_decide_eq_true (by with_reducible assumption)
            have q148 : x7_1 < (l0.length : Int) := of_decide_eq_true (by with_reducible assumption)
            obtain ⟨ad148, e148, hx148_0, hx148_1, hx148_2, hx148_3⟩ := at_T30 HR0.out x7_1 p148 q148; obtain rfl : ad142 = ad148 := (by injection e148)
            replace p148 := eq_true p148; replace q148 := eq_true q148; have p149 : 0 ≤ (x7_1 : Int) := of_decide_eq_true (by with_reducible assumption)
            have q149 : x7_1 < (l1.length : Int) := of_decide_eq_true (by with_reducible assumption)
            obtain ⟨ad149, e149, hx149_0, hx149_1, hx149_2, hx149_3⟩ := at_T30 HR1.out x7_1 p149 q149; obtain rfl : ad143 = ad149 := (by injection e149)
            replace p149 := eq_true p149; replace q149 := eq_true q149; go_wp2
            repeat (go_quiet (fail); try go_wp2)
            go_ret
            exact ⟨by first | rfl | (simp; done) | (simp [*]; done), by repeat (first | exact Drawn0.refl _ | apply Drawn0.step)⟩
          ·replace c11 := Bool.eq_false_iff.mpr c11; subst c11; have H1 : (r2_Same.l0 k1 l0 l1 false (wrap64 (x7_1 + 1))) = some r := by rw [if_neg (show ¬ (false = true) by decide)] at H; exact H
           clear H; have H := H1; clear H1; have H' := Aside0.mk H
           clear H; have p142 : 0 ≤ (x7_1 : Int) := of_decide_eq_true (by with_reducible assumption)
           have q142 : x7_1 < (l0.length : Int) := of_decide_eq_true (by with_reducible assumption)
           obtain ⟨ad142, e142, hx142_0, hx142_1, hx142_2, hx142_3⟩ := at_T30 HR0.out x7_1 p142 q142; cases e142; replace p142 := eq_true p142; replace q142 := eq_true q142; have p143 : 0 ≤ (x7_1 : Int) := of_decide_eq_true (by with_reducible assumption)
           have q143 : x7_1 < (l1.length : Int) := of_decide_eq_true (by with_reducible assumption)
           obtain ⟨ad143, e143, hx143_0, hx143_1, hx143_2, hx143_3⟩ := at_T30 HR1.out x7_1 p143 q143; cases e143; replace p143 := eq_true p143; replace q143 := eq_true q143; have p144 : 0 ≤ (x7_1 : Int) := of_decide_eq_true (by with_reducible assumption)
           have q144 : x7_1 < (l0.length : Int) := of_decide_eq_true (by with_reducible assumption)
           obtain ⟨ad144, e144, hx144_0, hx144_1, hx144_2, hx144_3⟩ := at_T30 HR0.out x7_1 p144 q144; obtain rfl : ad142 = ad144 := (by injection e144)
           replace p144 := eq_true p144; replace q144 := eq_true q144; have p145 : 0 ≤ (x7_1 : Int) := of_decide_eq_true (by with_reducible assumption)
           have q145 : x7_1 < (l1.length : Int) := of_decide_eq_true (by with_reducible assumption)
           obtain ⟨ad145, e145, hx145_0, hx145_1, hx145_2, hx145_3⟩ := at_T30 HR1.out x7_1 p145 q145; obtain rfl : ad143 = ad145 := (by injection e145)
           replace p145 := eq_true p145; replace q145 := eq_true q145; have p146 : 0 ≤ (x7_1 : Int) := of_decide_eq_true (by with_reducible assumption)
           have q146 : x7_1 < (l0.length : Int) := of_decide_eq_true (by with_reducible assumption)
           obtain ⟨ad146, e146, hx146_0, hx146_1, hx146_2, hx146_3⟩ := at_T30 HR0.out x7_1 p146 q146; obtain rfl : ad142 = ad146 := (by injection e146)
           replace p146 := eq_true p146; replace q146 := eq_true q146; have p147 : 0 ≤ (x7_1 : Int) := of_decide_eq_true (by with_reducible assumption)
           have q147 : x7_1 < (l1.length : Int) := of_decide_eq_true (by with_reducible assumption)
           obtain ⟨ad147, e147, hx147_0, hx147_1, hx147_2, hx147_3⟩ := at_T30 HR1.out x7_1 p147 q147; obtain rfl : ad143 = ad147 := (by injection e147)
           replace p147 := eq_true p147; replace q147 := eq_true q147; go_wp2
           repeat (go_quiet (fail); try go_wp2)
           go_roundg k1
           case measure => have := HK1.out; omega
           case rel => exact ⟨(wrap64 (x7_1 + 1)), (by first | rfl | (simp; done) | (simp [*]; done)), H', ⟨by have := HK1.out; omega⟩, by repeat (first | exact Drawn0.refl _ | apply Drawn0.step)⟩
         ·rw [if_neg c10] at H; have c10b0 : (((rd_T30 l0 x7_1).f3) == ((rd_T30 l1 x7_1).f3)) = false := beq_eq_false_iff_ne.mpr c10
          have c10b1 : (((rd_T30 l0 x7_1).f3) != ((rd_T30 l1 x7_1).f3)) = true := bne_iff_ne.mpr c10
          obtain rfl := Option.some.inj H; have p142 : 0 ≤ (x7_1 : Int) := of_decide_eq_true (by with_reducible assumption)
          have q142 : x7_1 < (l0.length : Int) := of_decide_eq_true (by with_reducible assumption)
          obtain ⟨ad142, e142, hx142_0, hx142_1, hx142_2, hx142_3⟩ := at_T30 HR0.out x7_1 p142 q142; cases e142; replace p142 := eq_true p142; replace q142 := eq_true q142; have p143 : 0 ≤ (x7_1 : Int) := of_decide_eq_true (by with_reducible assumption)
          have q143 : x7_1 < (l1.length : Int) := of_decide_eq_true (by with_reducible assumption)
          obtain ⟨ad143, e143, hx143_0, hx143_1, hx143_2, hx143_3⟩ := at_T30 HR1.out x7_1 p143 q143; cases e143; replace p143 := eq_true p143; replace q143 := eq_true q143; have p144 : 0 ≤ (x7_1 : Int) := of_decide_eq_true (by with_reducible assumption)
          have q144 : x7_1 < (l0.length : Int) := of_decide_eq_true (by with_reducible assumption)
          obtain ⟨ad144, e144, hx144_0, hx144_1, hx144_2, hx144_3⟩ := at_T30 HR0.out x7_1 p144 q144; obtain rfl : ad142 = ad144 := (by injection e144)
          replace p144 := eq_true p144; replace q144 := eq_true q144; have p145 : 0 ≤ (x7_1 : Int) := of_decide_eq_true (by with_reducible assumption)
          have q145 : x7_1 < (l1.length : Int) := of_decide_eq_true (by with_reducible assumption)
          obtain ⟨ad145, e145, hx145_0, hx145_1, hx145_2, hx145_3⟩ := at_T30 HR1.out x7_1 p145 q145; obtain rfl : ad143 = ad145 := (by injection e145)
          replace p145 := eq_true p145; replace q145 := eq_true q145; have p146 : 0 ≤ (x7_1 : Int) := of_decide_eq_true (by with_reducible assumption)
          have q146 : x7_1 < (l0.length : Int) := of_decide_eq_true (by with_reducible assumption)
          obtain ⟨ad146, e146, hx146_0, hx146_1, hx146_2, hx146_3⟩ := at_T30 HR0.out x7_1 p146 q146; obtain rfl : ad142 = ad146 := (by injection e146)
          replace p146 := eq_true p146; replace q146 := eq_true q146; have p147 : 0 ≤ (x7_1 : Int) := of_decide_eq_true (by with_reducible assumption)
          have q147 : x7_1 < (l1.length : Int) := of_decide_eq_true (by with_reducible assumption)
          obtain ⟨ad147, e147, hx147_0, hx147_1, hx147_2, hx147_3⟩ := at_T30 HR1.out x7_1 p147 q147; obtain rfl : ad143 = ad147 := (by injection e147)
          replace p147 := eq_true p147; replace q147 := eq_true q147; go_wp2
          repeat (go_quiet (fail); try go_wp2)
          go_ret
          exact ⟨by first | rfl | (simp; done) | (simp [*]; done), by repeat (first | exact Drawn0.refl _ | apply Drawn0.step)⟩
        ·rw [if_neg c9] at H; have c9b0 : (((rd_T30 l0 x7_1).f2).toList == ((rd_T30 l1 x7_1).f2).toList) = false := beq_eq_false_iff_ne.mpr c9
         have c9b1 : (((rd_T30 l0 x7_1).f2).toList != ((rd_T30 l1 x7_1).f2).toList) = true := bne_iff_ne.mpr c9
         obtain rfl := Option.some.inj H; have p142 : 0 ≤ (x7_1 : Int) := of_decide_eq_true (by with_reducible assumption)
         have q142 : x7_1 < (l0.length : Int) := of_decide_eq_true (by with_reducible assumption)
         obtain ⟨ad142, e142, hx142_0, hx142_1, hx142_2, hx142_3⟩ := at_T30 HR0.out x7_1 p142 q142; cases e142; replace p142 := eq_true p142; replace q142 := eq_true q142; have p143 : 0 ≤ (x7_1 : Int) := of_decide_eq_true (by with_reducible assumption)
         have q143 : x7_1 < (l1.length : Int) := of_decide_eq_true (by with_reducible assumption)
         obtain ⟨ad143, e143, hx143_0, hx143_1, hx143_2, hx143_3⟩ := at_T30 HR1.out x7_1 p143 q143; cases e143; replace p143 := eq_true p143; replace q143 := eq_true q143; have p144 : 0 ≤ (x7_1 : Int) := of_decide_eq_true (by with_reducible assumption)
         have q144 : x7_1 < (l0.length : Int) := of_decide_eq_true (by with_reducible assumption)
         obtain ⟨ad144, e144, hx144_0, hx144_1, hx144_2, hx144_3⟩ := at_T30 HR0.out x7_1 p144 q144; obtain rfl : ad142 = ad144 := (by injection e144)
         replace p144 := eq_true p144; replace q144 := eq_true q144; have p145 : 0 ≤ (x7_1 : Int) := of_decide_eq_true (by with_reducible assumption)
         have q145 : x7_1 < (l1.length : Int) := of_decide_eq_true (by with_reducible assumption)
         obtain ⟨ad145, e145, hx145_0, hx145_1, hx145_2, hx145_3⟩ := at_T30 HR1.out x7_1 p145 q145; obtain rfl : ad143 = ad145 := (by injection e145)
         replace p145 := eq_true p145; replace q145 := eq_true q145; go_wp2
         repeat (go_quiet (fail); try go_wp2)
         go_ret
         exact ⟨by first | rfl | (simp; done) | (simp [*]; done), by repeat (first | exact Drawn0.refl _ | apply Drawn0.step)⟩
       ·rw [if_neg c8] at H; have c8b0 : (((rd_T30 l0 x7_1).f0) == ((rd_T30 l1 x7_1).f0)) = false := beq_eq_false_iff_ne.mpr c8
        have c8b1 : (((rd_T30 l0 x7_1).f0) != ((rd_T30 l1 x7_1).f0)) = true := bne_iff_ne.mpr c8
        obtain rfl := Option.some.inj H; have p142 : 0 ≤ (x7_1 : Int) := of_decide_eq_true (by with_reducible assumption)
        have q142 : x7_1 < (l0.length : Int) := of_decide_eq_true (by with_reducible assumption)
        obtain ⟨ad142, e142, hx142_0, hx142_1, hx142_2, hx142_3⟩ := at_T30 HR0.out x7_1 p142 q142; cases e142; replace p142 := eq_true p142; replace q142 := eq_true q142; have p143 : 0 ≤ (x7_1 : Int) := of_decide_eq_true (by with_reducible assumption)
        have q143 : x7_1 < (l1.length : Int) := of_decide_eq_true (by with_reducible assumption)
        obtain ⟨ad143, e143, hx143_0, hx143_1, hx143_2, hx143_3⟩ := at_T30 HR1.out x7_1 p143 q143; cases e143; replace p143 := eq_true p143; replace q143 := eq_true q143; go_wp2
        repeat (go_quiet (fail); try go_wp2)
        go_ret
        exact ⟨by first | rfl | (simp; done) | (simp [*]; done), by repeat (first | exact Drawn0.refl _ | apply Drawn0.step)⟩
      ·rw [if_neg c7] at H; exact absurd H (by simp)
     ·rw [if_neg c6] at H; exact absurd H (by simp)
    ·rw [if_neg c5] at H; have c5b0 : decide (x7_1 < (l0.length : Int)) = false := decide_eq_false c5
     clear c5; obtain rfl := Option.some.inj H; go_wp2
     repeat (go_quiet (fail); try go_wp2)
     go_ret
     exact ⟨by first | rfl | (simp; done) | (simp [*]; done), by repeat (first | exact Drawn0.refl _ | apply Drawn0.step)⟩
 ·rw [if_neg c4] at H; have c4b0 : ((l0.length : Int) == (l1.length : Int)) = false := beq_eq_false_iff_ne.mpr c4
  have c4b1 : ((l0.length : Int) != (l1.length : Int)) = true := bne_iff_ne.mpr c4
  have c4b2 : (l0.length == l1.length) = false := by first | simpa using c4 | (simp at c4 ⊢; omega)
  obtain rfl := Option.some.inj H; go_enter Tryd.func13, Tryd.ntmps13
  go_wp2
  repeat (go_quiet (fail); try go_wp2)
  go_ret
  exact ⟨by first | rfl | (simp; done) | (simp [*]; done), by repeat (first | exact Drawn0.refl _ | apply Drawn0.step)⟩
end Go.Proofs.YtplcemlennloaaaDoor.A
end
section
namespace Go.Proofs.YtplcemlennloaaaDoor.A
open Go.RowKit Go.Proofs.YtplcemlennloaaaDoorW.PrintWords Go.Proofs.YtplcemlennloaaaDoorW.PrintLast Go.Proofs.YtplcemlennloaaaDoorW.PrintMore
set_option linter.unusedVariables false
set_option linter.unusedSimpArgs false
def stringslite_HasPrefix.f (a0 : ByteArray) (a1 : ByteArray) : Option (Bool) := if (a0.size : Int) ≥ (a1.size : Int) then (if 0 ≤ (a1.size : Int) then (if (a1.size : Int) ≤ (a0.size : Int) then (some ((a0.extract 0 ((a1.size : Int) : Int).toNat).toList == a1.toList)) else (none)) else (none)) else (some false)
set_option maxHeartbeats 8000000 in
set_option maxRecDepth 100000 in
theorem stringslite_HasPrefix.calls (a0 : ByteArray) (a1 : ByteArray) (r : Bool) (w : World) (h : stringslite_HasPrefix.f a0 a1 = some r) :
  Calls Tryd.prog 50 #[.string a0, .string a1] w fun e w' => e = .returned (.bool r) ∧ Drawn0 w w' := by
 have H : (if (a0.size : Int) ≥ (a1.size : Int) then (if 0 ≤ (a1.size : Int) then (if (a1.size : Int) ≤ (a0.size : Int) then (some ((a0.extract 0 ((a1.size : Int) : Int).toNat).toList == a1.toList)) else (none)) else (none)) else (some false)) = some r := h
 clear h; by_cases c3 : (a0.size : Int) ≥ (a1.size : Int)
 ·rw [if_pos c3] at H; have c3b0 : decide ((a1.size : Int) ≤ (a0.size : Int)) = true := decide_eq_true c3
  have c3b1 : decide (a1.size ≤ a0.size) = true := decide_eq_true (Int.ofNat_le.mp c3)
  clear c3; by_cases c4 : 0 ≤ (a1.size : Int)
  ·rw [if_pos c4] at H; have c4b0 := eq_true c4; have c4b1 : decide (0 ≤ (a1.size : Int)) = true := decide_eq_true c4
   clear c4; by_cases c5 : (a1.size : Int) ≤ (a0.size : Int)
   ·rw [if_pos c5] at H; have c5b0 := eq_true c5; have c5b1 : decide ((a1.size : Int) ≤ (a0.size : Int)) = true := decide_eq_true c5
    clear c5; obtain rfl := Option.some.inj H; go_enter Tryd.func50, Tryd.ntmps50
    go_wp2
    go_ret
    exact ⟨by first | rfl | (simp; done) | (simp [*]; done), by repeat (first | exact Drawn0.refl _ | apply Drawn0.step)⟩
   ·rw [if_neg c5] at H; exact absurd H (by simp)
  ·rw [if_neg c4] at H; exact absurd H (by simp)
 ·rw [if_neg c3] at H; have c3b0 : decide ((a1.size : Int) ≤ (a0.size : Int)) = false := decide_eq_false c3
  have c3b1 : decide (a1.size ≤ a0.size) = false := decide_eq_false (fun h => c3 (Int.ofNat_le.mpr h))
  clear c3; obtain rfl := Option.some.inj H; go_enter Tryd.func50, Tryd.ntmps50
  go_wp2
  go_ret
  exact ⟨by first | rfl | (simp; done) | (simp [*]; done), by repeat (first | exact Drawn0.refl _ | apply Drawn0.step)⟩
def strings_HasPrefix.f (a0 : ByteArray) (a1 : ByteArray) : Option (Bool) := (stringslite_HasPrefix.f a0 a1).bind fun t164 => (some t164)
set_option maxHeartbeats 8000000 in
set_option maxRecDepth 100000 in
theorem strings_HasPrefix.calls (a0 : ByteArray) (a1 : ByteArray) (r : Bool) (w : World) (h : strings_HasPrefix.f a0 a1 = some r) :
  Calls Tryd.prog 47 #[.string a0, .string a1] w fun e w' => e = .returned (.bool r) ∧ Drawn0 w w' := by
 have H : ((stringslite_HasPrefix.f a0 a1).bind fun t164 => (some t164)) = some r := h
 clear h; replace H := Option.bind_eq_some_iff.mp H; obtain ⟨t164, A30, H⟩ := H; replace H : (some t164) = some r := H; have A3 := Aside0.mk A30; clear A30; obtain rfl := Option.some.inj H; go_enter Tryd.func47, Tryd.ntmps47
 go_wp2_with (first | ((with_reducible refine gate_callee (f := 50) rfl ?_); refine goesL_ (some 7) rfl rfl Tryd.func50 (by kernel_rfl) rfl #[.string a0, .string a1] rfl (by (try simp only [List.map_toArray, List.map_cons, List.map_nil]); first | done | rfl | (simp only [List.length_drop, List.length_take]; rfl)) ?_; (with_reducible refine (stringslite_HasPrefix.calls a0 a1 t164 _ A3.out).mono ?_); rintro e w' ⟨rfl, ⟨nd, rfl⟩⟩; refine ⟨_, rfl, ?_⟩))
 go_ret
 exact ⟨by first | rfl | (simp; done) | (simp [*]; done), by repeat (first | exact Drawn0.refl _ | apply Drawn0.step)⟩
end Go.Proofs.YtplcemlennloaaaDoor.A
end
section
namespace Go.Proofs.YtplcemlennloaaaDoor
open Go Go.RowKit Go.Proofs.YtplcemlennloaaaDoorW.PrintWords Go.Proofs.YtplcemlennloaaaDoor.A Go.Proofs.YtplcemlennloaaaDoor.Op
abbrev laidL : List (String × DataW Unit) := [("unicode.White_Space", Rows.laid_unicode_White_Space), ("strings.asciiSpace", Rows.laid_strings_asciiSpace)]
theorem tab_data : (Rows.laid_strings_asciiSpace : DataW Unit) = Lib.tabData .u8 Lib.asciiSpaceTab := by kernel_rfl
theorem laid_tab {W : World} (h : laidMetH Tryd.prog laidL W) : Tab W := by
 rw [MakeChecks.laidMetH_plain _ _ _ (by kernel_rfl)] at h
 obtain ⟨ps, ⟨_, _, _, _, _, _, _, _, _, _, ⟨g, t, cs, fuel, p, q, hg, hty, hvar, hd, _, _⟩, _⟩, _⟩ := h; refine Tab.of ?_
 obtain rfl := Option.some.inj (hg157.symm.trans hg); obtain ⟨n, e, h1, h2, h3, h4, h5⟩ : ∃ n e, (Tryd.prog.globals[ren.g 0]?).map (·.type) = some t ∧ Tryd.prog.underlying t = some (.array n e) ∧ Tryd.prog.underlying e = some (.int .u8) ∧ Tryd.prog.cellsOf e = 1 ∧ Tryd.prog.cellsOf t = n := by
  have e0 : (Tryd.prog.globals[ren.g 0]?).map (·.type) = some 65 := by kernel_rfl
  obtain rfl := Option.some.inj (e0.symm.trans hty); exact ⟨256, 5, hty, by kernel_rfl, by kernel_rfl, by kernel_rfl, by kernel_rfl⟩
 rw [tab_data] at hd; unfold Lib.TabIs
 rw [hvar, ← Lib.cells_of_tab h2 h3 h4 h5 hd]
end Go.Proofs.YtplcemlennloaaaDoor
end
section
namespace Go.Proofs.YtplcemlennloaaaDoor.B
open Go Go.RowKit Go.Shelf Go.Proofs.YtplcemlennloaaaDoorW.PrintWords Go.Proofs.YtplcemlennloaaaDoorW.PrintLast Go.Proofs.YtplcemlennloaaaDoorW.PrintMore Go.Proofs.YtplcemlennloaaaDoor Go.Proofs.YtplcemlennloaaaDoor.A
def strings_Fields.f (_k : Nat) (a0 : ByteArray) : Option (List ByteArray) :=
 if a0.size < 4294967281 ∧ a0.data.toList.all (fun b => decide (b.toNat < 128)) = true ∧ (Lib.fields a0.data.toList).length ≤ maxLen then some ((Lib.fields a0.data.toList).map fun l => ⟨l.toArray⟩) else none
theorem strings_Fields.mono : ∀ a0 k, LeO (strings_Fields.f k a0) (strings_Fields.f (k + 1) a0) := fun _ _ => LeO.refl _
theorem new_at {w : World} {g : Nat} (o : Obj) (hg : g = w.heap.size) : (w.alloc o).heap[g]? = some o := by
 subst hg; exact Go.heap_alloc_new _ _
theorem strings_Fields.calls (k : Nat) (a0 : ByteArray) (r : List ByteArray) (w : World) (h : strings_Fields.f k a0 = some r) (hT : Tab w) :
  Calls Tryd.prog 37 #[.string a0] w fun e w' => ∃ v0_ : Value, e = .returned (v0_) ∧ Kd.R Kd.string 9 w' w.heap.size (fun _ => True) v0_ r ∧ Below w.heap.size w w' := by
 unfold strings_Fields.f at h
 by_cases hc : a0.size < 4294967281 ∧ a0.data.toList.all (fun b => decide (b.toNat < 128)) = true ∧ (Lib.fields a0.data.toList).length ≤ maxLen
 case neg => rw [if_neg hc] at h; cases h
 rw [if_pos hc] at h; obtain rfl := Option.some.inj h; obtain ⟨h1, h2, h3⟩ := hc; refine (fields_calls a0 w h1 (fun j b hb => ?_) hT).mono ?_
 ·have := List.all_eq_true.1 h2 b (List.mem_of_getElem? hb)
  simpa using this
 ·rintro e w' ⟨rfl, rfl⟩
  refine ⟨_, rfl, ?_, below_alloc (Below.refl _ _) _⟩
  have hl : ((Lib.fields a0.data.toList).map fun l => (⟨l.toArray⟩ : ByteArray)).length = (Lib.fields a0.data.toList).length := by simp
  rw [← hl]; refine Kd.R_of_own (enc := Value.string) (h1 := fun _ => rfl) ⟨by simp [encs], .inr ⟨w.heap.size, _, _, rfl, Nat.le_refl _, new_at _ rfl, Nat.le_refl _, by rw [hl]; exact h3, by simp, ?_⟩⟩ (fun _ _ => trivial)
  simp [encs, List.map_map, Function.comp_def, List.take_of_length_le]
end Go.Proofs.YtplcemlennloaaaDoor.B
end
section
namespace Go.Proofs.YtplcemlennloaaaDoor.S
open Go.RowKit Go.Proofs.YtplcemlennloaaaDoorW.PrintWords Go.Proofs.YtplcemlennloaaaDoorW.PrintLast Go.Proofs.YtplcemlennloaaaDoorW.PrintMore Go.Proofs.YtplcemlennloaaaDoor Go.Proofs.YtplcemlennloaaaDoor.A Go.Proofs.YtplcemlennloaaaDoor.B
set_option linter.unusedVariables false
set_option linter.unusedSimpArgs false
mutual
def lex_sign.l0 : Nat → ByteArray → Int → List ByteArray → Int → Int → Option (ByteArray)
 | 0, _, _, _, _, _ => none
 | k + 1, x0, x1, x9, x10, x11 => if x11 < x10 then (if 0 ≤ x11 then (if x11 < (x9.length : Int) then ((strings_Fields.f k (rdOf ByteArray.empty x9 x11)).bind fun t105 => (lex_sign.l1 k x0 x1 x9 x10 x11 t105 (t105.length : Int) 0)) else (none)) else (none)) else (some (⟨#[]⟩ : ByteArray))
def lex_sign.l1 : Nat → ByteArray → Int → List ByteArray → Int → Int → List ByteArray → Int → Int → Option (ByteArray)
 | 0, _, _, _, _, _, _, _, _ => none
 | k + 1, x0, x1, x9, x10, x11, x16, x17, x18 => if x18 < x17 then (if 0 ≤ x18 then (if x18 < (x16.length : Int) then (if 0 ≤ x1 then (if x1 ≤ (x0.size : Int) then ((strings_HasPrefix.f (x0.extract (x1 : Int).toNat x0.size) (rdOf ByteArray.empty x16 x18)).bind fun t109 => (if t109 = true then (some (rdOf ByteArray.empty x16 x18)) else (lex_sign.l1 k x0 x1 x9 x10 x11 x16 x17 (wrap64 (x18 + 1))))) else (none)) else (none)) else (none)) else (none)) else (lex_sign.l0 k x0 x1 x9 x10 (wrap64 (x11 + 1)))
end
def lex_sign.f (k : Nat) (a0 : ByteArray) (a1 : Int) : Option (ByteArray) := (some (([(⟨#[62, 62, 62]⟩ : ByteArray), (⟨#[60, 60, 32, 62, 62, 32, 60, 61, 32, 62, 61, 32, 61, 61, 32, 33, 61, 32, 60, 58, 32, 38, 38, 32, 124, 124]⟩ : ByteArray), (⟨#[40, 32, 41, 32, 123, 32, 125, 32, 91, 32, 93, 32, 44, 32, 59, 32, 61, 32, 43, 32, 45, 32, 42, 32, 47, 32, 37, 32, 38, 32, 124, 32, 94, 32, 126, 32, 33, 32, 60, 32, 62]⟩ : ByteArray)] : List ByteArray) : List ByteArray)).bind fun y101 => (lex_sign.l0 k a0 a1 y101 (y101.length : Int) 0)
theorem lex_sign.mono_l : ∀ k, (∀ y0 y1 y2 y3 y4, LeO (lex_sign.l0 k y0 y1 y2 y3 y4) (lex_sign.l0 (k + 1) y0 y1 y2 y3 y4)) ∧ (∀ y0 y1 y2 y3 y4 y5 y6 y7, LeO (lex_sign.l1 k y0 y1 y2 y3 y4 y5 y6 y7) (lex_sign.l1 (k + 1) y0 y1 y2 y3 y4 y5 y6 y7))
 | 0 => ⟨fun _ _ _ _ _ r h => by simp [lex_sign.l0] at h, fun _ _ _ _ _ _ _ _ r h => by simp [lex_sign.l1] at h⟩
 | k + 1 => by
  obtain ⟨ih0, ih1⟩ := lex_sign.mono_l k; refine ⟨?_, ?_⟩
  ·intro y0 y1 y2 y3 y4
   unfold lex_sign.l0
   repeat' first
   | (with_reducible exact ih0 _ _ _ _ _)
   | (with_reducible exact ih1 _ _ _ _ _ _ _ _)
   | (with_reducible exact strings_Fields.mono _ _)
   | (with_reducible exact LeO.refl _)
   | (with_reducible exact LeO.none _)
   | (with_reducible refine LeO.ite ?_ ?_)
   | (with_reducible refine LeO.bind ?_ (fun _ => ?_))
  ·intro y0 y1 y2 y3 y4 y5 y6 y7
   unfold lex_sign.l1
   repeat' first
   | (with_reducible exact ih0 _ _ _ _ _)
   | (with_reducible exact ih1 _ _ _ _ _ _ _ _)
   | (with_reducible exact strings_Fields.mono _ _)
   | (with_reducible exact LeO.refl _)
   | (with_reducible exact LeO.none _)
   | (with_reducible refine LeO.ite ?_ ?_)
   | (with_reducible refine LeO.bind ?_ (fun _ => ?_))
theorem lex_sign.mono : ∀ a0 a1 k, LeO (lex_sign.f k a0 a1) (lex_sign.f (k + 1) a0 a1) := by
 intro a0 a1 k
 obtain ⟨ih0, ih1⟩ := lex_sign.mono_l k; unfold lex_sign.f
 repeat' first
   | (with_reducible exact ih0 _ _ _ _ _)
   | (with_reducible exact ih1 _ _ _ _ _ _ _ _)
   | (with_reducible exact strings_Fields.mono _ _)
   | (with_reducible exact LeO.refl _)
   | (with_reducible exact LeO.none _)
   | (with_reducible refine LeO.ite ?_ ?_)
   | (with_reducible refine LeO.bind ?_ (fun _ => ?_))
set_option maxHeartbeats 8000000 in
set_option maxRecDepth 100000 in
theorem lex_sign.calls (k : Nat) (a0 : ByteArray) (a1 : Int) (r : ByteArray) (w : World) (h : lex_sign.f k a0 a1 = some r) (hT : Tab w) :
  Calls Tryd.prog 40 #[.string a0, .int .i64 a1] w fun e w' => e = .returned (.string r) ∧ Below w.heap.size w w' := by
 have HT := Aside0.mk hT; clear hT; have HB := Aside0.mk (Below.refl w.heap.size w); have H : ((some (([(⟨#[62, 62, 62]⟩ : ByteArray), (⟨#[60, 60, 32, 62, 62, 32, 60, 61, 32, 62, 61, 32, 61, 61, 32, 33, 61, 32, 60, 58, 32, 38, 38, 32, 124, 124]⟩ : ByteArray), (⟨#[40, 32, 41, 32, 123, 32, 125, 32, 91, 32, 93, 32, 44, 32, 59, 32, 61, 32, 43, 32, 45, 32, 42, 32, 47, 32, 37, 32, 38, 32, 124, 32, 94, 32, 126, 32, 33, 32, 60, 32, 62]⟩ : ByteArray)] : List ByteArray) : List ByteArray)).bind fun y101 => (lex_sign.l0 k a0 a1 y101 (y101.length : Int) 0)) = some r := h
 clear h; obtain ⟨y101, hy101⟩ : ∃ y_ : List ByteArray, y_ = (([(⟨#[62, 62, 62]⟩ : ByteArray), (⟨#[60, 60, 32, 62, 62, 32, 60, 61, 32, 62, 61, 32, 61, 61, 32, 33, 61, 32, 60, 58, 32, 38, 38, 32, 124, 124]⟩ : ByteArray), (⟨#[40, 32, 41, 32, 123, 32, 125, 32, 91, 32, 93, 32, 44, 32, 59, 32, 61, 32, 43, 32, 45, 32, 42, 32, 47, 32, 37, 32, 38, 32, 124, 32, 94, 32, 126, 32, 33, 32, 60, 32, 62]⟩ : ByteArray)] : List ByteArray)) := ⟨_, rfl⟩; replace H : (lex_sign.l0 k a0 a1 y101 (y101.length : Int) 0) = some r := by first | (with_reducible first | (rw [hy101]; exact H) | exact H) | (have H2_ := (Option.bind_some _ _).symm.trans H; first | with_reducible exact H2_ | (rw [hy101]; exact H2_)) | (rw [hy101]; exact H) | exact H
 have Ny101 := Aside0.mk hy101; clear hy101; have H' := Aside0.mk H
 clear H; go_enter Tryd.func40, Tryd.ntmps40
 go_wp2_with (first | ((with_reducible refine gate_dst (N := 9) rfl ?_); refine Kd.R_lit Kd.string _ 9 ?hg (N := 9) ?hd (xs := ([(⟨#[62, 62, 62]⟩ : ByteArray), (⟨#[60, 60, 32, 62, 62, 32, 60, 61, 32, 62, 61, 32, 61, 61, 32, 33, 61, 32, 60, 58, 32, 38, 38, 32, 124, 124]⟩ : ByteArray), (⟨#[40, 32, 41, 32, 123, 32, 125, 32, 91, 32, 93, 32, 44, 32, 59, 32, 61, 32, 43, 32, 45, 32, 42, 32, 47, 32, 37, 32, 38, 32, 124, 32, 94, 32, 126, 32, 33, 32, 60, 32, 62]⟩ : ByteArray)] : List ByteArray)) (inner := [.string (⟨#[62, 62, 62]⟩ : ByteArray), .string (⟨#[60, 60, 32, 62, 62, 32, 60, 61, 32, 62, 61, 32, 61, 61, 32, 33, 61, 32, 60, 58, 32, 38, 38, 32, 124, 124]⟩ : ByteArray), .string (⟨#[40, 32, 41, 32, 123, 32, 125, 32, 91, 32, 93, 32, 44, 32, 59, 32, 61, 32, 43, 32, 45, 32, 42, 32, 47, 32, 37, 32, 38, 32, 124, 32, 94, 32, 126, 32, 33, 32, 60, 32, 62]⟩ : ByteArray)]) (ok := fun _ => True) (okp := fun _ => True) ?hr ?hp (fun _ hk => hk) trivial (Below.refl _ _) (Nat.le_refl _) (by simp) ?_; (case hd => rfl); (case hg => rfl); (case hr => first | (go_simp; done) | (go_simp; rfl)); (case hp => exact (Reps.one (show Kd.M Kd.string _ _ _ (⟨#[62, 62, 62]⟩ : ByteArray) [.string (⟨#[62, 62, 62]⟩ : ByteArray)] from rfl) (Reps.one (show Kd.M Kd.string _ _ _ (⟨#[60, 60, 32, 62, 62, 32, 60, 61, 32, 62, 61, 32, 61, 61, 32, 33, 61, 32, 60, 58, 32, 38, 38, 32, 124, 124]⟩ : ByteArray) [.string (⟨#[60, 60, 32, 62, 62, 32, 60, 61, 32, 62, 61, 32, 61, 61, 32, 33, 61, 32, 60, 58, 32, 38, 38, 32, 124, 124]⟩ : ByteArray)] from rfl) (Reps.one (show Kd.M Kd.string _ _ _ (⟨#[40, 32, 41, 32, 123, 32, 125, 32, 91, 32, 93, 32, 44, 32, 59, 32, 61, 32, 43, 32, 45, 32, 42, 32, 47, 32, 37, 32, 38, 32, 124, 32, 94, 32, 126, 32, 33, 32, 60, 32, 62]⟩ : ByteArray) [.string (⟨#[40, 32, 41, 32, 123, 32, 125, 32, 91, 32, 93, 32, 44, 32, 59, 32, 61, 32, 43, 32, 45, 32, 42, 32, 47, 32, 37, 32, 38, 32, 124, 32, 94, 32, 126, 32, 33, 32, 60, 32, 62]⟩ : ByteArray)] from rfl) (Reps.none _ _))))); intro v102 w3 ho4 hb hg_ hnew_; clear hg_ hnew_; (first | rw [← Ny101.out] at ho4 | (simp only [Int.reduceToNat] at ho4; rw [← Ny101.out] at ho4)); have n0_ := Aside0.mk (Kd.R_lower ho4 (below_size (by repeat (first | (with_reducible first | exact HB.out | apply below_alloc | apply pw_below_drewN | apply below_drew1) | exact HB.out)))); have n1_ := Aside0.mk (below_step (by repeat (first | (with_reducible first | exact HB.out | apply below_alloc | apply pw_below_drewN | apply below_drew1) | exact HB.out)) hb); clear HB; have HO103 := n0_; have HB := n1_; clear n0_ n1_; clear hb ho4; obtain ⟨Ao5, co5, eo5⟩ := Kd.R_slice HO103.out; subst eo5))
 go_loopg [11] k (fun kq v11 w' => ∃ (x11_1 : Int), v11 = .int .i64 x11_1 ∧ Aside0 (lex_sign.l0 kq a0 a1 y101 (y101.length : Int) x11_1 = some r) ∧ Aside0 (kq ≤ k) ∧ Aside0 (Kd.R Kd.string 9 w' w.heap.size (fun _ => True) (.slice Ao5 y101.length co5) y101) ∧ Aside0 (Below w.heap.size w w'))
 case atStart => exact ⟨(0), (by first | rfl | (simp; done) | (simp [*]; done)), H', ⟨Nat.le_refl _⟩, ⟨by (with_reducible repeat (first | apply Kd.R_alloc | apply Kd.R_drewN | apply Kd.R_drew)); exact HO103.out⟩, ⟨by repeat (first | (with_reducible first | exact HB.out | apply below_alloc | apply pw_below_drewN | apply below_drew1) | exact HB.out)⟩⟩
 case round =>
  clear H'; try clear p2
  try clear c4
  obtain ⟨x11_1, rfl, HA, HK1, HO_9, HB⟩ := hrel; cases gk with
  | zero => exact absurd HA.out (by simp [lex_sign.l0])
  | succ k1 =>
   have H := HA.out; clear HA; simp only [lex_sign.l0] at H
   by_cases c6 : x11_1 < (y101.length : Int)
   ·rw [if_pos c6] at H; have c6b0 : decide (x11_1 < (y101.length : Int)) = true := decide_eq_true c6
    clear c6; by_cases c7 : 0 ≤ x11_1
    ·rw [if_pos c7] at H; have c7b0 : decide (0 ≤ x11_1) = true := decide_eq_true c7
     clear c7; by_cases c8 : x11_1 < (y101.length : Int)
     ·rw [if_pos c8] at H; have c8b0 : decide (x11_1 < (y101.length : Int)) = true := decide_eq_true c8
      clear c8; replace H := Option.bind_eq_some_iff.mp H; obtain ⟨t105, A90, H⟩ := H; replace H : (lex_sign.l1 k1 a0 a1 y101 (y101.length : Int) x11_1 t105 (t105.length : Int) 0) = some r := H; have A9 := Aside0.mk A90; clear A90; have H' := Aside0.mk H
      clear H; have p104 : 0 ≤ (x11_1 : Int) := of_decide_eq_true (by with_reducible assumption)
      have q104 : x11_1 < (y101.length : Int) := of_decide_eq_true (by with_reducible assumption)
      obtain ⟨ad104, e104, hx104_0⟩ := Kd.at_string (Kd.R_reads' HO_9.out).2.2 x11_1 p104 q104; cases e104; replace p104 := eq_true p104; replace q104 := eq_true q104; go_wp2_with (first | ((with_reducible refine gate_callee (f := 37) rfl ?_); refine goesL_ (some 16) rfl rfl Tryd.func37 (by kernel_rfl) rfl #[.string (rdOf ByteArray.empty y101 x11_1)] rfl (by (try simp only [List.map_toArray, List.map_cons, List.map_nil]); first | done | rfl | (simp only [List.length_drop, List.length_take]; rfl)) ?_; (with_reducible refine (strings_Fields.calls k1 (rdOf ByteArray.empty y101 x11_1) t105 _ A9.out (HT.out.below (by repeat (first | (with_reducible first | exact HB.out | apply below_alloc | apply pw_below_drewN | apply below_drew1) | exact HB.out)))).mono ?_); rintro e w10 ⟨v106, rfl, ho0, hb⟩; refine ⟨_, rfl, ?_⟩; have n0_ := Aside0.mk (Kd.R_elder' (by (with_reducible repeat (first | apply Kd.R_alloc | apply Kd.R_drewN | apply Kd.R_drew)); exact HO_9.out) (Kd.R_base ho0) hb); have n1_ := Aside0.mk (Kd.R_lower (Kd.R_new' ho0 (Kd.R_lt (by (with_reducible repeat (first | apply Kd.R_alloc | apply Kd.R_drewN | apply Kd.R_drew)); exact HO_9.out))) (below_size (by repeat (first | (with_reducible first | exact HB.out | apply below_alloc | apply pw_below_drewN | apply below_drew1) | exact HB.out)))); have n2_ := Aside0.mk (below_step (by repeat (first | (with_reducible first | exact HB.out | apply below_alloc | apply pw_below_drewN | apply below_drew1) | exact HB.out)) hb); clear HO_9; clear HB; have HO_9 := n0_; have HO107 := n1_; have HB := n2_; clear n0_ n1_ n2_; (try clear hb); (try clear hb2); (try clear hk); (try clear hi); (try clear ho0); obtain ⟨Ao11, co11, eo11⟩ := Kd.R_slice HO107.out; subst eo11))
      go_loopg [18] k1 (fun kq v18 w' => ∃ (x18_2 : Int), v18 = .int .i64 x18_2 ∧ Aside0 (lex_sign.l1 kq a0 a1 y101 (y101.length : Int) x11_1 t105 (t105.length : Int) x18_2 = some r) ∧ Aside0 (kq ≤ k1) ∧ Aside0 (Kd.R Kd.string 9 w' w.heap.size (fun k_ => some k_ ≠ ((.slice Ao11 t105.length co11) : Value).ownBlock) (.slice (some ad104) y101.length co5) y101) ∧ Aside0 (Kd.R Kd.string 9 w' w.heap.size (fun k_ => some k_ ≠ ((.slice (some ad104) y101.length co5) : Value).ownBlock) (.slice Ao11 t105.length co11) t105) ∧ Aside0 (Below w.heap.size w w'))
      case atStart => exact ⟨(0), (by first | rfl | (simp; done) | (simp [*]; done)), H', ⟨Nat.le_refl _⟩, ⟨by (with_reducible repeat (first | apply Kd.R_alloc | apply Kd.R_drewN | apply Kd.R_drew)); exact Kd.R_mono HO_9.out (fun _ hk => hk.2)⟩, ⟨by (with_reducible repeat (first | apply Kd.R_alloc | apply Kd.R_drewN | apply Kd.R_drew)); exact Kd.R_mono HO107.out (fun _ hk => hk.2)⟩, ⟨by repeat (first | (with_reducible first | exact HB.out | apply below_alloc | apply pw_below_drewN | apply below_drew1) | exact HB.out)⟩⟩
      case round =>
       clear H'; try clear p1
       try clear q1
       try clear hx1
       try clear p2
       try clear c3
       try clear c4
       try clear c6
       try clear c6b0
       try clear c7
       try clear c7b0
       try clear c8
       try clear c8b0
       try clear p10
       try clear q10
       try clear hx10
       try clear hx104_0
       try clear p104
       try clear p2
       try clear q104
       obtain ⟨x18_2, rfl, HA, HK2, HO_9, HO_16, HB⟩ := hrel; cases gk with
       | zero => exact absurd HA.out (by simp [lex_sign.l1])
       | succ k2 =>
        have H := HA.out; clear HA; simp only [lex_sign.l1] at H
        by_cases c12 : x18_2 < (t105.length : Int)
        ·rw [if_pos c12] at H; have c12b0 : decide (x18_2 < (t105.length : Int)) = true := decide_eq_true c12
         clear c12; by_cases c13 : 0 ≤ x18_2
         ·rw [if_pos c13] at H; have c13b0 : decide (0 ≤ x18_2) = true := decide_eq_true c13
          clear c13; by_cases c14 : x18_2 < (t105.length : Int)
          ·rw [if_pos c14] at H; have c14b0 : decide (x18_2 < (t105.length : Int)) = true := decide_eq_true c14
           clear c14; by_cases c15 : 0 ≤ a1
           ·rw [if_pos c15] at H; have c15b0 := eq_true c15; have c15b1 : decide (0 ≤ a1) = true := decide_eq_true c15
            clear c15; by_cases c16 : a1 ≤ (a0.size : Int)
            ·rw [if_pos c16] at H; have c16b0 := eq_true c16; have c16b1 : decide (a1 ≤ (a0.size : Int)) = true := decide_eq_true c16
             clear c16; replace H := Option.bind_eq_some_iff.mp H; obtain ⟨t109, A170, H⟩ := H; replace H : (if t109 = true then (some (rdOf ByteArray.empty t105 x18_2)) else (lex_sign.l1 k2 a0 a1 y101 (y101.length : Int) x11_1 t105 (t105.length : Int) (wrap64 (x18_2 + 1)))) = some r := H
             have A17 := Aside0.mk A170; clear A170; by_cases c18 : t109 = true
             ·subst c18; have H1 : (some (rdOf ByteArray.empty t105 x18_2)) = some r := by rw [if_pos rfl] at H; exact H
              clear H; have H := H1; clear H1; obtain rfl := Option.some.inj H; have p108 : 0 ≤ (x18_2 : Int) := of_decide_eq_true (by with_reducible assumption)
              have q108 : x18_2 < (t105.length : Int) := of_decide_eq_true (by with_reducible assumption)
              obtain ⟨ad108, e108, hx108_0⟩ := Kd.at_string (Kd.R_reads' HO_16.out).2.2 x18_2 p108 q108; cases e108; replace p108 := eq_true p108; replace q108 := eq_true q108; go_wp2_with (first | ((with_reducible refine gate_callee (f := 47) rfl ?_); refine goesL_ (some 26) rfl rfl Tryd.func47 (by kernel_rfl) rfl #[.string (a0.extract (a1 : Int).toNat a0.size), .string (rdOf ByteArray.empty t105 x18_2)] rfl (by (try simp only [List.map_toArray, List.map_cons, List.map_nil]); first | done | rfl | (simp only [List.length_drop, List.length_take]; rfl)) ?_; (with_reducible refine (strings_HasPrefix.calls (a0.extract (a1 : Int).toNat a0.size) (rdOf ByteArray.empty t105 x18_2) true _ A17.out).mono ?_); rintro e w' ⟨rfl, ⟨nd, rfl⟩⟩; refine ⟨_, rfl, ?_⟩))
              go_ret
              exact ⟨by first | rfl | (simp [errW_none, errW_some] <;> rfl) | (simp [*, errW_none, errW_some] <;> rfl), by repeat (first | (with_reducible first | exact HB.out | apply below_alloc | apply pw_below_drewN | apply below_drew1) | exact HB.out)⟩
             ·replace c18 := Bool.eq_false_iff.mpr c18; subst c18; have H1 : (lex_sign.l1 k2 a0 a1 y101 (y101.length : Int) x11_1 t105 (t105.length : Int) (wrap64 (x18_2 + 1))) = some r := by rw [if_neg (show ¬ (false = true) by decide)] at H; exact H
              clear H; have H := H1; clear H1; have H' := Aside0.mk H
              clear H; have p108 : 0 ≤ (x18_2 : Int) := of_decide_eq_true (by with_reducible assumption)
              have q108 : x18_2 < (t105.length : Int) := of_decide_eq_true (by with_reducible assumption)
              obtain ⟨ad108, e108, hx108_0⟩ := Kd.at_string (Kd.R_reads' HO_16.out).2.2 x18_2 p108 q108; cases e108; replace p108 := eq_true p108; replace q108 := eq_true q108; go_wp2_with (first | ((with_reducible refine gate_callee (f := 47) rfl ?_); refine goesL_ (some 26) rfl rfl Tryd.func47 (by kernel_rfl) rfl #[.string (a0.extract (a1 : Int).toNat a0.size), .string (rdOf ByteArray.empty t105 x18_2)] rfl (by (try simp only [List.map_toArray, List.map_cons, List.map_nil]); first | done | rfl | (simp only [List.length_drop, List.length_take]; rfl)) ?_; (with_reducible refine (strings_HasPrefix.calls (a0.extract (a1 : Int).toNat a0.size) (rdOf ByteArray.empty t105 x18_2) false _ A17.out).mono ?_); rintro e w' ⟨rfl, ⟨nd, rfl⟩⟩; refine ⟨_, rfl, ?_⟩))
              go_roundg k2
              case measure => have := HK1.out; have := HK2.out; omega
              case rel => exact ⟨(wrap64 (x18_2 + 1)), (by first | rfl | (simp; done) | (simp [*]; done)), H', ⟨by have := HK1.out; have := HK2.out; omega⟩, ⟨by (with_reducible repeat (first | apply Kd.R_alloc | apply Kd.R_drewN | apply Kd.R_drew)); exact HO_9.out⟩, ⟨by (with_reducible repeat (first | apply Kd.R_alloc | apply Kd.R_drewN | apply Kd.R_drew)); exact HO_16.out⟩, ⟨by repeat (first | (with_reducible first | exact HB.out | apply below_alloc | apply pw_below_drewN | apply below_drew1) | exact HB.out)⟩⟩
            ·rw [if_neg c16] at H; exact absurd H (by simp)
           ·rw [if_neg c15] at H; exact absurd H (by simp)
          ·rw [if_neg c14] at H; exact absurd H (by simp)
         ·rw [if_neg c13] at H; exact absurd H (by simp)
        ·rw [if_neg c12] at H; have c12b0 : decide (x18_2 < (t105.length : Int)) = false := decide_eq_false c12
         clear c12; have H' := Aside0.mk H
         clear H; go_wp2
         go_roundg k2
         case measure => have := HK1.out; have := HK2.out; omega
         case rel => exact ⟨(wrap64 (x11_1 + 1)), (by first | rfl | (simp; done) | (simp [*]; done)), H', ⟨by have := HK1.out; have := HK2.out; omega⟩, ⟨by (with_reducible repeat (first | apply Kd.R_alloc | apply Kd.R_drewN | apply Kd.R_drew)); exact Kd.R_mono HO_9.out (fun _ hk => trivial)⟩, ⟨by repeat (first | (with_reducible first | exact HB.out | apply below_alloc | apply pw_below_drewN | apply below_drew1) | exact HB.out)⟩⟩
     ·rw [if_neg c8] at H; exact absurd H (by simp)
    ·rw [if_neg c7] at H; exact absurd H (by simp)
   ·rw [if_neg c6] at H; have c6b0 : decide (x11_1 < (y101.length : Int)) = false := decide_eq_false c6
    clear c6; obtain rfl := Option.some.inj H; go_wp2
    go_ret
    exact ⟨by first | rfl | (simp [errW_none, errW_some] <;> rfl) | (simp [*, errW_none, errW_some] <;> rfl), by repeat (first | (with_reducible first | exact HB.out | apply below_alloc | apply pw_below_drewN | apply below_drew1) | exact HB.out)⟩
end Go.Proofs.YtplcemlennloaaaDoor.S
end
section
namespace LexM
abbrev By := UInt8
def letter (c : By) : Bool := (decide (97 ≤ c.toNat) && decide (c.toNat ≤ 122)) || (decide (65 ≤ c.toNat) && decide (c.toNat ≤ 90))
def digit (c : By) : Bool := decide (48 ≤ c.toNat) && decide (c.toNat ≤ 57)
def inner (c : By) : Bool := letter c || digit c || c == 95
def blank (c : By) : Bool := c == 32 || c == 9 || c == 10 || c == 13
def words : List (List By) := [[102, 117, 110, 99], [107, 101, 114, 110, 101, 108], [98, 117, 102, 102, 101, 114], [105, 110, 116], [115, 104, 97, 114, 101, 100], [108, 101, 116], [105, 102], [101, 108, 115, 101], [119, 104, 105, 108, 101], [98, 114, 101, 97, 107], [99, 111, 110, 116, 105, 110, 117, 101], [114, 101, 116, 117, 114, 110], [98, 97, 114, 114, 105, 101, 114], [97, 116, 111, 109, 105, 99], [99, 111, 108, 108, 101, 99, 116], [116, 105, 100], [98, 105, 100], [100, 105, 109], [103, 114, 105, 100], [109, 105, 110], [109, 97, 120], [97, 100, 100], [97, 110, 100], [111, 114], [120, 111, 114]]
def signs : List (List By) := [[62, 62, 62], [60, 60], [62, 62], [60, 61], [62, 61], [61, 61], [33, 61], [60, 58], [38, 38], [124, 124], [40], [41], [123], [125], [91], [93], [44], [59], [61], [43], [45], [42], [47], [37], [38], [124], [94], [126], [33], [60], [62]]
def value (n : Nat) : List By → Option Nat
 | [] => some n
 | c :: cs => if 10 * n + (c.toNat - 48) > 2147483648 then none else value (10 * n + (c.toNat - 48)) cs
structure Tk where
 kind : Nat
 text : List By
 num : Nat
 deriving DecidableEq
def ends (l : List By) : Bool := match l with
 | [] => true
 | c :: _ => !inner c
def one (l : List By) : Option Tk := match l with
 | [] => none
 | c :: _ =>
  if letter c then (if l.takeWhile inner ∈ words then some ⟨2, l.takeWhile inner, 0⟩ else if (l.takeWhile inner).length ≤ 16 then some ⟨0, l.takeWhile inner, 0⟩ else none)
  else if digit c then (match value 0 (l.takeWhile digit) with
   | none => none
   | some n => if ends (l.dropWhile digit) then some ⟨1, l.takeWhile digit, n⟩ else none)
  else (signs.find? fun s => s.isPrefixOf l).map fun s => ⟨2, s, 0⟩
def gapc (c : By) : Bool := blank c || c == 35
inductive Lx : Nat → List By → List (Nat × Tk) → Prop
 | nil {a : Nat} : Lx a [] []
 | note {a : Nat} {l : List By} {ts : List (Nat × Tk)} : Lx (a + 1 + (l.takeWhile fun c => c != 10).length) (l.dropWhile fun c => c != 10) ts → Lx a (35 :: l) ts
 | skip {a : Nat} {c : By} {l : List By} {ts : List (Nat × Tk)} : blank c = true → Lx (a + 1) l ts → Lx a (c :: l) ts
 | tok {a : Nat} {c : By} {l : List By} {t : Tk} {ts : List (Nat × Tk)} : gapc c = false → one (c :: l) = some t → Lx (a + t.text.length) ((c :: l).drop t.text.length) ts → Lx a (c :: l) ((a, t) :: ts)
theorem isPrefix_len {s l : List By} (h : s.isPrefixOf l = true) : s.length ≤ l.length := by
 have := List.isPrefixOf_iff_prefix.1 h
 exact this.length_le
theorem signs_ne : ∀ s ∈ signs, s ≠ [] ∧ s.length ≤ 3 := by decide
theorem signs_gap : ∀ s ∈ signs, s.all (fun c => !gapc c && !inner c) = true := by decide
theorem take_inner_ne {c : By} {l : List By} (h : inner c = true) : (c :: l).takeWhile inner ≠ [] := by simp [h]
theorem letter_inner {c : By} (h : letter c = true) : inner c = true := by simp [inner, h]
theorem digit_inner {c : By} (h : digit c = true) : inner c = true := by simp [inner, h]
theorem one_prefix {l : List By} {t : Tk} (h : one l = some t) : t.text <+: l ∧ t.text ≠ [] := by
 cases l with
 | nil => cases h
 | cons c cs =>
  simp only [one] at h
  by_cases h1 : letter c = true
  ·rw [if_pos h1] at h; have hp : (c :: cs).takeWhile inner <+: c :: cs := List.takeWhile_prefix _
   have hn := take_inner_ne (l := cs) (letter_inner h1); by_cases h2 : (c :: cs).takeWhile inner ∈ words
   ·rw [if_pos h2] at h; obtain rfl := Option.some.inj h; exact ⟨hp, hn⟩
   ·rw [if_neg h2] at h; by_cases h3 : ((c :: cs).takeWhile inner).length ≤ 16
    ·rw [if_pos h3] at h; obtain rfl := Option.some.inj h; exact ⟨hp, hn⟩
    ·rw [if_neg h3] at h; cases h
  ·rw [if_neg h1] at h; by_cases h2 : digit c = true
   ·rw [if_pos h2] at h; cases hv : value 0 ((c :: cs).takeWhile digit) with
    | none => rw [hv] at h; cases h
    | some n =>
     rw [hv] at h; simp only at h
     by_cases h3 : ends ((c :: cs).dropWhile digit) = true
     ·rw [if_pos h3] at h; obtain rfl := Option.some.inj h; exact ⟨List.takeWhile_prefix _, by simp [h2]⟩
     ·rw [if_neg h3] at h; cases h
   ·rw [if_neg h2] at h; obtain ⟨s, hs, rfl⟩ := Option.map_eq_some_iff.1 h; have hm := List.mem_of_find?_eq_some hs; exact ⟨List.isPrefixOf_iff_prefix.1 (List.find?_some (p := fun s : List By => s.isPrefixOf (c :: cs)) hs), (signs_ne s hm).1⟩
theorem gap_inner {c : By} (h : gapc c = true) : inner c = false := by
 simp only [gapc, blank, Bool.or_eq_true, beq_iff_eq] at h
 rcases h with (((rfl | rfl) | rfl) | rfl) | rfl <;> decide
theorem letter_gap {c : By} (h : inner c = true) : gapc c = false := by
 cases e : gapc c with
 | false => rfl
 | true => rw [gap_inner e] at h; cases h
def Sep (r : List By) : Prop := r = [] ∨ ∃ c r', r = c :: r' ∧ gapc c = true
theorem Sep.take {r : List By} (h : Sep r) {p : By → Bool} (hp : ∀ c, p c = true → inner c = true) : r.takeWhile p = [] ∧ r.dropWhile p = r := by
 rcases h with rfl | ⟨c, r', rfl, hc⟩
 ·exact ⟨rfl, rfl⟩
 ·have : p c = false := by
   cases e : p c with
   | false => rfl
   | true => have := hp c e; rw [gap_inner hc] at this; cases this
  simp [this]
theorem Sep.ends {r : List By} (h : Sep r) : ends r = true := by
 rcases h with rfl | ⟨c, r', rfl, hc⟩
 ·rfl
 ·simp [LexM.ends, gap_inner hc]
theorem all_takeWhile (p : By → Bool) : ∀ l : List By, ∀ x ∈ l.takeWhile p, p x = true
 | [], x, h => by simp at h
 | c :: cs, x, h => by
  by_cases e : p c = true
  ·rw [List.takeWhile_cons_of_pos e] at h; rcases List.mem_cons.1 h with rfl | h
   ·exact e
   ·exact all_takeWhile p cs x h
  ·rw [List.takeWhile_cons_of_neg e] at h; cases h
theorem takeWhile_app {p : By → Bool} : ∀ {w : List By} (r : List By), (∀ x ∈ w, p x = true) → (w ++ r).takeWhile p = w ++ r.takeWhile p ∧ (w ++ r).dropWhile p = r.dropWhile p
 | [], r, _ => ⟨rfl, rfl⟩
 | c :: w, r, h => by
  have hc := h c List.mem_cons_self; obtain ⟨h1, h2⟩ := takeWhile_app (w := w) r fun x hx => h x (List.mem_cons_of_mem _ hx)
  rw [List.cons_append, List.takeWhile_cons_of_pos hc, List.dropWhile_cons_of_pos hc, h1, h2]; exact ⟨rfl, rfl⟩
theorem one_stable {l r : List By} {t : Tk} (h : one l = some t) (hr : Sep r) : one (t.text ++ r) = some t ∧ ∃ c w, t.text = c :: w ∧ gapc c = false := by
 cases l with
 | nil => cases h
 | cons c cs =>
  simp only [one] at h
  by_cases h1 : letter c = true
  ·rw [if_pos h1] at h; have hw : (c :: cs).takeWhile inner = c :: cs.takeWhile inner := List.takeWhile_cons_of_pos (letter_inner h1)
   have hall := all_takeWhile inner (c :: cs); obtain ⟨r1, _⟩ := hr.take (p := inner) fun _ h => h
   have key : ∀ k n, one ((c :: cs).takeWhile inner ++ r) = (if (c :: cs).takeWhile inner ∈ words then some ⟨2, (c :: cs).takeWhile inner, 0⟩ else if ((c :: cs).takeWhile inner).length ≤ 16 then some ⟨0, (c :: cs).takeWhile inner, 0⟩ else none) ∧ (k : Nat) = k ∧ (n : Nat) = n := fun k n => by
    refine ⟨?_, rfl, rfl⟩
    have e := (takeWhile_app r hall).1; rw [r1, List.append_nil] at e; generalize hw2 : (c :: cs).takeWhile inner = w at *
    subst hw; rw [List.cons_append] at e ⊢
    simp only [one]
    rw [if_pos h1, e]
   have k1 := (key 0 0).1; by_cases h2 : (c :: cs).takeWhile inner ∈ words
   ·rw [if_pos h2] at h k1; obtain rfl := Option.some.inj h; exact ⟨k1, c, _, hw, letter_gap (letter_inner h1)⟩
   ·rw [if_neg h2] at h k1
    by_cases h3 : ((c :: cs).takeWhile inner).length ≤ 16
    ·rw [if_pos h3] at h k1; obtain rfl := Option.some.inj h; exact ⟨k1, c, _, hw, letter_gap (letter_inner h1)⟩
    ·rw [if_neg h3] at h; cases h
  ·rw [if_neg h1] at h; by_cases h2 : digit c = true
   ·rw [if_pos h2] at h; have hw : (c :: cs).takeWhile digit = c :: cs.takeWhile digit := List.takeWhile_cons_of_pos h2
    have hall := all_takeWhile digit (c :: cs); obtain ⟨r1, r2⟩ := hr.take (p := digit) fun _ h => digit_inner h
    have e := takeWhile_app r hall; rw [r1, r2, List.append_nil] at e; cases hv : value 0 ((c :: cs).takeWhile digit) with
    | none => rw [hv] at h; cases h
    | some n =>
     rw [hv] at h; simp only at h
     by_cases h3 : ends ((c :: cs).dropWhile digit) = true
     ·rw [if_pos h3] at h; obtain rfl := Option.some.inj h; refine ⟨?_, c, _, hw, letter_gap (digit_inner h2)⟩
      show one ((c :: cs).takeWhile digit ++ r) = some ⟨1, (c :: cs).takeWhile digit, n⟩
      generalize hw2 : (c :: cs).takeWhile digit = w at *
      subst hw; rw [List.cons_append] at e ⊢
      simp only [one]
      rw [if_neg h1, if_pos h2, e.1, e.2, hv]; simp only
      rw [if_pos hr.ends]
     ·rw [if_neg h3] at h; cases h
   ·rw [if_neg h2] at h; obtain ⟨s, hs, rfl⟩ := Option.map_eq_some_iff.1 h; obtain ⟨hp, as_, bs, hl, hb⟩ := List.find?_eq_some_iff_append.1 hs; have hm : s ∈ signs := by rw [hl]; simp
    have hg := List.all_eq_true.1 (signs_gap s hm); have hsp : s <+: c :: cs := List.isPrefixOf_iff_prefix.1 hp
    obtain ⟨d, w, hsd⟩ := List.exists_cons_of_ne_nil (signs_ne s hm).1; have hd := hg d (by rw [hsd]; exact List.mem_cons_self)
    simp only [Bool.and_eq_true, Bool.not_eq_true'] at hd
    show one (s ++ r) = some ⟨2, s, 0⟩ ∧ ∃ c w, s = c :: w ∧ gapc c = false
    refine ⟨?_, d, w, hsd, hd.1⟩
    have hdl : letter d = false ∧ digit d = false := by
     have := hd.2
     simp only [inner, Bool.or_eq_false_iff] at this
     exact ⟨this.1.1, this.1.2⟩
    have hf : (signs.find? fun s' => s'.isPrefixOf (s ++ r)) = some s := by
     refine List.find?_eq_some_iff_append.2 ⟨List.isPrefixOf_iff_prefix.2 (List.prefix_append _ _), as_, bs, hl, fun s' hs' => ?_⟩
     have hn := hb s' hs'; have hm' : s' ∈ signs := by rw [hl]; exact List.mem_append_left _ hs'
     simp only [Bool.not_eq_true'] at hn ⊢
     cases e : s'.isPrefixOf (s ++ r) with
     | false => rfl
     | true =>
      exfalso
      have hp' := List.isPrefixOf_iff_prefix.1 e
      by_cases hle : s'.length ≤ s.length
      ·have : s' <+: s := List.prefix_of_prefix_length_le hp' (List.prefix_append _ _) hle
       rw [List.isPrefixOf_iff_prefix.2 (this.trans hsp)] at hn; cases hn
      ·-- s' goes on into the rest, which begins with a blank
       have : s <+: s' := List.prefix_of_prefix_length_le (List.prefix_append _ _) hp' (by omega)
       obtain ⟨x, hx⟩ := this; rw [← hx] at hp'
       have hxr : x <+: r := List.prefix_append_right_inj _ |>.1 hp'
       have hxn : x ≠ [] := fun e => hle (by rw [← hx, e]; simp)
       obtain ⟨y, ys, rfl⟩ := List.exists_cons_of_ne_nil hxn; rcases hr with rfl | ⟨q, r', rfl, hq⟩
       ·have := hxr.length_le; simp at this
       ·obtain ⟨z, hz⟩ := hxr; rw [List.cons_append] at hz; injection hz with h5 h6
        have := List.all_eq_true.1 (signs_gap s' hm') y (by rw [← hx]; simp)
        rw [h5, hq] at this; simp at this
    rw [hsd] at hf ⊢
    rw [List.cons_append] at hf ⊢
    simp only [one]
    rw [if_neg (by rw [hdl.1]; simp), if_neg (by rw [hdl.2]; simp), hf]
    rfl
def Gap (g : List By) : Prop := ∀ (a : Nat) (r : List By) (ts : List (Nat × Tk)), Lx (a + g.length) r ts → Lx a (g ++ r) ts
theorem Gap.blank {c : By} (h : blank c = true) : Gap [c] := fun _ _ _ hl => Lx.skip h hl
theorem Gap.app {g g' : List By} (h : Gap g) (h' : Gap g') : Gap (g ++ g') := fun a r ts hl => by
 rw [List.append_assoc]; exact h a _ ts (h' _ r ts (by rw [List.length_append, ← Nat.add_assoc] at hl; exact hl))
theorem Gap.note {w : List By} (h : ∀ x ∈ w, (x != 10) = true) : Gap (35 :: (w ++ [10])) := fun a r ts hl => by
 rw [List.cons_append, List.append_assoc]; obtain ⟨e1, e2⟩ := takeWhile_app (p := fun c => c != 10) ([10] ++ r) h
 have e3 : ([10] ++ r : List By).takeWhile (fun c => c != 10) = [] := by simp
 have e4 : ([10] ++ r : List By).dropWhile (fun c => c != 10) = 10 :: r := by simp
 refine Lx.note ?_
 rw [e1, e2, e3, e4, List.append_nil]; refine Lx.skip (by decide) ?_
 have : a + 1 + w.length + 1 = a + (35 :: (w ++ [10])).length := by simp; omega
 rw [this]; exact hl
theorem lx_tok {a : Nat} {l r : List By} {t : Tk} {ts : List (Nat × Tk)} (ht : one l = some t) (hr : Sep r) (h : Lx (a + t.text.length) r ts) : Lx a (t.text ++ r) ((a, t) :: ts) := by
 obtain ⟨h1, c, w, hc, hg⟩ := one_stable ht hr; have h2 : (t.text ++ r).drop t.text.length = r := by simp
 rw [hc, List.cons_append] at h1 h2 ⊢
 refine Lx.tok hg h1 ?_
 rw [hc, h2, ← hc]; exact h
theorem Lx.toks {a : Nat} {l : List By} {ts : List (Nat × Tk)} (h : Lx a l ts) : ∀ p ∈ ts, ∃ l', one l' = some p.2 := by
 induction h with
 | nil => intro p hp; cases hp
 | note _ ih => exact ih
 | skip _ _ ih => exact ih
 | tok _ h1 _ ih =>
  intro p hp
  rcases List.mem_cons.1 hp with rfl | hp
  ·exact ⟨_, h1⟩
  ·exact ih p hp
theorem Lx.det {a : Nat} {l : List By} {ts ts' : List (Nat × Tk)} (h : Lx a l ts) (h' : Lx a l ts') : ts = ts' := by
 induction h generalizing ts' with
 | nil => cases h'; rfl
 | note _ ih =>
  cases h' with
  | note h => exact ih h
  | skip h _ => exact absurd h (by decide)
  | tok h _ _ => exact absurd h (by decide)
 | skip hb _ ih =>
  cases h' with
  | note _ => exact absurd hb (by decide)
  | skip _ h => exact ih h
  | tok h _ _ => simp [gapc, hb] at h
 | tok hg h1 _ ih =>
  cases h' with
  | note _ => exact absurd hg (by decide)
  | skip h _ => simp [gapc, h] at hg
  | tok _ h2 h3 =>
   rw [h1] at h2; obtain rfl := Option.some.inj h2; rw [ih h3]
def weave (G : Nat → List By) : Nat → List Tk → List By
 | i, [] => G i
 | i, t :: ts => G i ++ (t.text ++ weave G (i + 1) ts)
def Gapped (g : List By) : Prop := Gap g ∧ ∃ c r, g = c :: r ∧ gapc c = true
theorem Gapped.sep {g : List By} (h : Gapped g) (r : List By) : Sep (g ++ r) := by
 obtain ⟨_, c, r', rfl, hc⟩ := h; exact .inr ⟨c, _, rfl, hc⟩
theorem weave_lx {G : Nat → List By} (hG : ∀ i, Gapped (G i)) : ∀ (ts : List Tk) (i a : Nat), (∀ t ∈ ts, ∃ l, one l = some t) → ∃ us, Lx a (weave G i ts) us ∧ us.map Prod.snd = ts
 | [], i, a, _ => ⟨[], by have := (hG i).1 a [] [] Lx.nil; rwa [List.append_nil] at this, rfl⟩
 | t :: ts, i, a, ht => by
  obtain ⟨l, hl⟩ := ht t List.mem_cons_self; obtain ⟨us, h1, h2⟩ := weave_lx hG ts (i + 1) (a + (G i).length + t.text.length) fun t' h => ht t' (List.mem_cons_of_mem _ h)
  refine ⟨(a + (G i).length, t) :: us, (hG i).1 a _ _ (lx_tok hl ?_ h1), by simp [h2]⟩
  cases ts with
  | nil =>
   have := (hG (i + 1)).sep []
   rw [List.append_nil] at this; exact this
  | cons t' ts' => exact (hG (i + 1)).sep _
def joined (g : List By) : List Tk → List By
 | [] => []
 | t :: ts => t.text ++ (match ts with
  | [] => []
  | _ => g ++ joined g ts)
theorem joined_lx {g : List By} (hG : Gapped g) : ∀ (ts : List Tk) (a : Nat), (∀ t ∈ ts, ∃ l, one l = some t) → ∃ us, Lx a (joined g ts) us ∧ us.map Prod.snd = ts
 | [], a, _ => ⟨[], Lx.nil, rfl⟩
 | [t], a, ht => by
  obtain ⟨l, hl⟩ := ht t List.mem_cons_self; exact ⟨[(a, t)], lx_tok hl (.inl rfl) Lx.nil, rfl⟩
 | t :: t' :: ts, a, ht => by
  obtain ⟨l, hl⟩ := ht t List.mem_cons_self; obtain ⟨us, h1, h2⟩ := joined_lx hG (t' :: ts) (a + t.text.length + g.length) fun t' h => ht t' (List.mem_cons_of_mem _ h)
  exact ⟨(a, t) :: us, lx_tok hl (hG.sep _) (hG.1 _ _ _ h1), by simp [h2]⟩
theorem signs_down : signs.Pairwise fun x y => y.length ≤ x.length := by decide
theorem dropWhile_head {p : By → Bool} : ∀ {l : List By} {d : By} {r : List By}, l.dropWhile p = d :: r → p d = false
 | [], _, _, h => by simp at h
 | c :: cs, d, r, h => by
  by_cases e : p c = true
  ·rw [List.dropWhile_cons_of_pos e] at h; exact dropWhile_head h
  ·rw [List.dropWhile_cons_of_neg e] at h; injection h with h1 _
   rw [← h1]; simpa using e
theorem drop_takeWhile (p : By → Bool) (l : List By) : l.drop (l.takeWhile p).length = l.dropWhile p := by
 have h : (l.takeWhile p ++ l.dropWhile p).drop (l.takeWhile p).length = l.dropWhile p := List.drop_left
 rwa [List.takeWhile_append_dropWhile] at h
theorem one_longest {l r : List By} {t : Tk} {d : By} (h : one l = some t) (hr : l.drop t.text.length = d :: r) : (∀ c w, t.text = c :: w → ¬ (inner c = true ∧ inner d = true)) ∧ t.text ++ [d] ∉ signs := by
 cases l with
 | nil => cases h
 | cons c cs =>
  simp only [one] at h
  have out : ∀ {c : By} {w : List By}, inner c = true → (c :: w) ++ [d] ∉ signs := fun {c w} hc hm => by
   have := List.all_eq_true.1 (signs_gap _ hm) c (by simp)
   rw [hc] at this; simp at this
  by_cases h1 : letter c = true
  ·rw [if_pos h1] at h; have hw : (c :: cs).takeWhile inner = c :: cs.takeWhile inner := List.takeWhile_cons_of_pos (letter_inner h1)
   have fin : t.text = (c :: cs).takeWhile inner → (∀ c w, t.text = c :: w → ¬ (inner c = true ∧ inner d = true)) ∧ t.text ++ [d] ∉ signs := fun e => by
    rw [e, drop_takeWhile] at hr; have hd := dropWhile_head hr; refine ⟨fun _ _ _ h => (by rw [hd] at h; simp at h), ?_⟩
    rw [e, hw]; exact out (letter_inner h1)
   by_cases h2 : (c :: cs).takeWhile inner ∈ words
   ·rw [if_pos h2] at h; obtain rfl := Option.some.inj h; exact fin rfl
   ·rw [if_neg h2] at h; by_cases h3 : ((c :: cs).takeWhile inner).length ≤ 16
    ·rw [if_pos h3] at h; obtain rfl := Option.some.inj h; exact fin rfl
    ·rw [if_neg h3] at h; cases h
  ·rw [if_neg h1] at h; by_cases h2 : digit c = true
   ·rw [if_pos h2] at h; have hw : (c :: cs).takeWhile digit = c :: cs.takeWhile digit := List.takeWhile_cons_of_pos h2
    cases hv : value 0 ((c :: cs).takeWhile digit) with
    | none => rw [hv] at h; cases h
    | some n =>
     rw [hv] at h; simp only at h
     by_cases h3 : ends ((c :: cs).dropWhile digit) = true
     ·rw [if_pos h3] at h; obtain rfl := Option.some.inj h; simp only at hr ⊢
      rw [drop_takeWhile] at hr; rw [hr] at h3; have hd : inner d = false := by simpa [ends] using h3
      refine ⟨fun _ _ _ h => (by rw [hd] at h; simp at h), ?_⟩
      rw [hw]; exact out (digit_inner h2)
     ·rw [if_neg h3] at h; cases h
   ·rw [if_neg h2] at h; obtain ⟨s, hs, rfl⟩ := Option.map_eq_some_iff.1 h; obtain ⟨hp, as_, bs, hl, hb⟩ := List.find?_eq_some_iff_append.1 hs; have hm : s ∈ signs := by rw [hl]; simp
    simp only at hr ⊢
    refine ⟨fun c' w' e hcd => ?_, fun hm' => ?_⟩
    ·have := List.all_eq_true.1 (signs_gap s hm) c' (by rw [e]; simp)
     rw [hcd.1] at this; simp at this
    ·have hsp : s <+: c :: cs := List.isPrefixOf_iff_prefix.1 hp
     have hpre : s ++ [d] <+: c :: cs := by
      obtain ⟨x, hx⟩ := hsp; rw [← hx, List.drop_left] at hr; rw [← hx, hr]; exact ⟨r, by simp⟩
     have hpw := signs_down; rw [hl] at hm' hpw
     rcases List.mem_append.1 hm' with h4 | h4
     ·have := hb _ h4
      rw [List.isPrefixOf_iff_prefix.2 hpre] at this; simp at this
     ·rcases List.mem_cons.1 h4 with h4 | h4
      ·have := congrArg List.length h4
       simp at this
      ·have := (List.pairwise_append.1 hpw).2.1
       have := (List.pairwise_cons.1 this).1 _ h4
       simp at this
       omega
def gapsB (opn last : Bool) : List By → Bool
 | [] => last || !opn
 | c :: cs => if c == 10 then gapsB false last cs else if c == 35 then gapsB true last cs else if !opn && !blank c then false else gapsB opn last cs
def covered (s : List By) : Nat → List (Nat × Tk) → Prop
 | n, [] => gapsB false true (s.drop n) = true
 | n, (p, t) :: ts => n ≤ p ∧ t.text ≠ [] ∧ p + t.text.length ≤ s.length ∧ (s.drop p).take t.text.length = t.text ∧ gapsB false false ((s.drop n).take (p - n)) = true ∧ covered s (p + t.text.length) ts
theorem gapsB_note (last : Bool) : ∀ (w more : List By), (∀ x ∈ w, (x != 10) = true) → gapsB true last (w ++ more) = gapsB true last more
 | [], _, _ => rfl
 | c :: w, more, h => by
  have hc := h c List.mem_cons_self; have ih := gapsB_note last w more fun x hx => h x (List.mem_cons_of_mem _ hx)
  rw [List.cons_append, gapsB]; have : (c == 10) = false := by simpa using hc
  rw [this, if_neg (by simp)]
  split
  ·exact ih
  ·simpa using ih
theorem piece_app (s : List By) (n a k : Nat) (h : n ≤ a) : (s.drop n).take (a + k - n) = (s.drop n).take (a - n) ++ (s.drop a).take k := by
 have e : a + k - n = (a - n) + k := by omega
 rw [e, List.take_add, List.drop_drop]; congr 2
 congr 1
 omega
theorem lx_cov (s : List By) {a : Nat} {l : List By} {ts : List (Nat × Tk)} (h : Lx a l ts) : l = s.drop a → ∀ n, n ≤ a → ((∀ last more, gapsB false last ((s.drop n).take (a - n) ++ more) = gapsB false last more) ∨ ((∀ last more, gapsB false last ((s.drop n).take (a - n) ++ more) = gapsB true last more) ∧ (l = [] ∨ ∃ r, l = 10 :: r))) → covered s n ts := by
 induction h with
 | @nil a =>
  intro hl n hn hg
  have e : s.drop n = (s.drop n).take (a - n) ++ [] := by
   rw [List.append_nil, List.take_of_length_le]; have := congrArg List.length hl
   simp at this ⊢
   omega
  show gapsB false true (s.drop n) = true
  rw [e]; rcases hg with hg | ⟨hg, _⟩
  ·rw [hg]; rfl
  ·rw [hg]; rfl
 | @note a l ts _ ih =>
  intro hl n hn hg
  rcases hg with hg | ⟨_, hg | ⟨r, hg⟩⟩
  ·have hd : l = s.drop (a + 1) := by
    have := congrArg List.tail hl
    simpa [List.tail_drop] using this
   have hk : l.dropWhile (fun c => c != 10) = s.drop (a + 1 + (l.takeWhile fun c => c != 10).length) := by
    rw [← drop_takeWhile, ← List.drop_drop, ← hd]
   refine ih hk n (by omega) (.inr ⟨fun last more => ?_, ?_⟩)
   ·have e1 : a + 1 + (l.takeWhile fun c => c != 10).length = a + (1 + (l.takeWhile fun c => c != 10).length) := by omega
    have e2 : (s.drop a).take (1 + (l.takeWhile fun c => c != 10).length) = 35 :: l.takeWhile fun c => c != 10 := by
     rw [← hl, Nat.add_comm, List.take_succ_cons]; congr 1
     have : (l.takeWhile (fun c => c != 10) ++ l.dropWhile fun c => c != 10).take (l.takeWhile fun c => c != 10).length = l.takeWhile fun c => c != 10 := List.take_left
     rwa [List.takeWhile_append_dropWhile] at this
    rw [e1, piece_app s n a _ hn, e2, List.append_assoc, hg, List.cons_append]; rw [gapsB, if_neg (by decide), if_pos (by decide)]
    exact gapsB_note last _ _ (all_takeWhile _ _)
   ·cases e : l.dropWhile (fun c => c != 10) with
    | nil => exact .inl rfl
    | cons d r =>
     have := dropWhile_head e
     have hd10 : d = 10 := by simpa using this
     exact .inr ⟨r, by rw [hd10]⟩
  ·cases hg
  ·injection hg with h1 _; cases h1
 | @skip a c l ts hb _ ih =>
  intro hl n hn hg
  have hd : l = s.drop (a + 1) := by
   have := congrArg List.tail hl
   simpa [List.tail_drop] using this
  have e2 : (s.drop a).take 1 = [c] := by rw [← hl]; rfl
  refine ih hd n (by omega) (.inl fun last more => ?_)
  rw [piece_app s n a 1 hn, e2, List.append_assoc]; rcases hg with hg | ⟨hg, hg2 | ⟨r, hg2⟩⟩
  ·rw [hg, List.singleton_append, gapsB]; split
   ·rfl
   ·rw [if_neg (by intro h; obtain rfl := beq_iff_eq.1 h; revert hb; decide), hb]
    simp
  ·cases hg2
  ·injection hg2 with h1 _
   subst h1; rw [hg, List.singleton_append, gapsB, if_pos (by decide)]
 | @tok a c l t ts hgc h1 _ ih =>
  intro hl n hn hg
  obtain ⟨hp, hne⟩ := one_prefix h1; have hlen := hp.length_le; have hL : (c :: l).length = s.length - a := by rw [hl]; simp
  rcases hg with hg | ⟨_, hg | ⟨r, hg⟩⟩
  ·refine ⟨hn, hne, by simp only [List.length_cons] at hL hlen; omega, ?_, ?_, ?_⟩
   ·rw [← hl]; exact (List.prefix_iff_eq_take.1 hp).symm
   ·have := hg false []
    rw [List.append_nil] at this; rw [this]; rfl
   ·refine ih (by rw [hl, List.drop_drop]) _ (Nat.le_refl _) (.inl fun last more => ?_)
    rw [Nat.sub_self, List.take_zero, List.nil_append]
  ·cases hg
  ·injection hg with h1 _
   subst h1; exact absurd hgc (by decide)
inductive Er : Nat → List By → Nat → Prop
 | note {a e : Nat} {l : List By} : Er (a + 1 + (l.takeWhile fun c => c != 10).length) (l.dropWhile fun c => c != 10) e → Er a (35 :: l) e
 | skip {a e : Nat} {c : By} {l : List By} : blank c = true → Er (a + 1) l e → Er a (c :: l) e
 | tok {a e : Nat} {c : By} {l : List By} {t : Tk} : gapc c = false → one (c :: l) = some t → Er (a + t.text.length) ((c :: l).drop t.text.length) e → Er a (c :: l) e
 | here {a : Nat} {c : By} {l : List By} : gapc c = false → one (c :: l) = none → Er a (c :: l) a
theorem lx_or_er : ∀ (n : Nat) (a : Nat) (l : List By), l.length ≤ n → (∃ ts, Lx a l ts) ∨ ∃ e, Er a l e
 | _, a, [], _ => .inl ⟨[], Lx.nil⟩
 | 0, a, c :: l, h => by simp at h
 | n + 1, a, c :: l, h => by
  simp only [List.length_cons] at h
  by_cases h1 : c = 35
  ·subst h1; have hd : (l.dropWhile fun c => c != 10).length ≤ l.length := (List.dropWhile_sublist _).length_le
   rcases lx_or_er n (a + 1 + (l.takeWhile fun c => c != 10).length) (l.dropWhile fun c => c != 10) (by omega) with ⟨ts, h⟩ | ⟨e, h⟩
   ·exact .inl ⟨ts, Lx.note h⟩
   ·exact .inr ⟨e, Er.note h⟩
  ·by_cases h2 : blank c = true
   ·rcases lx_or_er n (a + 1) l (by omega) with ⟨ts, h⟩ | ⟨e, h⟩
    ·exact .inl ⟨ts, Lx.skip h2 h⟩
    ·exact .inr ⟨e, Er.skip h2 h⟩
   ·have hg : gapc c = false := by
     simp only [gapc, Bool.or_eq_false_iff]
     exact ⟨by simpa using h2, by simpa using h1⟩
    cases ht : one (c :: l) with
    | none => exact .inr ⟨a, Er.here hg ht⟩
    | some t =>
     have hne := (one_prefix ht).2; have hpos : 0 < t.text.length := List.length_pos_iff.2 hne
     rcases lx_or_er n (a + t.text.length) ((c :: l).drop t.text.length) (by simp; omega) with ⟨ts, h⟩ | ⟨e, h⟩
     ·exact .inl ⟨_, Lx.tok hg ht h⟩
     ·exact .inr ⟨e, Er.tok hg ht h⟩
def isName (l : List By) : Bool := (match l with
 | [] => false
 | c :: _ => letter c) && l.all inner && decide (l.length ≤ 16) && !(words.contains l)
end LexM
end
section
namespace Go.Proofs.YtplcemlennloaaaDoor.B
open Go Go.RowKit Go.Shelf Go.Proofs.YtplcemlennloaaaDoorW.PrintWords Go.Proofs.YtplcemlennloaaaDoorW.PrintLast Go.Proofs.YtplcemlennloaaaDoorW.PrintMore Go.Proofs.YtplcemlennloaaaDoor Go.Proofs.YtplcemlennloaaaDoor.A
open Go.Maps (Keyed)
theorem law : Keyed Tryd.prog 9 := Go.Maps.string_keyed Tryd.underlying9
def wbytes : ByteArray := ⟨([102, 117, 110, 99, 32, 107, 101, 114, 110, 101, 108, 32, 98, 117, 102, 102, 101, 114, 32, 105, 110, 116, 32, 115, 104, 97, 114, 101, 100, 32, 108, 101, 116, 32, 105, 102, 32, 101, 108, 115, 101, 32, 119, 104, 105, 108, 101, 32, 98, 114, 101, 97, 107, 32, 99, 111, 110, 116, 105, 110, 117, 101, 32, 114, 101, 116, 117, 114, 110, 32, 98, 97, 114, 114, 105, 101, 114, 32, 97, 116, 111, 109, 105, 99, 32, 99, 111, 108, 108, 101, 99, 116, 32, 116, 105, 100, 32, 98, 105, 100, 32, 100, 105, 109, 32, 103, 114, 105, 100, 32, 109, 105, 110, 32, 109, 97, 120, 32, 97, 100, 100, 32, 97, 110, 100, 32, 111, 114, 32, 120, 111, 114] : List UInt8).toArray⟩
theorem wfields : (Lib.fields wbytes.data.toList) = LexM.words := by decide +kernel
def WordsD {H : Type} (D : DataW H) (j : Nat) : Prop := ∀ l : List UInt8, D.atKey (.string l) (.lit (.bool false)) = .lit (.bool ((LexM.words.take j).contains l))
theorem wascii : ∀ (j : Nat) b, wbytes.data.toList[j]? = some b → b.toNat < 128 := fun j b h => by
 have : ∀ b ∈ wbytes.data.toList, b.toNat < 128 := by decide +kernel
 exact this b (List.mem_of_getElem? h)
set_option maxHeartbeats 2000000 in
set_option maxRecDepth 100000 in
theorem words_calls {H : Type} (w : World) (hT : Tab w) : Calls Tryd.prog 23 #[] w fun e w' => ∃ (mb n : Nat) (D : DataW H), e = .returned (.map (some mb)) ∧ w.heap.size ≤ mb ∧ w'.ownsMap Tryd.prog 9 (plainElem Tryd.prog 4) mb n D ∧ WordsD D 25 ∧ Below w.heap.size w w' := by
 have cF := fields_calls wbytes (w.alloc (.map #[] 0)) (by decide) wascii (hT.below (below_alloc (Below.refl _ _) _))
 rw [wfields, show LexM.words.length = 25 from rfl] at cF; have hmm := @run_makeMap Tryd.prog; go_enter Tryd.func23, Tryd.ntmps23
 go_wp2_with (first | (go_at_call 37; refine cF.mono ?_; rintro e w' ⟨rfl, rfl⟩))
 clear cF hmm; go_loopg [7] 25 (fun g v7 wx => ∃ (j : Nat) (D : DataW H), j + g = 25 ∧ v7 = .int .i64 j ∧ Aside0 (WordsD D j) ∧ Aside0 (wx.ownsMap Tryd.prog 9 (plainElem Tryd.prog 4) w.heap.size j D) ∧ Aside0 (((w.alloc (.map #[] 0)).alloc (.cells (LexM.words.map fun l => Value.string ⟨l.toArray⟩).toArray 9)).grownBy wx (some w.heap.size)))
 case atStart => exact ⟨0, .map [], by omega, rfl, ⟨fun l => rfl⟩, ⟨(World.ownsMap_made _ _ _ _).alloc _⟩, ⟨World.grownBy.refl _ _⟩⟩
 case round =>
  obtain ⟨j, D, hj, rfl, HD, HM, HG⟩ := hrel; cases gk with
  | zero =>
   obtain rfl : j = 25 := by omega
   go_wp2
   go_ret
   refine ⟨w.heap.size, rfl, Nat.le_refl _, ?_⟩
   exact ⟨25, D, HM.out, HD.out, (below_alloc (below_alloc (Below.refl _ _) _) _).grown HG.out (by simp; omega) (fun k hk => by injection hk with hk; omega)⟩
  | succ gk =>
   have hjl : j < 25 := by omega
   obtain ⟨l, hl⟩ : ∃ l : List UInt8, l = LexM.words[j]'(show j < LexM.words.length from hjl) := ⟨_, rfl⟩; obtain ⟨x, hx⟩ : ∃ x : ByteArray, x = ⟨l.toArray⟩ := ⟨_, rfl⟩; have hcell : wr.cell? ⟨w.heap.size + 1, j, none⟩ = some (.string x) := by
    refine cell_grown HG.out ((blk_cell (new_at _ (by simp)) j).trans ?_) (by simp)
    rw [hx, hl]; rw [List.getElem?_toArray, List.getElem?_map, List.getElem?_eq_getElem (show j < LexM.words.length from hjl)]; rfl
   have hxl : x.data.toList = l := by rw [hx]
   have hxs : x.size ≤ maxLen := by
    have h1 : ∀ l ∈ LexM.words, l.length ≤ 10 := by decide
    have h2 := h1 l (hl ▸ List.getElem_mem (show j < LexM.words.length from hjl)); rw [← hxl, data_length] at h2; unfold maxLen; omega
   have hkey : keyOf Tryd.prog 9 (.string x) = some (.string x.data.toList) := Go.WideMaps.keyOf_string_mk Tryd.underlying9 hxs
   clear hx; go_wp2_with (first | (at_mapUpdate; refine wpList_mapUpdate_own _ rfl _ _ _ 41 rfl 9 4 law Tryd.underlying41 _ w.heap.size j _ rfl HM.out (by unfold maxLen; omega) _ _ _ rfl rfl hkey _ [] (plainElem_bool Tryd.underlying4 true) ?_; intro w1 hown1 hg1))
   go_roundg gk
   case rel =>
    refine ⟨j + 1, _, by omega, by go_num, ⟨fun l' => ?_⟩, ⟨hown1⟩, ⟨HG.out.trans hg1⟩⟩
    have ht : LexM.words.take (j + 1) = LexM.words.take j ++ [l] := by rw [List.take_succ_eq_append_getElem (show j < LexM.words.length from hjl), hl]
    have hKl : WideAt.IsKeyLit (.string x.data.toList) := law.key hkey
    by_cases e : l' = l
    ·subst e; rw [ht, ← hxl, Maps.atKey_put_same HM.out.isMap hKl]; simp
    ·have e2 : (Lit.string l') ≠ Lit.string x.data.toList := fun h => e (by rw [hxl] at h; injection h)
     rw [Maps.atKey_put_other e2, HD.out l', ht]; simp [e]
   case measure => omega
end Go.Proofs.YtplcemlennloaaaDoor.B
end
section
namespace Go.Proofs.YtplcemlennloaaaDoor.B
open Go Go.RowKit Go.Proofs.YtplcemlennloaaaDoorW.PrintWords Go.Proofs.YtplcemlennloaaaDoor Go.Proofs.YtplcemlennloaaaDoor.A
def lex_isWord.f (a0 : ByteArray) : Option Bool := if a0.size ≤ maxLen then some (LexM.words.contains a0.data.toList) else none
theorem look_word {H : Type} {w : World} {mb n : Nat} {D : DataW H} (hown : w.ownsMap Tryd.prog 9 (plainElem Tryd.prog 4) mb n D) (hD : WordsD D 25) (s : ByteArray) (hs : s.size ≤ maxLen) :
  (Instr.lookup 41 (.map (some mb)) (.string s) false).run Tryd.prog w = .ok (.bool (LexM.words.contains s.data.toList)) w := by
 obtain ⟨v, ps, hrun, hv⟩ := hown.lookup law Tryd.underlying41 (z := .bool false) rfl (plainElem_bool Tryd.underlying4 false) (Go.WideMaps.keyOf_string_mk Tryd.underlying9 hs); rw [hD] at hv; rw [show LexM.words.take 25 = LexM.words from rfl] at hv; rw [hrun]; congr 1
 unfold plainElem at hv
 cases v <;> simp_all
end Go.Proofs.YtplcemlennloaaaDoor.B
end
section
namespace Go.Proofs.YtplcemlennloaaaDoor.B
open Go Go.RowKit Go.Proofs.YtplcemlennloaaaDoorW.PrintWords Go.Proofs.YtplcemlennloaaaDoor Go.Proofs.YtplcemlennloaaaDoor.A
def Known (w : World) (mb : Nat) : Prop := ∃ (n : Nat) (D : DataW Unit), w.ownsMap Tryd.prog 9 (plainElem Tryd.prog 4) mb n D ∧ WordsD D 25
theorem Known.lt {w : World} {mb : Nat} (h : Known w mb) : mb < w.heap.size := by
 obtain ⟨n, D, h, _⟩ := h; exact h.lt
theorem Known.belowB {w w' : World} {mb B : Nat} (h : Known w mb) (hb : Below B w w') (hm : mb < B) : Known w' mb := by
 obtain ⟨n, D, ⟨es, clock, hk, F, hs, hD⟩, hW⟩ := h; exact ⟨n, D, ⟨es, clock, (hb.block mb hm).trans hk, F, hs, hD⟩, hW⟩
theorem Known.below {w w' : World} {mb : Nat} (h : Known w mb) (hb : Below w.heap.size w w') : Known w' mb := h.belowB hb h.lt
theorem words_known (w : World) (hT : Tab w) : Calls Tryd.prog 23 #[] w fun e w' => ∃ mb : Nat, e = .returned (.map (some mb)) ∧ w.heap.size ≤ mb ∧ Known w' mb ∧ Below w.heap.size w w' :=
 (words_calls (H := Unit) w hT).mono fun _ _ ⟨mb, n, D, he, hl, ho, hD, hb⟩ => ⟨mb, he, hl, ⟨n, D, ho, hD⟩, hb⟩
theorem known_look {w : World} {ops : Array Oper} {rest : List Oper} {o : Oper} {a : Act} {Q : Exit → Act → World → Prop}
  (hg : o.guard = none) (m x : Operand) (hop : o.op = Op.lookup 41 m x false) (mb : Nat) (hm : a.eval m = .map (some mb)) (hk : Known w mb) (s : ByteArray) (hx : a.eval x = .string s) (b : Bool) (hb : lex_isWord.f s = some b)
  (hK : wpList Tryd.prog ops Q rest (a.put o.dst (.bool b)) w) : wpList Tryd.prog ops Q (o :: rest) a w := by
 unfold lex_isWord.f at hb
 by_cases hs : s.size ≤ maxLen
 case neg => rw [if_neg hs] at hb; cases hb
 rw [if_pos hs] at hb; obtain rfl := Option.some.inj hb; obtain ⟨n, D, ho, hD⟩ := hk; refine wpList_plain hg fun K' hK' => ?_
 have hrun := look_word ho hD s hs; unfold Oper.wp
 simp [execOp, hop, hm, hx, hrun, Result.andThen]
 exact hK' _ _ (by simpa using hK)
end Go.Proofs.YtplcemlennloaaaDoor.B
namespace Go.Proofs.YtplcemlennloaaaDoor.B
open Go Go.RowKit Go.Proofs.YtplcemlennloaaaDoorW.PrintWords Go.Proofs.YtplcemlennloaaaDoor Go.Proofs.YtplcemlennloaaaDoor.A
def lex_words.f : Option Int := some 0
theorem toks_post {wq w w' : World} {v : Value} {r : List S30} (hq : Below wq.heap.size wq w) (h2 : Kd.R k30 30 w' w.heap.size (fun _ => True) v r) (h3 : Below w.heap.size w w') :
  Kd.R k30 30 w' wq.heap.size (fun _ => True) v r ∧ Below wq.heap.size wq w' := ⟨Kd.R_lower h2 hq.size, hq.trans (h3.mono hq.size)⟩
end Go.Proofs.YtplcemlennloaaaDoor.B
namespace Go.Proofs.YtplcemlennloaaaDoor.B
open Go Go.RowKit Go.Proofs.YtplcemlennloaaaDoorW.PrintWords Go.Proofs.YtplcemlennloaaaDoor Go.Proofs.YtplcemlennloaaaDoor.A
theorem known_run {w : World} {mb : Nat} (hk : Known w mb) (s : ByteArray) {b : Bool} (hb : lex_isWord.f s = some b) : (Instr.lookup 41 (.map (some mb)) (.string s) false).run Tryd.prog w = .ok (.bool b) w := by
 unfold lex_isWord.f at hb
 by_cases hs : s.size ≤ maxLen
 case neg => rw [if_neg hs] at hb; cases hb
 rw [if_pos hs] at hb; obtain rfl := Option.some.inj hb; obtain ⟨n, D, ho, hD⟩ := hk; exact look_word ho hD s hs
end Go.Proofs.YtplcemlennloaaaDoor.B
end
section
namespace Go.Proofs.YtplcemlennloaaaDoor.N
open Go.RowKit Go.Proofs.YtplcemlennloaaaDoorW.PrintWords Go.Proofs.YtplcemlennloaaaDoorW.PrintLast Go.Proofs.YtplcemlennloaaaDoorW.PrintMore Go.Proofs.YtplcemlennloaaaDoor Go.Proofs.YtplcemlennloaaaDoor.A Go.Proofs.YtplcemlennloaaaDoor.B Go.Proofs.YtplcemlennloaaaDoor.S
set_option linter.unusedVariables false
set_option linter.unusedSimpArgs false
mutual
def lex_Name.j0 : Nat → ByteArray → Bool → Option (Bool)
 | 0, _, _ => none
 | k + 1, x0, x21 => if x21 = true then (some false) else (lex_Name.l0 k x0 (x0.size : Int) 0)
def lex_Name.l0 : Nat → ByteArray → Int → Int → Option (Bool)
 | 0, _, _, _ => none
 | k + 1, x0, x23, x24 => if x24 < x23 then (if 0 ≤ x24 then (if x24 < (x0.size : Int) then ((lex_inner.f (bt x0 x24)).bind fun t104 => (if t104 = true then (lex_Name.l0 k x0 x23 (wrap64 (x24 + 1))) else (some false))) else (none)) else (none)) else (some true)
end
def lex_Name.f (k : Nat) (a0 : ByteArray) : Option (Bool) := if a0.toList = ([] : List UInt8) then (lex_Name.j0 k a0 true) else (if (a0.size : Int) > 16 then (lex_Name.j0 k a0 true) else (if 0 < (a0.size : Int) then ((lex_letter.f (bt a0 0)).bind fun t101 => (if t101 = true then ((lex_words.f).bind fun t102 => ((lex_isWord.f a0).bind fun t103 => (lex_Name.j0 k a0 t103))) else (lex_Name.j0 k a0 true))) else (none)))
theorem lex_Name.mono_l : ∀ k, (∀ y0 y1, LeO (lex_Name.j0 k y0 y1) (lex_Name.j0 (k + 1) y0 y1)) ∧ (∀ y0 y1 y2, LeO (lex_Name.l0 k y0 y1 y2) (lex_Name.l0 (k + 1) y0 y1 y2))
 | 0 => ⟨fun _ _ r h => by simp [lex_Name.j0] at h, fun _ _ _ r h => by simp [lex_Name.l0] at h⟩
 | k + 1 => by
  obtain ⟨ih0, ih1⟩ := lex_Name.mono_l k; refine ⟨?_, ?_⟩
  ·intro y0 y1
   unfold lex_Name.j0
   repeat' first
   | (with_reducible exact ih0 _ _)
   | (with_reducible exact ih1 _ _ _)
   | (with_reducible exact LeO.refl _)
   | (with_reducible exact LeO.none _)
   | (with_reducible refine LeO.ite ?_ ?_)
   | (with_reducible refine LeO.bind ?_ (fun _ => ?_))
  ·intro y0 y1 y2
   unfold lex_Name.l0
   repeat' first
   | (with_reducible exact ih0 _ _)
   | (with_reducible exact ih1 _ _ _)
   | (with_reducible exact LeO.refl _)
   | (with_reducible exact LeO.none _)
   | (with_reducible refine LeO.ite ?_ ?_)
   | (with_reducible refine LeO.bind ?_ (fun _ => ?_))
theorem lex_Name.mono : ∀ a0 k, LeO (lex_Name.f k a0) (lex_Name.f (k + 1) a0) := by
 intro a0 k
 obtain ⟨ih0, ih1⟩ := lex_Name.mono_l k; unfold lex_Name.f
 repeat' first
   | (with_reducible exact ih0 _ _)
   | (with_reducible exact ih1 _ _ _)
   | (with_reducible exact LeO.refl _)
   | (with_reducible exact LeO.none _)
   | (with_reducible refine LeO.ite ?_ ?_)
   | (with_reducible refine LeO.bind ?_ (fun _ => ?_))
set_option maxHeartbeats 8000000 in
set_option maxRecDepth 100000 in
theorem lex_Name.calls (k : Nat) (a0 : ByteArray) (r : Bool) (w : World) (h : lex_Name.f k a0 = some r) (hT : Tab w) :
  Calls Tryd.prog 14 #[.string a0] w fun e w' => e = .returned (.bool r) ∧ Below w.heap.size w w' := by
 have HT := Aside0.mk hT; clear hT; have HB := Aside0.mk (Below.refl w.heap.size w); have H : (if a0.toList = ([] : List UInt8) then (lex_Name.j0 k a0 true) else (if (a0.size : Int) > 16 then (lex_Name.j0 k a0 true) else (if 0 < (a0.size : Int) then ((lex_letter.f (bt a0 0)).bind fun t101 => (if t101 = true then ((lex_words.f).bind fun t102 => ((lex_isWord.f a0).bind fun t103 => (lex_Name.j0 k a0 t103))) else (lex_Name.j0 k a0 true))) else (none)))) = some r := h
 clear h; have HC2 := Aside0.mk H; clear H; go_enter Tryd.func14, Tryd.ntmps14
 go_upto_region 1 with (fail)
 go_cut [21] (fun v21 wc => ∃ (kq : Nat) (x21_1 : Bool), v21 = .bool x21_1 ∧ Aside0 (lex_Name.j0 kq a0 x21_1 = some r) ∧ Aside0 (kq ≤ k) ∧ Aside0 (Below w.heap.size w wc))
 case first =>
  have H := HC2.out; clear HC2; by_cases c3 : a0.toList = ([] : List UInt8)
  ·rw [if_pos c3] at H; have c3b0 : (a0.toList == ([] : List UInt8)) = true := beq_iff_eq.mpr c3
   have c3b1 : (a0.toList != ([] : List UInt8)) = false := bne_eq_false_iff_eq.mpr c3
   clear c3; (first | rw [c3b0] | (simp only [i64_w, i32_w]; rw [c3b0]) | skip)
   have H' := Aside0.mk H
   clear H; go_wp2
   go_meet
   case rel => exact ⟨_, (true), (by first | rfl | (simp; done) | (simp [*]; done)), H', ⟨by first | omega | exact Nat.le_refl _⟩, ⟨by repeat (first | (with_reducible first | exact HB.out | apply below_alloc | apply pw_below_drewN | apply below_drew1) | exact HB.out)⟩⟩
  ·rw [if_neg c3] at H; have c3b0 : (a0.toList == ([] : List UInt8)) = false := beq_eq_false_iff_ne.mpr c3
   have c3b1 : (a0.toList != ([] : List UInt8)) = true := bne_iff_ne.mpr c3
   (first | rw [c3b0] | (simp only [i64_w, i32_w]; rw [c3b0]) | skip)
   by_cases c4 : (a0.size : Int) > 16
   ·rw [if_pos c4] at H; have c4b0 : decide (16 < (a0.size : Int)) = true := decide_eq_true c4
    have c4b1 : decide (16 < a0.size) = true := decide_eq_true (by omega)
    clear c4; have H' := Aside0.mk H
    clear H; go_wp2
    go_meet
    case rel => exact ⟨_, (true), (by first | rfl | (simp; done) | (simp [*]; done)), H', ⟨by first | omega | exact Nat.le_refl _⟩, ⟨by repeat (first | (with_reducible first | exact HB.out | apply below_alloc | apply pw_below_drewN | apply below_drew1) | exact HB.out)⟩⟩
   ·rw [if_neg c4] at H; have c4b0 : decide (16 < (a0.size : Int)) = false := decide_eq_false c4
    have c4b1 : decide (16 < a0.size) = false := decide_eq_false (by omega)
    clear c4; by_cases c5 : 0 < (a0.size : Int)
    ·rw [if_pos c5] at H; have c5b0 : decide (0 < (a0.size : Int)) = true := decide_eq_true c5
     have c5b1 : decide (0 < a0.size) = true := decide_eq_true (by omega)
     clear c5; replace H := Option.bind_eq_some_iff.mp H; obtain ⟨t101, A70, H⟩ := H; replace H : (if t101 = true then ((lex_words.f).bind fun t102 => ((lex_isWord.f a0).bind fun t103 => (lex_Name.j0 k a0 t103))) else (lex_Name.j0 k a0 true)) = some r := H
     have A7 := Aside0.mk A70; clear A70; by_cases c8 : t101 = true
     ·subst c8; have H1 : ((lex_words.f).bind fun t102 => ((lex_isWord.f a0).bind fun t103 => (lex_Name.j0 k a0 t103))) = some r := by rw [if_pos rfl] at H; exact H
      clear H; have H := H1; clear H1; replace H := Option.bind_eq_some_iff.mp H; obtain ⟨t102, A90, H⟩ := H; replace H : ((lex_isWord.f a0).bind fun t103 => (lex_Name.j0 k a0 t103)) = some r := H
      have A9 := Aside0.mk A90; clear A90; replace H := Option.bind_eq_some_iff.mp H; obtain ⟨t103, A100, H⟩ := H; replace H : (lex_Name.j0 k a0 t103) = some r := H; have A10 := Aside0.mk A100; clear A100; have H' := Aside0.mk H
      clear H; have p6 : 0 ≤ (0 : Int) := (by omega)
      have q6 : 0 < a0.size := (by have : (0 : Int) < (a0.size : Int) := of_decide_eq_true (by with_reducible assumption); omega)
      have hx6 : ∀ h : 0 < a0.size, ((a0[0]'h).toNat : Int) = bt a0 0 := bt_at a0 0
      clear p6; have qi6 : (0 < (a0.size : Int)) = True := eq_true (of_decide_eq_true (by with_reducible assumption))
      replace q6 := eq_true q6; go_wp2_with (first | (go_at_call 28; (with_reducible refine (lex_letter.calls (bt a0 0) true _ A7.out).mono ?_); rintro e w' ⟨rfl, ⟨nd, rfl⟩⟩) | (go_at_call 23; (with_reducible refine (words_known _ (HT.out.below (by repeat (first | (with_reducible first | exact HB.out | apply below_alloc | apply pw_below_drewN | apply below_drew1 | refine below_set ?_ (by assumption)) | exact HB.out)))).mono ?_); rintro e w11 ⟨mb, rfl, hmb_, hkn_, hb⟩; have HKn := Aside0.mk hkn_; clear hkn_ hmb_; have hlk_ := known_run HKn.out a0 A10.out; have n0_ := Aside0.mk (below_step (by repeat (first | (with_reducible first | exact HB.out | apply below_alloc | apply pw_below_drewN | apply below_drew1) | exact HB.out)) hb); clear HB; have HB := n0_; clear n0_; (try clear hb); (try clear hb2); (try clear hk); (try clear hi)) | (at_lookup; refine known_look rfl _ _ rfl _ rfl HKn.out _ rfl _ A10.out ?_))
      go_meet
      case rel => exact ⟨_, (t103), (by first | rfl | (simp; done) | (simp [*]; done)), H', ⟨by first | omega | exact Nat.le_refl _⟩, ⟨by repeat (first | (with_reducible first | exact HB.out | apply below_alloc | apply pw_below_drewN | apply below_drew1) | exact HB.out)⟩⟩
     ·replace c8 := Bool.eq_false_iff.mpr c8; subst c8; have H1 : (lex_Name.j0 k a0 true) = some r := by rw [if_neg (show ¬ (false = true) by decide)] at H; exact H
      clear H; have H := H1; clear H1; have H' := Aside0.mk H
      clear H; have p6 : 0 ≤ (0 : Int) := (by omega)
      have q6 : 0 < a0.size := (by have : (0 : Int) < (a0.size : Int) := of_decide_eq_true (by with_reducible assumption); omega)
      have hx6 : ∀ h : 0 < a0.size, ((a0[0]'h).toNat : Int) = bt a0 0 := bt_at a0 0
      clear p6; have qi6 : (0 < (a0.size : Int)) = True := eq_true (of_decide_eq_true (by with_reducible assumption))
      replace q6 := eq_true q6; go_wp2_with (first | (go_at_call 28; (with_reducible refine (lex_letter.calls (bt a0 0) false _ A7.out).mono ?_); rintro e w' ⟨rfl, ⟨nd, rfl⟩⟩))
      go_meet
      case rel => exact ⟨_, (true), (by first | rfl | (simp; done) | (simp [*]; done)), H', ⟨by first | omega | exact Nat.le_refl _⟩, ⟨by repeat (first | (with_reducible first | exact HB.out | apply below_alloc | apply pw_below_drewN | apply below_drew1) | exact HB.out)⟩⟩
    ·rw [if_neg c5] at H; exact absurd H (by simp)
 case rest =>
  clear HC2; try clear c1
  try clear p2
  try clear c3
  try clear c3b0
  try clear c3b1
  try clear c4
  try clear c4b0
  try clear c4b1
  try clear c5
  try clear c5b0
  try clear c5b1
  try clear p6
  try clear q6
  try clear hx6
  try clear qi6
  try clear c8
  try clear p6
  try clear q6
  obtain ⟨kq, x21_1, rfl, HA, HJ1, HB⟩ := hcut; cases kq with
  | zero => exact absurd HA.out (by simp [lex_Name.j0])
  | succ kj1 =>
   have H := HA.out; clear HA; simp only [lex_Name.j0] at H
   by_cases c12 : x21_1 = true
   ·subst c12; have H1 : (some false) = some r := by rw [if_pos rfl] at H; exact H
    clear H; have H := H1; clear H1; obtain rfl := Option.some.inj H; go_wp2
    go_ret
    exact ⟨by first | rfl | (simp [errW_none, errW_some] <;> rfl) | (simp [*, errW_none, errW_some] <;> rfl), by repeat (first | (with_reducible first | exact HB.out | apply below_alloc | apply pw_below_drewN | apply below_drew1) | exact HB.out)⟩
   ·replace c12 := Bool.eq_false_iff.mpr c12; subst c12; have H1 : (lex_Name.l0 kj1 a0 (a0.size : Int) 0) = some r := by rw [if_neg (show ¬ (false = true) by decide)] at H; exact H
    clear H; have H := H1; clear H1; have H' := Aside0.mk H
    clear H; go_wp2
    go_loopg [24] kj1 (fun kq v24 w' => ∃ (x24_2 : Int), v24 = .int .i64 x24_2 ∧ Aside0 (lex_Name.l0 kq a0 (a0.size : Int) x24_2 = some r) ∧ Aside0 (kq ≤ kj1) ∧ Aside0 (Below w.heap.size w w'))
    case atStart => exact ⟨(0), (by first | rfl | (simp; done) | (simp [*]; done)), H', ⟨Nat.le_refl _⟩, ⟨by repeat (first | (with_reducible first | exact HB.out | apply below_alloc | apply pw_below_drewN | apply below_drew1) | exact HB.out)⟩⟩
    case round =>
     clear H'; try clear c1
     try clear p2
     try clear c3
     try clear c3b0
     try clear c3b1
     try clear c4
     try clear c4b0
     try clear c4b1
     try clear c5
     try clear c5b0
     try clear c5b1
     try clear p6
     try clear q6
     try clear hx6
     try clear qi6
     try clear c8
     try clear c12
     try clear p2
     try clear p6
     try clear q6
     obtain ⟨x24_2, rfl, HA, HK2, HB⟩ := hrel; cases gk with
     | zero => exact absurd HA.out (by simp [lex_Name.l0])
     | succ k2 =>
      have H := HA.out; clear HA; simp only [lex_Name.l0] at H
      by_cases c13 : x24_2 < (a0.size : Int)
      ·rw [if_pos c13] at H; have c13b0 : decide (x24_2 < (a0.size : Int)) = true := decide_eq_true c13
       clear c13; by_cases c14 : 0 ≤ x24_2
       ·rw [if_pos c14] at H; have c14b0 : decide (0 ≤ x24_2) = true := decide_eq_true c14
        clear c14; by_cases c15 : x24_2 < (a0.size : Int)
        ·rw [if_pos c15] at H; have c15b0 : decide (x24_2 < (a0.size : Int)) = true := decide_eq_true c15
         clear c15; replace H := Option.bind_eq_some_iff.mp H; obtain ⟨t104, A170, H⟩ := H; replace H : (if t104 = true then (lex_Name.l0 k2 a0 (a0.size : Int) (wrap64 (x24_2 + 1))) else (some false)) = some r := H
         have A17 := Aside0.mk A170; clear A170; by_cases c18 : t104 = true
         ·subst c18; have H1 : (lex_Name.l0 k2 a0 (a0.size : Int) (wrap64 (x24_2 + 1))) = some r := by rw [if_pos rfl] at H; exact H
          clear H; have H := H1; clear H1; have H' := Aside0.mk H
          clear H; have p16 : 0 ≤ (x24_2 : Int) := of_decide_eq_true (by with_reducible assumption)
          have q16 : x24_2 < (a0.size : Int) := of_decide_eq_true (by with_reducible assumption)
          have hx16 := bt_at a0 x24_2; replace p16 := eq_true p16; replace q16 := eq_true q16; go_wp2_with (first | ((with_reducible refine gate_callee (f := 29) rfl ?_); refine goesL_ (some 30) rfl rfl Tryd.func29 (by kernel_rfl) rfl #[.int .u8 (bt a0 x24_2)] rfl (by (try simp only [List.map_toArray, List.map_cons, List.map_nil]); first | done | rfl | (simp only [List.length_drop, List.length_take]; rfl)) ?_; (with_reducible refine (lex_inner.calls (bt a0 x24_2) true _ A17.out).mono ?_); rintro e w' ⟨rfl, ⟨nd, rfl⟩⟩; refine ⟨_, rfl, ?_⟩))
          go_roundg k2
          case measure => have := HJ1.out; have := HK2.out; omega
          case rel => exact ⟨(wrap64 (x24_2 + 1)), (by first | rfl | (simp; done) | (simp [*]; done)), H', ⟨by have := HJ1.out; have := HK2.out; omega⟩, ⟨by repeat (first | (with_reducible first | exact HB.out | apply below_alloc | apply pw_below_drewN | apply below_drew1) | exact HB.out)⟩⟩
         ·replace c18 := Bool.eq_false_iff.mpr c18; subst c18; have H1 : (some false) = some r := by rw [if_neg (show ¬ (false = true) by decide)] at H; exact H
          clear H; have H := H1; clear H1; obtain rfl := Option.some.inj H; have p16 : 0 ≤ (x24_2 : Int) := of_decide_eq_true (by with_reducible assumption)
          have q16 : x24_2 < (a0.size : Int) := of_decide_eq_true (by with_reducible assumption)
          have hx16 := bt_at a0 x24_2; replace p16 := eq_true p16; replace q16 := eq_true q16; go_wp2_with (first | ((with_reducible refine gate_callee (f := 29) rfl ?_); refine goesL_ (some 30) rfl rfl Tryd.func29 (by kernel_rfl) rfl #[.int .u8 (bt a0 x24_2)] rfl (by (try simp only [List.map_toArray, List.map_cons, List.map_nil]); first | done | rfl | (simp only [List.length_drop, List.length_take]; rfl)) ?_; (with_reducible refine (lex_inner.calls (bt a0 x24_2) false _ A17.out).mono ?_); rintro e w' ⟨rfl, ⟨nd, rfl⟩⟩; refine ⟨_, rfl, ?_⟩))
          go_ret
          exact ⟨by first | rfl | (simp [errW_none, errW_some] <;> rfl) | (simp [*, errW_none, errW_some] <;> rfl), by repeat (first | (with_reducible first | exact HB.out | apply below_alloc | apply pw_below_drewN | apply below_drew1) | exact HB.out)⟩
        ·rw [if_neg c15] at H; exact absurd H (by simp)
       ·rw [if_neg c14] at H; exact absurd H (by simp)
      ·rw [if_neg c13] at H; have c13b0 : decide (x24_2 < (a0.size : Int)) = false := decide_eq_false c13
       clear c13; obtain rfl := Option.some.inj H; go_wp2
       go_ret
       exact ⟨by first | rfl | (simp [errW_none, errW_some] <;> rfl) | (simp [*, errW_none, errW_some] <;> rfl), by repeat (first | (with_reducible first | exact HB.out | apply below_alloc | apply pw_below_drewN | apply below_drew1) | exact HB.out)⟩
end Go.Proofs.YtplcemlennloaaaDoor.N
end
