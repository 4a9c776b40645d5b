/- Texts of this claim, cut down to what its theorem uses and laid end to end (wip/shake.py). -/
import Derived.ArgAppend
import Derived.Below
import Derived.BigQuiet
import Derived.ChangeOld
import Derived.ChangeVars
import Derived.Deep.AppendLies
import Derived.Deep.CutBlock
import Derived.Deep.DeepCutAuto
import Derived.Deep.Draws
import Derived.Deep.LoopGhost
import Derived.Deep.OwnRows
import Derived.Deep.QuietTactic
import Derived.Deep.RegionHeld3
import Derived.Deep.Slices
import Derived.KernelRfl
import Derived.LaidLaws
import Derived.LaidMore
import Derived.Laws.BitsLemmas
import Derived.Laws.BytesArg
import Derived.Laws.IdiomCopy
import Derived.Laws.MakeOwn
import Derived.Laws.OwnMore
import Derived.Laws.Rows
import Derived.Laws.Slices
import Derived.Laws.StructEq
import Derived.Lay
import Derived.Lib.AppendStr
import Derived.Lib.ConvBytes
import Derived.Lib.LaidTab
import Derived.Maps.AppendAt
import Derived.Maps.OwnOps
import Derived.Maps.OwnSet
import Derived.OpenShut
import Derived.OrdersHeld
import Derived.OwnWalk
import Derived.ProofKit
import Derived.RowKit
import Derived.RowKit3
import Derived.SevenTiedAt
import Derived.Shelf.Strings.BuilderK
import Derived.Shelf.Strings.Fields
import Derived.ShutString
import Derived.SizedLaws
import Derived.Stop.Joined
import Derived.StringKeys
import Derived.Tactics
import Derived.Test.YtplcemlennloaaaDoorCards
import Derived.Test.YtplcemlennloaaaDoorProg
import Derived.Test.YtplcemlennloaaaDoorRows
import Derived.Test.YtplcemlennloaaaDoorTie
import Derived.WalkKit
import Derived.WideLaws
import Derived.Test.YtplcemlennloaaaDoorKT1
section
namespace Go.Proofs.YtplcemlennloaaaDoor.M
open Go.RowKit Go.Proofs.YtplcemlennloaaaDoorW.PrintWords Go.Proofs.YtplcemlennloaaaDoorW.PrintLast Go.Proofs.YtplcemlennloaaaDoorW.PrintMore Go.Proofs.YtplcemlennloaaaDoor.A
open LexM (letter digit inner gapc value ends one words signs Tk Lx Er)
def Evt {α : Type} (f : Nat → Option α) (r : α) : Prop := ∃ K, ∀ k, K ≤ k → f k = some r
section
variable {α β : Type} {f g : Nat → Option α} {r a : α} {b : β}
theorem Evt.const (r : α) : Evt (fun _ => some r) r := ⟨0, fun _ _ => rfl⟩
theorem Evt.succ (h : Evt (fun k => f (k + 1)) r) : Evt f r := by
 obtain ⟨K, h⟩ := h; refine ⟨K + 1, fun k hk => ?_⟩
 obtain ⟨j, rfl⟩ : ∃ j, k = j + 1 := ⟨k - 1, by omega⟩
 exact h j (by omega)
theorem Evt.bind {h : Nat → α → Option β} (h1 : Evt f a) (h2 : Evt (fun k => h k a) b) : Evt (fun k => (f k).bind (h k)) b := by
 obtain ⟨K, h1⟩ := h1; obtain ⟨L, h2⟩ := h2; refine ⟨max K L, fun k hk => ?_⟩
 simp only [h1 k (by omega), Option.bind_some]
 exact h2 k (by omega)
theorem Evt.pos {c : Prop} [Decidable c] (hc : c) (h : Evt f r) : Evt (fun k => if c then f k else g k) r := by
 simpa only [if_pos hc] using h
theorem Evt.neg {c : Prop} [Decidable c] (hc : ¬ c) (h : Evt g r) : Evt (fun k => if c then f k else g k) r := by
 simpa only [if_neg hc] using h
theorem Evt.of_mono (hm : ∀ k, LeO (f k) (f (k + 1))) {k : Nat} (h : f k = some r) : Evt f r := by
 refine ⟨k, fun j hj => ?_⟩
 obtain ⟨d, rfl⟩ := Nat.exists_eq_add_of_le hj; induction d with
 | zero => exact h
 | succ d ih => exact hm _ r (ih (by omega))
theorem Evt.get (h : Evt f r) : ∃ k, f k = some r := by
 obtain ⟨K, h⟩ := h; exact ⟨K, h K (Nat.le_refl _)⟩
end
theorem wrap64_id {x : Int} (h0 : -9223372036854775808 ≤ x) (h1 : x < 9223372036854775808) : wrap64 x = x := by
 unfold wrap64; omega
theorem wrap_succ (i : Nat) (h : i < 9223372036854775807) : wrap64 ((i : Int) + 1) = ((i + 1 : Nat) : Int) := by
 rw [wrap64_id (by omega) (by omega)]; omega
abbrev bs (s : ByteArray) : List UInt8 := s.data.toList
theorem bs_len (s : ByteArray) : (bs s).length = s.size := data_length s
theorem bt_nat (s : ByteArray) (i : Nat) (h : i < s.size) : bt s (i : Int) = ((bs s)[i]'(by rw [bs_len]; exact h)).toNat := by
 unfold bt
 rw [dif_pos (by simpa using h)]
 simp only [Int.toNat_natCast, bs, Array.getElem_toList]
 rfl
theorem bt_drop (s : ByteArray) (i : Nat) {c : UInt8} {l : List UInt8} (h : (bs s).drop i = c :: l) : i < s.size ∧ bt s (i : Int) = c.toNat := by
 have hi : i < (bs s).length := by
  rcases Nat.lt_or_ge i (bs s).length with h1 | h1
  ·exact h1
  ·rw [List.drop_of_length_le h1] at h; cases h
 have e := List.drop_eq_getElem_cons hi; rw [h] at e; injection e with e1 _
 rw [bs_len] at hi; exact ⟨hi, by rw [bt_nat s i hi, e1]⟩
theorem bt_end (s : ByteArray) (i : Nat) (h : (bs s).drop i = []) : s.size ≤ i := by
 have := congrArg List.length h
 rw [List.length_drop, bs_len] at this; simp at this
 omega
theorem drop_next {s : ByteArray} {i : Nat} {c : UInt8} {l : List UInt8} (h : (bs s).drop i = c :: l) : (bs s).drop (i + 1) = l := by
 have := congrArg List.tail h
 simpa [List.tail_drop] using this
theorem letter_r (c : UInt8) : r2_letter.f (c.toNat : Int) = some (letter c) := by
 unfold r2_letter.f letter
 have e1 : ((c.toNat : Int) ≥ 97) ↔ 97 ≤ c.toNat := by omega
 have e2 : ((c.toNat : Int) ≤ 122) ↔ c.toNat ≤ 122 := by omega
 have e3 : ((c.toNat : Int) ≥ 65) ↔ 65 ≤ c.toNat := by omega
 have e4 : ((c.toNat : Int) ≤ 90) ↔ c.toNat ≤ 90 := by omega
 simp only [e1, e2, e3, e4]
 by_cases h1 : 97 ≤ c.toNat <;> by_cases h2 : c.toNat ≤ 122 <;> by_cases h3 : 65 ≤ c.toNat <;> simp [h1, h2, h3]
theorem digit_r (c : UInt8) : r2_digit.f (c.toNat : Int) = some (digit c) := by
 unfold r2_digit.f digit
 by_cases h1 : 48 ≤ c.toNat <;> by_cases h2 : c.toNat ≤ 57 <;> (repeat' split) <;> simp_all <;> omega
theorem eq_byte (c : UInt8) (n : Nat) (hn : n < 256) : ((c.toNat : Int) = (n : Int)) ↔ c = UInt8.ofNat n := by
 constructor
 ·intro h
  have h2 : c.toNat = n := by omega
  apply UInt8.toNat_inj.1
  rw [h2, UInt8.toNat_ofNat']; omega
 ·rintro rfl
  rw [UInt8.toNat_ofNat']; have : n % 2 ^ 8 = n := by omega
  omega
theorem beq_byte (c : UInt8) (n : Nat) (hn : n < 256) : ((c.toNat : Int) == (n : Int)) = (c == UInt8.ofNat n) := by
 rw [Bool.eq_iff_iff]; simp only [beq_iff_eq]
 exact eq_byte c n hn
theorem inner_r (c : UInt8) : r2_Inner.f (c.toNat : Int) = some (inner c) := by
 unfold r2_Inner.f inner
 rw [letter_r, digit_r]; have h := beq_byte c 95 (by omega)
 cases letter c <;> cases digit c <;> simp_all
theorem blank_r (c : UInt8) : r2_Blank.f (c.toNat : Int) = some (LexM.blank c) := by
 unfold r2_Blank.f LexM.blank
 have h1 : ((c.toNat : Int) = 32) ↔ c = 32 := eq_byte c 32 (by omega)
 have h2 : ((c.toNat : Int) = 9) ↔ c = 9 := eq_byte c 9 (by omega)
 have h3 : ((c.toNat : Int) = 10) ↔ c = 10 := eq_byte c 10 (by omega)
 have h4 : ((c.toNat : Int) == 13) = (c == 13) := beq_byte c 13 (by omega)
 by_cases e1 : c = 32
 ·rw [if_pos (h1.2 e1)]; simp [e1]
 ·rw [if_neg (fun h => e1 (h1.1 h))]
  by_cases e2 : c = 9
  ·rw [if_pos (h2.2 e2)]; simp [e2]
  ·rw [if_neg (fun h => e2 (h2.1 h))]
   by_cases e3 : c = 10
   ·rw [if_pos (h3.2 e3)]; simp [e3]
   ·rw [if_neg (fun h => e3 (h3.1 h))]
    rw [h4]; simp [e1, e2, e3]
theorem end_word (s : ByteArray) (hs : s.size ≤ 100000) : ∀ (l : List UInt8) (i : Nat), (bs s).drop i = l → Evt (fun k => r2_end.l0 k s (i : Int) false) ((i + (l.takeWhile inner).length : Nat) : Int)
 | [], i, h => by
  have := bt_end s i h
  refine Evt.succ ?_
  simp only [r2_end.l0]
  exact Evt.neg (by omega) (Evt.const _)
 | c :: l, i, h => by
  obtain ⟨hi, hb⟩ := bt_drop s i h; have ih := end_word s hs l (i + 1) (drop_next h); refine Evt.succ ?_
  simp only [r2_end.l0, hb, digit_r, inner_r, Option.bind_some, wrap_succ i (by omega)]
  refine Evt.pos (by omega) (Evt.pos (by omega) ?_)
  by_cases hd : digit c = true
  ·refine Evt.pos hd ?_
   rw [List.takeWhile_cons_of_pos (LexM.digit_inner hd), List.length_cons]; have e : i + ((l.takeWhile inner).length + 1) = i + 1 + (l.takeWhile inner).length := by omega
   rw [e]; exact ih
  ·refine Evt.neg hd (Evt.neg (by simp) ?_)
   by_cases hn : inner c = true
   ·refine Evt.pos hn ?_
    rw [List.takeWhile_cons_of_pos hn, List.length_cons]; have e : i + ((l.takeWhile inner).length + 1) = i + 1 + (l.takeWhile inner).length := by omega
    rw [e]; exact ih
   ·refine Evt.neg hn ?_
    rw [List.takeWhile_cons_of_neg hn]; exact Evt.const _
theorem end_num (s : ByteArray) (hs : s.size ≤ 100000) : ∀ (l : List UInt8) (i : Nat), (bs s).drop i = l → Evt (fun k => r2_end.l0 k s (i : Int) true) ((i + (l.takeWhile digit).length : Nat) : Int)
 | [], i, h => by
  have := bt_end s i h
  refine Evt.succ ?_
  simp only [r2_end.l0]
  exact Evt.neg (by omega) (Evt.const _)
 | c :: l, i, h => by
  obtain ⟨hi, hb⟩ := bt_drop s i h; have ih := end_num s hs l (i + 1) (drop_next h); refine Evt.succ ?_
  simp only [r2_end.l0, hb, digit_r, inner_r, Option.bind_some, wrap_succ i (by omega)]
  refine Evt.pos (by omega) (Evt.pos (by omega) ?_)
  by_cases hd : digit c = true
  ·refine Evt.pos hd ?_
   rw [List.takeWhile_cons_of_pos hd, List.length_cons]; have e : i + ((l.takeWhile digit).length + 1) = i + 1 + (l.takeWhile digit).length := by omega
   rw [e]; exact ih
  ·refine Evt.neg hd (Evt.pos (by first | rfl | trivial) ?_)
   rw [List.takeWhile_cons_of_neg hd]; exact Evt.const _
theorem bs_extract (s : ByteArray) (a b : Nat) : bs (s.extract a b) = ((bs s).drop a).take (b - a) := by
 simp [bs, ByteArray.data_extract]
theorem value_ev (s : ByteArray) (hs : s.size ≤ 100000) : ∀ (l : List UInt8) (i n : Nat), (bs s).drop i = l → (∀ c ∈ l, digit c = true) → n ≤ 2147483648 →
  Evt (fun k => r2_Value.l0 k s (n : Int) (i : Int)) (match value n l with
   | none => (0, false)
   | some m => ((m : Int), true))
 | [], i, n, h, _, _ => by
  have := bt_end s i h
  refine Evt.succ ?_
  simp only [r2_Value.l0]
  exact Evt.neg (by omega) (Evt.const _)
 | c :: l, i, n, h, hd, hn => by
  obtain ⟨hi, hb⟩ := bt_drop s i h; have hc := hd c List.mem_cons_self; simp only [digit, Bool.and_eq_true, decide_eq_true_eq] at hc
  have e1 : wrap64 (10 * (n : Int)) = 10 * (n : Int) := wrap64_id (by omega) (by omega)
  have e2 : ((c.toNat : Int) - 48) % 256 = ((c.toNat - 48 : Nat) : Int) := by omega
  have e3 : wrap64 (10 * (n : Int) + ((c.toNat - 48 : Nat) : Int)) = ((10 * n + (c.toNat - 48) : Nat) : Int) := by rw [wrap64_id (by omega) (by omega)]; omega
  refine Evt.succ ?_
  simp only [r2_Value.l0, hb, e1, e2, e3, wrap_succ i (by omega)]
  refine Evt.pos (by omega) (Evt.pos (by omega) ?_)
  by_cases hg : 10 * n + (c.toNat - 48) > 2147483648
  ·rw [value, if_pos hg]; exact Evt.pos (by omega) (Evt.const _)
  ·rw [value, if_neg hg]; exact Evt.neg (by omega) (value_ev s hs l (i + 1) _ (drop_next h) (fun x hx => hd x (List.mem_cons_of_mem _ hx)) (by omega))
theorem starts_r (s t : ByteArray) (i : Nat) (hs : s.size ≤ 100000) (ht : t.size ≤ 100000) (hi : i ≤ s.size) : r2_starts.f s (i : Int) t = some ((bs t).isPrefixOf ((bs s).drop i)) := by
 unfold r2_starts.f
 have e : wrap64 ((i : Int) + (t.size : Int)) = ((i + t.size : Nat) : Int) := by rw [wrap64_id (by omega) (by omega)]; omega
 rw [e]; by_cases h : ((i + t.size : Nat) : Int) ≤ (s.size : Int)
 ·rw [if_pos h, if_pos (by omega), if_pos (by omega)]
  congr 1
  rw [Bool.eq_iff_iff, beq_iff_eq, List.isPrefixOf_iff_prefix, List.prefix_iff_eq_take]; have e1 : (s.extract (i : Int).toNat (((i + t.size : Nat) : Int)).toNat).toList = ((bs s).drop i).take t.size := by
   rw [ByteArray.toList_eq]; show bs _ = _
   rw [bs_extract, Int.toNat_natCast, Int.toNat_natCast, Nat.add_sub_cancel_left]
  rw [e1, ByteArray.toList_eq, bs_len]; exact ⟨fun h => h.symm, fun h => h.symm⟩
 ·rw [if_neg h]; congr 1
  symm
  rw [Bool.eq_false_iff]; intro hp
  have := (List.isPrefixOf_iff_prefix.1 hp).length_le
  rw [List.length_drop, bs_len, bs_len] at this; omega
end Go.Proofs.YtplcemlennloaaaDoor.M
end
section
namespace Go.Proofs.YtplcemlennloaaaDoor.M
open Go.RowKit Go.Proofs.YtplcemlennloaaaDoorW.PrintWords Go.Proofs.YtplcemlennloaaaDoorW.PrintLast Go.Proofs.YtplcemlennloaaaDoorW.PrintMore Go.Proofs.YtplcemlennloaaaDoor.A
open LexM (letter digit inner gapc value ends one words signs Tk Lx Er)
theorem rdOf_nat {α : Type} (d : α) (xs : List α) (i : Nat) (h : i < xs.length) : rdOf d xs (i : Int) = xs[i] := by simp [rdOf, h]
theorem bs_inj {s t : ByteArray} (h : bs s = bs t) : s = t := ByteArray.ext (Array.toList_inj.mp h)
theorem in_ev (s : ByteArray) (L : List ByteArray) (hL : L.length ≤ 100000) : ∀ (m j : Nat), j + m = L.length → Evt (fun k => r2_In.l0 k s L (j : Int)) (decide (bs s ∈ (L.drop j).map bs))
 | 0, j, hm => by
  refine Evt.succ ?_
  simp only [r2_In.l0]
  rw [List.drop_of_length_le (show L.length ≤ j by omega)]
  exact Evt.neg (by omega) (Evt.const _)
 | m + 1, j, hm => by
  have ih := in_ev s L hL m (j + 1) (by omega)
  have hj : j < L.length := by omega
  refine Evt.succ ?_
  simp only [r2_In.l0, rdOf_nat ByteArray.empty L j hj, wrap_succ j (by omega), ByteArray.toList_eq]
  refine Evt.pos (by omega) (Evt.pos (by omega) ?_)
  rw [List.drop_eq_getElem_cons hj, List.map_cons]; by_cases e : L[j].data.toList = s.data.toList
  ·have : bs s ∈ bs L[j] :: (L.drop (j + 1)).map bs := by rw [show bs s = bs L[j] from e.symm]; exact List.mem_cons_self
   rw [decide_eq_true this]; exact Evt.pos e (Evt.const _)
  ·have : (bs s ∈ bs L[j] :: (L.drop (j + 1)).map bs) ↔ bs s ∈ (L.drop (j + 1)).map bs := by
    rw [List.mem_cons]; exact ⟨fun h => h.resolve_left (fun h => e h.symm), .inr⟩
   simp only [this]
   exact Evt.neg e ih
theorem sgn_ev (s : ByteArray) (hs : s.size ≤ 100000) (i : Nat) (hi : i ≤ s.size) (L : List ByteArray) (hL : L.length ≤ 100000) (ht : ∀ t ∈ L, t.size ≤ 100000) : ∀ (m j : Nat), j + m = L.length → Evt (fun k => r2_one.l0 k s (i : Int) L (j : Int)) (match (L.drop j).find? (fun t => (bs t).isPrefixOf ((bs s).drop i)) with
   | some t => (2, (i : Int), t, 0, true)
   | none => (0, 0, (⟨#[]⟩ : ByteArray), 0, false))
 | 0, j, hm => by
  refine Evt.succ ?_
  simp only [r2_one.l0]
  rw [List.drop_of_length_le (show L.length ≤ j by omega)]
  exact Evt.neg (by omega) (Evt.const _)
 | m + 1, j, hm => by
  have ih := sgn_ev s hs i hi L hL ht m (j + 1) (by omega)
  have hj : j < L.length := by omega
  refine Evt.succ ?_
  simp only [r2_one.l0, rdOf_nat ByteArray.empty L j hj, wrap_succ j (by omega), starts_r s L[j] i hs (ht _ (List.getElem_mem hj)) hi, Option.bind_some]
  refine Evt.pos (by omega) (Evt.pos (by omega) ?_)
  rw [List.drop_eq_getElem_cons hj, List.find?_cons]; by_cases e : (bs L[j]).isPrefixOf ((bs s).drop i) = true
  ·rw [e]; exact Evt.pos (by first | rfl | trivial) (Evt.const _)
  ·rw [Bool.eq_false_iff.2 e]; exact Evt.neg (by simp) ih
theorem words_r : ∃ L, r2_Words.f = some L ∧ L.map bs = words := ⟨_, rfl, rfl⟩
theorem signs_r : ∃ L, r2_Signs.f = some L ∧ L.map bs = signs := ⟨_, rfl, rfl⟩
theorem wrap32_0 : wrap32 0 = 0 := by first | rfl | (unfold wrap32; omega) | simp [wrap32]
theorem piece_take (s : ByteArray) (i : Nat) {l w : List UInt8} (h : (bs s).drop i = l) (hw : w <+: l) : bs (s.extract (i : Int).toNat (((i + w.length : Nat) : Int)).toNat) = w ∧ i + w.length ≤ s.size ∨ l = [] := by
 cases l with
 | nil => exact .inr rfl
 | cons c l =>
  left
  have hl := congrArg List.length h; rw [List.length_drop, bs_len] at hl; have := hw.length_le
  simp only [List.length_cons] at hl this
  refine ⟨?_, by omega⟩
  rw [bs_extract, Int.toNat_natCast, Int.toNat_natCast, Nat.add_sub_cancel_left, h]; exact (List.prefix_iff_eq_take.1 hw).symm
theorem one_ev (s : ByteArray) (hs : s.size ≤ 100000) (i : Nat) {c : UInt8} {l : List UInt8} (h : (bs s).drop i = c :: l) : ∃ (k a : Int) (txt : ByteArray) (v : Int) (ok : Bool), Evt (fun q => r2_one.f q s (i : Int)) (k, a, txt, v, ok) ∧
  (match one (c :: l) with
   | some t => ok = true ∧ bs txt = t.text ∧ k = (t.kind : Int) ∧ v = wrap32 (t.num : Int) ∧ a = (i : Int)
   | none => ok = false) := by
 obtain ⟨hi, hb⟩ := bt_drop s i h; obtain ⟨WL, hW, hWm⟩ := words_r; obtain ⟨SL, hS, hSm⟩ := signs_r; have hWl : WL.length ≤ 100000 := by
  have := congrArg List.length hWm
  rw [List.length_map] at this; rw [this]; decide
 have hSl : SL.length ≤ 100000 := by
  have := congrArg List.length hSm
  rw [List.length_map] at this; rw [this]; decide
 have hSt : ∀ t ∈ SL, t.size ≤ 100000 := fun t ht => by
  have h1 : bs t ∈ signs := by rw [← hSm]; exact List.mem_map_of_mem ht
  have := (LexM.signs_ne _ h1).2
  rw [bs_len] at this; omega
 have pre : ∀ r : Int × Int × ByteArray × Int × Bool, Evt (fun q => (r2_letter.f (bt s (i : Int))).bind fun t115 => (if t115 = true then ((r2_end.f q s (i : Int) false).bind fun t116 => (if (i : Int) ≤ t116 then (if t116 ≤ (s.size : Int) then ((r2_Words.f).bind fun t117 => ((r2_In.f q (s.extract (i : Int).toNat (t116 : Int).toNat) t117).bind fun t120 => (if t120 = true then (some (2, (i : Int), s.extract (i : Int).toNat (t116 : Int).toNat, 0, true)) else (some (0, (i : Int), s.extract (i : Int).toNat (t116 : Int).toNat, 0, decide (((s.extract (i : Int).toNat (t116 : Int).toNat).size : Int) ≤ 16)))))) else (none)) else (none))) else ((r2_digit.f (bt s (i : Int))).bind fun t121 => (if t121 = true then ((r2_end.f q s (i : Int) true).bind fun t122 => (if (i : Int) ≤ t122 then (if t122 ≤ (s.size : Int) then ((r2_Value.f q (s.extract (i : Int).toNat (t122 : Int).toNat)).bind fun bt123 => (if bt123.2 = true then (if t122 = (s.size : Int) then (some (1, (i : Int), s.extract (i : Int).toNat (t122 : Int).toNat, wrap32 (bt123.1), true)) else (if 0 ≤ t122 then (if t122 < (s.size : Int) then ((r2_Inner.f (bt s t122)).bind fun t125 => (some (1, (i : Int), s.extract (i : Int).toNat (t122 : Int).toNat, wrap32 (bt123.1), !t125))) else (none)) else (none))) else (some (1, (i : Int), s.extract (i : Int).toNat (t122 : Int).toNat, wrap32 (bt123.1), false)))) else (none)) else (none))) else ((r2_Signs.f).bind fun t126 => (r2_one.l0 q s (i : Int) t126 0)))))) r → Evt (fun q => r2_one.f q s (i : Int)) r := fun r hr => by
  unfold r2_one.f
  exact Evt.pos (by omega) (Evt.pos (by omega) hr)
 rw [hb, letter_r, digit_r, hW, hS] at pre; simp only [Option.bind_some] at pre
 by_cases h1 : letter c = true
 ·have hp : (c :: l).takeWhile inner <+: c :: l := List.takeWhile_prefix _
  obtain ⟨e1, e2⟩ := (piece_take s i h hp).resolve_right (by simp)
  have he := end_word s hs (c :: l) i h; have hin := in_ev (s.extract (i : Int).toNat (((i + ((c :: l).takeWhile inner).length : Nat) : Int)).toNat) WL hWl WL.length 0 (Nat.zero_add _); rw [List.drop_zero, hWm, e1] at hin; simp only [one]
  rw [if_pos h1]; by_cases h2 : (c :: l).takeWhile inner ∈ words
  ·rw [if_pos h2]; rw [decide_eq_true h2] at hin; exact ⟨_, _, _, _, _, pre _ (Evt.pos h1 (Evt.bind (show Evt (fun q => r2_end.f q s (i : Int) false) _ from he) (Evt.pos (by omega) (Evt.pos (by omega) (Evt.bind (show Evt (fun q => r2_In.f q _ WL) _ from hin) (Evt.pos rfl (Evt.const _))))))), rfl, e1, rfl, by rw [show ((0 : Nat) : Int) = 0 from rfl, wrap32_0], rfl⟩
  ·rw [if_neg h2]; rw [decide_eq_false h2] at hin; refine ⟨_, _, _, _, _, pre _ (Evt.pos h1 (Evt.bind (show Evt (fun q => r2_end.f q s (i : Int) false) _ from he) (Evt.pos (by omega) (Evt.pos (by omega) (Evt.bind (show Evt (fun q => r2_In.f q _ WL) _ from hin) (Evt.neg (by simp) (Evt.const _))))))), ?_⟩
   have hsz : ((s.extract (i : Int).toNat (((i + ((c :: l).takeWhile inner).length : Nat) : Int)).toNat).size : Int) = (((c :: l).takeWhile inner).length : Int) := by rw [← bs_len, e1]
   rw [hsz]; by_cases h3 : ((c :: l).takeWhile inner).length ≤ 16
   ·rw [if_pos h3]; exact ⟨decide_eq_true (by omega), e1, rfl, by rw [show ((0 : Nat) : Int) = 0 from rfl, wrap32_0], rfl⟩
   ·rw [if_neg h3]; exact decide_eq_false (by omega)
 ·simp only [one]
  rw [if_neg h1]; by_cases h2 : digit c = true
  ·rw [if_pos h2]; have hp : (c :: l).takeWhile digit <+: c :: l := List.takeWhile_prefix _
   obtain ⟨e1, e2⟩ := (piece_take s i h hp).resolve_right (by simp)
   have he := end_num s hs (c :: l) i h; have hv := value_ev (s.extract (i : Int).toNat (((i + ((c :: l).takeWhile digit).length : Nat) : Int)).toNat) (by rw [← bs_len, e1]; omega) ((c :: l).takeWhile digit) 0 0 (by rw [List.drop_zero, e1]) (LexM.all_takeWhile digit _) (by omega)
   have hdr : (bs s).drop (i + ((c :: l).takeWhile digit).length) = (c :: l).dropWhile digit := by rw [← List.drop_drop, h, LexM.drop_takeWhile]
   cases hvn : value 0 ((c :: l).takeWhile digit) with
   | none =>
    rw [hvn] at hv; exact ⟨_, _, _, _, _, pre _ (Evt.neg h1 (Evt.pos h2 (Evt.bind (show Evt (fun q => r2_end.f q s (i : Int) true) _ from he) (Evt.pos (by omega) (Evt.pos (by omega) (Evt.bind (show Evt (fun q => r2_Value.f q _) _ from hv) (Evt.neg (by simp) (Evt.const _)))))))), rfl⟩
   | some n =>
    rw [hvn] at hv; simp only
    by_cases h3 : i + ((c :: l).takeWhile digit).length = s.size
    ·have : (c :: l).dropWhile digit = [] := by rw [← hdr, List.drop_of_length_le (by rw [bs_len]; omega)]
     rw [this, if_pos (show ends [] = true from rfl)]
     exact ⟨_, _, _, _, _, pre _ (Evt.neg h1 (Evt.pos h2 (Evt.bind (show Evt (fun q => r2_end.f q s (i : Int) true) _ from he) (Evt.pos (by omega) (Evt.pos (by omega) (Evt.bind (show Evt (fun q => r2_Value.f q _) _ from hv) (Evt.pos rfl (Evt.pos (by omega) (Evt.const _))))))))), rfl, e1, rfl, rfl, rfl⟩
    ·cases hd : (c :: l).dropWhile digit with
     | nil =>
      rw [hd] at hdr; have := bt_end s _ hdr
      omega
     | cons d r =>
      rw [hd] at hdr; obtain ⟨_, hbd⟩ := bt_drop s _ hdr; have hin2 : r2_Inner.f (bt s ((i + ((c :: l).takeWhile digit).length : Nat) : Int)) = some (inner d) := by rw [hbd, inner_r]
      refine ⟨_, _, _, _, _, pre _ (Evt.neg h1 (Evt.pos h2 (Evt.bind (show Evt (fun q => r2_end.f q s (i : Int) true) _ from he) (Evt.pos (by omega) (Evt.pos (by omega) (Evt.bind (show Evt (fun q => r2_Value.f q _) _ from hv) (Evt.pos rfl (Evt.neg (by omega) (Evt.pos (by omega) (Evt.pos (by omega) (Evt.bind (a := inner d) ⟨0, fun _ _ => hin2⟩ (Evt.const _)))))))))))), ?_⟩
      cases hn : inner d with
      | true => simp [ends, hn]
      | false =>
       rw [if_pos (by simp [ends, hn])]
       exact ⟨rfl, e1, rfl, rfl, rfl⟩
  ·rw [if_neg h2]; have hf := sgn_ev s hs i (by omega) SL hSl hSt SL.length 0 (Nat.zero_add _)
   rw [List.drop_zero, h] at hf; have hm : signs.find? (fun t => t.isPrefixOf (c :: l)) = (SL.find? fun t => (bs t).isPrefixOf (c :: l)).map bs := by
    rw [← hSm, List.find?_map]; rfl
   rw [hm]; cases hq : SL.find? (fun t => (bs t).isPrefixOf (c :: l)) with
   | none =>
    rw [hq] at hf; exact ⟨_, _, _, _, _, pre _ (Evt.neg h1 (Evt.neg h2 hf)), rfl⟩
   | some t =>
    rw [hq] at hf; exact ⟨_, _, _, _, _, pre _ (Evt.neg h1 (Evt.neg h2 hf)), rfl, rfl, rfl, by rw [show ((0 : Nat) : Int) = 0 from rfl, wrap32_0], rfl⟩
end Go.Proofs.YtplcemlennloaaaDoor.M
end
section
namespace Go.Proofs.YtplcemlennloaaaDoor.M
open Go.RowKit Go.Proofs.YtplcemlennloaaaDoorW.PrintWords Go.Proofs.YtplcemlennloaaaDoorW.PrintLast Go.Proofs.YtplcemlennloaaaDoorW.PrintMore Go.Proofs.YtplcemlennloaaaDoor.A
open LexM (letter digit inner gapc value ends one words signs Tk Lx Er)
def tkS (p : Nat × Tk) : S30 := ⟨(p.2.kind : Int), (p.1 : Int), ⟨p.2.text.toArray⟩, wrap32 (p.2.num : Int)⟩
theorem bs_mk (l : List UInt8) : bs ⟨l.toArray⟩ = l := by simp [bs]
theorem ten_byte (c : UInt8) : ((c.toNat : Int) = 10) ↔ c = 10 := eq_byte c 10 (by omega)
theorem hash_byte (c : UInt8) : ((c.toNat : Int) = 35) ↔ c = 35 := eq_byte c 35 (by omega)
theorem note_ev (s : ByteArray) (hs : s.size ≤ 100000) (out : List S30) (r : List S30 × Int × Int) : ∀ (l : List UInt8) (i : Nat), (bs s).drop i = l → Evt (fun k => r2_Tokens.l0 k s out ((i + (l.takeWhile fun c => c != 10).length : Nat) : Int)) r → Evt (fun k => r2_Tokens.l1 k s out (i : Int)) r
 | [], i, h, hr => by
  have := bt_end s i h
  refine Evt.succ ?_
  simp only [r2_Tokens.l1]
  exact Evt.neg (by omega) (by simpa using hr)
 | c :: l, i, h, hr => by
  obtain ⟨hi, hb⟩ := bt_drop s i h; refine Evt.succ ?_
  simp only [r2_Tokens.l1, hb, wrap_succ i (by omega)]
  refine Evt.pos (by omega) (Evt.pos (by omega) ?_)
  by_cases e : c = 10
  ·subst e; exact Evt.pos ((ten_byte 10).2 rfl) (by simpa using hr)
  ·refine Evt.neg (fun h => e ((ten_byte c).1 h)) ?_
   have e2 : (c != 10) = true := by simpa using e
   rw [List.takeWhile_cons_of_pos (p := fun c => c != 10) e2, List.length_cons] at hr
   have e3 : i + ((l.takeWhile fun c => c != 10).length + 1) = i + 1 + (l.takeWhile fun c => c != 10).length := by omega
   rw [e3] at hr; exact note_ev s hs out r l (i + 1) (drop_next h) hr
theorem drop_add {s : ByteArray} {a n : Nat} {l : List UInt8} (h : l = (bs s).drop a) : l.drop n = (bs s).drop (a + n) := by rw [h, List.drop_drop]
theorem take_ev (s : ByteArray) (hs : s.size ≤ 100000) {a : Nat} {c : UInt8} {l : List UInt8} {t : Tk} (h : (bs s).drop a = c :: l) (hg : gapc c = false) (ht : one (c :: l) = some t) (out : List S30) (ho : out.length ≤ 100000) (r : List S30 × Int × Int)
  (hr : Evt (fun k => r2_Tokens.l0 k s (out ++ [tkS (a, t)]) ((a + t.text.length : Nat) : Int)) r) : Evt (fun k => r2_Tokens.l0 k s out (a : Int)) r := by
 obtain ⟨hi, hb⟩ := bt_drop s a h; obtain ⟨k, a', txt, v, ok, he, hm⟩ := one_ev s hs a h; rw [ht] at hm; obtain ⟨rfl, h2, rfl, rfl, rfl⟩ := hm; have htx : txt = ⟨t.text.toArray⟩ := bs_inj (by rw [h2, bs_mk])
 have hlen : txt.size = t.text.length := by rw [← bs_len, h2]
 have hle := (LexM.one_prefix ht).1.length_le; have hL := congrArg List.length h; rw [List.length_drop, bs_len] at hL; simp only [gapc, Bool.or_eq_false_iff] at hg
 refine Evt.succ ?_
 simp only [r2_Tokens.l0, hb, blank_r, hg.1, Option.bind_some]
 refine Evt.pos (by omega) (Evt.pos (by omega) (Evt.neg (fun e => ?_) (Evt.neg (by simp) (Evt.bind he (Evt.pos rfl (Evt.pos (by omega) ?_))))))
 ·have := hg.2
  rw [(hash_byte c).1 e] at this; exact absurd this (by decide)
 ·have e2 : wrap64 ((a : Int) + (txt.size : Int)) = ((a + t.text.length : Nat) : Int) := by rw [hlen, wrap64_id (by omega) (by omega)]; omega
  subst htx; show Evt (fun k => r2_Tokens.l0 k s (out ++ [tkS (a, t)]) (wrap64 ((a : Int) + ((⟨t.text.toArray⟩ : ByteArray).size : Int)))) r
  rw [e2]; exact hr
theorem rtokens_ok (s : ByteArray) (hs : s.size ≤ 100000) {a : Nat} {l : List UInt8} {ts : List (Nat × Tk)} (h : Lx a l ts) : l = (bs s).drop a → ∀ out : List S30, out.length ≤ a → Evt (fun k => r2_Tokens.l0 k s out (a : Int)) (out ++ ts.map tkS, 0, 0) := by
 induction h with
 | @nil a =>
  intro hl out _
  have := bt_end s a hl.symm
  refine Evt.succ ?_
  simp only [r2_Tokens.l0]
  refine Evt.neg (by omega) ?_
  simpa using Evt.const _
 | @note a l ts _ ih =>
  intro hl out ho
  obtain ⟨hi, hb⟩ := bt_drop s a hl.symm; have hn := drop_next hl.symm; refine Evt.succ ?_
  simp only [r2_Tokens.l0, hb]
  refine Evt.pos (by omega) (Evt.pos (by omega) (Evt.pos ((hash_byte 35).2 rfl) ?_))
  refine note_ev s hs out _ (35 :: l) a hl.symm ?_
  have e : a + ((35 :: l : List UInt8).takeWhile fun c => c != 10).length = a + 1 + (l.takeWhile fun c => c != 10).length := by
   rw [List.takeWhile_cons_of_pos (p := fun c => c != 10) (by decide), List.length_cons]
   exact (show ∀ x : Nat, a + (x + 1) = a + 1 + x from fun x => by omega) _
  rw [e]; exact ih (by rw [← LexM.drop_takeWhile]; exact drop_add hn.symm) out (by omega)
 | @skip a c l ts hb' _ ih =>
  intro hl out ho
  obtain ⟨hi, hb⟩ := bt_drop s a hl.symm; have hne : c ≠ 35 := fun e => by subst e; exact absurd hb' (by decide)
  refine Evt.succ ?_
  simp only [r2_Tokens.l0, hb, blank_r, hb', Option.bind_some, wrap_succ a (by omega)]
  exact Evt.pos (by omega) (Evt.pos (by omega) (Evt.neg (fun e => hne ((hash_byte c).1 e)) (Evt.pos (by first | rfl | trivial) (ih (drop_next hl.symm).symm out (by omega)))))
 | @tok a c l t ts hg ht _ ih =>
  intro hl out ho
  obtain ⟨hi, _⟩ := bt_drop s a hl.symm; have hne := List.length_pos_iff.2 (LexM.one_prefix ht).2; refine take_ev s hs hl.symm hg ht out (by omega) _ ?_
  have := ih (drop_add hl) (out ++ [tkS (a, t)]) (by simp; omega)
  simpa using this
theorem rtokens_er (s : ByteArray) (hs : s.size ≤ 100000) {a e : Nat} {l : List UInt8} (h : Er a l e) : l = (bs s).drop a → ∀ out : List S30, out.length ≤ a → Evt (fun k => r2_Tokens.l0 k s out (a : Int)) ([], (e : Int), 2) := by
 induction h with
 | @note a e l _ ih =>
  intro hl out ho
  obtain ⟨hi, hb⟩ := bt_drop s a hl.symm; have hn := drop_next hl.symm; refine Evt.succ ?_
  simp only [r2_Tokens.l0, hb]
  refine Evt.pos (by omega) (Evt.pos (by omega) (Evt.pos ((hash_byte 35).2 rfl) ?_))
  refine note_ev s hs out _ (35 :: l) a hl.symm ?_
  have e : a + ((35 :: l : List UInt8).takeWhile fun c => c != 10).length = a + 1 + (l.takeWhile fun c => c != 10).length := by
   rw [List.takeWhile_cons_of_pos (p := fun c => c != 10) (by decide), List.length_cons]
   exact (show ∀ x : Nat, a + (x + 1) = a + 1 + x from fun x => by omega) _
  rw [e]; exact ih (by rw [← LexM.drop_takeWhile]; exact drop_add hn.symm) out (by omega)
 | @skip a e c l hb' _ ih =>
  intro hl out ho
  obtain ⟨hi, hb⟩ := bt_drop s a hl.symm; have hne : c ≠ 35 := fun e => by subst e; exact absurd hb' (by decide)
  refine Evt.succ ?_
  simp only [r2_Tokens.l0, hb, blank_r, hb', Option.bind_some, wrap_succ a (by omega)]
  exact Evt.pos (by omega) (Evt.pos (by omega) (Evt.neg (fun e => hne ((hash_byte c).1 e)) (Evt.pos (by first | rfl | trivial) (ih (drop_next hl.symm).symm out (by omega)))))
 | @tok a e c l t hg ht _ ih =>
  intro hl out ho
  obtain ⟨hi, _⟩ := bt_drop s a hl.symm; have hne := List.length_pos_iff.2 (LexM.one_prefix ht).2; exact take_ev s hs hl.symm hg ht out (by omega) _ (ih (drop_add hl) (out ++ [tkS (a, t)]) (by simp; omega))
 | @here a c l hg ht =>
  intro hl out ho
  obtain ⟨hi, hb⟩ := bt_drop s a hl.symm; obtain ⟨k, a', txt, v, ok, he, hm⟩ := one_ev s hs a hl.symm; rw [ht] at hm; simp only at hm
  subst hm; simp only [gapc, Bool.or_eq_false_iff] at hg
  refine Evt.succ ?_
  simp only [r2_Tokens.l0, hb, blank_r, hg.1, Option.bind_some]
  refine Evt.pos (by omega) (Evt.pos (by omega) (Evt.neg (fun e => ?_) (Evt.neg (by simp) (Evt.bind he (Evt.neg (by simp) (Evt.const _))))))
  have := hg.2
  rw [(hash_byte c).1 e] at this; exact absurd this (by decide)
end Go.Proofs.YtplcemlennloaaaDoor.M
end
section
namespace Go.Proofs.YtplcemlennloaaaDoor.M
open Go.RowKit Go.Proofs.YtplcemlennloaaaDoorW.PrintWords Go.Proofs.YtplcemlennloaaaDoorW.PrintLast Go.Proofs.YtplcemlennloaaaDoorW.PrintMore Go.Proofs.YtplcemlennloaaaDoor.A
open LexM (letter digit inner gapc value ends one words signs Tk Lx Er)
theorem skip_notes (s : ByteArray) (hs : s.size ≤ 100000) (r : Int) : ∀ (l : List UInt8) (i : Nat), (bs s).drop i = l → Evt (fun k => lex_skip.l0 k s ((i + (l.takeWhile fun c => c != 10).length : Nat) : Int)) r → Evt (fun k => lex_skip.l1 k s (i : Int)) r
 | [], i, h, hr => by
  have := bt_end s i h
  refine Evt.succ ?_
  simp only [lex_skip.l1]
  exact Evt.neg (by omega) (by simpa using hr)
 | c :: l, i, h, hr => by
  obtain ⟨hi, hb⟩ := bt_drop s i h; refine Evt.succ ?_
  simp only [lex_skip.l1, hb, wrap_succ i (by omega)]
  refine Evt.pos (by omega) (Evt.pos (by omega) ?_)
  by_cases e : c = 10
  ·subst e; exact Evt.pos ((ten_byte 10).2 rfl) (by simpa using hr)
  ·refine Evt.neg (fun h => e ((ten_byte c).1 h)) ?_
   have e2 : (c != 10) = true := by simpa using e
   rw [List.takeWhile_cons_of_pos (p := fun c => c != 10) e2, List.length_cons] at hr
   have e3 : i + ((l.takeWhile fun c => c != 10).length + 1) = i + 1 + (l.takeWhile fun c => c != 10).length := by omega
   rw [e3] at hr; exact skip_notes s hs r l (i + 1) (drop_next h) hr
theorem skip_end (s : ByteArray) (i : Nat) (h : (bs s).drop i = []) : Evt (fun k => lex_skip.l0 k s (i : Int)) (i : Int) := by
 have := bt_end s i h
 refine Evt.succ ?_
 simp only [lex_skip.l0]
 exact Evt.neg (by omega) (Evt.const _)
theorem skip_head (s : ByteArray) (i : Nat) {c : UInt8} {l : List UInt8} (h : (bs s).drop i = c :: l) (r : Int) (hr : Evt (fun k => lex_skip.j1 k s (i : Int) (c.toNat : Int) (LexM.blank c)) r) : Evt (fun k => lex_skip.l0 k s (i : Int)) r := by
 obtain ⟨hi, hb⟩ := bt_drop s i h; have h1 : ((c.toNat : Int) = 32) ↔ c = 32 := eq_byte c 32 (by omega)
 have h2 : ((c.toNat : Int) = 9) ↔ c = 9 := eq_byte c 9 (by omega)
 have h3 : ((c.toNat : Int) = 10) ↔ c = 10 := eq_byte c 10 (by omega)
 have h4 : ((c.toNat : Int) == 13) = (c == 13) := beq_byte c 13 (by omega)
 refine Evt.succ ?_
 simp only [lex_skip.l0, hb, h4]
 refine Evt.pos (by omega) (Evt.pos (by omega) ?_)
 by_cases e1 : c = 32
 ·exact Evt.pos (h1.2 e1) (by rw [e1] at hr ⊢; exact hr)
 ·refine Evt.neg (fun h => e1 (h1.1 h)) ?_
  by_cases e2 : c = 9
  ·exact Evt.pos (h2.2 e2) (by rw [e2] at hr ⊢; exact hr)
  ·refine Evt.neg (fun h => e2 (h2.1 h)) ?_
   by_cases e3 : c = 10
   ·exact Evt.pos (h3.2 e3) (by rw [e3] at hr ⊢; exact hr)
   ·refine Evt.neg (fun h => e3 (h3.1 h)) ?_
    have e : LexM.blank c = (c == 13) := by simp [LexM.blank, e1, e2, e3]
    rw [e] at hr; exact hr
theorem skip_blank (s : ByteArray) (hs : s.size ≤ 100000) (i : Nat) {c : UInt8} {l : List UInt8} (h : (bs s).drop i = c :: l) (hb : LexM.blank c = true) (r : Int) (hr : Evt (fun k => lex_skip.l0 k s ((i + 1 : Nat) : Int)) r) : Evt (fun k => lex_skip.l0 k s (i : Int)) r := by
 obtain ⟨hi, _⟩ := bt_drop s i h; refine skip_head s i h r ?_
 rw [hb]; refine Evt.succ ?_
 simp only [lex_skip.j1, wrap_succ i (by omega)]
 exact Evt.pos (by first | rfl | trivial) hr
theorem skip_note (s : ByteArray) (hs : s.size ≤ 100000) (i : Nat) {l : List UInt8} (h : (bs s).drop i = 35 :: l) (r : Int) (hr : Evt (fun k => lex_skip.l0 k s ((i + 1 + (l.takeWhile fun c => c != 10).length : Nat) : Int)) r) : Evt (fun k => lex_skip.l0 k s (i : Int)) r := by
 refine skip_head s i h r ?_
 refine Evt.succ ?_
 simp only [lex_skip.j1]
 refine Evt.neg (by decide) (Evt.pos ((hash_byte 35).2 rfl) (skip_notes s hs r (35 :: l) i h ?_))
 have e : i + ((35 :: l : List UInt8).takeWhile fun c => c != 10).length = i + 1 + (l.takeWhile fun c => c != 10).length := by
  rw [List.takeWhile_cons_of_pos (p := fun c => c != 10) (by decide), List.length_cons]
  exact (show ∀ x : Nat, i + (x + 1) = i + 1 + x from fun x => by omega) _
 rw [e]; exact hr
theorem skip_here (s : ByteArray) (i : Nat) {c : UInt8} {l : List UInt8} (h : (bs s).drop i = c :: l) (hg : gapc c = false) : Evt (fun k => lex_skip.l0 k s (i : Int)) (i : Int) := by
 simp only [gapc, Bool.or_eq_false_iff] at hg
 refine skip_head s i h _ ?_
 rw [hg.1]; refine Evt.succ ?_
 simp only [lex_skip.j1]
 refine Evt.neg (by simp) (Evt.neg (fun e => ?_) (Evt.const _))
 have := hg.2
 rw [(hash_byte c).1 e] at this; exact absurd this (by decide)
end Go.Proofs.YtplcemlennloaaaDoor.M
end
section
namespace Go.Proofs.YtplcemlennloaaaDoor.M
open Go Go.RowKit Go.Proofs.YtplcemlennloaaaDoorW.PrintWords Go.Proofs.YtplcemlennloaaaDoorW.PrintLast Go.Proofs.YtplcemlennloaaaDoorW.PrintMore Go.Proofs.YtplcemlennloaaaDoor.A Go.Proofs.YtplcemlennloaaaDoor.B Go.Proofs.YtplcemlennloaaaDoor.S
open LexM (letter digit inner gapc value ends one words signs Tk Lx Er)
theorem letter_l (c : UInt8) : lex_letter.f (c.toNat : Int) = some (letter c) := letter_r c
theorem digit_l (c : UInt8) : lex_digit.f (c.toNat : Int) = some (digit c) := digit_r c
theorem inner_l (c : UInt8) : lex_inner.f (c.toNat : Int) = some (inner c) := inner_r c
theorem hasPrefix_r (s t : ByteArray) : strings_HasPrefix.f s t = some ((bs t).isPrefixOf (bs s)) := by
 unfold strings_HasPrefix.f stringslite_HasPrefix.f
 by_cases h : t.size ≤ s.size
 ·rw [if_pos (by omega), if_pos (by omega), if_pos (by omega)]
  simp only [Option.bind_some]
  congr 1
  rw [Bool.eq_iff_iff, beq_iff_eq, List.isPrefixOf_iff_prefix, List.prefix_iff_eq_take, ByteArray.toList_eq, ByteArray.toList_eq]; have e1 : (s.extract 0 ((t.size : Int) : Int).toNat).data.toList = (bs s).take t.size := by
   show bs _ = _
   rw [bs_extract, Int.toNat_natCast, List.drop_zero, Nat.sub_zero]
  rw [e1, bs_len]; exact ⟨fun h => h.symm, fun h => h.symm⟩
 ·rw [if_neg (by omega)]
  simp only [Option.bind_some]
  congr 1
  symm
  rw [Bool.eq_false_iff]; intro hp
  have := (List.isPrefixOf_iff_prefix.1 hp).length_le
  rw [bs_len, bs_len] at this; omega
theorem extract_end (s : ByteArray) (i : Nat) : bs (s.extract (i : Int).toNat s.size) = (bs s).drop i := by
 rw [bs_extract, Int.toNat_natCast]; exact List.take_of_length_le (by rw [List.length_drop, bs_len]; omega)
theorem sign1_ev (s : ByteArray) (i : Nat) (hi : i ≤ s.size) (Y : List ByteArray) (y : Int) (q : Int) (W : List ByteArray) (hW : W.length ≤ 100000) (r : ByteArray) (hr : Evt (fun k => lex_sign.l0 k s (i : Int) Y y (wrap64 (q + 1))) r) : ∀ (m j : Nat), j + m = W.length →
  Evt (fun k => lex_sign.l1 k s (i : Int) Y y q W (W.length : Int) (j : Int)) (((W.drop j).find? (fun t => (bs t).isPrefixOf ((bs s).drop i))).getD r)
 | 0, j, hm => by
  refine Evt.succ ?_
  simp only [lex_sign.l1]
  rw [List.drop_of_length_le (show W.length ≤ j by omega)]
  exact Evt.neg (by omega) hr
 | m + 1, j, hm => by
  have ih := sign1_ev s i hi Y y q W hW r hr m (j + 1) (by omega)
  have hj : j < W.length := by omega
  refine Evt.succ ?_
  simp only [lex_sign.l1, rdOf_nat ByteArray.empty W j hj, wrap_succ j (by omega), hasPrefix_r, extract_end, Option.bind_some]
  refine Evt.pos (by omega) (Evt.pos (by omega) (Evt.pos (by omega) (Evt.pos (by omega) (Evt.pos (by omega) ?_))))
  rw [List.drop_eq_getElem_cons hj, List.find?_cons]; by_cases e : (bs W[j]).isPrefixOf ((bs s).drop i) = true
  ·rw [e]; exact Evt.pos (by first | rfl | trivial) (Evt.const _)
  ·rw [Bool.eq_false_iff.2 e]; exact Evt.neg (by simp) ih
def flds (b : ByteArray) : List ByteArray := (Lib.fields b.data.toList).map fun l => ⟨l.toArray⟩
theorem fields_r (b : ByteArray) (h : b.size < 4294967281 ∧ b.data.toList.all (fun b => decide (b.toNat < 128)) = true ∧ (Lib.fields b.data.toList).length ≤ maxLen) (k : Nat) : strings_Fields.f k b = some (flds b) := by
 unfold strings_Fields.f
 rw [if_pos h]; rfl
def sl : List ByteArray := [(⟨#[62, 62, 62]⟩ : ByteArray), (⟨#[60, 60, 32, 62, 62, 32, 60, 61, 32, 62, 61, 32, 61, 61, 32, 33, 61, 32, 60, 58, 32, 38, 38, 32, 124, 124]⟩ : ByteArray), (⟨#[40, 32, 41, 32, 123, 32, 125, 32, 91, 32, 93, 32, 44, 32, 59, 32, 61, 32, 43, 32, 45, 32, 42, 32, 47, 32, 37, 32, 38, 32, 124, 32, 94, 32, 126, 32, 33, 32, 60, 32, 62]⟩ : ByteArray)]
def sl0 : ByteArray := ⟨#[62, 62, 62]⟩
def sl1 : ByteArray := ⟨#[60, 60, 32, 62, 62, 32, 60, 61, 32, 62, 61, 32, 61, 61, 32, 33, 61, 32, 60, 58, 32, 38, 38, 32, 124, 124]⟩
def sl2 : ByteArray := ⟨#[40, 32, 41, 32, 123, 32, 125, 32, 91, 32, 93, 32, 44, 32, 59, 32, 61, 32, 43, 32, 45, 32, 42, 32, 47, 32, 37, 32, 38, 32, 124, 32, 94, 32, 126, 32, 33, 32, 60, 32, 62]⟩
theorem f0 : (flds sl0).map bs = [[62, 62, 62]] := by decide +kernel
theorem f1 : (flds sl1).map bs = [[60, 60], [62, 62], [60, 61], [62, 61], [61, 61], [33, 61], [60, 58], [38, 38], [124, 124]] := by decide +kernel
theorem f2 : (flds sl2).map bs = [[40], [41], [123], [125], [91], [93], [44], [59], [61], [43], [45], [42], [47], [37], [38], [124], [94], [126], [33], [60], [62]] := by decide +kernel
theorem o0 : sl0.size < 4294967281 ∧ sl0.data.toList.all (fun b => decide (b.toNat < 128)) = true ∧ (Lib.fields sl0.data.toList).length ≤ maxLen := by
 refine ⟨by decide +kernel, by decide +kernel, ?_⟩
 have := congrArg List.length f0
 simp only [flds, List.length_map] at this
 rw [this]; decide
theorem o1 : sl1.size < 4294967281 ∧ sl1.data.toList.all (fun b => decide (b.toNat < 128)) = true ∧ (Lib.fields sl1.data.toList).length ≤ maxLen := by
 refine ⟨by decide +kernel, by decide +kernel, ?_⟩
 have := congrArg List.length f1
 simp only [flds, List.length_map] at this
 rw [this]; decide
theorem o2 : sl2.size < 4294967281 ∧ sl2.data.toList.all (fun b => decide (b.toNat < 128)) = true ∧ (Lib.fields sl2.data.toList).length ≤ maxLen := by
 refine ⟨by decide +kernel, by decide +kernel, ?_⟩
 have := congrArg List.length f2
 simp only [flds, List.length_map] at this
 rw [this]; decide
theorem sign0_end (s : ByteArray) (i : Int) : Evt (fun k => lex_sign.l0 k s i sl 3 3) (⟨#[]⟩ : ByteArray) := by
 refine Evt.succ ?_
 simp only [lex_sign.l0]
 exact Evt.neg (by omega) (Evt.const _)
theorem sign0_step (s : ByteArray) (i : Nat) (hi : i ≤ s.size) (q : Nat) (hq : q < 3) (W : ByteArray) (hw : sl[q]'hq = W) (hW : W.size < 4294967281 ∧ W.data.toList.all (fun b => decide (b.toNat < 128)) = true ∧ (Lib.fields W.data.toList).length ≤ maxLen) (hl : (flds W).length ≤ 100000) (r : ByteArray)
  (hr : Evt (fun k => lex_sign.l0 k s (i : Int) sl 3 ((q + 1 : Nat) : Int)) r) :
  Evt (fun k => lex_sign.l0 k s (i : Int) sl 3 (q : Int)) (((flds W).find? (fun t => (bs t).isPrefixOf ((bs s).drop i))).getD r) := by
 refine Evt.succ ?_
 simp only [lex_sign.l0, rdOf_nat ByteArray.empty sl q hq, hw, fields_r W hW, Option.bind_some]
 refine Evt.pos (by omega) (Evt.pos (by omega) (Evt.pos (by show (q : Int) < (3 : Int); omega) ?_))
 have := sign1_ev s i hi sl 3 (q : Int) (flds W) hl r (by rw [wrap_succ q (by omega)]; exact hr) (flds W).length 0 (Nat.zero_add _)
 rw [List.drop_zero] at this; exact this
theorem getD_app {α : Type} (o p : Option α) (r : α) : (o.getD (p.getD r)) = (o.or p).getD r := by cases o <;> cases p <;> rfl
theorem sign_ev (s : ByteArray) (i : Nat) (hi : i ≤ s.size) : ∃ t : ByteArray, Evt (fun k => lex_sign.f k s (i : Int)) t ∧ bs t = ((signs.find? fun x => x.isPrefixOf ((bs s).drop i)).getD []) := by
 have l0 : (flds sl0).length ≤ 100000 := by have := congrArg List.length f0; rw [List.length_map] at this; rw [this]; decide
 have l1 : (flds sl1).length ≤ 100000 := by have := congrArg List.length f1; rw [List.length_map] at this; rw [this]; decide
 have l2 : (flds sl2).length ≤ 100000 := by have := congrArg List.length f2; rw [List.length_map] at this; rw [this]; decide
 have e2 := sign0_step s i hi 2 (by omega) sl2 rfl o2 l2 _ (sign0_end s i)
 have e1 := sign0_step s i hi 1 (by omega) sl1 rfl o1 l1 _ e2
 have e0 := sign0_step s i hi 0 (by omega) sl0 rfl o0 l0 _ e1
 refine ⟨_, (e0 : Evt (fun k => lex_sign.f k s (i : Int)) _), ?_⟩
 ·rw [getD_app, getD_app]; have e : signs = ((flds sl0) ++ (flds sl1) ++ (flds sl2)).map bs := by
   rw [List.map_append, List.map_append, f0, f1, f2]; rfl
  rw [e, List.find?_map, List.find?_append, List.find?_append, Option.or_assoc]; generalize hX : (flds sl0).find? _ = X
  have hX' : (flds sl0).find? ((fun x => x.isPrefixOf ((bs s).drop i)) ∘ bs) = X := hX
  rw [hX']; generalize hY : (flds sl1).find? _ = Y
  have hY' : (flds sl1).find? ((fun x => x.isPrefixOf ((bs s).drop i)) ∘ bs) = Y := hY
  rw [hY']; generalize hZ : (flds sl2).find? _ = Z
  have hZ' : (flds sl2).find? ((fun x => x.isPrefixOf ((bs s).drop i)) ∘ bs) = Z := hZ
  rw [hZ']; cases X <;> cases Y <;> cases Z <;> rfl
theorem integer_ev (s : ByteArray) (hs : s.size ≤ 100000) : ∀ (l : List UInt8) (i n : Nat), (bs s).drop i = l → (∀ c ∈ l, digit c = true) → n ≤ 2147483648 →
  Evt (fun k => lex_integer.l0 k s (n : Int) (s.size : Int) (i : Int)) (match value n l with
   | none => (0, false)
   | some m => (wrap32 (m : Int), true))
 | [], i, n, h, _, hn => by
  have := bt_end s i h
  refine Evt.succ ?_
  simp only [lex_integer.l0]
  have e : (n : Int) % 4294967296 = (n : Int) := by omega
  rw [e]; exact Evt.neg (by omega) (Evt.const _)
 | c :: l, i, n, h, hd, hn => by
  obtain ⟨hi, hb⟩ := bt_drop s i h; have hc := hd c List.mem_cons_self; simp only [digit, Bool.and_eq_true, decide_eq_true_eq] at hc
  have e1 : wrap64 (10 * (n : Int)) = 10 * (n : Int) := wrap64_id (by omega) (by omega)
  have e2 : ((c.toNat : Int) - 48) % 256 = ((c.toNat - 48 : Nat) : Int) := by omega
  have e3 : wrap64 (10 * (n : Int) + ((c.toNat - 48 : Nat) : Int)) = ((10 * n + (c.toNat - 48) : Nat) : Int) := by rw [wrap64_id (by omega) (by omega)]; omega
  refine Evt.succ ?_
  simp only [lex_integer.l0, hb, e1, e2, e3, wrap_succ i (by omega)]
  refine Evt.pos (by omega) (Evt.pos (by omega) (Evt.pos (by omega) ?_))
  by_cases hg : 10 * n + (c.toNat - 48) > 2147483648
  ·rw [value, if_pos hg]; exact Evt.pos (by omega) (Evt.const _)
  ·rw [value, if_neg hg]; exact Evt.neg (by omega) (integer_ev s hs l (i + 1) _ (drop_next h) (fun x hx => hd x (List.mem_cons_of_mem _ hx)) (by omega))
end Go.Proofs.YtplcemlennloaaaDoor.M
end
section
namespace Go.Proofs.YtplcemlennloaaaDoor.M
open Go Go.RowKit Go.Proofs.YtplcemlennloaaaDoorW.PrintWords Go.Proofs.YtplcemlennloaaaDoorW.PrintLast Go.Proofs.YtplcemlennloaaaDoorW.PrintMore Go.Proofs.YtplcemlennloaaaDoor.A Go.Proofs.YtplcemlennloaaaDoor.B Go.Proofs.YtplcemlennloaaaDoor.S Go.Proofs.YtplcemlennloaaaDoor.N
open LexM (letter digit inner gapc value ends one words signs Tk Lx Er)
theorem word_ev (s : ByteArray) (hs : s.size ≤ 100000) (i : Int) (r : Int × Int × ByteArray × Int × Bool) : ∀ (l : List UInt8) (j : Nat), (bs s).drop j = l → Evt (fun k => lex_next.j1 k s i ((j + (l.takeWhile inner).length : Nat) : Int)) r → Evt (fun k => lex_next.l0 k s i (j : Int)) r
 | [], j, h, hr => by
  have := bt_end s j h
  refine Evt.succ ?_
  simp only [lex_next.l0]
  exact Evt.neg (by omega) (by simpa using hr)
 | c :: l, j, h, hr => by
  obtain ⟨hj, hb⟩ := bt_drop s j h; refine Evt.succ ?_
  simp only [lex_next.l0, hb, inner_l, Option.bind_some, wrap_succ j (by omega)]
  refine Evt.pos (by omega) (Evt.pos (by omega) ?_)
  by_cases hn : inner c = true
  ·refine Evt.pos hn ?_
   rw [List.takeWhile_cons_of_pos hn, List.length_cons] at hr; have e : j + ((l.takeWhile inner).length + 1) = j + 1 + (l.takeWhile inner).length := by omega
   rw [e] at hr; exact word_ev s hs i r l (j + 1) (drop_next h) hr
  ·refine Evt.neg hn ?_
   rw [List.takeWhile_cons_of_neg hn] at hr; exact hr
theorem num_ev (s : ByteArray) (hs : s.size ≤ 100000) (i e : Nat) (hie : i ≤ e) (hes : e ≤ s.size) (v : Int) (ok : Bool) (hv : Evt (fun k => lex_integer.f k (s.extract (i : Int).toNat (e : Int).toNat)) (v, ok)) : ∀ (l : List UInt8) (j : Nat), (bs s).drop j = l → j + (l.takeWhile digit).length = e →
  Evt (fun k => lex_next.l1 k s (i : Int) (j : Int)) (1, (i : Int), s.extract (i : Int).toNat (e : Int).toNat, v, ok && ends (l.dropWhile digit))
 | [], j, h, he => by
  have := bt_end s j h
  obtain rfl : j = e := by simpa using he
  refine Evt.succ ?_
  simp only [lex_next.l1]
  refine Evt.neg (by omega) (Evt.pos (by omega) (Evt.pos (by omega) (Evt.pos (by omega) (Evt.bind hv ?_))))
  cases ok with
  | true => exact Evt.pos rfl (Evt.pos (by omega) (Evt.const _))
  | false => exact Evt.neg (by simp) (Evt.const _)
 | c :: l, j, h, he => by
  obtain ⟨hj, hb⟩ := bt_drop s j h; refine Evt.succ ?_
  simp only [lex_next.l1, hb, digit_l, inner_l, Option.bind_some, wrap_succ j (by omega)]
  refine Evt.pos (by omega) (Evt.pos (by omega) ?_)
  by_cases hd : digit c = true
  ·refine Evt.pos hd ?_
   rw [List.takeWhile_cons_of_pos hd, List.length_cons] at he; have := num_ev s hs i e hie hes v ok hv l (j + 1) (drop_next h) (by omega)
   rw [List.dropWhile_cons_of_pos hd]; exact this
  ·rw [List.takeWhile_cons_of_neg hd] at he; rw [List.dropWhile_cons_of_neg hd]; obtain rfl : j = e := by simpa using he
   refine Evt.neg hd (Evt.pos (by omega) (Evt.pos (by omega) (Evt.pos (by omega) (Evt.bind hv ?_))))
   cases ok with
   | true =>
    refine Evt.pos rfl (Evt.neg (by omega) ?_)
    simpa [ends] using Evt.const _
   | false => exact Evt.neg (by simp) (Evt.const _)
theorem isWord_r (t : ByteArray) (h : t.size ≤ 100000) : lex_isWord.f t = some (decide (bs t ∈ words)) := by
 unfold lex_isWord.f
 rw [if_pos (by unfold maxLen; omega)]
 simp [bs]
theorem next_ev (s : ByteArray) (hs : s.size ≤ 100000) (i : Nat) {c : UInt8} {l : List UInt8} (h : (bs s).drop i = c :: l) : ∃ (k a : Int) (txt : ByteArray) (v : Int) (ok : Bool), Evt (fun q => lex_next.f q s (i : Int) 0) (k, a, txt, v, ok) ∧
  (match one (c :: l) with
   | some t => ok = true ∧ bs txt = t.text ∧ k = (t.kind : Int) ∧ v = wrap32 (t.num : Int) ∧ a = (i : Int)
   | none => ok = false) := by
 obtain ⟨hi, hb⟩ := bt_drop s i h; have pre : ∀ r : Int × Int × ByteArray × Int × Bool, Evt (fun q => (lex_letter.f (bt s (i : Int))).bind fun t114 => (if t114 = true then (lex_next.l0 q s (i : Int) (i : Int)) else ((lex_digit.f (bt s (i : Int))).bind fun t117 => (if t117 = true then (lex_next.l1 q s (i : Int) (i : Int)) else ((lex_sign.f q s (i : Int)).bind fun t124 => (some (2, (i : Int), t124, 0, (t124.toList != ([] : List UInt8))))))))) r → Evt (fun q => lex_next.f q s (i : Int) 0) r := fun r hr => by
  unfold lex_next.f
  exact Evt.pos (by omega) (Evt.pos (by omega) hr)
 rw [hb, letter_l, digit_l] at pre; simp only [Option.bind_some] at pre
 by_cases h1 : letter c = true
 ·have hp : (c :: l).takeWhile inner <+: c :: l := List.takeWhile_prefix _
  obtain ⟨e1, e2⟩ := (piece_take s i h hp).resolve_right (by simp)
  have hx : (s.extract (i : Int).toNat (((i + ((c :: l).takeWhile inner).length : Nat) : Int)).toNat).size = ((c :: l).takeWhile inner).length := by rw [← bs_len, e1]
  have hj : ∀ r, Evt (fun q => if decide ((c :: l).takeWhile inner ∈ words) = true then (some (2, (i : Int), s.extract (i : Int).toNat (((i + ((c :: l).takeWhile inner).length : Nat) : Int)).toNat, 0, true)) else (some (0, (i : Int), s.extract (i : Int).toNat (((i + ((c :: l).takeWhile inner).length : Nat) : Int)).toNat, 0, decide (((s.extract (i : Int).toNat (((i + ((c :: l).takeWhile inner).length : Nat) : Int)).toNat).size : Int) ≤ 16)))) r → Evt (fun q => lex_next.f q s (i : Int) 0) r := fun r hr => by
   refine pre r (Evt.pos h1 (word_ev s hs (i : Int) r (c :: l) i h (Evt.succ ?_)))
   simp only [lex_next.j1, isWord_r _ (show (s.extract (i : Int).toNat (((i + ((c :: l).takeWhile inner).length : Nat) : Int)).toNat).size ≤ 100000 by omega), e1, Option.bind_some]
   exact Evt.pos (by omega) (Evt.pos (by omega) (Evt.pos (by omega) hr))
  simp only [one]
  rw [if_pos h1]; by_cases h2 : (c :: l).takeWhile inner ∈ words
  ·rw [if_pos h2]; exact ⟨_, _, _, _, _, hj _ (Evt.pos (decide_eq_true h2) (Evt.const _)), rfl, e1, rfl, by rw [show ((0 : Nat) : Int) = 0 from rfl, wrap32_0], rfl⟩
  ·rw [if_neg h2]; refine ⟨_, _, _, _, _, hj _ (Evt.neg (by simp [h2]) (Evt.const _)), ?_⟩
   rw [hx]; by_cases h3 : ((c :: l).takeWhile inner).length ≤ 16
   ·rw [if_pos h3]; exact ⟨decide_eq_true (by omega), e1, rfl, by rw [show ((0 : Nat) : Int) = 0 from rfl, wrap32_0], rfl⟩
   ·rw [if_neg h3]; exact decide_eq_false (by omega)
 ·simp only [one]
  rw [if_neg h1]; by_cases h2 : digit c = true
  ·rw [if_pos h2]; have hp : (c :: l).takeWhile digit <+: c :: l := List.takeWhile_prefix _
   obtain ⟨e1, e2⟩ := (piece_take s i h hp).resolve_right (by simp)
   have hv := integer_ev (s.extract (i : Int).toNat (((i + ((c :: l).takeWhile digit).length : Nat) : Int)).toNat) (by rw [← bs_len, e1]; omega) ((c :: l).takeWhile digit) 0 0 (by rw [List.drop_zero, e1]) (LexM.all_takeWhile digit _) (by omega)
   cases hvn : value 0 ((c :: l).takeWhile digit) with
   | none =>
    rw [hvn] at hv; have hn := num_ev s hs i (i + ((c :: l).takeWhile digit).length) (by omega) e2 0 false hv (c :: l) i h rfl
    exact ⟨_, _, _, _, _, pre _ (Evt.neg h1 (Evt.pos h2 hn)), by simp⟩
   | some n =>
    rw [hvn] at hv; have hn := num_ev s hs i (i + ((c :: l).takeWhile digit).length) (by omega) e2 (wrap32 (n : Int)) true hv (c :: l) i h rfl
    refine ⟨_, _, _, _, _, pre _ (Evt.neg h1 (Evt.pos h2 hn)), ?_⟩
    cases he : ends ((c :: l).dropWhile digit) with
    | true => exact ⟨rfl, e1, rfl, rfl, rfl⟩
    | false => rfl
  ·rw [if_neg h2]; obtain ⟨t, ht, htt⟩ := sign_ev s i (by omega)
   rw [h] at htt; refine ⟨_, _, _, _, _, pre _ (Evt.neg h1 (Evt.neg h2 (Evt.bind ht (Evt.const _)))), ?_⟩
   cases hq : signs.find? (fun x => x.isPrefixOf (c :: l)) with
   | none =>
    rw [hq] at htt; have htt : bs t = [] := htt
    simp only [Option.map_none]
    rw [ByteArray.toList_eq, show t.data.toList = [] from htt]
    rfl
   | some x =>
    rw [hq] at htt; have htt : bs t = x := htt
    have hne := (LexM.signs_ne x (List.mem_of_find?_eq_some hq)).1; simp only [Option.map_some]
    refine ⟨?_, htt, rfl, by rw [show ((0 : Nat) : Int) = 0 from rfl, wrap32_0], by first | rfl | trivial⟩
    rw [ByteArray.toList_eq, show t.data.toList = x from htt]; simpa using hne
theorem ltake_ev (s : ByteArray) (hs : s.size ≤ 100000) {a : Nat} {c : UInt8} {l : List UInt8} {t : Tk} (h : (bs s).drop a = c :: l) (ht : one (c :: l) = some t) (out : List S30) (ho : out.length ≤ 100000) (b : Int) (hb : Evt (fun k => lex_skip.l0 k s ((a + t.text.length : Nat) : Int)) b) (r : List S30 × Int × Int)
  (hr : Evt (fun k => lex_Tokens.l0 k s 0 (out ++ [tkS (a, t)]) b) r) : Evt (fun k => lex_Tokens.l0 k s 0 out (a : Int)) r := by
 obtain ⟨hi, _⟩ := bt_drop s a h; obtain ⟨k, a', txt, v, ok, he, hm⟩ := next_ev s hs a h; rw [ht] at hm; obtain ⟨rfl, h2, rfl, rfl, rfl⟩ := hm; have htx : txt = ⟨t.text.toArray⟩ := bs_inj (by rw [h2, bs_mk])
 have hlen : txt.size = t.text.length := by rw [← bs_len, h2]
 have hle := (LexM.one_prefix ht).1.length_le; have hL := congrArg List.length h; rw [List.length_drop, bs_len] at hL; refine Evt.succ ?_
 simp only [lex_Tokens.l0]
 refine Evt.pos (by omega) (Evt.bind he (Evt.pos rfl (Evt.pos (by omega) ?_)))
 have e2 : wrap64 ((a : Int) + (txt.size : Int)) = ((a + t.text.length : Nat) : Int) := by rw [hlen, wrap64_id (by omega) (by omega)]; omega
 subst htx; show Evt (fun k => (lex_skip.f k s (wrap64 ((a : Int) + ((⟨t.text.toArray⟩ : ByteArray).size : Int)))).bind fun t135 => lex_Tokens.l0 k s 0 (out ++ [tkS (a, t)]) t135) r
 rw [e2]; exact Evt.bind hb hr
theorem ltokens_ok (s : ByteArray) (hs : s.size ≤ 100000) {a : Nat} {l : List UInt8} {ts : List (Nat × Tk)} (h : Lx a l ts) : l = (bs s).drop a → ∃ b, Evt (fun k => lex_skip.l0 k s (a : Int)) b ∧ ∀ out : List S30, out.length ≤ a → Evt (fun k => lex_Tokens.l0 k s 0 out b) (out ++ ts.map tkS, 0, 0) := by
 induction h with
 | @nil a =>
  intro hl
  refine ⟨_, skip_end s a hl.symm, fun out _ => ?_⟩
  have := bt_end s a hl.symm
  refine Evt.succ ?_
  simp only [lex_Tokens.l0]
  refine Evt.neg (by omega) ?_
  simpa using Evt.const _
 | @note a l ts _ ih =>
  intro hl
  have hn := drop_next hl.symm; obtain ⟨b, hb, ho⟩ := ih (by rw [← LexM.drop_takeWhile]; exact drop_add hn.symm)
  exact ⟨b, skip_note s hs a hl.symm b hb, fun out h => ho out (by omega)⟩
 | @skip a c l ts hb' _ ih =>
  intro hl
  obtain ⟨b, hb, ho⟩ := ih (drop_next hl.symm).symm; exact ⟨b, skip_blank s hs a hl.symm hb' b hb, fun out h => ho out (by omega)⟩
 | @tok a c l t ts hg ht _ ih =>
  intro hl
  have hne := List.length_pos_iff.2 (LexM.one_prefix ht).2; obtain ⟨hi, _⟩ := bt_drop s a hl.symm; obtain ⟨b, hb, ho⟩ := ih (drop_add hl); refine ⟨_, skip_here s a hl.symm hg, fun out h => ltake_ev s hs hl.symm ht out (by omega) b hb _ ?_⟩
  have := ho (out ++ [tkS (a, t)]) (by simp; omega)
  simpa using this
theorem ltokens_er (s : ByteArray) (hs : s.size ≤ 100000) {a e : Nat} {l : List UInt8} (h : Er a l e) : l = (bs s).drop a → ∃ b, Evt (fun k => lex_skip.l0 k s (a : Int)) b ∧ ∀ out : List S30, out.length ≤ a → Evt (fun k => lex_Tokens.l0 k s 0 out b) ([], (e : Int), 2) := by
 induction h with
 | @note a e l _ ih =>
  intro hl
  have hn := drop_next hl.symm; obtain ⟨b, hb, ho⟩ := ih (by rw [← LexM.drop_takeWhile]; exact drop_add hn.symm)
  exact ⟨b, skip_note s hs a hl.symm b hb, fun out h => ho out (by omega)⟩
 | @skip a e c l hb' _ ih =>
  intro hl
  obtain ⟨b, hb, ho⟩ := ih (drop_next hl.symm).symm; exact ⟨b, skip_blank s hs a hl.symm hb' b hb, fun out h => ho out (by omega)⟩
 | @tok a e c l t hg ht _ ih =>
  intro hl
  have hne := List.length_pos_iff.2 (LexM.one_prefix ht).2; obtain ⟨hi, _⟩ := bt_drop s a hl.symm; obtain ⟨b, hb, ho⟩ := ih (drop_add hl); exact ⟨_, skip_here s a hl.symm hg, fun out h => ltake_ev s hs hl.symm ht out (by omega) b hb _ (ho (out ++ [tkS (a, t)]) (by simp; omega))⟩
 | @here a c l hg ht =>
  intro hl
  obtain ⟨hi, _⟩ := bt_drop s a hl.symm; refine ⟨_, skip_here s a hl.symm hg, fun out h => ?_⟩
  obtain ⟨k, a', txt, v, ok, he, hm⟩ := next_ev s hs a hl.symm; rw [ht] at hm; simp only at hm
  subst hm; refine Evt.succ ?_
  simp only [lex_Tokens.l0]
  exact Evt.pos (by omega) (Evt.bind he (Evt.neg (by simp) (Evt.const _)))
def TokR (s : ByteArray) (r : List S30 × Int × Int) : Prop := (s.size > 4000 ∧ r = ([], 0, 5)) ∨ (s.size ≤ 4000 ∧ ∃ ts, Lx 0 (bs s) ts ∧ r = (ts.map tkS, 0, 0)) ∨ (s.size ≤ 4000 ∧ ∃ e, Er 0 (bs s) e ∧ r = ([], (e : Int), 2))
theorem tokens_r (s : ByteArray) : ∃ r, Evt (fun k => lex_Tokens.f k s) r ∧ Evt (fun k => r2_Tokens.f k s) r ∧ TokR s r := by
 by_cases h : s.size > 4000
 ·refine ⟨_, ?_, ?_, .inl ⟨h, rfl⟩⟩
  ·unfold lex_Tokens.f
   exact Evt.pos (by omega) (Evt.const _)
  ·unfold r2_Tokens.f
   exact Evt.pos (by omega) (Evt.const _)
 ·rcases LexM.lx_or_er _ 0 (bs s) (Nat.le_refl _) with ⟨ts, hl⟩ | ⟨e, hl⟩
  ·refine ⟨_, ?_, ?_, .inr (.inl ⟨by omega, ts, hl, rfl⟩)⟩
   ·obtain ⟨b, hb, ho⟩ := ltokens_ok s (by omega) hl (List.drop_zero).symm
    have := ho [] (Nat.zero_le _)
    rw [List.nil_append] at this; unfold lex_Tokens.f lex_words.f
    exact Evt.neg (by omega) (Evt.bind (Evt.const 0) (Evt.bind hb this))
   ·have := rtokens_ok s (by omega) hl (List.drop_zero).symm [] (Nat.zero_le _)
    rw [List.nil_append] at this; unfold r2_Tokens.f
    exact Evt.neg (by omega) this
  ·refine ⟨_, ?_, ?_, .inr (.inr ⟨by omega, e, hl, rfl⟩)⟩
   ·obtain ⟨b, hb, ho⟩ := ltokens_er s (by omega) hl (List.drop_zero).symm
    have := ho [] (Nat.zero_le _)
    unfold lex_Tokens.f lex_words.f
    exact Evt.neg (by omega) (Evt.bind (Evt.const 0) (Evt.bind hb this))
   ·have := rtokens_er s (by omega) hl (List.drop_zero).symm [] (Nat.zero_le _)
    unfold r2_Tokens.f
    exact Evt.neg (by omega) this
end Go.Proofs.YtplcemlennloaaaDoor.M
end
section
namespace Go.Proofs.YtplcemlennloaaaDoor.M
open Go Go.RowKit Go.Proofs.YtplcemlennloaaaDoorW.PrintWords Go.Proofs.YtplcemlennloaaaDoorW.PrintLast Go.Proofs.YtplcemlennloaaaDoorW.PrintMore Go.Proofs.YtplcemlennloaaaDoor.A Go.Proofs.YtplcemlennloaaaDoor.B Go.Proofs.YtplcemlennloaaaDoor.S Go.Proofs.YtplcemlennloaaaDoor.N
open LexM (letter digit inner gapc value ends one words signs Tk Lx Er)
theorem lx_len {a : Nat} {l : List UInt8} {ts : List (Nat × Tk)} (h : Lx a l ts) : ts.length ≤ l.length := by
 induction h with
 | nil => exact Nat.le_refl _
 | @note a l ts _ ih =>
  have := (List.dropWhile_suffix (l := l) fun c => c != 10).length_le
  simp only [List.length_cons]
  omega
 | skip _ _ ih => simp only [List.length_cons]; omega
 | @tok a c l t ts _ ht _ ih =>
  have hne := List.length_pos_iff.2 (LexM.one_prefix ht).2; simp only [List.length_drop, List.length_cons] at ih ⊢
  omega
theorem rd_nat (xs : List S30) (i : Nat) (h : i < xs.length) : rd_T30 xs (i : Int) = xs[i] := by simp [rd_T30, h]
theorem same_loop (A B : List S30) (m : Bool) (hl : A.length = B.length) (hA : A.length ≤ 100000)
  (h : ∀ i (h1 : i < A.length) (h2 : i < B.length), A[i].f0 = B[i].f0 ∧ A[i].f2 = B[i].f2 ∧ A[i].f3 = B[i].f3 ∧ (m = true → A[i].f1 = B[i].f1)) :
  ∀ n j : Nat, j + n = A.length → Evt (fun k => r2_Same.l0 k A B m (j : Int)) true
 | 0, j, hj => by
  refine Evt.succ ?_
  simp only [r2_Same.l0]
  exact Evt.neg (by omega) (Evt.const _)
 | n + 1, j, hj => by
  have ih := same_loop A B m hl hA h n (j + 1) (by omega)
  obtain ⟨h0, h2, h3, h1⟩ := h j (by omega) (by omega)
  refine Evt.succ ?_
  simp only [r2_Same.l0, rd_nat A j (by omega), rd_nat B j (by omega), wrap_succ j (by omega)]
  refine Evt.pos (by omega) (Evt.pos (by omega) (Evt.pos (by omega) (Evt.pos h0 (Evt.pos (by rw [h2]) (Evt.pos h3 ?_)))))
  cases m with
  | true => exact Evt.pos (by first | rfl | trivial) (Evt.pos (h1 rfl) ih)
  | false => exact Evt.neg (by simp) ih
theorem same_true (A B : List S30) (m : Bool) (hl : A.length = B.length) (hA : A.length ≤ 100000)
  (h : ∀ i (h1 : i < A.length) (h2 : i < B.length), A[i].f0 = B[i].f0 ∧ A[i].f2 = B[i].f2 ∧ A[i].f3 = B[i].f3 ∧ (m = true → A[i].f1 = B[i].f1)) :
  Evt (fun k => r2_Same.f k A B m) true := by
 unfold r2_Same.f
 exact Evt.pos (by omega) (same_loop A B m hl hA h A.length 0 (Nat.zero_add _))
theorem same_self (A : List S30) (m : Bool) (hA : A.length ≤ 100000) : Evt (fun k => r2_Same.f k A A m) true :=
 same_true A A m rfl hA fun _ _ _ => ⟨rfl, rfl, rfl, fun _ => rfl⟩
end Go.Proofs.YtplcemlennloaaaDoor.M
end
section
namespace Go.Proofs.YtplcemlennloaaaDoor.C
open Go.RowKit Go.Proofs.YtplcemlennloaaaDoorW.PrintWords Go.Proofs.YtplcemlennloaaaDoorW.PrintLast Go.Proofs.YtplcemlennloaaaDoorW.PrintMore Go.Proofs.YtplcemlennloaaaDoor Go.Proofs.YtplcemlennloaaaDoor.A Go.Proofs.YtplcemlennloaaaDoor.B Go.Proofs.YtplcemlennloaaaDoor.N
set_option linter.unusedVariables false
set_option linter.unusedSimpArgs false
def l2_awake.f (k : Nat)  : Option (Bool) := (lex_Tokens.f k (⟨#[97, 62, 62, 62, 61, 98]⟩ : ByteArray)).bind fun bt101 => ((lex_Tokens.f k (⟨#[108, 101, 116, 32, 120, 49, 32, 61, 32, 49, 48, 59, 32, 35, 32, 116, 101, 110]⟩ : ByteArray)).bind fun bt106 => ((lex_Tokens.f k (⟨#[49, 50, 97]⟩ : ByteArray)).bind fun bt111 => ((lex_Tokens.f k (⟨#[36]⟩ : ByteArray)).bind fun bt116 => (if (bt101.1.length : Int) = 4 then (if bt101.2.1 = 0 then (if bt101.2.2 = 0 then (if 1 < (bt101.1.length : Int) then (if ((rd_T30 bt101.1 1).f2).toList = ([62, 62, 62] : List UInt8) then (if (bt106.1.length : Int) = 5 then (if 3 < (bt106.1.length : Int) then (if ((rd_T30 bt106.1 3).f3) = 10 then (if bt111.2.1 = 0 then (if bt111.2.2 = 2 then (if bt116.2.2 = 2 then ((lex_Name.f k (⟨#[120, 49]⟩ : ByteArray)).bind fun t123 => (if t123 = true then ((lex_Name.f k (⟨#[108, 101, 116]⟩ : ByteArray)).bind fun t124 => (some (!t124))) else (some false))) else (some false)) else (some false)) else (some false)) else (some false)) else (none)) else (some false)) else (some false)) else (none)) else (some false)) else (some false)) else (some false)))))
theorem l2_awake.mono : ∀ k, LeO (l2_awake.f k ) (l2_awake.f (k + 1) ) := by
 intro  k
 unfold l2_awake.f
 repeat' first
   | (with_reducible exact lex_Name.mono _ _)
   | (with_reducible exact lex_Tokens.mono _ _)
   | (with_reducible exact LeO.refl _)
   | (with_reducible exact LeO.none _)
   | (with_reducible refine LeO.ite ?_ ?_)
   | (with_reducible refine LeO.bind ?_ (fun _ => ?_))
set_option maxHeartbeats 8000000 in
set_option maxRecDepth 100000 in
theorem l2_awake.calls (k : Nat)  (r : Bool) (w : World) (h : l2_awake.f k  = some r) (hT : Tab w) :
  Calls Tryd.prog 10 #[] w fun e w' => e = .returned (.bool r) ∧ Below w.heap.size w w' := by
 have HT := Aside0.mk hT; clear hT; have HB := Aside0.mk (Below.refl w.heap.size w); have H : ((lex_Tokens.f k (⟨#[97, 62, 62, 62, 61, 98]⟩ : ByteArray)).bind fun bt101 => ((lex_Tokens.f k (⟨#[108, 101, 116, 32, 120, 49, 32, 61, 32, 49, 48, 59, 32, 35, 32, 116, 101, 110]⟩ : ByteArray)).bind fun bt106 => ((lex_Tokens.f k (⟨#[49, 50, 97]⟩ : ByteArray)).bind fun bt111 => ((lex_Tokens.f k (⟨#[36]⟩ : ByteArray)).bind fun bt116 => (if (bt101.1.length : Int) = 4 then (if bt101.2.1 = 0 then (if bt101.2.2 = 0 then (if 1 < (bt101.1.length : Int) then (if ((rd_T30 bt101.1 1).f2).toList = ([62, 62, 62] : List UInt8) then (if (bt106.1.length : Int) = 5 then (if 3 < (bt106.1.length : Int) then (if ((rd_T30 bt106.1 3).f3) = 10 then (if bt111.2.1 = 0 then (if bt111.2.2 = 2 then (if bt116.2.2 = 2 then ((lex_Name.f k (⟨#[120, 49]⟩ : ByteArray)).bind fun t123 => (if t123 = true then ((lex_Name.f k (⟨#[108, 101, 116]⟩ : ByteArray)).bind fun t124 => (some (!t124))) else (some false))) else (some false)) else (some false)) else (some false)) else (some false)) else (none)) else (some false)) else (some false)) else (none)) else (some false)) else (some false)) else (some false)))))) = some r := h
 clear h; replace H := Option.bind_eq_some_iff.mp H; obtain ⟨⟨t101, t102, t103⟩, A10, H⟩ := H; replace H : ((lex_Tokens.f k (⟨#[108, 101, 116, 32, 120, 49, 32, 61, 32, 49, 48, 59, 32, 35, 32, 116, 101, 110]⟩ : ByteArray)).bind fun bt106 => ((lex_Tokens.f k (⟨#[49, 50, 97]⟩ : ByteArray)).bind fun bt111 => ((lex_Tokens.f k (⟨#[36]⟩ : ByteArray)).bind fun bt116 => (if (t101.length : Int) = 4 then (if t102 = 0 then (if t103 = 0 then (if 1 < (t101.length : Int) then (if ((rd_T30 t101 1).f2).toList = ([62, 62, 62] : List UInt8) then (if (bt106.1.length : Int) = 5 then (if 3 < (bt106.1.length : Int) then (if ((rd_T30 bt106.1 3).f3) = 10 then (if bt111.2.1 = 0 then (if bt111.2.2 = 2 then (if bt116.2.2 = 2 then ((lex_Name.f k (⟨#[120, 49]⟩ : ByteArray)).bind fun t123 => (if t123 = true then ((lex_Name.f k (⟨#[108, 101, 116]⟩ : ByteArray)).bind fun t124 => (some (!t124))) else (some false))) else (some false)) else (some false)) else (some false)) else (some false)) else (none)) else (some false)) else (some false)) else (none)) else (some false)) else (some false)) else (some false))))) = some r := H
 have A1 := Aside0.mk A10; clear A10; replace H := Option.bind_eq_some_iff.mp H; obtain ⟨⟨t106, t107, t108⟩, A20, H⟩ := H; replace H : ((lex_Tokens.f k (⟨#[49, 50, 97]⟩ : ByteArray)).bind fun bt111 => ((lex_Tokens.f k (⟨#[36]⟩ : ByteArray)).bind fun bt116 => (if (t101.length : Int) = 4 then (if t102 = 0 then (if t103 = 0 then (if 1 < (t101.length : Int) then (if ((rd_T30 t101 1).f2).toList = ([62, 62, 62] : List UInt8) then (if (t106.length : Int) = 5 then (if 3 < (t106.length : Int) then (if ((rd_T30 t106 3).f3) = 10 then (if bt111.2.1 = 0 then (if bt111.2.2 = 2 then (if bt116.2.2 = 2 then ((lex_Name.f k (⟨#[120, 49]⟩ : ByteArray)).bind fun t123 => (if t123 = true then ((lex_Name.f k (⟨#[108, 101, 116]⟩ : ByteArray)).bind fun t124 => (some (!t124))) else (some false))) else (some false)) else (some false)) else (some false)) else (some false)) else (none)) else (some false)) else (some false)) else (none)) else (some false)) else (some false)) else (some false)))) = some r := H
 have A2 := Aside0.mk A20; clear A20; replace H := Option.bind_eq_some_iff.mp H; obtain ⟨⟨t111, t112, t113⟩, A30, H⟩ := H; replace H : ((lex_Tokens.f k (⟨#[36]⟩ : ByteArray)).bind fun bt116 => (if (t101.length : Int) = 4 then (if t102 = 0 then (if t103 = 0 then (if 1 < (t101.length : Int) then (if ((rd_T30 t101 1).f2).toList = ([62, 62, 62] : List UInt8) then (if (t106.length : Int) = 5 then (if 3 < (t106.length : Int) then (if ((rd_T30 t106 3).f3) = 10 then (if t112 = 0 then (if t113 = 2 then (if bt116.2.2 = 2 then ((lex_Name.f k (⟨#[120, 49]⟩ : ByteArray)).bind fun t123 => (if t123 = true then ((lex_Name.f k (⟨#[108, 101, 116]⟩ : ByteArray)).bind fun t124 => (some (!t124))) else (some false))) else (some false)) else (some false)) else (some false)) else (some false)) else (none)) else (some false)) else (some false)) else (none)) else (some false)) else (some false)) else (some false))) = some r := H
 have A3 := Aside0.mk A30; clear A30; replace H := Option.bind_eq_some_iff.mp H; obtain ⟨⟨t116, t117, t118⟩, A40, H⟩ := H; replace H : (if (t101.length : Int) = 4 then (if t102 = 0 then (if t103 = 0 then (if 1 < (t101.length : Int) then (if ((rd_T30 t101 1).f2).toList = ([62, 62, 62] : List UInt8) then (if (t106.length : Int) = 5 then (if 3 < (t106.length : Int) then (if ((rd_T30 t106 3).f3) = 10 then (if t112 = 0 then (if t113 = 2 then (if t118 = 2 then ((lex_Name.f k (⟨#[120, 49]⟩ : ByteArray)).bind fun t123 => (if t123 = true then ((lex_Name.f k (⟨#[108, 101, 116]⟩ : ByteArray)).bind fun t124 => (some (!t124))) else (some false))) else (some false)) else (some false)) else (some false)) else (some false)) else (none)) else (some false)) else (some false)) else (none)) else (some false)) else (some false)) else (some false)) = some r := H
 have A4 := Aside0.mk A40; clear A40; by_cases c5 : (t101.length : Int) = 4
 ·rw [if_pos c5] at H; have c5b0 : ((t101.length : Int) == 4) = true := beq_iff_eq.mpr c5
  have c5b1 : ((t101.length : Int) != 4) = false := bne_eq_false_iff_eq.mpr c5
  clear c5; by_cases c6 : t102 = 0
  ·rw [if_pos c6] at H; have c6b0 : (t102 == 0) = true := beq_iff_eq.mpr c6
   have c6b1 : (t102 != 0) = false := bne_eq_false_iff_eq.mpr c6
   clear c6; by_cases c7 : t103 = 0
   ·rw [if_pos c7] at H; have c7b0 : (t103 == 0) = true := beq_iff_eq.mpr c7
    have c7b1 : (t103 != 0) = false := bne_eq_false_iff_eq.mpr c7
    clear c7; by_cases c8 : 1 < (t101.length : Int)
    ·rw [if_pos c8] at H; have c8b0 : decide (1 < (t101.length : Int)) = true := decide_eq_true c8
     have c8b1 : decide (1 < t101.length) = true := decide_eq_true (by omega)
     clear c8; by_cases c9 : ((rd_T30 t101 1).f2).toList = ([62, 62, 62] : List UInt8)
     ·rw [if_pos c9] at H; have c9b0 : (((rd_T30 t101 1).f2).toList == ([62, 62, 62] : List UInt8)) = true := beq_iff_eq.mpr c9
      have c9b1 : (((rd_T30 t101 1).f2).toList != ([62, 62, 62] : List UInt8)) = false := bne_eq_false_iff_eq.mpr c9
      clear c9; by_cases c10 : (t106.length : Int) = 5
      ·rw [if_pos c10] at H; have c10b0 : ((t106.length : Int) == 5) = true := beq_iff_eq.mpr c10
       have c10b1 : ((t106.length : Int) != 5) = false := bne_eq_false_iff_eq.mpr c10
       clear c10; by_cases c11 : 3 < (t106.length : Int)
       ·rw [if_pos c11] at H; have c11b0 : decide (3 < (t106.length : Int)) = true := decide_eq_true c11
        have c11b1 : decide (3 < t106.length) = true := decide_eq_true (by omega)
        clear c11; by_cases c12 : ((rd_T30 t106 3).f3) = 10
        ·rw [if_pos c12] at H; have c12b0 : (((rd_T30 t106 3).f3) == 10) = true := beq_iff_eq.mpr c12
         have c12b1 : (((rd_T30 t106 3).f3) != 10) = false := bne_eq_false_iff_eq.mpr c12
         clear c12; by_cases c13 : t112 = 0
         ·rw [if_pos c13] at H; have c13b0 : (t112 == 0) = true := beq_iff_eq.mpr c13
          have c13b1 : (t112 != 0) = false := bne_eq_false_iff_eq.mpr c13
          clear c13; by_cases c14 : t113 = 2
          ·rw [if_pos c14] at H; have c14b0 : (t113 == 2) = true := beq_iff_eq.mpr c14
           have c14b1 : (t113 != 2) = false := bne_eq_false_iff_eq.mpr c14
           clear c14; by_cases c15 : t118 = 2
           ·rw [if_pos c15] at H; have c15b0 : (t118 == 2) = true := beq_iff_eq.mpr c15
            have c15b1 : (t118 != 2) = false := bne_eq_false_iff_eq.mpr c15
            clear c15; replace H := Option.bind_eq_some_iff.mp H; obtain ⟨t123, A160, H⟩ := H; replace H : (if t123 = true then ((lex_Name.f k (⟨#[108, 101, 116]⟩ : ByteArray)).bind fun t124 => (some (!t124))) else (some false)) = some r := H
            have A16 := Aside0.mk A160; clear A160; by_cases c17 : t123 = true
            ·subst c17; have H1 : ((lex_Name.f k (⟨#[108, 101, 116]⟩ : ByteArray)).bind fun t124 => (some (!t124))) = some r := by rw [if_pos rfl] at H; exact H
             clear H; have H := H1; clear H1; replace H := Option.bind_eq_some_iff.mp H; obtain ⟨t124, A180, H⟩ := H; replace H : (some (!t124)) = some r := H; have A18 := Aside0.mk A180; clear A180; obtain rfl := Option.some.inj H; go_enter Tryd.func10, Tryd.ntmps10
             go_wp2_with (first | ((with_reducible refine gate_callee (f := 11) rfl ?_); refine goesL_ (some 14) rfl rfl Tryd.func11 (by kernel_rfl) rfl #[.string (⟨#[97, 62, 62, 62, 61, 98]⟩ : ByteArray)] rfl (by (try simp only [List.map_toArray, List.map_cons, List.map_nil]); first | done | rfl | (simp only [List.length_drop, List.length_take]; rfl)) ?_; (with_reducible refine (lex_Tokens.calls k (⟨#[97, 62, 62, 62, 61, 98]⟩ : ByteArray) t101 t102 t103 _ A1.out ?hTab).mono ?_); (case hTab => exact HT.out.below (by repeat (first | (with_reducible first | exact HB.out | apply below_alloc | apply pw_below_drewN | apply below_drew1) | exact HB.out))); rintro e w19 ⟨v104, rfl, ho0, hb⟩; refine ⟨_, rfl, ?_⟩; have n0_ := Aside0.mk (Kd.R_lower ho0 (below_size (by repeat (first | (with_reducible first | exact HB.out | apply below_alloc | apply pw_below_drewN | apply below_drew1) | exact HB.out)))); have n1_ := Aside0.mk (below_step (by repeat (first | (with_reducible first | exact HB.out | apply below_alloc | apply pw_below_drewN | apply below_drew1) | exact HB.out)) hb); clear HB; have HO105 := n0_; have HB := n1_; clear n0_ n1_; (try clear hb); (try clear hb2); (try clear hk); (try clear hi); (try clear ho0)) | ((with_reducible refine gate_callee (f := 11) rfl ?_); refine goesL_ (some 19) rfl rfl Tryd.func11 (by kernel_rfl) rfl #[.string (⟨#[108, 101, 116, 32, 120, 49, 32, 61, 32, 49, 48, 59, 32, 35, 32, 116, 101, 110]⟩ : ByteArray)] rfl (by (try simp only [List.map_toArray, List.map_cons, List.map_nil]); first | done | rfl | (simp only [List.length_drop, List.length_take]; rfl)) ?_; (with_reducible refine (lex_Tokens.calls k (⟨#[108, 101, 116, 32, 120, 49, 32, 61, 32, 49, 48, 59, 32, 35, 32, 116, 101, 110]⟩ : ByteArray) t106 t107 t108 _ A2.out ?hTab).mono ?_); (case hTab => exact HT.out.below (by repeat (first | (with_reducible first | exact HB.out | apply below_alloc | apply pw_below_drewN | apply below_drew1) | exact HB.out))); rintro e w20 ⟨v109, rfl, ho0, hb⟩; refine ⟨_, rfl, ?_⟩; have n0_ := Aside0.mk (Kd.R_elder' (by (with_reducible repeat (first | apply Kd.R_alloc | apply Kd.R_drewN | apply Kd.R_drew)); exact HO105.out) (Kd.R_base ho0) hb); have n1_ := Aside0.mk (Kd.R_lower (Kd.R_new' ho0 (Kd.R_lt (by (with_reducible repeat (first | apply Kd.R_alloc | apply Kd.R_drewN | apply Kd.R_drew)); exact HO105.out))) (below_size (by repeat (first | (with_reducible first | exact HB.out | apply below_alloc | apply pw_below_drewN | apply below_drew1) | exact HB.out)))); have n2_ := Aside0.mk (below_step (by repeat (first | (with_reducible first | exact HB.out | apply below_alloc | apply pw_below_drewN | apply below_drew1) | exact HB.out)) hb); clear HO105; clear HB; have HO105 := n0_; have HO110 := n1_; have HB := n2_; clear n0_ n1_ n2_; (try clear hb); (try clear hb2); (try clear hk); (try clear hi); (try clear ho0)) | ((with_reducible refine gate_callee (f := 11) rfl ?_); refine goesL_ (some 24) rfl rfl Tryd.func11 (by kernel_rfl) rfl #[.string (⟨#[49, 50, 97]⟩ : ByteArray)] rfl (by (try simp only [List.map_toArray, List.map_cons, List.map_nil]); first | done | rfl | (simp only [List.length_drop, List.length_take]; rfl)) ?_; (with_reducible refine (lex_Tokens.calls k (⟨#[49, 50, 97]⟩ : ByteArray) t111 t112 t113 _ A3.out ?hTab).mono ?_); (case hTab => exact HT.out.below (by repeat (first | (with_reducible first | exact HB.out | apply below_alloc | apply pw_below_drewN | apply below_drew1) | exact HB.out))); rintro e w21 ⟨v114, rfl, ho0, hb⟩; refine ⟨_, rfl, ?_⟩; have n0_ := Aside0.mk (Kd.R_elder' (by (with_reducible repeat (first | apply Kd.R_alloc | apply Kd.R_drewN | apply Kd.R_drew)); exact HO105.out) (Kd.R_base ho0) hb); have n1_ := Aside0.mk (Kd.R_elder' (by (with_reducible repeat (first | apply Kd.R_alloc | apply Kd.R_drewN | apply Kd.R_drew)); exact HO110.out) (Kd.R_base ho0) hb); have n2_ := Aside0.mk (Kd.R_lower (Kd.R_new' (Kd.R_new' ho0 (Kd.R_lt (by (with_reducible repeat (first | apply Kd.R_alloc | apply Kd.R_drewN | apply Kd.R_drew)); exact HO105.out))) (Kd.R_lt (by (with_reducible repeat (first | apply Kd.R_alloc | apply Kd.R_drewN | apply Kd.R_drew)); exact HO110.out))) (below_size (by repeat (first | (with_reducible first | exact HB.out | apply below_alloc | apply pw_below_drewN | apply below_drew1) | exact HB.out)))); have n3_ := Aside0.mk (below_step (by repeat (first | (with_reducible first | exact HB.out | apply below_alloc | apply pw_below_drewN | apply below_drew1) | exact HB.out)) hb); clear HO105; clear HO110; clear HB; have HO105 := n0_; have HO110 := n1_; have HO115 := n2_; have HB := n3_; clear n0_ n1_ n2_ n3_; (try clear hb); (try clear hb2); (try clear hk); (try clear hi); (try clear ho0)) | ((with_reducible refine gate_callee (f := 11) rfl ?_); refine goesL_ (some 29) rfl rfl Tryd.func11 (by kernel_rfl) rfl #[.string (⟨#[36]⟩ : ByteArray)] rfl (by (try simp only [List.map_toArray, List.map_cons, List.map_nil]); first | done | rfl | (simp only [List.length_drop, List.length_take]; rfl)) ?_; (with_reducible refine (lex_Tokens.calls k (⟨#[36]⟩ : ByteArray) t116 t117 t118 _ A4.out ?hTab).mono ?_); (case hTab => exact HT.out.below (by repeat (first | (with_reducible first | exact HB.out | apply below_alloc | apply pw_below_drewN | apply below_drew1) | exact HB.out))); rintro e w22 ⟨v119, rfl, ho0, hb⟩; refine ⟨_, rfl, ?_⟩; have n0_ := Aside0.mk (Kd.R_elder' (by (with_reducible repeat (first | apply Kd.R_alloc | apply Kd.R_drewN | apply Kd.R_drew)); exact HO105.out) (Kd.R_base ho0) hb); have n1_ := Aside0.mk (Kd.R_elder' (by (with_reducible repeat (first | apply Kd.R_alloc | apply Kd.R_drewN | apply Kd.R_drew)); exact HO110.out) (Kd.R_base ho0) hb); have n2_ := Aside0.mk (Kd.R_elder' (by (with_reducible repeat (first | apply Kd.R_alloc | apply Kd.R_drewN | apply Kd.R_drew)); exact HO115.out) (Kd.R_base ho0) hb); have n3_ := Aside0.mk (Kd.R_lower (Kd.R_new' (Kd.R_new' (Kd.R_new' ho0 (Kd.R_lt (by (with_reducible repeat (first | apply Kd.R_alloc | apply Kd.R_drewN | apply Kd.R_drew)); exact HO105.out))) (Kd.R_lt (by (with_reducible repeat (first | apply Kd.R_alloc | apply Kd.R_drewN | apply Kd.R_drew)); exact HO110.out))) (Kd.R_lt (by (with_reducible repeat (first | apply Kd.R_alloc | apply Kd.R_drewN | apply Kd.R_drew)); exact HO115.out))) (below_size (by repeat (first | (with_reducible first | exact HB.out | apply below_alloc | apply pw_below_drewN | apply below_drew1) | exact HB.out)))); have n4_ := Aside0.mk (below_step (by repeat (first | (with_reducible first | exact HB.out | apply below_alloc | apply pw_below_drewN | apply below_drew1) | exact HB.out)) hb); clear HO105; clear HO110; clear HO115; clear HB; have HO105 := n0_; have HO110 := n1_; have HO115 := n2_; have HO120 := n3_; have HB := n4_; clear n0_ n1_ n2_ n3_ n4_; (try clear hb); (try clear hb2); (try clear hk); (try clear hi); (try clear ho0); obtain ⟨Ao23, co23, eo23⟩ := Kd.R_slice HO105.out; subst eo23; have p121 : 0 ≤ (1 : Int) := (by omega); have q121 : 1 < (t101.length : Int) := of_decide_eq_true (by with_reducible assumption); obtain ⟨ad121, e121, hx121_0, hx121_1, hx121_2, hx121_3⟩ := at_T30 (Kd.R_reads' HO105.out).2.2 1 p121 q121; cases e121; (try simp only [show (1 : Int).toNat = 1 from rfl, Nat.reduceMul, Nat.reduceEqDiff, Go.Addr.add, ↓reduceIte] at hx121_0); (try simp only [show (1 : Int).toNat = 1 from rfl, Nat.reduceMul, Nat.reduceEqDiff, Go.Addr.add, ↓reduceIte] at hx121_1); (try simp only [show (1 : Int).toNat = 1 from rfl, Nat.reduceMul, Nat.reduceEqDiff, Go.Addr.add, ↓reduceIte] at hx121_2); (try simp only [show (1 : Int).toNat = 1 from rfl, Nat.reduceMul, Nat.reduceEqDiff, Go.Addr.add, ↓reduceIte] at hx121_3); have qi121 : (1 < t101.length) = True := eq_true (by omega); (try rw [show ((1 : Int)).toNat = 1 from rfl] at hx121_0); (try rw [show 1 * 4 = 4 from rfl] at hx121_0); (try rw [show ((1 : Int)).toNat = 1 from rfl] at hx121_1); (try rw [show 1 * 4 = 4 from rfl] at hx121_1); (try rw [show ((1 : Int)).toNat = 1 from rfl] at hx121_2); (try rw [show 1 * 4 = 4 from rfl] at hx121_2); (try rw [show ((1 : Int)).toNat = 1 from rfl] at hx121_3); (try rw [show 1 * 4 = 4 from rfl] at hx121_3); replace p121 := eq_true p121; replace q121 := eq_true q121; obtain ⟨Ao24, co24, eo24⟩ := Kd.R_slice HO110.out; subst eo24; have p122 : 0 ≤ (3 : Int) := (by omega); have q122 : 3 < (t106.length : Int) := of_decide_eq_true (by with_reducible assumption); obtain ⟨ad122, e122, hx122_0, hx122_1, hx122_2, hx122_3⟩ := at_T30 (Kd.R_reads' HO110.out).2.2 3 p122 q122; cases e122; (try simp only [show (3 : Int).toNat = 3 from rfl, Nat.reduceMul, Nat.reduceEqDiff, Go.Addr.add, ↓reduceIte] at hx122_0); (try simp only [show (3 : Int).toNat = 3 from rfl, Nat.reduceMul, Nat.reduceEqDiff, Go.Addr.add, ↓reduceIte] at hx122_1); (try simp only [show (3 : Int).toNat = 3 from rfl, Nat.reduceMul, Nat.reduceEqDiff, Go.Addr.add, ↓reduceIte] at hx122_2); (try simp only [show (3 : Int).toNat = 3 from rfl, Nat.reduceMul, Nat.reduceEqDiff, Go.Addr.add, ↓reduceIte] at hx122_3); have qi122 : (3 < t106.length) = True := eq_true (by omega); (try rw [show ((3 : Int)).toNat = 3 from rfl] at hx122_0); (try rw [show 3 * 4 = 12 from rfl] at hx122_0); (try rw [show ((3 : Int)).toNat = 3 from rfl] at hx122_1); (try rw [show 3 * 4 = 12 from rfl] at hx122_1); (try rw [show ((3 : Int)).toNat = 3 from rfl] at hx122_2); (try rw [show 3 * 4 = 12 from rfl] at hx122_2); (try rw [show ((3 : Int)).toNat = 3 from rfl] at hx122_3); (try rw [show 3 * 4 = 12 from rfl] at hx122_3); replace p122 := eq_true p122; replace q122 := eq_true q122) | (go_at_call 14; (with_reducible refine (lex_Name.calls k (⟨#[120, 49]⟩ : ByteArray) true _ A16.out ?hTab).mono ?_); (case hTab => exact HT.out.below (by repeat (first | (with_reducible first | exact HB.out | apply below_alloc | apply pw_below_drewN | apply below_drew1) | exact HB.out))); rintro e w25 ⟨rfl, hb⟩; have n0_ := Aside0.mk (Kd.R_below (by (with_reducible repeat (first | apply Kd.R_alloc | apply Kd.R_drewN | apply Kd.R_drew)); exact HO105.out) hb); have n1_ := Aside0.mk (Kd.R_below (by (with_reducible repeat (first | apply Kd.R_alloc | apply Kd.R_drewN | apply Kd.R_drew)); exact HO110.out) hb); have n2_ := Aside0.mk (Kd.R_below (by (with_reducible repeat (first | apply Kd.R_alloc | apply Kd.R_drewN | apply Kd.R_drew)); exact HO115.out) hb); have n3_ := Aside0.mk (Kd.R_below (by (with_reducible repeat (first | apply Kd.R_alloc | apply Kd.R_drewN | apply Kd.R_drew)); exact HO120.out) hb); have n4_ := Aside0.mk (below_step (by repeat (first | (with_reducible first | exact HB.out | apply below_alloc | apply pw_below_drewN | apply below_drew1) | exact HB.out)) hb); clear HO105; clear HO110; clear HO115; clear HO120; clear HB; have HO105 := n0_; have HO110 := n1_; have HO115 := n2_; have HO120 := n3_; have HB := n4_; clear n0_ n1_ n2_ n3_ n4_; (try clear hb); (try clear hb2); (try clear hk); (try clear hi)) | (go_at_call 14; (with_reducible refine (lex_Name.calls k (⟨#[108, 101, 116]⟩ : ByteArray) t124 _ A18.out ?hTab).mono ?_); (case hTab => exact HT.out.below (by repeat (first | (with_reducible first | exact HB.out | apply below_alloc | apply pw_below_drewN | apply below_drew1) | exact HB.out))); rintro e w26 ⟨rfl, hb⟩; have n0_ := Aside0.mk (Kd.R_below (by (with_reducible repeat (first | apply Kd.R_alloc | apply Kd.R_drewN | apply Kd.R_drew)); exact HO105.out) hb); have n1_ := Aside0.mk (Kd.R_below (by (with_reducible repeat (first | apply Kd.R_alloc | apply Kd.R_drewN | apply Kd.R_drew)); exact HO110.out) hb); have n2_ := Aside0.mk (Kd.R_below (by (with_reducible repeat (first | apply Kd.R_alloc | apply Kd.R_drewN | apply Kd.R_drew)); exact HO115.out) hb); have n3_ := Aside0.mk (Kd.R_below (by (with_reducible repeat (first | apply Kd.R_alloc | apply Kd.R_drewN | apply Kd.R_drew)); exact HO120.out) hb); have n4_ := Aside0.mk (below_step (by repeat (first | (with_reducible first | exact HB.out | apply below_alloc | apply pw_below_drewN | apply below_drew1) | exact HB.out)) hb); clear HO105; clear HO110; clear HO115; clear HO120; clear HB; have HO105 := n0_; have HO110 := n1_; have HO115 := n2_; have HO120 := n3_; have HB := n4_; clear n0_ n1_ n2_ n3_ n4_; (try clear hb); (try clear hb2); (try clear hk); (try clear hi)))
             go_ret
             exact ⟨by first | rfl | (simp [errW_none, errW_some] <;> rfl) | (simp [*, errW_none, errW_some] <;> rfl), by repeat (first | (with_reducible first | exact HB.out | apply below_alloc | apply pw_below_drewN | apply below_drew1) | exact HB.out)⟩
            ·replace c17 := Bool.eq_false_iff.mpr c17; subst c17; have H1 : (some false) = some r := by rw [if_neg (show ¬ (false = true) by decide)] at H; exact H
             clear H; have H := H1; clear H1; obtain rfl := Option.some.inj H; go_enter Tryd.func10, Tryd.ntmps10
             go_wp2_with (first | ((with_reducible refine gate_callee (f := 11) rfl ?_); refine goesL_ (some 14) rfl rfl Tryd.func11 (by kernel_rfl) rfl #[.string (⟨#[97, 62, 62, 62, 61, 98]⟩ : ByteArray)] rfl (by (try simp only [List.map_toArray, List.map_cons, List.map_nil]); first | done | rfl | (simp only [List.length_drop, List.length_take]; rfl)) ?_; (with_reducible refine (lex_Tokens.calls k (⟨#[97, 62, 62, 62, 61, 98]⟩ : ByteArray) t101 t102 t103 _ A1.out ?hTab).mono ?_); (case hTab => exact HT.out.below (by repeat (first | (with_reducible first | exact HB.out | apply below_alloc | apply pw_below_drewN | apply below_drew1) | exact HB.out))); rintro e w27 ⟨v104, rfl, ho0, hb⟩; refine ⟨_, rfl, ?_⟩; have n0_ := Aside0.mk (Kd.R_lower ho0 (below_size (by repeat (first | (with_reducible first | exact HB.out | apply below_alloc | apply pw_below_drewN | apply below_drew1) | exact HB.out)))); have n1_ := Aside0.mk (below_step (by repeat (first | (with_reducible first | exact HB.out | apply below_alloc | apply pw_below_drewN | apply below_drew1) | exact HB.out)) hb); clear HB; have HO105 := n0_; have HB := n1_; clear n0_ n1_; (try clear hb); (try clear hb2); (try clear hk); (try clear hi); (try clear ho0)) | ((with_reducible refine gate_callee (f := 11) rfl ?_); refine goesL_ (some 19) rfl rfl Tryd.func11 (by kernel_rfl) rfl #[.string (⟨#[108, 101, 116, 32, 120, 49, 32, 61, 32, 49, 48, 59, 32, 35, 32, 116, 101, 110]⟩ : ByteArray)] rfl (by (try simp only [List.map_toArray, List.map_cons, List.map_nil]); first | done | rfl | (simp only [List.length_drop, List.length_take]; rfl)) ?_; (with_reducible refine (lex_Tokens.calls k (⟨#[108, 101, 116, 32, 120, 49, 32, 61, 32, 49, 48, 59, 32, 35, 32, 116, 101, 110]⟩ : ByteArray) t106 t107 t108 _ A2.out ?hTab).mono ?_); (case hTab => exact HT.out.below (by repeat (first | (with_reducible first | exact HB.out | apply below_alloc | apply pw_below_drewN | apply below_drew1) | exact HB.out))); rintro e w28 ⟨v109, rfl, ho0, hb⟩; refine ⟨_, rfl, ?_⟩; have n0_ := Aside0.mk (Kd.R_elder' (by (with_reducible repeat (first | apply Kd.R_alloc | apply Kd.R_drewN | apply Kd.R_drew)); exact HO105.out) (Kd.R_base ho0) hb); have n1_ := Aside0.mk (Kd.R_lower (Kd.R_new' ho0 (Kd.R_lt (by (with_reducible repeat (first | apply Kd.R_alloc | apply Kd.R_drewN | apply Kd.R_drew)); exact HO105.out))) (below_size (by repeat (first | (with_reducible first | exact HB.out | apply below_alloc | apply pw_below_drewN | apply below_drew1) | exact HB.out)))); have n2_ := Aside0.mk (below_step (by repeat (first | (with_reducible first | exact HB.out | apply below_alloc | apply pw_below_drewN | apply below_drew1) | exact HB.out)) hb); clear HO105; clear HB; have HO105 := n0_; have HO110 := n1_; have HB := n2_; clear n0_ n1_ n2_; (try clear hb); (try clear hb2); (try clear hk); (try clear hi); (try clear ho0)) | ((with_reducible refine gate_callee (f := 11) rfl ?_); refine goesL_ (some 24) rfl rfl Tryd.func11 (by kernel_rfl) rfl #[.string (⟨#[49, 50, 97]⟩ : ByteArray)] rfl (by (try simp only [List.map_toArray, List.map_cons, List.map_nil]); first | done | rfl | (simp only [List.length_drop, List.length_take]; rfl)) ?_; (with_reducible refine (lex_Tokens.calls k (⟨#[49, 50, 97]⟩ : ByteArray) t111 t112 t113 _ A3.out ?hTab).mono ?_); (case hTab => exact HT.out.below (by repeat (first | (with_reducible first | exact HB.out | apply below_alloc | apply pw_below_drewN | apply below_drew1) | exact HB.out))); rintro e w29 ⟨v114, rfl, ho0, hb⟩; refine ⟨_, rfl, ?_⟩; have n0_ := Aside0.mk (Kd.R_elder' (by (with_reducible repeat (first | apply Kd.R_alloc | apply Kd.R_drewN | apply Kd.R_drew)); exact HO105.out) (Kd.R_base ho0) hb); have n1_ := Aside0.mk (Kd.R_elder' (by (with_reducible repeat (first | apply Kd.R_alloc | apply Kd.R_drewN | apply Kd.R_drew)); exact HO110.out) (Kd.R_base ho0) hb); have n2_ := Aside0.mk (Kd.R_lower (Kd.R_new' (Kd.R_new' ho0 (Kd.R_lt (by (with_reducible repeat (first | apply Kd.R_alloc | apply Kd.R_drewN | apply Kd.R_drew)); exact HO105.out))) (Kd.R_lt (by (with_reducible repeat (first | apply Kd.R_alloc | apply Kd.R_drewN | apply Kd.R_drew)); exact HO110.out))) (below_size (by repeat (first | (with_reducible first | exact HB.out | apply below_alloc | apply pw_below_drewN | apply below_drew1) | exact HB.out)))); have n3_ := Aside0.mk (below_step (by repeat (first | (with_reducible first | exact HB.out | apply below_alloc | apply pw_below_drewN | apply below_drew1) | exact HB.out)) hb); clear HO105; clear HO110; clear HB; have HO105 := n0_; have HO110 := n1_; have HO115 := n2_; have HB := n3_; clear n0_ n1_ n2_ n3_; (try clear hb); (try clear hb2); (try clear hk); (try clear hi); (try clear ho0)) | ((with_reducible refine gate_callee (f := 11) rfl ?_); refine goesL_ (some 29) rfl rfl Tryd.func11 (by kernel_rfl) rfl #[.string (⟨#[36]⟩ : ByteArray)] rfl (by (try simp only [List.map_toArray, List.map_cons, List.map_nil]); first | done | rfl | (simp only [List.length_drop, List.length_take]; rfl)) ?_; (with_reducible refine (lex_Tokens.calls k (⟨#[36]⟩ : ByteArray) t116 t117 t118 _ A4.out ?hTab).mono ?_); (case hTab => exact HT.out.below (by repeat (first | (with_reducible first | exact HB.out | apply below_alloc | apply pw_below_drewN | apply below_drew1) | exact HB.out))); rintro e w30 ⟨v119, rfl, ho0, hb⟩; refine ⟨_, rfl, ?_⟩; have n0_ := Aside0.mk (Kd.R_elder' (by (with_reducible repeat (first | apply Kd.R_alloc | apply Kd.R_drewN | apply Kd.R_drew)); exact HO105.out) (Kd.R_base ho0) hb); have n1_ := Aside0.mk (Kd.R_elder' (by (with_reducible repeat (first | apply Kd.R_alloc | apply Kd.R_drewN | apply Kd.R_drew)); exact HO110.out) (Kd.R_base ho0) hb); have n2_ := Aside0.mk (Kd.R_elder' (by (with_reducible repeat (first | apply Kd.R_alloc | apply Kd.R_drewN | apply Kd.R_drew)); exact HO115.out) (Kd.R_base ho0) hb); have n3_ := Aside0.mk (Kd.R_lower (Kd.R_new' (Kd.R_new' (Kd.R_new' ho0 (Kd.R_lt (by (with_reducible repeat (first | apply Kd.R_alloc | apply Kd.R_drewN | apply Kd.R_drew)); exact HO105.out))) (Kd.R_lt (by (with_reducible repeat (first | apply Kd.R_alloc | apply Kd.R_drewN | apply Kd.R_drew)); exact HO110.out))) (Kd.R_lt (by (with_reducible repeat (first | apply Kd.R_alloc | apply Kd.R_drewN | apply Kd.R_drew)); exact HO115.out))) (below_size (by repeat (first | (with_reducible first | exact HB.out | apply below_alloc | apply pw_below_drewN | apply below_drew1) | exact HB.out)))); have n4_ := Aside0.mk (below_step (by repeat (first | (with_reducible first | exact HB.out | apply below_alloc | apply pw_below_drewN | apply below_drew1) | exact HB.out)) hb); clear HO105; clear HO110; clear HO115; clear HB; have HO105 := n0_; have HO110 := n1_; have HO115 := n2_; have HO120 := n3_; have HB := n4_; clear n0_ n1_ n2_ n3_ n4_; (try clear hb); (try clear hb2); (try clear hk); (try clear hi); (try clear ho0); obtain ⟨Ao31, co31, eo31⟩ := Kd.R_slice HO105.out; subst eo31; have p121 : 0 ≤ (1 : Int) := (by omega); have q121 : 1 < (t101.length : Int) := of_decide_eq_true (by with_reducible assumption); obtain ⟨ad121, e121, hx121_0, hx121_1, hx121_2, hx121_3⟩ := at_T30 (Kd.R_reads' HO105.out).2.2 1 p121 q121; cases e121; (try simp only [show (1 : Int).toNat = 1 from rfl, Nat.reduceMul, Nat.reduceEqDiff, Go.Addr.add, ↓reduceIte] at hx121_0); (try simp only [show (1 : Int).toNat = 1 from rfl, Nat.reduceMul, Nat.reduceEqDiff, Go.Addr.add, ↓reduceIte] at hx121_1); (try simp only [show (1 : Int).toNat = 1 from rfl, Nat.reduceMul, Nat.reduceEqDiff, Go.Addr.add, ↓reduceIte] at hx121_2); (try simp only [show (1 : Int).toNat = 1 from rfl, Nat.reduceMul, Nat.reduceEqDiff, Go.Addr.add, ↓reduceIte] at hx121_3); have qi121 : (1 < t101.length) = True := eq_true (by omega); (try rw [show ((1 : Int)).toNat = 1 from rfl] at hx121_0); (try rw [show 1 * 4 = 4 from rfl] at hx121_0); (try rw [show ((1 : Int)).toNat = 1 from rfl] at hx121_1); (try rw [show 1 * 4 = 4 from rfl] at hx121_1); (try rw [show ((1 : Int)).toNat = 1 from rfl] at hx121_2); (try rw [show 1 * 4 = 4 from rfl] at hx121_2); (try rw [show ((1 : Int)).toNat = 1 from rfl] at hx121_3); (try rw [show 1 * 4 = 4 from rfl] at hx121_3); replace p121 := eq_true p121; replace q121 := eq_true q121; obtain ⟨Ao32, co32, eo32⟩ := Kd.R_slice HO110.out; subst eo32; have p122 : 0 ≤ (3 : Int) := (by omega); have q122 : 3 < (t106.length : Int) := of_decide_eq_true (by with_reducible assumption); obtain ⟨ad122, e122, hx122_0, hx122_1, hx122_2, hx122_3⟩ := at_T30 (Kd.R_reads' HO110.out).2.2 3 p122 q122; cases e122; (try simp only [show (3 : Int).toNat = 3 from rfl, Nat.reduceMul, Nat.reduceEqDiff, Go.Addr.add, ↓reduceIte] at hx122_0); (try simp only [show (3 : Int).toNat = 3 from rfl, Nat.reduceMul, Nat.reduceEqDiff, Go.Addr.add, ↓reduceIte] at hx122_1); (try simp only [show (3 : Int).toNat = 3 from rfl, Nat.reduceMul, Nat.reduceEqDiff, Go.Addr.add, ↓reduceIte] at hx122_2); (try simp only [show (3 : Int).toNat = 3 from rfl, Nat.reduceMul, Nat.reduceEqDiff, Go.Addr.add, ↓reduceIte] at hx122_3); have qi122 : (3 < t106.length) = True := eq_true (by omega); (try rw [show ((3 : Int)).toNat = 3 from rfl] at hx122_0); (try rw [show 3 * 4 = 12 from rfl] at hx122_0); (try rw [show ((3 : Int)).toNat = 3 from rfl] at hx122_1); (try rw [show 3 * 4 = 12 from rfl] at hx122_1); (try rw [show ((3 : Int)).toNat = 3 from rfl] at hx122_2); (try rw [show 3 * 4 = 12 from rfl] at hx122_2); (try rw [show ((3 : Int)).toNat = 3 from rfl] at hx122_3); (try rw [show 3 * 4 = 12 from rfl] at hx122_3); replace p122 := eq_true p122; replace q122 := eq_true q122) | (go_at_call 14; (with_reducible refine (lex_Name.calls k (⟨#[120, 49]⟩ : ByteArray) false _ A16.out ?hTab).mono ?_); (case hTab => exact HT.out.below (by repeat (first | (with_reducible first | exact HB.out | apply below_alloc | apply pw_below_drewN | apply below_drew1) | exact HB.out))); rintro e w33 ⟨rfl, hb⟩; have n0_ := Aside0.mk (Kd.R_below (by (with_reducible repeat (first | apply Kd.R_alloc | apply Kd.R_drewN | apply Kd.R_drew)); exact HO105.out) hb); have n1_ := Aside0.mk (Kd.R_below (by (with_reducible repeat (first | apply Kd.R_alloc | apply Kd.R_drewN | apply Kd.R_drew)); exact HO110.out) hb); have n2_ := Aside0.mk (Kd.R_below (by (with_reducible repeat (first | apply Kd.R_alloc | apply Kd.R_drewN | apply Kd.R_drew)); exact HO115.out) hb); have n3_ := Aside0.mk (Kd.R_below (by (with_reducible repeat (first | apply Kd.R_alloc | apply Kd.R_drewN | apply Kd.R_drew)); exact HO120.out) hb); have n4_ := Aside0.mk (below_step (by repeat (first | (with_reducible first | exact HB.out | apply below_alloc | apply pw_below_drewN | apply below_drew1) | exact HB.out)) hb); clear HO105; clear HO110; clear HO115; clear HO120; clear HB; have HO105 := n0_; have HO110 := n1_; have HO115 := n2_; have HO120 := n3_; have HB := n4_; clear n0_ n1_ n2_ n3_ n4_; (try clear hb); (try clear hb2); (try clear hk); (try clear hi)))
             go_ret
             exact ⟨by first | rfl | (simp [errW_none, errW_some] <;> rfl) | (simp [*, errW_none, errW_some] <;> rfl), by repeat (first | (with_reducible first | exact HB.out | apply below_alloc | apply pw_below_drewN | apply below_drew1) | exact HB.out)⟩
           ·rw [if_neg c15] at H; have c15b0 : (t118 == 2) = false := beq_eq_false_iff_ne.mpr c15
            have c15b1 : (t118 != 2) = true := bne_iff_ne.mpr c15
            obtain rfl := Option.some.inj H; go_enter Tryd.func10, Tryd.ntmps10
            go_wp2_with (first | ((with_reducible refine gate_callee (f := 11) rfl ?_); refine goesL_ (some 14) rfl rfl Tryd.func11 (by kernel_rfl) rfl #[.string (⟨#[97, 62, 62, 62, 61, 98]⟩ : ByteArray)] rfl (by (try simp only [List.map_toArray, List.map_cons, List.map_nil]); first | done | rfl | (simp only [List.length_drop, List.length_take]; rfl)) ?_; (with_reducible refine (lex_Tokens.calls k (⟨#[97, 62, 62, 62, 61, 98]⟩ : ByteArray) t101 t102 t103 _ A1.out ?hTab).mono ?_); (case hTab => exact HT.out.below (by repeat (first | (with_reducible first | exact HB.out | apply below_alloc | apply pw_below_drewN | apply below_drew1) | exact HB.out))); rintro e w34 ⟨v104, rfl, ho0, hb⟩; refine ⟨_, rfl, ?_⟩; have n0_ := Aside0.mk (Kd.R_lower ho0 (below_size (by repeat (first | (with_reducible first | exact HB.out | apply below_alloc | apply pw_below_drewN | apply below_drew1) | exact HB.out)))); have n1_ := Aside0.mk (below_step (by repeat (first | (with_reducible first | exact HB.out | apply below_alloc | apply pw_below_drewN | apply below_drew1) | exact HB.out)) hb); clear HB; have HO105 := n0_; have HB := n1_; clear n0_ n1_; (try clear hb); (try clear hb2); (try clear hk); (try clear hi); (try clear ho0)) | ((with_reducible refine gate_callee (f := 11) rfl ?_); refine goesL_ (some 19) rfl rfl Tryd.func11 (by kernel_rfl) rfl #[.string (⟨#[108, 101, 116, 32, 120, 49, 32, 61, 32, 49, 48, 59, 32, 35, 32, 116, 101, 110]⟩ : ByteArray)] rfl (by (try simp only [List.map_toArray, List.map_cons, List.map_nil]); first | done | rfl | (simp only [List.length_drop, List.length_take]; rfl)) ?_; (with_reducible refine (lex_Tokens.calls k (⟨#[108, 101, 116, 32, 120, 49, 32, 61, 32, 49, 48, 59, 32, 35, 32, 116, 101, 110]⟩ : ByteArray) t106 t107 t108 _ A2.out ?hTab).mono ?_); (case hTab => exact HT.out.below (by repeat (first | (with_reducible first | exact HB.out | apply below_alloc | apply pw_below_drewN | apply below_drew1) | exact HB.out))); rintro e w35 ⟨v109, rfl, ho0, hb⟩; refine ⟨_, rfl, ?_⟩; have n0_ := Aside0.mk (Kd.R_elder' (by (with_reducible repeat (first | apply Kd.R_alloc | apply Kd.R_drewN | apply Kd.R_drew)); exact HO105.out) (Kd.R_base ho0) hb); have n1_ := Aside0.mk (Kd.R_lower (Kd.R_new' ho0 (Kd.R_lt (by (with_reducible repeat (first | apply Kd.R_alloc | apply Kd.R_drewN | apply Kd.R_drew)); exact HO105.out))) (below_size (by repeat (first | (with_reducible first | exact HB.out | apply below_alloc | apply pw_below_drewN | apply below_drew1) | exact HB.out)))); have n2_ := Aside0.mk (below_step (by repeat (first | (with_reducible first | exact HB.out | apply below_alloc | apply pw_below_drewN | apply below_drew1) | exact HB.out)) hb); clear HO105; clear HB; have HO105 := n0_; have HO110 := n1_; have HB := n2_; clear n0_ n1_ n2_; (try clear hb); (try clear hb2); (try clear hk); (try clear hi); (try clear ho0)) | ((with_reducible refine gate_callee (f := 11) rfl ?_); refine goesL_ (some 24) rfl rfl Tryd.func11 (by kernel_rfl) rfl #[.string (⟨#[49, 50, 97]⟩ : ByteArray)] rfl (by (try simp only [List.map_toArray, List.map_cons, List.map_nil]); first | done | rfl | (simp only [List.length_drop, List.length_take]; rfl)) ?_; (with_reducible refine (lex_Tokens.calls k (⟨#[49, 50, 97]⟩ : ByteArray) t111 t112 t113 _ A3.out ?hTab).mono ?_); (case hTab => exact HT.out.below (by repeat (first | (with_reducible first | exact HB.out | apply below_alloc | apply pw_below_drewN | apply below_drew1) | exact HB.out))); rintro e w36 ⟨v114, rfl, ho0, hb⟩; refine ⟨_, rfl, ?_⟩; have n0_ := Aside0.mk (Kd.R_elder' (by (with_reducible repeat (first | apply Kd.R_alloc | apply Kd.R_drewN | apply Kd.R_drew)); exact HO105.out) (Kd.R_base ho0) hb); have n1_ := Aside0.mk (Kd.R_elder' (by (with_reducible repeat (first | apply Kd.R_alloc | apply Kd.R_drewN | apply Kd.R_drew)); exact HO110.out) (Kd.R_base ho0) hb); have n2_ := Aside0.mk (Kd.R_lower (Kd.R_new' (Kd.R_new' ho0 (Kd.R_lt (by (with_reducible repeat (first | apply Kd.R_alloc | apply Kd.R_drewN | apply Kd.R_drew)); exact HO105.out))) (Kd.R_lt (by (with_reducible repeat (first | apply Kd.R_alloc | apply Kd.R_drewN | apply Kd.R_drew)); exact HO110.out))) (below_size (by repeat (first | (with_reducible first | exact HB.out | apply below_alloc | apply pw_below_drewN | apply below_drew1) | exact HB.out)))); have n3_ := Aside0.mk (below_step (by repeat (first | (with_reducible first | exact HB.out | apply below_alloc | apply pw_below_drewN | apply below_drew1) | exact HB.out)) hb); clear HO105; clear HO110; clear HB; have HO105 := n0_; have HO110 := n1_; have HO115 := n2_; have HB := n3_; clear n0_ n1_ n2_ n3_; (try clear hb); (try clear hb2); (try clear hk); (try clear hi); (try clear ho0)) | ((with_reducible refine gate_callee (f := 11) rfl ?_); refine goesL_ (some 29) rfl rfl Tryd.func11 (by kernel_rfl) rfl #[.string (⟨#[36]⟩ : ByteArray)] rfl (by (try simp only [List.map_toArray, List.map_cons, List.map_nil]); first | done | rfl | (simp only [List.length_drop, List.length_take]; rfl)) ?_; (with_reducible refine (lex_Tokens.calls k (⟨#[36]⟩ : ByteArray) t116 t117 t118 _ A4.out ?hTab).mono ?_); (case hTab => exact HT.out.below (by repeat (first | (with_reducible first | exact HB.out | apply below_alloc | apply pw_below_drewN | apply below_drew1) | exact HB.out))); rintro e w37 ⟨v119, rfl, ho0, hb⟩; refine ⟨_, rfl, ?_⟩; have n0_ := Aside0.mk (Kd.R_elder' (by (with_reducible repeat (first | apply Kd.R_alloc | apply Kd.R_drewN | apply Kd.R_drew)); exact HO105.out) (Kd.R_base ho0) hb); have n1_ := Aside0.mk (Kd.R_elder' (by (with_reducible repeat (first | apply Kd.R_alloc | apply Kd.R_drewN | apply Kd.R_drew)); exact HO110.out) (Kd.R_base ho0) hb); have n2_ := Aside0.mk (Kd.R_elder' (by (with_reducible repeat (first | apply Kd.R_alloc | apply Kd.R_drewN | apply Kd.R_drew)); exact HO115.out) (Kd.R_base ho0) hb); have n3_ := Aside0.mk (Kd.R_lower (Kd.R_new' (Kd.R_new' (Kd.R_new' ho0 (Kd.R_lt (by (with_reducible repeat (first | apply Kd.R_alloc | apply Kd.R_drewN | apply Kd.R_drew)); exact HO105.out))) (Kd.R_lt (by (with_reducible repeat (first | apply Kd.R_alloc | apply Kd.R_drewN | apply Kd.R_drew)); exact HO110.out))) (Kd.R_lt (by (with_reducible repeat (first | apply Kd.R_alloc | apply Kd.R_drewN | apply Kd.R_drew)); exact HO115.out))) (below_size (by repeat (first | (with_reducible first | exact HB.out | apply below_alloc | apply pw_below_drewN | apply below_drew1) | exact HB.out)))); have n4_ := Aside0.mk (below_step (by repeat (first | (with_reducible first | exact HB.out | apply below_alloc | apply pw_below_drewN | apply below_drew1) | exact HB.out)) hb); clear HO105; clear HO110; clear HO115; clear HB; have HO105 := n0_; have HO110 := n1_; have HO115 := n2_; have HO120 := n3_; have HB := n4_; clear n0_ n1_ n2_ n3_ n4_; (try clear hb); (try clear hb2); (try clear hk); (try clear hi); (try clear ho0); obtain ⟨Ao38, co38, eo38⟩ := Kd.R_slice HO105.out; subst eo38; have p121 : 0 ≤ (1 : Int) := (by omega); have q121 : 1 < (t101.length : Int) := of_decide_eq_true (by with_reducible assumption); obtain ⟨ad121, e121, hx121_0, hx121_1, hx121_2, hx121_3⟩ := at_T30 (Kd.R_reads' HO105.out).2.2 1 p121 q121; cases e121; (try simp only [show (1 : Int).toNat = 1 from rfl, Nat.reduceMul, Nat.reduceEqDiff, Go.Addr.add, ↓reduceIte] at hx121_0); (try simp only [show (1 : Int).toNat = 1 from rfl, Nat.reduceMul, Nat.reduceEqDiff, Go.Addr.add, ↓reduceIte] at hx121_1); (try simp only [show (1 : Int).toNat = 1 from rfl, Nat.reduceMul, Nat.reduceEqDiff, Go.Addr.add, ↓reduceIte] at hx121_2); (try simp only [show (1 : Int).toNat = 1 from rfl, Nat.reduceMul, Nat.reduceEqDiff, Go.Addr.add, ↓reduceIte] at hx121_3); have qi121 : (1 < t101.length) = True := eq_true (by omega); (try rw [show ((1 : Int)).toNat = 1 from rfl] at hx121_0); (try rw [show 1 * 4 = 4 from rfl] at hx121_0); (try rw [show ((1 : Int)).toNat = 1 from rfl] at hx121_1); (try rw [show 1 * 4 = 4 from rfl] at hx121_1); (try rw [show ((1 : Int)).toNat = 1 from rfl] at hx121_2); (try rw [show 1 * 4 = 4 from rfl] at hx121_2); (try rw [show ((1 : Int)).toNat = 1 from rfl] at hx121_3); (try rw [show 1 * 4 = 4 from rfl] at hx121_3); replace p121 := eq_true p121; replace q121 := eq_true q121; obtain ⟨Ao39, co39, eo39⟩ := Kd.R_slice HO110.out; subst eo39; have p122 : 0 ≤ (3 : Int) := (by omega); have q122 : 3 < (t106.length : Int) := of_decide_eq_true (by with_reducible assumption); obtain ⟨ad122, e122, hx122_0, hx122_1, hx122_2, hx122_3⟩ := at_T30 (Kd.R_reads' HO110.out).2.2 3 p122 q122; cases e122; (try simp only [show (3 : Int).toNat = 3 from rfl, Nat.reduceMul, Nat.reduceEqDiff, Go.Addr.add, ↓reduceIte] at hx122_0); (try simp only [show (3 : Int).toNat = 3 from rfl, Nat.reduceMul, Nat.reduceEqDiff, Go.Addr.add, ↓reduceIte] at hx122_1); (try simp only [show (3 : Int).toNat = 3 from rfl, Nat.reduceMul, Nat.reduceEqDiff, Go.Addr.add, ↓reduceIte] at hx122_2); (try simp only [show (3 : Int).toNat = 3 from rfl, Nat.reduceMul, Nat.reduceEqDiff, Go.Addr.add, ↓reduceIte] at hx122_3); have qi122 : (3 < t106.length) = True := eq_true (by omega); (try rw [show ((3 : Int)).toNat = 3 from rfl] at hx122_0); (try rw [show 3 * 4 = 12 from rfl] at hx122_0); (try rw [show ((3 : Int)).toNat = 3 from rfl] at hx122_1); (try rw [show 3 * 4 = 12 from rfl] at hx122_1); (try rw [show ((3 : Int)).toNat = 3 from rfl] at hx122_2); (try rw [show 3 * 4 = 12 from rfl] at hx122_2); (try rw [show ((3 : Int)).toNat = 3 from rfl] at hx122_3); (try rw [show 3 * 4 = 12 from rfl] at hx122_3); replace p122 := eq_true p122; replace q122 := eq_true q122))
            go_ret
            exact ⟨by first | rfl | (simp [errW_none, errW_some] <;> rfl) | (simp [*, errW_none, errW_some] <;> rfl), by repeat (first | (with_reducible first | exact HB.out | apply below_alloc | apply pw_below_drewN | apply below_drew1) | exact HB.out)⟩
          ·rw [if_neg c14] at H; have c14b0 : (t113 == 2) = false := beq_eq_false_iff_ne.mpr c14
           have c14b1 : (t113 != 2) = true := bne_iff_ne.mpr c14
           obtain rfl := Option.some.inj H; go_enter Tryd.func10, Tryd.ntmps10
           go_wp2_with (first | ((with_reducible refine gate_callee (f := 11) rfl ?_); refine goesL_ (some 14) rfl rfl Tryd.func11 (by kernel_rfl) rfl #[.string (⟨#[97, 62, 62, 62, 61, 98]⟩ : ByteArray)] rfl (by (try simp only [List.map_toArray, List.map_cons, List.map_nil]); first | done | rfl | (simp only [List.length_drop, List.length_take]; rfl)) ?_; (with_reducible refine (lex_Tokens.calls k (⟨#[97, 62, 62, 62, 61, 98]⟩ : ByteArray) t101 t102 t103 _ A1.out ?hTab).mono ?_); (case hTab => exact HT.out.below (by repeat (first | (with_reducible first | exact HB.out | apply below_alloc | apply pw_below_drewN | apply below_drew1) | exact HB.out))); rintro e w40 ⟨v104, rfl, ho0, hb⟩; refine ⟨_, rfl, ?_⟩; have n0_ := Aside0.mk (Kd.R_lower ho0 (below_size (by repeat (first | (with_reducible first | exact HB.out | apply below_alloc | apply pw_below_drewN | apply below_drew1) | exact HB.out)))); have n1_ := Aside0.mk (below_step (by repeat (first | (with_reducible first | exact HB.out | apply below_alloc | apply pw_below_drewN | apply below_drew1) | exact HB.out)) hb); clear HB; have HO105 := n0_; have HB := n1_; clear n0_ n1_; (try clear hb); (try clear hb2); (try clear hk); (try clear hi); (try clear ho0)) | ((with_reducible refine gate_callee (f := 11) rfl ?_); refine goesL_ (some 19) rfl rfl Tryd.func11 (by kernel_rfl) rfl #[.string (⟨#[108, 101, 116, 32, 120, 49, 32, 61, 32, 49, 48, 59, 32, 35, 32, 116, 101, 110]⟩ : ByteArray)] rfl (by (try simp only [List.map_toArray, List.map_cons, List.map_nil]); first | done | rfl | (simp only [List.length_drop, List.length_take]; rfl)) ?_; (with_reducible refine (lex_Tokens.calls k (⟨#[108, 101, 116, 32, 120, 49, 32, 61, 32, 49, 48, 59, 32, 35, 32, 116, 101, 110]⟩ : ByteArray) t106 t107 t108 _ A2.out ?hTab).mono ?_); (case hTab => exact HT.out.below (by repeat (first | (with_reducible first | exact HB.out | apply below_alloc | apply pw_below_drewN | apply below_drew1) | exact HB.out))); rintro e w41 ⟨v109, rfl, ho0, hb⟩; refine ⟨_, rfl, ?_⟩; have n0_ := Aside0.mk (Kd.R_elder' (by (with_reducible repeat (first | apply Kd.R_alloc | apply Kd.R_drewN | apply Kd.R_drew)); exact HO105.out) (Kd.R_base ho0) hb); have n1_ := Aside0.mk (Kd.R_lower (Kd.R_new' ho0 (Kd.R_lt (by (with_reducible repeat (first | apply Kd.R_alloc | apply Kd.R_drewN | apply Kd.R_drew)); exact HO105.out))) (below_size (by repeat (first | (with_reducible first | exact HB.out | apply below_alloc | apply pw_below_drewN | apply below_drew1) | exact HB.out)))); have n2_ := Aside0.mk (below_step (by repeat (first | (with_reducible first | exact HB.out | apply below_alloc | apply pw_below_drewN | apply below_drew1) | exact HB.out)) hb); clear HO105; clear HB; have HO105 := n0_; have HO110 := n1_; have HB := n2_; clear n0_ n1_ n2_; (try clear hb); (try clear hb2); (try clear hk); (try clear hi); (try clear ho0)) | ((with_reducible refine gate_callee (f := 11) rfl ?_); refine goesL_ (some 24) rfl rfl Tryd.func11 (by kernel_rfl) rfl #[.string (⟨#[49, 50, 97]⟩ : ByteArray)] rfl (by (try simp only [List.map_toArray, List.map_cons, List.map_nil]); first | done | rfl | (simp only [List.length_drop, List.length_take]; rfl)) ?_; (with_reducible refine (lex_Tokens.calls k (⟨#[49, 50, 97]⟩ : ByteArray) t111 t112 t113 _ A3.out ?hTab).mono ?_); (case hTab => exact HT.out.below (by repeat (first | (with_reducible first | exact HB.out | apply below_alloc | apply pw_below_drewN | apply below_drew1) | exact HB.out))); rintro e w42 ⟨v114, rfl, ho0, hb⟩; refine ⟨_, rfl, ?_⟩; have n0_ := Aside0.mk (Kd.R_elder' (by (with_reducible repeat (first | apply Kd.R_alloc | apply Kd.R_drewN | apply Kd.R_drew)); exact HO105.out) (Kd.R_base ho0) hb); have n1_ := Aside0.mk (Kd.R_elder' (by (with_reducible repeat (first | apply Kd.R_alloc | apply Kd.R_drewN | apply Kd.R_drew)); exact HO110.out) (Kd.R_base ho0) hb); have n2_ := Aside0.mk (Kd.R_lower (Kd.R_new' (Kd.R_new' ho0 (Kd.R_lt (by (with_reducible repeat (first | apply Kd.R_alloc | apply Kd.R_drewN | apply Kd.R_drew)); exact HO105.out))) (Kd.R_lt (by (with_reducible repeat (first | apply Kd.R_alloc | apply Kd.R_drewN | apply Kd.R_drew)); exact HO110.out))) (below_size (by repeat (first | (with_reducible first | exact HB.out | apply below_alloc | apply pw_below_drewN | apply below_drew1) | exact HB.out)))); have n3_ := Aside0.mk (below_step (by repeat (first | (with_reducible first | exact HB.out | apply below_alloc | apply pw_below_drewN | apply below_drew1) | exact HB.out)) hb); clear HO105; clear HO110; clear HB; have HO105 := n0_; have HO110 := n1_; have HO115 := n2_; have HB := n3_; clear n0_ n1_ n2_ n3_; (try clear hb); (try clear hb2); (try clear hk); (try clear hi); (try clear ho0)) | ((with_reducible refine gate_callee (f := 11) rfl ?_); refine goesL_ (some 29) rfl rfl Tryd.func11 (by kernel_rfl) rfl #[.string (⟨#[36]⟩ : ByteArray)] rfl (by (try simp only [List.map_toArray, List.map_cons, List.map_nil]); first | done | rfl | (simp only [List.length_drop, List.length_take]; rfl)) ?_; (with_reducible refine (lex_Tokens.calls k (⟨#[36]⟩ : ByteArray) t116 t117 t118 _ A4.out ?hTab).mono ?_); (case hTab => exact HT.out.below (by repeat (first | (with_reducible first | exact HB.out | apply below_alloc | apply pw_below_drewN | apply below_drew1) | exact HB.out))); rintro e w43 ⟨v119, rfl, ho0, hb⟩; refine ⟨_, rfl, ?_⟩; have n0_ := Aside0.mk (Kd.R_elder' (by (with_reducible repeat (first | apply Kd.R_alloc | apply Kd.R_drewN | apply Kd.R_drew)); exact HO105.out) (Kd.R_base ho0) hb); have n1_ := Aside0.mk (Kd.R_elder' (by (with_reducible repeat (first | apply Kd.R_alloc | apply Kd.R_drewN | apply Kd.R_drew)); exact HO110.out) (Kd.R_base ho0) hb); have n2_ := Aside0.mk (Kd.R_elder' (by (with_reducible repeat (first | apply Kd.R_alloc | apply Kd.R_drewN | apply Kd.R_drew)); exact HO115.out) (Kd.R_base ho0) hb); have n3_ := Aside0.mk (Kd.R_lower (Kd.R_new' (Kd.R_new' (Kd.R_new' ho0 (Kd.R_lt (by (with_reducible repeat (first | apply Kd.R_alloc | apply Kd.R_drewN | apply Kd.R_drew)); exact HO105.out))) (Kd.R_lt (by (with_reducible repeat (first | apply Kd.R_alloc | apply Kd.R_drewN | apply Kd.R_drew)); exact HO110.out))) (Kd.R_lt (by (with_reducible repeat (first | apply Kd.R_alloc | apply Kd.R_drewN | apply Kd.R_drew)); exact HO115.out))) (below_size (by repeat (first | (with_reducible first | exact HB.out | apply below_alloc | apply pw_below_drewN | apply below_drew1) | exact HB.out)))); have n4_ := Aside0.mk (below_step (by repeat (first | (with_reducible first | exact HB.out | apply below_alloc | apply pw_below_drewN | apply below_drew1) | exact HB.out)) hb); clear HO105; clear HO110; clear HO115; clear HB; have HO105 := n0_; have HO110 := n1_; have HO115 := n2_; have HO120 := n3_; have HB := n4_; clear n0_ n1_ n2_ n3_ n4_; (try clear hb); (try clear hb2); (try clear hk); (try clear hi); (try clear ho0); obtain ⟨Ao44, co44, eo44⟩ := Kd.R_slice HO105.out; subst eo44; have p121 : 0 ≤ (1 : Int) := (by omega); have q121 : 1 < (t101.length : Int) := of_decide_eq_true (by with_reducible assumption); obtain ⟨ad121, e121, hx121_0, hx121_1, hx121_2, hx121_3⟩ := at_T30 (Kd.R_reads' HO105.out).2.2 1 p121 q121; cases e121; (try simp only [show (1 : Int).toNat = 1 from rfl, Nat.reduceMul, Nat.reduceEqDiff, Go.Addr.add, ↓reduceIte] at hx121_0); (try simp only [show (1 : Int).toNat = 1 from rfl, Nat.reduceMul, Nat.reduceEqDiff, Go.Addr.add, ↓reduceIte] at hx121_1); (try simp only [show (1 : Int).toNat = 1 from rfl, Nat.reduceMul, Nat.reduceEqDiff, Go.Addr.add, ↓reduceIte] at hx121_2); (try simp only [show (1 : Int).toNat = 1 from rfl, Nat.reduceMul, Nat.reduceEqDiff, Go.Addr.add, ↓reduceIte] at hx121_3); have qi121 : (1 < t101.length) = True := eq_true (by omega); (try rw [show ((1 : Int)).toNat = 1 from rfl] at hx121_0); (try rw [show 1 * 4 = 4 from rfl] at hx121_0); (try rw [show ((1 : Int)).toNat = 1 from rfl] at hx121_1); (try rw [show 1 * 4 = 4 from rfl] at hx121_1); (try rw [show ((1 : Int)).toNat = 1 from rfl] at hx121_2); (try rw [show 1 * 4 = 4 from rfl] at hx121_2); (try rw [show ((1 : Int)).toNat = 1 from rfl] at hx121_3); (try rw [show 1 * 4 = 4 from rfl] at hx121_3); replace p121 := eq_true p121; replace q121 := eq_true q121; obtain ⟨Ao45, co45, eo45⟩ := Kd.R_slice HO110.out; subst eo45; have p122 : 0 ≤ (3 : Int) := (by omega); have q122 : 3 < (t106.length : Int) := of_decide_eq_true (by with_reducible assumption); obtain ⟨ad122, e122, hx122_0, hx122_1, hx122_2, hx122_3⟩ := at_T30 (Kd.R_reads' HO110.out).2.2 3 p122 q122; cases e122; (try simp only [show (3 : Int).toNat = 3 from rfl, Nat.reduceMul, Nat.reduceEqDiff, Go.Addr.add, ↓reduceIte] at hx122_0); (try simp only [show (3 : Int).toNat = 3 from rfl, Nat.reduceMul, Nat.reduceEqDiff, Go.Addr.add, ↓reduceIte] at hx122_1); (try simp only [show (3 : Int).toNat = 3 from rfl, Nat.reduceMul, Nat.reduceEqDiff, Go.Addr.add, ↓reduceIte] at hx122_2); (try simp only [show (3 : Int).toNat = 3 from rfl, Nat.reduceMul, Nat.reduceEqDiff, Go.Addr.add, ↓reduceIte] at hx122_3); have qi122 : (3 < t106.length) = True := eq_true (by omega); (try rw [show ((3 : Int)).toNat = 3 from rfl] at hx122_0); (try rw [show 3 * 4 = 12 from rfl] at hx122_0); (try rw [show ((3 : Int)).toNat = 3 from rfl] at hx122_1); (try rw [show 3 * 4 = 12 from rfl] at hx122_1); (try rw [show ((3 : Int)).toNat = 3 from rfl] at hx122_2); (try rw [show 3 * 4 = 12 from rfl] at hx122_2); (try rw [show ((3 : Int)).toNat = 3 from rfl] at hx122_3); (try rw [show 3 * 4 = 12 from rfl] at hx122_3); replace p122 := eq_true p122; replace q122 := eq_true q122))
           go_ret
           exact ⟨by first | rfl | (simp [errW_none, errW_some] <;> rfl) | (simp [*, errW_none, errW_some] <;> rfl), by repeat (first | (with_reducible first | exact HB.out | apply below_alloc | apply pw_below_drewN | apply below_drew1) | exact HB.out)⟩
         ·rw [if_neg c13] at H; have c13b0 : (t112 == 0) = false := beq_eq_false_iff_ne.mpr c13
          have c13b1 : (t112 != 0) = true := bne_iff_ne.mpr c13
          obtain rfl := Option.some.inj H; go_enter Tryd.func10, Tryd.ntmps10
          go_wp2_with (first | ((with_reducible refine gate_callee (f := 11) rfl ?_); refine goesL_ (some 14) rfl rfl Tryd.func11 (by kernel_rfl) rfl #[.string (⟨#[97, 62, 62, 62, 61, 98]⟩ : ByteArray)] rfl (by (try simp only [List.map_toArray, List.map_cons, List.map_nil]); first | done | rfl | (simp only [List.length_drop, List.length_take]; rfl)) ?_; (with_reducible refine (lex_Tokens.calls k (⟨#[97, 62, 62, 62, 61, 98]⟩ : ByteArray) t101 t102 t103 _ A1.out ?hTab).mono ?_); (case hTab => exact HT.out.below (by repeat (first | (with_reducible first | exact HB.out | apply below_alloc | apply pw_below_drewN | apply below_drew1) | exact HB.out))); rintro e w46 ⟨v104, rfl, ho0, hb⟩; refine ⟨_, rfl, ?_⟩; have n0_ := Aside0.mk (Kd.R_lower ho0 (below_size (by repeat (first | (with_reducible first | exact HB.out | apply below_alloc | apply pw_below_drewN | apply below_drew1) | exact HB.out)))); have n1_ := Aside0.mk (below_step (by repeat (first | (with_reducible first | exact HB.out | apply below_alloc | apply pw_below_drewN | apply below_drew1) | exact HB.out)) hb); clear HB; have HO105 := n0_; have HB := n1_; clear n0_ n1_; (try clear hb); (try clear hb2); (try clear hk); (try clear hi); (try clear ho0)) | ((with_reducible refine gate_callee (f := 11) rfl ?_); refine goesL_ (some 19) rfl rfl Tryd.func11 (by kernel_rfl) rfl #[.string (⟨#[108, 101, 116, 32, 120, 49, 32, 61, 32, 49, 48, 59, 32, 35, 32, 116, 101, 110]⟩ : ByteArray)] rfl (by (try simp only [List.map_toArray, List.map_cons, List.map_nil]); first | done | rfl | (simp only [List.length_drop, List.length_take]; rfl)) ?_; (with_reducible refine (lex_Tokens.calls k (⟨#[108, 101, 116, 32, 120, 49, 32, 61, 32, 49, 48, 59, 32, 35, 32, 116, 101, 110]⟩ : ByteArray) t106 t107 t108 _ A2.out ?hTab).mono ?_); (case hTab => exact HT.out.below (by repeat (first | (with_reducible first | exact HB.out | apply below_alloc | apply pw_below_drewN | apply below_drew1) | exact HB.out))); rintro e w47 ⟨v109, rfl, ho0, hb⟩; refine ⟨_, rfl, ?_⟩; have n0_ := Aside0.mk (Kd.R_elder' (by (with_reducible repeat (first | apply Kd.R_alloc | apply Kd.R_drewN | apply Kd.R_drew)); exact HO105.out) (Kd.R_base ho0) hb); have n1_ := Aside0.mk (Kd.R_lower (Kd.R_new' ho0 (Kd.R_lt (by (with_reducible repeat (first | apply Kd.R_alloc | apply Kd.R_drewN | apply Kd.R_drew)); exact HO105.out))) (below_size (by repeat (first | (with_reducible first | exact HB.out | apply below_alloc | apply pw_below_drewN | apply below_drew1) | exact HB.out)))); have n2_ := Aside0.mk (below_step (by repeat (first | (with_reducible first | exact HB.out | apply below_alloc | apply pw_below_drewN | apply below_drew1) | exact HB.out)) hb); clear HO105; clear HB; have HO105 := n0_; have HO110 := n1_; have HB := n2_; clear n0_ n1_ n2_; (try clear hb); (try clear hb2); (try clear hk); (try clear hi); (try clear ho0)) | ((with_reducible refine gate_callee (f := 11) rfl ?_); refine goesL_ (some 24) rfl rfl Tryd.func11 (by kernel_rfl) rfl #[.string (⟨#[49, 50, 97]⟩ : ByteArray)] rfl (by (try simp only [List.map_toArray, List.map_cons, List.map_nil]); first | done | rfl | (simp only [List.length_drop, List.length_take]; rfl)) ?_; (with_reducible refine (lex_Tokens.calls k (⟨#[49, 50, 97]⟩ : ByteArray) t111 t112 t113 _ A3.out ?hTab).mono ?_); (case hTab => exact HT.out.below (by repeat (first | (with_reducible first | exact HB.out | apply below_alloc | apply pw_below_drewN | apply below_drew1) | exact HB.out))); rintro e w48 ⟨v114, rfl, ho0, hb⟩; refine ⟨_, rfl, ?_⟩; have n0_ := Aside0.mk (Kd.R_elder' (by (with_reducible repeat (first | apply Kd.R_alloc | apply Kd.R_drewN | apply Kd.R_drew)); exact HO105.out) (Kd.R_base ho0) hb); have n1_ := Aside0.mk (Kd.R_elder' (by (with_reducible repeat (first | apply Kd.R_alloc | apply Kd.R_drewN | apply Kd.R_drew)); exact HO110.out) (Kd.R_base ho0) hb); have n2_ := Aside0.mk (Kd.R_lower (Kd.R_new' (Kd.R_new' ho0 (Kd.R_lt (by (with_reducible repeat (first | apply Kd.R_alloc | apply Kd.R_drewN | apply Kd.R_drew)); exact HO105.out))) (Kd.R_lt (by (with_reducible repeat (first | apply Kd.R_alloc | apply Kd.R_drewN | apply Kd.R_drew)); exact HO110.out))) (below_size (by repeat (first | (with_reducible first | exact HB.out | apply below_alloc | apply pw_below_drewN | apply below_drew1) | exact HB.out)))); have n3_ := Aside0.mk (below_step (by repeat (first | (with_reducible first | exact HB.out | apply below_alloc | apply pw_below_drewN | apply below_drew1) | exact HB.out)) hb); clear HO105; clear HO110; clear HB; have HO105 := n0_; have HO110 := n1_; have HO115 := n2_; have HB := n3_; clear n0_ n1_ n2_ n3_; (try clear hb); (try clear hb2); (try clear hk); (try clear hi); (try clear ho0)) | ((with_reducible refine gate_callee (f := 11) rfl ?_); refine goesL_ (some 29) rfl rfl Tryd.func11 (by kernel_rfl) rfl #[.string (⟨#[36]⟩ : ByteArray)] rfl (by (try simp only [List.map_toArray, List.map_cons, List.map_nil]); first | done | rfl | (simp only [List.length_drop, List.length_take]; rfl)) ?_; (with_reducible refine (lex_Tokens.calls k (⟨#[36]⟩ : ByteArray) t116 t117 t118 _ A4.out ?hTab).mono ?_); (case hTab => exact HT.out.below (by repeat (first | (with_reducible first | exact HB.out | apply below_alloc | apply pw_below_drewN | apply below_drew1) | exact HB.out))); rintro e w49 ⟨v119, rfl, ho0, hb⟩; refine ⟨_, rfl, ?_⟩; have n0_ := Aside0.mk (Kd.R_elder' (by (with_reducible repeat (first | apply Kd.R_alloc | apply Kd.R_drewN | apply Kd.R_drew)); exact HO105.out) (Kd.R_base ho0) hb); have n1_ := Aside0.mk (Kd.R_elder' (by (with_reducible repeat (first | apply Kd.R_alloc | apply Kd.R_drewN | apply Kd.R_drew)); exact HO110.out) (Kd.R_base ho0) hb); have n2_ := Aside0.mk (Kd.R_elder' (by (with_reducible repeat (first | apply Kd.R_alloc | apply Kd.R_drewN | apply Kd.R_drew)); exact HO115.out) (Kd.R_base ho0) hb); have n3_ := Aside0.mk (Kd.R_lower (Kd.R_new' (Kd.R_new' (Kd.R_new' ho0 (Kd.R_lt (by (with_reducible repeat (first | apply Kd.R_alloc | apply Kd.R_drewN | apply Kd.R_drew)); exact HO105.out))) (Kd.R_lt (by (with_reducible repeat (first | apply Kd.R_alloc | apply Kd.R_drewN | apply Kd.R_drew)); exact HO110.out))) (Kd.R_lt (by (with_reducible repeat (first | apply Kd.R_alloc | apply Kd.R_drewN | apply Kd.R_drew)); exact HO115.out))) (below_size (by repeat (first | (with_reducible first | exact HB.out | apply below_alloc | apply pw_below_drewN | apply below_drew1) | exact HB.out)))); have n4_ := Aside0.mk (below_step (by repeat (first | (with_reducible first | exact HB.out | apply below_alloc | apply pw_below_drewN | apply below_drew1) | exact HB.out)) hb); clear HO105; clear HO110; clear HO115; clear HB; have HO105 := n0_; have HO110 := n1_; have HO115 := n2_; have HO120 := n3_; have HB := n4_; clear n0_ n1_ n2_ n3_ n4_; (try clear hb); (try clear hb2); (try clear hk); (try clear hi); (try clear ho0); obtain ⟨Ao50, co50, eo50⟩ := Kd.R_slice HO105.out; subst eo50; have p121 : 0 ≤ (1 : Int) := (by omega); have q121 : 1 < (t101.length : Int) := of_decide_eq_true (by with_reducible assumption); obtain ⟨ad121, e121, hx121_0, hx121_1, hx121_2, hx121_3⟩ := at_T30 (Kd.R_reads' HO105.out).2.2 1 p121 q121; cases e121; (try simp only [show (1 : Int).toNat = 1 from rfl, Nat.reduceMul, Nat.reduceEqDiff, Go.Addr.add, ↓reduceIte] at hx121_0); (try simp only [show (1 : Int).toNat = 1 from rfl, Nat.reduceMul, Nat.reduceEqDiff, Go.Addr.add, ↓reduceIte] at hx121_1); (try simp only [show (1 : Int).toNat = 1 from rfl, Nat.reduceMul, Nat.reduceEqDiff, Go.Addr.add, ↓reduceIte] at hx121_2); (try simp only [show (1 : Int).toNat = 1 from rfl, Nat.reduceMul, Nat.reduceEqDiff, Go.Addr.add, ↓reduceIte] at hx121_3); have qi121 : (1 < t101.length) = True := eq_true (by omega); (try rw [show ((1 : Int)).toNat = 1 from rfl] at hx121_0); (try rw [show 1 * 4 = 4 from rfl] at hx121_0); (try rw [show ((1 : Int)).toNat = 1 from rfl] at hx121_1); (try rw [show 1 * 4 = 4 from rfl] at hx121_1); (try rw [show ((1 : Int)).toNat = 1 from rfl] at hx121_2); (try rw [show 1 * 4 = 4 from rfl] at hx121_2); (try rw [show ((1 : Int)).toNat = 1 from rfl] at hx121_3); (try rw [show 1 * 4 = 4 from rfl] at hx121_3); replace p121 := eq_true p121; replace q121 := eq_true q121; obtain ⟨Ao51, co51, eo51⟩ := Kd.R_slice HO110.out; subst eo51; have p122 : 0 ≤ (3 : Int) := (by omega); have q122 : 3 < (t106.length : Int) := of_decide_eq_true (by with_reducible assumption); obtain ⟨ad122, e122, hx122_0, hx122_1, hx122_2, hx122_3⟩ := at_T30 (Kd.R_reads' HO110.out).2.2 3 p122 q122; cases e122; (try simp only [show (3 : Int).toNat = 3 from rfl, Nat.reduceMul, Nat.reduceEqDiff, Go.Addr.add, ↓reduceIte] at hx122_0); (try simp only [show (3 : Int).toNat = 3 from rfl, Nat.reduceMul, Nat.reduceEqDiff, Go.Addr.add, ↓reduceIte] at hx122_1); (try simp only [show (3 : Int).toNat = 3 from rfl, Nat.reduceMul, Nat.reduceEqDiff, Go.Addr.add, ↓reduceIte] at hx122_2); (try simp only [show (3 : Int).toNat = 3 from rfl, Nat.reduceMul, Nat.reduceEqDiff, Go.Addr.add, ↓reduceIte] at hx122_3); have qi122 : (3 < t106.length) = True := eq_true (by omega); (try rw [show ((3 : Int)).toNat = 3 from rfl] at hx122_0); (try rw [show 3 * 4 = 12 from rfl] at hx122_0); (try rw [show ((3 : Int)).toNat = 3 from rfl] at hx122_1); (try rw [show 3 * 4 = 12 from rfl] at hx122_1); (try rw [show ((3 : Int)).toNat = 3 from rfl] at hx122_2); (try rw [show 3 * 4 = 12 from rfl] at hx122_2); (try rw [show ((3 : Int)).toNat = 3 from rfl] at hx122_3); (try rw [show 3 * 4 = 12 from rfl] at hx122_3); replace p122 := eq_true p122; replace q122 := eq_true q122))
          go_ret
          exact ⟨by first | rfl | (simp [errW_none, errW_some] <;> rfl) | (simp [*, errW_none, errW_some] <;> rfl), by repeat (first | (with_reducible first | exact HB.out | apply below_alloc | apply pw_below_drewN | apply below_drew1) | exact HB.out)⟩
        ·rw [if_neg c12] at H; have c12b0 : (((rd_T30 t106 3).f3) == 10) = false := beq_eq_false_iff_ne.mpr c12
         have c12b1 : (((rd_T30 t106 3).f3) != 10) = true := bne_iff_ne.mpr c12
         obtain rfl := Option.some.inj H; go_enter Tryd.func10, Tryd.ntmps10
         go_wp2_with (first | ((with_reducible refine gate_callee (f := 11) rfl ?_); refine goesL_ (some 14) rfl rfl Tryd.func11 (by kernel_rfl) rfl #[.string (⟨#[97, 62, 62, 62, 61, 98]⟩ : ByteArray)] rfl (by (try simp only [List.map_toArray, List.map_cons, List.map_nil]); first | done | rfl | (simp only [List.length_drop, List.length_take]; rfl)) ?_; (with_reducible refine (lex_Tokens.calls k (⟨#[97, 62, 62, 62, 61, 98]⟩ : ByteArray) t101 t102 t103 _ A1.out ?hTab).mono ?_); (case hTab => exact HT.out.below (by repeat (first | (with_reducible first | exact HB.out | apply below_alloc | apply pw_below_drewN | apply below_drew1) | exact HB.out))); rintro e w52 ⟨v104, rfl, ho0, hb⟩; refine ⟨_, rfl, ?_⟩; have n0_ := Aside0.mk (Kd.R_lower ho0 (below_size (by repeat (first | (with_reducible first | exact HB.out | apply below_alloc | apply pw_below_drewN | apply below_drew1) | exact HB.out)))); have n1_ := Aside0.mk (below_step (by repeat (first | (with_reducible first | exact HB.out | apply below_alloc | apply pw_below_drewN | apply below_drew1) | exact HB.out)) hb); clear HB; have HO105 := n0_; have HB := n1_; clear n0_ n1_; (try clear hb); (try clear hb2); (try clear hk); (try clear hi); (try clear ho0)) | ((with_reducible refine gate_callee (f := 11) rfl ?_); refine goesL_ (some 19) rfl rfl Tryd.func11 (by kernel_rfl) rfl #[.string (⟨#[108, 101, 116, 32, 120, 49, 32, 61, 32, 49, 48, 59, 32, 35, 32, 116, 101, 110]⟩ : ByteArray)] rfl (by (try simp only [List.map_toArray, List.map_cons, List.map_nil]); first | done | rfl | (simp only [List.length_drop, List.length_take]; rfl)) ?_; (with_reducible refine (lex_Tokens.calls k (⟨#[108, 101, 116, 32, 120, 49, 32, 61, 32, 49, 48, 59, 32, 35, 32, 116, 101, 110]⟩ : ByteArray) t106 t107 t108 _ A2.out ?hTab).mono ?_); (case hTab => exact HT.out.below (by repeat (first | (with_reducible first | exact HB.out | apply below_alloc | apply pw_below_drewN | apply below_drew1) | exact HB.out))); rintro e w53 ⟨v109, rfl, ho0, hb⟩; refine ⟨_, rfl, ?_⟩; have n0_ := Aside0.mk (Kd.R_elder' (by (with_reducible repeat (first | apply Kd.R_alloc | apply Kd.R_drewN | apply Kd.R_drew)); exact HO105.out) (Kd.R_base ho0) hb); have n1_ := Aside0.mk (Kd.R_lower (Kd.R_new' ho0 (Kd.R_lt (by (with_reducible repeat (first | apply Kd.R_alloc | apply Kd.R_drewN | apply Kd.R_drew)); exact HO105.out))) (below_size (by repeat (first | (with_reducible first | exact HB.out | apply below_alloc | apply pw_below_drewN | apply below_drew1) | exact HB.out)))); have n2_ := Aside0.mk (below_step (by repeat (first | (with_reducible first | exact HB.out | apply below_alloc | apply pw_below_drewN | apply below_drew1) | exact HB.out)) hb); clear HO105; clear HB; have HO105 := n0_; have HO110 := n1_; have HB := n2_; clear n0_ n1_ n2_; (try clear hb); (try clear hb2); (try clear hk); (try clear hi); (try clear ho0)) | ((with_reducible refine gate_callee (f := 11) rfl ?_); refine goesL_ (some 24) rfl rfl Tryd.func11 (by kernel_rfl) rfl #[.string (⟨#[49, 50, 97]⟩ : ByteArray)] rfl (by (try simp only [List.map_toArray, List.map_cons, List.map_nil]); first | done | rfl | (simp only [List.length_drop, List.length_take]; rfl)) ?_; (with_reducible refine (lex_Tokens.calls k (⟨#[49, 50, 97]⟩ : ByteArray) t111 t112 t113 _ A3.out ?hTab).mono ?_); (case hTab => exact HT.out.below (by repeat (first | (with_reducible first | exact HB.out | apply below_alloc | apply pw_below_drewN | apply below_drew1) | exact HB.out))); rintro e w54 ⟨v114, rfl, ho0, hb⟩; refine ⟨_, rfl, ?_⟩; have n0_ := Aside0.mk (Kd.R_elder' (by (with_reducible repeat (first | apply Kd.R_alloc | apply Kd.R_drewN | apply Kd.R_drew)); exact HO105.out) (Kd.R_base ho0) hb); have n1_ := Aside0.mk (Kd.R_elder' (by (with_reducible repeat (first | apply Kd.R_alloc | apply Kd.R_drewN | apply Kd.R_drew)); exact HO110.out) (Kd.R_base ho0) hb); have n2_ := Aside0.mk (Kd.R_lower (Kd.R_new' (Kd.R_new' ho0 (Kd.R_lt (by (with_reducible repeat (first | apply Kd.R_alloc | apply Kd.R_drewN | apply Kd.R_drew)); exact HO105.out))) (Kd.R_lt (by (with_reducible repeat (first | apply Kd.R_alloc | apply Kd.R_drewN | apply Kd.R_drew)); exact HO110.out))) (below_size (by repeat (first | (with_reducible first | exact HB.out | apply below_alloc | apply pw_below_drewN | apply below_drew1) | exact HB.out)))); have n3_ := Aside0.mk (below_step (by repeat (first | (with_reducible first | exact HB.out | apply below_alloc | apply pw_below_drewN | apply below_drew1) | exact HB.out)) hb); clear HO105; clear HO110; clear HB; have HO105 := n0_; have HO110 := n1_; have HO115 := n2_; have HB := n3_; clear n0_ n1_ n2_ n3_; (try clear hb); (try clear hb2); (try clear hk); (try clear hi); (try clear ho0)) | ((with_reducible refine gate_callee (f := 11) rfl ?_); refine goesL_ (some 29) rfl rfl Tryd.func11 (by kernel_rfl) rfl #[.string (⟨#[36]⟩ : ByteArray)] rfl (by (try simp only [List.map_toArray, List.map_cons, List.map_nil]); first | done | rfl | (simp only [List.length_drop, List.length_take]; rfl)) ?_; (with_reducible refine (lex_Tokens.calls k (⟨#[36]⟩ : ByteArray) t116 t117 t118 _ A4.out ?hTab).mono ?_); (case hTab => exact HT.out.below (by repeat (first | (with_reducible first | exact HB.out | apply below_alloc | apply pw_below_drewN | apply below_drew1) | exact HB.out))); rintro e w55 ⟨v119, rfl, ho0, hb⟩; refine ⟨_, rfl, ?_⟩; have n0_ := Aside0.mk (Kd.R_elder' (by (with_reducible repeat (first | apply Kd.R_alloc | apply Kd.R_drewN | apply Kd.R_drew)); exact HO105.out) (Kd.R_base ho0) hb); have n1_ := Aside0.mk (Kd.R_elder' (by (with_reducible repeat (first | apply Kd.R_alloc | apply Kd.R_drewN | apply Kd.R_drew)); exact HO110.out) (Kd.R_base ho0) hb); have n2_ := Aside0.mk (Kd.R_elder' (by (with_reducible repeat (first | apply Kd.R_alloc | apply Kd.R_drewN | apply Kd.R_drew)); exact HO115.out) (Kd.R_base ho0) hb); have n3_ := Aside0.mk (Kd.R_lower (Kd.R_new' (Kd.R_new' (Kd.R_new' ho0 (Kd.R_lt (by (with_reducible repeat (first | apply Kd.R_alloc | apply Kd.R_drewN | apply Kd.R_drew)); exact HO105.out))) (Kd.R_lt (by (with_reducible repeat (first | apply Kd.R_alloc | apply Kd.R_drewN | apply Kd.R_drew)); exact HO110.out))) (Kd.R_lt (by (with_reducible repeat (first | apply Kd.R_alloc | apply Kd.R_drewN | apply Kd.R_drew)); exact HO115.out))) (below_size (by repeat (first | (with_reducible first | exact HB.out | apply below_alloc | apply pw_below_drewN | apply below_drew1) | exact HB.out)))); have n4_ := Aside0.mk (below_step (by repeat (first | (with_reducible first | exact HB.out | apply below_alloc | apply pw_below_drewN | apply below_drew1) | exact HB.out)) hb); clear HO105; clear HO110; clear HO115; clear HB; have HO105 := n0_; have HO110 := n1_; have HO115 := n2_; have HO120 := n3_; have HB := n4_; clear n0_ n1_ n2_ n3_ n4_; (try clear hb); (try clear hb2); (try clear hk); (try clear hi); (try clear ho0); obtain ⟨Ao56, co56, eo56⟩ := Kd.R_slice HO105.out; subst eo56; have p121 : 0 ≤ (1 : Int) := (by omega); have q121 : 1 < (t101.length : Int) := of_decide_eq_true (by with_reducible assumption); obtain ⟨ad121, e121, hx121_0, hx121_1, hx121_2, hx121_3⟩ := at_T30 (Kd.R_reads' HO105.out).2.2 1 p121 q121; cases e121; (try simp only [show (1 : Int).toNat = 1 from rfl, Nat.reduceMul, Nat.reduceEqDiff, Go.Addr.add, ↓reduceIte] at hx121_0); (try simp only [show (1 : Int).toNat = 1 from rfl, Nat.reduceMul, Nat.reduceEqDiff, Go.Addr.add, ↓reduceIte] at hx121_1); (try simp only [show (1 : Int).toNat = 1 from rfl, Nat.reduceMul, Nat.reduceEqDiff, Go.Addr.add, ↓reduceIte] at hx121_2); (try simp only [show (1 : Int).toNat = 1 from rfl, Nat.reduceMul, Nat.reduceEqDiff, Go.Addr.add, ↓reduceIte] at hx121_3); have qi121 : (1 < t101.length) = True := eq_true (by omega); (try rw [show ((1 : Int)).toNat = 1 from rfl] at hx121_0); (try rw [show 1 * 4 = 4 from rfl] at hx121_0); (try rw [show ((1 : Int)).toNat = 1 from rfl] at hx121_1); (try rw [show 1 * 4 = 4 from rfl] at hx121_1); (try rw [show ((1 : Int)).toNat = 1 from rfl] at hx121_2); (try rw [show 1 * 4 = 4 from rfl] at hx121_2); (try rw [show ((1 : Int)).toNat = 1 from rfl] at hx121_3); (try rw [show 1 * 4 = 4 from rfl] at hx121_3); replace p121 := eq_true p121; replace q121 := eq_true q121; obtain ⟨Ao57, co57, eo57⟩ := Kd.R_slice HO110.out; subst eo57; have p122 : 0 ≤ (3 : Int) := (by omega); have q122 : 3 < (t106.length : Int) := of_decide_eq_true (by with_reducible assumption); obtain ⟨ad122, e122, hx122_0, hx122_1, hx122_2, hx122_3⟩ := at_T30 (Kd.R_reads' HO110.out).2.2 3 p122 q122; cases e122; (try simp only [show (3 : Int).toNat = 3 from rfl, Nat.reduceMul, Nat.reduceEqDiff, Go.Addr.add, ↓reduceIte] at hx122_0); (try simp only [show (3 : Int).toNat = 3 from rfl, Nat.reduceMul, Nat.reduceEqDiff, Go.Addr.add, ↓reduceIte] at hx122_1); (try simp only [show (3 : Int).toNat = 3 from rfl, Nat.reduceMul, Nat.reduceEqDiff, Go.Addr.add, ↓reduceIte] at hx122_2); (try simp only [show (3 : Int).toNat = 3 from rfl, Nat.reduceMul, Nat.reduceEqDiff, Go.Addr.add, ↓reduceIte] at hx122_3); have qi122 : (3 < t106.length) = True := eq_true (by omega); (try rw [show ((3 : Int)).toNat = 3 from rfl] at hx122_0); (try rw [show 3 * 4 = 12 from rfl] at hx122_0); (try rw [show ((3 : Int)).toNat = 3 from rfl] at hx122_1); (try rw [show 3 * 4 = 12 from rfl] at hx122_1); (try rw [show ((3 : Int)).toNat = 3 from rfl] at hx122_2); (try rw [show 3 * 4 = 12 from rfl] at hx122_2); (try rw [show ((3 : Int)).toNat = 3 from rfl] at hx122_3); (try rw [show 3 * 4 = 12 from rfl] at hx122_3); replace p122 := eq_true p122; replace q122 := eq_true q122))
         go_ret
         exact ⟨by first | rfl | (simp [errW_none, errW_some] <;> rfl) | (simp [*, errW_none, errW_some] <;> rfl), by repeat (first | (with_reducible first | exact HB.out | apply below_alloc | apply pw_below_drewN | apply below_drew1) | exact HB.out)⟩
       ·rw [if_neg c11] at H; exact absurd H (by simp)
      ·rw [if_neg c10] at H; have c10b0 : ((t106.length : Int) == 5) = false := beq_eq_false_iff_ne.mpr c10
       have c10b1 : ((t106.length : Int) != 5) = true := bne_iff_ne.mpr c10
       obtain rfl := Option.some.inj H; go_enter Tryd.func10, Tryd.ntmps10
       go_wp2_with (first | ((with_reducible refine gate_callee (f := 11) rfl ?_); refine goesL_ (some 14) rfl rfl Tryd.func11 (by kernel_rfl) rfl #[.string (⟨#[97, 62, 62, 62, 61, 98]⟩ : ByteArray)] rfl (by (try simp only [List.map_toArray, List.map_cons, List.map_nil]); first | done | rfl | (simp only [List.length_drop, List.length_take]; rfl)) ?_; (with_reducible refine (lex_Tokens.calls k (⟨#[97, 62, 62, 62, 61, 98]⟩ : ByteArray) t101 t102 t103 _ A1.out ?hTab).mono ?_); (case hTab => exact HT.out.below (by repeat (first | (with_reducible first | exact HB.out | apply below_alloc | apply pw_below_drewN | apply below_drew1) | exact HB.out))); rintro e w58 ⟨v104, rfl, ho0, hb⟩; refine ⟨_, rfl, ?_⟩; have n0_ := Aside0.mk (Kd.R_lower ho0 (below_size (by repeat (first | (with_reducible first | exact HB.out | apply below_alloc | apply pw_below_drewN | apply below_drew1) | exact HB.out)))); have n1_ := Aside0.mk (below_step (by repeat (first | (with_reducible first | exact HB.out | apply below_alloc | apply pw_below_drewN | apply below_drew1) | exact HB.out)) hb); clear HB; have HO105 := n0_; have HB := n1_; clear n0_ n1_; (try clear hb); (try clear hb2); (try clear hk); (try clear hi); (try clear ho0)) | ((with_reducible refine gate_callee (f := 11) rfl ?_); refine goesL_ (some 19) rfl rfl Tryd.func11 (by kernel_rfl) rfl #[.string (⟨#[108, 101, 116, 32, 120, 49, 32, 61, 32, 49, 48, 59, 32, 35, 32, 116, 101, 110]⟩ : ByteArray)] rfl (by (try simp only [List.map_toArray, List.map_cons, List.map_nil]); first | done | rfl | (simp only [List.length_drop, List.length_take]; rfl)) ?_; (with_reducible refine (lex_Tokens.calls k (⟨#[108, 101, 116, 32, 120, 49, 32, 61, 32, 49, 48, 59, 32, 35, 32, 116, 101, 110]⟩ : ByteArray) t106 t107 t108 _ A2.out ?hTab).mono ?_); (case hTab => exact HT.out.below (by repeat (first | (with_reducible first | exact HB.out | apply below_alloc | apply pw_below_drewN | apply below_drew1) | exact HB.out))); rintro e w59 ⟨v109, rfl, ho0, hb⟩; refine ⟨_, rfl, ?_⟩; have n0_ := Aside0.mk (Kd.R_elder' (by (with_reducible repeat (first | apply Kd.R_alloc | apply Kd.R_drewN | apply Kd.R_drew)); exact HO105.out) (Kd.R_base ho0) hb); have n1_ := Aside0.mk (Kd.R_lower (Kd.R_new' ho0 (Kd.R_lt (by (with_reducible repeat (first | apply Kd.R_alloc | apply Kd.R_drewN | apply Kd.R_drew)); exact HO105.out))) (below_size (by repeat (first | (with_reducible first | exact HB.out | apply below_alloc | apply pw_below_drewN | apply below_drew1) | exact HB.out)))); have n2_ := Aside0.mk (below_step (by repeat (first | (with_reducible first | exact HB.out | apply below_alloc | apply pw_below_drewN | apply below_drew1) | exact HB.out)) hb); clear HO105; clear HB; have HO105 := n0_; have HO110 := n1_; have HB := n2_; clear n0_ n1_ n2_; (try clear hb); (try clear hb2); (try clear hk); (try clear hi); (try clear ho0)) | ((with_reducible refine gate_callee (f := 11) rfl ?_); refine goesL_ (some 24) rfl rfl Tryd.func11 (by kernel_rfl) rfl #[.string (⟨#[49, 50, 97]⟩ : ByteArray)] rfl (by (try simp only [List.map_toArray, List.map_cons, List.map_nil]); first | done | rfl | (simp only [List.length_drop, List.length_take]; rfl)) ?_; (with_reducible refine (lex_Tokens.calls k (⟨#[49, 50, 97]⟩ : ByteArray) t111 t112 t113 _ A3.out ?hTab).mono ?_); (case hTab => exact HT.out.below (by repeat (first | (with_reducible first | exact HB.out | apply below_alloc | apply pw_below_drewN | apply below_drew1) | exact HB.out))); rintro e w60 ⟨v114, rfl, ho0, hb⟩; refine ⟨_, rfl, ?_⟩; have n0_ := Aside0.mk (Kd.R_elder' (by (with_reducible repeat (first | apply Kd.R_alloc | apply Kd.R_drewN | apply Kd.R_drew)); exact HO105.out) (Kd.R_base ho0) hb); have n1_ := Aside0.mk (Kd.R_elder' (by (with_reducible repeat (first | apply Kd.R_alloc | apply Kd.R_drewN | apply Kd.R_drew)); exact HO110.out) (Kd.R_base ho0) hb); have n2_ := Aside0.mk (Kd.R_lower (Kd.R_new' (Kd.R_new' ho0 (Kd.R_lt (by (with_reducible repeat (first | apply Kd.R_alloc | apply Kd.R_drewN | apply Kd.R_drew)); exact HO105.out))) (Kd.R_lt (by (with_reducible repeat (first | apply Kd.R_alloc | apply Kd.R_drewN | apply Kd.R_drew)); exact HO110.out))) (below_size (by repeat (first | (with_reducible first | exact HB.out | apply below_alloc | apply pw_below_drewN | apply below_drew1) | exact HB.out)))); have n3_ := Aside0.mk (below_step (by repeat (first | (with_reducible first | exact HB.out | apply below_alloc | apply pw_below_drewN | apply below_drew1) | exact HB.out)) hb); clear HO105; clear HO110; clear HB; have HO105 := n0_; have HO110 := n1_; have HO115 := n2_; have HB := n3_; clear n0_ n1_ n2_ n3_; (try clear hb); (try clear hb2); (try clear hk); (try clear hi); (try clear ho0)) | ((with_reducible refine gate_callee (f := 11) rfl ?_); refine goesL_ (some 29) rfl rfl Tryd.func11 (by kernel_rfl) rfl #[.string (⟨#[36]⟩ : ByteArray)] rfl (by (try simp only [List.map_toArray, List.map_cons, List.map_nil]); first | done | rfl | (simp only [List.length_drop, List.length_take]; rfl)) ?_; (with_reducible refine (lex_Tokens.calls k (⟨#[36]⟩ : ByteArray) t116 t117 t118 _ A4.out ?hTab).mono ?_); (case hTab => exact HT.out.below (by repeat (first | (with_reducible first | exact HB.out | apply below_alloc | apply pw_below_drewN | apply below_drew1) | exact HB.out))); rintro e w61 ⟨v119, rfl, ho0, hb⟩; refine ⟨_, rfl, ?_⟩; have n0_ := Aside0.mk (Kd.R_elder' (by (with_reducible repeat (first | apply Kd.R_alloc | apply Kd.R_drewN | apply Kd.R_drew)); exact HO105.out) (Kd.R_base ho0) hb); have n1_ := Aside0.mk (Kd.R_elder' (by (with_reducible repeat (first | apply Kd.R_alloc | apply Kd.R_drewN | apply Kd.R_drew)); exact HO110.out) (Kd.R_base ho0) hb); have n2_ := Aside0.mk (Kd.R_elder' (by (with_reducible repeat (first | apply Kd.R_alloc | apply Kd.R_drewN | apply Kd.R_drew)); exact HO115.out) (Kd.R_base ho0) hb); have n3_ := Aside0.mk (Kd.R_lower (Kd.R_new' (Kd.R_new' (Kd.R_new' ho0 (Kd.R_lt (by (with_reducible repeat (first | apply Kd.R_alloc | apply Kd.R_drewN | apply Kd.R_drew)); exact HO105.out))) (Kd.R_lt (by (with_reducible repeat (first | apply Kd.R_alloc | apply Kd.R_drewN | apply Kd.R_drew)); exact HO110.out))) (Kd.R_lt (by (with_reducible repeat (first | apply Kd.R_alloc | apply Kd.R_drewN | apply Kd.R_drew)); exact HO115.out))) (below_size (by repeat (first | (with_reducible first | exact HB.out | apply below_alloc | apply pw_below_drewN | apply below_drew1) | exact HB.out)))); have n4_ := Aside0.mk (below_step (by repeat (first | (with_reducible first | exact HB.out | apply below_alloc | apply pw_below_drewN | apply below_drew1) | exact HB.out)) hb); clear HO105; clear HO110; clear HO115; clear HB; have HO105 := n0_; have HO110 := n1_; have HO115 := n2_; have HO120 := n3_; have HB := n4_; clear n0_ n1_ n2_ n3_ n4_; (try clear hb); (try clear hb2); (try clear hk); (try clear hi); (try clear ho0); obtain ⟨Ao62, co62, eo62⟩ := Kd.R_slice HO105.out; subst eo62; have p121 : 0 ≤ (1 : Int) := (by omega); have q121 : 1 < (t101.length : Int) := of_decide_eq_true (by with_reducible assumption); obtain ⟨ad121, e121, hx121_0, hx121_1, hx121_2, hx121_3⟩ := at_T30 (Kd.R_reads' HO105.out).2.2 1 p121 q121; cases e121; (try simp only [show (1 : Int).toNat = 1 from rfl, Nat.reduceMul, Nat.reduceEqDiff, Go.Addr.add, ↓reduceIte] at hx121_0); (try simp only [show (1 : Int).toNat = 1 from rfl, Nat.reduceMul, Nat.reduceEqDiff, Go.Addr.add, ↓reduceIte] at hx121_1); (try simp only [show (1 : Int).toNat = 1 from rfl, Nat.reduceMul, Nat.reduceEqDiff, Go.Addr.add, ↓reduceIte] at hx121_2); (try simp only [show (1 : Int).toNat = 1 from rfl, Nat.reduceMul, Nat.reduceEqDiff, Go.Addr.add, ↓reduceIte] at hx121_3); have qi121 : (1 < t101.length) = True := eq_true (by omega); (try rw [show ((1 : Int)).toNat = 1 from rfl] at hx121_0); (try rw [show 1 * 4 = 4 from rfl] at hx121_0); (try rw [show ((1 : Int)).toNat = 1 from rfl] at hx121_1); (try rw [show 1 * 4 = 4 from rfl] at hx121_1); (try rw [show ((1 : Int)).toNat = 1 from rfl] at hx121_2); (try rw [show 1 * 4 = 4 from rfl] at hx121_2); (try rw [show ((1 : Int)).toNat = 1 from rfl] at hx121_3); (try rw [show 1 * 4 = 4 from rfl] at hx121_3); replace p121 := eq_true p121; replace q121 := eq_true q121; obtain ⟨Ao63, co63, eo63⟩ := Kd.R_slice HO110.out; subst eo63))
       go_ret
       exact ⟨by first | rfl | (simp [errW_none, errW_some] <;> rfl) | (simp [*, errW_none, errW_some] <;> rfl), by repeat (first | (with_reducible first | exact HB.out | apply below_alloc | apply pw_below_drewN | apply below_drew1) | exact HB.out)⟩
     ·rw [if_neg c9] at H; have c9b0 : (((rd_T30 t101 1).f2).toList == ([62, 62, 62] : List UInt8)) = false := beq_eq_false_iff_ne.mpr c9
      have c9b1 : (((rd_T30 t101 1).f2).toList != ([62, 62, 62] : List UInt8)) = true := bne_iff_ne.mpr c9
      obtain rfl := Option.some.inj H; go_enter Tryd.func10, Tryd.ntmps10
      go_wp2_with (first | ((with_reducible refine gate_callee (f := 11) rfl ?_); refine goesL_ (some 14) rfl rfl Tryd.func11 (by kernel_rfl) rfl #[.string (⟨#[97, 62, 62, 62, 61, 98]⟩ : ByteArray)] rfl (by (try simp only [List.map_toArray, List.map_cons, List.map_nil]); first | done | rfl | (simp only [List.length_drop, List.length_take]; rfl)) ?_; (with_reducible refine (lex_Tokens.calls k (⟨#[97, 62, 62, 62, 61, 98]⟩ : ByteArray) t101 t102 t103 _ A1.out ?hTab).mono ?_); (case hTab => exact HT.out.below (by repeat (first | (with_reducible first | exact HB.out | apply below_alloc | apply pw_below_drewN | apply below_drew1) | exact HB.out))); rintro e w64 ⟨v104, rfl, ho0, hb⟩; refine ⟨_, rfl, ?_⟩; have n0_ := Aside0.mk (Kd.R_lower ho0 (below_size (by repeat (first | (with_reducible first | exact HB.out | apply below_alloc | apply pw_below_drewN | apply below_drew1) | exact HB.out)))); have n1_ := Aside0.mk (below_step (by repeat (first | (with_reducible first | exact HB.out | apply below_alloc | apply pw_below_drewN | apply below_drew1) | exact HB.out)) hb); clear HB; have HO105 := n0_; have HB := n1_; clear n0_ n1_; (try clear hb); (try clear hb2); (try clear hk); (try clear hi); (try clear ho0)) | ((with_reducible refine gate_callee (f := 11) rfl ?_); refine goesL_ (some 19) rfl rfl Tryd.func11 (by kernel_rfl) rfl #[.string (⟨#[108, 101, 116, 32, 120, 49, 32, 61, 32, 49, 48, 59, 32, 35, 32, 116, 101, 110]⟩ : ByteArray)] rfl (by (try simp only [List.map_toArray, List.map_cons, List.map_nil]); first | done | rfl | (simp only [List.length_drop, List.length_take]; rfl)) ?_; (with_reducible refine (lex_Tokens.calls k (⟨#[108, 101, 116, 32, 120, 49, 32, 61, 32, 49, 48, 59, 32, 35, 32, 116, 101, 110]⟩ : ByteArray) t106 t107 t108 _ A2.out ?hTab).mono ?_); (case hTab => exact HT.out.below (by repeat (first | (with_reducible first | exact HB.out | apply below_alloc | apply pw_below_drewN | apply below_drew1) | exact HB.out))); rintro e w65 ⟨v109, rfl, ho0, hb⟩; refine ⟨_, rfl, ?_⟩; have n0_ := Aside0.mk (Kd.R_elder' (by (with_reducible repeat (first | apply Kd.R_alloc | apply Kd.R_drewN | apply Kd.R_drew)); exact HO105.out) (Kd.R_base ho0) hb); have n1_ := Aside0.mk (Kd.R_lower (Kd.R_new' ho0 (Kd.R_lt (by (with_reducible repeat (first | apply Kd.R_alloc | apply Kd.R_drewN | apply Kd.R_drew)); exact HO105.out))) (below_size (by repeat (first | (with_reducible first | exact HB.out | apply below_alloc | apply pw_below_drewN | apply below_drew1) | exact HB.out)))); have n2_ := Aside0.mk (below_step (by repeat (first | (with_reducible first | exact HB.out | apply below_alloc | apply pw_below_drewN | apply below_drew1) | exact HB.out)) hb); clear HO105; clear HB; have HO105 := n0_; have HO110 := n1_; have HB := n2_; clear n0_ n1_ n2_; (try clear hb); (try clear hb2); (try clear hk); (try clear hi); (try clear ho0)) | ((with_reducible refine gate_callee (f := 11) rfl ?_); refine goesL_ (some 24) rfl rfl Tryd.func11 (by kernel_rfl) rfl #[.string (⟨#[49, 50, 97]⟩ : ByteArray)] rfl (by (try simp only [List.map_toArray, List.map_cons, List.map_nil]); first | done | rfl | (simp only [List.length_drop, List.length_take]; rfl)) ?_; (with_reducible refine (lex_Tokens.calls k (⟨#[49, 50, 97]⟩ : ByteArray) t111 t112 t113 _ A3.out ?hTab).mono ?_); (case hTab => exact HT.out.below (by repeat (first | (with_reducible first | exact HB.out | apply below_alloc | apply pw_below_drewN | apply below_drew1) | exact HB.out))); rintro e w66 ⟨v114, rfl, ho0, hb⟩; refine ⟨_, rfl, ?_⟩; have n0_ := Aside0.mk (Kd.R_elder' (by (with_reducible repeat (first | apply Kd.R_alloc | apply Kd.R_drewN | apply Kd.R_drew)); exact HO105.out) (Kd.R_base ho0) hb); have n1_ := Aside0.mk (Kd.R_elder' (by (with_reducible repeat (first | apply Kd.R_alloc | apply Kd.R_drewN | apply Kd.R_drew)); exact HO110.out) (Kd.R_base ho0) hb); have n2_ := Aside0.mk (Kd.R_lower (Kd.R_new' (Kd.R_new' ho0 (Kd.R_lt (by (with_reducible repeat (first | apply Kd.R_alloc | apply Kd.R_drewN | apply Kd.R_drew)); exact HO105.out))) (Kd.R_lt (by (with_reducible repeat (first | apply Kd.R_alloc | apply Kd.R_drewN | apply Kd.R_drew)); exact HO110.out))) (below_size (by repeat (first | (with_reducible first | exact HB.out | apply below_alloc | apply pw_below_drewN | apply below_drew1) | exact HB.out)))); have n3_ := Aside0.mk (below_step (by repeat (first | (with_reducible first | exact HB.out | apply below_alloc | apply pw_below_drewN | apply below_drew1) | exact HB.out)) hb); clear HO105; clear HO110; clear HB; have HO105 := n0_; have HO110 := n1_; have HO115 := n2_; have HB := n3_; clear n0_ n1_ n2_ n3_; (try clear hb); (try clear hb2); (try clear hk); (try clear hi); (try clear ho0)) | ((with_reducible refine gate_callee (f := 11) rfl ?_); refine goesL_ (some 29) rfl rfl Tryd.func11 (by kernel_rfl) rfl #[.string (⟨#[36]⟩ : ByteArray)] rfl (by (try simp only [List.map_toArray, List.map_cons, List.map_nil]); first | done | rfl | (simp only [List.length_drop, List.length_take]; rfl)) ?_; (with_reducible refine (lex_Tokens.calls k (⟨#[36]⟩ : ByteArray) t116 t117 t118 _ A4.out ?hTab).mono ?_); (case hTab => exact HT.out.below (by repeat (first | (with_reducible first | exact HB.out | apply below_alloc | apply pw_below_drewN | apply below_drew1) | exact HB.out))); rintro e w67 ⟨v119, rfl, ho0, hb⟩; refine ⟨_, rfl, ?_⟩; have n0_ := Aside0.mk (Kd.R_elder' (by (with_reducible repeat (first | apply Kd.R_alloc | apply Kd.R_drewN | apply Kd.R_drew)); exact HO105.out) (Kd.R_base ho0) hb); have n1_ := Aside0.mk (Kd.R_elder' (by (with_reducible repeat (first | apply Kd.R_alloc | apply Kd.R_drewN | apply Kd.R_drew)); exact HO110.out) (Kd.R_base ho0) hb); have n2_ := Aside0.mk (Kd.R_elder' (by (with_reducible repeat (first | apply Kd.R_alloc | apply Kd.R_drewN | apply Kd.R_drew)); exact HO115.out) (Kd.R_base ho0) hb); have n3_ := Aside0.mk (Kd.R_lower (Kd.R_new' (Kd.R_new' (Kd.R_new' ho0 (Kd.R_lt (by (with_reducible repeat (first | apply Kd.R_alloc | apply Kd.R_drewN | apply Kd.R_drew)); exact HO105.out))) (Kd.R_lt (by (with_reducible repeat (first | apply Kd.R_alloc | apply Kd.R_drewN | apply Kd.R_drew)); exact HO110.out))) (Kd.R_lt (by (with_reducible repeat (first | apply Kd.R_alloc | apply Kd.R_drewN | apply Kd.R_drew)); exact HO115.out))) (below_size (by repeat (first | (with_reducible first | exact HB.out | apply below_alloc | apply pw_below_drewN | apply below_drew1) | exact HB.out)))); have n4_ := Aside0.mk (below_step (by repeat (first | (with_reducible first | exact HB.out | apply below_alloc | apply pw_below_drewN | apply below_drew1) | exact HB.out)) hb); clear HO105; clear HO110; clear HO115; clear HB; have HO105 := n0_; have HO110 := n1_; have HO115 := n2_; have HO120 := n3_; have HB := n4_; clear n0_ n1_ n2_ n3_ n4_; (try clear hb); (try clear hb2); (try clear hk); (try clear hi); (try clear ho0); obtain ⟨Ao68, co68, eo68⟩ := Kd.R_slice HO105.out; subst eo68; have p121 : 0 ≤ (1 : Int) := (by omega); have q121 : 1 < (t101.length : Int) := of_decide_eq_true (by with_reducible assumption); obtain ⟨ad121, e121, hx121_0, hx121_1, hx121_2, hx121_3⟩ := at_T30 (Kd.R_reads' HO105.out).2.2 1 p121 q121; cases e121; (try simp only [show (1 : Int).toNat = 1 from rfl, Nat.reduceMul, Nat.reduceEqDiff, Go.Addr.add, ↓reduceIte] at hx121_0); (try simp only [show (1 : Int).toNat = 1 from rfl, Nat.reduceMul, Nat.reduceEqDiff, Go.Addr.add, ↓reduceIte] at hx121_1); (try simp only [show (1 : Int).toNat = 1 from rfl, Nat.reduceMul, Nat.reduceEqDiff, Go.Addr.add, ↓reduceIte] at hx121_2); (try simp only [show (1 : Int).toNat = 1 from rfl, Nat.reduceMul, Nat.reduceEqDiff, Go.Addr.add, ↓reduceIte] at hx121_3); have qi121 : (1 < t101.length) = True := eq_true (by omega); (try rw [show ((1 : Int)).toNat = 1 from rfl] at hx121_0); (try rw [show 1 * 4 = 4 from rfl] at hx121_0); (try rw [show ((1 : Int)).toNat = 1 from rfl] at hx121_1); (try rw [show 1 * 4 = 4 from rfl] at hx121_1); (try rw [show ((1 : Int)).toNat = 1 from rfl] at hx121_2); (try rw [show 1 * 4 = 4 from rfl] at hx121_2); (try rw [show ((1 : Int)).toNat = 1 from rfl] at hx121_3); (try rw [show 1 * 4 = 4 from rfl] at hx121_3); replace p121 := eq_true p121; replace q121 := eq_true q121))
      go_ret
      exact ⟨by first | rfl | (simp [errW_none, errW_some] <;> rfl) | (simp [*, errW_none, errW_some] <;> rfl), by repeat (first | (with_reducible first | exact HB.out | apply below_alloc | apply pw_below_drewN | apply below_drew1) | exact HB.out)⟩
    ·rw [if_neg c8] at H; exact absurd H (by simp)
   ·rw [if_neg c7] at H; have c7b0 : (t103 == 0) = false := beq_eq_false_iff_ne.mpr c7
    have c7b1 : (t103 != 0) = true := bne_iff_ne.mpr c7
    obtain rfl := Option.some.inj H; go_enter Tryd.func10, Tryd.ntmps10
    go_wp2_with (first | ((with_reducible refine gate_callee (f := 11) rfl ?_); refine goesL_ (some 14) rfl rfl Tryd.func11 (by kernel_rfl) rfl #[.string (⟨#[97, 62, 62, 62, 61, 98]⟩ : ByteArray)] rfl (by (try simp only [List.map_toArray, List.map_cons, List.map_nil]); first | done | rfl | (simp only [List.length_drop, List.length_take]; rfl)) ?_; (with_reducible refine (lex_Tokens.calls k (⟨#[97, 62, 62, 62, 61, 98]⟩ : ByteArray) t101 t102 t103 _ A1.out ?hTab).mono ?_); (case hTab => exact HT.out.below (by repeat (first | (with_reducible first | exact HB.out | apply below_alloc | apply pw_below_drewN | apply below_drew1) | exact HB.out))); rintro e w69 ⟨v104, rfl, ho0, hb⟩; refine ⟨_, rfl, ?_⟩; have n0_ := Aside0.mk (Kd.R_lower ho0 (below_size (by repeat (first | (with_reducible first | exact HB.out | apply below_alloc | apply pw_below_drewN | apply below_drew1) | exact HB.out)))); have n1_ := Aside0.mk (below_step (by repeat (first | (with_reducible first | exact HB.out | apply below_alloc | apply pw_below_drewN | apply below_drew1) | exact HB.out)) hb); clear HB; have HO105 := n0_; have HB := n1_; clear n0_ n1_; (try clear hb); (try clear hb2); (try clear hk); (try clear hi); (try clear ho0)) | ((with_reducible refine gate_callee (f := 11) rfl ?_); refine goesL_ (some 19) rfl rfl Tryd.func11 (by kernel_rfl) rfl #[.string (⟨#[108, 101, 116, 32, 120, 49, 32, 61, 32, 49, 48, 59, 32, 35, 32, 116, 101, 110]⟩ : ByteArray)] rfl (by (try simp only [List.map_toArray, List.map_cons, List.map_nil]); first | done | rfl | (simp only [List.length_drop, List.length_take]; rfl)) ?_; (with_reducible refine (lex_Tokens.calls k (⟨#[108, 101, 116, 32, 120, 49, 32, 61, 32, 49, 48, 59, 32, 35, 32, 116, 101, 110]⟩ : ByteArray) t106 t107 t108 _ A2.out ?hTab).mono ?_); (case hTab => exact HT.out.below (by repeat (first | (with_reducible first | exact HB.out | apply below_alloc | apply pw_below_drewN | apply below_drew1) | exact HB.out))); rintro e w70 ⟨v109, rfl, ho0, hb⟩; refine ⟨_, rfl, ?_⟩; have n0_ := Aside0.mk (Kd.R_elder' (by (with_reducible repeat (first | apply Kd.R_alloc | apply Kd.R_drewN | apply Kd.R_drew)); exact HO105.out) (Kd.R_base ho0) hb); have n1_ := Aside0.mk (Kd.R_lower (Kd.R_new' ho0 (Kd.R_lt (by (with_reducible repeat (first | apply Kd.R_alloc | apply Kd.R_drewN | apply Kd.R_drew)); exact HO105.out))) (below_size (by repeat (first | (with_reducible first | exact HB.out | apply below_alloc | apply pw_below_drewN | apply below_drew1) | exact HB.out)))); have n2_ := Aside0.mk (below_step (by repeat (first | (with_reducible first | exact HB.out | apply below_alloc | apply pw_below_drewN | apply below_drew1) | exact HB.out)) hb); clear HO105; clear HB; have HO105 := n0_; have HO110 := n1_; have HB := n2_; clear n0_ n1_ n2_; (try clear hb); (try clear hb2); (try clear hk); (try clear hi); (try clear ho0)) | ((with_reducible refine gate_callee (f := 11) rfl ?_); refine goesL_ (some 24) rfl rfl Tryd.func11 (by kernel_rfl) rfl #[.string (⟨#[49, 50, 97]⟩ : ByteArray)] rfl (by (try simp only [List.map_toArray, List.map_cons, List.map_nil]); first | done | rfl | (simp only [List.length_drop, List.length_take]; rfl)) ?_; (with_reducible refine (lex_Tokens.calls k (⟨#[49, 50, 97]⟩ : ByteArray) t111 t112 t113 _ A3.out ?hTab).mono ?_); (case hTab => exact HT.out.below (by repeat (first | (with_reducible first | exact HB.out | apply below_alloc | apply pw_below_drewN | apply below_drew1) | exact HB.out))); rintro e w71 ⟨v114, rfl, ho0, hb⟩; refine ⟨_, rfl, ?_⟩; have n0_ := Aside0.mk (Kd.R_elder' (by (with_reducible repeat (first | apply Kd.R_alloc | apply Kd.R_drewN | apply Kd.R_drew)); exact HO105.out) (Kd.R_base ho0) hb); have n1_ := Aside0.mk (Kd.R_elder' (by (with_reducible repeat (first | apply Kd.R_alloc | apply Kd.R_drewN | apply Kd.R_drew)); exact HO110.out) (Kd.R_base ho0) hb); have n2_ := Aside0.mk (Kd.R_lower (Kd.R_new' (Kd.R_new' ho0 (Kd.R_lt (by (with_reducible repeat (first | apply Kd.R_alloc | apply Kd.R_drewN | apply Kd.R_drew)); exact HO105.out))) (Kd.R_lt (by (with_reducible repeat (first | apply Kd.R_alloc | apply Kd.R_drewN | apply Kd.R_drew)); exact HO110.out))) (below_size (by repeat (first | (with_reducible first | exact HB.out | apply below_alloc | apply pw_below_drewN | apply below_drew1) | exact HB.out)))); have n3_ := Aside0.mk (below_step (by repeat (first | (with_reducible first | exact HB.out | apply below_alloc | apply pw_below_drewN | apply below_drew1) | exact HB.out)) hb); clear HO105; clear HO110; clear HB; have HO105 := n0_; have HO110 := n1_; have HO115 := n2_; have HB := n3_; clear n0_ n1_ n2_ n3_; (try clear hb); (try clear hb2); (try clear hk); (try clear hi); (try clear ho0)) | ((with_reducible refine gate_callee (f := 11) rfl ?_); refine goesL_ (some 29) rfl rfl Tryd.func11 (by kernel_rfl) rfl #[.string (⟨#[36]⟩ : ByteArray)] rfl (by (try simp only [List.map_toArray, List.map_cons, List.map_nil]); first | done | rfl | (simp only [List.length_drop, List.length_take]; rfl)) ?_; (with_reducible refine (lex_Tokens.calls k (⟨#[36]⟩ : ByteArray) t116 t117 t118 _ A4.out ?hTab).mono ?_); (case hTab => exact HT.out.below (by repeat (first | (with_reducible first | exact HB.out | apply below_alloc | apply pw_below_drewN | apply below_drew1) | exact HB.out))); rintro e w72 ⟨v119, rfl, ho0, hb⟩; refine ⟨_, rfl, ?_⟩; have n0_ := Aside0.mk (Kd.R_elder' (by (with_reducible repeat (first | apply Kd.R_alloc | apply Kd.R_drewN | apply Kd.R_drew)); exact HO105.out) (Kd.R_base ho0) hb); have n1_ := Aside0.mk (Kd.R_elder' (by (with_reducible repeat (first | apply Kd.R_alloc | apply Kd.R_drewN | apply Kd.R_drew)); exact HO110.out) (Kd.R_base ho0) hb); have n2_ := Aside0.mk (Kd.R_elder' (by (with_reducible repeat (first | apply Kd.R_alloc | apply Kd.R_drewN | apply Kd.R_drew)); exact HO115.out) (Kd.R_base ho0) hb); have n3_ := Aside0.mk (Kd.R_lower (Kd.R_new' (Kd.R_new' (Kd.R_new' ho0 (Kd.R_lt (by (with_reducible repeat (first | apply Kd.R_alloc | apply Kd.R_drewN | apply Kd.R_drew)); exact HO105.out))) (Kd.R_lt (by (with_reducible repeat (first | apply Kd.R_alloc | apply Kd.R_drewN | apply Kd.R_drew)); exact HO110.out))) (Kd.R_lt (by (with_reducible repeat (first | apply Kd.R_alloc | apply Kd.R_drewN | apply Kd.R_drew)); exact HO115.out))) (below_size (by repeat (first | (with_reducible first | exact HB.out | apply below_alloc | apply pw_below_drewN | apply below_drew1) | exact HB.out)))); have n4_ := Aside0.mk (below_step (by repeat (first | (with_reducible first | exact HB.out | apply below_alloc | apply pw_below_drewN | apply below_drew1) | exact HB.out)) hb); clear HO105; clear HO110; clear HO115; clear HB; have HO105 := n0_; have HO110 := n1_; have HO115 := n2_; have HO120 := n3_; have HB := n4_; clear n0_ n1_ n2_ n3_ n4_; (try clear hb); (try clear hb2); (try clear hk); (try clear hi); (try clear ho0); obtain ⟨Ao73, co73, eo73⟩ := Kd.R_slice HO105.out; subst eo73))
    go_ret
    exact ⟨by first | rfl | (simp [errW_none, errW_some] <;> rfl) | (simp [*, errW_none, errW_some] <;> rfl), by repeat (first | (with_reducible first | exact HB.out | apply below_alloc | apply pw_below_drewN | apply below_drew1) | exact HB.out)⟩
  ·rw [if_neg c6] at H; have c6b0 : (t102 == 0) = false := beq_eq_false_iff_ne.mpr c6
   have c6b1 : (t102 != 0) = true := bne_iff_ne.mpr c6
   obtain rfl := Option.some.inj H; go_enter Tryd.func10, Tryd.ntmps10
   go_wp2_with (first | ((with_reducible refine gate_callee (f := 11) rfl ?_); refine goesL_ (some 14) rfl rfl Tryd.func11 (by kernel_rfl) rfl #[.string (⟨#[97, 62, 62, 62, 61, 98]⟩ : ByteArray)] rfl (by (try simp only [List.map_toArray, List.map_cons, List.map_nil]); first | done | rfl | (simp only [List.length_drop, List.length_take]; rfl)) ?_; (with_reducible refine (lex_Tokens.calls k (⟨#[97, 62, 62, 62, 61, 98]⟩ : ByteArray) t101 t102 t103 _ A1.out ?hTab).mono ?_); (case hTab => exact HT.out.below (by repeat (first | (with_reducible first | exact HB.out | apply below_alloc | apply pw_below_drewN | apply below_drew1) | exact HB.out))); rintro e w74 ⟨v104, rfl, ho0, hb⟩; refine ⟨_, rfl, ?_⟩; have n0_ := Aside0.mk (Kd.R_lower ho0 (below_size (by repeat (first | (with_reducible first | exact HB.out | apply below_alloc | apply pw_below_drewN | apply below_drew1) | exact HB.out)))); have n1_ := Aside0.mk (below_step (by repeat (first | (with_reducible first | exact HB.out | apply below_alloc | apply pw_below_drewN | apply below_drew1) | exact HB.out)) hb); clear HB; have HO105 := n0_; have HB := n1_; clear n0_ n1_; (try clear hb); (try clear hb2); (try clear hk); (try clear hi); (try clear ho0)) | ((with_reducible refine gate_callee (f := 11) rfl ?_); refine goesL_ (some 19) rfl rfl Tryd.func11 (by kernel_rfl) rfl #[.string (⟨#[108, 101, 116, 32, 120, 49, 32, 61, 32, 49, 48, 59, 32, 35, 32, 116, 101, 110]⟩ : ByteArray)] rfl (by (try simp only [List.map_toArray, List.map_cons, List.map_nil]); first | done | rfl | (simp only [List.length_drop, List.length_take]; rfl)) ?_; (with_reducible refine (lex_Tokens.calls k (⟨#[108, 101, 116, 32, 120, 49, 32, 61, 32, 49, 48, 59, 32, 35, 32, 116, 101, 110]⟩ : ByteArray) t106 t107 t108 _ A2.out ?hTab).mono ?_); (case hTab => exact HT.out.below (by repeat (first | (with_reducible first | exact HB.out | apply below_alloc | apply pw_below_drewN | apply below_drew1) | exact HB.out))); rintro e w75 ⟨v109, rfl, ho0, hb⟩; refine ⟨_, rfl, ?_⟩; have n0_ := Aside0.mk (Kd.R_elder' (by (with_reducible repeat (first | apply Kd.R_alloc | apply Kd.R_drewN | apply Kd.R_drew)); exact HO105.out) (Kd.R_base ho0) hb); have n1_ := Aside0.mk (Kd.R_lower (Kd.R_new' ho0 (Kd.R_lt (by (with_reducible repeat (first | apply Kd.R_alloc | apply Kd.R_drewN | apply Kd.R_drew)); exact HO105.out))) (below_size (by repeat (first | (with_reducible first | exact HB.out | apply below_alloc | apply pw_below_drewN | apply below_drew1) | exact HB.out)))); have n2_ := Aside0.mk (below_step (by repeat (first | (with_reducible first | exact HB.out | apply below_alloc | apply pw_below_drewN | apply below_drew1) | exact HB.out)) hb); clear HO105; clear HB; have HO105 := n0_; have HO110 := n1_; have HB := n2_; clear n0_ n1_ n2_; (try clear hb); (try clear hb2); (try clear hk); (try clear hi); (try clear ho0)) | ((with_reducible refine gate_callee (f := 11) rfl ?_); refine goesL_ (some 24) rfl rfl Tryd.func11 (by kernel_rfl) rfl #[.string (⟨#[49, 50, 97]⟩ : ByteArray)] rfl (by (try simp only [List.map_toArray, List.map_cons, List.map_nil]); first | done | rfl | (simp only [List.length_drop, List.length_take]; rfl)) ?_; (with_reducible refine (lex_Tokens.calls k (⟨#[49, 50, 97]⟩ : ByteArray) t111 t112 t113 _ A3.out ?hTab).mono ?_); (case hTab => exact HT.out.below (by repeat (first | (with_reducible first | exact HB.out | apply below_alloc | apply pw_below_drewN | apply below_drew1) | exact HB.out))); rintro e w76 ⟨v114, rfl, ho0, hb⟩; refine ⟨_, rfl, ?_⟩; have n0_ := Aside0.mk (Kd.R_elder' (by (with_reducible repeat (first | apply Kd.R_alloc | apply Kd.R_drewN | apply Kd.R_drew)); exact HO105.out) (Kd.R_base ho0) hb); have n1_ := Aside0.mk (Kd.R_elder' (by (with_reducible repeat (first | apply Kd.R_alloc | apply Kd.R_drewN | apply Kd.R_drew)); exact HO110.out) (Kd.R_base ho0) hb); have n2_ := Aside0.mk (Kd.R_lower (Kd.R_new' (Kd.R_new' ho0 (Kd.R_lt (by (with_reducible repeat (first | apply Kd.R_alloc | apply Kd.R_drewN | apply Kd.R_drew)); exact HO105.out))) (Kd.R_lt (by (with_reducible repeat (first | apply Kd.R_alloc | apply Kd.R_drewN | apply Kd.R_drew)); exact HO110.out))) (below_size (by repeat (first | (with_reducible first | exact HB.out | apply below_alloc | apply pw_below_drewN | apply below_drew1) | exact HB.out)))); have n3_ := Aside0.mk (below_step (by repeat (first | (with_reducible first | exact HB.out | apply below_alloc | apply pw_below_drewN | apply below_drew1) | exact HB.out)) hb); clear HO105; clear HO110; clear HB; have HO105 := n0_; have HO110 := n1_; have HO115 := n2_; have HB := n3_; clear n0_ n1_ n2_ n3_; (try clear hb); (try clear hb2); (try clear hk); (try clear hi); (try clear ho0)) | ((with_reducible refine gate_callee (f := 11) rfl ?_); refine goesL_ (some 29) rfl rfl Tryd.func11 (by kernel_rfl) rfl #[.string (⟨#[36]⟩ : ByteArray)] rfl (by (try simp only [List.map_toArray, List.map_cons, List.map_nil]); first | done | rfl | (simp only [List.length_drop, List.length_take]; rfl)) ?_; (with_reducible refine (lex_Tokens.calls k (⟨#[36]⟩ : ByteArray) t116 t117 t118 _ A4.out ?hTab).mono ?_); (case hTab => exact HT.out.below (by repeat (first | (with_reducible first | exact HB.out | apply below_alloc | apply pw_below_drewN | apply below_drew1) | exact HB.out))); rintro e w77 ⟨v119, rfl, ho0, hb⟩; refine ⟨_, rfl, ?_⟩; have n0_ := Aside0.mk (Kd.R_elder' (by (with_reducible repeat (first | apply Kd.R_alloc | apply Kd.R_drewN | apply Kd.R_drew)); exact HO105.out) (Kd.R_base ho0) hb); have n1_ := Aside0.mk (Kd.R_elder' (by (with_reducible repeat (first | apply Kd.R_alloc | apply Kd.R_drewN | apply Kd.R_drew)); exact HO110.out) (Kd.R_base ho0) hb); have n2_ := Aside0.mk (Kd.R_elder' (by (with_reducible repeat (first | apply Kd.R_alloc | apply Kd.R_drewN | apply Kd.R_drew)); exact HO115.out) (Kd.R_base ho0) hb); have n3_ := Aside0.mk (Kd.R_lower (Kd.R_new' (Kd.R_new' (Kd.R_new' ho0 (Kd.R_lt (by (with_reducible repeat (first | apply Kd.R_alloc | apply Kd.R_drewN | apply Kd.R_drew)); exact HO105.out))) (Kd.R_lt (by (with_reducible repeat (first | apply Kd.R_alloc | apply Kd.R_drewN | apply Kd.R_drew)); exact HO110.out))) (Kd.R_lt (by (with_reducible repeat (first | apply Kd.R_alloc | apply Kd.R_drewN | apply Kd.R_drew)); exact HO115.out))) (below_size (by repeat (first | (with_reducible first | exact HB.out | apply below_alloc | apply pw_below_drewN | apply below_drew1) | exact HB.out)))); have n4_ := Aside0.mk (below_step (by repeat (first | (with_reducible first | exact HB.out | apply below_alloc | apply pw_below_drewN | apply below_drew1) | exact HB.out)) hb); clear HO105; clear HO110; clear HO115; clear HB; have HO105 := n0_; have HO110 := n1_; have HO115 := n2_; have HO120 := n3_; have HB := n4_; clear n0_ n1_ n2_ n3_ n4_; (try clear hb); (try clear hb2); (try clear hk); (try clear hi); (try clear ho0); obtain ⟨Ao78, co78, eo78⟩ := Kd.R_slice HO105.out; subst eo78))
   go_ret
   exact ⟨by first | rfl | (simp [errW_none, errW_some] <;> rfl) | (simp [*, errW_none, errW_some] <;> rfl), by repeat (first | (with_reducible first | exact HB.out | apply below_alloc | apply pw_below_drewN | apply below_drew1) | exact HB.out)⟩
 ·rw [if_neg c5] at H; have c5b0 : ((t101.length : Int) == 4) = false := beq_eq_false_iff_ne.mpr c5
  have c5b1 : ((t101.length : Int) != 4) = true := bne_iff_ne.mpr c5
  obtain rfl := Option.some.inj H; go_enter Tryd.func10, Tryd.ntmps10
  go_wp2_with (first | ((with_reducible refine gate_callee (f := 11) rfl ?_); refine goesL_ (some 14) rfl rfl Tryd.func11 (by kernel_rfl) rfl #[.string (⟨#[97, 62, 62, 62, 61, 98]⟩ : ByteArray)] rfl (by (try simp only [List.map_toArray, List.map_cons, List.map_nil]); first | done | rfl | (simp only [List.length_drop, List.length_take]; rfl)) ?_; (with_reducible refine (lex_Tokens.calls k (⟨#[97, 62, 62, 62, 61, 98]⟩ : ByteArray) t101 t102 t103 _ A1.out ?hTab).mono ?_); (case hTab => exact HT.out.below (by repeat (first | (with_reducible first | exact HB.out | apply below_alloc | apply pw_below_drewN | apply below_drew1) | exact HB.out))); rintro e w79 ⟨v104, rfl, ho0, hb⟩; refine ⟨_, rfl, ?_⟩; have n0_ := Aside0.mk (Kd.R_lower ho0 (below_size (by repeat (first | (with_reducible first | exact HB.out | apply below_alloc | apply pw_below_drewN | apply below_drew1) | exact HB.out)))); have n1_ := Aside0.mk (below_step (by repeat (first | (with_reducible first | exact HB.out | apply below_alloc | apply pw_below_drewN | apply below_drew1) | exact HB.out)) hb); clear HB; have HO105 := n0_; have HB := n1_; clear n0_ n1_; (try clear hb); (try clear hb2); (try clear hk); (try clear hi); (try clear ho0)) | ((with_reducible refine gate_callee (f := 11) rfl ?_); refine goesL_ (some 19) rfl rfl Tryd.func11 (by kernel_rfl) rfl #[.string (⟨#[108, 101, 116, 32, 120, 49, 32, 61, 32, 49, 48, 59, 32, 35, 32, 116, 101, 110]⟩ : ByteArray)] rfl (by (try simp only [List.map_toArray, List.map_cons, List.map_nil]); first | done | rfl | (simp only [List.length_drop, List.length_take]; rfl)) ?_; (with_reducible refine (lex_Tokens.calls k (⟨#[108, 101, 116, 32, 120, 49, 32, 61, 32, 49, 48, 59, 32, 35, 32, 116, 101, 110]⟩ : ByteArray) t106 t107 t108 _ A2.out ?hTab).mono ?_); (case hTab => exact HT.out.below (by repeat (first | (with_reducible first | exact HB.out | apply below_alloc | apply pw_below_drewN | apply below_drew1) | exact HB.out))); rintro e w80 ⟨v109, rfl, ho0, hb⟩; refine ⟨_, rfl, ?_⟩; have n0_ := Aside0.mk (Kd.R_elder' (by (with_reducible repeat (first | apply Kd.R_alloc | apply Kd.R_drewN | apply Kd.R_drew)); exact HO105.out) (Kd.R_base ho0) hb); have n1_ := Aside0.mk (Kd.R_lower (Kd.R_new' ho0 (Kd.R_lt (by (with_reducible repeat (first | apply Kd.R_alloc | apply Kd.R_drewN | apply Kd.R_drew)); exact HO105.out))) (below_size (by repeat (first | (with_reducible first | exact HB.out | apply below_alloc | apply pw_below_drewN | apply below_drew1) | exact HB.out)))); have n2_ := Aside0.mk (below_step (by repeat (first | (with_reducible first | exact HB.out | apply below_alloc | apply pw_below_drewN | apply below_drew1) | exact HB.out)) hb); clear HO105; clear HB; have HO105 := n0_; have HO110 := n1_; have HB := n2_; clear n0_ n1_ n2_; (try clear hb); (try clear hb2); (try clear hk); (try clear hi); (try clear ho0)) | ((with_reducible refine gate_callee (f := 11) rfl ?_); refine goesL_ (some 24) rfl rfl Tryd.func11 (by kernel_rfl) rfl #[.string (⟨#[49, 50, 97]⟩ : ByteArray)] rfl (by (try simp only [List.map_toArray, List.map_cons, List.map_nil]); first | done | rfl | (simp only [List.length_drop, List.length_take]; rfl)) ?_; (with_reducible refine (lex_Tokens.calls k (⟨#[49, 50, 97]⟩ : ByteArray) t111 t112 t113 _ A3.out ?hTab).mono ?_); (case hTab => exact HT.out.below (by repeat (first | (with_reducible first | exact HB.out | apply below_alloc | apply pw_below_drewN | apply below_drew1) | exact HB.out))); rintro e w81 ⟨v114, rfl, ho0, hb⟩; refine ⟨_, rfl, ?_⟩; have n0_ := Aside0.mk (Kd.R_elder' (by (with_reducible repeat (first | apply Kd.R_alloc | apply Kd.R_drewN | apply Kd.R_drew)); exact HO105.out) (Kd.R_base ho0) hb); have n1_ := Aside0.mk (Kd.R_elder' (by (with_reducible repeat (first | apply Kd.R_alloc | apply Kd.R_drewN | apply Kd.R_drew)); exact HO110.out) (Kd.R_base ho0) hb); have n2_ := Aside0.mk (Kd.R_lower (Kd.R_new' (Kd.R_new' ho0 (Kd.R_lt (by (with_reducible repeat (first | apply Kd.R_alloc | apply Kd.R_drewN | apply Kd.R_drew)); exact HO105.out))) (Kd.R_lt (by (with_reducible repeat (first | apply Kd.R_alloc | apply Kd.R_drewN | apply Kd.R_drew)); exact HO110.out))) (below_size (by repeat (first | (with_reducible first | exact HB.out | apply below_alloc | apply pw_below_drewN | apply below_drew1) | exact HB.out)))); have n3_ := Aside0.mk (below_step (by repeat (first | (with_reducible first | exact HB.out | apply below_alloc | apply pw_below_drewN | apply below_drew1) | exact HB.out)) hb); clear HO105; clear HO110; clear HB; have HO105 := n0_; have HO110 := n1_; have HO115 := n2_; have HB := n3_; clear n0_ n1_ n2_ n3_; (try clear hb); (try clear hb2); (try clear hk); (try clear hi); (try clear ho0)) | ((with_reducible refine gate_callee (f := 11) rfl ?_); refine goesL_ (some 29) rfl rfl Tryd.func11 (by kernel_rfl) rfl #[.string (⟨#[36]⟩ : ByteArray)] rfl (by (try simp only [List.map_toArray, List.map_cons, List.map_nil]); first | done | rfl | (simp only [List.length_drop, List.length_take]; rfl)) ?_; (with_reducible refine (lex_Tokens.calls k (⟨#[36]⟩ : ByteArray) t116 t117 t118 _ A4.out ?hTab).mono ?_); (case hTab => exact HT.out.below (by repeat (first | (with_reducible first | exact HB.out | apply below_alloc | apply pw_below_drewN | apply below_drew1) | exact HB.out))); rintro e w82 ⟨v119, rfl, ho0, hb⟩; refine ⟨_, rfl, ?_⟩; have n0_ := Aside0.mk (Kd.R_elder' (by (with_reducible repeat (first | apply Kd.R_alloc | apply Kd.R_drewN | apply Kd.R_drew)); exact HO105.out) (Kd.R_base ho0) hb); have n1_ := Aside0.mk (Kd.R_elder' (by (with_reducible repeat (first | apply Kd.R_alloc | apply Kd.R_drewN | apply Kd.R_drew)); exact HO110.out) (Kd.R_base ho0) hb); have n2_ := Aside0.mk (Kd.R_elder' (by (with_reducible repeat (first | apply Kd.R_alloc | apply Kd.R_drewN | apply Kd.R_drew)); exact HO115.out) (Kd.R_base ho0) hb); have n3_ := Aside0.mk (Kd.R_lower (Kd.R_new' (Kd.R_new' (Kd.R_new' ho0 (Kd.R_lt (by (with_reducible repeat (first | apply Kd.R_alloc | apply Kd.R_drewN | apply Kd.R_drew)); exact HO105.out))) (Kd.R_lt (by (with_reducible repeat (first | apply Kd.R_alloc | apply Kd.R_drewN | apply Kd.R_drew)); exact HO110.out))) (Kd.R_lt (by (with_reducible repeat (first | apply Kd.R_alloc | apply Kd.R_drewN | apply Kd.R_drew)); exact HO115.out))) (below_size (by repeat (first | (with_reducible first | exact HB.out | apply below_alloc | apply pw_below_drewN | apply below_drew1) | exact HB.out)))); have n4_ := Aside0.mk (below_step (by repeat (first | (with_reducible first | exact HB.out | apply below_alloc | apply pw_below_drewN | apply below_drew1) | exact HB.out)) hb); clear HO105; clear HO110; clear HO115; clear HB; have HO105 := n0_; have HO110 := n1_; have HO115 := n2_; have HO120 := n3_; have HB := n4_; clear n0_ n1_ n2_ n3_ n4_; (try clear hb); (try clear hb2); (try clear hk); (try clear hi); (try clear ho0); obtain ⟨Ao83, co83, eo83⟩ := Kd.R_slice HO105.out; subst eo83))
  go_ret
  exact ⟨by first | rfl | (simp [errW_none, errW_some] <;> rfl) | (simp [*, errW_none, errW_some] <;> rfl), by repeat (first | (with_reducible first | exact HB.out | apply below_alloc | apply pw_below_drewN | apply below_drew1) | exact HB.out)⟩
def l2_LexTokens.f (k : Nat) (a0 : ByteArray) : Option (Bool) := if (a0.size : Int) > 6000 then ((l2_awake.f k).bind fun t125 => (some t125)) else ((lex_Tokens.f k a0).bind fun bt126 => ((r2_Tokens.f k a0).bind fun bt131 => ((r2_Same.f k bt126.1 bt131.1 true).bind fun t136 => (if t136 = true then (if bt126.2.1 = bt131.2.1 then (if bt126.2.2 = bt131.2.2 then ((l2_awake.f k).bind fun t137 => (some t137)) else (some false)) else (some false)) else (some false)))))
set_option maxHeartbeats 8000000 in
set_option maxRecDepth 100000 in
theorem l2_LexTokens.calls (k : Nat) (a0 : ByteArray) (r : Bool) (w : World) (h : l2_LexTokens.f k a0 = some r) (hT : Tab w) :
  Calls Tryd.prog 3 #[.string a0] w fun e w' => e = .returned (.bool r) ∧ Below w.heap.size w w' := by
 have HT := Aside0.mk hT; clear hT; have HB := Aside0.mk (Below.refl w.heap.size w); have H : (if (a0.size : Int) > 6000 then ((l2_awake.f k).bind fun t125 => (some t125)) else ((lex_Tokens.f k a0).bind fun bt126 => ((r2_Tokens.f k a0).bind fun bt131 => ((r2_Same.f k bt126.1 bt131.1 true).bind fun t136 => (if t136 = true then (if bt126.2.1 = bt131.2.1 then (if bt126.2.2 = bt131.2.2 then ((l2_awake.f k).bind fun t137 => (some t137)) else (some false)) else (some false)) else (some false)))))) = some r := h
 clear h; by_cases c2 : (a0.size : Int) > 6000
 ·rw [if_pos c2] at H; have c2b0 : decide (6000 < (a0.size : Int)) = true := decide_eq_true c2
  have c2b1 : decide (6000 < a0.size) = true := decide_eq_true (by omega)
  clear c2; replace H := Option.bind_eq_some_iff.mp H; obtain ⟨t125, A30, H⟩ := H; replace H : (some t125) = some r := H; have A3 := Aside0.mk A30; clear A30; obtain rfl := Option.some.inj H; go_enter Tryd.func3, Tryd.ntmps3
  go_wp2_with (first | ((with_reducible refine gate_callee (f := 10) rfl ?_); refine goesL_ (some 12) rfl rfl Tryd.func10 (by kernel_rfl) rfl #[] rfl (by (try simp only [List.map_toArray, List.map_cons, List.map_nil]); first | done | rfl | (simp only [List.length_drop, List.length_take]; rfl)) ?_; (with_reducible refine (l2_awake.calls k t125 _ A3.out ?hTab).mono ?_); (case hTab => exact HT.out.below (by repeat (first | (with_reducible first | exact HB.out | apply below_alloc | apply pw_below_drewN | apply below_drew1) | exact HB.out))); rintro e w4 ⟨rfl, hb⟩; refine ⟨_, rfl, ?_⟩; have n0_ := Aside0.mk (below_step (by repeat (first | (with_reducible first | exact HB.out | apply below_alloc | apply pw_below_drewN | apply below_drew1) | exact HB.out)) hb); clear HB; have HB := n0_; clear n0_; (try clear hb); (try clear hb2); (try clear hk); (try clear hi)))
  go_ret
  exact ⟨by first | rfl | (simp [errW_none, errW_some] <;> rfl) | (simp [*, errW_none, errW_some] <;> rfl), by repeat (first | (with_reducible first | exact HB.out | apply below_alloc | apply pw_below_drewN | apply below_drew1) | exact HB.out)⟩
 ·rw [if_neg c2] at H; have c2b0 : decide (6000 < (a0.size : Int)) = false := decide_eq_false c2
  have c2b1 : decide (6000 < a0.size) = false := decide_eq_false (by omega)
  clear c2; replace H := Option.bind_eq_some_iff.mp H; obtain ⟨⟨t126, t127, t128⟩, A50, H⟩ := H; replace H : ((r2_Tokens.f k a0).bind fun bt131 => ((r2_Same.f k t126 bt131.1 true).bind fun t136 => (if t136 = true then (if t127 = bt131.2.1 then (if t128 = bt131.2.2 then ((l2_awake.f k).bind fun t137 => (some t137)) else (some false)) else (some false)) else (some false)))) = some r := H
  have A5 := Aside0.mk A50; clear A50; replace H := Option.bind_eq_some_iff.mp H; obtain ⟨⟨t131, t132, t133⟩, A60, H⟩ := H; replace H : ((r2_Same.f k t126 t131 true).bind fun t136 => (if t136 = true then (if t127 = t132 then (if t128 = t133 then ((l2_awake.f k).bind fun t137 => (some t137)) else (some false)) else (some false)) else (some false))) = some r := H
  have A6 := Aside0.mk A60; clear A60; replace H := Option.bind_eq_some_iff.mp H; obtain ⟨t136, A70, H⟩ := H; replace H : (if t136 = true then (if t127 = t132 then (if t128 = t133 then ((l2_awake.f k).bind fun t137 => (some t137)) else (some false)) else (some false)) else (some false)) = some r := H
  have A7 := Aside0.mk A70; clear A70; by_cases c8 : t136 = true
  ·subst c8; have H1 : (if t127 = t132 then (if t128 = t133 then ((l2_awake.f k).bind fun t137 => (some t137)) else (some false)) else (some false)) = some r := by rw [if_pos rfl] at H; exact H
   clear H; have H := H1; clear H1; by_cases c9 : t127 = t132
   ·rw [if_pos c9] at H; have c9b0 : (t127 == t132) = true := beq_iff_eq.mpr c9
    have c9b1 : (t127 != t132) = false := bne_eq_false_iff_eq.mpr c9
    clear c9; by_cases c10 : t128 = t133
    ·rw [if_pos c10] at H; have c10b0 : (t128 == t133) = true := beq_iff_eq.mpr c10
     have c10b1 : (t128 != t133) = false := bne_eq_false_iff_eq.mpr c10
     clear c10; replace H := Option.bind_eq_some_iff.mp H; obtain ⟨t137, A110, H⟩ := H; replace H : (some t137) = some r := H; have A11 := Aside0.mk A110; clear A110; obtain rfl := Option.some.inj H; go_enter Tryd.func3, Tryd.ntmps3
     go_wp2_with (first | ((with_reducible refine gate_callee (f := 11) rfl ?_); refine goesL_ (some 15) rfl rfl Tryd.func11 (by kernel_rfl) rfl #[.string a0] rfl (by (try simp only [List.map_toArray, List.map_cons, List.map_nil]); first | done | rfl | (simp only [List.length_drop, List.length_take]; rfl)) ?_; (with_reducible refine (lex_Tokens.calls k a0 t126 t127 t128 _ A5.out ?hTab).mono ?_); (case hTab => exact HT.out.below (by repeat (first | (with_reducible first | exact HB.out | apply below_alloc | apply pw_below_drewN | apply below_drew1) | exact HB.out))); rintro e w12 ⟨v129, rfl, ho0, hb⟩; refine ⟨_, rfl, ?_⟩; have n0_ := Aside0.mk (Kd.R_lower ho0 (below_size (by repeat (first | (with_reducible first | exact HB.out | apply below_alloc | apply pw_below_drewN | apply below_drew1) | exact HB.out)))); have n1_ := Aside0.mk (below_step (by repeat (first | (with_reducible first | exact HB.out | apply below_alloc | apply pw_below_drewN | apply below_drew1) | exact HB.out)) hb); clear HB; have HO130 := n0_; have HB := n1_; clear n0_ n1_; (try clear hb); (try clear hb2); (try clear hk); (try clear hi); (try clear ho0)) | ((with_reducible refine gate_callee (f := 12) rfl ?_); refine goesL_ (some 21) rfl rfl Tryd.func12 (by kernel_rfl) rfl #[.string a0] rfl (by (try simp only [List.map_toArray, List.map_cons, List.map_nil]); first | done | rfl | (simp only [List.length_drop, List.length_take]; rfl)) ?_; (with_reducible refine (r2_Tokens.calls k a0 t131 t132 t133 _ A6.out).mono ?_); rintro e w13 ⟨v134, rfl, ho0, hb⟩; refine ⟨_, rfl, ?_⟩; have n0_ := Aside0.mk (Kd.R_elder' (by (with_reducible repeat (first | apply Kd.R_alloc | apply Kd.R_drewN | apply Kd.R_drew)); exact HO130.out) (Kd.R_base ho0) hb); have n1_ := Aside0.mk (Kd.R_lower (Kd.R_new' ho0 (Kd.R_lt (by (with_reducible repeat (first | apply Kd.R_alloc | apply Kd.R_drewN | apply Kd.R_drew)); exact HO130.out))) (below_size (by repeat (first | (with_reducible first | exact HB.out | apply below_alloc | apply pw_below_drewN | apply below_drew1) | exact HB.out)))); have n2_ := Aside0.mk (below_step (by repeat (first | (with_reducible first | exact HB.out | apply below_alloc | apply pw_below_drewN | apply below_drew1) | exact HB.out)) hb); clear HO130; clear HB; have HO130 := n0_; have HO135 := n1_; have HB := n2_; clear n0_ n1_ n2_; (try clear hb); (try clear hb2); (try clear hk); (try clear hi); (try clear ho0); obtain ⟨Ao14, co14, eo14⟩ := Kd.R_slice HO130.out; subst eo14; obtain ⟨Ao15, co15, eo15⟩ := Kd.R_slice HO135.out; subst eo15) | ((with_reducible refine gate_callee (f := 13) rfl ?_); refine goesL_ (some 27) rfl rfl Tryd.func13 (by kernel_rfl) rfl #[.slice Ao14 t126.length co14, .slice Ao15 t131.length co15, .bool true] rfl (by (try simp only [List.map_toArray, List.map_cons, List.map_nil]); first | done | rfl | (simp only [List.length_drop, List.length_take]; rfl)) ?_; (with_reducible refine (r2_Same.calls k _ _ t126 _ _ t131 true true _ ?side1 ?side2 ?side3 ?side4 A7.out).mono ?_); (case side1 => repeat (first | exact (Kd.R_reads' HO130.out).2.2 | with_reducible first | refine Kd.C_alloc ?_ _ | refine Kd.C_drewN ?_ _ | refine Kd.C_drew ?_)); (case side2 => exact (Kd.R_reads' HO130.out).2.1); (case side3 => repeat (first | exact (Kd.R_reads' HO135.out).2.2 | with_reducible first | refine Kd.C_alloc ?_ _ | refine Kd.C_drewN ?_ _ | refine Kd.C_drew ?_)); (case side4 => exact (Kd.R_reads' HO135.out).2.1); rintro e w' ⟨rfl, ⟨nd, rfl⟩⟩; refine ⟨_, rfl, ?_⟩) | (go_at_call 10; (with_reducible refine (l2_awake.calls k t137 _ A11.out ?hTab).mono ?_); (case hTab => exact HT.out.below (by repeat (first | (with_reducible first | exact HB.out | apply below_alloc | apply pw_below_drewN | apply below_drew1) | exact HB.out))); rintro e w16 ⟨rfl, hb⟩; have n0_ := Aside0.mk (Kd.R_below (by (with_reducible repeat (first | apply Kd.R_alloc | apply Kd.R_drewN | apply Kd.R_drew)); exact HO130.out) hb); have n1_ := Aside0.mk (Kd.R_below (by (with_reducible repeat (first | apply Kd.R_alloc | apply Kd.R_drewN | apply Kd.R_drew)); exact HO135.out) hb); have n2_ := Aside0.mk (below_step (by repeat (first | (with_reducible first | exact HB.out | apply below_alloc | apply pw_below_drewN | apply below_drew1) | exact HB.out)) hb); clear HO130; clear HO135; clear HB; have HO130 := n0_; have HO135 := n1_; have HB := n2_; clear n0_ n1_ n2_; (try clear hb); (try clear hb2); (try clear hk); (try clear hi)))
     go_ret
     exact ⟨by first | rfl | (simp [errW_none, errW_some] <;> rfl) | (simp [*, errW_none, errW_some] <;> rfl), by repeat (first | (with_reducible first | exact HB.out | apply below_alloc | apply pw_below_drewN | apply below_drew1) | exact HB.out)⟩
    ·rw [if_neg c10] at H; have c10b0 : (t128 == t133) = false := beq_eq_false_iff_ne.mpr c10
     have c10b1 : (t128 != t133) = true := bne_iff_ne.mpr c10
     obtain rfl := Option.some.inj H; go_enter Tryd.func3, Tryd.ntmps3
     go_wp2_with (first | ((with_reducible refine gate_callee (f := 11) rfl ?_); refine goesL_ (some 15) rfl rfl Tryd.func11 (by kernel_rfl) rfl #[.string a0] rfl (by (try simp only [List.map_toArray, List.map_cons, List.map_nil]); first | done | rfl | (simp only [List.length_drop, List.length_take]; rfl)) ?_; (with_reducible refine (lex_Tokens.calls k a0 t126 t127 t128 _ A5.out ?hTab).mono ?_); (case hTab => exact HT.out.below (by repeat (first | (with_reducible first | exact HB.out | apply below_alloc | apply pw_below_drewN | apply below_drew1) | exact HB.out))); rintro e w17 ⟨v129, rfl, ho0, hb⟩; refine ⟨_, rfl, ?_⟩; have n0_ := Aside0.mk (Kd.R_lower ho0 (below_size (by repeat (first | (with_reducible first | exact HB.out | apply below_alloc | apply pw_below_drewN | apply below_drew1) | exact HB.out)))); have n1_ := Aside0.mk (below_step (by repeat (first | (with_reducible first | exact HB.out | apply below_alloc | apply pw_below_drewN | apply below_drew1) | exact HB.out)) hb); clear HB; have HO130 := n0_; have HB := n1_; clear n0_ n1_; (try clear hb); (try clear hb2); (try clear hk); (try clear hi); (try clear ho0)) | ((with_reducible refine gate_callee (f := 12) rfl ?_); refine goesL_ (some 21) rfl rfl Tryd.func12 (by kernel_rfl) rfl #[.string a0] rfl (by (try simp only [List.map_toArray, List.map_cons, List.map_nil]); first | done | rfl | (simp only [List.length_drop, List.length_take]; rfl)) ?_; (with_reducible refine (r2_Tokens.calls k a0 t131 t132 t133 _ A6.out).mono ?_); rintro e w18 ⟨v134, rfl, ho0, hb⟩; refine ⟨_, rfl, ?_⟩; have n0_ := Aside0.mk (Kd.R_elder' (by (with_reducible repeat (first | apply Kd.R_alloc | apply Kd.R_drewN | apply Kd.R_drew)); exact HO130.out) (Kd.R_base ho0) hb); have n1_ := Aside0.mk (Kd.R_lower (Kd.R_new' ho0 (Kd.R_lt (by (with_reducible repeat (first | apply Kd.R_alloc | apply Kd.R_drewN | apply Kd.R_drew)); exact HO130.out))) (below_size (by repeat (first | (with_reducible first | exact HB.out | apply below_alloc | apply pw_below_drewN | apply below_drew1) | exact HB.out)))); have n2_ := Aside0.mk (below_step (by repeat (first | (with_reducible first | exact HB.out | apply below_alloc | apply pw_below_drewN | apply below_drew1) | exact HB.out)) hb); clear HO130; clear HB; have HO130 := n0_; have HO135 := n1_; have HB := n2_; clear n0_ n1_ n2_; (try clear hb); (try clear hb2); (try clear hk); (try clear hi); (try clear ho0); obtain ⟨Ao19, co19, eo19⟩ := Kd.R_slice HO130.out; subst eo19; obtain ⟨Ao20, co20, eo20⟩ := Kd.R_slice HO135.out; subst eo20) | ((with_reducible refine gate_callee (f := 13) rfl ?_); refine goesL_ (some 27) rfl rfl Tryd.func13 (by kernel_rfl) rfl #[.slice Ao19 t126.length co19, .slice Ao20 t131.length co20, .bool true] rfl (by (try simp only [List.map_toArray, List.map_cons, List.map_nil]); first | done | rfl | (simp only [List.length_drop, List.length_take]; rfl)) ?_; (with_reducible refine (r2_Same.calls k _ _ t126 _ _ t131 true true _ ?side1 ?side2 ?side3 ?side4 A7.out).mono ?_); (case side1 => repeat (first | exact (Kd.R_reads' HO130.out).2.2 | with_reducible first | refine Kd.C_alloc ?_ _ | refine Kd.C_drewN ?_ _ | refine Kd.C_drew ?_)); (case side2 => exact (Kd.R_reads' HO130.out).2.1); (case side3 => repeat (first | exact (Kd.R_reads' HO135.out).2.2 | with_reducible first | refine Kd.C_alloc ?_ _ | refine Kd.C_drewN ?_ _ | refine Kd.C_drew ?_)); (case side4 => exact (Kd.R_reads' HO135.out).2.1); rintro e w' ⟨rfl, ⟨nd, rfl⟩⟩; refine ⟨_, rfl, ?_⟩))
     go_ret
     exact ⟨by first | rfl | (simp [errW_none, errW_some] <;> rfl) | (simp [*, errW_none, errW_some] <;> rfl), by repeat (first | (with_reducible first | exact HB.out | apply below_alloc | apply pw_below_drewN | apply below_drew1) | exact HB.out)⟩
   ·rw [if_neg c9] at H; have c9b0 : (t127 == t132) = false := beq_eq_false_iff_ne.mpr c9
    have c9b1 : (t127 != t132) = true := bne_iff_ne.mpr c9
    obtain rfl := Option.some.inj H; go_enter Tryd.func3, Tryd.ntmps3
    go_wp2_with (first | ((with_reducible refine gate_callee (f := 11) rfl ?_); refine goesL_ (some 15) rfl rfl Tryd.func11 (by kernel_rfl) rfl #[.string a0] rfl (by (try simp only [List.map_toArray, List.map_cons, List.map_nil]); first | done | rfl | (simp only [List.length_drop, List.length_take]; rfl)) ?_; (with_reducible refine (lex_Tokens.calls k a0 t126 t127 t128 _ A5.out ?hTab).mono ?_); (case hTab => exact HT.out.below (by repeat (first | (with_reducible first | exact HB.out | apply below_alloc | apply pw_below_drewN | apply below_drew1) | exact HB.out))); rintro e w21 ⟨v129, rfl, ho0, hb⟩; refine ⟨_, rfl, ?_⟩; have n0_ := Aside0.mk (Kd.R_lower ho0 (below_size (by repeat (first | (with_reducible first | exact HB.out | apply below_alloc | apply pw_below_drewN | apply below_drew1) | exact HB.out)))); have n1_ := Aside0.mk (below_step (by repeat (first | (with_reducible first | exact HB.out | apply below_alloc | apply pw_below_drewN | apply below_drew1) | exact HB.out)) hb); clear HB; have HO130 := n0_; have HB := n1_; clear n0_ n1_; (try clear hb); (try clear hb2); (try clear hk); (try clear hi); (try clear ho0)) | ((with_reducible refine gate_callee (f := 12) rfl ?_); refine goesL_ (some 21) rfl rfl Tryd.func12 (by kernel_rfl) rfl #[.string a0] rfl (by (try simp only [List.map_toArray, List.map_cons, List.map_nil]); first | done | rfl | (simp only [List.length_drop, List.length_take]; rfl)) ?_; (with_reducible refine (r2_Tokens.calls k a0 t131 t132 t133 _ A6.out).mono ?_); rintro e w22 ⟨v134, rfl, ho0, hb⟩; refine ⟨_, rfl, ?_⟩; have n0_ := Aside0.mk (Kd.R_elder' (by (with_reducible repeat (first | apply Kd.R_alloc | apply Kd.R_drewN | apply Kd.R_drew)); exact HO130.out) (Kd.R_base ho0) hb); have n1_ := Aside0.mk (Kd.R_lower (Kd.R_new' ho0 (Kd.R_lt (by (with_reducible repeat (first | apply Kd.R_alloc | apply Kd.R_drewN | apply Kd.R_drew)); exact HO130.out))) (below_size (by repeat (first | (with_reducible first | exact HB.out | apply below_alloc | apply pw_below_drewN | apply below_drew1) | exact HB.out)))); have n2_ := Aside0.mk (below_step (by repeat (first | (with_reducible first | exact HB.out | apply below_alloc | apply pw_below_drewN | apply below_drew1) | exact HB.out)) hb); clear HO130; clear HB; have HO130 := n0_; have HO135 := n1_; have HB := n2_; clear n0_ n1_ n2_; (try clear hb); (try clear hb2); (try clear hk); (try clear hi); (try clear ho0); obtain ⟨Ao23, co23, eo23⟩ := Kd.R_slice HO130.out; subst eo23; obtain ⟨Ao24, co24, eo24⟩ := Kd.R_slice HO135.out; subst eo24) | ((with_reducible refine gate_callee (f := 13) rfl ?_); refine goesL_ (some 27) rfl rfl Tryd.func13 (by kernel_rfl) rfl #[.slice Ao23 t126.length co23, .slice Ao24 t131.length co24, .bool true] rfl (by (try simp only [List.map_toArray, List.map_cons, List.map_nil]); first | done | rfl | (simp only [List.length_drop, List.length_take]; rfl)) ?_; (with_reducible refine (r2_Same.calls k _ _ t126 _ _ t131 true true _ ?side1 ?side2 ?side3 ?side4 A7.out).mono ?_); (case side1 => repeat (first | exact (Kd.R_reads' HO130.out).2.2 | with_reducible first | refine Kd.C_alloc ?_ _ | refine Kd.C_drewN ?_ _ | refine Kd.C_drew ?_)); (case side2 => exact (Kd.R_reads' HO130.out).2.1); (case side3 => repeat (first | exact (Kd.R_reads' HO135.out).2.2 | with_reducible first | refine Kd.C_alloc ?_ _ | refine Kd.C_drewN ?_ _ | refine Kd.C_drew ?_)); (case side4 => exact (Kd.R_reads' HO135.out).2.1); rintro e w' ⟨rfl, ⟨nd, rfl⟩⟩; refine ⟨_, rfl, ?_⟩))
    go_ret
    exact ⟨by first | rfl | (simp [errW_none, errW_some] <;> rfl) | (simp [*, errW_none, errW_some] <;> rfl), by repeat (first | (with_reducible first | exact HB.out | apply below_alloc | apply pw_below_drewN | apply below_drew1) | exact HB.out)⟩
  ·replace c8 := Bool.eq_false_iff.mpr c8; subst c8; have H1 : (some false) = some r := by rw [if_neg (show ¬ (false = true) by decide)] at H; exact H
   clear H; have H := H1; clear H1; obtain rfl := Option.some.inj H; go_enter Tryd.func3, Tryd.ntmps3
   go_wp2_with (first | ((with_reducible refine gate_callee (f := 11) rfl ?_); refine goesL_ (some 15) rfl rfl Tryd.func11 (by kernel_rfl) rfl #[.string a0] rfl (by (try simp only [List.map_toArray, List.map_cons, List.map_nil]); first | done | rfl | (simp only [List.length_drop, List.length_take]; rfl)) ?_; (with_reducible refine (lex_Tokens.calls k a0 t126 t127 t128 _ A5.out ?hTab).mono ?_); (case hTab => exact HT.out.below (by repeat (first | (with_reducible first | exact HB.out | apply below_alloc | apply pw_below_drewN | apply below_drew1) | exact HB.out))); rintro e w25 ⟨v129, rfl, ho0, hb⟩; refine ⟨_, rfl, ?_⟩; have n0_ := Aside0.mk (Kd.R_lower ho0 (below_size (by repeat (first | (with_reducible first | exact HB.out | apply below_alloc | apply pw_below_drewN | apply below_drew1) | exact HB.out)))); have n1_ := Aside0.mk (below_step (by repeat (first | (with_reducible first | exact HB.out | apply below_alloc | apply pw_below_drewN | apply below_drew1) | exact HB.out)) hb); clear HB; have HO130 := n0_; have HB := n1_; clear n0_ n1_; (try clear hb); (try clear hb2); (try clear hk); (try clear hi); (try clear ho0)) | ((with_reducible refine gate_callee (f := 12) rfl ?_); refine goesL_ (some 21) rfl rfl Tryd.func12 (by kernel_rfl) rfl #[.string a0] rfl (by (try simp only [List.map_toArray, List.map_cons, List.map_nil]); first | done | rfl | (simp only [List.length_drop, List.length_take]; rfl)) ?_; (with_reducible refine (r2_Tokens.calls k a0 t131 t132 t133 _ A6.out).mono ?_); rintro e w26 ⟨v134, rfl, ho0, hb⟩; refine ⟨_, rfl, ?_⟩; have n0_ := Aside0.mk (Kd.R_elder' (by (with_reducible repeat (first | apply Kd.R_alloc | apply Kd.R_drewN | apply Kd.R_drew)); exact HO130.out) (Kd.R_base ho0) hb); have n1_ := Aside0.mk (Kd.R_lower (Kd.R_new' ho0 (Kd.R_lt (by (with_reducible repeat (first | apply Kd.R_alloc | apply Kd.R_drewN | apply Kd.R_drew)); exact HO130.out))) (below_size (by repeat (first | (with_reducible first | exact HB.out | apply below_alloc | apply pw_below_drewN | apply below_drew1) | exact HB.out)))); have n2_ := Aside0.mk (below_step (by repeat (first | (with_reducible first | exact HB.out | apply below_alloc | apply pw_below_drewN | apply below_drew1) | exact HB.out)) hb); clear HO130; clear HB; have HO130 := n0_; have HO135 := n1_; have HB := n2_; clear n0_ n1_ n2_; (try clear hb); (try clear hb2); (try clear hk); (try clear hi); (try clear ho0); obtain ⟨Ao27, co27, eo27⟩ := Kd.R_slice HO130.out; subst eo27; obtain ⟨Ao28, co28, eo28⟩ := Kd.R_slice HO135.out; subst eo28) | ((with_reducible refine gate_callee (f := 13) rfl ?_); refine goesL_ (some 27) rfl rfl Tryd.func13 (by kernel_rfl) rfl #[.slice Ao27 t126.length co27, .slice Ao28 t131.length co28, .bool true] rfl (by (try simp only [List.map_toArray, List.map_cons, List.map_nil]); first | done | rfl | (simp only [List.length_drop, List.length_take]; rfl)) ?_; (with_reducible refine (r2_Same.calls k _ _ t126 _ _ t131 true false _ ?side1 ?side2 ?side3 ?side4 A7.out).mono ?_); (case side1 => repeat (first | exact (Kd.R_reads' HO130.out).2.2 | with_reducible first | refine Kd.C_alloc ?_ _ | refine Kd.C_drewN ?_ _ | refine Kd.C_drew ?_)); (case side2 => exact (Kd.R_reads' HO130.out).2.1); (case side3 => repeat (first | exact (Kd.R_reads' HO135.out).2.2 | with_reducible first | refine Kd.C_alloc ?_ _ | refine Kd.C_drewN ?_ _ | refine Kd.C_drew ?_)); (case side4 => exact (Kd.R_reads' HO135.out).2.1); rintro e w' ⟨rfl, ⟨nd, rfl⟩⟩; refine ⟨_, rfl, ?_⟩))
   go_ret
   exact ⟨by first | rfl | (simp [errW_none, errW_some] <;> rfl) | (simp [*, errW_none, errW_some] <;> rfl), by repeat (first | (with_reducible first | exact HB.out | apply below_alloc | apply pw_below_drewN | apply below_drew1) | exact HB.out)⟩
end Go.Proofs.YtplcemlennloaaaDoor.C
end
section
namespace Go.Proofs.YtplcemlennloaaaDoor.M
open Go Go.RowKit Go.Proofs.YtplcemlennloaaaDoorW.PrintWords Go.Proofs.YtplcemlennloaaaDoorW.PrintLast Go.Proofs.YtplcemlennloaaaDoorW.PrintMore Go.Proofs.YtplcemlennloaaaDoor.A Go.Proofs.YtplcemlennloaaaDoor.B Go.Proofs.YtplcemlennloaaaDoor.S Go.Proofs.YtplcemlennloaaaDoor.N Go.Proofs.YtplcemlennloaaaDoor.C
theorem awake_r : l2_awake.f 60 = some true := by decide +kernel
theorem awake_ev : Evt (fun k => l2_awake.f k) true := Evt.of_mono (fun k => l2_awake.mono k) awake_r
end Go.Proofs.YtplcemlennloaaaDoor.M
end
section
namespace Go.Proofs.YtplcemlennloaaaDoor.M
open Go Go.RowKit Go.Proofs.YtplcemlennloaaaDoorW.PrintWords Go.Proofs.YtplcemlennloaaaDoorW.PrintLast Go.Proofs.YtplcemlennloaaaDoorW.PrintMore Go.Proofs.YtplcemlennloaaaDoor.A Go.Proofs.YtplcemlennloaaaDoor.B Go.Proofs.YtplcemlennloaaaDoor.S Go.Proofs.YtplcemlennloaaaDoor.N Go.Proofs.YtplcemlennloaaaDoor.C
open LexM (letter digit inner gapc value ends one words signs Tk Lx Er)
theorem tokR_len {s : ByteArray} {r : List S30 × Int × Int} (h : TokR s r) (hs : s.size ≤ 100000) : r.1.length ≤ 100000 := by
 rcases h with ⟨_, rfl⟩ | ⟨_, ts, hl, rfl⟩ | ⟨_, e, _, rfl⟩
 ·simp
 ·have := lx_len hl
  rw [bs_len] at this; simp; omega
 ·simp
theorem Pure.LexTokens (a0 : ByteArray) : ∃ k, l2_LexTokens.f k a0 = some true := by
 refine Evt.get (r := true) ?_
 unfold l2_LexTokens.f
 by_cases h : a0.size > 6000
 ·exact Evt.pos (by omega) (Evt.bind awake_ev (Evt.const _))
 ·refine Evt.neg (by omega) ?_
  obtain ⟨r, h1, h2, hr⟩ := tokens_r a0; exact Evt.bind h1 (Evt.bind h2 (Evt.bind (same_self r.1 true (tokR_len hr (by omega))) (Evt.pos rfl (Evt.pos rfl (Evt.pos rfl (Evt.bind awake_ev (Evt.const _)))))))
end Go.Proofs.YtplcemlennloaaaDoor.M
end
