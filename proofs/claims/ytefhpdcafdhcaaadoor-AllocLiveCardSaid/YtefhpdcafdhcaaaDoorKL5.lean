/- Texts of this claim, cut down to what its theorem uses and laid end to end (wip/shake.py). -/
import Derived.ArgAppend
import Derived.Below
import Derived.BigQuiet
import Derived.ChangeOld
import Derived.ChangeVars
import Derived.Deep.AppendLies
import Derived.Deep.CutBlock
import Derived.Deep.DeepCutAuto
import Derived.Deep.Draws
import Derived.Deep.LoopGhost
import Derived.Deep.MidRow
import Derived.Deep.OwnRows
import Derived.Deep.QuietTactic
import Derived.Deep.RegionHeld3
import Derived.Deep.Slices
import Derived.KernelRfl
import Derived.LaidLaws
import Derived.LaidMore
import Derived.Laws.Bits64b
import Derived.Laws.BitsLemmas
import Derived.Laws.BytesArg
import Derived.Laws.CopyRow
import Derived.Laws.IdiomCopy
import Derived.Laws.MakeOwn
import Derived.Laws.OwnMore
import Derived.Laws.Rows
import Derived.Laws.Slices
import Derived.Laws.StructEq
import Derived.Lay
import Derived.Lib.AppendStr
import Derived.Lib.ConvBytes
import Derived.Lib.LaidTab
import Derived.Maps.AppendAt
import Derived.Maps.OwnOps
import Derived.Maps.OwnSet
import Derived.OpenShut
import Derived.OrdersHeld
import Derived.OwnWalk
import Derived.ProofKit
import Derived.RowKit
import Derived.RowKit3
import Derived.SevenTiedAt
import Derived.Shelf.Strings.Fields
import Derived.ShutString
import Derived.SizedLaws
import Derived.Stop.Joined
import Derived.StringKeys
import Derived.Tactics
import Derived.Test.YtefhpdcafdhcaaaDoorCards
import Derived.Test.YtefhpdcafdhcaaaDoorProg
import Derived.Test.YtefhpdcafdhcaaaDoorRows
import Derived.Test.YtefhpdcafdhcaaaDoorTie
import Derived.WalkKit
import Derived.WideLaws
import Derived.Test.YtefhpdcafdhcaaaDoorKL4
set_option linter.unusedSectionVars false
set_option maxHeartbeats 16000000
set_option maxRecDepth 100000
set_option exponentiation.threshold 3000
section
namespace Go.Proofs.YtefhpdcafdhcaaaDoor.S
open Go Go.RowKit Go.Proofs Go.Proofs.YtefhpdcafdhcaaaDoorW.PrintWords Go.Proofs.YtefhpdcafdhcaaaDoorW.PrintLast Go.Proofs.YtefhpdcafdhcaaaDoorW.PrintMore Go.Proofs.YtefhpdcafdhcaaaDoor Go.Proofs.YtefhpdcafdhcaaaDoor.A Go.Proofs.YtefhpdcafdhcaaaDoor.V FlowM
set_option linter.unusedVariables false
set_option linter.unusedSimpArgs false
def allocOK (rg : Int) (N : List S69) : Prop := (0 ≤ rg ∧ rg ≤ 2000) ∧ (0 < N.length ∧ N.length ≤ 1000000) ∧ (∀ n ∈ N, n.f0.length ≤ 1000000) ∧ FineG rg.toNat N
instance (m : Nat) (x : S71) : Decidable (Fine m x) := by unfold Fine; infer_instance
instance (m n : Nat) (x : S69) : Decidable (FineNd m n x) := by unfold FineNd; infer_instance
instance (rg : Int) (N : List S69) : Decidable (allocOK rg N) := by unfold allocOK FineG; infer_instance
def liveR (k : Nat) (a0_0 : ByteArray) (l0_1 : List (S83)) (l0_2 : List (S85)) (a0_3 : Int) (l0_4 : List (S69)) : Option (List Nat) := if allocOK a0_3 l0_4 then (flow_Successors.f k a0_0 l0_1 l0_2 a0_3 l0_4).bind fun p => if p = (l0_4.map next, 0) then liveF l0_4 k (List.replicate l0_4.length 0) else none else none
theorem sweep_len (N : List S69) : ∀ (i : Nat) (I : List Nat) (c : Bool), (sweep N i I c).1.length = I.length
 | 0, _, _ => rfl
 | i + 1, I, c => by
  rw [sweep]; split
  ·exact sweep_len N i I c
  ·rw [sweep_len N i, List.length_set]
theorem liveF_len {N : List S69} : ∀ {k : Nat} {I R : List Nat}, liveF N k I = some R → R.length = I.length
 | 0, _, _, h => by cases h
 | k + 1, I, R, h => by
  rw [liveF] at h; split at h
  ·rw [liveF_len h, sweep_len]
  ·rw [← q_so h, sweep_len]
theorem sweep_lt {m : Nat} {N : List S69} (hF : FineG m N) : ∀ (i : Nat) (I : List Nat) (c : Bool), i ≤ N.length → (∀ s ∈ I, s < 2 ^ m) → ∀ s ∈ (sweep N i I c).1, s < 2 ^ m
 | 0, _, _, _, h => h
 | i + 1, I, c, hi, h => by {
 rw [sweep]; split
 ·exact sweep_lt hF i I c (by omega) h
 {
 refine sweep_lt hF i _ true (by omega) fun s hs => ?_
 rcases List.mem_or_eq_of_mem_set hs with h1 | h1
 ·exact h s h1
 ·rw [h1]; exact transfer_lt (FineG.at hF (by omega)) _ h}}
theorem liveF_lt {m : Nat} {N : List S69} (hF : FineG m N) : ∀ {k : Nat} {I R : List Nat}, (∀ s ∈ I, s < 2 ^ m) → liveF N k I = some R → ∀ s ∈ R, s < 2 ^ m
 | 0, _, _, _, h => by cases h
 | k + 1, I, R, hI, h => by
  rw [liveF] at h; split at h
  ·exact liveF_lt hF (sweep_lt hF _ _ _ (Nat.le_refl _) hI) h
  ·rw [← q_so h]; exact sweep_lt hF _ _ _ (Nat.le_refl _) hI
structure LiveG (k : Nat) (a0_0 : ByteArray) (l0_1 : List (S83)) (l0_2 : List (S85)) (a0_3 : Int) (l0_4 : List (S69)) (R : List Nat) : Prop where
 r0 : 0 ≤ a0_3
 r1 : a0_3 ≤ 2000
 n0 : 0 < l0_4.length
 n1 : l0_4.length ≤ 1000000
 ns : ∀ n ∈ l0_4, n.f0.length ≤ 1000000
 fine : FineG a0_3.toNat l0_4
 succ : flow_Successors.f k a0_0 l0_1 l0_2 a0_3 l0_4 = some (l0_4.map next, 0)
 live : liveF l0_4 k (List.replicate l0_4.length 0) = some R
theorem LiveG.of {k : Nat} {a0_0 : ByteArray} {l0_1 : List (S83)} {l0_2 : List (S85)} {a0_3 : Int} {l0_4 : List (S69)} {R : List Nat} (h : liveR k a0_0 l0_1 l0_2 a0_3 l0_4 = some R) : LiveG k a0_0 l0_1 l0_2 a0_3 l0_4 R := by
 unfold liveR at h
 split at h
 {
 rename_i hk
 obtain ⟨p, hp, h⟩ := Option.bind_eq_some_iff.1 h; split at h
 {
 rename_i he
 obtain ⟨⟨h1, b⟩, ⟨l, q⟩, y, h6⟩ := hk; exact ⟨h1, b, l, q, y, h6, by rw [hp, he], h⟩}
 ·cases h}
 ·cases h
section
variable {k : Nat} {a0_0 : ByteArray} {l0_1 : List (S83)} {l0_2 : List (S85)} {a0_3 : Int} {l0_4 : List (S69)} {R : List Nat}
theorem LiveG.len (h : LiveG k a0_0 l0_1 l0_2 a0_3 l0_4 R) : R.length = l0_4.length := by rw [liveF_len h.live, List.length_replicate]
theorem LiveG.lt (h : LiveG k a0_0 l0_1 l0_2 a0_3 l0_4 R) : ∀ s ∈ R, s < 2 ^ (64 * 32) := fun s hs => q_pw (liveF_lt h.fine (fun s hs => by rw [(List.mem_replicate.1 hs).2]; exact Nat.two_pow_pos _) h.live s hs) (by have := h.r0; have := h.r1; omega)
theorem LiveG.next (h : LiveG k a0_0 l0_1 l0_2 a0_3 l0_4 R) : ∀ row ∈ l0_4.map FlowM.next, row.length ≤ 1000000 ∧ ∀ q ∈ row, 0 ≤ q ∧ q < (R.length : Int) := by
 intro row hr
 obtain ⟨n, hn, rfl⟩ := List.mem_map.1 hr; refine ⟨Nat.le_trans (next_len n) (by omega), fun q hq => ?_⟩
 rw [h.len]; exact (h.fine n hn).2.2 q hq
variable {A0_1 : Option Addr} {c0_1 : Nat} {A0_2 : Option Addr} {c0_2 : Nat} {A0_4 : Option Addr} {c0_4 : Nat} {w : World}
theorem live_call (b : Kd.C k83 w A0_1 l0_1.length l0_1) (l : l0_1.length ≤ c0_1) (p : Kd.C k85 w A0_2 l0_2.length l0_2) (q : l0_2.length ≤ c0_2) (y : Kd.C k69 w A0_4 l0_4.length l0_4) (z : l0_4.length ≤ c0_4) (hT : Tab w) (h : LiveG k a0_0 l0_1 l0_2 a0_3 l0_4 R) : LiveCall w (.agg #[.string a0_0, .slice A0_1 l0_1.length c0_1, .slice A0_2 l0_2.length c0_2, .int .i64 (a0_3.toNat : Int), .slice A0_4 l0_4.length c0_4]) R.length R (l0_4.map FlowM.next) := by
 intro w0 hb
 rw [h.len, show ((a0_3.toNat : Nat) : Int) = a0_3 from Int.toNat_of_nonneg h.r0]; refine (liveC k a0_0 A0_1 c0_1 l0_1 A0_2 c0_2 l0_2 a0_3 A0_4 c0_4 l0_4 w0 k R (Kd.C_below b hb) l (Kd.C_below p hb) q (Kd.C_below y hb) z h.succ (hT.below hb) a0_3.toNat (by have := h.r0; have := h.r1; omega) h.fine h.n1 h.ns h.live).mono ?_
 rintro e w' ⟨g, c, B, h1, D, E, F, G⟩
 exact ⟨g, c, B, h1, D, E, F, G⟩
theorem fits_call (b : Kd.C k83 w A0_1 l0_1.length l0_1) (l : l0_1.length ≤ c0_1) (p : Kd.C k85 w A0_2 l0_2.length l0_2) (q : l0_2.length ≤ c0_2) (y : Kd.C k69 w A0_4 l0_4.length l0_4) (z : l0_4.length ≤ c0_4) (hT : Tab w) {B : Int} (D : 0 ≤ a0_3) (h : alloc_fits.f k a0_0 l0_1 l0_2 a0_3 l0_4 = some B) : FitsCall w (.agg #[.string a0_0, .slice A0_1 l0_1.length c0_1, .slice A0_2 l0_2.length c0_2, .int .i64 (a0_3.toNat : Int), .slice A0_4 l0_4.length c0_4]) B := by
 intro w0 hb
 rw [show ((a0_3.toNat : Nat) : Int) = a0_3 from Int.toNat_of_nonneg D]; exact alloc_fits.calls k a0_0 A0_1 c0_1 l0_1 A0_2 c0_2 l0_2 a0_3 A0_4 c0_4 l0_4 B w0 ⟨Kd.C_below b hb, l, Kd.C_below p hb, q, Kd.C_below y hb, z⟩ h (hT.below hb)
theorem fits_callI (b : Kd.C k83 w A0_1 l0_1.length l0_1) (l : l0_1.length ≤ c0_1) (p : Kd.C k85 w A0_2 l0_2.length l0_2) (q : l0_2.length ≤ c0_2) (y : Kd.C k69 w A0_4 l0_4.length l0_4) (z : l0_4.length ≤ c0_4) (hT : Tab w) {B : Int} (h : alloc_fits.f k a0_0 l0_1 l0_2 a0_3 l0_4 = some B) : FitsCall w (.agg #[.string a0_0, .slice A0_1 l0_1.length c0_1, .slice A0_2 l0_2.length c0_2, .int .i64 a0_3, .slice A0_4 l0_4.length c0_4]) B := by
 intro w0 hb
 exact alloc_fits.calls k a0_0 A0_1 c0_1 l0_1 A0_2 c0_2 l0_2 a0_3 A0_4 c0_4 l0_4 B w0 ⟨Kd.C_below b hb, l, Kd.C_below p hb, q, Kd.C_below y hb, z⟩ h (hT.below hb)
theorem clash_call (l : Kd.C k83 w A0_1 l0_1.length l0_1) (p : l0_1.length ≤ c0_1) (q : Kd.C k85 w A0_2 l0_2.length l0_2) (y : l0_2.length ≤ c0_2) (b : Kd.C k69 w A0_4 l0_4.length l0_4) (z : l0_4.length ≤ c0_4) (hT : Tab w) (h : LiveG k a0_0 l0_1 l0_2 a0_3 l0_4 R) : ClashCall w (.agg #[.string a0_0, .slice A0_1 l0_1.length c0_1, .slice A0_2 l0_2.length c0_2, .int .i64 (a0_3.toNat : Int), .slice A0_4 l0_4.length c0_4]) a0_3.toNat (clashF a0_3.toNat l0_4 R) := by
 intro w0 hb
 exact clashesC w0 a0_0 A0_1 l0_1.length c0_1 A0_2 l0_2.length c0_2 a0_3.toNat A0_4 c0_4 l0_4 R (l0_4.map FlowM.next) rfl (Kd.C_below b hb) (live_call (Kd.C_below l hb) p (Kd.C_below q hb) y (Kd.C_below b hb) z (hT.below hb) h) (by have := h.r0; have := h.r1; omega) h.n0 h.n1 h.ns h.fine h.len h.lt
theorem occur_call (l : Kd.C k83 w A0_1 l0_1.length l0_1) (p : l0_1.length ≤ c0_1) (q : Kd.C k85 w A0_2 l0_2.length l0_2) (y : l0_2.length ≤ c0_2) (b : Kd.C k69 w A0_4 l0_4.length l0_4) (z : l0_4.length ≤ c0_4) (h : LiveG k a0_0 l0_1 l0_2 a0_3 l0_4 R) : OccurCall w (.agg #[.string a0_0, .slice A0_1 l0_1.length c0_1, .slice A0_2 l0_2.length c0_2, .int .i64 (a0_3.toNat : Int), .slice A0_4 l0_4.length c0_4]) (occF l0_4) := by
 intro w0 hb
 exact occurC w0 a0_0 A0_1 l0_1.length c0_1 A0_2 l0_2.length c0_2 a0_3.toNat A0_4 c0_4 l0_4 a0_3.toNat (Kd.C_below b hb) (by have := h.r0; have := h.r1; omega) h.n1 h.ns h.fine
end
def alloc_Into.f (k : Nat) (a0_0 : ByteArray) (l0_1 : List (S83)) (l0_2 : List (S85)) (a0_3 : Int) (l0_4 : List (S69)) : Option (List (List Int) × Int) := (alloc_fits.f k a0_0 l0_1 l0_2 a0_3 l0_4).bind fun e => if e = 0 then (liveR k a0_0 l0_1 l0_2 a0_3 l0_4).bind fun R => some (R.map fun s => regsL s a0_3.toNat, 0) else some (([] : List (List Int)), e)
theorem alloc_Into.calls (k : Nat) (a0_0 : ByteArray) (A0_1 : Option Addr) (c0_1 : Nat) (l0_1 : List (S83)) (A0_2 : Option Addr) (c0_2 : Nat) (l0_2 : List (S85)) (a0_3 : Int) (A0_4 : Option Addr) (c0_4 : Nat) (l0_4 : List (S69)) (E : List (List Int)) (F : Int) (w : World) (b : Kd.C k83 w A0_1 l0_1.length l0_1) (l : l0_1.length ≤ c0_1) (p : Kd.C k85 w A0_2 l0_2.length l0_2) (q : l0_2.length ≤ c0_2) (y : Kd.C k69 w A0_4 l0_4.length l0_4) (z : l0_4.length ≤ c0_4) (h : alloc_Into.f k a0_0 l0_1 l0_2 a0_3 l0_4 = some (E, F)) (hT : Tab w) :
  Calls Tryd.prog 16 #[.agg #[.string a0_0, .slice A0_1 l0_1.length c0_1, .slice A0_2 l0_2.length c0_2, .int .i64 a0_3, .slice A0_4 l0_4.length c0_4]] w fun e w' => ∃ B : Value, e = .returned (.tuple #[B, .int .i64 F]) ∧ Kd.S (Kd.slice 3 (Kd.int .i64)) 27 w' w.heap.size (fun _ => True) B E ∧ Below w.heap.size w w' := by
 unfold alloc_Into.f at h
 obtain ⟨G, he, h⟩ := Option.bind_eq_some_iff.1 h; by_cases D : G = 0
 ·rw [if_pos D] at h; subst D; obtain ⟨R, hR, h⟩ := Option.bind_eq_some_iff.1 h; have g := LiveG.of hR; have I := g.r0; have J := g.r1; obtain ⟨rfl, rfl⟩ := Prod.mk.inj (q_so h); have hfc := fits_call b l p q y z hT I he; have := intoC w a0_0 A0_1 l0_1.length c0_1 A0_2 l0_2.length c0_2 a0_3.toNat A0_4 l0_4.length c0_4 R (l0_4.map FlowM.next) hfc (live_call b l p q y z hT g) (by omega) (by rw [g.len]; exact g.n1)
  rw [show ((a0_3.toNat : Nat) : Int) = a0_3 from Int.toNat_of_nonneg I] at this; exact this
 ·rw [if_neg D] at h; obtain ⟨rfl, rfl⟩ := Prod.mk.inj (q_so h); have := intoE w a0_0 A0_1 l0_1.length c0_1 A0_2 l0_2.length c0_2 a0_3 A0_4 l0_4.length c0_4 G D (fits_callI b l p q y z hT he)
  refine this.mono ?_
  rintro e w' ⟨rfl, hb⟩
  exact ⟨_, rfl, Kd.S_nil _ _ _ _ _, hb⟩
def alloc_Out.f (k : Nat) (a0_0 : ByteArray) (l0_1 : List (S83)) (l0_2 : List (S85)) (a0_3 : Int) (l0_4 : List (S69)) : Option (List (List Int) × Int) := (alloc_fits.f k a0_0 l0_1 l0_2 a0_3 l0_4).bind fun e => if e = 0 then (liveR k a0_0 l0_1 l0_2 a0_3 l0_4).bind fun R => some ((List.range R.length).map fun i => regsL (after ((l0_4.map next).getD i []) R) a0_3.toNat, 0) else some (([] : List (List Int)), e)
theorem alloc_Out.calls (k : Nat) (a0_0 : ByteArray) (A0_1 : Option Addr) (c0_1 : Nat) (l0_1 : List (S83)) (A0_2 : Option Addr) (c0_2 : Nat) (l0_2 : List (S85)) (a0_3 : Int) (A0_4 : Option Addr) (c0_4 : Nat) (l0_4 : List (S69)) (E : List (List Int)) (F : Int) (w : World) (b : Kd.C k83 w A0_1 l0_1.length l0_1) (l : l0_1.length ≤ c0_1) (p : Kd.C k85 w A0_2 l0_2.length l0_2) (q : l0_2.length ≤ c0_2) (y : Kd.C k69 w A0_4 l0_4.length l0_4) (z : l0_4.length ≤ c0_4) (h : alloc_Out.f k a0_0 l0_1 l0_2 a0_3 l0_4 = some (E, F)) (hT : Tab w) :
  Calls Tryd.prog 17 #[.agg #[.string a0_0, .slice A0_1 l0_1.length c0_1, .slice A0_2 l0_2.length c0_2, .int .i64 a0_3, .slice A0_4 l0_4.length c0_4]] w fun e w' => ∃ B : Value, e = .returned (.tuple #[B, .int .i64 F]) ∧ Kd.S (Kd.slice 3 (Kd.int .i64)) 27 w' w.heap.size (fun _ => True) B E ∧ Below w.heap.size w w' := by
 unfold alloc_Out.f at h
 obtain ⟨G, he, h⟩ := Option.bind_eq_some_iff.1 h; by_cases D : G = 0
 ·rw [if_pos D] at h; subst D; obtain ⟨R, hR, h⟩ := Option.bind_eq_some_iff.1 h; have g := LiveG.of hR; have I := g.r0; have J := g.r1; obtain ⟨rfl, rfl⟩ := Prod.mk.inj (q_so h); have hfc := fits_call b l p q y z hT I he; have := outC w a0_0 A0_1 l0_1.length c0_1 A0_2 l0_2.length c0_2 a0_3.toNat A0_4 l0_4.length c0_4 R (l0_4.map FlowM.next) hfc (live_call b l p q y z hT g) (by omega) (by rw [g.len]; exact g.n1) g.lt (by rw [List.length_map, g.len]) g.next
  rw [show ((a0_3.toNat : Nat) : Int) = a0_3 from Int.toNat_of_nonneg I] at this; exact this
 ·rw [if_neg D] at h; obtain ⟨rfl, rfl⟩ := Prod.mk.inj (q_so h); have := outE w a0_0 A0_1 l0_1.length c0_1 A0_2 l0_2.length c0_2 a0_3 A0_4 l0_4.length c0_4 G D (fits_callI b l p q y z hT he)
  refine this.mono ?_
  rintro e w' ⟨rfl, hb⟩
  exact ⟨_, rfl, Kd.S_nil _ _ _ _ _, hb⟩
def alloc_Clashes.f (k : Nat) (a0_0 : ByteArray) (l0_1 : List (S83)) (l0_2 : List (S85)) (a0_3 : Int) (l0_4 : List (S69)) : Option (List (Int × Int) × Int) := (alloc_fits.f k a0_0 l0_1 l0_2 a0_3 l0_4).bind fun e => if e = 0 then (liveR k a0_0 l0_1 l0_2 a0_3 l0_4).bind fun R => some (pairsOf (clashF a0_3.toNat l0_4 R) a0_3.toNat a0_3.toNat, 0) else some (([] : List (Int × Int)), e)
theorem alloc_Clashes.calls (k : Nat) (a0_0 : ByteArray) (A0_1 : Option Addr) (c0_1 : Nat) (l0_1 : List (S83)) (A0_2 : Option Addr) (c0_2 : Nat) (l0_2 : List (S85)) (a0_3 : Int) (A0_4 : Option Addr) (c0_4 : Nat) (l0_4 : List (S69)) (E : List (Int × Int)) (F : Int) (w : World) (b : Kd.C k83 w A0_1 l0_1.length l0_1) (l : l0_1.length ≤ c0_1) (p : Kd.C k85 w A0_2 l0_2.length l0_2) (q : l0_2.length ≤ c0_2) (y : Kd.C k69 w A0_4 l0_4.length l0_4) (z : l0_4.length ≤ c0_4) (h : alloc_Clashes.f k a0_0 l0_1 l0_2 a0_3 l0_4 = some (E, F)) (hT : Tab w) :
  Calls Tryd.prog 18 #[.agg #[.string a0_0, .slice A0_1 l0_1.length c0_1, .slice A0_2 l0_2.length c0_2, .int .i64 a0_3, .slice A0_4 l0_4.length c0_4]] w fun e w' => ∃ B : Value, e = .returned (.tuple #[B, .int .i64 F]) ∧ Kd.R k54 54 w' w.heap.size (fun _ => True) B E ∧ Below w.heap.size w w' := by
 unfold alloc_Clashes.f at h
 obtain ⟨G, he, h⟩ := Option.bind_eq_some_iff.1 h; by_cases D : G = 0
 ·rw [if_pos D] at h; subst D; obtain ⟨R, hR, h⟩ := Option.bind_eq_some_iff.1 h; have g := LiveG.of hR; have I := g.r0; have J := g.r1; obtain ⟨rfl, rfl⟩ := Prod.mk.inj (q_so h); have hfc := fits_call b l p q y z hT I he; have := clashesC2 w a0_0 A0_1 l0_1.length c0_1 A0_2 l0_2.length c0_2 a0_3.toNat A0_4 l0_4.length c0_4 (clashF a0_3.toNat l0_4 R) hfc (clash_call b l p q y z hT g) (by omega) (clashF_len _ _ _)
  rw [show ((a0_3.toNat : Nat) : Int) = a0_3 from Int.toNat_of_nonneg I] at this; exact this
 ·rw [if_neg D] at h; obtain ⟨rfl, rfl⟩ := Prod.mk.inj (q_so h); have := clashesE w a0_0 A0_1 l0_1.length c0_1 A0_2 l0_2.length c0_2 a0_3 A0_4 l0_4.length c0_4 G D (fits_callI b l p q y z hT he)
  refine this.mono ?_
  rintro e w' ⟨rfl, hb⟩
  exact ⟨_, rfl, Kd.R_nil _ _ _ _ _, hb⟩
def alloc_Right.f (k : Nat) (a0_0 : ByteArray) (l0_1 : List (S83)) (l0_2 : List (S85)) (a0_3 : Int) (l0_4 : List (S69)) (l1 : List Int) (b : Int) : Option (Bool × Int) := (alloc_fits.f k a0_0 l0_1 l0_2 a0_3 l0_4).bind fun e => if e = 0 then (if (l1.length : Int) ≠ a0_3 ∨ b < 1 ∨ 13 < b then some (false, 6) else (liveR k a0_0 l0_1 l0_2 a0_3 l0_4).bind fun R => some (rightB l1 b (clashF a0_3.toNat l0_4 R) a0_3.toNat, 0)) else some (false, e)
theorem alloc_Right.calls (k : Nat) (a0_0 : ByteArray) (A0_1 : Option Addr) (c0_1 : Nat) (l0_1 : List (S83)) (A0_2 : Option Addr) (c0_2 : Nat) (l0_2 : List (S85)) (a0_3 : Int) (A0_4 : Option Addr) (c0_4 : Nat) (l0_4 : List (S69)) (D : Option Addr) (E : Nat) (l1 : List Int) (B : Int) (I : Bool) (J : Int) (w : World) (b : Kd.C k83 w A0_1 l0_1.length l0_1) (l : l0_1.length ≤ c0_1) (p : Kd.C k85 w A0_2 l0_2.length l0_2) (q : l0_2.length ≤ c0_2) (y : Kd.C k69 w A0_4 l0_4.length l0_4) (z : l0_4.length ≤ c0_4) (G : Kd.C (Kd.int .i64) w D l1.length l1) (N : l1.length ≤ E) (h : alloc_Right.f k a0_0 l0_1 l0_2 a0_3 l0_4 l1 B = some (I, J)) (hT : Tab w) :
  Calls Tryd.prog 9 #[.agg #[.string a0_0, .slice A0_1 l0_1.length c0_1, .slice A0_2 l0_2.length c0_2, .int .i64 a0_3, .slice A0_4 l0_4.length c0_4], .slice D l1.length E, .int .i64 B] w fun e w' => e = .returned (.tuple #[.bool I, .int .i64 J]) ∧ Below w.heap.size w w' := by
 unfold alloc_Right.f at h
 obtain ⟨L, he, h⟩ := Option.bind_eq_some_iff.1 h; by_cases F : L = 0
 ·rw [if_pos F] at h; subst F; by_cases hb : (l1.length : Int) ≠ a0_3 ∨ B < 1 ∨ 13 < B
  ·rw [if_pos hb] at h; obtain ⟨rfl, rfl⟩ := Prod.mk.inj (q_so h); have := rightA w a0_0 A0_1 l0_1.length c0_1 A0_2 l0_2.length c0_2 a0_3 A0_4 l0_4.length c0_4 D E l1 B (fits_callI b l p q y z hT he) hb
   exact this
  ·rw [if_neg hb] at h; obtain ⟨R, hR, h⟩ := Option.bind_eq_some_iff.1 h; have g := LiveG.of hR; have M := g.r0; have O := g.r1; obtain ⟨rfl, rfl⟩ := Prod.mk.inj (q_so h); have := rightC w a0_0 A0_1 l0_1.length c0_1 A0_2 l0_2.length c0_2 a0_3.toNat A0_4 l0_4.length c0_4 D E l1 B (clashF a0_3.toNat l0_4 R) (fits_call b l p q y z hT M he) (clash_call b l p q y z hT g) G (by omega) (by omega) (by omega) (by omega) (clashF_len _ _ _)
   rw [show ((a0_3.toNat : Nat) : Int) = a0_3 from Int.toNat_of_nonneg M] at this; exact this
 ·rw [if_neg F] at h; obtain ⟨rfl, rfl⟩ := Prod.mk.inj (q_so h); have := rightE w a0_0 A0_1 l0_1.length c0_1 A0_2 l0_2.length c0_2 a0_3 A0_4 l0_4.length c0_4 D l1.length E B L F (fits_callI b l p q y z hT he)
  exact this
def asgR (b : Int) (a0_3 : Int) (l0_4 : List (S69)) (R : List Nat) : List Int × Int := match assignF b.toNat a0_3.toNat (clashF a0_3.toNat l0_4 R) (listOf (occF l0_4) a0_3.toNat) (List.replicate a0_3.toNat 0) 0 with | some r => (r, 0) | none => ([], 5)
def alloc_Assign.f (k : Nat) (a0_0 : ByteArray) (l0_1 : List (S83)) (l0_2 : List (S85)) (a0_3 : Int) (l0_4 : List (S69)) (b : Int) : Option (List Int × Int) := (alloc_fits.f k a0_0 l0_1 l0_2 a0_3 l0_4).bind fun e => if e = 0 then (if b < 1 ∨ 13 < b then some ([], 6) else (liveR k a0_0 l0_1 l0_2 a0_3 l0_4).bind fun R => some (asgR b a0_3 l0_4 R)) else some (([] : List Int), e)
theorem alloc_Assign.calls (k : Nat) (a0_0 : ByteArray) (A0_1 : Option Addr) (c0_1 : Nat) (l0_1 : List (S83)) (A0_2 : Option Addr) (c0_2 : Nat) (l0_2 : List (S85)) (a0_3 : Int) (A0_4 : Option Addr) (c0_4 : Nat) (l0_4 : List (S69)) (B : Int) (F : List Int) (G : Int) (w : World) (b : Kd.C k83 w A0_1 l0_1.length l0_1) (l : l0_1.length ≤ c0_1) (p : Kd.C k85 w A0_2 l0_2.length l0_2) (q : l0_2.length ≤ c0_2) (y : Kd.C k69 w A0_4 l0_4.length l0_4) (z : l0_4.length ≤ c0_4) (h : alloc_Assign.f k a0_0 l0_1 l0_2 a0_3 l0_4 B = some (F, G)) (hT : Tab w) :
  Calls Tryd.prog 12 #[.agg #[.string a0_0, .slice A0_1 l0_1.length c0_1, .slice A0_2 l0_2.length c0_2, .int .i64 a0_3, .slice A0_4 l0_4.length c0_4], .int .i64 B] w fun e w' => ∃ D : Value, e = .returned (.tuple #[D, .int .i64 G]) ∧ Kd.R (Kd.int .i64) 3 w' w.heap.size (fun _ => True) D F ∧ Below w.heap.size w w' := by
 unfold alloc_Assign.f at h
 obtain ⟨I, he, h⟩ := Option.bind_eq_some_iff.1 h; by_cases E : I = 0
 {
 rw [if_pos E] at h; subst E; by_cases hb : B < 1 ∨ 13 < B
 {
 rw [if_pos hb] at h; obtain ⟨rfl, rfl⟩ := Prod.mk.inj (q_so h); have := assignA w a0_0 A0_1 l0_1.length c0_1 A0_2 l0_2.length c0_2 a0_3 A0_4 l0_4.length c0_4 B (fits_callI b l p q y z hT he) hb
 refine this.mono ?_
 rintro e w' ⟨rfl, hb⟩
 exact ⟨_, rfl, Kd.R_nil _ _ _ _ _, hb⟩}
 {
 rw [if_neg hb] at h; obtain ⟨R, hR, h⟩ := Option.bind_eq_some_iff.1 h; have g := LiveG.of hR; have J := g.r0; have L := g.r1; have h := q_so h; have := assignC w a0_0 A0_1 l0_1.length c0_1 A0_2 l0_2.length c0_2 a0_3.toNat A0_4 l0_4.length c0_4 B.toNat (clashF a0_3.toNat l0_4 R) (occF l0_4) _ (fits_call b l p q y z hT J he) (clash_call b l p q y z hT g) (occur_call b l p q y z g) (by omega) (by omega) (by omega) (clashF_len _ _ _) rfl
 rw [show ((a0_3.toNat : Nat) : Int) = a0_3 from Int.toNat_of_nonneg J, show ((B.toNat : Nat) : Int) = B from Int.toNat_of_nonneg (by omega)] at this
 refine this.mono ?_
 intro e w' hp
 unfold asgR at h
 unfold AssignPost at hp
 split at hp
 {
 rename_i r hr
 rw [hr] at h; obtain ⟨rfl, rfl⟩ := Prod.mk.inj h; exact hp}
 {
 rename_i hr
 rw [hr] at h; obtain ⟨rfl, rfl⟩ := Prod.mk.inj h; obtain ⟨rfl, hb⟩ := hp; exact ⟨_, rfl, Kd.R_nil _ _ _ _ _, hb⟩}}}
 {
 rw [if_neg E] at h; obtain ⟨rfl, rfl⟩ := Prod.mk.inj (q_so h); have := assignE w a0_0 A0_1 l0_1.length c0_1 A0_2 l0_2.length c0_2 a0_3 A0_4 l0_4.length c0_4 B I E (fits_callI b l p q y z hT he)
 refine this.mono ?_
 rintro e w' ⟨rfl, hb⟩
 exact ⟨_, rfl, Kd.R_nil _ _ _ _ _, hb⟩}
end Go.Proofs.YtefhpdcafdhcaaaDoor.S
end
section
namespace Go.Proofs.YtefhpdcafdhcaaaDoor.M
open Go Go.RowKit Go.Proofs.YtefhpdcafdhcaaaDoorW.PrintWords Go.Proofs.YtefhpdcafdhcaaaDoorW.PrintLast Go.Proofs.YtefhpdcafdhcaaaDoorW.PrintMore Go.Proofs.YtefhpdcafdhcaaaDoor Go.Proofs.YtefhpdcafdhcaaaDoor.A Go.Proofs.YtefhpdcafdhcaaaDoor.B Go.Proofs.YtefhpdcafdhcaaaDoor.N Go.Proofs.YtefhpdcafdhcaaaDoor.V
open FlowM (next hasD hasA hasB Fine FineNd FineG Live liveF)
open Go.Proofs.YtefhpdcafdhcaaaDoor.S (liveR allocOK)
section
variable (nm : ByteArray) {ps : List S83} {ar : List S85} (rg : Int) {N : List S69}
def phiN (l : List S71) : Nat := l.countP fun y => y.f0 == 11
def phiG (l : List S69) : Nat := (l.map fun n => phiN n.f0).sum
theorem phi0_ev (hN : N.length ≤ 400) (hl : ∀ n ∈ N, n.f0.length ≤ 400) : ∀ (rest : List S69) (i : Nat), N.drop i = rest → ∀ c : Nat, c + 400 * rest.length < 900000 → ∃ r, Evt (fun k => r6_Phis.l0 k (c : Int) (i : Int) nm ps ar rg N) r ∧ r = ((c + phiG rest : Nat) : Int)
 | [], i, hd, c, hc => by {
 have := drop_nil_ge hd
 refine ⟨(c : Int), ?_, by simp [phiG]⟩
 refine Evt.succ ?_
 simp only [r6_Phis.l0]
 exact Evt.neg (by omega) (Evt.const _)}
 | n :: rest, i, hd, c, hc => by {
 obtain ⟨hr, hi, b⟩ := rd69_drop hd; have hm : n ∈ N := by rw [← List.take_append_drop i N, hd]; simp
 have hln := hl n hm; simp only [List.length_cons] at hc
 refine ⟨_, ?_, rfl⟩
 refine Evt.succ ?_
 simp only [r6_Phis.l0]
 refine Evt.pos (by omega) ?_
 have key : ∀ (xs : List S71) (q : Nat), n.f0.drop q = xs → ∀ c : Nat, c + xs.length + 400 * rest.length < 900000 → Evt (fun k => r6_Phis.l1 k (c : Int) (i : Int) (q : Int) nm ps ar rg N) ((c + phiN xs + phiG rest : Nat) : Int) := by {
 intro xs
 induction xs with
 | nil => (
 intro q hd c hc
 have := drop_nil_ge hd
 obtain ⟨r, h1, p⟩ := phi0_ev hN hl rest (i + 1) b c (by simpa using hc)
 refine Evt.succ ?_
 simp only [r6_Phis.l1]
 refine Evt.pos (by omega) (Evt.pos (by omega) ?_)
 rw [hr, wrap_succ i (by omega)]
 refine Evt.neg (by omega) ?_
 rw [show c + phiN [] + phiG rest = c + phiG rest by simp [phiN], ← p]
 exact h1)
 | cons y xs ih => (
 intro q hd c hc
 obtain ⟨hry, hq, b⟩ := rd71_drop hd; simp only [List.length_cons] at hc
 refine Evt.succ ?_
 simp only [r6_Phis.l1]
 refine Evt.pos (by omega) (Evt.pos (by omega) ?_)
 rw [hr]; refine Evt.pos (by omega) (Evt.pos (by omega) ?_)
 rw [hry, wrap_succ q (by omega), wrap_succ c (by omega)]
 by_cases l : y.f0 = 11
 {
 have := ih (q + 1) b (c + 1) (by omega)
 rw [show c + phiN (y :: xs) + phiG rest = c + 1 + phiN xs + phiG rest by simp [phiN, l]; omega]
 exact Evt.pos l this}
 {
 have := ih (q + 1) b c (by omega)
 rw [show c + phiN (y :: xs) + phiG rest = c + phiN xs + phiG rest by simp [phiN, l]]
 exact Evt.neg l this})}
 have := key n.f0 0 rfl c (by omega)
 rw [show c + phiG (n :: rest) = c + phiN n.f0 + phiG rest by simp [phiG]; omega]
 exact this}
theorem sum_mem_le : ∀ {l : List Nat} {x : Nat}, x ∈ l → x ≤ l.sum
 | y :: l, x, h => by
  rw [List.sum_cons]; rcases List.mem_cons.1 h with rfl | h
  ·omega
  ·have := sum_mem_le h; omega
theorem phiG_pos {N : List S69} : 0 < phiG N ↔ ∃ n ∈ N, ∃ y ∈ n.f0, y.f0 = 11 := by
 unfold phiG
 constructor
 {
 intro h
 apply Classical.byContradiction
 intro hn
 have : (N.map fun n => phiN n.f0).sum = 0 := by {
 rw [List.sum_eq_zero_iff_forall_eq_nat]; intro x hx
 obtain ⟨n, l, rfl⟩ := List.mem_map.1 hx; exact List.countP_eq_zero.2 fun y hy b => hn ⟨n, l, y, hy, beq_iff_eq.1 b⟩}
 omega}
 {
 rintro ⟨n, hn, y, hy, b⟩
 have h1 : 0 < phiN n.f0 := List.countP_pos_iff.2 ⟨y, hy, beq_iff_eq.2 b⟩
 have p : phiN n.f0 ≤ (N.map fun n => phiN n.f0).sum := sum_mem_le (List.mem_map_of_mem hn)
 omega}
def phiFirst (n : S69) : Bool := match n.f0 with
 | [] => false
 | y :: _ => y.f0 == 11
theorem fits0_ev (hN : N.length ≤ 400) : ∀ (rest : List S69) (i : Nat), N.drop i = rest → Evt (fun k => alloc_fits.l0 k N (N.length : Int) (i : Int)) (if rest.any phiFirst = true then 6 else 0)
 | [], i, hd => by {
 have := drop_nil_ge hd
 refine Evt.succ ?_
 simp only [alloc_fits.l0]
 exact Evt.neg (by omega) (Evt.const _)}
 | n :: rest, i, hd => by {
 obtain ⟨hr, hi, l⟩ := rd69_drop hd; have ih := fits0_ev hN rest (i + 1) l; refine Evt.succ ?_
 simp only [alloc_fits.l0]
 refine Evt.pos (by omega) (Evt.pos (by omega) (Evt.pos (by omega) ?_))
 rw [hr, wrap_succ i (by omega), List.any_cons]
 cases hf : n.f0 with
 | nil => (
 rw [show phiFirst n = false by unfold phiFirst; rw [hf], Bool.false_or]
 exact Evt.neg (by simp) ih)
 | cons y ys => (
 rw [show phiFirst n = (y.f0 == 11) by unfold phiFirst; rw [hf]]
 refine Evt.pos (by simp only [List.length_cons]; omega) (Evt.pos (by simp only [List.length_cons]; omega) ?_)
 rw [show rd_T71 (y :: ys) 0 = y from rfl]; by_cases b : y.f0 = 11
 ·rw [beq_iff_eq.2 b, Bool.true_or, if_pos rfl]; exact Evt.pos b (Evt.const _)
 ·rw [beq_eq_false_iff_ne.2 b, Bool.false_or]; exact Evt.neg b ih)}
theorem err_ev (hs : Small nm ps ar N) (hI : Ints N) : ∃ e : Int, Evt (fun k => r11_Error.f k nm ps ar rg N) e ∧ Evt (fun k => alloc_fits.f k nm ps ar rg N) e ∧ (e = 0 → VF nm ps ar rg N ∧ Evt (fun k => flow_Valid.f k nm ps ar rg N) true ∧ ∀ n ∈ N, ∀ y ∈ n.f0, y.f0 ≠ 11) := by
 obtain ⟨b, hR, hF, hV⟩ := valid_ev nm rg hs hI; have hsum := hs.sum; cases b with
 | false => (
 refine ⟨1, ?_, ?_, fun h => by cases h⟩
 {
 unfold r11_Error.f
 exact Evt.bind hR (Evt.neg (by simp) (Evt.const _))}
 {
 unfold alloc_fits.f
 exact Evt.bind hF (Evt.neg (by simp) (Evt.const _))})
 | true => (
 have v := hV rfl; have hl : ∀ n ∈ N, n.f0.length ≤ 400 := fun n hn => by {
 have : n.f0.length + wArgs n.f0 ≤ wNds N := sum_mem_le (List.mem_map_of_mem hn)
 omega}
 obtain ⟨r, h1, q⟩ := phi0_ev nm rg (ps := ps) (ar := ar) (by omega) hl N 0 rfl 0 (by omega)
 have hany : (N.any phiFirst = true) ↔ 0 < phiG N := by {
 rw [phiG_pos, List.any_eq_true]; constructor
 {
 rintro ⟨n, hn, hp⟩
 unfold phiFirst at hp
 split at hp
 ·cases hp
 ·rename_i y ys hf; exact ⟨n, hn, y, by rw [hf]; exact List.mem_cons_self, beq_iff_eq.1 hp⟩}
 {
 rintro ⟨n, hn, y, hy, p⟩
 obtain ⟨x, l, hf, hx⟩ := v.first n hn ⟨y, hy, p⟩
 exact ⟨n, hn, by unfold phiFirst; rw [hf]; exact beq_iff_eq.2 hx⟩}}
 have hfit := fits0_ev (N := N) (by omega) N 0 rfl
 refine ⟨if N.any phiFirst = true then 6 else 0, ?_, ?_, fun h => ⟨v, hF, fun n hn y hy p => ?_⟩⟩
 {
 unfold r11_Error.f
 refine Evt.bind hR (Evt.pos rfl ?_)
 unfold r6_Phis.f
 refine Evt.bind h1 ?_
 rw [q]; by_cases hp : N.any phiFirst = true
 ·rw [if_pos hp]; exact Evt.pos (by have := hany.1 hp; omega) (Evt.const _)
 ·rw [if_neg hp]; exact Evt.neg (by have z : ¬ 0 < phiG N := fun h => hp (hany.2 h); omega) (Evt.const _)}
 {
 unfold alloc_fits.f
 exact Evt.bind hF (Evt.pos rfl hfit)}
 {
 have : N.any phiFirst = true := hany.2 (phiG_pos.2 ⟨n, hn, y, hy, p⟩)
 rw [if_pos this] at h; cases h})
theorem succ0_ev (hN : N.length ≤ 400) : ∀ (rest : List S69) (i : Nat), N.drop i = rest → ∀ out : List (List Int), out.length = i → Evt (fun k => flow_Successors.l0 k out N (N.length : Int) (i : Int)) (out ++ rest.map next, 0)
 | [], i, hd, out, _ => by {
 have := drop_nil_ge hd
 refine Evt.succ ?_
 simp only [flow_Successors.l0]
 refine Evt.neg (by omega) ?_
 rw [List.map_nil, List.append_nil]; exact Evt.const _}
 | n :: rest, i, hd, out, ho => by {
 obtain ⟨hr, hi, b⟩ := rd69_drop hd; refine Evt.succ ?_
 simp only [flow_Successors.l0]
 refine Evt.pos (by omega) (Evt.pos (by omega) (Evt.pos (by omega) ?_))
 rw [hr, fnext_r, wrap_succ i (by omega)]
 simp only [Option.bind_some]
 refine Evt.pos (by omega) ?_
 have := succ0_ev hN rest (i + 1) b (out ++ [next n]) (by simp; omega)
 rw [List.append_assoc] at this; exact this}
theorem succ_ev (hN : N.length ≤ 400) (hV : Evt (fun k => flow_Valid.f k nm ps ar rg N) true) : Evt (fun k => flow_Successors.f k nm ps ar rg N) (N.map next, 0) := by
 unfold flow_Successors.f
 refine Evt.bind hV (Evt.pos rfl ?_)
 exact succ0_ev hN N 0 rfl [] rfl
theorem live_ev (hs : Small nm ps ar N) (v : VF nm ps ar rg N) (hV : Evt (fun k => flow_Valid.f k nm ps ar rg N) true) : ∃ R, Evt (fun k => liveR k nm ps ar rg N) R ∧ R.length = N.length ∧ (∀ s ∈ R, s < 2 ^ rg.toNat) ∧ ∀ i, i < N.length → ∀ r : Nat, ((R.getD i 0).testBit r = true ↔ Live N (r : Int) i) := by
 have hsum := hs.sum; obtain ⟨K, R, h1, p, q, y⟩ := FlowM.liveF_live v.fine; refine ⟨R, ?_, p, q, y⟩
 have hl : ∀ n ∈ N, n.f0.length ≤ 1000000 := fun n hn => by
  have : n.f0.length + wArgs n.f0 ≤ wNds N := sum_mem_le (List.mem_map_of_mem hn)
  omega
 have hv := v.r0; have b := v.r1; have l := v.n0; unfold liveR
 refine Evt.pos ⟨⟨hv, b⟩, ⟨l, by omega⟩, hl, v.fine⟩ (Evt.bind (succ_ev nm rg (by omega) hV) (Evt.pos rfl ?_))
 exact Evt.of_mono (f := fun k => liveF N k (List.replicate N.length 0)) (fun k r h => FlowM.liveF_mono h) h1
end
end Go.Proofs.YtefhpdcafdhcaaaDoor.M
end
section
namespace Go.Proofs.YtefhpdcafdhcaaaDoor.S
open Go Go.RowKit Go.Proofs Go.Proofs.YtefhpdcafdhcaaaDoorW.PrintWords Go.Proofs.YtefhpdcafdhcaaaDoorW.PrintLast Go.Proofs.YtefhpdcafdhcaaaDoorW.PrintMore Go.Proofs.YtefhpdcafdhcaaaDoor Go.Proofs.YtefhpdcafdhcaaaDoor.A Go.Proofs.YtefhpdcafdhcaaaDoor.V Go.Proofs.YtefhpdcafdhcaaaDoor.B FlowM
set_option linter.unusedVariables false
set_option linter.unusedSimpArgs false
def rd_P (xs : List (Int × Int)) (i : Int) : Int × Int := xs.getD i.toNat (0, 0)
theorem at_P54 {w : World} {A : Option Addr} {n : Nat} {xs : List (Int × Int)} (h : Kd.C k54 w A n xs) (i : Int) (z : 0 ≤ i) (h1 : i < n) : ∃ ad , A = some ad ∧ w.cell? (ad.add (i.toNat * 2)) = some (.int .i64 (rd_P xs i).1) ∧ w.cell? ⟨(ad.add (i.toNat * 2)).block, (ad.add (i.toNat * 2)).off + 1, none⟩ = some (.int .i64 (rd_P xs i).2) := by
 obtain ⟨ad, c, e, _, hK, b⟩ := Kd.C_get h ((0, 0) : Int × Int) i z h1; have hc : ∀ j u, c[j]? = some u → w.cell? (ad.add (i.toNat * 2 + j)) = some u := b
 obtain rfl := k54_open hK; exact ⟨ad, e, hc 0 _ rfl, by rw [← add_field _ _ 1 (by omega)]; exact hc 1 _ rfl⟩
theorem b_P54 {w W : World} {A : Option Addr} {n : Nat} {xs : List (Int × Int)} (h : Kd.C k54 w A n xs) (hB : Below w.heap.size w W) (i : Int) (p : 0 ≤ i := by exact q_d) (q : i < n := by exact q_d) : ∃ ad, A = some ad ∧ W.cell? (ad.add (i.toNat * 2)) = some (.int .i64 (rd_P xs i).1) ∧ W.cell? ⟨(ad.add (i.toNat * 2)).block, (ad.add (i.toNat * 2)).off + 1, none⟩ = some (.int .i64 (rd_P xs i).2) ∧ (0 ≤ i) = True ∧ (i < n) = True := by
 obtain ⟨ad, e_, l, y⟩ := at_P54 h i p q; exact ⟨ad, e_, q_kc hB l, q_kc hB y, eq_true p, eq_true q⟩
def pairV (p : Int × Int) : Value := .agg #[.int .i64 p.1, .int .i64 p.2]
theorem run_equalIn_u (W : World) (d : Nat) (a b : Int) : (Op.equalIn (d + 1) 3 (.int .i64 a) (.int .i64 b)).run Tryd.prog W = .ok (a == b) W := run_equalIn_int W d 3 .i64 .i64 _ _ Tryd.underlying3
theorem run_partP (W : World) (p : Int × Int) : (part 3 #[.int .i64 p.1, .int .i64 p.2] 0).run Tryd.prog W = .ok (.int .i64 p.1) W ∧ (part 3 #[.int .i64 p.1, .int .i64 p.2] 1).run Tryd.prog W = .ok (.int .i64 p.2) W := by
 constructor <;> simp [part, isAgg, Sem.run_bind, run_underlying Tryd.underlying3]
theorem run_sameP (W : World) (d : Nat) (p q : Int × Int) : (Op.equalIn (d + 2) 54 (pairV p) (pairV q)).run Tryd.prog W = .ok (decide (p = q)) W := by
 have z : (Tryd.prog.info? 3).map (·.size) = some 1 := by kernel_rfl
 cases hq : Tryd.prog.info? 3 with
 | none => simp [hq] at z
 | some f => (
 have hs : f.size = 1 := by simpa [hq] using z
 rw [show d + 2 = (d + 1) + 1 from rfl, Op.equalIn]; simp only [pairV, Sem.run_bind, run_underlying Tryd.underlying54, Result.andThen_ok, sizeOf, typeInfo]
 simp [hq, hs]
 rw [show List.range' 0 2 = [0, 1] from rfl, List.forIn_cons]
 simp only [Sem.run_bind, (run_partP W p).1, (run_partP W q).1, Result.andThen_ok, run_equalIn_u]
 by_cases h1 : p.1 = q.1
 {
 have l : (p.1 == q.1) = true := beq_iff_eq.2 h1
 simp only [l, Bool.true_eq_false, if_false, Sem.run_pure, Result.andThen_ok]
 rw [List.forIn_cons]; simp only [Sem.run_bind, (run_partP W p).2, (run_partP W q).2, Result.andThen_ok, run_equalIn_u]
 by_cases b : p.2 = q.2
 {
 have y : (p.2 == q.2) = true := beq_iff_eq.2 b
 simp only [y, Bool.true_eq_false, if_false, Sem.run_pure, Result.andThen_ok, List.forIn_nil]
 rw [decide_eq_true (show p = q from Prod.ext h1 b)]}
 {
 have y : (p.2 == q.2) = false := beq_eq_false_iff_ne.2 b
 simp only [y, if_true, Sem.run_pure, Result.andThen_ok]
 rw [decide_eq_false (fun e => b (by rw [e]))]}}
 {
 have l : (p.1 == q.1) = false := beq_eq_false_iff_ne.2 h1
 simp only [l, if_true, Sem.run_pure, Result.andThen_ok]
 rw [decide_eq_false (fun e => h1 (by rw [e]))]})
theorem run_eqP {o : Oper} {a : Act} {x y : Operand} {p q : Int × Int} (ho : o.op = .binOp .eql 54 x y 54) (hx : a.eval x = pairV p) (hy : a.eval y = pairV q) (W : World) :
  (execOp a.eval o).run Tryd.prog W = .ok (.value (.bool (decide (p = q)))) W := by
 have b : (Op.equal 54 (pairV p) (pairV q)).run Tryd.prog W = .ok (decide (p = q)) W := run_sameP W 9998 p q
 unfold execOp
 simp only [ho, hx, hy, Sem.run_bind]
 unfold pairV at b ⊢
 rw [run_eqGuard_agg W .eql 54 x y _ _ (by kernel_rfl)]
 simp only [Result.andThen_ok, binOp, Sem.run_bind, b, Sem.run_pure]
theorem run_neP {o : Oper} {a : Act} {x y : Operand} {p q : Int × Int} (ho : o.op = .binOp .neq 54 x y 54) (hx : a.eval x = pairV p) (hy : a.eval y = pairV q) (W : World) :
  (execOp a.eval o).run Tryd.prog W = .ok (.value (.bool (!decide (p = q)))) W := by
 have b : (Op.equal 54 (pairV p) (pairV q)).run Tryd.prog W = .ok (decide (p = q)) W := run_sameP W 9998 p q
 unfold execOp
 simp only [ho, hx, hy, Sem.run_bind]
 unfold pairV at b ⊢
 rw [run_eqGuard_agg W .neq 54 x y _ _ (by kernel_rfl)]
 simp only [Result.andThen_ok, binOp, Sem.run_bind, b, Sem.run_pure]
theorem run_loadP {W : World} {o : Oper} {a : Act} {x : Operand} {ad : Addr} {p : Int × Int} (hp : ad.spot = none) (ho : o.op = .load 54 x) (hx : a.eval x = .pointer (some ad)) (h1 : W.cell? ad = some (.int .i64 p.1)) (l : W.cell? ⟨ad.block, ad.off + 1, none⟩ = some (.int .i64 p.2)) :
  (execOp a.eval o).run Tryd.prog W = .ok (.value (pairV p)) W := by
 have hsz : (Tryd.prog.info? 54).map (·.size) = some 2 := by kernel_rfl
 obtain ⟨b, off, sp⟩ := ad; obtain rfl : sp = none := hp; have hr : W.rangeAt b off [.int .i64 p.1, .int .i64 p.2] := by {
 intro j v hv
 match j, hv with
 | 0, hv => cases hv; exact h1
 | 1, hv => cases hv; exact l}
 unfold execOp
 simp only [ho, hx, Sem.run_bind, run_loadAt_mid W b off 54 [.int .i64 p.1, .int .i64 p.2] (.array 2 3) hr Tryd.underlying54 rfl hsz, Result.andThen_ok]
 rfl
def sN : List S69 := [(⟨([(⟨0, 0, 0, 0, 0, 1, ([] : List Int)⟩ : S71), (⟨0, 0, 1, 0, 0, 2, ([] : List Int)⟩ : S71), (⟨3, 0, 2, 0, 1, 0, ([] : List Int)⟩ : S71), (⟨7, 0, 0, 2, 2, 0, ([] : List Int)⟩ : S71)] : List (S71)), 2, 0, 0, 0⟩ : S69)]
def sP : List S83 := [(⟨(⟨#[97]⟩ : ByteArray), true⟩ : S83)]
def sK : ByteArray := ⟨#[107]⟩
def sA : List S85 := []
def sQ1 : List Int := [0, 1, 0]
def sQ2 : List Int := [0, 0, 0]
theorem aw1 : alloc_Clashes.f 20 sK sP sA 3 sN = some ([(0, 1)], 0) := by decide +kernel
theorem aw2 : alloc_Assign.f 20 sK sP sA 3 sN 2 = some ([0, 1, 0], 0) := by decide +kernel
theorem aw3 : alloc_Right.f 20 sK sP sA 3 sN sQ1 2 = some (true, 0) := by decide +kernel
theorem aw4 : alloc_Right.f 20 sK sP sA 3 sN sQ2 2 = some (false, 0) := by decide +kernel
theorem sumsC {w : World} : Calls Tryd.prog 28 #[] w fun e w' => ∃ (b : Option Addr) (l : Nat) (p : Option Addr) (c2 : Nat) (q : Option Addr) (y : Nat), e = .returned (.agg #[.string sK, .slice b sP.length l, .slice p sA.length c2, .int .i64 3, .slice q sN.length y]) ∧ (Kd.C k83 w' b sP.length sP ∧ sP.length ≤ l) ∧ (Kd.C k85 w' p sA.length sA ∧ sA.length ≤ c2) ∧ (Kd.C k69 w' q sN.length sN ∧ sN.length ≤ y) ∧ Below w.heap.size w w' := by
 refine (l11_sums.calls sK sP sA 3 sN w rfl).mono ?_
 rintro e w' ⟨D, E, F, rfl, h1, z, B, hb⟩
 obtain ⟨b, l, rfl⟩ := Kd.R_slice h1; obtain ⟨p, c2, rfl⟩ := Kd.R_slice z; obtain ⟨q, y, rfl⟩ := Kd.N_slice B; exact ⟨b, l, p, c2, q, y, rfl, ⟨(Kd.R_reads' h1).2.2, (Kd.R_reads' h1).2.1⟩, ⟨(Kd.R_reads' z).2.2, (Kd.R_reads' z).2.1⟩, ⟨(Kd.N_reads' B).2.2, (Kd.N_reads' B).2.1⟩, hb⟩
def aw.T5 : Bool × List (List Nat × List Nat) := (true, [([], []), ([0], [0]), ([1], [1]), ([2], [2]), ([3, 2], [2, 3]), ([2, 4], [2, 4]), ([5, 2], [5]), ([6], [6]), ([7, 6], [6, 7]), ([6, 8], [6, 8]), ([9, 6], [9]), ([10], [10]), ([11, 10], [10, 11]), ([10, 12], [10, 12]), ([13, 10], [13]), ([14], [14]), ([15, 14], [14, 15]), ([16, 14], [14, 16]), ([14, 17], [14, 17]), ([18, 14], [18]), ([19], [19]), ([20, 19], [19, 20]), ([21, 19], [19, 21]), ([19], [19]), ([22, 23, 19], [19, 22, 23]), ([19, 24], [19, 24]), ([25, 19], [25]), ([26], [26]), ([27, 26], [26, 27]), ([28, 26], [26, 28]), ([26, 29], [26, 29]), ([30, 26], [30]), ([31], [31]), ([32, 31], [31, 32]), ([33, 31], [31, 33]), ([31], [31]), ([35, 31], [31, 35]), ([36, 31], [31, 36]), ([34, 37, 31], [31, 34, 37]), ([31, 38], [31, 38]), ([39, 31], [39]), ([40], [40]), ([40, 41], [40, 41]), ([42, 40], [42]), ([43], [43]), ([44, 43], [43, 44]), ([43, 45], [43, 45]), ([46, 43, 0, 1, 2, 3, 4, 5, 6, 7, 8, 9, 10, 11, 12, 13, 14, 15, 16, 17, 18, 19, 20, 21, 22, 23, 24, 25, 26, 27, 28, 29, 30, 31, 32, 33, 34, 35, 36, 37, 38, 39, 40, 41, 42, 43, 44, 45, 46], [46])])
def aw.B5 : List Nat := [0, 1, 3, 7, 15, 31, 63, 127, 255, 511, 1023, 2047, 4095, 8191, 16383, 32767, 65535, 131071, 262143, 524287, 1048575, 2097151, 4194303, 1048575, 16777215, 33554431, 67108863, 134217727, 268435455, 536870911, 1073741823, 2147483647, 4294967295, 8589934591, 17179869183, 4294967295, 38654705663, 107374182399, 274877906943, 549755813887, 1099511627775, 2199023255551, 4398046511103, 8796093022207, 17592186044415, 35184372088831, 70368744177663, 140737488355327]
theorem aw.tab5 : rtab .any (opsOf Tryd.f8 5) = aw.T5 := by kernel_rfl
theorem aw.bits5 : waitsOk aw.T5.2 aw.B5 = true := by kernel_rfl
theorem awakeC (w : World) (hT : Tab w) : Calls Tryd.prog 8 #[] w fun e w' => e = .returned (.bool true) ∧ Below w.heap.size w w' := by
 have HT := a_ hT; clear hT; have l := a_ (Below.refl w.heap.size w); go_enter Tryd.func8, Tryd.ntmps8
 go_wp2_with (first | (go_at_call 28; (with_reducible refine (sumsC).mono ?_); rintro e wS ⟨F, G, I, c2, J, L, rfl, h1, E, V, hb⟩; have B := a_ h1; have C := a_ E; have D := a_ V; replace l := a_ (below_then l.out l.out.size hb); (try (replace HL := a_ (Kd.R_below HL.out hb))); (try (replace HP := a_ (Kd.R_below HP.out hb))); clear h1 E V hb) | (go_at_call 18; (with_reducible refine (alloc_Clashes.calls 20 sK F G sP I c2 sA 3 J L sN [(0, 1)] 0 _ B.out.1 B.out.2 C.out.1 C.out.2 D.out.1 D.out.2 aw1 (HT.out.below l.out)).mono ?_); rintro e wC ⟨v0, rfl, hl, hb⟩; obtain ⟨gl, cl, rfl, _, _, _⟩ := Kd.R_form hl (by decide); have HL := a_ hl; replace l := a_ (below_then l.out l.out.size hb); clear hl hb) | (go_at_call 12; (with_reducible refine (alloc_Assign.calls 20 sK F G sP I c2 sA 3 J L sN 2 [0, 1, 0] 0 _ B.out.1 B.out.2 C.out.1 C.out.2 D.out.1 D.out.2 aw2 (HT.out.below l.out)).mono ?_); rintro e wC ⟨v0, rfl, hl, hb⟩; obtain ⟨gp, cp, rfl, _, _, _⟩ := Kd.R_form hl (by decide); have HP := a_ hl; replace l := a_ (below_then l.out l.out.size hb); (try (replace HL := a_ (Kd.R_below HL.out hb))); clear hl hb) | (go_at_call 9; (with_reducible refine (alloc_Right.calls 20 sK F G sP I c2 sA 3 J L sN (some ⟨gr, 0, none⟩) cr sQ1 2 true 0 _ (Kd.C_below B.out.1 HBL.out) B.out.2 (Kd.C_below C.out.1 HBL.out) C.out.2 (Kd.C_below D.out.1 HBL.out) D.out.2 HX.out HXC.out aw3 (HT.out.below l.out)).mono ?_); rintro e wC ⟨rfl, hb⟩; replace l := a_ (below_then l.out l.out.size hb); (try (replace HL := a_ (Kd.R_below HL.out hb))); (try (replace HP := a_ (Kd.R_below HP.out hb))); clear hb) | ((with_reducible refine gd_ 21 rfl ?_); refine Kd.R_lit (Kd.int .i64) _ 3 ?hg (N := 21) ?hd (xs := (sQ1 : List Int)) (inner := [.int .i64 0, .int .i64 1, .int .i64 0]) (ok := fun _ => True) (okp := fun _ => True) ?hr ?hp (fun _ hk => hk) trivial (Below.refl _ _) (Nat.le_refl _) (by decide) ?_; (case hd => rfl); (case hg => rfl); (case hr => first | (go_simp; done) | (go_simp; rfl)); (case hp => exact (Reps.one (show Kd.M (Kd.int .i64) _ _ _ 0 [.int .i64 0] from rfl) (Reps.one (show Kd.M (Kd.int .i64) _ _ _ 1 [.int .i64 1] from rfl) (Reps.one (show Kd.M (Kd.int .i64) _ _ _ 0 [.int .i64 0] from rfl) (Reps.none _ _))))); intro v1 wL hl hb _ _; obtain ⟨gr, cr, rfl, _, _, _⟩ := Kd.R_form hl (by decide); have HX := a_ ((Kd.R_reads' hl).2.2); have HXC := a_ ((Kd.R_reads' hl).2.1); have HBL := a_ hb; replace l := a_ (below_then l.out l.out.size hb); (try (replace HL := a_ (Kd.R_below HL.out hb))); (try (replace HP := a_ (Kd.R_below HP.out hb))); clear hl hb) | (go_at_call 9; (with_reducible refine (alloc_Right.calls 20 sK F G sP I c2 sA 3 J L sN (some ⟨gr, 0, none⟩) cr sQ2 2 false 0 _ (Kd.C_below B.out.1 HBL.out) B.out.2 (Kd.C_below C.out.1 HBL.out) C.out.2 (Kd.C_below D.out.1 HBL.out) D.out.2 HX.out HXC.out aw4 (HT.out.below l.out)).mono ?_); rintro e wC ⟨rfl, hb⟩; replace l := a_ (below_then l.out l.out.size hb); (try (replace HL := a_ (Kd.R_below HL.out hb))); (try (replace HP := a_ (Kd.R_below HP.out hb))); clear hb) | ((with_reducible refine gd_ 27 rfl ?_); refine Kd.R_lit (Kd.int .i64) _ 3 ?hg (N := 27) ?hd (xs := (sQ2 : List Int)) (inner := [.int .i64 0, .int .i64 0, .int .i64 0]) (ok := fun _ => True) (okp := fun _ => True) ?hr ?hp (fun _ hk => hk) trivial (Below.refl _ _) (Nat.le_refl _) (by decide) ?_; (case hd => rfl); (case hg => rfl); (case hr => first | (go_simp; done) | (go_simp; rfl)); (case hp => exact (Reps.one (show Kd.M (Kd.int .i64) _ _ _ 0 [.int .i64 0] from rfl) (Reps.one (show Kd.M (Kd.int .i64) _ _ _ 0 [.int .i64 0] from rfl) (Reps.one (show Kd.M (Kd.int .i64) _ _ _ 0 [.int .i64 0] from rfl) (Reps.none _ _))))); intro v1 wL hl hb _ _; obtain ⟨gr, cr, rfl, _, _, _⟩ := Kd.R_form hl (by decide); have HX := a_ ((Kd.R_reads' hl).2.2); have HXC := a_ ((Kd.R_reads' hl).2.1); have HBL := a_ hb; replace l := a_ (below_then l.out l.out.size hb); (try (replace HL := a_ (Kd.R_below HL.out hb))); (try (replace HP := a_ (Kd.R_below HP.out hb))); clear hl hb))
 obtain ⟨ad, e, h1, E⟩ := at_P54 (Kd.R_reads' HL.out).2.2 0 (by decide) (by decide)
 cases e; have O := h1; have R := E; have T := (Kd.R_celln 0 HP.out 0 (by decide) (by decide)).1
 have U := (Kd.R_celln 0 HP.out 1 (by decide) (by decide)).1
 clear h1 E; go_upto_region 5 with (fail)
 refine q_s 48 (S := fun W' => cg2 W' gl (.int .i64 0) (.int .i64 1) (cg2_ W' gp (.int .i64 0) (.int .i64 1))) ⟨O, R, T, U⟩ (fun y => ?_)
 refine with_tabW aw.tab5 aw.bits5 (fun b z => ?_)
 refine qv_ 0 b ?_
 refine qv_ 1 b ?_
 refine qv_ 2 b ?_
 refine qv_ 3 b ?_
 refine qv_ 4 b ?_
 refine qv_ 5 b ?_
 refine qv_ 6 b ?_
 refine qv_ 7 b ?_
 refine qv_ 8 b ?_
 refine qv_ 9 b ?_
 refine qv_ 10 b ?_
 refine qv_ 11 b ?_
 refine qv_ 12 b ?_
 refine qv_ 13 b ?_
 refine qv_ 14 b ?_
 refine qv_ 15 b ?_
 refine qv_ 16 b ?_
 refine qv_ 17 b ?_
 refine qv_ 18 b ?_
 refine qv_ 19 b ?_
 refine qv_ 20 b ?_
 refine qv_ 21 b ?_
 refine qv_ (v := pairV (0, 1)) 23 b ?_ (hy := by intro w'; go_simp; first | done | rfl)
 refine qt_ (v := pairV (0, 1)) 22 b z y ?_ (hy := by intro w' X; exact run_loadP rfl rfl rfl X.1 X.2.1)
 refine qv_ (v := .bool true) 24 b ?_ (hy := by intro w'; exact (run_eqP (p := (0, 1)) (q := (0, 1)) rfl rfl rfl w').trans rfl)
 refine qv_ 25 b ?_
 refine qv_ 26 b ?_
 refine qv_ 27 b ?_
 refine qv_ 28 b ?_
 refine qv_ 29 b ?_
 refine qv_ 30 b ?_
 refine qv_ 31 b ?_
 refine qv_ 32 b ?_
 refine qv_ 33 b ?_
 refine qv_ 35 b ?_
 refine qv_ 36 b ?_
 refine qt_ 34 b z y ?_
 refine qt_ 37 b z y ?_
 refine qv_ 38 b ?_
 refine qv_ 39 b ?_
 refine qv_ 40 b ?_
 refine qv_ 41 b ?_
 refine qv_ 42 b ?_
 refine qv_ 43 b ?_
 refine qv_ 44 b ?_
 refine qv_ 45 b ?_
 refine qv_ 46 b ?_
 refine qv_ 47 b ?_
 refine done_ (done_of b.out (by kernel_rfl)) ?_
 clear b z y; go_wp2
 (try simp only [Exit.inBlock, Exit.then])
 refine bodyPost_ret (results_tmp rfl _ _ _) rfl ?_
 exact ⟨rfl, below_drew1 l.out⟩
end Go.Proofs.YtefhpdcafdhcaaaDoor.S
end
section
namespace Go.Proofs.YtefhpdcafdhcaaaDoor.S
open Go Go.RowKit Go.Proofs Go.Proofs.YtefhpdcafdhcaaaDoorW.PrintWords Go.Proofs.YtefhpdcafdhcaaaDoorW.PrintLast Go.Proofs.YtefhpdcafdhcaaaDoorW.PrintMore Go.Proofs.YtefhpdcafdhcaaaDoor Go.Proofs.YtefhpdcafdhcaaaDoor.A FlowM
set_option linter.unusedVariables false
set_option linter.unusedSimpArgs false
abbrev WideB (w : World) (v : Value) (b : Bool) : Prop := ∀ w0, Below w.heap.size w w0 → Calls Tryd.prog 7 #[v] w0 fun e w' => e = .returned (.bool b) ∧ Below w0.heap.size w0 w'
abbrev ErrB (w : World) (v : Value) (x : Int) : Prop := ∀ w0, Below w.heap.size w w0 → Calls Tryd.prog 10 #[v] w0 fun e w' => e = .returned (.int .i64 x) ∧ Below w0.heap.size w0 w'
abbrev AwB (w : World) : Prop := ∀ w0, Below w.heap.size w w0 → Calls Tryd.prog 8 #[] w0 fun e w' => e = .returned (.bool true) ∧ Below w0.heap.size w0 w'
end Go.Proofs.YtefhpdcafdhcaaaDoor.S
end
section
namespace Go.Proofs.YtefhpdcafdhcaaaDoor.M
open Go Go.RowKit Go.Proofs.YtefhpdcafdhcaaaDoorW.PrintWords Go.Proofs.YtefhpdcafdhcaaaDoorW.PrintLast Go.Proofs.YtefhpdcafdhcaaaDoorW.PrintMore Go.Proofs.YtefhpdcafdhcaaaDoor Go.Proofs.YtefhpdcafdhcaaaDoor.A Go.Proofs.YtefhpdcafdhcaaaDoor.B Go.Proofs.YtefhpdcafdhcaaaDoor.N Go.Proofs.YtefhpdcafdhcaaaDoor.V Go.Proofs.YtefhpdcafdhcaaaDoor.S
open FlowM (next Fine FineNd FineG Live liveF after listOf mem_listOf after_bit)
theorem sameInts_ev {l : List Int} (hl : l.length ≤ 2048) : ∀ (m j : Nat), j + m = l.length → Evt (fun k => r5_SameInts.l0 k l l (j : Int)) true
 | 0, j, h => by {
 refine Evt.succ ?_
 simp only [r5_SameInts.l0]
 exact Evt.neg (by omega) (Evt.const _)}
 | m + 1, j, h => by {
 refine Evt.succ ?_
 simp only [r5_SameInts.l0]
 refine Evt.pos (by omega) (Evt.pos (by omega) (Evt.pos (by omega) (Evt.pos trivial ?_)))
 rw [wrap_succ j (by omega)]
 exact sameInts_ev hl m (j + 1) (by omega)}
theorem flow_cases (nm : ByteArray) {ps : List S83} {ar : List S85} (rg : Int) {N : List S69} (hB : Big ps ar N) (hI : Ints N) :
  Evt (fun k => l11_wide.f k nm ps ar rg N) true ∨
  (Small nm ps ar N ∧ Evt (fun k => l11_wide.f k nm ps ar rg N) false ∧ ∃ e : Int, e ≠ 0 ∧ Evt (fun k => r11_Error.f k nm ps ar rg N) e ∧ Evt (fun k => alloc_fits.f k nm ps ar rg N) e) ∨
  (Small nm ps ar N ∧ Evt (fun k => l11_wide.f k nm ps ar rg N) false ∧ Evt (fun k => r11_Error.f k nm ps ar rg N) 0 ∧ Evt (fun k => alloc_fits.f k nm ps ar rg N) 0 ∧ VF nm ps ar rg N ∧ Evt (fun k => flow_Valid.f k nm ps ar rg N) true ∧ rg ≤ 300 ∧ ∀ n ∈ N, ∀ y ∈ n.f0, y.f0 ≠ 11) := by
 obtain ⟨b, hW, hS⟩ := wide_ev nm rg hB; cases b with
 | true => (
 left
 unfold l11_wide.f
 exact Evt.bind hW (Evt.pos rfl (Evt.const _)))
 | false => (
 have hs := hS rfl; obtain ⟨v, hR, hF, _⟩ := valid_ev nm rg hs hI; obtain ⟨e, hE, hA, p⟩ := err_ev nm rg hs hI; by_cases l : rg > 300
 {
 cases v with
 | true => (
 left
 unfold l11_wide.f
 exact Evt.bind hW (Evt.neg (by simp) (Evt.pos l (Evt.bind hR (Evt.const _)))))
 | false => (
 right; left
 refine ⟨hs, ?_, e, fun he => ?_, hE, hA⟩
 {
 unfold l11_wide.f
 exact Evt.bind hW (Evt.neg (by simp) (Evt.pos l (Evt.bind hR (Evt.const _))))}
 {
 have := Evt.uniq hF (p he).2.1
 cases this})}
 {
 have hw : Evt (fun k => l11_wide.f k nm ps ar rg N) false := by {
 unfold l11_wide.f
 exact Evt.bind hW (Evt.neg (by simp) (Evt.neg l (Evt.const _)))}
 right
 by_cases he : e = 0
 {
 right
 subst he; obtain ⟨h1, h2, h4⟩ := p rfl; exact ⟨hs, hw, hE, hA, h1, h2, by omega, h4⟩}
 {
 left
 exact ⟨hs, hw, e, he, hE, hA⟩}})
section
variable {nm : ByteArray} {ps : List S83} {ar : List S85} {rg : Int} {N : List S69} {w : World} {A1 : Option Addr} {c1 : Nat} {A2 : Option Addr} {c2 : Nat} {A4 : Option Addr} {c4 : Nat}
variable (h1 : Kd.C k83 w A1 ps.length ps) (hc1 : ps.length ≤ c1) (h2 : Kd.C k85 w A2 ar.length ar) (hc2 : ar.length ≤ c2) (h4 : Kd.C k69 w A4 N.length N) (hc4 : N.length ≤ c4)
include h1 hc1 h2 hc2 h4 hc4
theorem wideB_of {b : Bool} (h : Evt (fun k => l11_wide.f k nm ps ar rg N) b) : WideB w (.agg #[.string nm, .slice A1 ps.length c1, .slice A2 ar.length c2, .int .i64 rg, .slice A4 N.length c4]) b := by
 obtain ⟨k, hk⟩ := h.get; intro w0 hb
 exact l11_wide.calls k nm A1 c1 ps A2 c2 ar rg A4 c4 N b w0 ⟨Kd.C_below h1 hb, hc1, Kd.C_below h2 hb, hc2, Kd.C_below h4 hb, hc4⟩ hk
theorem errB_of {e : Int} (h : Evt (fun k => r11_Error.f k nm ps ar rg N) e) : ErrB w (.agg #[.string nm, .slice A1 ps.length c1, .slice A2 ar.length c2, .int .i64 rg, .slice A4 N.length c4]) e := by
 obtain ⟨k, hk⟩ := h.get; intro w0 hb
 exact r11_Error.calls k nm A1 c1 ps A2 c2 ar rg A4 c4 N e w0 ⟨Kd.C_below h1 hb, hc1, Kd.C_below h2 hb, hc2, Kd.C_below h4 hb, hc4⟩ hk
variable (hT : Tab w)
include hT
omit h1 hc1 h2 hc2 h4 hc4 in
theorem awB_of : AwB w := by
 intro w0 hb
 exact awakeC w0 (hT.below hb)
end
end Go.Proofs.YtefhpdcafdhcaaaDoor.M
end
section
namespace Go.Proofs.YtefhpdcafdhcaaaDoor.M
open Go Go.RowKit Go.Proofs.YtefhpdcafdhcaaaDoorW.PrintWords Go.Proofs.YtefhpdcafdhcaaaDoorW.PrintLast Go.Proofs.YtefhpdcafdhcaaaDoorW.PrintMore Go.Proofs.YtefhpdcafdhcaaaDoor Go.Proofs.YtefhpdcafdhcaaaDoor.A Go.Proofs.YtefhpdcafdhcaaaDoor.B
open FlowM (next hasD hasA hasB Fine FineNd FineG Live scan uses sets scan_mono LiveAt)
section
variable (nm : ByteArray) {ps : List S83} {ar : List S85} (rg : Int) {N : List S69}
theorem getD_sb {l : List Bool} {i j : Nat} (hi : i < l.length) : (l.set i true).getD j false = (l.getD j false || decide (i = j)) := by
 rw [List.getD_eq_getElem?_getD, List.getD_eq_getElem?_getD, List.getElem?_set]; by_cases h : i = j
 ·subst h; rw [if_pos rfl, if_pos hi, decide_eq_true rfl, Bool.or_true]; rfl
 ·rw [if_neg h, decide_eq_false h, Bool.or_false]
def anyOf (x : List Bool) (L : List Int) : Bool := L.any fun m => x.getD m.toNat false
theorem rdOf_getD (x : List Bool) (m : Int) : rdOf false x m = x.getD m.toNat false := rfl
theorem out_ev {x : List Bool} {L : List Int} (hL : L.length ≤ 2) (hx : ∀ m ∈ L, 0 ≤ m ∧ m < (x.length : Int)) : ∀ (m i : Nat), i + m = L.length → Evt (fun k => r11_out.l0 k x L (i : Int)) (anyOf x (L.drop i))
 | 0, i, hm => by {
 refine Evt.succ ?_
 simp only [r11_out.l0]
 rw [List.drop_of_length_le (by omega)]
 exact Evt.neg (by omega) (Evt.const _)}
 | m + 1, i, hm => by {
 have hi : i < L.length := by omega
 have h := hx L[i] (List.getElem_mem _); refine Evt.succ ?_
 simp only [r11_out.l0]
 refine Evt.pos (by omega) (Evt.pos (by omega) ?_)
 rw [show rd L (i : Int) = L[i] by simp [rd, hi]]
 refine Evt.pos h.1 (Evt.pos h.2 ?_)
 rw [rdOf_getD, List.drop_eq_getElem_cons hi, wrap_succ i (by omega)]
 unfold anyOf
 rw [List.any_cons]; have ih := out_ev hL hx m (i + 1) (by omega)
 by_cases b : x.getD L[i].toNat false = true
 ·rw [b]; exact Evt.pos (by trivial) (Evt.const _)
 ·rw [Bool.not_eq_true] at b; rw [b, Bool.false_or]; exact Evt.neg (by simp) ih}
theorem rout_ev {x : List Bool} {i : Nat} (hi : i < N.length) (hxl : x.length = N.length) (hT : ∀ n ∈ N, ∀ m ∈ next n, 0 ≤ m ∧ m < (N.length : Int)) : Evt (fun k => r11_out.f k nm ps ar rg N x (i : Int)) (anyOf x (next N[i])) := by
 have hr : rd_T69 N (i : Int) = N[i] := by simp [rd_T69, hi]
 unfold r11_out.f
 refine Evt.pos (by omega) (Evt.pos (by omega) ?_)
 rw [hr, rnext_r]; simp only [Option.bind_some]
 have := out_ev (x := x) (next_le N[i]) (fun m hm => by rw [hxl]; exact hT _ (List.getElem_mem _) m hm) (next N[i]).length 0 (by omega)
 rw [List.drop_zero] at this; exact this
theorem ruses_ev {m : Nat} {y : S71} (h : Fine m y) (r : Int) : Evt (fun k => r11_Uses.f k y.f0 y.f1 y.f2 y.f3 y.f4 y.f5 y.f6 r) (uses y r) := by
 unfold r11_Uses.f uses
 refine Evt.bind (has_ev h.1 h.2.1) ?_
 cases hA : hasA y.f0 <;> cases hB : hasB y.f0 <;> simp only [Bool.true_and, Bool.false_and, Bool.false_or, Bool.or_false]
 ·exact Evt.neg (by simp) (Evt.neg (by simp) (Evt.const _))
 ·exact Evt.neg (by simp) (Evt.pos (by trivial) (Evt.const _))
 ·by_cases e : y.f3 = r
  ·rw [show (y.f3 == r) = true by simpa using e]
   exact Evt.pos (by trivial) (Evt.pos e (Evt.const _))
  ·rw [show (y.f3 == r) = false by simpa using e]
   exact Evt.pos (by trivial) (Evt.neg e (Evt.neg (by simp) (Evt.const _)))
 ·by_cases e : y.f3 = r
  ·rw [show (y.f3 == r) = true by simpa using e, Bool.true_or]
   exact Evt.pos (by trivial) (Evt.pos e (Evt.const _))
  ·rw [show (y.f3 == r) = false by simpa using e, Bool.false_or]
   exact Evt.pos (by trivial) (Evt.neg e (Evt.pos (by trivial) (Evt.const _)))
theorem rsets_ev {m : Nat} {y : S71} (h : Fine m y) (r : Int) : Evt (fun k => r11_Sets.f k y.f0 y.f1 y.f2 y.f3 y.f4 y.f5 y.f6 r) (sets y r) := by
 unfold r11_Sets.f sets
 refine Evt.bind (has_ev h.1 h.2.1) ?_
 cases hD : hasD y.f0
 ·exact Evt.neg (by simp) (Evt.const _)
 ·exact Evt.pos (by trivial) (by simpa using Evt.const _)
theorem before_ev {m : Nat} {n : S69} (hF : ∀ y ∈ n.f0, Fine m y) (hl : n.f0.length ≤ 1000) (r : Int) (out : Bool) : ∀ (rest : List S71) (i : Nat), n.f0.drop i = rest → Evt (fun k => r11_before.l0 k (i : Int) r out n.f0 n.f1 n.f2 n.f3 n.f4) (scan n r out rest)
 | [], i, hd => by {
 have := drop_nil_ge hd
 refine Evt.succ ?_
 simp only [r11_before.l0]
 refine Evt.neg (by omega) ?_
 rw [scan]; by_cases h1 : n.f1 = 1
 {
 rw [show (n.f1 == 1) = true by simpa using h1, Bool.true_and]
 refine Evt.pos h1 ?_
 by_cases b : n.f2 = r
 {
 rw [show (n.f2 == r) = true by simpa using b, Bool.true_or]
 exact Evt.pos b (Evt.const _)}
 {
 rw [show (n.f2 == r) = false by simpa using b, Bool.false_or]
 exact Evt.neg b (Evt.const _)}}
 {
 rw [show (n.f1 == 1) = false by simpa using h1, Bool.false_and, Bool.false_or]
 exact Evt.neg h1 (Evt.const _)}}
 | y :: rest, i, hd => by {
 obtain ⟨hr, hi, l⟩ := rd71_drop hd; have hm : y ∈ n.f0 := by rw [← List.take_append_drop i n.f0, hd]; simp
 have hf := hF y hm; refine Evt.succ ?_
 simp only [r11_before.l0]
 refine Evt.pos (by omega) (Evt.pos (by omega) ?_)
 rw [hr, wrap_succ i (by omega), scan]
 refine Evt.bind (ruses_ev hf r) ?_
 by_cases h1 : uses y r = true
 ·rw [if_pos h1]; exact Evt.pos h1 (Evt.const _)
 {
 rw [if_neg h1]; refine Evt.neg h1 (Evt.bind (rsets_ev hf r) ?_)
 by_cases b : sets y r = true
 ·rw [if_pos b]; exact Evt.pos b (Evt.const _)
 ·rw [if_neg b]; exact Evt.neg b (before_ev hF hl r out rest (i + 1) l)}}
theorem rbefore_ev {m : Nat} {n : S69} (hF : ∀ y ∈ n.f0, Fine m y) (hl : n.f0.length ≤ 1000) (r : Int) (out : Bool) (i : Nat) : Evt (fun k => r11_before.f k n.f0 n.f1 n.f2 n.f3 n.f4 (i : Int) r out) (scan n r out (n.f0.drop i)) := by
 unfold r11_before.f
 exact before_ev hF hl r out _ i rfl
def LiveRow (N : List S69) (r : Nat) (x : List Bool) : Prop := x.length = N.length ∧ ∀ i, i < N.length → (x.getD i false = true ↔ Live N (r : Int) i)
theorem anyOf_iff {x : List Bool} {L : List Int} (b : ∀ m ∈ L, 0 ≤ m) : anyOf x L = true ↔ ∃ k : Nat, (k : Int) ∈ L ∧ x.getD k false = true := by
 unfold anyOf
 rw [List.any_eq_true]; constructor
 ·rintro ⟨m, hm, h⟩
  exact ⟨m.toNat, by rw [Int.toNat_of_nonneg (b m hm)]; exact hm, h⟩
 ·rintro ⟨k, hk, h⟩
  exact ⟨k, hk, by simpa using h⟩
variable {rg}
theorem into_end {r : Nat} {x : List Bool} (hF : FineG rg.toNat N) (hx : x.length = N.length) (hsnd : ∀ i, i < N.length → x.getD i false = true → Live N (r : Int) i)
  (hcl : ∀ j (h : j < N.length), x.getD j false = false → scan N[j] r (anyOf x (next N[j])) N[j].f0 = false) : LiveRow N r x := by
 refine ⟨hx, fun i hi => ⟨hsnd i hi, fun h => ?_⟩⟩
 refine Live.least (fun i => x.getD i false) (fun j hj out hs ho => ?_) h
 show x.getD j false = true
 cases hxj : x.getD j false with
 | true => rfl
 | false =>
  have h1 := hcl j hj hxj; rw [scan_mono (o' := anyOf x (next N[j])) (fun h => (anyOf_iff (fun m hm => ((hF _ (List.getElem_mem _)).2.2 m hm).1)).2 (ho h)) hs] at h1
  cases h1
theorem into_inner {r : Nat} {c : Nat} (hF : FineG rg.toNat N) (hs : ∀ n ∈ N, n.f0.length ≤ 1000) (hN : N.length ≤ 1000)
  (hout : ∀ x' : List Bool, x'.length = N.length → (∀ i, i < N.length → x'.getD i false = true → Live N (r : Int) i) → c < cnt x' → ∃ z, LiveRow N r z ∧ Evt (fun k => r11_into.l1 k (r : Int) x' false 0 nm ps ar rg N) z) :
  ∀ (m i : Nat), i + m = N.length → ∀ (x : List Bool) (again : Bool), x.length = N.length → (∀ i, i < N.length → x.getD i false = true → Live N (r : Int) i) → c ≤ cnt x → (again = true → c < cnt x) →
   (again = false → ∀ j (h : j < N.length), j < i → x.getD j false = false → scan N[j] r (anyOf x (next N[j])) N[j].f0 = false) → ∃ z, LiveRow N r z ∧ Evt (fun k => r11_into.l1 k (r : Int) x again (i : Int) nm ps ar rg N) z
 | 0, i, hm, x, again, hx, hsnd, hc, ha, hcl => by {
 cases again with
 | true => (
 obtain ⟨z, hz, he⟩ := hout x hx hsnd (ha rfl); refine ⟨z, hz, Evt.succ ?_⟩
 simp only [r11_into.l1]
 refine Evt.neg (by omega) (Evt.succ ?_)
 simp only [r11_into.l0]
 exact Evt.pos (by trivial) he)
 | false => (
 refine ⟨x, into_end hF hx hsnd (fun j hj => hcl rfl j hj (by omega)), Evt.succ ?_⟩
 simp only [r11_into.l1]
 refine Evt.neg (by omega) (Evt.succ ?_)
 simp only [r11_into.l0]
 exact Evt.neg (by simp) (Evt.const _))}
 | m + 1, i, hm, x, again, hx, hsnd, hc, ha, hcl => by {
 have hi : i < N.length := by omega
 have hT : ∀ n ∈ N, ∀ m ∈ next n, 0 ≤ m ∧ m < (N.length : Int) := fun n hn => (hF n hn).2.2
 have hr : rd_T69 N (i : Int) = N[i] := by simp [rd_T69, hi]
 have hmem : N[i] ∈ N := List.getElem_mem _
 have hrd : rdOf false x (i : Int) = x.getD i false := rfl
 by_cases hxi : x.getD i false = true
 {
 obtain ⟨z, hz, he⟩ := into_inner hF hs hN hout m (i + 1) (by omega) x again hx hsnd hc ha (fun h j hj hji hxj => by
  by_cases e : j = i
  ·subst e; rw [hxi] at hxj; cases hxj
  ·exact hcl h j hj (by omega) hxj)
 refine ⟨z, hz, Evt.succ ?_⟩
 simp only [r11_into.l1]
 refine Evt.pos (by omega) (Evt.pos (by omega) (Evt.pos (by omega) (Evt.pos (by rw [hrd]; exact hxi) ?_)))
 rw [wrap_succ i (by omega)]
 exact he}
 {
 rw [Bool.not_eq_true] at hxi; by_cases hsc : scan N[i] r (anyOf x (next N[i])) N[i].f0 = true
 {
 have hlen : (x.set i true).length = N.length := by rw [List.length_set, hx]
 have hcnt := cnt_set x i (by omega) hxi
 obtain ⟨z, hz, he⟩ := into_inner hF hs hN hout m (i + 1) (by omega) (x.set i true) true hlen (fun j hj h => by
  rw [getD_sb (by omega)] at h
  by_cases e : i = j
  ·subst e; refine Live.of hi (anyOf x (next N[i])) (fun h => ?_) hsc
   obtain ⟨k, hk, b⟩ := (anyOf_iff (fun m hm => (hT _ hmem m hm).1)).1 h
   exact ⟨k, hk, hsnd k (by have := (hT _ hmem k hk).2; omega) b⟩
  ·rw [decide_eq_false e, Bool.or_false] at h; exact hsnd j hj h) (by omega) (fun _ => by omega) (fun h => by cases h)
 refine ⟨z, hz, Evt.succ ?_⟩
 simp only [r11_into.l1]
 refine Evt.pos (by omega) (Evt.pos (by omega) (Evt.pos (by omega) (Evt.neg (by rw [hrd, hxi]; simp) (Evt.bind (rout_ev nm rg hi hx hT) ?_))))
 rw [hr]; refine Evt.bind (rbefore_ev (hF _ hmem).1 (hs _ hmem) r _ 0) ?_
 rw [List.drop_zero, hsc, wrap_succ i (by omega), Int.toNat_natCast]
 exact Evt.pos (by trivial) he}
 {
 rw [Bool.not_eq_true] at hsc; obtain ⟨z, hz, he⟩ := into_inner hF hs hN hout m (i + 1) (by omega) x again hx hsnd hc ha (fun h j hj hji hxj => by
  by_cases e : j = i
  ·subst e; exact hsc
  ·exact hcl h j hj (by omega) hxj)
 refine ⟨z, hz, Evt.succ ?_⟩
 simp only [r11_into.l1]
 refine Evt.pos (by omega) (Evt.pos (by omega) (Evt.pos (by omega) (Evt.neg (by rw [hrd, hxi]; simp) (Evt.bind (rout_ev nm rg hi hx hT) ?_))))
 rw [hr]; refine Evt.bind (rbefore_ev (hF _ hmem).1 (hs _ hmem) r _ 0) ?_
 rw [List.drop_zero, hsc, wrap_succ i (by omega)]
 exact Evt.neg (by simp) he}}}
theorem into_round {r : Nat} (hF : FineG rg.toNat N) (hs : ∀ n ∈ N, n.f0.length ≤ 1000) (hN : N.length ≤ 1000) : ∀ (d : Nat) (x : List Bool), x.length = N.length → (∀ i, i < N.length → x.getD i false = true → Live N (r : Int) i) → N.length - cnt x ≤ d →
  ∃ z, LiveRow N r z ∧ Evt (fun k => r11_into.l1 k (r : Int) x false 0 nm ps ar rg N) z
 | 0, x, hx, hsnd, hd => into_inner nm hF hs hN (c := cnt x) (fun x' hx' _ hc => by have := cnt_le x'; omega) N.length 0 (by omega) x false hx hsnd (Nat.le_refl _) (fun h => by cases h) (fun _ j _ h => by omega)
 | d + 1, x, hx, hsnd, hd => into_inner nm hF hs hN (c := cnt x) (fun x' hx' hs' hc => into_round hF hs hN d x' hx' hs' (by omega)) N.length 0 (by omega) x false hx hsnd (Nat.le_refl _) (fun h => by cases h) (fun _ j _ h => by omega)
theorem into_ev {r : Nat} (hF : FineG rg.toNat N) (hs : ∀ n ∈ N, n.f0.length ≤ 1000) (hN : N.length ≤ 1000) : ∃ z, LiveRow N r z ∧ Evt (fun k => r11_into.f k nm ps ar rg N (r : Int)) z := by
 have b : ∀ i, (List.replicate N.length false).getD i false = false := fun i => by rw [List.getD_eq_getElem?_getD, List.getElem?_replicate]; split <;> rfl
 obtain ⟨z, hz, he⟩ := into_round nm (ps := ps) (ar := ar) (r := r) hF hs hN N.length (List.replicate N.length false) (by simp) (fun i _ h => by rw [b] at h; cases h) (by omega)
 refine ⟨z, hz, ?_⟩
 unfold r11_into.f
 refine Evt.pos (by omega) (Evt.pos (by rw [Int.toNat_natCast]; omega) (Evt.succ ?_))
 simp only [r11_into.l0, Int.toNat_natCast]
 exact Evt.pos (by trivial) he
def LiveAll (N : List S69) (g : Nat) (LV : List (List Bool)) : Prop := LV.length = g ∧ ∀ r, r < g → LiveRow N r (LV.getD r [])
theorem rlive_loop {g : Nat} (hg : g ≤ 2000) (hF : FineG g N) (hs : ∀ n ∈ N, n.f0.length ≤ 1000) (hN : N.length ≤ 1000) : ∀ (m r : Nat), r + m = g → ∀ LV : List (List Bool), LiveAll N r LV → ∃ z, LiveAll N g z ∧ Evt (fun k => r11_Live.l0 k LV (r : Int) nm ps ar (g : Int) N) z
 | 0, r, hm, LV, h => by {
 refine ⟨LV, by rw [show g = r by omega]; exact h, Evt.succ ?_⟩
 simp only [r11_Live.l0]
 exact Evt.neg (by omega) (Evt.const _)}
 | m + 1, r, hm, LV, h => by {
 obtain ⟨z, hz, he⟩ := into_ev (rg := (g : Int)) nm (ps := ps) (ar := ar) (r := r) (by rw [Int.toNat_natCast]; exact hF) hs hN
 obtain ⟨w, hw, hv⟩ := rlive_loop hg hF hs hN m (r + 1) (by omega) (LV ++ [z]) ⟨by simp [h.1], fun q hq => by
  rw [List.getD_eq_getElem?_getD, List.getElem?_append]; by_cases e : q < r
  ·rw [if_pos (by rw [h.1]; exact e), ← List.getD_eq_getElem?_getD]
   exact h.2 q e
  ·obtain rfl : q = r := by omega
   rw [if_neg (by rw [h.1]; omega), h.1, Nat.sub_self]
   exact hz⟩
 refine ⟨w, hw, Evt.succ ?_⟩
 simp only [r11_Live.l0]
 refine Evt.pos (by omega) (Evt.bind he (Evt.pos (by rw [h.1]; omega) ?_))
 rw [wrap_succ r (by omega)]
 exact hv}
theorem rlive_ev {g : Nat} (hg : g ≤ 2000) (hF : FineG g N) (hs : ∀ n ∈ N, n.f0.length ≤ 1000) (hN : N.length ≤ 1000) : ∃ z, LiveAll N g z ∧ Evt (fun k => r11_Live.f k nm ps ar (g : Int) N) z := by
 unfold r11_Live.f
 exact rlive_loop nm hg hF hs hN g 0 (by omega) [] ⟨rfl, fun r h => by omega⟩
end
end Go.Proofs.YtefhpdcafdhcaaaDoor.M
end
section
namespace Go.Proofs.YtefhpdcafdhcaaaDoor.S
open Go Go.RowKit Go.Proofs Go.Proofs.YtefhpdcafdhcaaaDoorW.PrintWords Go.Proofs.YtefhpdcafdhcaaaDoorW.PrintLast Go.Proofs.YtefhpdcafdhcaaaDoorW.PrintMore Go.Proofs.YtefhpdcafdhcaaaDoor Go.Proofs.YtefhpdcafdhcaaaDoor.A FlowM
set_option linter.unusedVariables false
set_option linter.unusedSimpArgs false
def sp.T6 : Bool × List (List Nat × List Nat) := (true, [([], []), ([], []), ([0, 1], [0, 1]), ([2], [2]), ([], []), ([], []), ([4, 5], [4, 5]), ([6], [6]), ([3, 7], [3, 7])])
def sp.B6 : List Nat := [0, 0, 3, 7, 0, 0, 48, 112, 255]
theorem sp.tab6 : rtab .any (opsOf Tryd.f22 6) = sp.T6 := by kernel_rfl
theorem sp.bits6 : waitsOk sp.T6.2 sp.B6 = true := by kernel_rfl
theorem spot_add {ad : Addr} {i : Nat} {W : World} {v : Value} (h : W.cell? (ad.add i) = some v) : (ad.add i).spot = none := by
 unfold World.cell? at h
 cases hs : (ad.add i).spot with
 | none => rfl
 | some x => rw [hs] at h; split at h <;> simp at h
theorem drop_eq {α : Type} [DecidableEq α] {l m : List α} {j : Nat} {z : α} (hl : l.length = m.length) (hj : j < l.length) : (l.drop j = m.drop j) ↔ (l.getD j z = m.getD j z ∧ l.drop (j + 1) = m.drop (j + 1)) := by
 have b : j < m.length := by omega
 rw [List.drop_eq_getElem_cons hj, List.drop_eq_getElem_cons b, List.cons.injEq, List.getD_eq_getElem?_getD, List.getElem?_eq_getElem hj, List.getD_eq_getElem?_getD, List.getElem?_eq_getElem b]; rfl
theorem samePairsC (w : World) (V : Option Addr) (c0 : Nat) (l0 : List (Int × Int)) (X : Option Addr) (c1 : Nat) (l1 : List (Int × Int)) (J : Kd.C k54 w V l0.length l0) (L : Kd.C k54 w X l1.length l1) (hl : l0.length ≤ 9000000) :
  Calls Tryd.prog 22 #[.slice V l0.length c0, .slice X l1.length c1] w fun e w' => e = .returned (.bool (decide (l0 = l1))) ∧ Below w.heap.size w w' := by
 obtain ⟨b, hb⟩ : ∃ b, b = decide (l0 = l1) := ⟨_, rfl⟩; rw [← hb]; have HBV := a_ hb; have O := a_ J; have R := a_ L; have HL := a_ hl; clear hb J L hl; by_cases hlen : l0.length = l1.length
 case neg => (
 have c2 : ((l0.length : Int) != (l1.length : Int)) = true := bne_iff_ne.mpr (by omega)
 have HBF : Aside0 (b = false) := ⟨by rw [HBV.out]; exact decide_eq_false (fun e => hlen (by rw [e]))⟩
 clear hlen; go_enter Tryd.func22, Tryd.ntmps22
 go_wp2
 (try simp only [Exit.inBlock, Exit.then])
 refine bodyPost_ret (results_tmp rfl _ _ _) rfl ?_
 rw [HBF.out]; exact ⟨rfl, Below.refl _ _⟩)
 case pos => (
 have c2 : ((l0.length : Int) != (l1.length : Int)) = false := bne_eq_false_iff_eq.mpr (by omega)
 have HLEN := a_ hlen; clear hlen; go_enter Tryd.func22, Tryd.ntmps22
 go_wp2
 clear c2; go_loopg [5] l0.length (fun gk v5 wx => ∃ x : Int, v5 = .int .i64 x ∧ Aside0 (∃ j : Nat, x = (j : Int) ∧ j + gk = l0.length ∧ (l0 = l1 ↔ l0.drop j = l1.drop j)) ∧ Aside0 (Below w.heap.size w wx))
 case atStart => exact ⟨0, rfl, ⟨0, rfl, by omega, Iff.rfl⟩, ⟨Below.refl _ _⟩⟩
 case round => (
 obtain ⟨x, rfl, ⟨j, hx, hj, hi⟩, G⟩ := hrel; have HX := a_ hx; have HJ := a_ hj; cases gk with
 | zero => (
 have c3 : decide (x < (l0.length : Int)) = false := decide_eq_false (by omega)
 have HBF : Aside0 (b = true) := ⟨by rw [HBV.out]; exact decide_eq_true (hi.2 (by rw [List.drop_of_length_le (by omega), List.drop_of_length_le (by have := HLEN.out; omega)]))⟩
 clear hx hj hi; go_wp2
 (try simp only [Exit.inBlock, Exit.then])
 refine bodyPost_ret (results_tmp rfl _ _ _) rfl ?_
 rw [HBF.out]; exact ⟨rfl, G.out⟩)
 | succ gO => (
 have c3 : decide (x < (l0.length : Int)) = true := decide_eq_true (by omega)
 have N : 0 ≤ x := by omega
 have T : x < (l0.length : Int) := by omega
 have U : x < (l1.length : Int) := by have := HLEN.out; omega
 obtain ⟨ada, ea, B, E⟩ := at_P54 O.out x N T; obtain ⟨adb, eb, D, F⟩ := at_P54 R.out x N U; cases ea; cases eb; obtain ⟨p, hp⟩ : ∃ p, p = rd_P l0 x := ⟨_, rfl⟩; obtain ⟨q, hq⟩ : ∃ q, q = rd_P l1 x := ⟨_, rfl⟩; rw [← hp] at B E
 rw [← hq] at D F
 have HSA := a_ (spot_add B); have HSB := a_ (spot_add D); replace B := cell_old B G.out; replace E := cell_old E G.out; replace D := cell_old D G.out; replace F := cell_old F G.out; have hde := drop_eq (z := ((0, 0) : Int × Int)) HLEN.out (show j < l0.length by omega)
 have HP : Aside0 (p = l0.getD j (0, 0)) := ⟨by rw [hp, rd_P, hx]; rfl⟩
 have HQ : Aside0 (q = l1.getD j (0, 0)) := ⟨by rw [hq, rd_P, hx]; rfl⟩
 rw [← HP.out, ← HQ.out] at hde; have HDE := a_ hde; have HI := a_ hi; have hw : wrap64 (x + 1) = x + 1 := wrap64_id (by omega) (by have := HL.out; omega)
 obtain ⟨bq, hbq⟩ : ∃ bq : Bool, bq = !decide (p = q) := ⟨_, rfl⟩; have HBQ := a_ hbq; replace N := eq_true N; replace T := eq_true T; replace U := eq_true U; clear hx hj hi hp hq hde hbq; go_upto_region 6 with (fail)
 refine q_s 9 (S := fun W' => cp2 W' (ada.add (x.toNat * 2)) (.int .i64 p.1) (.int .i64 p.2) (cp2_ W' (adb.add (x.toNat * 2)) (.int .i64 q.1) (.int .i64 q.2))) ⟨B, E, D, F⟩ (fun y => ?_)
 refine with_tabW sp.tab6 sp.bits6 (fun l I => ?_)
 refine qv_ 0 l ?_
 refine qv_ 1 l ?_
 refine qv_ 2 l ?_
 refine qv_ 4 l ?_
 refine qv_ 5 l ?_
 refine qv_ 6 l ?_
 refine qt_ (v := pairV p) 3 l I y ?_ (hy := by intro w' M; exact run_loadP HSA.out rfl rfl M.1 M.2.1)
 refine qt_ (v := pairV q) 7 l I y ?_ (hy := by intro w' M; exact run_loadP HSB.out rfl rfl M.2.2.1 M.2.2.2)
 refine qv_ (v := .bool bq) 8 l ?_ (hy := by intro w'; rw [HBQ.out]; exact run_neP rfl rfl rfl w')
 refine done_ (done_of l.out (by kernel_rfl)) ?_
 clear l I y; cases bq with
 | true => (
 have HBF : Aside0 (b = false) := ⟨by
  have hne : ¬ p = q := by have := HBQ.out; simpa using this
  rw [HBV.out]; exact decide_eq_false (fun e => hne (HDE.out.1 (HI.out.1 e)).1)⟩
 go_wp2
 (try simp only [Exit.inBlock, Exit.then])
 refine bodyPost_ret (results_tmp rfl _ _ _) rfl ?_
 rw [HBF.out]; exact ⟨rfl, below_drew1 G.out⟩)
 | false => (
 have HEQ : Aside0 (l0 = l1 ↔ l0.drop (j + 1) = l1.drop (j + 1)) := ⟨by
  have heq : p = q := by have := HBQ.out; simpa using this
  exact HI.out.trans (HDE.out.trans ⟨fun h => h.2, fun h => ⟨heq, h⟩⟩)⟩
 go_wp2
 go_roundg gO
 case measure => omega
 case rel => exact ⟨x + 1, by go_num, ⟨j + 1, by rw [HX.out]; rfl, by have := HJ.out; omega, HEQ.out⟩, ⟨below_drew1 G.out⟩⟩))))
def refRow (cl : Int → Int → Option Bool) (a : Nat) : List Nat → List (Int × Int) → Option (List (Int × Int))
 | [], acc => some acc
 | b :: bs, acc => if acc.length ≤ 5000000 then (cl a b).bind fun t => refRow cl a bs (if t = true then acc ++ [((a : Int), (b : Int))] else acc) else none
def refAll (cl : Int → Int → Option Bool) (rg : Nat) : List Nat → List (Int × Int) → Option (List (Int × Int))
 | [], acc => some acc
 | a :: bs, acc => (refRow cl a (List.range' (a + 1) (rg - (a + 1))) acc).bind fun r => refAll cl rg bs r
abbrev LiveB (w : World) (v : Value) (lv : List (List Bool)) : Prop := ∀ w0, Below w.heap.size w w0 → Calls Tryd.prog 40 #[v] w0 fun e w' => ∃ b : Value, e = .returned (b) ∧ Kd.S (Kd.slice 4 Kd.bool) 37 w' w0.heap.size (fun _ => True) b lv ∧ Below w0.heap.size w0 w'
abbrev ClashB (w : World) (v : Value) (lv : List (List Bool)) (cl : Int → Int → Option Bool) : Prop := ∀ w0, Below w.heap.size w w0 → ∀ (l : Option Addr) (p : Nat), Kd.C (Kd.slice 4 Kd.bool) w0 l lv.length lv → lv.length ≤ p → ∀ a b t, cl a b = some t → Calls Tryd.prog 42 #[v, .slice l lv.length p, .int .i64 a, .int .i64 b] w0 fun e w' => e = .returned (.bool t) ∧ Below w0.heap.size w0 w'
theorem refClashesC (w : World) (nm : ByteArray) (M : Option Addr) (N p : Nat) (O : Option Addr) (S q : Nat) (rg : Nat) (T : Option Addr) (U z : Nat) (lv : List (List Bool)) (cl : Int → Int → Option Bool) (r : List (Int × Int)) (hL : LiveB w (.agg #[.string nm, .slice M N p, .slice O S q, .int .i64 (rg : Int), .slice T U z]) lv) (hC : ClashB w (.agg #[.string nm, .slice M N p, .slice O S q, .int .i64 (rg : Int), .slice T U z]) lv cl) (hrg : rg ≤ 2048) (h : refAll cl rg (List.range' 0 rg) [] = some r) :
  Calls Tryd.prog 23 #[(.agg #[.string nm, .slice M N p, .slice O S q, .int .i64 (rg : Int), .slice T U z])] w fun e w' => ∃ v : Value, e = .returned v ∧ Kd.R k54 54 w' w.heap.size (fun _ => True) v r ∧ Below w.heap.size w w' := by
 have HLV := a_ hL; have HCB := a_ hC; have HRG := a_ hrg; have HH := a_ h; clear hL hC hrg h; have e0 := Tryd.underlying26; go_enter Tryd.func23, Tryd.ntmps23
 go_wp2_with (first | ((with_reducible refine gd_ 1 rfl ?_); refine q_box 1 26 #[.string nm, .slice M N p, .slice O S q, .int .i64 (rg : Int), .slice T U z] ?_; intro g1 d1 w1 V X; have a0 := a_ V; have I := a_ X; clear d1 V X; obtain ⟨a1, a2, a3, a4, a5⟩ := q_c5 a0.out) | (go_at_call 40; (with_reducible refine (HLV.out _ I.out).mono ?_); rintro e G ⟨v3, rfl, J, L⟩; obtain ⟨A3, c3, rfl⟩ := Kd.S_slice J; have d4 := a_ J; have a6 := a_ (blk_below a0.out L); have B := a_ (below_then I.out I.out.size L); clear J L; obtain ⟨a7, a8, a9, b0, b1⟩ := q_c5 a6.out))
 go_loopg [4, 5] rg (fun gk v4 v5 wx => ∃ x : Int, v5 = .int .i64 x ∧ Aside0 (∃ (j : Nat) (xs : List (Int × Int)), x = (j : Int) ∧ j + gk = rg ∧ refAll cl rg (List.range' j gk) xs = some r ∧ Kd.R k54 54 wx G.heap.size (fun _ => True) v4 xs) ∧ Aside0 (wx.heap[g1]? = some (.cells #[.string nm, .slice M N p, .slice O S q, .int .i64 (rg : Int), .slice T U z] 26 (0, 0))) ∧ Aside0 (Below G.heap.size G wx))
 case atStart => exact ⟨0, rfl, ⟨0, [], rfl, by omega, HH.out, Kd.R_nil _ _ _ _ _⟩, a6, ⟨Below.refl _ _⟩⟩
 case round => (
 clear a1 a2 a3 a4 a5 a7 a8 a9 b0 b1; obtain ⟨x, rfl, ⟨j, xs, hx, hj, hA, hO⟩, BKx, HB⟩ := hrel; have HX := a_ hx; have HJ := a_ hj; have HO := a_ hO; obtain ⟨b2, b3, b4, b5, b6⟩ := q_c5 BKx.out; cases gk with
 | zero => (
 have c1 : decide (x < (rg : Int)) = false := decide_eq_false (by omega)
 have HRX : Aside0 (xs = r) := ⟨q_so hA⟩
 clear hx hj hA hO; go_wp2
 (try simp only [Exit.inBlock, Exit.then])
 refine bodyPost_ret (results_tmp rfl _ _ _) rfl ?_
 refine ⟨_, rfl, ?_, below_then B.out B.out.size HB.out⟩
 rw [← HRX.out]; exact Kd.R_lower HO.out B.out.size)
 | succ gO => (
 have c1 : decide (x < (rg : Int)) = true := decide_eq_true (by omega)
 have HWX : Aside0 (wrap64 (x + 1) = x + 1) := ⟨wrap64_id (by omega) (by have := HRG.out; omega)⟩
 rw [List.range'_succ, refAll, show rg - (j + 1) = gO by omega] at hA
 have HA := a_ hA; clear hx hj hA hO; go_wp2
 go_loopg [4, 6] gO (fun gz v4 v6 wz => ∃ y : Int, v6 = .int .i64 y ∧ Aside0 (∃ (i : Nat) (xs : List (Int × Int)), y = (i : Int) ∧ i + gz = rg ∧ (refRow cl j (List.range' i gz) xs).bind (fun r => refAll cl rg (List.range' (j + 1) gO) r) = some r ∧ Kd.R k54 54 wz G.heap.size (fun _ => True) v4 xs) ∧ Aside0 (wz.heap[g1]? = some (.cells #[.string nm, .slice M N p, .slice O S q, .int .i64 (rg : Int), .slice T U z] 26 (0, 0))) ∧ Aside0 (Below G.heap.size G wz))
 case atStart => exact ⟨wrap64 (x + 1), rfl, ⟨j + 1, xs, by rw [HWX.out, HX.out]; rfl, by have := HJ.out; omega, HA.out, HO.out⟩, BKx, HB⟩
 case round => (
 clear b2 b3 b4 b5 b6 c1; obtain ⟨y, rfl, ⟨i, xs, hy, hi, hA, hO⟩, BKy, HBy⟩ := hrel; have HY := a_ hy; have HI := a_ hi; have HOy := a_ hO; obtain ⟨e3, e4, e5, e6, e7⟩ := q_c5 BKy.out; cases gk with
 | zero => (
 have c1 : decide (y < (rg : Int)) = false := decide_eq_false (by omega)
 have d6 := a_ hA; clear hy hi hA hO; go_wp2
 go_roundg gO
 case measure => omega
 case rel => exact ⟨wrap64 (x + 1), rfl, ⟨j + 1, xs, by rw [HWX.out, HX.out]; rfl, by have := HJ.out; omega, d6.out, HOy.out⟩, BKy, HBy⟩)
 | succ gQ => (
 have c1 : decide (y < (rg : Int)) = true := decide_eq_true (by omega)
 have HWY : Aside0 (wrap64 (y + 1) = y + 1) := ⟨wrap64_id (by omega) (by have := HRG.out; omega)⟩
 rw [List.range'_succ, refRow] at hA; have hlm : xs.length ≤ 5000000 := by {
 by_cases hl : xs.length ≤ 5000000
 ·exact hl
 ·rw [if_neg hl] at hA; cases hA}
 rw [if_pos hlm] at hA; obtain ⟨r2, b7, b8⟩ := Option.bind_eq_some_iff.1 hA; obtain ⟨t, ht, b9⟩ := Option.bind_eq_some_iff.1 b7; have HLM := a_ hlm; have hVC := Kd.S_below d4.out HBy.out; have HVC : Aside0 (lv.length ≤ c3 ∧ Kd.C (Kd.slice 4 Kd.bool) wr A3 lv.length lv) := ⟨(Kd.S_reads' hVC).2⟩
 have HBW := a_ (below_then B.out B.out.size HBy.out); have HT : Aside0 (cl x y = some t) := ⟨by rw [HX.out, hy]; exact ht⟩
 have c0 : Aside0 ((refRow cl j (List.range' (i + 1) gQ) (if t = true then xs ++ [((j : Int), (i : Int))] else xs)).bind (fun r => refAll cl rg (List.range' (j + 1) gO) r) = some r) := ⟨by rw [b9]; exact b8⟩
 clear hy hi hA hO b7 b8 b9 ht hlm hVC; cases t with
 | true => (
 go_wp2_with (first | (go_at_call 42; (with_reducible refine (HCB.out _ HBW.out A3 c3 HVC.out.2 HVC.out.1 x y _ HT.out).mono ?_); rintro e w7 ⟨rfl, l⟩; have D := a_ (Kd.R_below HOy.out l); have E := a_ (below_then HBy.out HBy.out.size l); have F := a_ (blk_below BKy.out l); clear l) | ((with_reducible refine gate_builtin (b := .append) (xs := #[.tmp 28, .tmp 32]) rfl ?_); at_builtin; refine Kd.R_append k54 (w0 := G) G.heap.size rfl (.tmp 28) (.tmp 32) 45 54 (.agg #[.int .i64 0, .int .i64 0]) 16 rfl Tryd.underlying45 info54 rfl (by decide) (by omega) u4 xs (x, y) [.int .i64 x, .int .i64 y] (fun _ => True) (fun _ => False) rfl rfl (k54_mkM _ _ _ _ _) (fun _ h => h.elim) (fun _ _ => trivial) D.out E.out E.out.size (by have := HLM.out; omega) ?_; intro v8 w8 c4 c6 c8 c9; have d7 := a_ c4; have d8 := a_ c6; have d9 := a_ (blk_grown F.out c8 (Kd.R_ne D.out F.out (by decide))); clear c4 c6 c8 c9))
 go_roundg gQ
 case measure => omega
 case rel => exact ⟨wrap64 (y + 1), rfl, ⟨i + 1, xs ++ [(x, y)], by rw [HWY.out, HY.out]; rfl, by have := HI.out; omega, by have h_ := c0.out; (try simp only [if_true] at h_); rw [HX.out, HY.out]; exact h_, d7.out⟩, d9, d8⟩)
 | false => (
 go_wp2_with (first | (go_at_call 42; (with_reducible refine (HCB.out _ HBW.out A3 c3 HVC.out.2 HVC.out.1 x y _ HT.out).mono ?_); rintro e w7 ⟨rfl, l⟩; have D := a_ (Kd.R_below HOy.out l); have E := a_ (below_then HBy.out HBy.out.size l); have F := a_ (blk_below BKy.out l); clear l))
 go_roundg gQ
 case measure => omega
 case rel => exact ⟨wrap64 (y + 1), rfl, ⟨i + 1, xs, by rw [HWY.out, HY.out]; rfl, by have := HI.out; omega, by have h_ := c0.out; rw [if_neg (by simp)] at h_; exact h_, D.out⟩, F, E⟩)))))
abbrev PairsB (w : World) (v : Value) (ps : List (Int × Int)) : Prop := ∀ w0, Below w.heap.size w w0 → Calls Tryd.prog 23 #[v] w0 fun e w' => ∃ b : Value, e = .returned b ∧ Kd.R k54 54 w' w0.heap.size (fun _ => True) b ps ∧ Below w0.heap.size w0 w'
def r11_Clashes.f (k : Nat) (p : ByteArray) (q : List (S83)) (y : List (S85)) (l : Int) (z : List (S69)) : Option (List (Int × Int)) := if 0 ≤ l ∧ l ≤ 2000 then (r11_Live.f k p q y l z).bind fun lv => refAll (fun a b => r11_clash.f k p q y l z lv a b) l.toNat (List.range' 0 l.toNat) [] else none
theorem r11_Clashes.calls (k : Nat) (z : ByteArray) (B : Option Addr) (D : Nat) (l : List (S83)) (E : Option Addr) (F : Nat) (p : List (S85)) (y : Int) (G : Option Addr) (I : Nat) (q : List (S69)) (r : List (Int × Int)) (w : World) (J : Kd.C k83 w B l.length l) (L : l.length ≤ D) (M : Kd.C k85 w E p.length p) (N : p.length ≤ F) (O : Kd.C k69 w G q.length q) (S : q.length ≤ I) (h : r11_Clashes.f k z l p y q = some r) :
  Calls Tryd.prog 23 #[.agg #[.string z, .slice B l.length D, .slice E p.length F, .int .i64 y, .slice G q.length I]] w fun e w' => ∃ T : Value, e = .returned T ∧ Kd.R k54 54 w' w.heap.size (fun _ => True) T r ∧ Below w.heap.size w w' := by
 unfold r11_Clashes.f at h
 split at h
 case isFalse => cases h
 rename_i hg
 obtain ⟨lv, hl, h⟩ := Option.bind_eq_some_iff.1 h; have hE : ((y.toNat : Nat) : Int) = y := Int.toNat_of_nonneg hg.1
 have hL : LiveB w (.agg #[.string z, .slice B l.length D, .slice E p.length F, .int .i64 (y.toNat : Int), .slice G q.length I]) lv := by
  intro w0 hb
  rw [hE]; exact r11_Live.calls k z B D l E F p y G I q lv w0 ⟨Kd.C_below J hb, L, Kd.C_below M hb, N, Kd.C_below O hb, S⟩ hl
 have hC : ClashB w (.agg #[.string z, .slice B l.length D, .slice E p.length F, .int .i64 (y.toNat : Int), .slice G q.length I]) lv (fun a b => r11_clash.f k z l p y q lv a b) := by
  intro w0 hb X c1 U V a b t ht
  rw [hE]; exact r11_clash.calls k z B D l E F p y G I q X c1 lv a b t w0 ⟨Kd.C_below J hb, L, Kd.C_below M hb, N, Kd.C_below O hb, S⟩ U V ht
 have := refClashesC w z B l.length D E p.length F y.toNat G q.length I lv _ r hL hC (by omega) h
 rw [hE] at this; exact this
end Go.Proofs.YtefhpdcafdhcaaaDoor.S
end
section
namespace Go.Proofs.YtefhpdcafdhcaaaDoor.M
open Go Go.RowKit Go.Proofs.YtefhpdcafdhcaaaDoorW.PrintWords Go.Proofs.YtefhpdcafdhcaaaDoorW.PrintLast Go.Proofs.YtefhpdcafdhcaaaDoorW.PrintMore Go.Proofs.YtefhpdcafdhcaaaDoor Go.Proofs.YtefhpdcafdhcaaaDoor.A Go.Proofs.YtefhpdcafdhcaaaDoor.B
open FlowM (next hasD hasA hasB Fine FineNd FineG Live scan uses sets scan_mono LiveAt Clash listOf after after_bit clashF clashF_clash clashF_len)
open Go.Proofs.YtefhpdcafdhcaaaDoor.S (regsL regsL_succ pairsOf rowP refRow refAll)
section
variable (nm : ByteArray) {ps : List S83} {ar : List S85} {N : List S69}
theorem regsL_len (s n : Nat) : (regsL s n).length ≤ n := by
 unfold regsL listOf
 rw [List.length_map]; exact Nat.le_trans (List.length_filter_le _ _) (by rw [List.length_range]; omega)
def SetRow (g : Nat) (LV : List (List Bool)) (i : Nat) (s : Nat) : Prop := ∀ r, r < g → (LV.getD r []).getD i false = s.testBit r
theorem rdL10 (xs : List (List Bool)) (i : Nat) : rd_L10 xs (i : Int) = xs.getD i [] := by unfold rd_L10; rw [Int.toNat_natCast]
theorem into_row {g i s : Nat} {LV : List (List Bool)} {acc : List (List Int)} {res : List (List Int)} (hg : g ≤ 2000) (hl : LV.length = g) (hr : ∀ r, r < g → i < (LV.getD r []).length) (hS : SetRow g LV i s) (hi : i < 100000) (ha : acc.length < 100000)
  (hnext : Evt (fun k => r11_Into.l0 k LV (acc ++ [regsL s g]) ((i + 1 : Nat) : Int) nm ps ar (g : Int) N) res) : ∀ (m r : Nat), r + m = g → Evt (fun k => r11_Into.l1 k LV acc (i : Int) (regsL s r) (r : Int) nm ps ar (g : Int) N) res
 | 0, r, hm => by {
 obtain rfl : r = g := by omega
 refine Evt.succ ?_
 simp only [r11_Into.l1]
 refine Evt.neg (by omega) (Evt.pos (by omega) ?_)
 rw [wrap_succ i (by omega)]
 exact hnext}
 | m + 1, r, hm => by {
 have ih := into_row hg hl hr hS hi ha hnext m (r + 1) (by omega)
 have h1 := hr r (by omega)
 have b := hS r (by omega)
 have l := regsL_len s r; refine Evt.succ ?_
 simp only [r11_Into.l1]
 refine Evt.pos (by omega) (Evt.pos (by omega) (Evt.pos (by omega) (Evt.pos (by omega) ?_)))
 rw [rdL10, rdOf_getD, Int.toNat_natCast, b, wrap_succ r (by omega)]
 refine Evt.pos (by omega) ?_
 rw [regsL_succ] at ih; by_cases e : s.testBit r = true
 ·rw [if_pos e] at ih; exact Evt.pos e (Evt.pos (by omega) ih)
 ·rw [if_neg e] at ih; exact Evt.neg e ih}
theorem take_snoc {α β : Type} (f : α → β) {l : List α} {i : Nat} (hi : i < l.length) : (l.take i).map f ++ [f l[i]] = (l.take (i + 1)).map f := by
 rw [List.take_add_one, List.getElem?_eq_getElem hi, Option.toList_some, List.map_append]; rfl
theorem rinto_loop {g : Nat} {LV : List (List Bool)} {R : List Nat} (hg : g ≤ 2000) (hN : N.length ≤ 1000) (hR : R.length = N.length) (hl : LV.length = g) (hr : ∀ r, r < g → (LV.getD r []).length = N.length) (hS : ∀ i (h : i < R.length), SetRow g LV i R[i]) :
  ∀ (m i : Nat), i + m = N.length → Evt (fun k => r11_Into.l0 k LV ((R.take i).map fun s => regsL s g) (i : Int) nm ps ar (g : Int) N) (R.map fun s => regsL s g)
 | 0, i, hm => by {
 refine Evt.succ ?_
 simp only [r11_Into.l0]
 rw [List.take_of_length_le (by omega)]
 exact Evt.neg (by omega) (Evt.const _)}
 | m + 1, i, hm => by {
 have hi : i < R.length := by omega
 have ih := rinto_loop hg hN hR hl hr hS m (i + 1) (by omega)
 refine Evt.succ ?_
 simp only [r11_Into.l0]
 refine Evt.pos (by omega) ?_
 refine into_row nm hg hl (fun r h => by rw [hr r h]; omega) (hS i hi) (by omega) (by rw [List.length_map, List.length_take]; omega) ?_ g 0 (by omega)
 rw [take_snoc (fun s => regsL s g) hi]
 exact ih}
theorem out_row {g i s : Nat} {LV : List (List Bool)} {acc : List (List Int)} {res : List (List Int)} (hg : g ≤ 2000) (hN : i < N.length) (hT : ∀ n ∈ N, ∀ m ∈ next n, 0 ≤ m ∧ m < (N.length : Int)) (hl : LV.length = g) (hr : ∀ r, r < g → (LV.getD r []).length = N.length) (hS : ∀ r, r < g → anyOf (LV.getD r []) (next N[i]) = s.testBit r) (hi : i < 100000) (ha : acc.length < 100000)
  (hnext : Evt (fun k => r11_Out.l0 k LV (acc ++ [regsL s g]) ((i + 1 : Nat) : Int) nm ps ar (g : Int) N) res) : ∀ (m r : Nat), r + m = g → Evt (fun k => r11_Out.l1 k LV acc (i : Int) (regsL s r) (r : Int) nm ps ar (g : Int) N) res
 | 0, r, hm => by {
 obtain rfl : r = g := by omega
 refine Evt.succ ?_
 simp only [r11_Out.l1]
 refine Evt.neg (by omega) (Evt.pos (by omega) ?_)
 rw [wrap_succ i (by omega)]
 exact hnext}
 | m + 1, r, hm => by {
 have ih := out_row hg hN hT hl hr hS hi ha hnext m (r + 1) (by omega)
 have h1 := hr r (by omega)
 have b := hS r (by omega)
 have l := regsL_len s r; refine Evt.succ ?_
 simp only [r11_Out.l1]
 refine Evt.pos (by omega) (Evt.pos (by omega) (Evt.pos (by omega) ?_))
 rw [rdL10, wrap_succ r (by omega)]
 refine Evt.bind (rout_ev nm (g : Int) hN h1 hT) ?_
 rw [b]; rw [regsL_succ] at ih; by_cases e : s.testBit r = true
 ·rw [if_pos e] at ih; exact Evt.pos e (Evt.pos (by omega) ih)
 ·rw [if_neg e] at ih; exact Evt.neg e ih}
theorem rout_loop {g : Nat} {LV : List (List Bool)} {R : List Nat} (hg : g ≤ 2000) (hN : N.length ≤ 1000) (hT : ∀ n ∈ N, ∀ m ∈ next n, 0 ≤ m ∧ m < (N.length : Int)) (hR : R.length = N.length) (hl : LV.length = g) (hr : ∀ r, r < g → (LV.getD r []).length = N.length) (hS : ∀ i (h : i < N.length) (h' : i < R.length), ∀ r, r < g → anyOf (LV.getD r []) (next N[i]) = R[i].testBit r) :
  ∀ (m i : Nat), i + m = N.length → Evt (fun k => r11_Out.l0 k LV ((R.take i).map fun s => regsL s g) (i : Int) nm ps ar (g : Int) N) (R.map fun s => regsL s g)
 | 0, i, hm => by {
 refine Evt.succ ?_
 simp only [r11_Out.l0]
 rw [List.take_of_length_le (by omega)]
 exact Evt.neg (by omega) (Evt.const _)}
 | m + 1, i, hm => by {
 have hi : i < R.length := by omega
 have ih := rout_loop hg hN hT hR hl hr hS m (i + 1) (by omega)
 refine Evt.succ ?_
 simp only [r11_Out.l0]
 refine Evt.pos (by omega) ?_
 refine out_row nm hg (by omega) hT hl hr (hS i (by omega) hi) (by omega) (by rw [List.length_map, List.length_take]; omega) ?_ g 0 (by omega)
 rw [take_snoc (fun s => regsL s g) hi]
 exact ih}
section
variable {g : Nat} {LV : List (List Bool)} {R : List Nat} (hg : g ≤ 2000) (hN : N.length ≤ 1000) (hs : ∀ n ∈ N, n.f0.length ≤ 1000) (hF : FineG g N) (hR : R.length = N.length) (hL : ∀ i, i < N.length → ∀ r : Nat, ((R.getD i 0).testBit r = true ↔ Live N (r : Int) i))
include hg hN hs hF hR hL
theorem rinto_ev : Evt (fun k => r11_Into.f k nm ps ar (g : Int) N) (R.map fun s => regsL s g) := by
 obtain ⟨LV, ⟨h1, b⟩, he⟩ := rlive_ev nm (ps := ps) (ar := ar) hg hF hs hN; unfold r11_Into.f
 refine Evt.bind he ?_
 refine rinto_loop nm hg hN hR h1 (fun r h => (b r h).1) (fun i hi r hr => ?_) N.length 0 (by omega)
 rw [Bool.eq_iff_iff, (b r hr).2 i (by omega), ← hL i (by omega), List.getD_eq_getElem?_getD, List.getElem?_eq_getElem hi, Option.getD_some]
theorem rout_all : Evt (fun k => r11_Out.f k nm ps ar (g : Int) N) ((List.range R.length).map fun i => regsL (after ((N.map next).getD i []) R) g) := by
 obtain ⟨LV, ⟨h1, b⟩, he⟩ := rlive_ev nm (ps := ps) (ar := ar) hg hF hs hN; have hT : ∀ n ∈ N, ∀ m ∈ next n, 0 ≤ m ∧ m < (N.length : Int) := fun n hn => (hF n hn).2.2
 unfold r11_Out.f
 refine Evt.bind he ?_
 have := rout_loop nm (ps := ps) (ar := ar) (R := (List.range R.length).map fun i => after ((N.map next).getD i []) R) hg hN hT (by simpa using hR) h1 (fun r h => (b r h).1) (fun i hi hi' r hr => by
  rw [List.getElem_map, List.getElem_range]; rw [show (N.map next).getD i [] = next N[i] by rw [List.getD_eq_getElem?_getD, List.getElem?_map, List.getElem?_eq_getElem hi]; rfl]
  unfold after
  rw [after_bit, Nat.zero_testBit, Bool.false_or]; unfold anyOf
  rw [Bool.eq_iff_iff, List.any_eq_true, List.any_eq_true]; have hmem : N[i] ∈ N := List.getElem_mem _
  constructor
  ·rintro ⟨m, hm, h⟩
   have hb := hT _ hmem m hm; exact ⟨m, hm, (hL m.toNat (by omega) r).2 (((b r hr).2 m.toNat (by omega)).1 h)⟩
  ·rintro ⟨m, hm, h⟩
   have hb := hT _ hmem m hm; exact ⟨m, hm, ((b r hr).2 m.toNat (by omega)).2 ((hL m.toNat (by omega) r).1 h)⟩) N.length 0 (by omega)
 rw [List.map_map] at this; exact this
end
def atB (_N : List S69) (LV : List (List Bool)) (n : S69) (j r : Nat) : Bool := scan n (r : Int) (anyOf (LV.getD r []) (next n)) (n.f0.drop j)
def insC (N : List S69) (LV : List (List Bool)) (a b : Nat) (n : S69) (j : Nat) : Bool :=
 match n.f0[j]? with
 | some y => (sets y (a : Int) && atB N LV n (j + 1) b) || (sets y (b : Int) && atB N LV n (j + 1) a)
 | none => false
def ndC (N : List S69) (LV : List (List Bool)) (a b : Nat) (n : S69) (j m : Nat) : Bool := (List.range' j m).any (insC N LV a b n)
def ndsC (N : List S69) (LV : List (List Bool)) (a b : Nat) (rest : List S69) : Bool := rest.any fun n => ndC N LV a b n 0 n.f0.length
variable {g : Nat} {LV : List (List Bool)} (hg : g ≤ 2000) (hN : N.length ≤ 1000) (hs : ∀ n ∈ N, n.f0.length ≤ 1000) (hF : FineG g N) (hLV : LiveAll N g LV)
include hg hN hs hF hLV
omit hg hN in
theorem rat_ev {i : Nat} (hi : i < N.length) {r : Nat} (hr : r < g) (j : Nat) : Evt (fun k => r11_At.f k nm ps ar (g : Int) N LV (i : Int) (j : Int) (r : Int)) (atB N LV N[i] j r) := by
 have hT : ∀ n ∈ N, ∀ m ∈ next n, 0 ≤ m ∧ m < (N.length : Int) := fun n hn => (hF n hn).2.2
 have hrd : rd_T69 N (i : Int) = N[i] := by simp [rd_T69, hi]
 have hmem : N[i] ∈ N := List.getElem_mem _
 unfold r11_At.f
 refine Evt.pos (by omega) (Evt.pos (by omega) (Evt.pos (by omega) (Evt.pos (by rw [hLV.1]; omega) ?_)))
 rw [rdL10, hrd]; refine Evt.bind (rout_ev nm (g : Int) hi (hLV.2 r hr).1 hT) (Evt.bind (rbefore_ev (hF _ hmem).1 (hs _ hmem) r _ j) ?_)
 exact Evt.const _
omit hg in
theorem rclash_ins {a b : Nat} (ha : a < g) (hb : b < g) {i : Nat} (hi : i < N.length) {rest : Bool} (hnext : Evt (fun k => r11_clash.l0 k LV (a : Int) (b : Int) ((i + 1 : Nat) : Int) nm ps ar (g : Int) N) rest) :
  ∀ (m j : Nat), j + m = N[i].f0.length → Evt (fun k => r11_clash.l1 k LV (a : Int) (b : Int) (i : Int) N[i].f0 (j : Int) nm ps ar (g : Int) N) (ndC N LV a b N[i] j m || rest)
 | 0, j, hm => by {
 refine Evt.succ ?_
 simp only [r11_clash.l1]
 refine Evt.neg (by omega) ?_
 rw [wrap_succ i (by omega)]
 simpa [ndC] using hnext}
 | m + 1, j, hm => by {
 have hj : j < N[i].f0.length := by omega
 have hmem : N[i] ∈ N := List.getElem_mem _
 have hlen := hs _ hmem; have ih := rclash_ins ha hb hi hnext m (j + 1) (by omega)
 have hf := (hF _ hmem).1 N[i].f0[j] (List.getElem_mem _); have hrd : rd_T71 N[i].f0 (j : Int) = N[i].f0[j] := by simp [rd_T71, hj]
 have hAb := rat_ev nm (ps := ps) (ar := ar) hs hF hLV hi hb (j + 1); have hAa := rat_ev nm (ps := ps) (ar := ar) hs hF hLV hi ha (j + 1); have e : ndC N LV a b N[i] j (m + 1) = ((sets N[i].f0[j] (a : Int) && atB N LV N[i] (j + 1) b) || ((sets N[i].f0[j] (b : Int) && atB N LV N[i] (j + 1) a) || ndC N LV a b N[i] (j + 1) m)) := by {
 unfold ndC
 rw [List.range'_succ, List.any_cons, insC, List.getElem?_eq_getElem hj, Bool.or_assoc]}
 rw [e]; refine Evt.succ ?_
 simp only [r11_clash.l1]
 refine Evt.pos (by omega) (Evt.pos (by omega) ?_)
 rw [hrd, wrap_succ j (by omega)]
 have second : Evt (fun k => (r11_Sets.f k N[i].f0[j].f0 N[i].f0[j].f1 N[i].f0[j].f2 N[i].f0[j].f3 N[i].f0[j].f4 N[i].f0[j].f5 N[i].f0[j].f6 (b : Int)).bind fun t => (if t = true then ((r11_At.f k nm ps ar (g : Int) N LV (i : Int) ((j + 1 : Nat) : Int) (a : Int)).bind fun l => (if l = true then (some true) else (r11_clash.l1 k LV (a : Int) (b : Int) (i : Int) N[i].f0 ((j + 1 : Nat) : Int) nm ps ar (g : Int) N))) else (r11_clash.l1 k LV (a : Int) (b : Int) (i : Int) N[i].f0 ((j + 1 : Nat) : Int) nm ps ar (g : Int) N)))
   ((sets N[i].f0[j] (b : Int) && atB N LV N[i] (j + 1) a) || (ndC N LV a b N[i] (j + 1) m || rest)) := by
  refine Evt.bind (rsets_ev hf (b : Int)) ?_
  cases sets N[i].f0[j] (b : Int) with
  | false => exact Evt.neg (by simp) (by simpa using ih)
  | true =>
   refine Evt.pos (by trivial) (Evt.bind hAa ?_)
   cases atB N LV N[i] (j + 1) a with
   | true => exact Evt.pos (by trivial) (by simpa using Evt.const _)
   | false => exact Evt.neg (by simp) (by simpa using ih)
 rw [Bool.or_assoc, Bool.or_assoc]; refine Evt.bind (rsets_ev hf (a : Int)) ?_
 cases sets N[i].f0[j] (a : Int) with
 | false => (
 refine Evt.neg (by simp) ?_
 rw [Bool.false_and, Bool.false_or]; exact second)
 | true => (
 refine Evt.pos (by trivial) (Evt.bind hAb ?_)
 cases atB N LV N[i] (j + 1) b with
 | true => exact Evt.pos (by trivial) (by simpa using Evt.const _)
 | false => (
 refine Evt.neg (by simp) ?_
 rw [Bool.and_false, Bool.false_or]; exact second))}
theorem rclash_nds {a b : Nat} (ha : a < g) (hb : b < g) : ∀ (rest : List S69) (i : Nat), N.drop i = rest → Evt (fun k => r11_clash.l0 k LV (a : Int) (b : Int) (i : Int) nm ps ar (g : Int) N) (ndsC N LV a b rest)
 | [], i, hd => by {
 have := drop_nil_ge hd
 refine Evt.succ ?_
 simp only [r11_clash.l0]
 exact Evt.neg (by omega) (Evt.const _)}
 | n :: rest, i, hd => by {
 obtain ⟨hr, hi, l⟩ := rd69_drop hd; have hn : N[i] = n := by have p := hd; rw [List.drop_eq_getElem_cons hi] at p; exact (List.cons.inj p).1
 refine Evt.succ ?_
 simp only [r11_clash.l0]
 refine Evt.pos (by omega) (Evt.pos (by omega) ?_)
 rw [hr]; have := rclash_ins nm (ps := ps) (ar := ar) hN hs hF hLV ha hb hi (rclash_nds ha hb rest (i + 1) l) N[i].f0.length 0 (by omega)
 rw [hn] at this; unfold ndsC
 rw [List.any_cons]; exact this}
theorem rclash_ev (l : 0 < N.length) {a b : Nat} (ha : a < g) (hb : b < g) : Evt (fun k => r11_clash.f k nm ps ar (g : Int) N LV (a : Int) (b : Int)) (((LV.getD a []).getD 0 false && (LV.getD b []).getD 0 false) || ndsC N LV a b N) := by
 have hn := rclash_nds nm (ps := ps) (ar := ar) hg hN hs hF hLV ha hb N 0 rfl; have hj : ∀ t : Bool, Evt (fun k => r11_clash.j0 k LV (a : Int) (b : Int) t nm ps ar (g : Int) N) (t || ndsC N LV a b N) := fun t => by
  refine Evt.succ ?_
  simp only [r11_clash.j0]
  cases t with
  | true => exact Evt.pos (by trivial) (Evt.const _)
  | false => exact Evt.neg (by simp) (by simpa using hn)
 unfold r11_clash.f
 rw [rdL10, rdL10]; refine Evt.pos (by omega) (Evt.pos (by rw [hLV.1]; omega) (Evt.pos (by rw [(hLV.2 a ha).1]; omega) ?_))
 rw [rdOf_getD, rdOf_getD, show ((0 : Int).toNat) = 0 from rfl]; cases e : (LV.getD a []).getD 0 false with
 | true =>
  refine Evt.pos (by trivial) (Evt.pos (by omega) (Evt.pos (by rw [hLV.1]; omega) (Evt.pos (by rw [(hLV.2 b hb).1]; omega) ?_)))
  rw [Bool.true_and]; exact hj _
 | false =>
  refine Evt.neg (by simp) ?_
  rw [Bool.false_and]; exact hj _
omit hg hN hs in
theorem atB_iff {i : Nat} (hi : i < N.length) {r : Nat} (hr : r < g) (j : Nat) : atB N LV N[i] j r = true ↔ LiveAt N (r : Int) i j := by
 have hT : ∀ n ∈ N, ∀ m ∈ next n, 0 ≤ m ∧ m < (N.length : Int) := fun n hn => (hF n hn).2.2
 have hmem : N[i] ∈ N := List.getElem_mem _
 have hany : anyOf (LV.getD r []) (next N[i]) = true ↔ ∃ k : Nat, (k : Int) ∈ next N[i] ∧ Live N (r : Int) k := by
  rw [anyOf_iff (fun m hm => (hT _ hmem m hm).1)]
  constructor
  ·rintro ⟨k, hk, h⟩
   exact ⟨k, hk, ((hLV.2 r hr).2 k (by have := (hT _ hmem k hk).2; omega)).1 h⟩
  ·rintro ⟨k, hk, h⟩
   exact ⟨k, hk, ((hLV.2 r hr).2 k (by have := (hT _ hmem k hk).2; omega)).2 h⟩
 constructor
 ·intro h
  exact ⟨hi, _, hany.1, h⟩
 ·rintro ⟨_, out, ho, h⟩
  exact scan_mono (fun b => hany.2 (ho b)) h
omit hg hN hs in
theorem rclash_iff (q : 0 < N.length) {a b : Nat} (ha : a < g) (hb : b < g) : (((LV.getD a []).getD 0 false && (LV.getD b []).getD 0 false) || ndsC N LV a b N) = true ↔ Clash N (a : Int) (b : Int) := by
 have hA := @atB_iff N g LV hF hLV; rw [Bool.or_eq_true, Bool.and_eq_true, (hLV.2 a ha).2 0 q, (hLV.2 b hb).2 0 q]; unfold Clash
 refine or_congr Iff.rfl ?_
 unfold ndsC ndC
 rw [List.any_eq_true]; constructor
 {
 rintro ⟨n, hn, h⟩
 obtain ⟨i, hi, rfl⟩ := List.getElem_of_mem hn; rw [List.any_eq_true] at h; obtain ⟨j, hj, h⟩ := h; have p : j < N[i].f0.length := by rw [List.mem_range'_1] at hj; omega
 rw [insC, List.getElem?_eq_getElem p] at h; refine ⟨i, j, hi, p, ?_⟩
 simp only [Bool.or_eq_true, Bool.and_eq_true] at h
 rcases h with ⟨h1, l⟩ | ⟨h1, l⟩
 ·left; exact ⟨h1, (hA hi hb _).1 l⟩
 ·right; exact ⟨h1, (hA hi ha _).1 l⟩}
 {
 rintro ⟨i, j, hi, hj, h⟩
 refine ⟨N[i], List.getElem_mem _, ?_⟩
 rw [List.any_eq_true]; refine ⟨j, by rw [List.mem_range'_1]; omega, ?_⟩
 rw [insC, List.getElem?_eq_getElem hj]; simp only [Bool.or_eq_true, Bool.and_eq_true]
 rcases h with ⟨h1, l⟩ | ⟨h1, l⟩
 ·left; exact ⟨h1, (hA hi hb _).2 l⟩
 ·right; exact ⟨h1, (hA hi ha _).2 l⟩}
end
end Go.Proofs.YtefhpdcafdhcaaaDoor.M
end
section
namespace Go.Proofs.YtefhpdcafdhcaaaDoor.M
open Go Go.RowKit Go.Proofs.YtefhpdcafdhcaaaDoorW.PrintWords Go.Proofs.YtefhpdcafdhcaaaDoorW.PrintLast Go.Proofs.YtefhpdcafdhcaaaDoorW.PrintMore Go.Proofs.YtefhpdcafdhcaaaDoor Go.Proofs.YtefhpdcafdhcaaaDoor.A Go.Proofs.YtefhpdcafdhcaaaDoor.B Go.Proofs.YtefhpdcafdhcaaaDoor.N Go.Proofs.YtefhpdcafdhcaaaDoor.V Go.Proofs.YtefhpdcafdhcaaaDoor.S
open FlowM (next hasD hasA hasB Fine FineNd FineG Live scan uses sets scan_mono LiveAt Clash listOf mem_listOf after after_bit clashF clashF_clash clashF_len)
section
variable {cl : Nat → Int → Int → Option Bool} {C : List Nat} {g : Nat}
theorem refRow_ev {a : Nat} (ha : a < g) (hg : g ≤ 2000) (h : ∀ b, a < b → b < g → Evt (fun k => cl k (a : Int) (b : Int)) ((C.getD a 0).testBit b)) : ∀ (m b : Nat), b + m = g → a < b → ∀ acc : List (Int × Int), acc.length + m ≤ 4900000 →
  Evt (fun k => refRow (cl k) a (List.range' b m) acc) (acc ++ ((List.range' b m).filter fun q => (C.getD a 0).testBit q).map fun (q : Nat) => ((a : Int), (q : Int)))
 | 0, b, hm, hab, acc, hl => by {
 simp only [List.range'_zero, refRow, List.filter_nil, List.map_nil, List.append_nil]
 exact Evt.const _}
 | m + 1, b, hm, hab, acc, hl => by {
 simp only [List.range'_succ, refRow]
 refine Evt.pos (by omega) (Evt.bind (h b hab (by omega)) ?_)
 by_cases e : (C.getD a 0).testBit b = true
 {
 have := refRow_ev ha hg h m (b + 1) (by omega) (by omega) (acc ++ [((a : Int), (b : Int))]) (by rw [List.length_append, List.length_singleton]; omega)
 rw [if_pos e, List.filter_cons_of_pos e, List.map_cons]; rw [List.append_assoc] at this; exact this}
 {
 have := refRow_ev ha hg h m (b + 1) (by omega) (by omega) acc (by omega)
 rw [if_neg e, List.filter_cons_of_neg e]; exact this}}
theorem row_split {a : Nat} (ha : a < g) (s : Nat) : rowP a (listOf s g) = ((List.range' (a + 1) (g - (a + 1))).filter fun q => s.testBit q).map fun (q : Nat) => ((a : Int), (q : Int)) := by
 unfold rowP listOf
 congr 1
 rw [List.filter_filter]; have e : List.range g = List.range' 0 (a + 1) ++ List.range' (a + 1) (g - (a + 1)) := by
  rw [List.range_eq_range']; have := List.range'_append (s := 0) (m := a + 1) (n := g - (a + 1)) (step := 1)
  rw [show 0 + 1 * (a + 1) = a + 1 by omega, show (a + 1) + (g - (a + 1)) = g by omega] at this
  exact this.symm
 rw [e, List.filter_append]; have h1 : (List.range' 0 (a + 1)).filter (fun q => decide (a < q) && s.testBit q) = [] := by
  rw [List.filter_eq_nil_iff]; intro q hq
  rw [List.mem_range'_1] at hq; rw [decide_eq_false (by omega), Bool.false_and]
  simp
 rw [h1, List.nil_append]; apply List.filter_congr
 intro q hq
 rw [List.mem_range'_1] at hq; rw [decide_eq_true (by omega), Bool.true_and]
theorem rowP_len (a s : Nat) : (rowP a (listOf s g)).length ≤ g := by
 unfold rowP listOf
 rw [List.length_map]; exact Nat.le_trans (List.length_filter_le _ _) (Nat.le_trans (List.length_filter_le _ _) (by rw [List.length_range]; omega))
theorem refAll_ev (hg : g ≤ 2000) (h : ∀ a b, a < b → b < g → Evt (fun k => cl k (a : Int) (b : Int)) ((C.getD a 0).testBit b)) : ∀ (m a : Nat), a + m = g → ∀ acc : List (Int × Int), acc.length ≤ a * g →
  Evt (fun k => refAll (cl k) g (List.range' a m) acc) (acc ++ (List.range' a m).flatMap fun r => rowP r (listOf (C.getD r 0) g))
 | 0, a, hm, acc, hl => by {
 simp only [List.range'_zero, refAll, List.flatMap_nil, List.append_nil]
 exact Evt.const _}
 | m + 1, a, hm, acc, hl => by {
 simp only [List.range'_succ, refAll, List.flatMap_cons]
 have hb : a * g ≤ 2000 * 2000 := Nat.mul_le_mul (by omega) hg
 have h1 := refRow_ev (cl := cl) (C := C) (g := g) (a := a) (by omega) hg (fun b hab hb => h a b hab hb) (g - (a + 1)) (a + 1) (by omega) (by omega) acc (by omega)
 rw [← row_split (by omega)] at h1
 refine Evt.bind h1 ?_
 have := refAll_ev hg h m (a + 1) (by omega) (acc ++ rowP a (listOf (C.getD a 0) g)) (by
  have := rowP_len (g := g) a (C.getD a 0)
  rw [List.length_append, Nat.succ_mul]; omega)
 rw [List.append_assoc] at this; exact this}
theorem pairs_len (n : Nat) : (pairsOf C g n).length ≤ n * g := by
 unfold pairsOf
 induction n with
 | zero => simp
 | succ n ih =>
  rw [List.range_succ, List.flatMap_append, List.length_append, Nat.succ_mul]; have := rowP_len (g := g) n (C.getD n 0)
  simp only [List.flatMap_cons, List.flatMap_nil, List.append_nil]
  omega
end
section
variable (nm : ByteArray) {ps : List S83} {ar : List S85} {N : List S69} {g : Nat} {R : List Nat} (hg : g ≤ 2000) (hN : N.length ≤ 1000) (h0 : 0 < N.length) (hs : ∀ n ∈ N, n.f0.length ≤ 1000) (hF : FineG g N) (hL : ∀ i, i < N.length → ∀ r : Nat, ((R.getD i 0).testBit r = true ↔ Live N (r : Int) i))
include hg hN hs hF hL h0
theorem rclashes_ev : Evt (fun k => r11_Clashes.f k nm ps ar (g : Int) N) (pairsOf (clashF g N R) g g) := by
 obtain ⟨LV, hLV, he⟩ := rlive_ev nm (ps := ps) (ar := ar) hg hF hs hN; unfold r11_Clashes.f
 refine Evt.pos ⟨by omega, by omega⟩ (Evt.bind he ?_)
 rw [Int.toNat_natCast]; have := refAll_ev (cl := fun k a b => r11_clash.f k nm ps ar (g : Int) N LV a b) (C := clashF g N R) hg (fun a b hab hb => by
  have h1 := rclash_ev nm (ps := ps) (ar := ar) hg hN hs hF hLV h0 (a := a) (b := b) (by omega) hb
  have e : (((LV.getD a []).getD 0 false && (LV.getD b []).getD 0 false) || ndsC N LV a b N) = ((clashF g N R).getD a 0).testBit b := by
   rw [Bool.eq_iff_iff, rclash_iff hF hLV h0 (by omega) hb, clashF_clash hF h0 hL a b (by omega) hb]
   exact ⟨fun h => ⟨by omega, h⟩, fun h => h.2⟩
  rw [e] at h1; exact h1) g 0 (by omega) [] (by simp)
 rw [List.nil_append] at this; unfold pairsOf
 rw [List.range_eq_range' (n := g)]; exact this
omit hg hN h0 hs hF hL in
end
end Go.Proofs.YtefhpdcafdhcaaaDoor.M
end
section
namespace Go.Proofs.YtefhpdcafdhcaaaDoor.S
open Go Go.RowKit Go.Proofs Go.Proofs.YtefhpdcafdhcaaaDoorW.PrintWords Go.Proofs.YtefhpdcafdhcaaaDoorW.PrintLast Go.Proofs.YtefhpdcafdhcaaaDoorW.PrintMore Go.Proofs.YtefhpdcafdhcaaaDoor Go.Proofs.YtefhpdcafdhcaaaDoor.A FlowM
set_option linter.unusedVariables false
set_option linter.unusedSimpArgs false
abbrev RowsX (fn : Nat) (w : World) (v : Value) (rows : List (List Int)) (x : Int) : Prop := ∀ w0, Below w.heap.size w w0 → Calls Tryd.prog fn #[v] w0 fun e w' => ∃ b : Value, e = .returned (.tuple #[b, .int .i64 x]) ∧ Kd.S (Kd.slice 3 (Kd.int .i64)) 27 w' w0.heap.size (fun _ => True) b rows ∧ Below w0.heap.size w0 w'
abbrev PairsX (w : World) (v : Value) (ps : List (Int × Int)) (x : Int) : Prop := ∀ w0, Below w.heap.size w w0 → Calls Tryd.prog 18 #[v] w0 fun e w' => ∃ b : Value, e = .returned (.tuple #[b, .int .i64 x]) ∧ Kd.R k54 54 w' w0.heap.size (fun _ => True) b ps ∧ Below w0.heap.size w0 w'
abbrev RefRows (fn : Nat) (w : World) (v : Value) (rows : List (List Int)) : Prop := ∀ w0, Below w.heap.size w w0 → Calls Tryd.prog fn #[v] w0 fun e w' => ∃ b : Value, e = .returned b ∧ Kd.S (Kd.slice 3 (Kd.int .i64)) 27 w' w0.heap.size (fun _ => True) b rows ∧ Below w0.heap.size w0 w'
abbrev SameLB (rows : List (List Int)) : Prop := ∀ (w0 : World) (b : Option Addr) (l : Nat) (p : Option Addr) (q : Nat), Kd.C (Kd.slice 3 (Kd.int .i64)) w0 b rows.length rows → rows.length ≤ l → Kd.C (Kd.slice 3 (Kd.int .i64)) w0 p rows.length rows → rows.length ≤ q → Calls Tryd.prog 19 #[.slice b rows.length l, .slice p rows.length q] w0 fun e w' => e = .returned (.bool true) ∧ Drawn0 w0 w'
theorem samePairsT (w : World) (ps : List (Int × Int)) (b : Option Addr) (p : Nat) (l : Option Addr) (q : Nat) (y : Kd.C k54 w b ps.length ps) (h1 : Kd.C k54 w l ps.length ps) (hl : ps.length ≤ 9000000) :
  Calls Tryd.prog 22 #[.slice b ps.length p, .slice l ps.length q] w fun e w' => e = .returned (.bool true) ∧ Below w.heap.size w w' := by
 have := samePairsC w b p ps l q ps y h1 hl
 rwa [decide_eq_true (show ps = ps from rfl)] at this
theorem liveLA (w : World) (nm : ByteArray) (E : Option Addr) (F b : Nat) (G : Option Addr) (I l : Nat) (rg : Int) (J : Option Addr) (L p : Nat) (hW : WideB w (.agg #[.string nm, .slice E F b, .slice G I l, .int .i64 (rg : Int), .slice J L p]) true) (hAw : AwB w) : Calls Tryd.prog 5 #[(.agg #[.string nm, .slice E F b, .slice G I l, .int .i64 (rg : Int), .slice J L p])] w fun e w' => e = .returned (.bool true) ∧ Below w.heap.size w w' := by
 have HWI := a_ hW; have HAW := a_ hAw; clear hW hAw; have O := Tryd.underlying26; go_enter Tryd.func5, Tryd.ntmps5
 go_wp2_with (first | ((with_reducible refine gd_ 1 rfl ?_); refine q_box 1 26 #[.string nm, .slice E F b, .slice G I l, .int .i64 (rg : Int), .slice J L p] ?_; intro g1 M w1 z B; have C := a_ z; have q := a_ B; clear M z B; obtain ⟨R, S, T, U, V⟩ := q_c5 C.out) | (go_at_call 7; (with_reducible refine (HWI.out _ q.out).mono ?_); rintro e w2 ⟨rfl, hb⟩; have N := a_ (blk_below C.out hb); have y := a_ (below_then q.out q.out.size hb); clear hb; obtain ⟨X, a0, a1, a2, a3⟩ := q_c5 N.out) | (go_at_call 8; (with_reducible refine (HAW.out _ y.out).mono ?_); rintro e a4 ⟨rfl, hb⟩; have D := a_ (below_then y.out y.out.size hb); clear hb))
 (try simp only [Exit.inBlock, Exit.then])
 refine bodyPost_ret (results_tmp rfl _ _ _) rfl ?_
 exact ⟨rfl, D.out⟩
theorem liveLB (w : World) (nm : ByteArray) (q : Option Addr) (y b : Nat) (z : Option Addr) (B l : Nat) (rg : Int) (C : Option Addr) (D p : Nat) (x : Int) (hx : x ≠ 0) (hW : WideB w (.agg #[.string nm, .slice q y b, .slice z B l, .int .i64 (rg : Int), .slice C D p]) false) (hI : RowsX 16 w (.agg #[.string nm, .slice q y b, .slice z B l, .int .i64 (rg : Int), .slice C D p]) [] x) (hO : RowsX 17 w (.agg #[.string nm, .slice q y b, .slice z B l, .int .i64 (rg : Int), .slice C D p]) [] x) (hC : PairsX w (.agg #[.string nm, .slice q y b, .slice z B l, .int .i64 (rg : Int), .slice C D p]) [] x) (hE : ErrB w (.agg #[.string nm, .slice q y b, .slice z B l, .int .i64 (rg : Int), .slice C D p]) x) (hAw : AwB w) : Calls Tryd.prog 5 #[(.agg #[.string nm, .slice q y b, .slice z B l, .int .i64 (rg : Int), .slice C D p])] w fun e w' => e = .returned (.bool true) ∧ Below w.heap.size w w' := by
 have HER := a_ hE; have HIN := a_ hI; have HOUT := a_ hO; have HCL := a_ hC; have c1 : (x != 0) = true := bne_iff_ne.mpr hx
 have e2 : wrap64 (0 : Int) = 0 := wrap64_id (by omega) (by omega)
 clear hE hx hI hO hC; have HWI := a_ hW; have HAW := a_ hAw; clear hW hAw; have a7 := Tryd.underlying26; go_enter Tryd.func5, Tryd.ntmps5
 go_wp2_with (first | ((with_reducible refine gd_ 1 rfl ?_); refine q_box 1 26 #[.string nm, .slice q y b, .slice z B l, .int .i64 (rg : Int), .slice C D p] ?_; intro g1 X w1 M N; have O := a_ M; have E := a_ N; clear X M N; obtain ⟨a8, a9, b0, b1, b2⟩ := q_c5 O.out) | (go_at_call 7; (with_reducible refine (HWI.out _ E.out).mono ?_); rintro e w2 ⟨rfl, hb⟩; have R := a_ (blk_below O.out hb); have F := a_ (below_then E.out E.out.size hb); clear hb; obtain ⟨b3, b4, b5, b6, b7⟩ := q_c5 R.out) | (go_at_call 16; (with_reducible refine (HIN.out _ F.out).mono ?_); rintro e w3 ⟨v3, rfl, hs, hb⟩; obtain ⟨AI, cI, rfl⟩ := Kd.S_slice hs; have a0 := a_ hs; have S := a_ (blk_below R.out hb); have G := a_ (below_then F.out F.out.size hb); obtain ⟨b8, b9, c0, c3, c4⟩ := q_c5 S.out; clear hs hb) | (go_at_call 17; (with_reducible refine (HOUT.out _ G.out).mono ?_); rintro e w4 ⟨v4, rfl, hs, hb⟩; obtain ⟨AO, cO, rfl⟩ := Kd.S_slice hs; have a1 := a_ hs; have a2 := a_ (Kd.S_below a0.out hb); have T := a_ (blk_below S.out hb); have I := a_ (below_then G.out G.out.size hb); obtain ⟨c6, c8, c9, d0, d1⟩ := q_c5 T.out; clear hs hb) | (go_at_call 18; (with_reducible refine (HCL.out _ I.out).mono ?_); rintro e w5 ⟨v5, rfl, hs, hb⟩; obtain ⟨AC, cC, rfl⟩ := Kd.R_slice hs; have a3 := a_ hs; have a4 := a_ (Kd.S_below a2.out hb); have a5 := a_ (Kd.S_below a1.out hb); have U := a_ (blk_below T.out hb); have J := a_ (below_then I.out I.out.size hb); obtain ⟨d2, d3, d4, d5, d6⟩ := q_c5 U.out; clear hs hb) | (go_at_call 10; (with_reducible refine (HER.out _ J.out).mono ?_); rintro e w6 ⟨rfl, hb⟩; have e3 := a_ (Kd.S_below a4.out hb); have e4 := a_ (Kd.S_below a5.out hb); have e5 := a_ (Kd.R_below a3.out hb); have a6 := a_ (blk_below U.out hb); have L := a_ (below_then J.out J.out.size hb); obtain ⟨d7, d8, d9, e0, e1⟩ := q_c5 a6.out; clear hb) | (go_at_call 8; (with_reducible refine (HAW.out _ L.out).mono ?_); rintro e e6 ⟨rfl, hb⟩; have V := a_ (below_then L.out L.out.size hb); clear hb))
 (try simp only [Exit.inBlock, Exit.then])
 refine bodyPost_ret (results_tmp rfl _ _ _) rfl ?_
 exact ⟨rfl, V.out⟩
theorem liveLC (w : World) (nm : ByteArray) (z : Option Addr) (B b : Nat) (C : Option Addr) (D l : Nat) (rg : Nat) (E : Option Addr) (F p : Nat) (IN OUT : List (List Int)) (PS : List (Int × Int)) (hW : WideB w (.agg #[.string nm, .slice z B b, .slice C D l, .int .i64 (rg : Int), .slice E F p]) false) (hI : RowsX 16 w (.agg #[.string nm, .slice z B b, .slice C D l, .int .i64 (rg : Int), .slice E F p]) IN 0) (hO : RowsX 17 w (.agg #[.string nm, .slice z B b, .slice C D l, .int .i64 (rg : Int), .slice E F p]) OUT 0) (hC : PairsX w (.agg #[.string nm, .slice z B b, .slice C D l, .int .i64 (rg : Int), .slice E F p]) PS 0) (hE : ErrB w (.agg #[.string nm, .slice z B b, .slice C D l, .int .i64 (rg : Int), .slice E F p]) 0) (hRI : RefRows 20 w (.agg #[.string nm, .slice z B b, .slice C D l, .int .i64 (rg : Int), .slice E F p]) IN) (hRO : RefRows 21 w (.agg #[.string nm, .slice z B b, .slice C D l, .int .i64 (rg : Int), .slice E F p]) OUT) (hRC : PairsB w (.agg #[.string nm, .slice z B b, .slice C D l, .int .i64 (rg : Int), .slice E F p]) PS) (X : SameLB IN) (a0 : SameLB OUT) (hpl : PS.length ≤ 9000000) (hAw : AwB w) : Calls Tryd.prog 5 #[(.agg #[.string nm, .slice z B b, .slice C D l, .int .i64 (rg : Int), .slice E F p])] w fun e w' => e = .returned (.bool true) ∧ Below w.heap.size w w' := by
 have HER := a_ hE; have HIN := a_ hI; have HOUT := a_ hO; have HCL := a_ hC; have HRI := a_ hRI; have HRO := a_ hRO; have HRC := a_ hRC; have c4 := a_ X; have c6 := a_ a0; have HPL := a_ hpl; clear hE hI hO hC hRI hRO hRC X a0 hpl; have HWI := a_ hW; have HAW := a_ hAw; clear hW hAw; have f1 := Tryd.underlying26; go_enter Tryd.func5, Tryd.ntmps5
 go_wp2_with (first | ((with_reducible refine gd_ 1 rfl ?_); refine q_box 1 26 #[.string nm, .slice z B b, .slice C D l, .int .i64 (rg : Int), .slice E F p] ?_; intro g1 c8 w1 a1 a2; have a3 := a_ a1; have L := a_ a2; clear c8 a1 a2; obtain ⟨f2, f3, f4, f5, f6⟩ := q_c5 a3.out) | (go_at_call 7; (with_reducible refine (HWI.out _ L.out).mono ?_); rintro e w2 ⟨rfl, hb⟩; have a4 := a_ (blk_below a3.out hb); have M := a_ (below_then L.out L.out.size hb); clear hb; obtain ⟨f7, f8, f9, g0, g2⟩ := q_c5 a4.out) | (go_at_call 16; (with_reducible refine (HIN.out _ M.out).mono ?_); rintro e w3 ⟨v3, rfl, hs, hb⟩; obtain ⟨AI, cI, rfl⟩ := Kd.S_slice hs; have c9 := a_ hs; have a5 := a_ (blk_below a4.out hb); have N := a_ (below_then M.out M.out.size hb); obtain ⟨g3, g4, g5, g6, g7⟩ := q_c5 a5.out; clear hs hb) | (go_at_call 17; (with_reducible refine (HOUT.out _ N.out).mono ?_); rintro e w4 ⟨v4, rfl, hs, hb⟩; obtain ⟨AO, cO, rfl⟩ := Kd.S_slice hs; have d0 := a_ hs; have d1 := a_ (Kd.S_below c9.out hb); have a6 := a_ (blk_below a5.out hb); have O := a_ (below_then N.out N.out.size hb); obtain ⟨g8, g9, i0, i1, i2⟩ := q_c5 a6.out; clear hs hb) | (go_at_call 18; (with_reducible refine (HCL.out _ O.out).mono ?_); rintro e w5 ⟨v5, rfl, hs, hb⟩; obtain ⟨AC, cC, rfl⟩ := Kd.R_slice hs; have d2 := a_ hs; have d3 := a_ (Kd.S_below d1.out hb); have d4 := a_ (Kd.S_below d0.out hb); have a7 := a_ (blk_below a6.out hb); have R := a_ (below_then O.out O.out.size hb); obtain ⟨i3, i4, i5, i6, i7⟩ := q_c5 a7.out; clear hs hb) | (go_at_call 10; (with_reducible refine (HER.out _ R.out).mono ?_); rintro e w6 ⟨rfl, hb⟩; have d5 := a_ (Kd.S_below d3.out hb); have d6 := a_ (Kd.S_below d4.out hb); have d7 := a_ (Kd.R_below d2.out hb); have a8 := a_ (blk_below a7.out hb); have S := a_ (below_then R.out R.out.size hb); obtain ⟨i8, i9, j3, j5, j6⟩ := q_c5 a8.out; clear hb) | (go_at_call 20; (with_reducible refine (HRI.out _ S.out).mono ?_); rintro e w7 ⟨v7, rfl, hs, hb⟩; obtain ⟨d8, d9, rfl⟩ := Kd.S_slice hs; have a9 := a_ hs; have T := a_ (Kd.S_below d5.out hb); have e0 := a_ (Kd.S_below d6.out hb); have e1 := a_ (Kd.R_below d7.out hb); have b0 := a_ (blk_below a8.out hb); have b1 := a_ (below_then S.out S.out.size hb); obtain ⟨j7, j8, j9, k0, k1⟩ := q_c5 b0.out; clear hs hb) | (go_at_call 19; (with_reducible refine (c4.out _ AI cI d8 d9 (Kd.S_reads' T.out).2.2 (Kd.S_reads' T.out).2.1 (Kd.S_reads' a9.out).2.2 (Kd.S_reads' a9.out).2.1).mono ?_); rintro e w8 ⟨rfl, hd⟩; have hb := Drawn0.below hd; have e2 := a_ (Kd.S_below T.out hb); have e3 := a_ (Kd.S_below e0.out hb); have e4 := a_ (Kd.R_below e1.out hb); have b2 := a_ (blk_below b0.out hb); have U := a_ (below_then b1.out b1.out.size hb); obtain ⟨k2, k3, k4, k5, k6⟩ := q_c5 b2.out; clear hb hd) | (go_at_call 21; (with_reducible refine (HRO.out _ U.out).mono ?_); rintro e w9 ⟨v9, rfl, hs, hb⟩; obtain ⟨e5, e6, rfl⟩ := Kd.S_slice hs; have b3 := a_ hs; have e7 := a_ (Kd.S_below e2.out hb); have V := a_ (Kd.S_below e3.out hb); have e8 := a_ (Kd.R_below e4.out hb); have b4 := a_ (blk_below b2.out hb); have b5 := a_ (below_then U.out U.out.size hb); obtain ⟨k7, k8, k9, l4, l5⟩ := q_c5 b4.out; clear hs hb) | (go_at_call 19; (with_reducible refine (c6.out _ AO cO e5 e6 (Kd.S_reads' V.out).2.2 (Kd.S_reads' V.out).2.1 (Kd.S_reads' b3.out).2.2 (Kd.S_reads' b3.out).2.1).mono ?_); rintro e o6 ⟨rfl, hd⟩; have hb := Drawn0.below hd; have b6 := a_ (Kd.S_below e7.out hb); have b7 := a_ (Kd.S_below V.out hb); have b8 := a_ (Kd.R_below e8.out hb); have G := a_ (blk_below b4.out hb); have q := a_ (below_then b5.out b5.out.size hb); obtain ⟨l6, l7, l8, l9, n0⟩ := q_c5 G.out; clear hb hd) | (go_at_call 23; (with_reducible refine (HRC.out _ q.out).mono ?_); rintro e o7 ⟨o8, rfl, hs, hb⟩; obtain ⟨e9, f0, rfl⟩ := Kd.R_slice hs; have b9 := a_ hs; have n3 := a_ (Kd.S_below b6.out hb); have n5 := a_ (Kd.S_below b7.out hb); have c0 := a_ (Kd.R_below b8.out hb); have I := a_ (blk_below G.out hb); have J := a_ (below_then q.out q.out.size hb); obtain ⟨n6, n7, n8, n9, o0⟩ := q_c5 I.out; clear hs hb) | (go_at_call 22; (with_reducible refine (samePairsT _ PS AC cC e9 f0 (Kd.R_reads' c0.out).2.2 (Kd.R_reads' b9.out).2.2 HPL.out).mono ?_); rintro e o9 ⟨rfl, hb⟩; have c1 := a_ (blk_below I.out hb); have y := a_ (below_then J.out J.out.size hb); obtain ⟨o1, o2, o3, o4, o5⟩ := q_c5 c1.out; clear hb) | (go_at_call 8; (with_reducible refine (HAW.out _ y.out).mono ?_); rintro e p0 ⟨rfl, hb⟩; have c3 := a_ (below_then y.out y.out.size hb); clear hb))
 (try simp only [Exit.inBlock, Exit.then])
 refine bodyPost_ret (results_tmp rfl _ _ _) rfl ?_
 exact ⟨rfl, c3.out⟩
end Go.Proofs.YtefhpdcafdhcaaaDoor.S
end
section
namespace Go.Proofs.YtefhpdcafdhcaaaDoor.M
open Go Go.RowKit Go.Proofs.YtefhpdcafdhcaaaDoorW.PrintWords Go.Proofs.YtefhpdcafdhcaaaDoorW.PrintLast Go.Proofs.YtefhpdcafdhcaaaDoorW.PrintMore Go.Proofs.YtefhpdcafdhcaaaDoor Go.Proofs.YtefhpdcafdhcaaaDoor.A Go.Proofs.YtefhpdcafdhcaaaDoor.B Go.Proofs.YtefhpdcafdhcaaaDoor.N Go.Proofs.YtefhpdcafdhcaaaDoor.V Go.Proofs.YtefhpdcafdhcaaaDoor.S
open FlowM (next Fine FineNd FineG Live liveF after listOf mem_listOf after_bit clashF)
theorem sameLists_ev {l : List (List Int)} (hl : l.length ≤ 2048) (hs : ∀ r ∈ l, r.length ≤ 2048) : ∀ (m j : Nat), j + m = l.length → Evt (fun k => r6_SameLists.l0 k l l (j : Int)) true
 | 0, j, h => by {
 refine Evt.succ ?_
 simp only [r6_SameLists.l0]
 exact Evt.neg (by omega) (Evt.const _)}
 | m + 1, j, h => by {
 have hj : j < l.length := by omega
 have hr : rd_L2 l (j : Int) = l[j] := by unfold rd_L2; rw [Int.toNat_natCast, List.getD_eq_getElem?_getD, List.getElem?_eq_getElem hj]; rfl
 refine Evt.succ ?_
 simp only [r6_SameLists.l0]
 refine Evt.pos (by omega) (Evt.pos (by omega) (Evt.pos (by omega) ?_))
 rw [hr]; have hx := sameInts_ev (hs _ (List.getElem_mem hj)) l[j].length 0 (by omega)
 refine Evt.bind (a := true) ?_ (Evt.pos (by trivial) ?_)
 {
 unfold r5_SameInts.f
 exact Evt.pos (by trivial) hx}
 {
 rw [wrap_succ j (by omega)]
 exact sameLists_ev hl hs m (j + 1) (by omega)}}
theorem sameLB {l : List (List Int)} (hl : l.length ≤ 2048) (hs : ∀ r ∈ l, r.length ≤ 2048) : SameLB l := by
 intro w0 p q A1 c1 y b h1 hc1
 obtain ⟨k, hk⟩ := (sameLists_ev hl hs l.length 0 (by omega)).get
 exact r6_SameLists.calls k p q l A1 c1 l true w0 y b h1 hc1 (by unfold r6_SameLists.f; rw [if_pos rfl]; exact hk)
section
variable {nm : ByteArray} {ps : List S83} {ar : List S85} {rg : Int} {N : List S69} {w : World} {A1 : Option Addr} {c1 : Nat} {A2 : Option Addr} {c2 : Nat} {A4 : Option Addr} {c4 : Nat}
variable (h1 : Kd.C k83 w A1 ps.length ps) (hc1 : ps.length ≤ c1) (h2 : Kd.C k85 w A2 ar.length ar) (hc2 : ar.length ≤ c2) (h4 : Kd.C k69 w A4 N.length N) (hc4 : N.length ≤ c4)
include h1 hc1 h2 hc2 h4 hc4
theorem rintoB_of {r : List (List Int)} (h : Evt (fun k => r11_Into.f k nm ps ar rg N) r) : RefRows 20 w (.agg #[.string nm, .slice A1 ps.length c1, .slice A2 ar.length c2, .int .i64 rg, .slice A4 N.length c4]) r := by
 obtain ⟨k, hk⟩ := h.get; intro w0 hb
 exact r11_Into.calls k nm A1 c1 ps A2 c2 ar rg A4 c4 N r w0 ⟨Kd.C_below h1 hb, hc1, Kd.C_below h2 hb, hc2, Kd.C_below h4 hb, hc4⟩ hk
theorem routB_of {r : List (List Int)} (h : Evt (fun k => r11_Out.f k nm ps ar rg N) r) : RefRows 21 w (.agg #[.string nm, .slice A1 ps.length c1, .slice A2 ar.length c2, .int .i64 rg, .slice A4 N.length c4]) r := by
 obtain ⟨k, hk⟩ := h.get; intro w0 hb
 exact r11_Out.calls k nm A1 c1 ps A2 c2 ar rg A4 c4 N r w0 ⟨Kd.C_below h1 hb, hc1, Kd.C_below h2 hb, hc2, Kd.C_below h4 hb, hc4⟩ hk
theorem pairsB_of {r : List (Int × Int)} (h : Evt (fun k => r11_Clashes.f k nm ps ar rg N) r) : PairsB w (.agg #[.string nm, .slice A1 ps.length c1, .slice A2 ar.length c2, .int .i64 rg, .slice A4 N.length c4]) r := by
 obtain ⟨k, hk⟩ := h.get; intro w0 hb
 exact r11_Clashes.calls k nm A1 c1 ps A2 c2 ar rg A4 c4 N r w0 (Kd.C_below h1 hb) hc1 (Kd.C_below h2 hb) hc2 (Kd.C_below h4 hb) hc4 hk
variable (hT : Tab w)
include hT
theorem intoX_of {r : List (List Int)} {x : Int} (h : Evt (fun k => alloc_Into.f k nm ps ar rg N) (r, x)) : RowsX 16 w (.agg #[.string nm, .slice A1 ps.length c1, .slice A2 ar.length c2, .int .i64 rg, .slice A4 N.length c4]) r x := by
 obtain ⟨k, hk⟩ := h.get; intro w0 hb
 exact alloc_Into.calls k nm A1 c1 ps A2 c2 ar rg A4 c4 N r x w0 (Kd.C_below h1 hb) hc1 (Kd.C_below h2 hb) hc2 (Kd.C_below h4 hb) hc4 hk (hT.below hb)
theorem outX_of {r : List (List Int)} {x : Int} (h : Evt (fun k => alloc_Out.f k nm ps ar rg N) (r, x)) : RowsX 17 w (.agg #[.string nm, .slice A1 ps.length c1, .slice A2 ar.length c2, .int .i64 rg, .slice A4 N.length c4]) r x := by
 obtain ⟨k, hk⟩ := h.get; intro w0 hb
 exact alloc_Out.calls k nm A1 c1 ps A2 c2 ar rg A4 c4 N r x w0 (Kd.C_below h1 hb) hc1 (Kd.C_below h2 hb) hc2 (Kd.C_below h4 hb) hc4 hk (hT.below hb)
theorem pairsX_of {r : List (Int × Int)} {x : Int} (h : Evt (fun k => alloc_Clashes.f k nm ps ar rg N) (r, x)) : PairsX w (.agg #[.string nm, .slice A1 ps.length c1, .slice A2 ar.length c2, .int .i64 rg, .slice A4 N.length c4]) r x := by
 obtain ⟨k, hk⟩ := h.get; intro w0 hb
 exact alloc_Clashes.calls k nm A1 c1 ps A2 c2 ar rg A4 c4 N r x w0 (Kd.C_below h1 hb) hc1 (Kd.C_below h2 hb) hc2 (Kd.C_below h4 hb) hc4 hk (hT.below hb)
theorem live_law (hB : Big ps ar N) (hI : Ints N) : Calls Tryd.prog 5 #[(.agg #[.string nm, .slice A1 ps.length c1, .slice A2 ar.length c2, .int .i64 rg, .slice A4 N.length c4])] w fun e w' => e = .returned (.bool true) ∧ Below w.heap.size w w' := by
 rcases flow_cases nm rg hB hI with hw | ⟨hs, hw, e, he, hE, hA⟩ | ⟨hs, hw, hE, hA, hV, hFV, p, _⟩
 ·exact liveLA w nm A1 _ c1 A2 _ c2 rg A4 _ c4 (wideB_of h1 hc1 h2 hc2 h4 hc4 hw) (awB_of hT)
 {
 refine liveLB w nm A1 _ c1 A2 _ c2 rg A4 _ c4 e he (wideB_of h1 hc1 h2 hc2 h4 hc4 hw) (intoX_of h1 hc1 h2 hc2 h4 hc4 hT ?_) (outX_of h1 hc1 h2 hc2 h4 hc4 hT ?_) (pairsX_of h1 hc1 h2 hc2 h4 hc4 hT ?_) (errB_of h1 hc1 h2 hc2 h4 hc4 hE) (awB_of hT)
 ·unfold alloc_Into.f; exact Evt.bind hA (Evt.neg he (Evt.const _))
 ·unfold alloc_Out.f; exact Evt.bind hA (Evt.neg he (Evt.const _))
 ·unfold alloc_Clashes.f; exact Evt.bind hA (Evt.neg he (Evt.const _))}
 {
 obtain ⟨R, hR, hRl, _, hL⟩ := live_ev nm rg hs hV hFV; have hsum := hs.sum; have q := hV.r0; have hN : N.length ≤ 400 := by omega
 have hns : ∀ n ∈ N, n.f0.length ≤ 1000 := fun n hn => by {
 have : n.f0.length + wArgs n.f0 ≤ wNds N := sum_mem_le (List.mem_map_of_mem hn)
 omega}
 have hF := hV.fine; have b := hV.n0; obtain ⟨g, rfl⟩ : ∃ g : Nat, rg = (g : Int) := ⟨rg.toNat, by omega⟩
 rw [Int.toNat_natCast] at hF; have hg : g ≤ 300 := by omega
 have hI : Evt (fun k => alloc_Into.f k nm ps ar (g : Int) N) (R.map fun s => regsL s g, 0) := by {
 unfold alloc_Into.f
 exact Evt.bind hA (Evt.pos (by trivial) (Evt.bind hR (by rw [Int.toNat_natCast]; exact Evt.const _)))}
 have hO : Evt (fun k => alloc_Out.f k nm ps ar (g : Int) N) ((List.range R.length).map fun i => regsL (after ((N.map next).getD i []) R) g, 0) := by {
 unfold alloc_Out.f
 exact Evt.bind hA (Evt.pos (by trivial) (Evt.bind hR (by rw [Int.toNat_natCast]; exact Evt.const _)))}
 have hC : Evt (fun k => alloc_Clashes.f k nm ps ar (g : Int) N) (pairsOf (clashF g N R) g g, 0) := by {
 unfold alloc_Clashes.f
 exact Evt.bind hA (Evt.pos (by trivial) (Evt.bind hR (by rw [Int.toNat_natCast]; exact Evt.const _)))}
 refine liveLC w nm A1 _ c1 A2 _ c2 g A4 _ c4 _ _ _ (wideB_of h1 hc1 h2 hc2 h4 hc4 hw) (intoX_of h1 hc1 h2 hc2 h4 hc4 hT hI) (outX_of h1 hc1 h2 hc2 h4 hc4 hT hO) (pairsX_of h1 hc1 h2 hc2 h4 hc4 hT hC) (errB_of h1 hc1 h2 hc2 h4 hc4 hE)
  (rintoB_of h1 hc1 h2 hc2 h4 hc4 (rinto_ev nm (by omega) (by omega) hns hF hRl hL)) (routB_of h1 hc1 h2 hc2 h4 hc4 (rout_all nm (by omega) (by omega) hns hF hRl hL)) (pairsB_of h1 hc1 h2 hc2 h4 hc4 (rclashes_ev nm (by omega) (by omega) b hns hF hL))
  (sameLB (by rw [List.length_map]; omega) ?_) (sameLB (by rw [List.length_map, List.length_range]; omega) ?_) ?_ (awB_of hT)
 {
 intro l hl
 obtain ⟨s, _, rfl⟩ := List.mem_map.1 hl; exact Nat.le_trans (regsL_len s g) (by omega)}
 {
 intro l hl
 obtain ⟨s, _, rfl⟩ := List.mem_map.1 hl; exact Nat.le_trans (regsL_len _ g) (by omega)}
 {
 have := pairs_len (C := clashF g N R) (g := g) g
 have hb : g * g ≤ 300 * 300 := Nat.mul_le_mul hg hg
 omega}}
end
end Go.Proofs.YtefhpdcafdhcaaaDoor.M
end
