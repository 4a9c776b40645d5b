/- Texts of this claim, cut down to what its theorem uses and laid end to end (wip/shake.py). -/
import Derived.ArgAppend
import Derived.Below
import Derived.BigQuiet
import Derived.ChangeOld
import Derived.ChangeVars
import Derived.Deep.AppendLies
import Derived.Deep.CutBlock
import Derived.Deep.DeepCutAuto
import Derived.Deep.Draws
import Derived.Deep.LoopGhost
import Derived.Deep.MidRow
import Derived.Deep.OwnRows
import Derived.Deep.QuietTactic
import Derived.Deep.RegionHeld3
import Derived.Deep.Slices
import Derived.KernelRfl
import Derived.LaidLaws
import Derived.LaidMore
import Derived.Laws.Bits64b
import Derived.Laws.BitsLemmas
import Derived.Laws.BytesArg
import Derived.Laws.CopyRow
import Derived.Laws.IdiomCopy
import Derived.Laws.MakeOwn
import Derived.Laws.OwnMore
import Derived.Laws.Rows
import Derived.Laws.Slices
import Derived.Laws.StructEq
import Derived.Lay
import Derived.Lib.AppendStr
import Derived.Lib.ConvBytes
import Derived.Lib.LaidTab
import Derived.Maps.AppendAt
import Derived.Maps.OwnOps
import Derived.Maps.OwnSet
import Derived.OpenShut
import Derived.OrdersHeld
import Derived.OwnWalk
import Derived.ProofKit
import Derived.RowKit
import Derived.RowKit3
import Derived.SevenTiedAt
import Derived.Shelf.Strings.Fields
import Derived.ShutString
import Derived.SizedLaws
import Derived.Stop.Joined
import Derived.StringKeys
import Derived.Tactics
import Derived.Test.YtefhpdcafdhcaaaDoorCards
import Derived.Test.YtefhpdcafdhcaaaDoorProg
import Derived.Test.YtefhpdcafdhcaaaDoorRows
import Derived.Test.YtefhpdcafdhcaaaDoorTie
import Derived.WalkKit
import Derived.WideLaws
import Derived.Test.YtefhpdcafdhcaaaDoorKR0
set_option maxHeartbeats 16000000
set_option maxRecDepth 100000
set_option exponentiation.threshold 3000
section
namespace Go.Proofs.YtefhpdcafdhcaaaDoor.A
open Go.RowKit Go.Proofs.YtefhpdcafdhcaaaDoorW.PrintWords Go.Proofs.YtefhpdcafdhcaaaDoorW.PrintLast Go.Proofs.YtefhpdcafdhcaaaDoorW.PrintMore
set_option linter.unusedVariables false
set_option linter.unusedSimpArgs false
def errW : Option Int → Value
 | none => .nilIface
 | some c => .iface 0 (.int .i64 c)
theorem errW_none : errW none = .nilIface := rfl
theorem errW_some (c : Int) : errW (some c) = .iface 0 (.int .i64 c) := rfl
theorem info3 : (Tryd.prog.info? 3).map (fun i => (i.zero, i.size, i.bytes)) = some (some (.int .i64 0), 1, 8) := by kernel_rfl
theorem info4 : (Tryd.prog.info? 4).map (fun i => (i.zero, i.size, i.bytes)) = some (some (.bool false), 1, 1) := by kernel_rfl
theorem info9 : (Tryd.prog.info? 9).map (fun i => (i.zero, i.size, i.bytes)) = some (some (.string ⟨#[]⟩), 1, 16) := by kernel_rfl
theorem info27 : (Tryd.prog.info? 27).map (fun i => (i.zero, i.size, i.bytes)) = some (some (.slice none 0 0), 1, 24) := by kernel_rfl
theorem info37 : (Tryd.prog.info? 37).map (fun i => (i.zero, i.size, i.bytes)) = some (some (.slice none 0 0), 1, 24) := by kernel_rfl
theorem info71 : (Tryd.prog.info? 71).map (fun i => (i.zero, i.size, i.bytes)) = some (some (.agg #[(.int .i64 0), (.int .i64 0), (.int .i64 0), (.int .i64 0), (.int .i64 0), (.int .i32 0), (.slice none 0 0)]), 7, 72) := by kernel_rfl
def rd_L2 (xs : List (List Int)) (i : Int) : (List Int) := xs.getD i.toNat ([] : List Int)
theorem at_L2 {w : World} {A : Option Addr} {n : Nat} {xs : List (List Int)} (h : Kd.C (Kd.slice 3 (Kd.int .i64)) w A n xs) (i : Int) (E : 0 ≤ i) (h1 : i < n) : ∃ ad b l, A = some ad ∧ w.cell? (ad.add i.toNat) = some (.slice b (rd_L2 xs i).length l) ∧ (rd_L2 xs i).length ≤ l ∧ (Kd.int .i64).C w b (rd_L2 xs i).length (rd_L2 xs i) := by
 obtain ⟨ad, c, e, _, hK, y⟩ := Kd.C_get h ([] : List Int) i E h1; have hc : ∀ j u, c[j]? = some u → w.cell? (ad.add (i.toNat * 1 + j)) = some u := y
 obtain ⟨b, l, rfl, l0, F⟩ := hK; exact ⟨ad, b, l, e, by have hq := hc 0 _ rfl; rwa [Nat.mul_one, Nat.add_zero] at hq, l0, F⟩
theorem b_L2 {w W : World} {A : Option Addr} {n : Nat} {xs : List (List Int)} (h : Kd.C (Kd.slice 3 (Kd.int .i64)) w A n xs) (hB : Below w.heap.size w W) (i : Int) (p : 0 ≤ i := by exact q_d) (q : i < n := by exact q_d) : ∃ ad b l, A = some ad ∧ W.cell? (ad.add i.toNat) = some (.slice b (rd_L2 xs i).length l) ∧ (rd_L2 xs i).length ≤ l ∧ (Kd.int .i64).C w b (rd_L2 xs i).length (rd_L2 xs i) ∧ (0 ≤ i) = True ∧ (i < n) = True := by
 obtain ⟨ad, b, l, e_, z, B, D⟩ := at_L2 h i p q; exact ⟨ad, b, l, e_, q_kc hB z, B, D, eq_true p, eq_true q⟩
abbrev S71 := FlowM.Ins
def z71 : S71 := ⟨(0 : Int), (0 : Int), (0 : Int), (0 : Int), (0 : Int), (0 : Int), ([] : List Int)⟩
def k71 : Kd S71 := Kd.iso (Kd.pair (Kd.int .i64) (Kd.pair (Kd.int .i64) (Kd.pair (Kd.int .i64) (Kd.pair (Kd.int .i64) (Kd.pair (Kd.int .i64) (Kd.pair (Kd.int .i32) (Kd.slice 3 (Kd.int .i64)))))))) (fun x : S71 => (x.f0, x.f1, x.f2, x.f3, x.f4, x.f5, x.f6))
theorem k71_open {w : World} {x : S71} {cs : List Value} (h : k71.K w x cs) : ∃ b l, cs = [.int .i64 x.f0, .int .i64 x.f1, .int .i64 x.f2, .int .i64 x.f3, .int .i64 x.f4, .int .i32 x.f5, .slice b x.f6.length l] ∧ x.f6.length ≤ l ∧ (Kd.int .i64).C w b x.f6.length x.f6 := by
 obtain ⟨_, _, rfl, rfl, ⟨_, _, rfl, rfl, ⟨_, _, rfl, rfl, ⟨_, _, rfl, rfl, ⟨_, _, rfl, rfl, ⟨_, _, rfl, rfl, ⟨b, l, rfl, p, q⟩⟩⟩⟩⟩⟩⟩ := h; exact ⟨b, l, rfl, p, q⟩
theorem k71_mk (w : World) (x : S71) {b : Option Addr} {l : Nat} (p : x.f6.length ≤ l) (q : (Kd.int .i64).C w b x.f6.length x.f6) : k71.K w x [.int .i64 x.f0, .int .i64 x.f1, .int .i64 x.f2, .int .i64 x.f3, .int .i64 x.f4, .int .i32 x.f5, .slice b x.f6.length l] := ⟨[.int .i64 x.f0], [.int .i64 x.f1, .int .i64 x.f2, .int .i64 x.f3, .int .i64 x.f4, .int .i32 x.f5, .slice b x.f6.length l], rfl, rfl, ⟨[.int .i64 x.f1], [.int .i64 x.f2, .int .i64 x.f3, .int .i64 x.f4, .int .i32 x.f5, .slice b x.f6.length l], rfl, rfl, ⟨[.int .i64 x.f2], [.int .i64 x.f3, .int .i64 x.f4, .int .i32 x.f5, .slice b x.f6.length l], rfl, rfl, ⟨[.int .i64 x.f3], [.int .i64 x.f4, .int .i32 x.f5, .slice b x.f6.length l], rfl, rfl, ⟨[.int .i64 x.f4], [.int .i32 x.f5, .slice b x.f6.length l], rfl, rfl, ⟨[.int .i32 x.f5], [.slice b x.f6.length l], rfl, rfl, ⟨b, l, rfl, p, q⟩⟩⟩⟩⟩⟩⟩
theorem k71_mkF (W : World) (ok : Nat → Prop) (x : S71) {b : Option Addr} {l : Nat} (q : x.f6.length ≤ l) (y : Kd.F (Kd.int .i64) W ok b x.f6.length x.f6) : Kd.FK k71 W ok x [.int .i64 x.f0, .int .i64 x.f1, .int .i64 x.f2, .int .i64 x.f3, .int .i64 x.f4, .int .i32 x.f5, .slice b x.f6.length l] := fun p hW => k71_mk p x q (y p hW)
def rd_T71 (xs : List S71) (i : Int) : S71 := xs.getD i.toNat z71
theorem at_T71 {w : World} {A : Option Addr} {n : Nat} {xs : List S71} (h : Kd.C k71 w A n xs) (i : Int) (M : 0 ≤ i) (h1 : i < n) : ∃ ad b l, A = some ad ∧ w.cell? (ad.add (i.toNat * 7)) = some (.int .i64 (rd_T71 xs i).f0) ∧ w.cell? ⟨(ad.add (i.toNat * 7)).block, (ad.add (i.toNat * 7)).off + 1, none⟩ = some (.int .i64 (rd_T71 xs i).f1) ∧ w.cell? ⟨(ad.add (i.toNat * 7)).block, (ad.add (i.toNat * 7)).off + 2, none⟩ = some (.int .i64 (rd_T71 xs i).f2) ∧ w.cell? ⟨(ad.add (i.toNat * 7)).block, (ad.add (i.toNat * 7)).off + 3, none⟩ = some (.int .i64 (rd_T71 xs i).f3) ∧ w.cell? ⟨(ad.add (i.toNat * 7)).block, (ad.add (i.toNat * 7)).off + 4, none⟩ = some (.int .i64 (rd_T71 xs i).f4) ∧ w.cell? ⟨(ad.add (i.toNat * 7)).block, (ad.add (i.toNat * 7)).off + 5, none⟩ = some (.int .i32 (rd_T71 xs i).f5) ∧ w.cell? ⟨(ad.add (i.toNat * 7)).block, (ad.add (i.toNat * 7)).off + 6, none⟩ = some (.slice b (rd_T71 xs i).f6.length l) ∧ (rd_T71 xs i).f6.length ≤ l ∧ (Kd.int .i64).C w b (rd_T71 xs i).f6.length (rd_T71 xs i).f6 := by
 obtain ⟨ad, c, e, _, hK, y⟩ := Kd.C_get h z71 i M h1; have hc : ∀ j u, c[j]? = some u → w.cell? (ad.add (i.toNat * 7 + j)) = some u := y
 obtain ⟨b, l, rfl, N, O⟩ := k71_open hK; exact ⟨ad, b, l, e, hc 0 _ rfl, by rw [← add_field _ _ 1 (by omega)]; exact hc 1 _ rfl, by rw [← add_field _ _ 2 (by omega)]; exact hc 2 _ rfl, by rw [← add_field _ _ 3 (by omega)]; exact hc 3 _ rfl, by rw [← add_field _ _ 4 (by omega)]; exact hc 4 _ rfl, by rw [← add_field _ _ 5 (by omega)]; exact hc 5 _ rfl, by rw [← add_field _ _ 6 (by omega)]; exact hc 6 _ rfl, N, O⟩
theorem b_T71 {w W : World} {A : Option Addr} {n : Nat} {xs : List S71} (h : Kd.C k71 w A n xs) (hB : Below w.heap.size w W) (i : Int) (p : 0 ≤ i := by exact q_d) (q : i < n := by exact q_d) : ∃ ad b l, A = some ad ∧ W.cell? (ad.add (i.toNat * 7)) = some (.int .i64 (rd_T71 xs i).f0) ∧ W.cell? ⟨(ad.add (i.toNat * 7)).block, (ad.add (i.toNat * 7)).off + 1, none⟩ = some (.int .i64 (rd_T71 xs i).f1) ∧ W.cell? ⟨(ad.add (i.toNat * 7)).block, (ad.add (i.toNat * 7)).off + 2, none⟩ = some (.int .i64 (rd_T71 xs i).f2) ∧ W.cell? ⟨(ad.add (i.toNat * 7)).block, (ad.add (i.toNat * 7)).off + 3, none⟩ = some (.int .i64 (rd_T71 xs i).f3) ∧ W.cell? ⟨(ad.add (i.toNat * 7)).block, (ad.add (i.toNat * 7)).off + 4, none⟩ = some (.int .i64 (rd_T71 xs i).f4) ∧ W.cell? ⟨(ad.add (i.toNat * 7)).block, (ad.add (i.toNat * 7)).off + 5, none⟩ = some (.int .i32 (rd_T71 xs i).f5) ∧ W.cell? ⟨(ad.add (i.toNat * 7)).block, (ad.add (i.toNat * 7)).off + 6, none⟩ = some (.slice b (rd_T71 xs i).f6.length l) ∧ (rd_T71 xs i).f6.length ≤ l ∧ (Kd.int .i64).C w b (rd_T71 xs i).f6.length (rd_T71 xs i).f6 ∧ (0 ≤ i) = True ∧ (i < n) = True := by
 obtain ⟨ad, b, l, e_, z, B, D, E, F, G, I, J, L⟩ := at_T71 h i p q; exact ⟨ad, b, l, e_, q_kc hB z, q_kc hB B, q_kc hB D, q_kc hB E, q_kc hB F, q_kc hB G, q_kc hB I, J, L, eq_true p, eq_true q⟩
abbrev S69 := FlowM.Nd
def z69 : S69 := ⟨([] : List S71), (0 : Int), (0 : Int), (0 : Int), (0 : Int)⟩
def k69 : Kd S69 := Kd.iso (Kd.pair (Kd.slice 71 k71) (Kd.pair (Kd.int .i64) (Kd.pair (Kd.int .i64) (Kd.pair (Kd.int .i64) (Kd.int .i64))))) (fun x : S69 => (x.f0, x.f1, x.f2, x.f3, x.f4))
theorem k69_open {w : World} {x : S69} {cs : List Value} (h : k69.K w x cs) : ∃ b l, cs = [.slice b x.f0.length l, .int .i64 x.f1, .int .i64 x.f2, .int .i64 x.f3, .int .i64 x.f4] ∧ x.f0.length ≤ l ∧ k71.C w b x.f0.length x.f0 := by
 obtain ⟨_, _, rfl, ⟨b, l, rfl, l0, p⟩, ⟨_, _, rfl, rfl, ⟨_, _, rfl, rfl, ⟨_, _, rfl, rfl, rfl⟩⟩⟩⟩ := h; exact ⟨b, l, rfl, l0, p⟩
theorem k69_mk (w : World) (x : S69) {b : Option Addr} {l : Nat} (l0 : x.f0.length ≤ l) (p : k71.C w b x.f0.length x.f0) : k69.K w x [.slice b x.f0.length l, .int .i64 x.f1, .int .i64 x.f2, .int .i64 x.f3, .int .i64 x.f4] := ⟨[.slice b x.f0.length l], [.int .i64 x.f1, .int .i64 x.f2, .int .i64 x.f3, .int .i64 x.f4], rfl, ⟨b, l, rfl, l0, p⟩, ⟨[.int .i64 x.f1], [.int .i64 x.f2, .int .i64 x.f3, .int .i64 x.f4], rfl, rfl, ⟨[.int .i64 x.f2], [.int .i64 x.f3, .int .i64 x.f4], rfl, rfl, ⟨[.int .i64 x.f3], [.int .i64 x.f4], rfl, rfl, rfl⟩⟩⟩⟩
theorem k69_mkF (W : World) (ok : Nat → Prop) (x : S69) {b : Option Addr} {l : Nat} (l0 : x.f0.length ≤ l) (q : Kd.F k71 W ok b x.f0.length x.f0) : Kd.FK k69 W ok x [.slice b x.f0.length l, .int .i64 x.f1, .int .i64 x.f2, .int .i64 x.f3, .int .i64 x.f4] := fun p hW => k69_mk p x l0 (q p hW)
def rd_T69 (xs : List S69) (i : Int) : S69 := xs.getD i.toNat z69
theorem at_T69 {w : World} {A : Option Addr} {n : Nat} {xs : List S69} (h : Kd.C k69 w A n xs) (i : Int) (J : 0 ≤ i) (h1 : i < n) : ∃ ad b l, A = some ad ∧ w.cell? (ad.add (i.toNat * 5)) = some (.slice b (rd_T69 xs i).f0.length l) ∧ w.cell? ⟨(ad.add (i.toNat * 5)).block, (ad.add (i.toNat * 5)).off + 1, none⟩ = some (.int .i64 (rd_T69 xs i).f1) ∧ w.cell? ⟨(ad.add (i.toNat * 5)).block, (ad.add (i.toNat * 5)).off + 2, none⟩ = some (.int .i64 (rd_T69 xs i).f2) ∧ w.cell? ⟨(ad.add (i.toNat * 5)).block, (ad.add (i.toNat * 5)).off + 3, none⟩ = some (.int .i64 (rd_T69 xs i).f3) ∧ w.cell? ⟨(ad.add (i.toNat * 5)).block, (ad.add (i.toNat * 5)).off + 4, none⟩ = some (.int .i64 (rd_T69 xs i).f4) ∧ (rd_T69 xs i).f0.length ≤ l ∧ k71.C w b (rd_T69 xs i).f0.length (rd_T69 xs i).f0 := by
 obtain ⟨ad, c, e, _, hK, y⟩ := Kd.C_get h z69 i J h1; have hc : ∀ j u, c[j]? = some u → w.cell? (ad.add (i.toNat * 5 + j)) = some u := y
 obtain ⟨b, l, rfl, l0, L⟩ := k69_open hK; exact ⟨ad, b, l, e, hc 0 _ rfl, by rw [← add_field _ _ 1 (by omega)]; exact hc 1 _ rfl, by rw [← add_field _ _ 2 (by omega)]; exact hc 2 _ rfl, by rw [← add_field _ _ 3 (by omega)]; exact hc 3 _ rfl, by rw [← add_field _ _ 4 (by omega)]; exact hc 4 _ rfl, l0, L⟩
theorem b_T69 {w W : World} {A : Option Addr} {n : Nat} {xs : List S69} (h : Kd.C k69 w A n xs) (hB : Below w.heap.size w W) (i : Int) (p : 0 ≤ i := by exact q_d) (q : i < n := by exact q_d) : ∃ ad b l, A = some ad ∧ W.cell? (ad.add (i.toNat * 5)) = some (.slice b (rd_T69 xs i).f0.length l) ∧ W.cell? ⟨(ad.add (i.toNat * 5)).block, (ad.add (i.toNat * 5)).off + 1, none⟩ = some (.int .i64 (rd_T69 xs i).f1) ∧ W.cell? ⟨(ad.add (i.toNat * 5)).block, (ad.add (i.toNat * 5)).off + 2, none⟩ = some (.int .i64 (rd_T69 xs i).f2) ∧ W.cell? ⟨(ad.add (i.toNat * 5)).block, (ad.add (i.toNat * 5)).off + 3, none⟩ = some (.int .i64 (rd_T69 xs i).f3) ∧ W.cell? ⟨(ad.add (i.toNat * 5)).block, (ad.add (i.toNat * 5)).off + 4, none⟩ = some (.int .i64 (rd_T69 xs i).f4) ∧ (rd_T69 xs i).f0.length ≤ l ∧ k71.C w b (rd_T69 xs i).f0.length (rd_T69 xs i).f0 ∧ (0 ≤ i) = True ∧ (i < n) = True := by
 obtain ⟨ad, b, l, e_, z, B, D, E, F, G, I⟩ := at_T69 h i p q; exact ⟨ad, b, l, e_, q_kc hB z, q_kc hB B, q_kc hB D, q_kc hB E, q_kc hB F, G, I, eq_true p, eq_true q⟩
abbrev S83 := FlowM.Par
def z83 : S83 := ⟨(⟨#[]⟩ : ByteArray), false⟩
def k83 : Kd S83 := Kd.iso (Kd.pair Kd.string Kd.bool) (fun x : S83 => (x.f0, x.f1))
theorem k83_open {w : World} {x : S83} {cs : List Value} (h : k83.K w x cs) : cs = [.string x.f0, .bool x.f1] := by
 obtain ⟨_, _, rfl, rfl, rfl⟩ := h; exact rfl
theorem k83_mkM (w : World) (base : Nat) (ok : Nat → Prop) (x : S83)  : k83.M w base ok x [.string x.f0, .bool x.f1] := ⟨[.string x.f0], [.bool x.f1], rfl, rfl, rfl⟩
def rd_T83 (xs : List S83) (i : Int) : S83 := xs.getD i.toNat z83
theorem at_T83 {w : World} {A : Option Addr} {n : Nat} {xs : List S83} (h : Kd.C k83 w A n xs) (i : Int) (z : 0 ≤ i) (h1 : i < n) : ∃ ad , A = some ad ∧ w.cell? (ad.add (i.toNat * 2)) = some (.string (rd_T83 xs i).f0) ∧ w.cell? ⟨(ad.add (i.toNat * 2)).block, (ad.add (i.toNat * 2)).off + 1, none⟩ = some (.bool (rd_T83 xs i).f1) := by
 obtain ⟨ad, c, e, _, hK, b⟩ := Kd.C_get h z83 i z h1; have hc : ∀ j u, c[j]? = some u → w.cell? (ad.add (i.toNat * 2 + j)) = some u := b
 obtain rfl := k83_open hK; exact ⟨ad, e, hc 0 _ rfl, by rw [← add_field _ _ 1 (by omega)]; exact hc 1 _ rfl⟩
theorem b_T83 {w W : World} {A : Option Addr} {n : Nat} {xs : List S83} (h : Kd.C k83 w A n xs) (hB : Below w.heap.size w W) (i : Int) (p : 0 ≤ i := by exact q_d) (q : i < n := by exact q_d) : ∃ ad, A = some ad ∧ W.cell? (ad.add (i.toNat * 2)) = some (.string (rd_T83 xs i).f0) ∧ W.cell? ⟨(ad.add (i.toNat * 2)).block, (ad.add (i.toNat * 2)).off + 1, none⟩ = some (.bool (rd_T83 xs i).f1) ∧ (0 ≤ i) = True ∧ (i < n) = True := by
 obtain ⟨ad, e_, l, y⟩ := at_T83 h i p q; exact ⟨ad, e_, q_kc hB l, q_kc hB y, eq_true p, eq_true q⟩
abbrev S85 := FlowM.Arr
def z85 : S85 := ⟨(⟨#[]⟩ : ByteArray), (0 : Int)⟩
def k85 : Kd S85 := Kd.iso (Kd.pair Kd.string (Kd.int .i64)) (fun x : S85 => (x.f0, x.f1))
theorem k85_open {w : World} {x : S85} {cs : List Value} (h : k85.K w x cs) : cs = [.string x.f0, .int .i64 x.f1] := by
 obtain ⟨_, _, rfl, rfl, rfl⟩ := h; exact rfl
def rd_T85 (xs : List S85) (i : Int) : S85 := xs.getD i.toNat z85
theorem at_T85 {w : World} {A : Option Addr} {n : Nat} {xs : List S85} (h : Kd.C k85 w A n xs) (i : Int) (z : 0 ≤ i) (h1 : i < n) : ∃ ad , A = some ad ∧ w.cell? (ad.add (i.toNat * 2)) = some (.string (rd_T85 xs i).f0) ∧ w.cell? ⟨(ad.add (i.toNat * 2)).block, (ad.add (i.toNat * 2)).off + 1, none⟩ = some (.int .i64 (rd_T85 xs i).f1) := by
 obtain ⟨ad, c, e, _, hK, b⟩ := Kd.C_get h z85 i z h1; have hc : ∀ j u, c[j]? = some u → w.cell? (ad.add (i.toNat * 2 + j)) = some u := b
 obtain rfl := k85_open hK; exact ⟨ad, e, hc 0 _ rfl, by rw [← add_field _ _ 1 (by omega)]; exact hc 1 _ rfl⟩
theorem b_T85 {w W : World} {A : Option Addr} {n : Nat} {xs : List S85} (h : Kd.C k85 w A n xs) (hB : Below w.heap.size w W) (i : Int) (p : 0 ≤ i := by exact q_d) (q : i < n := by exact q_d) : ∃ ad, A = some ad ∧ W.cell? (ad.add (i.toNat * 2)) = some (.string (rd_T85 xs i).f0) ∧ W.cell? ⟨(ad.add (i.toNat * 2)).block, (ad.add (i.toNat * 2)).off + 1, none⟩ = some (.int .i64 (rd_T85 xs i).f1) ∧ (0 ≤ i) = True ∧ (i < n) = True := by
 obtain ⟨ad, e_, l, y⟩ := at_T85 h i p q; exact ⟨ad, e_, q_kc hB l, q_kc hB y, eq_true p, eq_true q⟩
def rd_L10 (xs : List (List Bool)) (i : Int) : (List Bool) := xs.getD i.toNat ([] : List Bool)
theorem at_L10 {w : World} {A : Option Addr} {n : Nat} {xs : List (List Bool)} (h : Kd.C (Kd.slice 4 Kd.bool) w A n xs) (i : Int) (E : 0 ≤ i) (h1 : i < n) : ∃ ad b l, A = some ad ∧ w.cell? (ad.add i.toNat) = some (.slice b (rd_L10 xs i).length l) ∧ (rd_L10 xs i).length ≤ l ∧ Kd.bool.C w b (rd_L10 xs i).length (rd_L10 xs i) := by
 obtain ⟨ad, c, e, _, hK, y⟩ := Kd.C_get h ([] : List Bool) i E h1; have hc : ∀ j u, c[j]? = some u → w.cell? (ad.add (i.toNat * 1 + j)) = some u := y
 obtain ⟨b, l, rfl, l0, F⟩ := hK; exact ⟨ad, b, l, e, by have hq := hc 0 _ rfl; rwa [Nat.mul_one, Nat.add_zero] at hq, l0, F⟩
theorem b_L10 {w W : World} {A : Option Addr} {n : Nat} {xs : List (List Bool)} (h : Kd.C (Kd.slice 4 Kd.bool) w A n xs) (hB : Below w.heap.size w W) (i : Int) (p : 0 ≤ i := by exact q_d) (q : i < n := by exact q_d) : ∃ ad b l, A = some ad ∧ W.cell? (ad.add i.toNat) = some (.slice b (rd_L10 xs i).length l) ∧ (rd_L10 xs i).length ≤ l ∧ Kd.bool.C w b (rd_L10 xs i).length (rd_L10 xs i) ∧ (0 ≤ i) = True ∧ (i < n) = True := by
 obtain ⟨ad, b, l, e_, z, B, D⟩ := at_L10 h i p q; exact ⟨ad, b, l, e_, q_kc hB z, B, D, eq_true p, eq_true q⟩
def r6_Next.f (q : List (S71)) (b : Int) (y : Int) (l : Int) (p : Int) : Option (List Int) := if b = 0 then (some (([l] : List Int))) else (if b = 1 then (some (([l, p] : List Int))) else (some ([] : List Int)))
theorem r6_Next.calls (E : Option Addr) (F : Nat) (y : List (S71)) (B : Int) (G : Int) (b : Int) (q : Int) (r : List Int) (w : World) (O : Kd.C k71 w E y.length y) (S : y.length ≤ F) (h : r6_Next.f y B G b q = some r) :
  Calls Tryd.prog 56 #[.agg #[.slice E y.length F, .int .i64 B, .int .i64 G, .int .i64 b, .int .i64 q]] w fun e w' => ∃ a3 : Value, e = .returned (a3) ∧ Kd.R (Kd.int .i64) 3 w' w.heap.size (fun _ => True) a3 r ∧ Below w.heap.size w w' := by
 have e1 := Tryd.underlying69; have d9 := a_ O; have e0 := a_ S; clear O S; have D := a_ (Below.refl w.heap.size w); have H : (if B = 0 then (some (([b] : List Int))) else (if B = 1 then (some (([b, q] : List Int))) else (some ([] : List Int)))) = some r := h
 clear h; replace H := q_iBN H; rcases H with ⟨-, c2b0, c2b1, H⟩ | ⟨c2, c2b0, c2b1, H⟩
 {
 obtain ⟨a4, J⟩ : ∃ y_ : List Int, y_ = (([b] : List Int)) := ⟨_, rfl⟩; replace H : (some a4) = some r := q_rw J H
 have T := a_ J; clear J; obtain rfl := Option.some.inj H; go_enter Tryd.func56, Tryd.ntmps56
 go_wp2_with (first | ((with_reducible refine gd_ 1 rfl ?_); refine q_box 1 69 #[.slice E y.length F, .int .i64 B, .int .i64 G, .int .i64 b, .int .i64 q] ?_; intro U hg w3 z hb; have l := a_ (z); have V := a_ ((q_ge D.out hg)); have p := a_ ((q_ge D.out hg)); replace D := a_ (q_st D.out hb); clear hb z hg; obtain ⟨b6, b7, b8, b9, c0, c1, c3, c4, c6, c8⟩ := q_cf5 l.out) | ((with_reducible refine gd_ 9 rfl ?_); refine Kd.R_lit (Kd.int .i64) _ 3 ?hg (N := 9) ?hd (xs := ([b] : List Int)) (inner := [.int .i64 b]) (ok := fun _ => True) (okp := fun _ => True) ?hr ?hp (fun _ hk => hk) trivial (Below.refl _ _) (Nat.le_refl _) (by simp) ?_; (case hd => rfl); (case hg => rfl); (case hr => first | (go_simp; done) | (go_simp; rfl)); (case hp => exact (Reps.one (show Kd.M (Kd.int .i64) _ _ _ b [.int .i64 b] from rfl) (Reps.none _ _))); intro e2 w5 X hb hg_ hnew_; clear hg_ hnew_; (first | rw [← T.out] at X | (simp only [Int.reduceToNat] at X; rw [← T.out] at X)); have a1 := a_ (Kd.R_lower X (below_size (q_w1 D.out p.out))); replace l := a_ (q_bk l.out hb); replace D := a_ (q_st1 D.out hb p.out); clear hb X))
 go_ret
 exact ⟨_, q_e, by (with_reducible repeat (first | apply Kd.R_alloc | apply Kd.R_drewN | apply Kd.R_drew)); exact a1.out, q_w1 D.out p.out⟩}
 {
 replace H := q_iBN H; rcases H with ⟨-, c7b0, c7b1, H⟩ | ⟨c7, c7b0, c7b1, H⟩
 {
 obtain ⟨a5, L⟩ : ∃ y_ : List Int, y_ = (([b, q] : List Int)) := ⟨_, rfl⟩; replace H : (some a5) = some r := q_rw L H
 have a0 := a_ L; clear L; obtain rfl := Option.some.inj H; go_enter Tryd.func56, Tryd.ntmps56
 go_wp2_with (first | ((with_reducible refine gd_ 1 rfl ?_); refine q_box 1 69 #[.slice E y.length F, .int .i64 B, .int .i64 G, .int .i64 b, .int .i64 q] ?_; intro U hg w8 z hb; have l := a_ (z); have V := a_ ((q_ge D.out hg)); have p := a_ ((q_ge D.out hg)); replace D := a_ (q_st D.out hb); clear hb z hg; obtain ⟨c9, d0, d1, d2, d3, d4, d5, d6, d7, d8⟩ := q_cf5 l.out) | ((with_reducible refine gd_ 16 rfl ?_); refine Kd.R_lit (Kd.int .i64) _ 3 ?hg (N := 16) ?hd (xs := ([b, q] : List Int)) (inner := [.int .i64 b, .int .i64 q]) (ok := fun _ => True) (okp := fun _ => True) ?hr ?hp (fun _ hk => hk) trivial (Below.refl _ _) (Nat.le_refl _) (by simp) ?_; (case hd => rfl); (case hg => rfl); (case hr => first | (go_simp; done) | (go_simp; rfl)); (case hp => exact (Reps.one (show Kd.M (Kd.int .i64) _ _ _ b [.int .i64 b] from rfl) (Reps.one (show Kd.M (Kd.int .i64) _ _ _ q [.int .i64 q] from rfl) (Reps.none _ _)))); intro e3 e4 I hb hg_ hnew_; clear hg_ hnew_; (first | rw [← a0.out] at I | (simp only [Int.reduceToNat] at I; rw [← a0.out] at I)); have a2 := a_ (Kd.R_lower I (below_size (q_w1 D.out p.out))); replace l := a_ (q_bk l.out hb); replace D := a_ (q_st1 D.out hb p.out); clear hb I))
 go_ret
 exact ⟨_, q_e, by (with_reducible repeat (first | apply Kd.R_alloc | apply Kd.R_drewN | apply Kd.R_drew)); exact a2.out, q_w1 D.out p.out⟩}
 {
 obtain rfl := Option.some.inj H; go_enter Tryd.func56, Tryd.ntmps56
 go_wp2_with (first | ((with_reducible refine gd_ 1 rfl ?_); refine q_box 1 69 #[.slice E y.length F, .int .i64 B, .int .i64 G, .int .i64 b, .int .i64 q] ?_; intro U hg e5 z hb; have l := a_ (z); have V := a_ ((q_ge D.out hg)); have p := a_ ((q_ge D.out hg)); replace D := a_ (q_st D.out hb); clear hb z hg; obtain ⟨a6, a7, a8, a9, b0, b1, b2, b3, b4, b5⟩ := q_cf5 l.out))
 go_ret
 exact ⟨_, q_e, by first | exact Kd.R_nil _ _ _ _ _ | exact Kd.N_nil _ _ _ _ _ | exact Kd.V_nil _ _ _ _ _ | exact Kd.Q_nil _ _ _ _ _ | exact Kd.S_nil _ _ _ _ _, q_w1 D.out p.out⟩}}
def r11_out.l0 : Nat → List Bool → List Int → Int → Option (Bool)
 | 0, _, _, _ => none
 | k + 1, p, l, b => if b < (l.length : Int) then (if 0 ≤ b then (if 0 ≤ (rd l b) then (if (rd l b) < (p.length : Int) then (if rdOf false p (rd l b) = true then (some true) else (r11_out.l0 k p l (wrap64 (b + 1)))) else (none)) else (none)) else (none)) else (some false)
def r11_out.f (k : Nat) (q : ByteArray) (y : List (S83)) (z : List (S85)) (B : Int) (b : List (S69)) (l1 : List Bool) (l : Int) : Option (Bool) := if 0 ≤ l then (if l < (b.length : Int) then ((r6_Next.f ((rd_T69 b l).f0) ((rd_T69 b l).f1) ((rd_T69 b l).f2) ((rd_T69 b l).f3) ((rd_T69 b l).f4)).bind fun p => (r11_out.l0 k l1 p 0)) else (none)) else (none)
theorem r11_out.calls (k : Nat) (S : ByteArray) (T : Option Addr) (U : Nat) (B : List (S83)) (V : Option Addr) (X : Nat) (D : List (S85)) (a0 : Int) (a3 : Option Addr) (a1 : Nat) (b : List (S69)) (A1 : Option Addr) (c1 : Nat) (l1 : List Bool) (J : Int) (r : Bool) (w : World) (a4 : Kd.C k83 w T B.length B) (a5 : B.length ≤ U) (a6 : Kd.C k85 w V D.length D) (a7 : D.length ≤ X) (a8 : Kd.C k69 w a3 b.length b) (a9 : b.length ≤ a1) (e8 : Kd.C Kd.bool w A1 l1.length l1) (e9 : l1.length ≤ c1) (h : r11_out.f k S B D a0 b l1 J = some r) :
  Calls Tryd.prog 41 #[.agg #[.string S, .slice T B.length U, .slice V D.length X, .int .i64 a0, .slice a3 b.length a1], .slice A1 l1.length c1, .int .i64 J] w fun e w' => e = .returned (.bool r) ∧ Below w.heap.size w w' := by
 have i3 := Tryd.underlying26; have i4 := Tryd.underlying69; have g5 := a_ a4; have g6 := a_ a5; clear a4 a5; have g7 := a_ a6; have g8 := a_ a7; clear a6 a7; have e2 := a_ a8; have g9 := a_ a9; clear a8 a9; have f5 := a_ e8; have j6 := a_ e9; clear e8 e9; have N := a_ (Below.refl w.heap.size w); have H : (if 0 ≤ J then (if J < (b.length : Int) then ((r6_Next.f ((rd_T69 b J).f0) ((rd_T69 b J).f1) ((rd_T69 b J).f2) ((rd_T69 b J).f3) ((rd_T69 b J).f4)).bind fun p => (r11_out.l0 k l1 p 0)) else (none)) else (none)) = some r := h
 clear h; replace H := q_gD H; obtain ⟨-, c4b0, H⟩ := H; replace H := q_gD H; obtain ⟨-, c5b0, H⟩ := H; replace H := Option.bind_eq_some_iff.mp H; obtain ⟨p, f6, H⟩ := H; have A6 := a_ f6; clear f6; have H' := a_ H
 clear H; go_enter Tryd.func41, Tryd.ntmps41
 go_wp2_with (first | ((with_reducible refine gd_ 3 rfl ?_); refine q_box 3 26 #[.string S, .slice T B.length U, .slice V D.length X, .int .i64 a0, .slice a3 b.length a1] ?_; intro e3 hg w7 e0 hb; have y := a_ (e0); have i0 := a_ ((q_ge N.out hg)); have z := a_ ((q_ge N.out hg)); replace N := a_ (q_st N.out hb); clear hb e0 hg; obtain ⟨c6, c8, c9, d0, d1, d2, d3, d4, d5, d6⟩ := q_cf5 y.out; have b0 : 0 ≤ (J : Int) := q_d; have b1 : J < (b.length : Int) := q_d; obtain ⟨e4, d7, d8, f7, b2, b3, b4, b5, b6, L, M, b0, b1⟩ := b_T69 e2.out N.out J b0 b1; cases f7; have b7 := a_ M; have b8 := a_ L; clear M L) | ((with_reducible refine gc_ 56 rfl ?_); refine q_gl 14 #[.agg #[.slice d7 ((rd_T69 b J).f0).length d8, .int .i64 ((rd_T69 b J).f1), .int .i64 ((rd_T69 b J).f2), .int .i64 ((rd_T69 b J).f3), .int .i64 ((rd_T69 b J).f4)]] Tryd.func56 rfl ?_; (with_reducible refine (r6_Next.calls _ _ ((rd_T69 b J).f0) ((rd_T69 b J).f1) ((rd_T69 b J).f2) ((rd_T69 b J).f3) ((rd_T69 b J).f4) p _ (q_C (Kd.C_below b7.out N.out)) b8.out A6.out).mono ?_); rintro e w9 ⟨f8, rfl, f9, hb⟩; refine ⟨_, rfl, ?_⟩; have e5 := a_ (Kd.R_lower f9 (below_size (q_w1 N.out z.out))); replace y := a_ (q_bk y.out hb); replace N := a_ (q_st1 N.out hb z.out); clear hb f9))
 go_loopg [8] k (fun kq v8 w' => ∃ (l : Int), v8 = .int .i64 l ∧ Aside0 (r11_out.l0 kq l1 p l = some r) ∧ Aside0 (kq ≤ k) ∧ Aside0 (Kd.R (Kd.int .i64) 3 w' w.heap.size (fun _ => True) f8 p) ∧ Aside0 (w'.heap[e3]? = some (.cells #[.string S, (.slice T B.length U), (.slice V D.length X), .int .i64 a0, (.slice (some e4) b.length a1)] 26 (0, 0))) ∧ Aside0 (Below w.heap.size w w'))
 case atStart => exact ⟨(0), q_r, H', ⟨Nat.le_refl _⟩, ⟨by (with_reducible repeat (first | apply Kd.R_alloc | apply Kd.R_drewN | apply Kd.R_drew)); exact e5.out⟩, ⟨q_k y.out⟩, ⟨q_w1 N.out z.out⟩⟩
 case round => (
 clear H'; clear c4b0 c5b0 c6 c8 c9 d0 d1 d2 d3 d4 d5 d6 b2 b3 b4 b5 b6 b0 b1; obtain ⟨l, rfl, HA, g0, HO_7, y, N⟩ := hrel; cases gk with
 | zero => exact absurd HA.out (by simp [r11_out.l0])
 | succ k1 => (
 have H := HA.out; clear HA; simp only [r11_out.l0] at H
 rcases q_ite H with ⟨c10b0, H⟩ | ⟨c10b0, H⟩
 {
 replace H := q_gD H; obtain ⟨-, c11b0, H⟩ := H; replace H := q_gD H; obtain ⟨-, c12b0, H⟩ := H; replace H := q_gD H; obtain ⟨-, c13b0, H⟩ := H; obtain ⟨e1, O⟩ : ∃ b_ : Bool, b_ = (rdOf false l1 (rd p l)) := ⟨_, rfl⟩; replace H : (if e1 = true then (some true) else (r11_out.l0 k1 l1 p (wrap64 (l + 1)))) = some r := by rw [← O] at H; exact H
 have b9 := a_ O; clear O; by_cases d9 : e1 = true
 {
 subst d9; rw [if_pos rfl] at H; obtain rfl := Option.some.inj H; obtain ⟨i6, i7, g1⟩ := Kd.R_slice HO_7.out; subst g1; have E : 0 ≤ (l : Int) := q_d
 have F : l < (p.length : Int) := q_d
 obtain ⟨e6, c0, c3⟩ := Kd.at_int (Kd.R_reads' HO_7.out).2.2 l E F; cases c0; replace E := eq_true E; replace F := eq_true F; have G : 0 ≤ ((rd p l) : Int) := q_d
 have I : (rd p l) < (l1.length : Int) := q_d
 obtain ⟨e7, c4, q⟩ := Kd.at_bool f5.out (rd p l) G I; (try rw [← b9.out] at q)
 cases c4; replace q := q_kc N.out q; replace G := eq_true G; replace I := eq_true I; go_wp2
 go_ret
 exact ⟨q_e, q_w1 N.out z.out⟩}
 {
 replace d9 := Bool.eq_false_iff.mpr d9; subst d9; rw [if_neg Bool.false_ne_true] at H; have H' := a_ H
 clear H; obtain ⟨i8, i9, g2⟩ := Kd.R_slice HO_7.out; subst g2; have E : 0 ≤ (l : Int) := q_d
 have F : l < (p.length : Int) := q_d
 obtain ⟨e6, c0, c3⟩ := Kd.at_int (Kd.R_reads' HO_7.out).2.2 l E F; cases c0; replace E := eq_true E; replace F := eq_true F; have G : 0 ≤ ((rd p l) : Int) := q_d
 have I : (rd p l) < (l1.length : Int) := q_d
 obtain ⟨e7, c4, q⟩ := Kd.at_bool f5.out (rd p l) G I; (try rw [← b9.out] at q)
 cases c4; replace q := q_kc N.out q; replace G := eq_true G; replace I := eq_true I; go_wp2
 go_roundg k1
 case measure => have := g0.out; omega
 case rel => exact ⟨(wrap64 (l + 1)), q_r, H', ⟨by have := g0.out; omega⟩, ⟨by (with_reducible repeat (first | apply Kd.R_alloc | apply Kd.R_drewN | apply Kd.R_drew)); exact HO_7.out⟩, ⟨q_k y.out⟩, ⟨q_w1 N.out z.out⟩⟩}}
 {
 obtain rfl := Option.some.inj H; obtain ⟨j3, j5, g3⟩ := Kd.R_slice HO_7.out; subst g3; go_wp2
 go_ret
 exact ⟨q_e, q_w1 N.out z.out⟩}))
mutual
def r6_Has.j0 : Nat → Int → Bool → Option (Bool × Bool × Bool)
 | 0, _, _ => none
 | k + 1, b, p => if p = true then (some (true, false, false)) else (if b = 1 then (r6_Has.j1 k b (b == 1)) else (if b = 2 then (r6_Has.j1 k b (b == 2)) else (if b = 6 then (r6_Has.j1 k b (b == 6)) else (r6_Has.j1 k b (b == 10)))))
def r6_Has.j1 : Nat → Int → Bool → Option (Bool × Bool × Bool)
 | 0, _, _ => none
 | k + 1, b, l => if l = true then (some (true, true, false)) else (if b = 3 then (some (true, true, true)) else (if b = 7 then (some (false, true, true)) else (if b = 8 then (some (false, true, true)) else (some (false, false, false)))))
end
def r6_Has.f (k : Nat) (b : Int) : Option (Bool × Bool × Bool) := if b = 0 then (r6_Has.j0 k b (b == 0)) else (if b = 4 then (r6_Has.j0 k b (b == 4)) else (if b = 5 then (r6_Has.j0 k b (b == 5)) else (r6_Has.j0 k b (b == 11))))
theorem r6_Has.calls (k : Nat) (b : Int) (D : Bool) (E : Bool) (F : Bool) (w : World) (h : r6_Has.f k b = some (D, E, F)) :
  Calls Tryd.prog 37 #[.int .i64 b] w fun e w' => e = .returned (.tuple #[.bool D, .bool E, .bool F]) ∧ Drawn0 w w' := by
 have H : (if b = 0 then (r6_Has.j0 k b (b == 0)) else (if b = 4 then (r6_Has.j0 k b (b == 4)) else (if b = 5 then (r6_Has.j0 k b (b == 5)) else (r6_Has.j0 k b (b == 11))))) = some (D, E, F) := h
 clear h; have B := a_ H; clear H; go_enter Tryd.func37, Tryd.ntmps37
 go_upto_if 6 with (fail)
 go_cut [6] (fun L wc => ∃ (kq : Nat) (q : Bool), L = .bool q ∧ Aside0 (r6_Has.j0 kq b q = some (D, E, F)) ∧ Aside0 (kq ≤ k) ∧ Drawn0 w wc)
 case first => (
 have H := B.out; clear B; replace H := q_iBN H; rcases H with ⟨-, c3b0, c3b1, H⟩ | ⟨X, c3b0, c3b1, H⟩
 {
 (first | rw [c3b0] | (simp only [i64_w, i32_w]; rw [c3b0]) | skip)
 have p := a_ H
 clear H; go_wp2
 go_meet
 case rel => exact ⟨_, ((b == 0)), q_r, p, ⟨by first | omega | exact Nat.le_refl _⟩, by repeat (first | exact Drawn0.refl _ | apply Drawn0.step)⟩}
 {
 (first | rw [c3b0] | (simp only [i64_w, i32_w]; rw [c3b0]) | skip)
 replace H := q_iBN H; rcases H with ⟨-, c4b0, c4b1, H⟩ | ⟨c4, c4b0, c4b1, H⟩
 {
 have p := a_ H
 clear H; go_wp2
 go_meet
 case rel => exact ⟨_, ((b == 4)), q_r, p, ⟨by first | omega | exact Nat.le_refl _⟩, by repeat (first | exact Drawn0.refl _ | apply Drawn0.step)⟩}
 {
 replace H := q_iBN H; rcases H with ⟨-, c5b0, c5b1, H⟩ | ⟨c5, c5b0, c5b1, H⟩
 {
 have p := a_ H
 clear H; go_wp2
 go_meet
 case rel => exact ⟨_, ((b == 5)), q_r, p, ⟨by first | omega | exact Nat.le_refl _⟩, by repeat (first | exact Drawn0.refl _ | apply Drawn0.step)⟩}
 {
 have p := a_ H
 clear H; go_wp2
 go_meet
 case rel => exact ⟨_, ((b == 11)), q_r, p, ⟨by first | omega | exact Nat.le_refl _⟩, by repeat (first | exact Drawn0.refl _ | apply Drawn0.step)⟩}}})
 case rest => (
 clear B; obtain ⟨kq, q, rfl, HA, y, ⟨M, rfl⟩⟩ := hcut; cases kq with
 | zero => exact absurd HA.out (by simp [r6_Has.j0])
 | succ I => (
 have H := HA.out; clear HA; simp only [r6_Has.j0] at H
 by_cases G : q = true
 {
 subst G; rw [if_pos rfl] at H; simp only [Option.some.injEq, Prod.mk.injEq] at H
 obtain ⟨rfl, rfl, rfl⟩ := H; go_wp2
 go_ret3
 exact ⟨by first | rfl | (simp; done) | (simp [*]; done), by repeat (first | exact Drawn0.refl _ | apply Drawn0.step)⟩}
 {
 replace G := Bool.eq_false_iff.mpr G; subst G; rw [if_neg Bool.false_ne_true] at H; have C := a_ H; clear H; go_upto_if 11 with (fail)
 go_cut [11] (fun J wc => ∃ (kq : Nat) (l : Bool), J = .bool l ∧ Aside0 (r6_Has.j1 kq b l = some (D, E, F)) ∧ Aside0 (kq ≤ I) ∧ Drawn0 w wc)
 case first => (
 have H := C.out; clear C; replace H := q_iBN H; rcases H with ⟨-, c8b0, c8b1, H⟩ | ⟨c8, c8b0, c8b1, H⟩
 {
 (first | rw [c8b0] | (simp only [i64_w, i32_w]; rw [c8b0]) | skip)
 have p := a_ H
 clear H; go_wp2
 go_meet
 case rel => exact ⟨_, ((b == 1)), q_r, p, ⟨by have := y.out; first | omega | exact Nat.le_refl _⟩, by repeat (first | exact Drawn0.refl _ | apply Drawn0.step)⟩}
 {
 (first | rw [c8b0] | (simp only [i64_w, i32_w]; rw [c8b0]) | skip)
 replace H := q_iBN H; rcases H with ⟨-, c9b0, c9b1, H⟩ | ⟨c9, c9b0, c9b1, H⟩
 {
 have p := a_ H
 clear H; go_wp2
 go_meet
 case rel => exact ⟨_, ((b == 2)), q_r, p, ⟨by have := y.out; first | omega | exact Nat.le_refl _⟩, by repeat (first | exact Drawn0.refl _ | apply Drawn0.step)⟩}
 {
 replace H := q_iBN H; rcases H with ⟨-, c10b0, c10b1, H⟩ | ⟨N, c10b0, c10b1, H⟩
 {
 have p := a_ H
 clear H; go_wp2
 go_meet
 case rel => exact ⟨_, ((b == 6)), q_r, p, ⟨by have := y.out; first | omega | exact Nat.le_refl _⟩, by repeat (first | exact Drawn0.refl _ | apply Drawn0.step)⟩}
 {
 have p := a_ H
 clear H; go_wp2
 go_meet
 case rel => exact ⟨_, ((b == 10)), q_r, p, ⟨by have := y.out; first | omega | exact Nat.le_refl _⟩, by repeat (first | exact Drawn0.refl _ | apply Drawn0.step)⟩}}})
 case rest => (
 clear C; obtain ⟨kq, l, rfl, HA, O, ⟨R, rfl⟩⟩ := hcut; cases kq with
 | zero => exact absurd HA.out (by simp [r6_Has.j1])
 | succ S => (
 have H := HA.out; clear HA; simp only [r6_Has.j1] at H
 by_cases z : l = true
 {
 subst z; rw [if_pos rfl] at H; simp only [Option.some.injEq, Prod.mk.injEq] at H
 obtain ⟨rfl, rfl, rfl⟩ := H; go_wp2
 go_ret3
 exact ⟨by first | rfl | (simp; done) | (simp [*]; done), by repeat (first | exact Drawn0.refl _ | apply Drawn0.step)⟩}
 {
 replace z := Bool.eq_false_iff.mpr z; subst z; rw [if_neg Bool.false_ne_true] at H; replace H := q_iBN H; rcases H with ⟨-, c12b0, c12b1, H⟩ | ⟨T, c12b0, c12b1, H⟩
 {
 simp only [Option.some.injEq, Prod.mk.injEq] at H
 obtain ⟨rfl, rfl, rfl⟩ := H; go_wp2
 go_ret3
 exact ⟨by first | rfl | (simp; done) | (simp [*]; done), by repeat (first | exact Drawn0.refl _ | apply Drawn0.step)⟩}
 {
 replace H := q_iBN H; rcases H with ⟨-, c13b0, c13b1, H⟩ | ⟨U, c13b0, c13b1, H⟩
 {
 simp only [Option.some.injEq, Prod.mk.injEq] at H
 obtain ⟨rfl, rfl, rfl⟩ := H; go_wp2
 go_ret3
 exact ⟨by first | rfl | (simp; done) | (simp [*]; done), by repeat (first | exact Drawn0.refl _ | apply Drawn0.step)⟩}
 {
 replace H := q_iBN H; rcases H with ⟨-, c14b0, c14b1, H⟩ | ⟨V, c14b0, c14b1, H⟩
 {
 simp only [Option.some.injEq, Prod.mk.injEq] at H
 obtain ⟨rfl, rfl, rfl⟩ := H; go_wp2
 go_ret3
 exact ⟨by first | rfl | (simp; done) | (simp [*]; done), by repeat (first | exact Drawn0.refl _ | apply Drawn0.step)⟩}
 {
 simp only [Option.some.injEq, Prod.mk.injEq] at H
 obtain ⟨rfl, rfl, rfl⟩ := H; go_wp2
 go_ret3
 exact ⟨by first | rfl | (simp; done) | (simp [*]; done), by repeat (first | exact Drawn0.refl _ | apply Drawn0.step)⟩}}}}))}))
def r11_Sets.f (k : Nat) (l : Int) (q : Int) (p : Int) (y : Int) (z : Int) (B : Int) (C : List Int) (D : Int) : Option (Bool) := (r6_Has.f k l).bind fun b => (if b.1 = true then (some (p == D)) else (some false))
theorem r11_Sets.calls (k : Nat) (b : Int) (B : Int) (p : Int) (D : Int) (E : Int) (F : Int) (G : Option Addr) (I : Nat) (l : List Int) (X : Int) (r : Bool) (w : World) (J : Kd.C (Kd.int .i64) w G l.length l) (L : l.length ≤ I) (h : r11_Sets.f k b B p D E F l X = some r) :
  Calls Tryd.prog 57 #[.agg #[.int .i64 b, .int .i64 B, .int .i64 p, .int .i64 D, .int .i64 E, .int .i32 F, .slice G l.length I], .int .i64 X] w fun e w' => e = .returned (.bool r) ∧ Below w.heap.size w w' := by
 have d6 := Tryd.underlying71; have d4 := a_ J; have d5 := a_ L; clear J L; have M := a_ (Below.refl w.heap.size w); have H : ((r6_Has.f k b).bind fun S => (if S.1 = true then (some (p == X)) else (some false))) = some r := h
 clear h; replace H := Option.bind_eq_some_iff.mp H; obtain ⟨⟨N, O, R⟩, V, H⟩ := H; replace H : (if N = true then (some (p == X)) else (some false)) = some r := H
 have A3 := a_ V; clear V; by_cases c4 : N = true
 {
 subst c4; rw [if_pos rfl] at H; obtain rfl := Option.some.inj H; go_enter Tryd.func57, Tryd.ntmps57
 go_wp2_with (first | ((with_reducible refine gd_ 2 rfl ?_); refine q_box 2 71 #[.int .i64 b, .int .i64 B, .int .i64 p, .int .i64 D, .int .i64 E, .int .i32 F, .slice G l.length I] ?_; intro T hg w5 q hb; have y := a_ (q); have U := a_ ((q_ge M.out hg)); have z := a_ ((q_ge M.out hg)); replace M := a_ (q_st M.out hb); clear hb q hg; obtain ⟨a2, a3, a4, a5, a6, a7, a8, a9, b0, b1, b2, b3, b4, b5⟩ := q_cf7 y.out) | ((with_reducible refine gc_ 37 rfl ?_); refine q_gl 11 #[.int .i64 b] Tryd.func37 rfl ?_; (with_reducible refine (r6_Has.calls k b true O R _ A3.out).mono ?_); rintro e w' ⟨rfl, ⟨nd, rfl⟩⟩; refine ⟨_, rfl, ?_⟩))
 go_ret
 exact ⟨q_e, q_w1 M.out z.out⟩}
 {
 replace c4 := Bool.eq_false_iff.mpr c4; subst c4; rw [if_neg Bool.false_ne_true] at H; obtain rfl := Option.some.inj H; go_enter Tryd.func57, Tryd.ntmps57
 go_wp2_with (first | ((with_reducible refine gd_ 2 rfl ?_); refine q_box 2 71 #[.int .i64 b, .int .i64 B, .int .i64 p, .int .i64 D, .int .i64 E, .int .i32 F, .slice G l.length I] ?_; intro T hg w7 q hb; have y := a_ (q); have U := a_ ((q_ge M.out hg)); have z := a_ ((q_ge M.out hg)); replace M := a_ (q_st M.out hb); clear hb q hg; obtain ⟨b6, b7, b8, b9, c0, c1, c3, c6, c8, c9, d0, d1, d2, d3⟩ := q_cf7 y.out) | ((with_reducible refine gc_ 37 rfl ?_); refine q_gl 11 #[.int .i64 b] Tryd.func37 rfl ?_; (with_reducible refine (r6_Has.calls k b false O R _ A3.out).mono ?_); rintro e w' ⟨rfl, ⟨nd, rfl⟩⟩; refine ⟨_, rfl, ?_⟩))
 go_ret
 exact ⟨q_e, q_w1 M.out z.out⟩}
def r11_Uses.f (k : Nat) (p : Int) (z : Int) (B : Int) (q : Int) (l : Int) (C : Int) (D : List Int) (y : Int) : Option (Bool) := (r6_Has.f k p).bind fun b => (if b.2.1 = true then (if q = y then (some true) else (if b.2.2 = true then (some (l == y)) else (some false))) else (if b.2.2 = true then (some (l == y)) else (some false)))
theorem r11_Uses.calls (k : Nat) (b : Int) (E : Int) (F : Int) (B : Int) (y : Int) (G : Int) (I : Option Addr) (J : Nat) (z : List Int) (V : Int) (r : Bool) (w : World) (S : Kd.C (Kd.int .i64) w I z.length z) (T : z.length ≤ J) (h : r11_Uses.f k b E F B y G z V = some r) :
  Calls Tryd.prog 81 #[.agg #[.int .i64 b, .int .i64 E, .int .i64 F, .int .i64 B, .int .i64 y, .int .i32 G, .slice I z.length J], .int .i64 V] w fun e w' => e = .returned (.bool r) ∧ Below w.heap.size w w' := by
 have j7 := Tryd.underlying71; have j5 := a_ S; have j6 := a_ T; clear S T; have D := a_ (Below.refl w.heap.size w); have H : ((r6_Has.f k b).bind fun R => (if R.2.1 = true then (if B = V then (some true) else (if R.2.2 = true then (some (y == V)) else (some false))) else (if R.2.2 = true then (some (y == V)) else (some false)))) = some r := h
 clear h; replace H := Option.bind_eq_some_iff.mp H; obtain ⟨⟨N, X, O⟩, a0, H⟩ := H; replace H : (if X = true then (if B = V then (some true) else (if O = true then (some (y == V)) else (some false))) else (if O = true then (some (y == V)) else (some false))) = some r := H
 have A3 := a_ a0; clear a0; by_cases c4 : X = true
 {
 subst c4; rw [if_pos rfl] at H; replace H := q_iBN H; rcases H with ⟨-, c5b0, c5b1, H⟩ | ⟨c5, c5b0, c5b1, H⟩
 {
 obtain rfl := Option.some.inj H; go_enter Tryd.func81, Tryd.ntmps81
 go_wp2_with (first | ((with_reducible refine gd_ 2 rfl ?_); refine q_box 2 71 #[.int .i64 b, .int .i64 E, .int .i64 F, .int .i64 B, .int .i64 y, .int .i32 G, .slice I z.length J] ?_; intro L hg w6 l hb; have p := a_ (l); have M := a_ ((q_ge D.out hg)); have q := a_ ((q_ge D.out hg)); replace D := a_ (q_st D.out hb); clear hb l hg; obtain ⟨g5, g6, g7, g8, g9, i0, i1, i2, i3, i4, i5, i6, i7, i8⟩ := q_cf7 p.out) | ((with_reducible refine gc_ 37 rfl ?_); refine q_gl 11 #[.int .i64 b] Tryd.func37 rfl ?_; (with_reducible refine (r6_Has.calls k b N true O _ A3.out).mono ?_); rintro e w' ⟨rfl, ⟨nd, rfl⟩⟩; refine ⟨_, rfl, ?_⟩))
 go_ret
 exact ⟨q_e, q_w1 D.out q.out⟩}
 {
 by_cases c8 : O = true
 {
 subst c8; rw [if_pos rfl] at H; obtain rfl := Option.some.inj H; go_enter Tryd.func81, Tryd.ntmps81
 go_wp2_with (first | ((with_reducible refine gd_ 2 rfl ?_); refine q_box 2 71 #[.int .i64 b, .int .i64 E, .int .i64 F, .int .i64 B, .int .i64 y, .int .i32 G, .slice I z.length J] ?_; intro L hg w9 l hb; have p := a_ (l); have M := a_ ((q_ge D.out hg)); have q := a_ ((q_ge D.out hg)); replace D := a_ (q_st D.out hb); clear hb l hg; obtain ⟨a3, a4, a5, a6, a7, a8, a9, b0, b1, b2, b3, b4, b5, b6⟩ := q_cf7 p.out) | ((with_reducible refine gc_ 37 rfl ?_); refine q_gl 11 #[.int .i64 b] Tryd.func37 rfl ?_; (with_reducible refine (r6_Has.calls k b N true true _ A3.out).mono ?_); rintro e w' ⟨rfl, ⟨nd, rfl⟩⟩; refine ⟨_, rfl, ?_⟩))
 go_ret
 exact ⟨q_e, q_w1 D.out q.out⟩}
 {
 replace c8 := Bool.eq_false_iff.mpr c8; subst c8; rw [if_neg Bool.false_ne_true] at H; obtain rfl := Option.some.inj H; go_enter Tryd.func81, Tryd.ntmps81
 go_wp2_with (first | ((with_reducible refine gd_ 2 rfl ?_); refine q_box 2 71 #[.int .i64 b, .int .i64 E, .int .i64 F, .int .i64 B, .int .i64 y, .int .i32 G, .slice I z.length J] ?_; intro L hg j8 l hb; have p := a_ (l); have M := a_ ((q_ge D.out hg)); have q := a_ ((q_ge D.out hg)); replace D := a_ (q_st D.out hb); clear hb l hg; obtain ⟨b7, b8, b9, c0, c1, c3, c6, c9, d0, d1, d2, d3, d4, d5⟩ := q_cf7 p.out) | ((with_reducible refine gc_ 37 rfl ?_); refine q_gl 11 #[.int .i64 b] Tryd.func37 rfl ?_; (with_reducible refine (r6_Has.calls k b N true false _ A3.out).mono ?_); rintro e w' ⟨rfl, ⟨nd, rfl⟩⟩; refine ⟨_, rfl, ?_⟩))
 go_ret
 exact ⟨q_e, q_w1 D.out q.out⟩}}}
 {
 replace c4 := Bool.eq_false_iff.mpr c4; subst c4; rw [if_neg Bool.false_ne_true] at H; by_cases U : O = true
 {
 subst U; rw [if_pos rfl] at H; obtain rfl := Option.some.inj H; go_enter Tryd.func81, Tryd.ntmps81
 go_wp2_with (first | ((with_reducible refine gd_ 2 rfl ?_); refine q_box 2 71 #[.int .i64 b, .int .i64 E, .int .i64 F, .int .i64 B, .int .i64 y, .int .i32 G, .slice I z.length J] ?_; intro L hg j9 l hb; have p := a_ (l); have M := a_ ((q_ge D.out hg)); have q := a_ ((q_ge D.out hg)); replace D := a_ (q_st D.out hb); clear hb l hg; obtain ⟨d6, d7, d8, d9, e0, e1, e2, e3, e4, e5, e6, e7, e8, e9⟩ := q_cf7 p.out) | ((with_reducible refine gc_ 37 rfl ?_); refine q_gl 11 #[.int .i64 b] Tryd.func37 rfl ?_; (with_reducible refine (r6_Has.calls k b N false true _ A3.out).mono ?_); rintro e w' ⟨rfl, ⟨nd, rfl⟩⟩; refine ⟨_, rfl, ?_⟩))
 go_ret
 exact ⟨q_e, q_w1 D.out q.out⟩}
 {
 replace U := Bool.eq_false_iff.mpr U; subst U; rw [if_neg Bool.false_ne_true] at H; obtain rfl := Option.some.inj H; go_enter Tryd.func81, Tryd.ntmps81
 go_wp2_with (first | ((with_reducible refine gd_ 2 rfl ?_); refine q_box 2 71 #[.int .i64 b, .int .i64 E, .int .i64 F, .int .i64 B, .int .i64 y, .int .i32 G, .slice I z.length J] ?_; intro L hg k0 l hb; have p := a_ (l); have M := a_ ((q_ge D.out hg)); have q := a_ ((q_ge D.out hg)); replace D := a_ (q_st D.out hb); clear hb l hg; obtain ⟨f0, f1, f2, f3, f4, f5, f6, f7, f8, f9, g0, g1, g2, g3⟩ := q_cf7 p.out) | ((with_reducible refine gc_ 37 rfl ?_); refine q_gl 11 #[.int .i64 b] Tryd.func37 rfl ?_; (with_reducible refine (r6_Has.calls k b N false false _ A3.out).mono ?_); rintro e w' ⟨rfl, ⟨nd, rfl⟩⟩; refine ⟨_, rfl, ?_⟩))
 go_ret
 exact ⟨q_e, q_w1 D.out q.out⟩}}
def r11_before.l0 : Nat → Int → Int → Bool → List (S71) → Int → Int → Int → Int → Option (Bool)
 | 0, _, _, _, _, _, _, _, _ => none
 | k + 1, l, D, E, b, p, q, y, z => if l < (b.length : Int) then (if 0 ≤ l then ((r11_Uses.f k ((rd_T71 b l).f0) ((rd_T71 b l).f1) ((rd_T71 b l).f2) ((rd_T71 b l).f3) ((rd_T71 b l).f4) ((rd_T71 b l).f5) ((rd_T71 b l).f6) D).bind fun B => (if B = true then (some true) else ((r11_Sets.f k ((rd_T71 b l).f0) ((rd_T71 b l).f1) ((rd_T71 b l).f2) ((rd_T71 b l).f3) ((rd_T71 b l).f4) ((rd_T71 b l).f5) ((rd_T71 b l).f6) D).bind fun C => (if C = true then (some false) else (r11_before.l0 k (wrap64 (l + 1)) D E b p q y z))))) else (none)) else (if p = 1 then (if q = D then (some true) else (some E)) else (some E))
def r11_before.f (k : Nat) (b : List (S71)) (l : Int) (p : Int) (q : Int) (y : Int) (z : Int) (B : Int) (C : Bool) : Option (Bool) := r11_before.l0 k z B C b l p q y
theorem r11_before.calls (k : Nat) (c1 : Option Addr) (c3 : Nat) (l : List (S71)) (a5 : Int) (a6 : Int) (a7 : Int) (a8 : Int) (a1 : Int) (a2 : Int) (a3 : Bool) (r : Bool) (w : World) (c6 : Kd.C k71 w c1 l.length l) (c8 : l.length ≤ c3) (h : r11_before.f k l a5 a6 a7 a8 a1 a2 a3 = some r) :
  Calls Tryd.prog 71 #[.agg #[.slice c1 l.length c3, .int .i64 a5, .int .i64 a6, .int .i64 a7, .int .i64 a8], .int .i64 a1, .int .i64 a2, .bool a3] w fun e w' => e = .returned (.bool r) ∧ Below w.heap.size w w' := by
 have q6 := Tryd.underlying69; have q7 := Tryd.underlying71; have U := a_ c6; have q3 := a_ c8; clear c6 c8; have B := a_ (Below.refl w.heap.size w); have H : (r11_before.l0 k a1 a2 a3 l a5 a6 a7 a8) = some r := h
 clear h; have H' := a_ H
 clear H; go_enter Tryd.func71, Tryd.ntmps71
 go_wp2_with (first | ((with_reducible refine gd_ 4 rfl ?_); refine q_box 4 69 #[.slice c1 l.length c3, .int .i64 a5, .int .i64 a6, .int .i64 a7, .int .i64 a8] ?_; intro d6 hg w5 d2 hb; have p := a_ (d2); have q4 := a_ ((q_ge B.out hg)); have z := a_ ((q_ge B.out hg)); replace B := a_ (q_st B.out hb); clear hb d2 hg))
 go_loopg [1] k (fun kq v1 w' => ∃ (b : Int), v1 = .int .i64 b ∧ Aside0 (r11_before.l0 kq b a2 a3 l a5 a6 a7 a8 = some r) ∧ Aside0 (kq ≤ k) ∧ Aside0 (w'.heap[d6]? = some (.cells #[(.slice c1 l.length c3), .int .i64 a5, .int .i64 a6, .int .i64 a7, .int .i64 a8] 69 (0, 0))) ∧ Aside0 (Below w.heap.size w w'))
 case atStart => exact ⟨(a1), q_r, H', ⟨Nat.le_refl _⟩, ⟨q_k p.out⟩, ⟨q_w1 B.out z.out⟩⟩
 case round => (
 clear H'; obtain ⟨b, rfl, HA, d8, p, B⟩ := hrel; cases gk with
 | zero => exact absurd HA.out (by simp [r11_before.l0])
 | succ k1 => (
 have H := HA.out; clear HA; simp only [r11_before.l0] at H
 rcases q_ite H with ⟨c6b0, H⟩ | ⟨c6b0, H⟩
 {
 replace H := q_gD H; obtain ⟨-, c7b0, H⟩ := H; replace H := Option.bind_eq_some_iff.mp H; obtain ⟨d9, e0, H⟩ := H; have A8 := a_ e0; clear e0; by_cases c9 : d9 = true
 {
 subst c9; rw [if_pos rfl] at H; obtain rfl := Option.some.inj H; obtain ⟨e1, e2, e3, e4, e5, e6, e7, e8, e9, f7⟩ := q_cf5 p.out; obtain ⟨a9, S, T, b2, b3, b4, b5, b6, b7, b8, b9, q, y, d3, d4⟩ := b_T71 U.out B.out b; cases b2; have D := a_ y; have E := a_ q; clear y q; go_wp2_with (first | ((with_reducible refine gc_ 81 rfl ?_); refine q_gl 22 #[.agg #[.int .i64 ((rd_T71 l b).f0), .int .i64 ((rd_T71 l b).f1), .int .i64 ((rd_T71 l b).f2), .int .i64 ((rd_T71 l b).f3), .int .i64 ((rd_T71 l b).f4), .int .i32 ((rd_T71 l b).f5), .slice S ((rd_T71 l b).f6).length T], .int .i64 a2] Tryd.func81 rfl ?_; (with_reducible refine (r11_Uses.calls k1 ((rd_T71 l b).f0) ((rd_T71 l b).f1) ((rd_T71 l b).f2) ((rd_T71 l b).f3) ((rd_T71 l b).f4) ((rd_T71 l b).f5) _ _ ((rd_T71 l b).f6) a2 true _ (q_C (Kd.C_below D.out B.out)) E.out A8.out).mono ?_); rintro e q9 ⟨rfl, hb⟩; refine ⟨_, rfl, ?_⟩; replace p := a_ (q_bk p.out hb); replace B := a_ (q_st1 B.out hb z.out); (clear hb)))
 go_ret
 exact ⟨q_e, q_w1 B.out z.out⟩}
 {
 replace c9 := Bool.eq_false_iff.mpr c9; subst c9; rw [if_neg Bool.false_ne_true] at H; replace H := Option.bind_eq_some_iff.mp H; obtain ⟨f8, d5, H⟩ := H; have f9 := a_ d5; clear d5; by_cases d1 : f8 = true
 {
 subst d1; rw [if_pos rfl] at H; obtain rfl := Option.some.inj H; obtain ⟨g0, g1, g2, g3, g4, g5, g6, g7, g8, g9⟩ := q_cf5 p.out; obtain ⟨a9, S, T, b2, b3, b4, b5, b6, b7, b8, b9, q, y, d3, d4⟩ := b_T71 U.out B.out b; cases b2; have D := a_ y; have E := a_ q; clear y q; go_wp2_with (first | ((with_reducible refine gc_ 81 rfl ?_); refine q_gl 22 #[.agg #[.int .i64 ((rd_T71 l b).f0), .int .i64 ((rd_T71 l b).f1), .int .i64 ((rd_T71 l b).f2), .int .i64 ((rd_T71 l b).f3), .int .i64 ((rd_T71 l b).f4), .int .i32 ((rd_T71 l b).f5), .slice S ((rd_T71 l b).f6).length T], .int .i64 a2] Tryd.func81 rfl ?_; (with_reducible refine (r11_Uses.calls k1 ((rd_T71 l b).f0) ((rd_T71 l b).f1) ((rd_T71 l b).f2) ((rd_T71 l b).f3) ((rd_T71 l b).f4) ((rd_T71 l b).f5) _ _ ((rd_T71 l b).f6) a2 false _ (q_C (Kd.C_below D.out B.out)) E.out A8.out).mono ?_); rintro e r0 ⟨rfl, hb⟩; refine ⟨_, rfl, ?_⟩; replace p := a_ (q_bk p.out hb); replace B := a_ (q_st1 B.out hb z.out); (clear hb); obtain ⟨i0, i1, i2, i3, i4, i5, i6, i7, i8, i9⟩ := q_cf5 p.out; have V : 0 ≤ (b : Int) := q_d; have X : b < (l.length : Int) := q_d; obtain ⟨c0, b0, b1, d0, F, G, I, J, L, M, N, O, R⟩ := at_T71 U.out b V X; obtain rfl : a9 = c0 := (by injection d0); replace F := q_kc B.out F; replace G := q_kc B.out G; replace I := q_kc B.out I; replace J := q_kc B.out J; replace L := q_kc B.out L; replace M := q_kc B.out M; replace N := q_kc B.out N; have a0 := a_ R; have a4 := a_ O; clear R O; replace V := eq_true V; replace X := eq_true X) | ((with_reducible refine gc_ 57 rfl ?_); refine q_gl 29 #[.agg #[.int .i64 ((rd_T71 l b).f0), .int .i64 ((rd_T71 l b).f1), .int .i64 ((rd_T71 l b).f2), .int .i64 ((rd_T71 l b).f3), .int .i64 ((rd_T71 l b).f4), .int .i32 ((rd_T71 l b).f5), .slice b0 ((rd_T71 l b).f6).length b1], .int .i64 a2] Tryd.func57 rfl ?_; (with_reducible refine (r11_Sets.calls k1 ((rd_T71 l b).f0) ((rd_T71 l b).f1) ((rd_T71 l b).f2) ((rd_T71 l b).f3) ((rd_T71 l b).f4) ((rd_T71 l b).f5) _ _ ((rd_T71 l b).f6) a2 true _ (q_C (Kd.C_below a0.out B.out)) a4.out f9.out).mono ?_); rintro e r1 ⟨rfl, hb⟩; refine ⟨_, rfl, ?_⟩; replace p := a_ (q_bk p.out hb); replace B := a_ (q_st1 B.out hb z.out); (clear hb)))
 go_ret
 exact ⟨q_e, q_w1 B.out z.out⟩}
 {
 replace d1 := Bool.eq_false_iff.mpr d1; subst d1; rw [if_neg Bool.false_ne_true] at H; have H' := a_ H
 clear H; obtain ⟨j3, j5, j6, j7, j8, j9, k0, k2, k3, k4⟩ := q_cf5 p.out; obtain ⟨a9, S, T, b2, b3, b4, b5, b6, b7, b8, b9, q, y, d3, d4⟩ := b_T71 U.out B.out b; cases b2; have D := a_ y; have E := a_ q; clear y q; go_wp2_with (first | ((with_reducible refine gc_ 81 rfl ?_); refine q_gl 22 #[.agg #[.int .i64 ((rd_T71 l b).f0), .int .i64 ((rd_T71 l b).f1), .int .i64 ((rd_T71 l b).f2), .int .i64 ((rd_T71 l b).f3), .int .i64 ((rd_T71 l b).f4), .int .i32 ((rd_T71 l b).f5), .slice S ((rd_T71 l b).f6).length T], .int .i64 a2] Tryd.func81 rfl ?_; (with_reducible refine (r11_Uses.calls k1 ((rd_T71 l b).f0) ((rd_T71 l b).f1) ((rd_T71 l b).f2) ((rd_T71 l b).f3) ((rd_T71 l b).f4) ((rd_T71 l b).f5) _ _ ((rd_T71 l b).f6) a2 false _ (q_C (Kd.C_below D.out B.out)) E.out A8.out).mono ?_); rintro e r2 ⟨rfl, hb⟩; refine ⟨_, rfl, ?_⟩; replace p := a_ (q_bk p.out hb); replace B := a_ (q_st1 B.out hb z.out); (clear hb); obtain ⟨k5, k6, k7, k8, k9, l4, l5, l6, l7, l8⟩ := q_cf5 p.out; have V : 0 ≤ (b : Int) := q_d; have X : b < (l.length : Int) := q_d; obtain ⟨c0, b0, b1, d0, F, G, I, J, L, M, N, O, R⟩ := at_T71 U.out b V X; obtain rfl : a9 = c0 := (by injection d0); replace F := q_kc B.out F; replace G := q_kc B.out G; replace I := q_kc B.out I; replace J := q_kc B.out J; replace L := q_kc B.out L; replace M := q_kc B.out M; replace N := q_kc B.out N; have a0 := a_ R; have a4 := a_ O; clear R O; replace V := eq_true V; replace X := eq_true X) | ((with_reducible refine gc_ 57 rfl ?_); refine q_gl 29 #[.agg #[.int .i64 ((rd_T71 l b).f0), .int .i64 ((rd_T71 l b).f1), .int .i64 ((rd_T71 l b).f2), .int .i64 ((rd_T71 l b).f3), .int .i64 ((rd_T71 l b).f4), .int .i32 ((rd_T71 l b).f5), .slice b0 ((rd_T71 l b).f6).length b1], .int .i64 a2] Tryd.func57 rfl ?_; (with_reducible refine (r11_Sets.calls k1 ((rd_T71 l b).f0) ((rd_T71 l b).f1) ((rd_T71 l b).f2) ((rd_T71 l b).f3) ((rd_T71 l b).f4) ((rd_T71 l b).f5) _ _ ((rd_T71 l b).f6) a2 false _ (q_C (Kd.C_below a0.out B.out)) a4.out f9.out).mono ?_); rintro e r3 ⟨rfl, hb⟩; refine ⟨_, rfl, ?_⟩; replace p := a_ (q_bk p.out hb); replace B := a_ (q_st1 B.out hb z.out); (clear hb)))
 go_roundg k1
 case measure => have := d8.out; omega
 case rel => exact ⟨(wrap64 (b + 1)), q_r, H', ⟨by have := d8.out; omega⟩, ⟨q_k p.out⟩, ⟨q_w1 B.out z.out⟩⟩}}}
 {
 replace H := q_iBN H; rcases H with ⟨-, c22b0, c22b1, H⟩ | ⟨r4, c22b0, c22b1, H⟩
 {
 replace H := q_iBN H; rcases H with ⟨-, c23b0, c23b1, H⟩ | ⟨r5, c23b0, c23b1, H⟩
 {
 obtain rfl := Option.some.inj H; obtain ⟨l9, n0, n1, n2, n3, n4, n5, n6, n7, n8⟩ := q_cf5 p.out; go_wp2
 go_ret
 exact ⟨q_e, q_w1 B.out z.out⟩}
 {
 obtain rfl := Option.some.inj H; obtain ⟨n9, o0, o1, o2, o3, o4, o5, o6, o7, o8⟩ := q_cf5 p.out; go_wp2
 go_ret
 exact ⟨q_e, q_w1 B.out z.out⟩}}
 {
 obtain rfl := Option.some.inj H; obtain ⟨o9, p0, p1, p2, p3, p4, p5, p6, p7, p8⟩ := q_cf5 p.out; go_wp2
 go_ret
 exact ⟨q_e, q_w1 B.out z.out⟩}}))
mutual
def r11_into.l0 : Nat → Int → List Bool → Bool → ByteArray → List (S83) → List (S85) → Int → List (S69) → Option (List Bool)
 | 0, _, _, _, _, _, _, _, _ => none
 | k + 1, C, B, D, l, p, q, y, b => if D = true then (r11_into.l1 k C B false 0 l p q y b) else (some B)
def r11_into.l1 : Nat → Int → List Bool → Bool → Int → ByteArray → List (S83) → List (S85) → Int → List (S69) → Option (List Bool)
 | 0, _, _, _, _, _, _, _, _, _ => none
 | k + 1, C, B, D, z, l, p, q, y, b => if z < (b.length : Int) then (if 0 ≤ z then (if z < (B.length : Int) then (if rdOf false B z = true then (r11_into.l1 k C B D (wrap64 (z + 1)) l p q y b) else ((r11_out.f k l p q y b B z).bind fun E => ((r11_before.f k ((rd_T69 b z).f0) ((rd_T69 b z).f1) ((rd_T69 b z).f2) ((rd_T69 b z).f3) ((rd_T69 b z).f4) 0 C E).bind fun F => (if F = true then (r11_into.l1 k C (B.set (z : Int).toNat true) true (wrap64 (z + 1)) l p q y b) else (r11_into.l1 k C B D (wrap64 (z + 1)) l p q y b))))) else (none)) else (none)) else (r11_into.l0 k C B D l p q y b)
end
def r11_into.f (k : Nat) (l : ByteArray) (p : List (S83)) (q : List (S85)) (y : Int) (b : List (S69)) (z : Int) : Option (List Bool) := if 0 ≤ (b.length : Int) then (if ((b.length : Int) : Int).toNat ≤ 281474976710656 then (r11_into.l0 k z (List.replicate ((b.length : Int) : Int).toNat false) true l p q y b) else (none)) else (none)
def r11_into.T8 : Bool × List (List Nat × List Nat) := (true, [([], []), ([], []), ([0, 1], [0, 1]), ([2], [2]), ([3], [3]), ([4], [4]), ([5], [5]), ([6, 5], [5, 6]), ([5], [5]), ([7, 8, 5], [5, 7, 8]), ([9, 5], [5, 9]), ([5], [5]), ([5], [5]), ([5], [5]), ([5], [5]), ([12, 13, 14, 5, 5], [5, 12, 13, 14]), ([10, 11, 15, 15, 5], [5, 10, 11, 15]), ([5, 16], [5, 16])])
def r11_into.B8 : List Nat := [0, 0, 3, 7, 15, 31, 63, 127, 63, 511, 1023, 63, 63, 63, 63, 28735, 65535, 131071]
theorem r11_into.tab8 : rtab .any (opsOf Tryd.f55 8) = r11_into.T8 := by kernel_rfl
theorem r11_into.bits8 : waitsOk r11_into.T8.2 r11_into.B8 = true := by kernel_rfl
theorem r11_into.calls (k : Nat) (G : ByteArray) (b1 : Option Addr) (b2 : Nat) (E : List (S83)) (b3 : Option Addr) (b4 : Nat) (F : List (S85)) (I : Int) (d2 : Option Addr) (b5 : Nat) (l : List (S69)) (a1 : Int) (r : List Bool) (w : World) (f5 : Kd.C k83 w b1 E.length E) (f6 : E.length ≤ b2) (f7 : Kd.C k85 w b3 F.length F) (f8 : F.length ≤ b4) (f9 : Kd.C k69 w d2 l.length l) (g0 : l.length ≤ b5) (h : r11_into.f k G E F I l a1 = some r) :
  Calls Tryd.prog 55 #[.agg #[.string G, .slice b1 E.length b2, .slice b3 F.length b4, .int .i64 I, .slice d2 l.length b5], .int .i64 a1] w fun e w' => ∃ n6 : Value, e = .returned (n6) ∧ Kd.R Kd.bool 4 w' w.heap.size (fun _ => True) n6 r ∧ Below w.heap.size w w' := by
 have t0 := Tryd.underlying26; have t1 := Tryd.underlying69; have g1 := a_ f5; have g2 := a_ f6; clear f5 f6; have g3 := a_ f7; have g4 := a_ f8; clear f7 f8; have d1 := a_ f9; have g5 := a_ g0; clear f9 g0; have B := a_ (Below.refl w.heap.size w); have H : (if 0 ≤ (l.length : Int) then (if ((l.length : Int) : Int).toNat ≤ 281474976710656 then (r11_into.l0 k a1 (List.replicate ((l.length : Int) : Int).toNat false) true G E F I l) else (none)) else (none)) = some r := h
 clear h; replace H := q_gED H; obtain ⟨-, c3b0, c3b1, H⟩ := H; replace H := q_gED H; obtain ⟨-, c4b0, c4b1, H⟩ := H; obtain ⟨k4, e2⟩ : ∃ y_ : List Bool, y_ = (List.replicate ((l.length : Int) : Int).toNat false) := ⟨_, rfl⟩; replace H : (r11_into.l0 k a1 k4 true G E F I l) = some r := q_rw e2 H
 have g6 := a_ e2; clear e2; have H' := a_ H
 clear H; go_enter Tryd.func55, Tryd.ntmps55
 go_wp2_with (first | ((with_reducible refine gd_ 2 rfl ?_); refine q_box 2 26 #[.string G, .slice b1 E.length b2, .slice b3 F.length b4, .int .i64 I, .slice d2 l.length b5] ?_; intro c1 hg w5 k5 hb; have q := a_ (k5); have s6 := a_ ((q_ge B.out hg)); have V := a_ ((q_ge B.out hg)); replace B := a_ (q_st B.out hb); clear hb k5 hg; obtain ⟨i6, i7, i8, i9, j3, j5, j6, j7, j8, j9⟩ := q_cf5 q.out) | ((with_reducible refine gd_ 11 rfl ?_); refine Kd.R_make Kd.bool _ 4 rfl (N := 11) rfl 37 _ _ rfl (l.length : Int) rfl rfl Tryd.underlying37 (.bool false) 1 info4 rfl (by decide) (by omega) false (ok := fun _ => True) (okp := fun _ => True) rfl (fun _ hk => hk) trivial (q_d) (Nat.le_trans (Nat.mul_le_mul_right _ (q_d : (l.length : Int).toNat ≤ 281474976710656)) (by omega)) (Below.refl _ _) (Nat.le_refl _) ?_; intro k6 w7 g7 hb hg_ hnew_; clear hg_ hnew_; (first | rw [← g6.out] at g7 | (simp only [Int.reduceToNat] at g7; rw [← g6.out] at g7)); have n1 := a_ (Kd.R_lower g7 (below_size (q_w1 B.out V.out))); replace q := a_ (q_bk q.out hb); replace B := a_ (q_st1 B.out hb V.out); clear hb g7))
 go_loopg [6] k (fun kq v6 w' => ∃ (e6 : List Bool) (e7 : Bool), v6 = .bool e7 ∧ Aside0 (r11_into.l0 kq a1 e6 e7 G E F I l = some r) ∧ Aside0 (kq ≤ k) ∧ Aside0 (Kd.R Kd.bool 4 w' w.heap.size (fun _ => True) k6 e6) ∧ Aside0 (w'.heap[c1]? = some (.cells #[.string G, (.slice b1 E.length b2), (.slice b3 F.length b4), .int .i64 I, (.slice d2 l.length b5)] 26 (0, 0))) ∧ Aside0 (Below w.heap.size w w'))
 case atStart => exact ⟨(k4), (true), q_r, H', ⟨Nat.le_refl _⟩, ⟨by (with_reducible repeat (first | apply Kd.R_alloc | apply Kd.R_drewN | apply Kd.R_drew)); exact n1.out⟩, ⟨q_k q.out⟩, ⟨q_w1 B.out V.out⟩⟩
 case round => (
 clear H'; clear c3b0 c3b1 c4b0 c4b1 i6 i7 i8 i9 j3 j5 j6 j7 j8 j9; obtain ⟨e6, e7, rfl, HA, d3, HO_5, q, B⟩ := hrel; cases gk with
 | zero => exact absurd HA.out (by simp [r11_into.l0])
 | succ k1 => (
 have H := HA.out; clear HA; simp only [r11_into.l0] at H
 by_cases c9 : e7 = true
 {
 subst c9; rw [if_pos rfl] at H; have H' := a_ H
 clear H; go_wp2
 go_loopg [6, 7] k1 (fun kq v6 v7 w' => ∃ (J : List Bool) (b9 : Bool) (b : Int), v6 = .bool b9 ∧ v7 = .int .i64 b ∧ Aside0 (r11_into.l1 kq a1 J b9 b G E F I l = some r) ∧ Aside0 (kq ≤ k1) ∧ Aside0 (Kd.R Kd.bool 4 w' w.heap.size (fun _ => True) k6 J) ∧ Aside0 (w'.heap[c1]? = some (.cells #[.string G, (.slice b1 E.length b2), (.slice b3 F.length b4), .int .i64 I, (.slice d2 l.length b5)] 26 (0, 0))) ∧ Aside0 (Below w.heap.size w w'))
 case atStart => exact ⟨(e6), (false), (0), q_r, q_r, H', ⟨Nat.le_refl _⟩, ⟨by (with_reducible repeat (first | apply Kd.R_alloc | apply Kd.R_drewN | apply Kd.R_drew)); exact HO_5.out⟩, ⟨q_k q.out⟩, ⟨q_w1 B.out V.out⟩⟩
 case round => (
 clear H'; obtain ⟨J, b9, b, rfl, rfl, HA, d4, HO_5, q, B⟩ := hrel; cases gk with
 | zero => exact absurd HA.out (by simp [r11_into.l1])
 | succ k2 => (
 have H := HA.out; clear HA; simp only [r11_into.l1] at H
 rcases q_ite H with ⟨c10b0, H⟩ | ⟨c10b0, H⟩
 {
 replace H := q_gD H; obtain ⟨-, c11b0, H⟩ := H; replace H := q_gD H; obtain ⟨-, c12b0, H⟩ := H; obtain ⟨k7, e3⟩ : ∃ b_ : Bool, b_ = (rdOf false J b) := ⟨_, rfl⟩; replace H : (if k7 = true then (r11_into.l1 k2 a1 J b9 (wrap64 (b + 1)) G E F I l) else ((r11_out.f k2 G E F I l J b).bind fun c0 => ((r11_before.f k2 ((rd_T69 l b).f0) ((rd_T69 l b).f1) ((rd_T69 l b).f2) ((rd_T69 l b).f3) ((rd_T69 l b).f4) 0 a1 c0).bind fun g8 => (if g8 = true then (r11_into.l1 k2 a1 (J.set (b : Int).toNat true) true (wrap64 (b + 1)) G E F I l) else (r11_into.l1 k2 a1 J b9 (wrap64 (b + 1)) G E F I l))))) = some r := by rw [← e3] at H; exact H
 have e4 := a_ e3; clear e3; by_cases k0 : k7 = true
 {
 subst k0; rw [if_pos rfl] at H; have H' := a_ H
 clear H; obtain ⟨n7, n8, n9, o0, o1, o2, o3, o4, o5, o6⟩ := q_cf5 q.out; try go_wp2
 have d5 := a_ (Kd.R_drew HO_5.out); have d6 := a_ (blk_drew q.out); have d7 := a_ (below_drew1 B.out); clear HO_5 q B; have HO_5 := d5; have q := d6; have B := d7; clear d5 d6 d7; obtain ⟨t3, t4, k8⟩ := Kd.R_slice HO_5.out; (first | subst k8 | (injection k8 with d8 g9 d9; have i0 := d8.symm; have i1 := d9.symm; clear d8 g9 d9; subst i0; subst i1))
 have a5 : 0 ≤ (b : Int) := q_d
 have a6 : b < (J.length : Int) := q_d
 obtain ⟨b6, e0, D⟩ := Kd.at_bool (Kd.R_reads' HO_5.out).2.2 b a5 a6; (try rw [← e4.out] at D)
 cases e0; replace a5 := eq_true a5; replace a6 := eq_true a6; refine q_s 18 (S := fun w' => w'.cell? (b6.add (b).toNat) = some (.bool true)) (D) (fun z => ?_); refine with_tabW r11_into.tab8 r11_into.bits8 (fun y c3 => ?_)
 generalize wr.drew = v1 at HO_5 q B D z ⊢
 refine qv_ 0 y ?_
 refine qv_ 1 y ?_
 refine qv_ 2 y ?_
 refine qt_ 3 y c3 z ?_
 refine qv_ 4 y ?_
 refine qv_ 5 y ?_
 refine qu_ 6 y ?_
 refine qu_ 7 y ?_
 refine qu_ 8 y ?_
 refine qu_ 9 y ?_
 refine qu_ 10 y ?_
 refine qu_ 11 y ?_
 refine qu_ 12 y ?_
 refine qu_ 13 y ?_
 refine qu_ 14 y ?_
 refine qu_ 15 y ?_
 refine qu_ 16 y ?_
 refine qv_ 17 y ?_
 refine done_ (done_of y.out (by kernel_rfl)) ?_
 try go_wp2
 go_roundg k2
 case measure => have := d3.out; have := d4.out; omega
 case rel => exact ⟨(J), (b9), (wrap64 (b + 1)), q_r, q_r, H', ⟨by have := d3.out; have := d4.out; omega⟩, ⟨by (with_reducible repeat (first | apply Kd.R_alloc | apply Kd.R_drewN | apply Kd.R_drew)); exact HO_5.out⟩, ⟨q_k q.out⟩, ⟨q_w1 B.out V.out⟩⟩}
 {
 replace k0 := Bool.eq_false_iff.mpr k0; subst k0; rw [if_neg Bool.false_ne_true] at H; replace H := Option.bind_eq_some_iff.mp H; obtain ⟨c0, k9, H⟩ := H; have o7 := a_ k9; clear k9; replace H := Option.bind_eq_some_iff.mp H; obtain ⟨g8, l4, H⟩ := H; have o8 := a_ l4; clear l4; by_cases k3 : g8 = true
 {
 subst k3; rw [if_pos rfl] at H; obtain ⟨i2, e5⟩ : ∃ y_ : List Bool, y_ = (J.set (b : Int).toNat true) := ⟨_, rfl⟩; replace H : (r11_into.l1 k2 a1 i2 true (wrap64 (b + 1)) G E F I l) = some r := q_rw e5 H
 have n2 := a_ e5; clear e5; have H' := a_ H
 clear H; obtain ⟨o9, p0, p1, p2, p3, p4, p5, p6, p7, p8⟩ := q_cf5 q.out; try go_wp2
 have d5 := a_ (Kd.R_drew HO_5.out); have d6 := a_ (blk_drew q.out); have d7 := a_ (below_drew1 B.out); clear HO_5 q B; have HO_5 := d5; have q := d6; have B := d7; clear d5 d6 d7; obtain ⟨t5, l5, l6⟩ := Kd.R_slice HO_5.out; (first | subst l6 | (injection l6 with d8 g9 d9; have i0 := d8.symm; have i1 := d9.symm; clear d8 g9 d9; subst i0; subst i1))
 have a5 : 0 ≤ (b : Int) := q_d
 have a6 : b < (J.length : Int) := q_d
 obtain ⟨b6, e0, D⟩ := Kd.at_bool (Kd.R_reads' HO_5.out).2.2 b a5 a6; (try rw [← e4.out] at D)
 cases e0; replace a5 := eq_true a5; replace a6 := eq_true a6; have c4 : 0 ≤ (b : Int) := q_d
 have c6 : b < (l.length : Int) := q_d
 obtain ⟨a7, b7, b8, i3, L, M, O, T, U, a8, a9⟩ := at_T69 d1.out b c4 c6; have X := U; have a0 := T; have a2 := O; have a3 := M; have a4 := L; cases i3; replace L := q_kc B.out L; replace M := q_kc B.out M; replace O := q_kc B.out O; replace T := q_kc B.out T; replace U := q_kc B.out U; have b0 := a_ a9; have c8 := a_ a8; clear a9 a8; replace c4 := eq_true c4; replace c6 := eq_true c6; refine q_s 18 (S := fun w' => cg5 w' c1 (.string G) (.slice b1 E.length b2) (.slice b3 F.length b4) (.int .i64 I) (.slice (some a7) l.length b5) (w'.cell? (b6.add (b).toNat) = some (.bool false) ∧ cp5_ w' (a7.add ((b).toNat * 5)) (.slice b7 ((rd_T69 l b).f0).length b8) (.int .i64 ((rd_T69 l b).f1)) (.int .i64 ((rd_T69 l b).f2)) (.int .i64 ((rd_T69 l b).f3)) (.int .i64 ((rd_T69 l b).f4)))) (q_g5 q.out ⟨D, (q_kc B.out a4), (q_kc B.out a3), (q_kc B.out a2), (q_kc B.out a0), (q_kc B.out X)⟩) (fun z => ?_); refine with_tabW r11_into.tab8 r11_into.bits8 (fun y c3 => ?_)
 generalize wr.drew = v2 at HO_5 q B b0 D L M O T U z ⊢
 refine qv_ 0 y ?_
 refine qv_ 1 y ?_
 refine qv_ 2 y ?_
 refine qt11_ 3 y c3 z ?_
 refine qv_ 4 y ?_
 refine qv_ 5 y ?_
 refine qv_ 6 y ?_
 refine qv_ 8 y ?_
 refine qv_ 11 y ?_
 refine qv_ 13 y ?_
 refine qv_ 14 y ?_
 refine qt11_ 7 y c3 z ?_
 refine qv_ 9 y ?_
 refine qt11_ 10 y c3 z ?_
 refine qt11_ 12 y c3 z ?_
 refine q_o 15 y (fun K hK => ?_)
 refine q_go #[.agg #[.string G, .slice b1 E.length b2, .slice b3 F.length b4, .int .i64 I, .slice (some a7) l.length b5], .slice (some b6) J.length l5, .int .i64 b] Tryd.func41 rfl ?_
 with_reducible refine (r11_out.calls k2 G _ _ E _ _ F I _ _ l _ _ J b c0 _ (q_C (Kd.C_below g1.out B.out)) g2.out (q_C (Kd.C_below g3.out B.out)) g4.out (q_C (Kd.C_below d1.out B.out)) g5.out ?side7 ((Kd.R_reads' HO_5.out).2.1) o7.out).mono ?_
 (case side7 => repeat (first | exact (Kd.R_reads' HO_5.out).2.2 | with_reducible first | refine Kd.C_alloc ?_ _ | refine Kd.C_drewN ?_ _ | refine Kd.C_drew ?_))
 rintro e v3 ⟨rfl, hb⟩
 have d0 := q_kc hb (z.2.2.2.2.2.1); refine ⟨_, rfl, ?_⟩
 replace HO_5 := a_ (Kd.R_below (by (with_reducible repeat (first | apply Kd.R_alloc | apply Kd.R_drewN | apply Kd.R_drew)); exact HO_5.out) hb); replace q := a_ (q_bk q.out hb); replace B := a_ (q_st1 B.out hb V.out); (clear hb)
 refine q_nk hK.out (q_g5 q.out ⟨d0, (q_kc B.out a4), (q_kc B.out a3), (q_kc B.out a2), (q_kc B.out a0), (q_kc B.out X)⟩) (fun z => ?_)
 clear hK K
 refine q_o 16 y (fun K hK => ?_)
 refine q_go #[.agg #[.slice b7 ((rd_T69 l b).f0).length b8, .int .i64 ((rd_T69 l b).f1), .int .i64 ((rd_T69 l b).f2), .int .i64 ((rd_T69 l b).f3), .int .i64 ((rd_T69 l b).f4)], .int .i64 0, .int .i64 a1, .bool c0] Tryd.func71 rfl ?_
 with_reducible refine (r11_before.calls k2 _ _ ((rd_T69 l b).f0) ((rd_T69 l b).f1) ((rd_T69 l b).f2) ((rd_T69 l b).f3) ((rd_T69 l b).f4) 0 a1 c0 true _ (q_C (Kd.C_below b0.out B.out)) c8.out o8.out).mono ?_
 rintro e p9 ⟨rfl, hb⟩
 have d0 := q_kc hb (z.2.2.2.2.2.1); refine ⟨_, rfl, ?_⟩
 replace HO_5 := a_ (Kd.R_below (by (with_reducible repeat (first | apply Kd.R_alloc | apply Kd.R_drewN | apply Kd.R_drew)); exact HO_5.out) hb); replace q := a_ (q_bk q.out hb); replace B := a_ (q_st1 B.out hb V.out); (clear hb)
 refine q_nk hK.out (q_g5 q.out ⟨d0, (q_kc B.out a4), (q_kc B.out a3), (q_kc B.out a2), (q_kc B.out a0), (q_kc B.out X)⟩) (fun z => ?_)
 clear hK K
 refine qv_ 17 y ?_
 refine done_ (done_of y.out (by kernel_rfl)) ?_
 have n3 : 0 ≤ (b : Int) := q_d
 have n4 : (b : Int) < ((J.length : Int) : Int) := q_d
 obtain ⟨i4, t6, l7, l8, q0, t7, l9⟩ := Kd.R_form HO_5.out (by omega)
 (first | cases l7 | (injection l7 with ea_ en_ ec_; (first | subst ea_ | (injection ea_ with ea_; subst ea_)); subst ec_; clear en_))
 have q1 := a_ l8; have t8 := a_ l9; clear l8 q0 l9; (first | simp only [add_plain] at D | skip)
 obtain ⟨s4, s5⟩ := Kd.R_celln false HO_5.out (b : Int) n3 n4; replace n3 := eq_true n3; replace n4 := eq_true n4; obtain ⟨s8, s9⟩ := Kd.R_celln false HO_5.out (b : Int) (q_d) (q_d); have i5 := Kd.R_putg HO_5.out (b : Int) true; try go_wp2_with (first | ((with_reducible refine gate_store (t := 4) (p := 40) rfl ?_); refine store_event (t := 4) (p := 40) (v := ?vo_w28) (w1 := (p9.setCell ⟨i4, (b : Int).toNat, none⟩ (.bool true))) ?hg ?ho ?hn ?hr ?_; (case ho => rfl); (case hg => rfl); (case hn => rfl); (case hr => first | (go_simp; done) | (go_simp; rfl)); intro n5 hw; have hg : p9.grownBy n5 (some i4) := (by rw [hw]; exact i5.2); have hp_ : Kd.R Kd.bool 4 n5 w.heap.size (fun _ => True) (.slice (some ⟨i4, 0, none⟩) J.length l5) i2 := (by rw [hw, n2.out]; exact i5.1); clear i5; replace B := a_ ((by rw [hw]; exact below_set (B.out) q1.out : Below w.heap.size w n5)); replace q := a_ (blk_grown (g := c1) (o := .cells #[.string G, .slice b1 E.length b2, .slice b3 F.length b4, .int .i64 I, .slice (some a7) l.length b5] 26 (0, 0)) (q_k q.out) hg (Kd.R_ne HO_5.out q.out (by decide))); replace HO_5 := a_ (hp_); clear hg hw hp_))
 go_roundg k2
 case measure => have := d3.out; have := d4.out; omega
 case rel => exact ⟨(i2), (true), (wrap64 (b + 1)), q_r, q_r, H', ⟨by have := d3.out; have := d4.out; omega⟩, ⟨by (with_reducible repeat (first | apply Kd.R_alloc | apply Kd.R_drewN | apply Kd.R_drew)); exact HO_5.out⟩, ⟨q_k q.out⟩, ⟨q_w1 B.out V.out⟩⟩}
 {
 replace k3 := Bool.eq_false_iff.mpr k3; subst k3; rw [if_neg Bool.false_ne_true] at H; have H' := a_ H
 clear H; obtain ⟨q2, q3, q4, q5, q6, q7, q8, q9, r0, r1⟩ := q_cf5 q.out; try go_wp2
 have d5 := a_ (Kd.R_drew HO_5.out); have d6 := a_ (blk_drew q.out); have d7 := a_ (below_drew1 B.out); clear HO_5 q B; have HO_5 := d5; have q := d6; have B := d7; clear d5 d6 d7; obtain ⟨t9, r2, n0⟩ := Kd.R_slice HO_5.out; (first | subst n0 | (injection n0 with d8 g9 d9; have i0 := d8.symm; have i1 := d9.symm; clear d8 g9 d9; subst i0; subst i1))
 have a5 : 0 ≤ (b : Int) := q_d
 have a6 : b < (J.length : Int) := q_d
 obtain ⟨b6, e0, D⟩ := Kd.at_bool (Kd.R_reads' HO_5.out).2.2 b a5 a6; (try rw [← e4.out] at D)
 cases e0; replace a5 := eq_true a5; replace a6 := eq_true a6; have c4 : 0 ≤ (b : Int) := q_d
 have c6 : b < (l.length : Int) := q_d
 obtain ⟨a7, b7, b8, i3, L, M, O, T, U, a8, a9⟩ := at_T69 d1.out b c4 c6; have X := U; have a0 := T; have a2 := O; have a3 := M; have a4 := L; cases i3; replace L := q_kc B.out L; replace M := q_kc B.out M; replace O := q_kc B.out O; replace T := q_kc B.out T; replace U := q_kc B.out U; have b0 := a_ a9; have c8 := a_ a8; clear a9 a8; replace c4 := eq_true c4; replace c6 := eq_true c6; refine q_s 18 (S := fun w' => cg5 w' c1 (.string G) (.slice b1 E.length b2) (.slice b3 F.length b4) (.int .i64 I) (.slice (some a7) l.length b5) (w'.cell? (b6.add (b).toNat) = some (.bool false) ∧ cp5_ w' (a7.add ((b).toNat * 5)) (.slice b7 ((rd_T69 l b).f0).length b8) (.int .i64 ((rd_T69 l b).f1)) (.int .i64 ((rd_T69 l b).f2)) (.int .i64 ((rd_T69 l b).f3)) (.int .i64 ((rd_T69 l b).f4)))) (q_g5 q.out ⟨D, (q_kc B.out a4), (q_kc B.out a3), (q_kc B.out a2), (q_kc B.out a0), (q_kc B.out X)⟩) (fun z => ?_); refine with_tabW r11_into.tab8 r11_into.bits8 (fun y c3 => ?_)
 generalize wr.drew = v4 at HO_5 q B b0 D L M O T U z ⊢
 refine qv_ 0 y ?_
 refine qv_ 1 y ?_
 refine qv_ 2 y ?_
 refine qt11_ 3 y c3 z ?_
 refine qv_ 4 y ?_
 refine qv_ 5 y ?_
 refine qv_ 6 y ?_
 refine qv_ 8 y ?_
 refine qv_ 11 y ?_
 refine qv_ 13 y ?_
 refine qv_ 14 y ?_
 refine qt11_ 7 y c3 z ?_
 refine qv_ 9 y ?_
 refine qt11_ 10 y c3 z ?_
 refine qt11_ 12 y c3 z ?_
 refine q_o 15 y (fun K hK => ?_)
 refine q_go #[.agg #[.string G, .slice b1 E.length b2, .slice b3 F.length b4, .int .i64 I, .slice (some a7) l.length b5], .slice (some b6) J.length r2, .int .i64 b] Tryd.func41 rfl ?_
 with_reducible refine (r11_out.calls k2 G _ _ E _ _ F I _ _ l _ _ J b c0 _ (q_C (Kd.C_below g1.out B.out)) g2.out (q_C (Kd.C_below g3.out B.out)) g4.out (q_C (Kd.C_below d1.out B.out)) g5.out ?side7 ((Kd.R_reads' HO_5.out).2.1) o7.out).mono ?_
 (case side7 => repeat (first | exact (Kd.R_reads' HO_5.out).2.2 | with_reducible first | refine Kd.C_alloc ?_ _ | refine Kd.C_drewN ?_ _ | refine Kd.C_drew ?_))
 rintro e v5 ⟨rfl, hb⟩
 have d0 := q_kc hb (z.2.2.2.2.2.1); refine ⟨_, rfl, ?_⟩
 replace HO_5 := a_ (Kd.R_below (by (with_reducible repeat (first | apply Kd.R_alloc | apply Kd.R_drewN | apply Kd.R_drew)); exact HO_5.out) hb); replace q := a_ (q_bk q.out hb); replace B := a_ (q_st1 B.out hb V.out); (clear hb)
 refine q_nk hK.out (q_g5 q.out ⟨d0, (q_kc B.out a4), (q_kc B.out a3), (q_kc B.out a2), (q_kc B.out a0), (q_kc B.out X)⟩) (fun z => ?_)
 clear hK K
 refine q_o 16 y (fun K hK => ?_)
 refine q_go #[.agg #[.slice b7 ((rd_T69 l b).f0).length b8, .int .i64 ((rd_T69 l b).f1), .int .i64 ((rd_T69 l b).f2), .int .i64 ((rd_T69 l b).f3), .int .i64 ((rd_T69 l b).f4)], .int .i64 0, .int .i64 a1, .bool c0] Tryd.func71 rfl ?_
 with_reducible refine (r11_before.calls k2 _ _ ((rd_T69 l b).f0) ((rd_T69 l b).f1) ((rd_T69 l b).f2) ((rd_T69 l b).f3) ((rd_T69 l b).f4) 0 a1 c0 false _ (q_C (Kd.C_below b0.out B.out)) c8.out o8.out).mono ?_
 rintro e v8 ⟨rfl, hb⟩
 have d0 := q_kc hb (z.2.2.2.2.2.1); refine ⟨_, rfl, ?_⟩
 replace HO_5 := a_ (Kd.R_below (by (with_reducible repeat (first | apply Kd.R_alloc | apply Kd.R_drewN | apply Kd.R_drew)); exact HO_5.out) hb); replace q := a_ (q_bk q.out hb); replace B := a_ (q_st1 B.out hb V.out); (clear hb)
 refine q_nk hK.out (q_g5 q.out ⟨d0, (q_kc B.out a4), (q_kc B.out a3), (q_kc B.out a2), (q_kc B.out a0), (q_kc B.out X)⟩) (fun z => ?_)
 clear hK K
 refine qv_ 17 y ?_
 refine done_ (done_of y.out (by kernel_rfl)) ?_
 try go_wp2
 go_roundg k2
 case measure => have := d3.out; have := d4.out; omega
 case rel => exact ⟨(J), (b9), (wrap64 (b + 1)), q_r, q_r, H', ⟨by have := d3.out; have := d4.out; omega⟩, ⟨by (with_reducible repeat (first | apply Kd.R_alloc | apply Kd.R_drewN | apply Kd.R_drew)); exact HO_5.out⟩, ⟨q_k q.out⟩, ⟨q_w1 B.out V.out⟩⟩}}}
 {
 have H' := a_ H
 clear H; obtain ⟨r3, r4, r5, r6, r7, r8, r9, s0, s1, s2⟩ := q_cf5 q.out; go_wp2
 go_roundg k2
 case measure => have := d3.out; have := d4.out; omega
 case rel => exact ⟨(J), (b9), q_r, H', ⟨by have := d3.out; have := d4.out; omega⟩, ⟨by (with_reducible repeat (first | apply Kd.R_alloc | apply Kd.R_drewN | apply Kd.R_drew)); exact HO_5.out⟩, ⟨q_k q.out⟩, ⟨q_w1 B.out V.out⟩⟩}))}
 {
 replace c9 := Bool.eq_false_iff.mpr c9; subst c9; rw [if_neg Bool.false_ne_true] at H; obtain rfl := Option.some.inj H; go_wp2
 go_ret
 exact ⟨_, q_e, by (with_reducible repeat (first | apply Kd.R_alloc | apply Kd.R_drewN | apply Kd.R_drew)); exact HO_5.out, q_w1 B.out V.out⟩}))
def r11_Live.l0 : Nat → List (List Bool) → Int → ByteArray → List (S83) → List (S85) → Int → List (S69) → Option ((List (List Bool)))
 | 0, _, _, _, _, _, _, _ => none
 | k + 1, B, C, l, p, q, b, y => if C < b then ((r11_into.f k l p q b y C).bind fun z => (if B.length < 5864062014805 then (r11_Live.l0 k (B ++ [z]) (wrap64 (C + 1)) l p q b y) else (none))) else (some B)
def r11_Live.f (k : Nat) (b : ByteArray) (l : List (S83)) (p : List (S85)) (q : Int) (y : List (S69)) : Option ((List (List Bool))) := r11_Live.l0 k ([] : List (List Bool)) 0 b l p q y
theorem r11_Live.calls (k : Nat) (z : ByteArray) (F : Option Addr) (G : Nat) (p : List (S83)) (I : Option Addr) (J : Nat) (q : List (S85)) (B : Int) (L : Option Addr) (M : Nat) (y : List (S69)) (r : List (List Bool)) (w : World) (V : Kd.C k83 w F p.length p) (X : p.length ≤ G) (a0 : Kd.C k85 w I q.length q) (a1 : q.length ≤ J) (a2 : Kd.C k69 w L y.length y) (a3 : y.length ≤ M) (h : r11_Live.f k z p q B y = some r) :
  Calls Tryd.prog 40 #[.agg #[.string z, .slice F p.length G, .slice I q.length J, .int .i64 B, .slice L y.length M]] w fun e w' => ∃ b6 : Value, e = .returned (b6) ∧ Kd.S (Kd.slice 4 Kd.bool) 37 w' w.heap.size (fun _ => True) b6 r ∧ Below w.heap.size w w' := by
 have f2 := Tryd.underlying26; have a7 := a_ V; have a8 := a_ X; clear V X; have a9 := a_ a0; have b0 := a_ a1; clear a0 a1; have b1 := a_ a2; have b2 := a_ a3; clear a2 a3; have O := a_ (Below.refl w.heap.size w); have H : (r11_Live.l0 k ([] : List (List Bool)) 0 z p q B y) = some r := h
 clear h; have H' := a_ H
 clear H; go_enter Tryd.func40, Tryd.ntmps40
 go_wp2_with (first | ((with_reducible refine gd_ 1 rfl ?_); refine q_box 1 26 #[.string z, .slice F p.length G, .slice I q.length J, .int .i64 B, .slice L y.length M] ?_; intro a4 hg w2 a5 hb; have l := a_ (a5); have e9 := a_ ((q_ge O.out hg)); have D := a_ ((q_ge O.out hg)); replace O := a_ (q_st O.out hb); clear hb a5 hg))
 go_loopg [3, 4] k (fun kq v3 v4 w' => ∃ (R : List (List Bool)) (E : Int), v4 = .int .i64 E ∧ Aside0 (r11_Live.l0 kq R E z p q B y = some r) ∧ Aside0 (kq ≤ k) ∧ Aside0 (Kd.S (Kd.slice 4 Kd.bool) 37 w' w.heap.size (fun _ => True) v3 R) ∧ Aside0 (w'.heap[a4]? = some (.cells #[.string z, (.slice F p.length G), (.slice I q.length J), .int .i64 B, (.slice L y.length M)] 26 (0, 0))) ∧ Aside0 (Below w.heap.size w w'))
 case atStart => exact ⟨(([] : List (List Bool))), (0), q_r, H', ⟨Nat.le_refl _⟩, ⟨by first | exact Kd.S_nil _ _ _ _ _ | exact Kd.N_nil _ _ _ _ _ | exact Kd.V_nil _ _ _ _ _ | exact Kd.Q_nil _ _ _ _ _ | exact Kd.R_nil _ _ _ _ _⟩, ⟨q_k l.out⟩, ⟨q_w1 O.out D.out⟩⟩
 case round => (
 clear H'; obtain ⟨R, E, rfl, HA, b7, HO_3, l, O⟩ := hrel; cases gk with
 | zero => exact absurd HA.out (by simp [r11_Live.l0])
 | succ k1 => (
 have H := HA.out; clear HA; simp only [r11_Live.l0] at H
 rcases q_ite H with ⟨c3b0, H⟩ | ⟨c3b0, H⟩
 {
 replace H := Option.bind_eq_some_iff.mp H; obtain ⟨T, b8, H⟩ := H; have A4 := a_ b8; clear b8; replace H := q_g H; obtain ⟨c5, H⟩ := H; have b9 := a_ c5; clear c5; obtain ⟨a6, U⟩ : ∃ y_ : List (List Bool), y_ = (R ++ [T]) := ⟨_, rfl⟩; replace H : (r11_Live.l0 k1 a6 (wrap64 (E + 1)) z p q B y) = some r := q_rw U H
 have b3 := a_ U; clear U; have H' := a_ H
 clear H; obtain ⟨d9, e0, e1, e2, e3, e4, e5, e6, e7, e8⟩ := q_cf5 l.out; go_wp2_with (first | ((with_reducible refine gc_ 55 rfl ?_); refine q_gl 14 #[.agg #[.string z, .slice F p.length G, .slice I q.length J, .int .i64 B, .slice L y.length M], .int .i64 E] Tryd.func55 rfl ?_; (with_reducible refine (r11_into.calls k1 z _ _ p _ _ q B _ _ y E T _ (q_C (Kd.C_below a7.out O.out)) a8.out (q_C (Kd.C_below a9.out O.out)) b0.out (q_C (Kd.C_below b1.out O.out)) b2.out A4.out).mono ?_); rintro e w7 ⟨f3, rfl, b4, hb⟩; refine ⟨_, rfl, ?_⟩; have N := a_ (Kd.R_lower b4 (below_size (q_w1 O.out D.out))); replace HO_3 := a_ (Kd.S_elder' (by (with_reducible repeat (first | apply Kd.S_alloc | apply Kd.S_drewN | apply Kd.S_drew)); exact HO_3.out) (Kd.R_base b4) hb); replace l := a_ (q_bk l.out hb); replace O := a_ (q_st1 O.out hb D.out); clear hb b4; obtain ⟨c0, c1, f1⟩ := Kd.R_slice N.out; subst f1) | ((with_reducible refine gate_builtin (b := .append) (xs := #[.tmp 11, .tmp 15]) rfl ?_); at_builtin; refine Kd.S_append (Kd.slice 4 Kd.bool) (w0 := w) w.heap.size rfl (.tmp 11) (.tmp 15) 77 37 (.slice none 0 0) 24 rfl Tryd.underlying77 info37 rfl (by decide) (by omega) u3 R T [.slice c0 T.length c1] (fun _ => True) (fun k_ => some k_ = (.slice c0 T.length c1 : Value).ownBlock) rfl rfl ?aP (fun k_ hk_ => ((Kd.R_mono (ok' := fun k_ => ((fun _ => True)) k_ ∧ some k_ ≠ (u3 : Value).ownBlock) (Kd.R_apart' (N.out) (Kd.S_typed HO_3.out) (by decide)) (fun k_ hk => ⟨trivial, hk.2⟩))).1 k_ hk_.symm) ?aF ?aO ?aB ?aS ?aL ?_; (case aP => exact Kd.M_row (Kd.R_mono (Kd.R_tight rfl (Kd.R_mono (ok' := fun k_ => ((fun _ => True)) k_ ∧ some k_ ≠ (u3 : Value).ownBlock) (Kd.R_apart' (N.out) (Kd.S_typed HO_3.out) (by decide)) (fun k_ hk => ⟨trivial, hk.2⟩))) (fun _ h_ => h_))); (case aB => exact (q_w1 O.out D.out)); (case aF => exact (fun _ _ => trivial)); (case aO => exact (by (with_reducible repeat (first | apply Kd.S_alloc | apply Kd.S_drewN | apply Kd.S_drew)); exact Kd.S_mono HO_3.out (fun k_ hk => ⟨trivial, fun e_ => hk.2 e_⟩))); (case aS => exact (below_size (q_w1 O.out D.out))); (case aL => have := b9.out; omega); intro f4 w8 ho hb hg hat; rw [← b3.out] at ho; have c3 := a_ (blk_grown (g := a4) (o := .cells #[.string z, .slice F p.length G, .slice I q.length J, .int .i64 B, .slice L y.length M] 26 (0, 0)) (q_k l.out) hg (Kd.S_ne HO_3.out l.out (by decide))); have c4 := a_ (hb); have c6 := a_ (ho); clear l; clear O; clear HO_3; clear N; have l := c3; have O := c4; have b5 := c6; clear c3 c4 c6; clear ho hb hg hat))
 go_roundg k1
 case measure => have := b7.out; omega
 case rel => exact ⟨(a6), (wrap64 (E + 1)), q_r, H', ⟨by have := b7.out; omega⟩, ⟨by (with_reducible repeat (first | apply Kd.S_alloc | apply Kd.S_drewN | apply Kd.S_drew)); exact b5.out⟩, ⟨q_k l.out⟩, ⟨q_w1 O.out D.out⟩⟩}
 {
 obtain rfl := Option.some.inj H; obtain ⟨c8, c9, d0, d1, d2, d3, d4, d5, d6, d7⟩ := q_cf5 l.out; go_wp2
 go_ret
 exact ⟨_, q_e, by (with_reducible repeat (first | apply Kd.S_alloc | apply Kd.S_drewN | apply Kd.S_drew)); exact HO_3.out, q_w1 O.out D.out⟩}))
mutual
def l6_Wide.j0 : Nat → Int → Bool → ByteArray → List (S83) → List (S85) → Int → List (S69) → Option (Bool)
 | 0, _, _, _, _, _, _, _ => none
 | k + 1, z, F, q, l, p, y, b => if F = true then (some true) else (l6_Wide.l0 k z 0 q l p y b)
def l6_Wide.l0 : Nat → Int → Int → ByteArray → List (S83) → List (S85) → Int → List (S69) → Option (Bool)
 | 0, _, _, _, _, _, _, _ => none
 | k + 1, z, C, q, l, p, y, b => if C < (l.length : Int) then (if 0 ≤ C then (if (((rd_T83 l C).f0).size : Int) > 100 then (some true) else (l6_Wide.l0 k z (wrap64 (C + 1)) q l p y b)) else (none)) else (l6_Wide.l1 k z 0 q l p y b)
def l6_Wide.l1 : Nat → Int → Int → ByteArray → List (S83) → List (S85) → Int → List (S69) → Option (Bool)
 | 0, _, _, _, _, _, _, _ => none
 | k + 1, z, D, q, l, p, y, b => if D < (p.length : Int) then (if 0 ≤ D then (if (((rd_T85 p D).f0).size : Int) > 100 then (some true) else (l6_Wide.l1 k z (wrap64 (D + 1)) q l p y b)) else (none)) else (l6_Wide.l2 k z 0 q l p y b)
def l6_Wide.l2 : Nat → Int → Int → ByteArray → List (S83) → List (S85) → Int → List (S69) → Option (Bool)
 | 0, _, _, _, _, _, _, _ => none
 | k + 1, z, B, q, l, p, y, b => if B < (b.length : Int) then (l6_Wide.j4 k z B (decide (z ≤ 400)) q l p y b) else (l6_Wide.j4 k z B false q l p y b)
def l6_Wide.j4 : Nat → Int → Int → Bool → ByteArray → List (S83) → List (S85) → Int → List (S69) → Option (Bool)
 | 0, _, _, _, _, _, _, _, _ => none
 | k + 1, z, B, G, q, l, p, y, b => if G = true then (if 0 ≤ B then (if B < (b.length : Int) then (l6_Wide.l3 k (wrap64 (z + (((rd_T69 b B).f0).length : Int))) B 0 q l p y b) else (none)) else (none)) else (some (decide (z > 400)))
def l6_Wide.l3 : Nat → Int → Int → Int → ByteArray → List (S83) → List (S85) → Int → List (S69) → Option (Bool)
 | 0, _, _, _, _, _, _, _, _ => none
 | k + 1, z, B, E, q, l, p, y, b => if 0 ≤ B then (if B < (b.length : Int) then (if E < (((rd_T69 b B).f0).length : Int) then (if z ≤ 400 then (if 0 ≤ E then (l6_Wide.l3 k (wrap64 (z + (((rd_T71 ((rd_T69 b B).f0) E).f6).length : Int))) B (wrap64 (E + 1)) q l p y b) else (none)) else (l6_Wide.l2 k z (wrap64 (B + 1)) q l p y b)) else (l6_Wide.l2 k z (wrap64 (B + 1)) q l p y b)) else (none)) else (none)
end
def l6_Wide.f (k : Nat) (q : ByteArray) (b : List (S83)) (l : List (S85)) (y : Int) (p : List (S69)) : Option (Bool) := if (wrap64 ((wrap64 ((p.length : Int) + (b.length : Int))) + (l.length : Int))) > 400 then (l6_Wide.j0 k (wrap64 ((wrap64 ((p.length : Int) + (b.length : Int))) + (l.length : Int))) true q b l y p) else (l6_Wide.j0 k (wrap64 ((wrap64 ((p.length : Int) + (b.length : Int))) + (l.length : Int))) (decide ((q.size : Int) > 100)) q b l y p)
theorem l6_Wide.calls (k : Nat) (B : ByteArray) (S : Option Addr) (T : Nat) (p : List (S83)) (U : Option Addr) (V : Nat) (q : List (S85)) (E : Int) (a2 : Option Addr) (X : Nat) (l : List (S69)) (r : Bool) (w : World) (d8 : Kd.C k83 w S p.length p) (d9 : p.length ≤ T) (e0 : Kd.C k85 w U q.length q) (e1 : q.length ≤ V) (e2 : Kd.C k69 w a2 l.length l) (e3 : l.length ≤ X) (h : l6_Wide.f k B p q E l = some r) :
  Calls Tryd.prog 26 #[.agg #[.string B, .slice S p.length T, .slice U q.length V, .int .i64 E, .slice a2 l.length X]] w fun e w' => e = .returned (.bool r) ∧ Below w.heap.size w w' := by
 have E7 := Tryd.underlying26; have e4 := a_ d8; have D6 := a_ d9; clear d8 d9; have e5 := a_ e0; have D7 := a_ e1; clear e0 e1; have a8 := a_ e2; have D8 := a_ e3; clear e2 e3; have F := a_ (Below.refl w.heap.size w); have H : (if (wrap64 ((wrap64 ((l.length : Int) + (p.length : Int))) + (q.length : Int))) > 400 then (l6_Wide.j0 k (wrap64 ((wrap64 ((l.length : Int) + (p.length : Int))) + (q.length : Int))) true B p q E l) else (l6_Wide.j0 k (wrap64 ((wrap64 ((l.length : Int) + (p.length : Int))) + (q.length : Int))) (decide ((B.size : Int) > 100)) B p q E l)) = some r := h
 clear h; have n8 := a_ H; clear H; go_enter Tryd.func26, Tryd.ntmps26
 go_upto_region 2 with (first | ((with_reducible refine gd_ 1 rfl ?_); (try (refine gate_guard (by rfl) ?_; dsimp only)); refine q_box 1 26 #[.string B, .slice S p.length T, .slice U q.length V, .int .i64 E, .slice a2 l.length X] ?_; intro a1 hg w3 n6 hb; have b := a_ (n6); have D9 := a_ ((q_ge F.out hg)); have y := a_ ((q_ge F.out hg)); replace F := a_ (q_st F.out hb); clear hb n6 hg; obtain ⟨l5, l6, l7, l8, l9, n0, n1, n2, n3, n4⟩ := q_cf5 b.out))
 (try simp only [Act.put, List.setIfInBounds_toArray, List.set_cons_zero, List.set_cons_succ])
 go_cut [26] (fun E0 wc => ∃ (kq : Nat) (b7 : Bool), E0 = .bool b7 ∧ Aside0 (l6_Wide.j0 kq (wrap64 ((wrap64 ((l.length : Int) + (p.length : Int))) + (q.length : Int))) b7 B p q E l = some r) ∧ Aside0 (kq ≤ k) ∧ Aside0 (wc.heap[a1]? = some (.cells #[.string B, (.slice S p.length T), (.slice U q.length V), .int .i64 E, (.slice a2 l.length X)] 26 (0, 0))) ∧ Aside0 (Below w.heap.size w wc))
 case first => (
 have H := n8.out; clear n8; rcases q_ite H with ⟨c5b0, H⟩ | ⟨c5b0, H⟩
 {
 (first | rw [c5b0] | (simp only [i64_w, i32_w]; rw [c5b0]) | skip)
 have H' := a_ H
 clear H; go_wp2
 go_meet
 case rel => exact ⟨_, (true), q_r, H', ⟨by first | omega | exact Nat.le_refl _⟩, ⟨q_k b.out⟩, ⟨q_w1 F.out y.out⟩⟩}
 {
 (first | rw [c5b0] | (simp only [i64_w, i32_w]; rw [c5b0]) | skip)
 have H' := a_ H
 clear H; obtain ⟨C0, C1, C2, C3, C4, C5, C6, C7, C8, C9⟩ := q_cf5 b.out; go_wp2
 go_meet
 case rel => exact ⟨_, (decide ((B.size : Int) > 100)), q_r, H', ⟨by first | omega | exact Nat.le_refl _⟩, ⟨q_k b.out⟩, ⟨q_w1 F.out y.out⟩⟩})
 case rest => (
 clear n8 l5 l6 l7 l8 l9 n0 n1 n2 n3 n4; obtain ⟨kq, b7, rfl, HA, a5, b, F⟩ := hcut; cases kq with
 | zero => exact absurd HA.out (by simp [l6_Wide.j0])
 | succ o4 => (
 have H := HA.out; clear HA; simp only [l6_Wide.j0] at H
 by_cases c7 : b7 = true
 {
 subst c7; rw [if_pos rfl] at H; obtain rfl := Option.some.inj H; go_wp2
 go_ret
 exact ⟨q_e, q_w1 F.out y.out⟩}
 {
 replace c7 := Bool.eq_false_iff.mpr c7; subst c7; rw [if_neg Bool.false_ne_true] at H; have H' := a_ H
 clear H; go_wp2
 go_loopg [4] o4 (fun kq v4 w' => ∃ (a3 : Int), v4 = .int .i64 a3 ∧ Aside0 (l6_Wide.l0 kq (wrap64 ((wrap64 ((l.length : Int) + (p.length : Int))) + (q.length : Int))) a3 B p q E l = some r) ∧ Aside0 (kq ≤ o4) ∧ Aside0 (w'.heap[a1]? = some (.cells #[.string B, (.slice S p.length T), (.slice U q.length V), .int .i64 E, (.slice a2 l.length X)] 26 (0, 0))) ∧ Aside0 (Below w.heap.size w w'))
 case atStart => exact ⟨(0), q_r, H', ⟨Nat.le_refl _⟩, ⟨q_k b.out⟩, ⟨q_w1 F.out y.out⟩⟩
 case round => (
 clear H'; obtain ⟨a3, rfl, HA, a6, b, F⟩ := hrel; cases gk with
 | zero => exact absurd HA.out (by simp [l6_Wide.l0])
 | succ k2 => (
 have H := HA.out; clear HA; simp only [l6_Wide.l0] at H
 rcases q_ite H with ⟨c8b0, H⟩ | ⟨c8b0, H⟩
 {
 replace H := q_gD H; obtain ⟨-, c9b0, H⟩ := H; replace H := q_iD H; rcases H with ⟨n9, c10b0, H⟩ | ⟨n9, c10b0, H⟩
 {
 have c10b1 : decide (100 < ((rd_T83 p a3).f0).size) = true := decide_eq_true (by omega)
 clear n9; obtain rfl := Option.some.inj H; obtain ⟨o5, o6, o7, o8, o9, p0, p1, p2, p3, p4⟩ := q_cf5 b.out; obtain ⟨o0, e6, e7, e8, p5, p6⟩ := b_T83 e4.out F.out a3; cases e6; go_wp2
 go_ret
 exact ⟨q_e, q_w1 F.out y.out⟩}
 {
 have c10b1 : decide (100 < ((rd_T83 p a3).f0).size) = false := decide_eq_false (by omega)
 clear n9; have H' := a_ H
 clear H; obtain ⟨p7, p8, p9, q0, q1, q2, q3, q4, q5, q6⟩ := q_cf5 b.out; obtain ⟨o0, e6, e7, e8, p5, p6⟩ := b_T83 e4.out F.out a3; cases e6; go_wp2
 go_roundg k2
 case measure => have := a5.out; have := a6.out; omega
 case rel => exact ⟨(wrap64 (a3 + 1)), q_r, H', ⟨by have := a5.out; have := a6.out; omega⟩, ⟨q_k b.out⟩, ⟨q_w1 F.out y.out⟩⟩}}
 {
 have H' := a_ H
 clear H; obtain ⟨e9, f1, f2, f3, f4, f5, f7, f8, f9, g0⟩ := q_cf5 b.out; go_wp2
 go_loopg [5] k2 (fun kq v5 w' => ∃ (a4 : Int), v5 = .int .i64 a4 ∧ Aside0 (l6_Wide.l1 kq (wrap64 ((wrap64 ((l.length : Int) + (p.length : Int))) + (q.length : Int))) a4 B p q E l = some r) ∧ Aside0 (kq ≤ k2) ∧ Aside0 (w'.heap[a1]? = some (.cells #[.string B, (.slice S p.length T), (.slice U q.length V), .int .i64 E, (.slice a2 l.length X)] 26 (0, 0))) ∧ Aside0 (Below w.heap.size w w'))
 case atStart => exact ⟨(0), q_r, H', ⟨Nat.le_refl _⟩, ⟨q_k b.out⟩, ⟨q_w1 F.out y.out⟩⟩
 case round => (
 clear H'; clear c8b0 e9 f1 f2 f3 f4 f5 f7 f8 f9 g0; obtain ⟨a4, rfl, HA, b2, b, F⟩ := hrel; cases gk with
 | zero => exact absurd HA.out (by simp [l6_Wide.l1])
 | succ k3 => (
 have H := HA.out; clear HA; simp only [l6_Wide.l1] at H
 rcases q_ite H with ⟨c14b0, H⟩ | ⟨c14b0, H⟩
 {
 replace H := q_gD H; obtain ⟨-, c15b0, H⟩ := H; replace H := q_iD H; rcases H with ⟨o1, c16b0, H⟩ | ⟨o1, c16b0, H⟩
 {
 have c16b1 : decide (100 < ((rd_T85 q a4).f0).size) = true := decide_eq_true (by omega)
 clear o1; obtain rfl := Option.some.inj H; obtain ⟨q7, q8, q9, r0, r1, r2, r3, r4, r5, r6⟩ := q_cf5 b.out; obtain ⟨o2, g1, g2, g3, r7, r8⟩ := b_T85 e5.out F.out a4; cases g1; go_wp2
 go_ret
 exact ⟨q_e, q_w1 F.out y.out⟩}
 {
 have c16b1 : decide (100 < ((rd_T85 q a4).f0).size) = false := decide_eq_false (by omega)
 clear o1; have H' := a_ H
 clear H; obtain ⟨r9, s0, s1, s2, s3, s4, s5, s6, s7, s8⟩ := q_cf5 b.out; obtain ⟨o2, g1, g2, g3, r7, r8⟩ := b_T85 e5.out F.out a4; cases g1; go_wp2
 go_roundg k3
 case measure => have := a5.out; have := a6.out; have := b2.out; omega
 case rel => exact ⟨(wrap64 (a4 + 1)), q_r, H', ⟨by have := a5.out; have := a6.out; have := b2.out; omega⟩, ⟨q_k b.out⟩, ⟨q_w1 F.out y.out⟩⟩}}
 {
 have H' := a_ H
 clear H; obtain ⟨g4, g5, g6, g7, g8, g9, i0, i1, i2, i3⟩ := q_cf5 b.out; go_wp2
 go_loopg [3, 6] k3 (fun kq v3 v6 w' => ∃ (b3 : Int) (z : Int), v3 = .int .i64 b3 ∧ v6 = .int .i64 z ∧ Aside0 (l6_Wide.l2 kq b3 z B p q E l = some r) ∧ Aside0 (kq ≤ k3) ∧ Aside0 (w'.heap[a1]? = some (.cells #[.string B, (.slice S p.length T), (.slice U q.length V), .int .i64 E, (.slice a2 l.length X)] 26 (0, 0))) ∧ Aside0 (Below w.heap.size w w'))
 case atStart => exact ⟨((wrap64 ((wrap64 ((l.length : Int) + (p.length : Int))) + (q.length : Int)))), (0), q_r, q_r, H', ⟨Nat.le_refl _⟩, ⟨q_k b.out⟩, ⟨q_w1 F.out y.out⟩⟩
 case round => (
 clear H'; clear c14b0 g4 g5 g6 g7 g8 g9 i0 i1 i2 i3; obtain ⟨b3, z, rfl, rfl, HA, b8, b, F⟩ := hrel; cases gk with
 | zero => exact absurd HA.out (by simp [l6_Wide.l2])
 | succ k4 => (
 have H := HA.out; clear HA; simp only [l6_Wide.l2] at H
 have i4 := a_ H; clear H; go_upto_region 15 with (fail)
 go_cut [65] (fun E4 wc => ∃ (kq : Nat) (a7 : Bool), E4 = .bool a7 ∧ Aside0 (l6_Wide.j4 kq b3 z a7 B p q E l = some r) ∧ Aside0 (kq ≤ k4) ∧ Aside0 (wc.heap[a1]? = some (.cells #[.string B, (.slice S p.length T), (.slice U q.length V), .int .i64 E, (.slice a2 l.length X)] 26 (0, 0))) ∧ Aside0 (Below w.heap.size w wc))
 case first => (
 have H := i4.out; clear i4; rcases q_ite H with ⟨c21b0, H⟩ | ⟨c21b0, H⟩
 {
 (first | rw [c21b0] | (simp only [i64_w, i32_w]; rw [c21b0]) | skip)
 have H' := a_ H
 clear H; obtain ⟨s9, t0, t1, t2, t3, t4, t5, t6, t7, t8⟩ := q_cf5 b.out; go_wp2
 go_meet
 case rel => exact ⟨_, (decide (b3 ≤ 400)), q_r, H', ⟨by have := a5.out; have := a6.out; have := b2.out; have := b8.out; first | omega | exact Nat.le_refl _⟩, ⟨q_k b.out⟩, ⟨q_w1 F.out y.out⟩⟩}
 {
 (first | rw [c21b0] | (simp only [i64_w, i32_w]; rw [c21b0]) | skip)
 have H' := a_ H
 clear H; obtain ⟨t9, v0, v1, v2, v8, v9, w2, w4, w5, w6⟩ := q_cf5 b.out; go_wp2
 go_meet
 case rel => exact ⟨_, (false), q_r, H', ⟨by have := a5.out; have := a6.out; have := b2.out; have := b8.out; first | omega | exact Nat.le_refl _⟩, ⟨q_k b.out⟩, ⟨q_w1 F.out y.out⟩⟩})
 case rest => (
 clear i4; obtain ⟨kq, a7, rfl, HA, b4, b, F⟩ := hcut; cases kq with
 | zero => exact absurd HA.out (by simp [l6_Wide.j4])
 | succ n7 => (
 have H := HA.out; clear HA; simp only [l6_Wide.j4] at H
 by_cases n5 : a7 = true
 {
 subst n5; rw [if_pos rfl] at H; replace H := q_gD H; obtain ⟨-, c25b0, H⟩ := H; replace H := q_gD H; obtain ⟨-, c26b0, H⟩ := H; have H' := a_ H
 clear H; obtain ⟨i5, i6, i7, i8, i9, j3, j5, j6, j7, j8⟩ := q_cf5 b.out; obtain ⟨a9, D0, D1, w7, j9, k0, k1, k5, k7, b9, c0, w8, w9⟩ := b_T69 a8.out F.out z; cases w7; have x0 := a_ c0; have x1 := a_ b9; clear c0 b9; go_wp2
 go_loopg [3, 7] n7 (fun kq v3 v7 w' => ∃ (b5 : Int) (b6 : Int), v3 = .int .i64 b5 ∧ v7 = .int .i64 b6 ∧ Aside0 (l6_Wide.l3 kq b5 z b6 B p q E l = some r) ∧ Aside0 (kq ≤ n7) ∧ Aside0 (w'.heap[a1]? = some (.cells #[.string B, (.slice S p.length T), (.slice U q.length V), .int .i64 E, (.slice (some a9) l.length X)] 26 (0, 0))) ∧ Aside0 (Below w.heap.size w w'))
 case atStart => exact ⟨(wrap64 (b3 + (((rd_T69 l z).f0).length : Int))), (0), q_r, q_r, H', ⟨Nat.le_refl _⟩, ⟨q_k b.out⟩, ⟨q_w1 F.out y.out⟩⟩
 case round => (
 clear H'; clear c25b0 c26b0 i5 i6 i7 i8 i9 j3 j5 j6 j7 j8 j9 k0 k1 k5 k7 w8 w9; obtain ⟨b5, b6, rfl, rfl, HA, d7, b, F⟩ := hrel; cases gk with
 | zero => exact absurd HA.out (by simp [l6_Wide.l3])
 | succ k6 => (
 have H := HA.out; clear HA; simp only [l6_Wide.l3] at H
 replace H := q_gD H; obtain ⟨-, c28b0, H⟩ := H; replace H := q_gD H; obtain ⟨-, c29b0, H⟩ := H; rcases q_ite H with ⟨c30b0, H⟩ | ⟨c30b0, H⟩
 {
 rcases q_ite H with ⟨c31b0, H⟩ | ⟨c31b0, H⟩
 {
 replace H := q_gD H; obtain ⟨-, c32b0, H⟩ := H; have H' := a_ H
 clear H; obtain ⟨x2, x3, x4, x5, x6, x7, x8, x9, y0, y1⟩ := q_cf5 b.out; have O : 0 ≤ (z : Int) := q_d
 have R : z < (l.length : Int) := q_d
 obtain ⟨b0, d5, d6, c1, D, G, I, J, L, M, N⟩ := at_T69 a8.out z O R; obtain rfl : a9 = b0 := (by injection c1)
 replace D := q_kc F.out D; replace G := q_kc F.out G; replace I := q_kc F.out I; replace J := q_kc F.out J; replace L := q_kc F.out L; have c3 := a_ N; have c4 := a_ M; clear N M; replace O := eq_true O; replace R := eq_true R; have k8 : 0 ≤ (z : Int) := q_d
 have k9 : z < (l.length : Int) := q_d
 obtain ⟨o3, D2, D3, y2, b1, c6, c8, c9, d0, d1, d2⟩ := at_T69 a8.out z k8 k9; obtain rfl : a9 = o3 := (by injection y2)
 replace b1 := q_kc F.out b1; replace c6 := q_kc F.out c6; replace c8 := q_kc F.out c8; replace c9 := q_kc F.out c9; replace d0 := q_kc F.out d0; have l4 := a_ d2; have y3 := a_ d1; clear d2 d1; replace k8 := eq_true k8; replace k9 := eq_true k9; have ea_ := Option.some.inj (D.symm.trans b1); injection ea_ with ea_ en_ ec_
 subst ea_; subst ec_; clear en_; obtain ⟨E6, D4, D5, y4, y5, y6, y7, y8, y9, z0, z1, d3, d4, E8, E9⟩ := b_T71 l4.out F.out b6; cases y4; have z2 := a_ d4; have z3 := a_ d3; clear d4 d3; go_wp2
 go_roundg k6
 case measure => have := a5.out; have := a6.out; have := b2.out; have := b8.out; have := b4.out; have := d7.out; omega
 case rel => exact ⟨(wrap64 (b5 + (((rd_T71 ((rd_T69 l z).f0) b6).f6).length : Int))), (wrap64 (b6 + 1)), q_r, q_r, H', ⟨by have := a5.out; have := a6.out; have := b2.out; have := b8.out; have := b4.out; have := d7.out; omega⟩, ⟨q_k b.out⟩, ⟨q_w1 F.out y.out⟩⟩}
 {
 have H' := a_ H
 clear H; obtain ⟨z4, z5, z6, z7, z8, z9, A0, A1, A2, A3⟩ := q_cf5 b.out; have O : 0 ≤ (z : Int) := q_d
 have R : z < (l.length : Int) := q_d
 obtain ⟨b0, d5, d6, c1, D, G, I, J, L, M, N⟩ := at_T69 a8.out z O R; obtain rfl : a9 = b0 := (by injection c1)
 replace D := q_kc F.out D; replace G := q_kc F.out G; replace I := q_kc F.out I; replace J := q_kc F.out J; replace L := q_kc F.out L; have c3 := a_ N; have c4 := a_ M; clear N M; replace O := eq_true O; replace R := eq_true R; go_wp2
 go_roundg k6
 case measure => have := a5.out; have := a6.out; have := b2.out; have := b8.out; have := b4.out; have := d7.out; omega
 case rel => exact ⟨(b5), (wrap64 (z + 1)), q_r, q_r, H', ⟨by have := a5.out; have := a6.out; have := b2.out; have := b8.out; have := b4.out; have := d7.out; omega⟩, ⟨q_k b.out⟩, ⟨q_w1 F.out y.out⟩⟩}}
 {
 have H' := a_ H
 clear H; obtain ⟨A4, A5, A6, A7, A8, A9, B2, B3, B6, B7⟩ := q_cf5 b.out; have O : 0 ≤ (z : Int) := q_d
 have R : z < (l.length : Int) := q_d
 obtain ⟨b0, d5, d6, c1, D, G, I, J, L, M, N⟩ := at_T69 a8.out z O R; obtain rfl : a9 = b0 := (by injection c1)
 replace D := q_kc F.out D; replace G := q_kc F.out G; replace I := q_kc F.out I; replace J := q_kc F.out J; replace L := q_kc F.out L; have c3 := a_ N; have c4 := a_ M; clear N M; replace O := eq_true O; replace R := eq_true R; go_wp2
 go_roundg k6
 case measure => have := a5.out; have := a6.out; have := b2.out; have := b8.out; have := b4.out; have := d7.out; omega
 case rel => exact ⟨(b5), (wrap64 (z + 1)), q_r, q_r, H', ⟨by have := a5.out; have := a6.out; have := b2.out; have := b8.out; have := b4.out; have := d7.out; omega⟩, ⟨q_k b.out⟩, ⟨q_w1 F.out y.out⟩⟩}))}
 {
 replace n5 := Bool.eq_false_iff.mpr n5; subst n5; rw [if_neg Bool.false_ne_true] at H; obtain rfl := Option.some.inj H; go_wp2
 go_ret
 exact ⟨q_e, q_w1 F.out y.out⟩}))))}))}))}))
def l11_sums.f  : Option (ByteArray × (List (S83)) × (List (S85)) × Int × (List (S69))) := some ((⟨#[107]⟩ : ByteArray), (([(⟨(⟨#[97]⟩ : ByteArray), true⟩ : S83)] : List (S83))), ([] : List (S85)), 3, (([(⟨(([(⟨0, 0, 0, 0, 0, 1, ([] : List Int)⟩ : S71), (⟨0, 0, 1, 0, 0, 2, ([] : List Int)⟩ : S71), (⟨3, 0, 2, 0, 1, 0, ([] : List Int)⟩ : S71), (⟨7, 0, 0, 2, 2, 0, ([] : List Int)⟩ : S71)] : List (S71))), 2, 0, 0, 0⟩ : S69)] : List (S69))))
theorem l11_sums.calls  (r1 : ByteArray) (r2 : List (S83)) (r3 : List (S85)) (r4 : Int) (r5 : List (S69)) (w : World) (h : l11_sums.f  = some (r1, r2, r3, r4, r5)) :
  Calls Tryd.prog 28 #[] w fun e w' => ∃ a3 a4 b2 : Value, e = .returned (.agg #[.string r1, a3, a4, .int .i64 r4, b2]) ∧ Kd.R k83 83 w' w.heap.size (fun k_ => (w.heap.size ≤ k_)) a3 r2 ∧ Kd.R k85 85 w' w.heap.size (fun k_ => (w.heap.size ≤ k_)) a4 r3 ∧ Kd.N k69 69 w' w.heap.size (fun k_ => (w.heap.size ≤ k_) ∧ some k_ ≠ (a3 : Value).ownBlock ∧ some k_ ≠ (a4 : Value).ownBlock) b2 r5 ∧ Below w.heap.size w w' := by
 have d6 := Tryd.underlying26; have d7 := Tryd.underlying83; have d8 := Tryd.underlying71; have d9 := Tryd.underlying69; have E := a_ (Below.refl w.heap.size w); have H : (some ((⟨#[107]⟩ : ByteArray), (([(⟨(⟨#[97]⟩ : ByteArray), true⟩ : S83)] : List (S83))), ([] : List (S85)), 3, (([(⟨(([(⟨0, 0, 0, 0, 0, 1, ([] : List Int)⟩ : S71), (⟨0, 0, 1, 0, 0, 2, ([] : List Int)⟩ : S71), (⟨3, 0, 2, 0, 1, 0, ([] : List Int)⟩ : S71), (⟨7, 0, 0, 2, 2, 0, ([] : List Int)⟩ : S71)] : List (S71))), 2, 0, 0, 0⟩ : S69)] : List (S69))))) = some (r1, r2, r3, r4, r5) := h
 clear h; obtain ⟨C, F⟩ : ∃ y_ : List (S83), y_ = (([(⟨(⟨#[97]⟩ : ByteArray), true⟩ : S83)] : List (S83))) := ⟨_, rfl⟩; replace H : (some ((⟨#[107]⟩ : ByteArray), C, ([] : List (S85)), 3, (([(⟨(([(⟨0, 0, 0, 0, 0, 1, ([] : List Int)⟩ : S71), (⟨0, 0, 1, 0, 0, 2, ([] : List Int)⟩ : S71), (⟨3, 0, 2, 0, 1, 0, ([] : List Int)⟩ : S71), (⟨7, 0, 0, 2, 2, 0, ([] : List Int)⟩ : S71)] : List (S71))), 2, 0, 0, 0⟩ : S69)] : List (S69))))) = some (r1, r2, r3, r4, r5) := q_rw F H
 have L := a_ F; clear F; obtain ⟨B, G⟩ : ∃ y_ : List (S71), y_ = (([(⟨0, 0, 0, 0, 0, 1, ([] : List Int)⟩ : S71), (⟨0, 0, 1, 0, 0, 2, ([] : List Int)⟩ : S71), (⟨3, 0, 2, 0, 1, 0, ([] : List Int)⟩ : S71), (⟨7, 0, 0, 2, 2, 0, ([] : List Int)⟩ : S71)] : List (S71))) := ⟨_, rfl⟩; replace H : (some ((⟨#[107]⟩ : ByteArray), C, ([] : List (S85)), 3, (([(⟨B, 2, 0, 0, 0⟩ : S69)] : List (S69))))) = some (r1, r2, r3, r4, r5) := q_rw G H
 have O := a_ G; clear G; obtain ⟨J, I⟩ : ∃ y_ : List (S69), y_ = (([(⟨B, 2, 0, 0, 0⟩ : S69)] : List (S69))) := ⟨_, rfl⟩; replace H : (some ((⟨#[107]⟩ : ByteArray), C, ([] : List (S85)), 3, J)) = some (r1, r2, r3, r4, r5) := q_rw I H
 have S := a_ I; clear I; simp only [Option.some.injEq, Prod.mk.injEq] at H
 obtain ⟨rfl, rfl, rfl, rfl, rfl⟩ := H; go_enter Tryd.func28, Tryd.ntmps28
 go_wp2_with (first | ((with_reducible refine gd_ 0 rfl ?_); refine q_box 0 26 #[.string (⟨#[]⟩ : ByteArray), .slice none 0 0, .slice none 0 0, .int .i64 0, .slice none 0 0] ?_; intro b hg w1 a2 hb; have l := a_ (a2); have d3 := a_ ((q_ge E.out hg)); have q := a_ ((q_ge E.out hg)); replace E := a_ (q_st E.out hb); clear hb a2 hg) | ((with_reducible refine gd_ 2 rfl ?_); refine Kd.R_lit k83 _ 83 ?hg (N := 2) ?hd (xs := ([(⟨(⟨#[97]⟩ : ByteArray), true⟩ : S83)] : List (S83))) (inner := [.string (⟨#[97]⟩ : ByteArray), .bool true]) (ok := fun _ => True) (okp := fun _ => True) ?hr ?hp (fun _ hk => hk) trivial (Below.refl _ _) (Nat.le_refl _) (by simp) ?_; (case hd => rfl); (case hg => rfl); (case hr => first | (go_simp; done) | (go_simp; rfl)); (case hp => exact (Reps.c2 (show Kd.M k83 _ _ _ (⟨(⟨#[97]⟩ : ByteArray), true⟩ : S83) [.string (⟨#[97]⟩ : ByteArray), .bool true] from (k83_mkM _ _ _ (⟨(⟨#[97]⟩ : ByteArray), true⟩ : S83) )) (Reps.none _ _))); intro z w2 T hb hg_ hnew_; clear hg_ hnew_; (first | rw [← L.out] at T | (simp only [Int.reduceToNat] at T; rw [← L.out] at T)); have y := a_ (Kd.R_lower (Kd.R_newM (M := fun k_ => (w.heap.size ≤ k_)) T (below_size (q_w1 E.out q.out)) (fun k_ h_ => h_)) (below_size (q_w1 E.out q.out))); replace l := a_ (q_bk l.out hb); replace E := a_ (q_st1 E.out hb q.out); clear hb T) | ((with_reducible refine gd_ 7 rfl ?_); refine Kd.N_lit k71 _ 71 ?hg (N' := 7) ?hd (xs := ([(⟨0, 0, 0, 0, 0, 1, ([] : List Int)⟩ : S71), (⟨0, 0, 1, 0, 0, 2, ([] : List Int)⟩ : S71), (⟨3, 0, 2, 0, 1, 0, ([] : List Int)⟩ : S71), (⟨7, 0, 0, 2, 2, 0, ([] : List Int)⟩ : S71)] : List (S71))) (inner := [.int .i64 0, .int .i64 0, .int .i64 0, .int .i64 0, .int .i64 0, .int .i32 1, .slice none 0 0, .int .i64 0, .int .i64 0, .int .i64 1, .int .i64 0, .int .i64 0, .int .i32 2, .slice none 0 0, .int .i64 3, .int .i64 0, .int .i64 2, .int .i64 0, .int .i64 1, .int .i32 0, .slice none 0 0, .int .i64 7, .int .i64 0, .int .i64 0, .int .i64 2, .int .i64 2, .int .i32 0, .slice none 0 0]) (ok := (fun k_ => (w.heap.size ≤ k_) ∧ some k_ ≠ (z : Value).ownBlock ∧ k_ ≠ b)) (okp := (fun k_ => (w.heap.size ≤ k_) ∧ some k_ ≠ (z : Value).ownBlock ∧ k_ ≠ b)) ?hr ?hp (fun _ hk => hk) ((show ∀ k_, w2.heap.size ≤ k_ → (fun k_ => (w.heap.size ≤ k_) ∧ some k_ ≠ (z : Value).ownBlock ∧ k_ ≠ b) k_ from fun k_ hk => ⟨(Nat.le_trans (below_size (q_w1 E.out q.out)) hk), Kd.fresh' (Kd.R_lt (by (with_reducible repeat (first | apply Kd.R_alloc | apply Kd.R_drewN | apply Kd.R_drew)); exact y.out)) k_ hk, Kd.freshB (g := b) (o := .cells #[.string (⟨#[]⟩ : ByteArray), .slice none 0 0, .slice none 0 0, .int .i64 0, .slice none 0 0] 26 (0, 0)) (q_k l.out) k_ hk⟩) _ (Nat.le_refl _)) (Below.refl _ _) (Nat.le_refl _) (by simp) ?_; (case hd => rfl); (case hg => rfl); (case hr => first | (go_simp; done) | (go_simp; rfl)); (case hp => exact (Reps.c7 (show Kd.FK k71 _ _ (⟨0, 0, 0, 0, 0, 1, ([] : List Int)⟩ : S71) [.int .i64 0, .int .i64 0, .int .i64 0, .int .i64 0, .int .i64 0, .int .i32 1, .slice none 0 0] from (k71_mkF _ _ (⟨0, 0, 0, 0, 0, 1, ([] : List Int)⟩ : S71) (Nat.le_refl _) (Kd.F_nil _ _ _))) (Reps.c7 (show Kd.FK k71 _ _ (⟨0, 0, 1, 0, 0, 2, ([] : List Int)⟩ : S71) [.int .i64 0, .int .i64 0, .int .i64 1, .int .i64 0, .int .i64 0, .int .i32 2, .slice none 0 0] from (k71_mkF _ _ (⟨0, 0, 1, 0, 0, 2, ([] : List Int)⟩ : S71) (Nat.le_refl _) (Kd.F_nil _ _ _))) (Reps.c7 (show Kd.FK k71 _ _ (⟨3, 0, 2, 0, 1, 0, ([] : List Int)⟩ : S71) [.int .i64 3, .int .i64 0, .int .i64 2, .int .i64 0, .int .i64 1, .int .i32 0, .slice none 0 0] from (k71_mkF _ _ (⟨3, 0, 2, 0, 1, 0, ([] : List Int)⟩ : S71) (Nat.le_refl _) (Kd.F_nil _ _ _))) (Reps.c7 (show Kd.FK k71 _ _ (⟨7, 0, 0, 2, 2, 0, ([] : List Int)⟩ : S71) [.int .i64 7, .int .i64 0, .int .i64 0, .int .i64 2, .int .i64 2, .int .i32 0, .slice none 0 0] from (k71_mkF _ _ (⟨7, 0, 0, 2, 2, 0, ([] : List Int)⟩ : S71) (Nat.le_refl _) (Kd.F_nil _ _ _))) (Reps.none _ _)))))); intro e0 w4 U hb hg_ hnew_; clear hg_ hnew_; (first | rw [← O.out] at U | (simp only [Int.reduceToNat] at U; rw [← O.out] at U)); have D := a_ (Kd.N_lower U (below_size (q_w1 E.out q.out))); replace y := a_ (Kd.R_below (by (with_reducible repeat (first | apply Kd.R_alloc | apply Kd.R_drewN | apply Kd.R_drew)); exact y.out) hb); replace l := a_ (q_bk l.out hb); replace E := a_ (q_st1 E.out hb q.out); clear hb U; obtain ⟨b3, b4, d4⟩ := Kd.N_slice D.out; subst d4) | ((with_reducible refine gd_ 9 rfl ?_); refine Kd.N_lit k69 _ 69 ?hg (N' := 9) ?hd (xs := ([(⟨B, 2, 0, 0, 0⟩ : S69)] : List (S69))) (inner := [.slice b3 B.length b4, .int .i64 2, .int .i64 0, .int .i64 0, .int .i64 0]) (ok := (fun k_ => (w.heap.size ≤ k_) ∧ some k_ ≠ (z : Value).ownBlock ∧ k_ ≠ b)) (okp := (fun k_ => (w.heap.size ≤ k_) ∧ some k_ ≠ (z : Value).ownBlock ∧ k_ ≠ b)) ?hr ?hp (fun _ hk => hk) ((show ∀ k_, w4.heap.size ≤ k_ → (fun k_ => (w.heap.size ≤ k_) ∧ some k_ ≠ (z : Value).ownBlock ∧ k_ ≠ b) k_ from fun k_ hk => ⟨(Nat.le_trans (below_size (q_w1 E.out q.out)) hk), Kd.fresh' (Kd.R_lt (by (with_reducible repeat (first | apply Kd.R_alloc | apply Kd.R_drewN | apply Kd.R_drew)); exact y.out)) k_ hk, Kd.freshB (g := b) (o := .cells #[.string (⟨#[]⟩ : ByteArray), .slice none 0 0, .slice none 0 0, .int .i64 0, .slice none 0 0] 26 (0, 0)) (q_k l.out) k_ hk⟩) _ (Nat.le_refl _)) (Below.refl _ _) (Nat.le_refl _) (by simp) ?_; (case hd => rfl); (case hg => rfl); (case hr => first | (go_simp; done) | (go_simp; rfl)); (case hp => exact (Reps.c5 (show Kd.FK k69 _ _ (⟨B, 2, 0, 0, 0⟩ : S69) [.slice b3 B.length b4, .int .i64 2, .int .i64 0, .int .i64 0, .int .i64 0] from (k69_mkF _ _ (⟨B, 2, 0, 0, 0⟩ : S69) (Kd.N_reads' (Kd.N_mono (ok' := (fun k_ => (w.heap.size ≤ k_) ∧ some k_ ≠ (z : Value).ownBlock ∧ k_ ≠ b)) (D.out) (fun k_ hk => ⟨hk.1, ⟨hk.2.1, hk.2.2⟩⟩))).2.1 (Kd.N_F (Kd.N_mono (ok' := (fun k_ => (w.heap.size ≤ k_) ∧ some k_ ≠ (z : Value).ownBlock ∧ k_ ≠ b)) (D.out) (fun k_ hk => ⟨hk.1, ⟨hk.2.1, hk.2.2⟩⟩))))) (Reps.none _ _))); intro e1 w7 V hb hg_ hnew_; clear hg_ hnew_; (first | rw [← S.out] at V | (simp only [Int.reduceToNat] at V; rw [← S.out] at V)); have b5 := a_ (Kd.R_below (by (with_reducible repeat (first | apply Kd.R_alloc | apply Kd.R_drewN | apply Kd.R_drew)); exact y.out) hb); have b6 := a_ (Kd.N_lower V (below_size (q_w1 E.out q.out))); have b7 := a_ (q_bk l.out hb); have b8 := a_ (q_st1 E.out hb q.out); clear y; clear l; clear E; clear D; have y := b5; have X := b6; have l := b7; have E := b8; clear b5 b6 b7 b8; clear hb V; obtain ⟨a5, a6, d5⟩ := Kd.N_slice X.out; subst d5; obtain ⟨a0, a1, b9⟩ := Kd.R_slice y.out; subst b9; obtain ⟨c0, c1, c3, c4, c6, c8, c9, d0, d1, d2⟩ := q_cf5 l.out))
 refine bodyPost_ret (results_cell_row rfl _ _ b 26 #[.string (⟨#[107]⟩ : ByteArray), .slice a0 C.length a1, .slice none 0 0, .int .i64 3, .slice a5 J.length a6] (0, 0) _ rfl (q_p l.out) Tryd.underlying26 rfl (by kernel_rfl)) rfl ?_
 exact ⟨_, _, _, q_e, by (with_reducible repeat (first | apply Kd.R_alloc | apply Kd.R_drewN | apply Kd.R_drew)); exact Kd.R_mono (Kd.R_far (p := ⟨b, 4, none⟩) (Kd.R_far (p := ⟨b, 3, none⟩) (Kd.R_far (p := ⟨b, 2, none⟩) (Kd.R_far (p := ⟨b, 1, none⟩) (Kd.R_far (p := ⟨b, 0, none⟩) (Kd.R_types y.out l.out (by decide)) (fun _ hk => hk.2) (.string (⟨#[107]⟩ : ByteArray))) (fun _ hk => hk.2) (.slice a0 C.length a1)) (fun _ hk => hk.2) (.slice none 0 0)) (fun _ hk => hk.2) (.int .i64 3)) (fun _ hk => hk.2) (.slice a5 J.length a6)) (fun _ hk => hk.1.1), by first | exact Kd.R_nil _ _ _ _ _ | exact Kd.N_nil _ _ _ _ _ | exact Kd.V_nil _ _ _ _ _ | exact Kd.Q_nil _ _ _ _ _ | exact Kd.S_nil _ _ _ _ _, by (with_reducible repeat (first | apply Kd.N_alloc | apply Kd.N_drewN | apply Kd.N_drew)); exact Kd.N_mono (Kd.N_far (p := ⟨b, 4, none⟩) (Kd.N_far (p := ⟨b, 3, none⟩) (Kd.N_far (p := ⟨b, 2, none⟩) (Kd.N_far (p := ⟨b, 1, none⟩) (Kd.N_far (p := ⟨b, 0, none⟩) (Kd.N_mono X.out (fun k_ hk => (⟨hk, hk.2.2⟩ : _ ∧ k_ ≠ b))) (fun _ hk => hk.2) (.string (⟨#[107]⟩ : ByteArray))) (fun _ hk => hk.2) (.slice a0 C.length a1)) (fun _ hk => hk.2) (.slice none 0 0)) (fun _ hk => hk.2) (.int .i64 3)) (fun _ hk => hk.2) (.slice a5 J.length a6)) (fun _ hk => ⟨hk.1.1, ⟨hk.1.2.1, (by simp [Value.ownBlock])⟩⟩), q_w1 E.out q.out⟩
mutual
def r6_Phis.l0 : Nat → Int → Int → ByteArray → List (S83) → List (S85) → Int → List (S69) → Option (Int)
 | 0, _, _, _, _, _, _, _ => none
 | k + 1, B, z, l, p, q, y, b => if z < (b.length : Int) then (r6_Phis.l1 k B z 0 l p q y b) else (some B)
def r6_Phis.l1 : Nat → Int → Int → Int → ByteArray → List (S83) → List (S85) → Int → List (S69) → Option (Int)
 | 0, _, _, _, _, _, _, _, _ => none
 | k + 1, B, z, C, l, p, q, y, b => if 0 ≤ z then (if z < (b.length : Int) then (if C < (((rd_T69 b z).f0).length : Int) then (if 0 ≤ C then (if ((rd_T71 ((rd_T69 b z).f0) C).f0) = 11 then (r6_Phis.l1 k (wrap64 (B + 1)) z (wrap64 (C + 1)) l p q y b) else (r6_Phis.l1 k B z (wrap64 (C + 1)) l p q y b)) else (none)) else (r6_Phis.l0 k B (wrap64 (z + 1)) l p q y b)) else (none)) else (none)
end
def r6_Phis.f (k : Nat) (b : ByteArray) (l : List (S83)) (p : List (S85)) (q : Int) (y : List (S69)) : Option (Int) := r6_Phis.l0 k 0 0 b l p q y
theorem r6_Phis.calls (k : Nat) (T : ByteArray) (a5 : Option Addr) (a6 : Nat) (B : List (S83)) (a7 : Option Addr) (a8 : Nat) (D : List (S85)) (U : Int) (a9 : Option Addr) (b0 : Nat) (z : List (S69)) (r : Int) (w : World) (c6 : Kd.C k83 w a5 B.length B) (c8 : B.length ≤ a6) (d0 : Kd.C k85 w a7 D.length D) (d1 : D.length ≤ a8) (d2 : Kd.C k69 w a9 z.length z) (d3 : z.length ≤ b0) (h : r6_Phis.f k T B D U z = some r) :
  Calls Tryd.prog 32 #[.agg #[.string T, .slice a5 B.length a6, .slice a7 D.length a8, .int .i64 U, .slice a9 z.length b0]] w fun e w' => e = .returned (.int .i64 r) ∧ Below w.heap.size w w' := by
 have o6 := Tryd.underlying26; have n8 := a_ c6; have n9 := a_ c8; clear c6 c8; have o0 := a_ d0; have o1 := a_ d1; clear d0 d1; have V := a_ d2; have o2 := a_ d3; clear d2 d3; have R := a_ (Below.refl w.heap.size w); have H : (r6_Phis.l0 k 0 0 T B D U z) = some r := h
 clear h; have H' := a_ H
 clear H; go_enter Tryd.func32, Tryd.ntmps32
 go_wp2_with (first | ((with_reducible refine gd_ 1 rfl ?_); refine q_box 1 26 #[.string T, .slice a5 B.length a6, .slice a7 D.length a8, .int .i64 U, .slice a9 z.length b0] ?_; intro d5 hg w2 g2 hb; have p := a_ (g2); have o3 := a_ ((q_ge R.out hg)); have S := a_ ((q_ge R.out hg)); replace R := a_ (q_st R.out hb); clear hb g2 hg))
 go_loopg [3, 4] k (fun kq v3 v4 w' => ∃ (b9 : Int) (y : Int), v3 = .int .i64 b9 ∧ v4 = .int .i64 y ∧ Aside0 (r6_Phis.l0 kq b9 y T B D U z = some r) ∧ Aside0 (kq ≤ k) ∧ Aside0 (w'.heap[d5]? = some (.cells #[.string T, (.slice a5 B.length a6), (.slice a7 D.length a8), .int .i64 U, (.slice a9 z.length b0)] 26 (0, 0))) ∧ Aside0 (Below w.heap.size w w'))
 case atStart => exact ⟨(0), (0), q_r, q_r, H', ⟨Nat.le_refl _⟩, ⟨q_k p.out⟩, ⟨q_w1 R.out S.out⟩⟩
 case round => (
 clear H'; obtain ⟨b9, y, rfl, rfl, HA, c3, p, R⟩ := hrel; cases gk with
 | zero => exact absurd HA.out (by simp [r6_Phis.l0])
 | succ k1 => (
 have H := HA.out; clear HA; simp only [r6_Phis.l0] at H
 rcases q_ite H with ⟨c3b0, H⟩ | ⟨c3b0, H⟩
 {
 have H' := a_ H
 clear H; obtain ⟨e8, e9, f0, f1, f2, f3, f4, f5, f6, f7⟩ := q_cf5 p.out; go_wp2
 go_loopg [3, 5] k1 (fun kq v3 v5 w' => ∃ (a3 : Int) (X : Int), v3 = .int .i64 a3 ∧ v5 = .int .i64 X ∧ Aside0 (r6_Phis.l1 kq a3 y X T B D U z = some r) ∧ Aside0 (kq ≤ k1) ∧ Aside0 (w'.heap[d5]? = some (.cells #[.string T, (.slice a5 B.length a6), (.slice a7 D.length a8), .int .i64 U, (.slice a9 z.length b0)] 26 (0, 0))) ∧ Aside0 (Below w.heap.size w w'))
 case atStart => exact ⟨(b9), (0), q_r, q_r, H', ⟨Nat.le_refl _⟩, ⟨q_k p.out⟩, ⟨q_w1 R.out S.out⟩⟩
 case round => (
 clear H'; clear c3b0 e8 e9 f0 f1 f2 f3 f4 f5 f6 f7; obtain ⟨a3, X, rfl, rfl, HA, c4, p, R⟩ := hrel; cases gk with
 | zero => exact absurd HA.out (by simp [r6_Phis.l1])
 | succ k2 => (
 have H := HA.out; clear HA; simp only [r6_Phis.l1] at H
 replace H := q_gD H; obtain ⟨-, c5b0, H⟩ := H; replace H := q_gD H; obtain ⟨-, c6b0, H⟩ := H; rcases q_ite H with ⟨c7b0, H⟩ | ⟨c7b0, H⟩
 {
 replace H := q_gD H; obtain ⟨-, c8b0, H⟩ := H; replace H := q_iBN H; rcases H with ⟨-, c9b0, c9b1, H⟩ | ⟨c9, c9b0, c9b1, H⟩
 {
 have H' := a_ H
 clear H; obtain ⟨g6, g7, g8, g9, i0, i1, i2, i3, i4, i5⟩ := q_cf5 p.out; obtain ⟨a4, c0, c1, b1, O, b2, b3, b4, b5, b, l, g3, g4⟩ := b_T69 V.out R.out y; cases b1; have b6 := a_ l; have b7 := a_ b; clear l b; have a0 : 0 ≤ (y : Int) := q_d
 have a1 : y < (z.length : Int) := q_d
 obtain ⟨b8, f8, f9, d6, q, E, F, G, I, J, L⟩ := at_T69 V.out y a0 a1; obtain rfl : a4 = b8 := (by injection d6)
 replace q := q_kc R.out q; replace E := q_kc R.out E; replace F := q_kc R.out F; replace G := q_kc R.out G; replace I := q_kc R.out I; have a2 := a_ L; have d7 := a_ J; clear L J; replace a0 := eq_true a0; replace a1 := eq_true a1; have ea_ := Option.some.inj (O.symm.trans q); injection ea_ with ea_ en_ ec_
 subst ea_; subst ec_; clear en_; obtain ⟨g5, g0, g1, d8, d9, e0, e1, e2, e3, e4, e5, M, N, i6, i7⟩ := b_T71 a2.out R.out X; cases d8; have e6 := a_ N; have e7 := a_ M; clear N M; go_wp2
 go_roundg k2
 case measure => have := c3.out; have := c4.out; omega
 case rel => exact ⟨(wrap64 (a3 + 1)), (wrap64 (X + 1)), q_r, q_r, H', ⟨by have := c3.out; have := c4.out; omega⟩, ⟨q_k p.out⟩, ⟨q_w1 R.out S.out⟩⟩}
 {
 have H' := a_ H
 clear H; obtain ⟨i8, i9, j3, j5, j6, j7, j8, j9, k0, k3⟩ := q_cf5 p.out; obtain ⟨a4, c0, c1, b1, O, b2, b3, b4, b5, b, l, g3, g4⟩ := b_T69 V.out R.out y; cases b1; have b6 := a_ l; have b7 := a_ b; clear l b; have a0 : 0 ≤ (y : Int) := q_d
 have a1 : y < (z.length : Int) := q_d
 obtain ⟨b8, f8, f9, d6, q, E, F, G, I, J, L⟩ := at_T69 V.out y a0 a1; obtain rfl : a4 = b8 := (by injection d6)
 replace q := q_kc R.out q; replace E := q_kc R.out E; replace F := q_kc R.out F; replace G := q_kc R.out G; replace I := q_kc R.out I; have a2 := a_ L; have d7 := a_ J; clear L J; replace a0 := eq_true a0; replace a1 := eq_true a1; have ea_ := Option.some.inj (O.symm.trans q); injection ea_ with ea_ en_ ec_
 subst ea_; subst ec_; clear en_; obtain ⟨g5, g0, g1, d8, d9, e0, e1, e2, e3, e4, e5, M, N, i6, i7⟩ := b_T71 a2.out R.out X; cases d8; have e6 := a_ N; have e7 := a_ M; clear N M; go_wp2
 go_roundg k2
 case measure => have := c3.out; have := c4.out; omega
 case rel => exact ⟨(a3), (wrap64 (X + 1)), q_r, q_r, H', ⟨by have := c3.out; have := c4.out; omega⟩, ⟨q_k p.out⟩, ⟨q_w1 R.out S.out⟩⟩}}
 {
 have H' := a_ H
 clear H; obtain ⟨k4, k5, k6, k7, k8, k9, l4, l5, l6, l7⟩ := q_cf5 p.out; obtain ⟨a4, c0, c1, b1, O, b2, b3, b4, b5, b, l, g3, g4⟩ := b_T69 V.out R.out y; cases b1; have b6 := a_ l; have b7 := a_ b; clear l b; go_wp2
 go_roundg k2
 case measure => have := c3.out; have := c4.out; omega
 case rel => exact ⟨(a3), (wrap64 (y + 1)), q_r, q_r, H', ⟨by have := c3.out; have := c4.out; omega⟩, ⟨q_k p.out⟩, ⟨q_w1 R.out S.out⟩⟩}))}
 {
 obtain rfl := Option.some.inj H; obtain ⟨l8, l9, n0, n1, n2, n3, n4, n5, n6, n7⟩ := q_cf5 p.out; go_wp2
 go_ret
 exact ⟨q_e, q_w1 R.out S.out⟩}))
def alloc_index.f (b : Int) (l : Int) : Option (Int) := if b < 0 then (some (wrap64 ((wrap64 (l - 1)) - b))) else (some b)
theorem alloc_index.calls (b : Int) (l : Int) (r : Int) (w : World) (h : alloc_index.f b l = some r) :
  Calls Tryd.prog 35 #[.int .i64 b, .int .i64 l] w fun e w' => e = .returned (.int .i64 r) ∧ Drawn0 w w' := by
 have H : (if b < 0 then (some (wrap64 ((wrap64 (l - 1)) - b))) else (some b)) = some r := h
 clear h; rcases q_ite H with ⟨c3b0, H⟩ | ⟨c3b0, H⟩
 {
 obtain rfl := Option.some.inj H; go_enter Tryd.func35, Tryd.ntmps35
 go_wp2
 go_ret
 exact ⟨by first | rfl | (simp; done) | (simp [*]; done), by repeat (first | exact Drawn0.refl _ | apply Drawn0.step)⟩}
 {
 obtain rfl := Option.some.inj H; go_enter Tryd.func35, Tryd.ntmps35
 go_wp2
 go_ret
 exact ⟨by first | rfl | (simp; done) | (simp [*]; done), by repeat (first | exact Drawn0.refl _ | apply Drawn0.step)⟩}
def r11_At.f (k : Nat) (p : ByteArray) (q : List (S83)) (y : List (S85)) (z : Int) (b : List (S69)) (l1 : List (List Bool)) (l : Int) (E : Int) (D : Int) : Option (Bool) := if 0 ≤ l then (if l < (b.length : Int) then (if 0 ≤ D then (if D < (l1.length : Int) then ((r11_out.f k p q y z b (rd_L10 l1 D) l).bind fun B => ((r11_before.f k ((rd_T69 b l).f0) ((rd_T69 b l).f1) ((rd_T69 b l).f2) ((rd_T69 b l).f3) ((rd_T69 b l).f4) E D B).bind fun C => (some C))) else (none)) else (none)) else (none)) else (none)
def r11_At.T1 : Bool × List (List Nat × List Nat) := (true, [([], []), ([0], [0]), ([], []), ([1, 2], [1, 2]), ([3], [3]), ([], []), ([], []), ([], []), ([], []), ([], []), ([8, 9], [8, 9]), ([10], [10]), ([], []), ([7, 11, 12], [7, 11, 12]), ([4, 5, 6, 13, 13], [4, 5, 6, 13]), ([14, 14, 0, 1, 2, 3, 4, 5, 6, 7, 8, 9, 10, 11, 12, 13, 14], [14])])
def r11_At.B1 : List Nat := [0, 1, 0, 7, 15, 0, 0, 0, 0, 0, 768, 1792, 0, 8064, 16383, 32767]
theorem r11_At.tab1 : rtab .any (opsOf Tryd.f58 1) = r11_At.T1 := by kernel_rfl
theorem r11_At.bits1 : waitsOk r11_At.T1.2 r11_At.B1 = true := by kernel_rfl
theorem r11_At.calls (k : Nat) (M : ByteArray) (a0 : Option Addr) (a1 : Nat) (y : List (S83)) (a5 : Option Addr) (a6 : Nat) (z : List (S85)) (N : Int) (c8 : Option Addr) (a7 : Nat) (b : List (S69)) (A1 : Option Addr) (c1 : Nat) (l1 : List (List Bool)) (B : Int) (a3 : Int) (a4 : Int) (r : Bool) (w : World) (c9 : Kd.C k83 w a0 y.length y) (d0 : y.length ≤ a1) (d1 : Kd.C k85 w a5 z.length z) (d2 : z.length ≤ a6) (d3 : Kd.C k69 w c8 b.length b) (d4 : b.length ≤ a7) (g0 : Kd.C (Kd.slice 4 Kd.bool) w A1 l1.length l1) (g1 : l1.length ≤ c1) (h : r11_At.f k M y z N b l1 B a3 a4 = some r) :
  Calls Tryd.prog 58 #[.agg #[.string M, .slice a0 y.length a1, .slice a5 z.length a6, .int .i64 N, .slice c8 b.length a7], .slice A1 l1.length c1, .int .i64 B, .int .i64 a3, .int .i64 a4] w fun e w' => e = .returned (.bool r) ∧ Below w.heap.size w w' := by
 have i1 := Tryd.underlying26; have i2 := Tryd.underlying69; have e7 := a_ c9; have e8 := a_ d0; clear c9 d0; have e9 := a_ d1; have f5 := a_ d2; clear d1 d2; have d5 := a_ d3; have f6 := a_ d4; clear d3 d4; have g4 := a_ g0; have i3 := a_ g1; clear g0 g1; have p := a_ (Below.refl w.heap.size w); have H : (if 0 ≤ B then (if B < (b.length : Int) then (if 0 ≤ a4 then (if a4 < (l1.length : Int) then ((r11_out.f k M y z N b (rd_L10 l1 a4) B).bind fun a8 => ((r11_before.f k ((rd_T69 b B).f0) ((rd_T69 b B).f1) ((rd_T69 b B).f2) ((rd_T69 b B).f3) ((rd_T69 b B).f4) a3 a4 a8).bind fun d6 => (some d6))) else (none)) else (none)) else (none)) else (none)) = some r := h
 clear h; replace H := q_gD H; obtain ⟨-, c6b0, H⟩ := H; replace H := q_gD H; obtain ⟨-, c7b0, H⟩ := H; replace H := q_gD H; obtain ⟨-, c8b0, H⟩ := H; replace H := q_gD H; obtain ⟨-, c9b0, H⟩ := H; replace H := Option.bind_eq_some_iff.mp H; obtain ⟨a8, e4, H⟩ := H; have g5 := a_ e4; clear e4; replace H := Option.bind_eq_some_iff.mp H; obtain ⟨d6, e5, H⟩ := H; have g6 := a_ e5; clear e5; obtain rfl := Option.some.inj H; go_enter Tryd.func58, Tryd.ntmps58
 try go_wp2_with (first | ((with_reducible refine gd_ 5 rfl ?_); refine q_box 5 26 #[.string M, .slice a0 y.length a1, .slice a5 z.length a6, .int .i64 N, .slice c8 b.length a7] ?_; intro f7 hg g7 e6 hb; have l := a_ (e6); have g8 := a_ ((q_ge p.out hg)); have b8 := a_ ((q_ge p.out hg)); replace p := a_ (q_st p.out hb); clear hb e6 hg))
 have a9 := a_ (blk_drew l.out); have b0 := a_ (below_drew1 p.out); clear l p; have l := a9; have p := b0; clear a9 b0; have d7 : 0 ≤ (B : Int) := q_d
 have d8 : B < (b.length : Int) := q_d
 obtain ⟨b9, c0, c3, g2, E, F, G, I, J, b1, b2⟩ := at_T69 d5.out B d7 d8; have O := J; have R := I; have T := G; have U := F; have V := E; cases g2; replace E := q_kc p.out E; replace F := q_kc p.out F; replace G := q_kc p.out G; replace I := q_kc p.out I; replace J := q_kc p.out J; have b3 := a_ b2; have d9 := a_ b1; clear b2 b1; replace d7 := eq_true d7; replace d8 := eq_true d8; have e0 : 0 ≤ (a4 : Int) := q_d
 have e1 : a4 < (l1.length : Int) := q_d
 obtain ⟨f8, c4, c6, g3, L, b4, b5⟩ := at_L10 g4.out a4 e0 e1; have X := L; cases g3; replace L := q_kc p.out L; have b6 := a_ b5; have e2 := a_ b4; clear b5 b4; replace e0 := eq_true e0; replace e1 := eq_true e1; refine q_s 16 (S := fun w' => cg5 w' f7 (.string M) (.slice a0 y.length a1) (.slice a5 z.length a6) (.int .i64 N) (.slice (some b9) b.length a7) (cp5 w' (b9.add ((B).toNat * 5)) (.slice c0 ((rd_T69 b B).f0).length c3) (.int .i64 ((rd_T69 b B).f1)) (.int .i64 ((rd_T69 b B).f2)) (.int .i64 ((rd_T69 b B).f3)) (.int .i64 ((rd_T69 b B).f4)) (w'.cell? (f8.add (a4).toNat) = some (.slice c4 (rd_L10 l1 a4).length c6)))) (q_g5 l.out ⟨(q_kc p.out V), (q_kc p.out U), (q_kc p.out T), (q_kc p.out R), (q_kc p.out O), (q_kc p.out X)⟩) (fun D => ?_); refine with_tabW r11_At.tab1 r11_At.bits1 (fun q e3 => ?_)
 generalize g7.drew = i4 at l p b3 b6 E F G I J L D ⊢
 refine qv_ 0 q ?_
 refine qv_ 2 q ?_
 refine qv_ 5 q ?_
 refine qv_ 6 q ?_
 refine qv_ 8 q ?_
 refine qv_ 9 q ?_
 refine qv_ 10 q ?_
 refine qv_ 12 q ?_
 refine qt11_ 1 q e3 D ?_
 refine qv_ 3 q ?_
 refine qt11_ 4 q e3 D ?_
 refine qt11_ 7 q e3 D ?_
 refine qt11_ 11 q e3 D ?_
 refine q_o 13 q (fun K hK => ?_)
 refine q_go #[.agg #[.string M, .slice a0 y.length a1, .slice a5 z.length a6, .int .i64 N, .slice (some b9) b.length a7], .slice c4 (rd_L10 l1 a4).length c6, .int .i64 B] Tryd.func41 rfl ?_
 with_reducible refine (r11_out.calls k M _ _ y _ _ z N _ _ b _ _ (rd_L10 l1 a4) B a8 _ (q_C (Kd.C_below e7.out p.out)) e8.out (q_C (Kd.C_below e9.out p.out)) f5.out (q_C (Kd.C_below d5.out p.out)) f6.out (q_C (Kd.C_below b6.out p.out)) e2.out g5.out).mono ?_
 rintro e i5 ⟨rfl, hb⟩
 refine ⟨_, rfl, ?_⟩
 have a9 := a_ (q_bk l.out hb); have b0 := a_ (q_st1 p.out hb b8.out); clear l p; have l := a9; have p := b0; clear a9 b0; (clear hb)
 refine hK.out _ _ (q_g5 l.out ⟨(q_kc p.out V), (q_kc p.out U), (q_kc p.out T), (q_kc p.out R), (q_kc p.out O), (q_kc p.out X)⟩) (fun D => ?_)
 clear hK K; refine norm_ (a' := ?_) ?_ ?_
 rotate_left
 ·show Act.put _ (some 24) _ = _
  simp only [Act.put, List.setIfInBounds_toArray, List.set_cons_zero, List.set_cons_succ, i64_w, i32_w]
  rfl
 refine q_o 14 q (fun K hK => ?_)
 refine q_go #[.agg #[.slice c0 ((rd_T69 b B).f0).length c3, .int .i64 ((rd_T69 b B).f1), .int .i64 ((rd_T69 b B).f2), .int .i64 ((rd_T69 b B).f3), .int .i64 ((rd_T69 b B).f4)], .int .i64 a3, .int .i64 a4, .bool a8] Tryd.func71 rfl ?_
 with_reducible refine (r11_before.calls k _ _ ((rd_T69 b B).f0) ((rd_T69 b B).f1) ((rd_T69 b B).f2) ((rd_T69 b B).f3) ((rd_T69 b B).f4) a3 a4 a8 d6 _ (q_C (Kd.C_below b3.out p.out)) d9.out g6.out).mono ?_
 rintro e i6 ⟨rfl, hb⟩
 refine ⟨_, rfl, ?_⟩
 have a9 := a_ (q_bk l.out hb); have b0 := a_ (q_st1 p.out hb b8.out); clear l p; have l := a9; have p := b0; clear a9 b0; (clear hb)
 refine hK.out _ _ (q_g5 l.out ⟨(q_kc p.out V), (q_kc p.out U), (q_kc p.out T), (q_kc p.out R), (q_kc p.out O), (q_kc p.out X)⟩) (fun D => ?_)
 clear hK K; refine norm_ (a' := ?_) ?_ ?_
 rotate_left
 ·show Act.put _ (some 25) _ = _
  simp only [Act.put, List.setIfInBounds_toArray, List.set_cons_zero, List.set_cons_succ, i64_w, i32_w]
  rfl
 refine qv_ 15 q ?_
 refine done_ (done_of q.out (by kernel_rfl)) ?_
 try go_wp2
 go_ret
 exact ⟨q_e, q_w1 p.out b8.out⟩
mutual
def r11_clash.j0 : Nat → List (List Bool) → Int → Int → Bool → ByteArray → List (S83) → List (S85) → Int → List (S69) → Option (Bool)
 | 0, _, _, _, _, _, _, _, _, _ => none
 | k + 1, D, E, F, O, l, p, q, y, b => if O = true then (some true) else (r11_clash.l0 k D E F 0 l p q y b)
def r11_clash.l0 : Nat → List (List Bool) → Int → Int → Int → ByteArray → List (S83) → List (S85) → Int → List (S69) → Option (Bool)
 | 0, _, _, _, _, _, _, _, _, _ => none
 | k + 1, D, E, F, C, l, p, q, y, b => if C < (b.length : Int) then (if 0 ≤ C then (r11_clash.l1 k D E F C ((rd_T69 b C).f0) 0 l p q y b) else (none)) else (some false)
def r11_clash.l1 : Nat → List (List Bool) → Int → Int → Int → List (S71) → Int → ByteArray → List (S83) → List (S85) → Int → List (S69) → Option (Bool)
 | 0, _, _, _, _, _, _, _, _, _, _, _ => none
 | k + 1, D, E, F, C, B, z, l, p, q, y, b => if z < (B.length : Int) then (if 0 ≤ z then ((r11_Sets.f k ((rd_T71 B z).f0) ((rd_T71 B z).f1) ((rd_T71 B z).f2) ((rd_T71 B z).f3) ((rd_T71 B z).f4) ((rd_T71 B z).f5) ((rd_T71 B z).f6) E).bind fun G => (if G = true then ((r11_At.f k l p q y b D C (wrap64 (z + 1)) F).bind fun I => (if I = true then (some true) else ((r11_Sets.f k ((rd_T71 B z).f0) ((rd_T71 B z).f1) ((rd_T71 B z).f2) ((rd_T71 B z).f3) ((rd_T71 B z).f4) ((rd_T71 B z).f5) ((rd_T71 B z).f6) F).bind fun J => (if J = true then ((r11_At.f k l p q y b D C (wrap64 (z + 1)) E).bind fun L => (if L = true then (some true) else (r11_clash.l1 k D E F C B (wrap64 (z + 1)) l p q y b))) else (r11_clash.l1 k D E F C B (wrap64 (z + 1)) l p q y b))))) else ((r11_Sets.f k ((rd_T71 B z).f0) ((rd_T71 B z).f1) ((rd_T71 B z).f2) ((rd_T71 B z).f3) ((rd_T71 B z).f4) ((rd_T71 B z).f5) ((rd_T71 B z).f6) F).bind fun M => (if M = true then ((r11_At.f k l p q y b D C (wrap64 (z + 1)) E).bind fun N => (if N = true then (some true) else (r11_clash.l1 k D E F C B (wrap64 (z + 1)) l p q y b))) else (r11_clash.l1 k D E F C B (wrap64 (z + 1)) l p q y b))))) else (none)) else (r11_clash.l0 k D E F (wrap64 (C + 1)) l p q y b)
end
def r11_clash.f (k : Nat) (b : ByteArray) (l : List (S83)) (p : List (S85)) (q : Int) (y : List (S69)) (l1 : List (List Bool)) (z : Int) (B : Int) : Option (Bool) := if 0 ≤ z then (if z < (l1.length : Int) then (if 0 < ((rd_L10 l1 z).length : Int) then (if rdOf false (rd_L10 l1 z) 0 = true then (if 0 ≤ B then (if B < (l1.length : Int) then (if 0 < ((rd_L10 l1 B).length : Int) then (r11_clash.j0 k l1 z B (rdOf false (rd_L10 l1 B) 0) b l p q y) else (none)) else (none)) else (none)) else (r11_clash.j0 k l1 z B false b l p q y)) else (none)) else (none)) else (none)
theorem r11_clash.calls (k : Nat) (O : ByteArray) (g5 : Option Addr) (g6 : Nat) (I : List (S83)) (g7 : Option Addr) (g8 : Nat) (J : List (S85)) (R : Int) (i4 : Option Addr) (g9 : Nat) (l : List (S69)) (A1 : Option Addr) (c1 : Nat) (l1 : List (List Bool)) (a2 : Int) (a3 : Int) (r : Bool) (w : World) (k7 : Kd.C k83 w g5 I.length I) (k8 : I.length ≤ g6) (k9 : Kd.C k85 w g7 J.length J) (l4 : J.length ≤ g8) (l5 : Kd.C k69 w i4 l.length l) (l6 : l.length ≤ g9) (r8 : Kd.C (Kd.slice 4 Kd.bool) w A1 l1.length l1) (r9 : l1.length ≤ c1) (h : r11_clash.f k O I J R l l1 a2 a3 = some r) :
  Calls Tryd.prog 42 #[.agg #[.string O, .slice g5 I.length g6, .slice g7 J.length g8, .int .i64 R, .slice i4 l.length g9], .slice A1 l1.length c1, .int .i64 a2, .int .i64 a3] w fun e w' => e = .returned (.bool r) ∧ Below w.heap.size w w' := by
 have G1 := Tryd.underlying26; have G2 := Tryd.underlying71; have d1 := a_ k7; have d2 := a_ k8; clear k7 k8; have d3 := a_ k9; have d4 := a_ l4; clear k9 l4; have d0 := a_ l5; have d5 := a_ l6; clear l5 l6; have e9 := a_ r8; have i5 := a_ r9; clear r8 r9; have y := a_ (Below.refl w.heap.size w); have H : (if 0 ≤ a2 then (if a2 < (l1.length : Int) then (if 0 < ((rd_L10 l1 a2).length : Int) then (if rdOf false (rd_L10 l1 a2) 0 = true then (if 0 ≤ a3 then (if a3 < (l1.length : Int) then (if 0 < ((rd_L10 l1 a3).length : Int) then (r11_clash.j0 k l1 a2 a3 (rdOf false (rd_L10 l1 a3) 0) O I J R l) else (none)) else (none)) else (none)) else (r11_clash.j0 k l1 a2 a3 false O I J R l)) else (none)) else (none)) else (none)) = some r := h
 clear h; have r1 := a_ H; clear H; go_enter Tryd.func42, Tryd.ntmps42
 go_upto_region 1 with (first | ((with_reducible refine gd_ 4 rfl ?_); refine q_box 4 26 #[.string O, .slice g5 I.length g6, .slice g7 J.length g8, .int .i64 R, .slice i4 l.length g9] ?_; intro j7 hg w6 q3 hb; have q := a_ (q3); have F3 := a_ ((q_ge y.out hg)); have z := a_ ((q_ge y.out hg)); replace y := a_ (q_st y.out hb); clear hb q3 hg))
 (try simp only [Act.put, List.setIfInBounds_toArray, List.set_cons_zero, List.set_cons_succ])
 go_cut [25] (fun F4 wc => ∃ (kq : Nat) (i2 : Bool), F4 = .bool i2 ∧ Aside0 (r11_clash.j0 kq l1 a2 a3 i2 O I J R l = some r) ∧ Aside0 (kq ≤ k) ∧ Aside0 (wc.heap[j7]? = some (.cells #[.string O, (.slice g5 I.length g6), (.slice g7 J.length g8), .int .i64 R, (.slice i4 l.length g9)] 26 (0, 0))) ∧ Aside0 (Below w.heap.size w wc))
 case first => (
 have H := r1.out; clear r1; replace H := q_gD H; obtain ⟨-, c7b0, H⟩ := H; (first | rw [c7b0] | (simp only [i64_w, i32_w]; rw [c7b0]) | skip)
 replace H := q_gD H; obtain ⟨-, c8b0, H⟩ := H; replace H := q_gD H; obtain ⟨c9, c9b0, H⟩ := H; have c9b1 : decide (0 < (rd_L10 l1 a2).length) = true := decide_eq_true (by omega)
 clear c9; obtain ⟨q4, j8⟩ : ∃ b_ : Bool, b_ = (rdOf false (rd_L10 l1 a2) 0) := ⟨_, rfl⟩; replace H : (if q4 = true then (if 0 ≤ a3 then (if a3 < (l1.length : Int) then (if 0 < ((rd_L10 l1 a3).length : Int) then (r11_clash.j0 k l1 a2 a3 (rdOf false (rd_L10 l1 a3) 0) O I J R l) else (none)) else (none)) else (none)) else (r11_clash.j0 k l1 a2 a3 false O I J R l)) = some r := by rw [← j8] at H; exact H
 have j9 := a_ j8; clear j8; by_cases p2 : q4 = true
 {
 subst p2; rw [if_pos rfl] at H; replace H := q_gD H; obtain ⟨-, c12b0, H⟩ := H; replace H := q_gD H; obtain ⟨-, c13b0, H⟩ := H; replace H := q_gD H; obtain ⟨F5, c14b0, H⟩ := H; have c14b1 : decide (0 < (rd_L10 l1 a3).length) = true := decide_eq_true (by omega)
 clear F5; have H' := a_ H
 clear H; obtain ⟨l7, p3, p4, l8, l9, d6, d7, s0, s1⟩ := b_L10 e9.out y.out a2; cases l8; have f7 := a_ d7; have n0 := a_ d6; clear d7 d6; have f8 : 0 ≤ (0 : Int) := (by omega)
 have f9 : 0 < ((rd_L10 l1 a2).length : Int) := q_d
 obtain ⟨r2, n1, L⟩ := Kd.at_bool f7.out 0 f8 f9; (try rw [← j9.out] at L)
 cases n1; have r3 : (0 < (rd_L10 l1 a2).length) = True := eq_true (by omega)
 (try rw [show ((0 : Int)).toNat = 0 from rfl] at L)
 (try rw [Addr.add_zero'] at L)
 replace L := q_kc y.out L; replace f8 := eq_true f8; replace f9 := eq_true f9; have n2 : 0 ≤ (a3 : Int) := q_d
 have n3 : a3 < (l1.length : Int) := q_d
 obtain ⟨r4, E9, F0, s2, i6, i7, i8⟩ := at_L10 e9.out a3 n2 n3; obtain rfl : l7 = r4 := (by injection s2)
 replace i6 := q_kc y.out i6; have n4 := a_ i8; have s3 := a_ i7; clear i8 i7; replace n2 := eq_true n2; replace n3 := eq_true n3; have n5 : 0 ≤ (0 : Int) := (by omega)
 have n6 : 0 < ((rd_L10 l1 a3).length : Int) := q_d
 obtain ⟨F6, s4, d8⟩ := Kd.at_bool n4.out 0 n5 n6; (try rw [← j9.out] at d8)
 cases s4; have F7 : (0 < (rd_L10 l1 a3).length) = True := eq_true (by omega)
 (try rw [show ((0 : Int)).toNat = 0 from rfl] at d8)
 (try rw [Addr.add_zero'] at d8)
 replace d8 := q_kc y.out d8; replace n5 := eq_true n5; replace n6 := eq_true n6; go_wp2
 go_meet
 case rel => exact ⟨_, (rdOf false (rd_L10 l1 a3) 0), q_r, H', ⟨by first | omega | exact Nat.le_refl _⟩, ⟨q_k q.out⟩, ⟨q_w1 y.out z.out⟩⟩}
 {
 replace p2 := Bool.eq_false_iff.mpr p2; subst p2; rw [if_neg Bool.false_ne_true] at H; have H' := a_ H
 clear H; obtain ⟨l7, p3, p4, l8, l9, d6, d7, s0, s1⟩ := b_L10 e9.out y.out a2; cases l8; have f7 := a_ d7; have n0 := a_ d6; clear d7 d6; have f8 : 0 ≤ (0 : Int) := (by omega)
 have f9 : 0 < ((rd_L10 l1 a2).length : Int) := q_d
 obtain ⟨r2, n1, L⟩ := Kd.at_bool f7.out 0 f8 f9; (try rw [← j9.out] at L)
 cases n1; have r3 : (0 < (rd_L10 l1 a2).length) = True := eq_true (by omega)
 (try rw [show ((0 : Int)).toNat = 0 from rfl] at L)
 (try rw [Addr.add_zero'] at L)
 replace L := q_kc y.out L; replace f8 := eq_true f8; replace f9 := eq_true f9; go_wp2
 go_meet
 case rel => exact ⟨_, (false), q_r, H', ⟨by first | omega | exact Nat.le_refl _⟩, ⟨q_k q.out⟩, ⟨q_w1 y.out z.out⟩⟩})
 case rest => (
 clear r1; obtain ⟨kq, i2, rfl, HA, g2, q, y⟩ := hcut; cases kq with
 | zero => exact absurd HA.out (by simp [r11_clash.j0])
 | succ s5 => (
 have H := HA.out; clear HA; simp only [r11_clash.j0] at H
 by_cases p5 : i2 = true
 {
 subst p5; rw [if_pos rfl] at H; obtain rfl := Option.some.inj H; go_wp2
 go_ret
 exact ⟨q_e, q_w1 y.out z.out⟩}
 {
 replace p5 := Bool.eq_false_iff.mpr p5; subst p5; rw [if_neg Bool.false_ne_true] at H; have H' := a_ H
 clear H; go_wp2
 go_loopg [9] s5 (fun kq v9 w' => ∃ (p : Int), v9 = .int .i64 p ∧ Aside0 (r11_clash.l0 kq l1 a2 a3 p O I J R l = some r) ∧ Aside0 (kq ≤ s5) ∧ Aside0 (w'.heap[j7]? = some (.cells #[.string O, (.slice g5 I.length g6), (.slice g7 J.length g8), .int .i64 R, (.slice i4 l.length g9)] 26 (0, 0))) ∧ Aside0 (Below w.heap.size w w'))
 case atStart => exact ⟨(0), q_r, H', ⟨Nat.le_refl _⟩, ⟨q_k q.out⟩, ⟨q_w1 y.out z.out⟩⟩
 case round => (
 clear H'; obtain ⟨p, rfl, HA, g3, q, y⟩ := hrel; cases gk with
 | zero => exact absurd HA.out (by simp [r11_clash.l0])
 | succ k2 => (
 have H := HA.out; clear HA; simp only [r11_clash.l0] at H
 rcases q_ite H with ⟨c16b0, H⟩ | ⟨c16b0, H⟩
 {
 replace H := q_gD H; obtain ⟨-, c17b0, H⟩ := H; have H' := a_ H
 clear H; obtain ⟨n7, n8, n9, o0, o1, o2, o3, o4, o5, o6⟩ := q_cf5 q.out; obtain ⟨r5, F1, F2, s6, o7, o8, o9, p0, p1, i9, j3, s7, s8⟩ := b_T69 d0.out y.out p; cases s6; have E := a_ j3; have s9 := a_ i9; clear j3 i9; go_wp2
 go_loopg [11] k2 (fun kq F8 w' => ∃ (b : Int), F8 = .int .i64 b ∧ Aside0 (r11_clash.l1 kq l1 a2 a3 p ((rd_T69 l p).f0) b O I J R l = some r) ∧ Aside0 (kq ≤ k2) ∧ Aside0 (w'.heap[j7]? = some (.cells #[.string O, (.slice g5 I.length g6), (.slice g7 J.length g8), .int .i64 R, (.slice (some r5) l.length g9)] 26 (0, 0))) ∧ Aside0 (Below w.heap.size w w'))
 case atStart => exact ⟨(0), q_r, H', ⟨Nat.le_refl _⟩, ⟨q_k q.out⟩, ⟨q_w1 y.out z.out⟩⟩
 case round => (
 clear H'; clear c16b0 c17b0 n7 n8 n9 o0 o1 o2 o3 o4 o5 o6 o7 o8 o9 p0 p1 s7 s8; obtain ⟨b, rfl, HA, g4, q, y⟩ := hrel; cases gk with
 | zero => exact absurd HA.out (by simp [r11_clash.l1])
 | succ k3 => (
 have H := HA.out; clear HA; simp only [r11_clash.l1] at H
 rcases q_ite H with ⟨c19b0, H⟩ | ⟨c19b0, H⟩
 {
 replace H := q_gD H; obtain ⟨-, c20b0, H⟩ := H; replace H := Option.bind_eq_some_iff.mp H; obtain ⟨t0, q5, H⟩ := H; have k0 := a_ q5; clear q5; by_cases p6 : t0 = true
 {
 subst p6; rw [if_pos rfl] at H; replace H := Option.bind_eq_some_iff.mp H; obtain ⟨t1, q6, H⟩ := H; have p7 := a_ q6; clear q6; by_cases p8 : t1 = true
 {
 subst p8; rw [if_pos rfl] at H; obtain rfl := Option.some.inj H; obtain ⟨b5, M, N, b6, b7, b8, b9, c0, c3, c4, c6, B, D, i0, i1⟩ := b_T71 E.out y.out b; cases b6; have F := a_ D; have G := a_ B; clear D B; go_wp2_with (first | ((with_reducible refine gc_ 57 rfl ?_); refine q_gl 50 #[.agg #[.int .i64 ((rd_T71 ((rd_T69 l p).f0) b).f0), .int .i64 ((rd_T71 ((rd_T69 l p).f0) b).f1), .int .i64 ((rd_T71 ((rd_T69 l p).f0) b).f2), .int .i64 ((rd_T71 ((rd_T69 l p).f0) b).f3), .int .i64 ((rd_T71 ((rd_T69 l p).f0) b).f4), .int .i32 ((rd_T71 ((rd_T69 l p).f0) b).f5), .slice M ((rd_T71 ((rd_T69 l p).f0) b).f6).length N], .int .i64 a2] Tryd.func57 rfl ?_; (with_reducible refine (r11_Sets.calls k3 ((rd_T71 ((rd_T69 l p).f0) b).f0) ((rd_T71 ((rd_T69 l p).f0) b).f1) ((rd_T71 ((rd_T69 l p).f0) b).f2) ((rd_T71 ((rd_T69 l p).f0) b).f3) ((rd_T71 ((rd_T69 l p).f0) b).f4) ((rd_T71 ((rd_T69 l p).f0) b).f5) _ _ ((rd_T71 ((rd_T69 l p).f0) b).f6) a2 true _ (q_C (Kd.C_below F.out y.out)) G.out k0.out).mono ?_); rintro e G6 ⟨rfl, hb⟩; refine ⟨_, rfl, ?_⟩; replace q := a_ (q_bk q.out hb); replace y := a_ (q_st1 y.out hb z.out); (clear hb); obtain ⟨t2, t3, t4, t5, t6, t7, t8, t9, v0, v1⟩ := q_cf5 q.out) | (go_at_call 58; (with_reducible refine (r11_At.calls k3 O _ _ I _ _ J R _ _ l _ _ l1 p (wrap64 (b + 1)) a3 true _ (q_C (Kd.C_below d1.out y.out)) d2.out (q_C (Kd.C_below d3.out y.out)) d4.out (q_C (Kd.C_below d0.out y.out)) d5.out (q_C (Kd.C_below e9.out y.out)) i5.out p7.out).mono ?_); rintro e G7 ⟨rfl, hb⟩; replace q := a_ (q_bk q.out hb); replace y := a_ (q_st1 y.out hb z.out); (clear hb)))
 go_ret
 exact ⟨q_e, q_w1 y.out z.out⟩}
 {
 replace p8 := Bool.eq_false_iff.mpr p8; subst p8; rw [if_neg Bool.false_ne_true] at H; replace H := Option.bind_eq_some_iff.mp H; obtain ⟨v2, q7, H⟩ := H; have r6 := a_ q7; clear q7; by_cases p9 : v2 = true
 {
 subst p9; rw [if_pos rfl] at H; replace H := Option.bind_eq_some_iff.mp H; obtain ⟨v3, q8, H⟩ := H; have v4 := a_ q8; clear q8; by_cases q0 : v3 = true
 {
 subst q0; rw [if_pos rfl] at H; obtain rfl := Option.some.inj H; obtain ⟨b5, M, N, b6, b7, b8, b9, c0, c3, c4, c6, B, D, i0, i1⟩ := b_T71 E.out y.out b; cases b6; have F := a_ D; have G := a_ B; clear D B; go_wp2_with (first | ((with_reducible refine gc_ 57 rfl ?_); refine q_gl 50 #[.agg #[.int .i64 ((rd_T71 ((rd_T69 l p).f0) b).f0), .int .i64 ((rd_T71 ((rd_T69 l p).f0) b).f1), .int .i64 ((rd_T71 ((rd_T69 l p).f0) b).f2), .int .i64 ((rd_T71 ((rd_T69 l p).f0) b).f3), .int .i64 ((rd_T71 ((rd_T69 l p).f0) b).f4), .int .i32 ((rd_T71 ((rd_T69 l p).f0) b).f5), .slice M ((rd_T71 ((rd_T69 l p).f0) b).f6).length N], .int .i64 a2] Tryd.func57 rfl ?_; (with_reducible refine (r11_Sets.calls k3 ((rd_T71 ((rd_T69 l p).f0) b).f0) ((rd_T71 ((rd_T69 l p).f0) b).f1) ((rd_T71 ((rd_T69 l p).f0) b).f2) ((rd_T71 ((rd_T69 l p).f0) b).f3) ((rd_T71 ((rd_T69 l p).f0) b).f4) ((rd_T71 ((rd_T69 l p).f0) b).f5) _ _ ((rd_T71 ((rd_T69 l p).f0) b).f6) a2 true _ (q_C (Kd.C_below F.out y.out)) G.out k0.out).mono ?_); rintro e G8 ⟨rfl, hb⟩; refine ⟨_, rfl, ?_⟩; replace q := a_ (q_bk q.out hb); replace y := a_ (q_st1 y.out hb z.out); (clear hb); obtain ⟨v5, v6, v7, v8, w2, w3, w4, w5, w7, w8⟩ := q_cf5 q.out) | (go_at_call 58; (with_reducible refine (r11_At.calls k3 O _ _ I _ _ J R _ _ l _ _ l1 p (wrap64 (b + 1)) a3 false _ (q_C (Kd.C_below d1.out y.out)) d2.out (q_C (Kd.C_below d3.out y.out)) d4.out (q_C (Kd.C_below d0.out y.out)) d5.out (q_C (Kd.C_below e9.out y.out)) i5.out p7.out).mono ?_); rintro e G9 ⟨rfl, hb⟩; replace q := a_ (q_bk q.out hb); replace y := a_ (q_st1 y.out hb z.out); (clear hb); have d9 : 0 ≤ (b : Int) := q_d; have e0 : b < (((rd_T69 l p).f0).length : Int) := q_d; obtain ⟨g0, k1, k4, j5, S, T, U, V, X, a0, a1, a4, a5⟩ := at_T71 E.out b d9 e0; obtain rfl : b5 = g0 := (by injection j5); replace S := q_kc y.out S; replace T := q_kc y.out T; replace U := q_kc y.out U; replace V := q_kc y.out V; replace X := q_kc y.out X; replace a0 := q_kc y.out a0; replace a1 := q_kc y.out a1; have e1 := a_ a5; have e2 := a_ a4; clear a5 a4; replace d9 := eq_true d9; replace e0 := eq_true e0) | (go_at_call 57; (with_reducible refine (r11_Sets.calls k3 ((rd_T71 ((rd_T69 l p).f0) b).f0) ((rd_T71 ((rd_T69 l p).f0) b).f1) ((rd_T71 ((rd_T69 l p).f0) b).f2) ((rd_T71 ((rd_T69 l p).f0) b).f3) ((rd_T71 ((rd_T69 l p).f0) b).f4) ((rd_T71 ((rd_T69 l p).f0) b).f5) _ _ ((rd_T71 ((rd_T69 l p).f0) b).f6) a3 true _ (q_C (Kd.C_below e1.out y.out)) e2.out r6.out).mono ?_); rintro e H0 ⟨rfl, hb⟩; replace q := a_ (q_bk q.out hb); replace y := a_ (q_st1 y.out hb z.out); (clear hb); obtain ⟨w9, x0, x1, x2, x3, x4, x5, x6, x7, x8⟩ := q_cf5 q.out) | (go_at_call 58; (with_reducible refine (r11_At.calls k3 O _ _ I _ _ J R _ _ l _ _ l1 p (wrap64 (b + 1)) a2 true _ (q_C (Kd.C_below d1.out y.out)) d2.out (q_C (Kd.C_below d3.out y.out)) d4.out (q_C (Kd.C_below d0.out y.out)) d5.out (q_C (Kd.C_below e9.out y.out)) i5.out v4.out).mono ?_); rintro e H1 ⟨rfl, hb⟩; replace q := a_ (q_bk q.out hb); replace y := a_ (q_st1 y.out hb z.out); (clear hb)))
 go_ret
 exact ⟨q_e, q_w1 y.out z.out⟩}
 {
 replace q0 := Bool.eq_false_iff.mpr q0; subst q0; rw [if_neg Bool.false_ne_true] at H; have H' := a_ H
 clear H; obtain ⟨b5, M, N, b6, b7, b8, b9, c0, c3, c4, c6, B, D, i0, i1⟩ := b_T71 E.out y.out b; cases b6; have F := a_ D; have G := a_ B; clear D B; go_wp2_with (first | ((with_reducible refine gc_ 57 rfl ?_); refine q_gl 50 #[.agg #[.int .i64 ((rd_T71 ((rd_T69 l p).f0) b).f0), .int .i64 ((rd_T71 ((rd_T69 l p).f0) b).f1), .int .i64 ((rd_T71 ((rd_T69 l p).f0) b).f2), .int .i64 ((rd_T71 ((rd_T69 l p).f0) b).f3), .int .i64 ((rd_T71 ((rd_T69 l p).f0) b).f4), .int .i32 ((rd_T71 ((rd_T69 l p).f0) b).f5), .slice M ((rd_T71 ((rd_T69 l p).f0) b).f6).length N], .int .i64 a2] Tryd.func57 rfl ?_; (with_reducible refine (r11_Sets.calls k3 ((rd_T71 ((rd_T69 l p).f0) b).f0) ((rd_T71 ((rd_T69 l p).f0) b).f1) ((rd_T71 ((rd_T69 l p).f0) b).f2) ((rd_T71 ((rd_T69 l p).f0) b).f3) ((rd_T71 ((rd_T69 l p).f0) b).f4) ((rd_T71 ((rd_T69 l p).f0) b).f5) _ _ ((rd_T71 ((rd_T69 l p).f0) b).f6) a2 true _ (q_C (Kd.C_below F.out y.out)) G.out k0.out).mono ?_); rintro e H2 ⟨rfl, hb⟩; refine ⟨_, rfl, ?_⟩; replace q := a_ (q_bk q.out hb); replace y := a_ (q_st1 y.out hb z.out); (clear hb); obtain ⟨x9, y0, y1, y2, y3, y4, y5, y6, y7, y8⟩ := q_cf5 q.out) | (go_at_call 58; (with_reducible refine (r11_At.calls k3 O _ _ I _ _ J R _ _ l _ _ l1 p (wrap64 (b + 1)) a3 false _ (q_C (Kd.C_below d1.out y.out)) d2.out (q_C (Kd.C_below d3.out y.out)) d4.out (q_C (Kd.C_below d0.out y.out)) d5.out (q_C (Kd.C_below e9.out y.out)) i5.out p7.out).mono ?_); rintro e H3 ⟨rfl, hb⟩; replace q := a_ (q_bk q.out hb); replace y := a_ (q_st1 y.out hb z.out); (clear hb); have d9 : 0 ≤ (b : Int) := q_d; have e0 : b < (((rd_T69 l p).f0).length : Int) := q_d; obtain ⟨g0, k1, k4, j5, S, T, U, V, X, a0, a1, a4, a5⟩ := at_T71 E.out b d9 e0; obtain rfl : b5 = g0 := (by injection j5); replace S := q_kc y.out S; replace T := q_kc y.out T; replace U := q_kc y.out U; replace V := q_kc y.out V; replace X := q_kc y.out X; replace a0 := q_kc y.out a0; replace a1 := q_kc y.out a1; have e1 := a_ a5; have e2 := a_ a4; clear a5 a4; replace d9 := eq_true d9; replace e0 := eq_true e0) | (go_at_call 57; (with_reducible refine (r11_Sets.calls k3 ((rd_T71 ((rd_T69 l p).f0) b).f0) ((rd_T71 ((rd_T69 l p).f0) b).f1) ((rd_T71 ((rd_T69 l p).f0) b).f2) ((rd_T71 ((rd_T69 l p).f0) b).f3) ((rd_T71 ((rd_T69 l p).f0) b).f4) ((rd_T71 ((rd_T69 l p).f0) b).f5) _ _ ((rd_T71 ((rd_T69 l p).f0) b).f6) a3 true _ (q_C (Kd.C_below e1.out y.out)) e2.out r6.out).mono ?_); rintro e H4 ⟨rfl, hb⟩; replace q := a_ (q_bk q.out hb); replace y := a_ (q_st1 y.out hb z.out); (clear hb); obtain ⟨y9, z0, z1, z2, z3, z4, z5, z6, z7, z8⟩ := q_cf5 q.out) | (go_at_call 58; (with_reducible refine (r11_At.calls k3 O _ _ I _ _ J R _ _ l _ _ l1 p (wrap64 (b + 1)) a2 false _ (q_C (Kd.C_below d1.out y.out)) d2.out (q_C (Kd.C_below d3.out y.out)) d4.out (q_C (Kd.C_below d0.out y.out)) d5.out (q_C (Kd.C_below e9.out y.out)) i5.out v4.out).mono ?_); rintro e H5 ⟨rfl, hb⟩; replace q := a_ (q_bk q.out hb); replace y := a_ (q_st1 y.out hb z.out); (clear hb)))
 go_roundg k3
 case measure => have := g2.out; have := g3.out; have := g4.out; omega
 case rel => exact ⟨(wrap64 (b + 1)), q_r, H', ⟨by have := g2.out; have := g3.out; have := g4.out; omega⟩, ⟨q_k q.out⟩, ⟨q_w1 y.out z.out⟩⟩}}
 {
 replace p9 := Bool.eq_false_iff.mpr p9; subst p9; rw [if_neg Bool.false_ne_true] at H; have H' := a_ H
 clear H; obtain ⟨b5, M, N, b6, b7, b8, b9, c0, c3, c4, c6, B, D, i0, i1⟩ := b_T71 E.out y.out b; cases b6; have F := a_ D; have G := a_ B; clear D B; go_wp2_with (first | ((with_reducible refine gc_ 57 rfl ?_); refine q_gl 50 #[.agg #[.int .i64 ((rd_T71 ((rd_T69 l p).f0) b).f0), .int .i64 ((rd_T71 ((rd_T69 l p).f0) b).f1), .int .i64 ((rd_T71 ((rd_T69 l p).f0) b).f2), .int .i64 ((rd_T71 ((rd_T69 l p).f0) b).f3), .int .i64 ((rd_T71 ((rd_T69 l p).f0) b).f4), .int .i32 ((rd_T71 ((rd_T69 l p).f0) b).f5), .slice M ((rd_T71 ((rd_T69 l p).f0) b).f6).length N], .int .i64 a2] Tryd.func57 rfl ?_; (with_reducible refine (r11_Sets.calls k3 ((rd_T71 ((rd_T69 l p).f0) b).f0) ((rd_T71 ((rd_T69 l p).f0) b).f1) ((rd_T71 ((rd_T69 l p).f0) b).f2) ((rd_T71 ((rd_T69 l p).f0) b).f3) ((rd_T71 ((rd_T69 l p).f0) b).f4) ((rd_T71 ((rd_T69 l p).f0) b).f5) _ _ ((rd_T71 ((rd_T69 l p).f0) b).f6) a2 true _ (q_C (Kd.C_below F.out y.out)) G.out k0.out).mono ?_); rintro e H6 ⟨rfl, hb⟩; refine ⟨_, rfl, ?_⟩; replace q := a_ (q_bk q.out hb); replace y := a_ (q_st1 y.out hb z.out); (clear hb); obtain ⟨z9, A0, A2, A3, A4, A5, A6, A7, A8, A9⟩ := q_cf5 q.out) | (go_at_call 58; (with_reducible refine (r11_At.calls k3 O _ _ I _ _ J R _ _ l _ _ l1 p (wrap64 (b + 1)) a3 false _ (q_C (Kd.C_below d1.out y.out)) d2.out (q_C (Kd.C_below d3.out y.out)) d4.out (q_C (Kd.C_below d0.out y.out)) d5.out (q_C (Kd.C_below e9.out y.out)) i5.out p7.out).mono ?_); rintro e H7 ⟨rfl, hb⟩; replace q := a_ (q_bk q.out hb); replace y := a_ (q_st1 y.out hb z.out); (clear hb); have d9 : 0 ≤ (b : Int) := q_d; have e0 : b < (((rd_T69 l p).f0).length : Int) := q_d; obtain ⟨g0, k1, k4, j5, S, T, U, V, X, a0, a1, a4, a5⟩ := at_T71 E.out b d9 e0; obtain rfl : b5 = g0 := (by injection j5); replace S := q_kc y.out S; replace T := q_kc y.out T; replace U := q_kc y.out U; replace V := q_kc y.out V; replace X := q_kc y.out X; replace a0 := q_kc y.out a0; replace a1 := q_kc y.out a1; have e1 := a_ a5; have e2 := a_ a4; clear a5 a4; replace d9 := eq_true d9; replace e0 := eq_true e0) | (go_at_call 57; (with_reducible refine (r11_Sets.calls k3 ((rd_T71 ((rd_T69 l p).f0) b).f0) ((rd_T71 ((rd_T69 l p).f0) b).f1) ((rd_T71 ((rd_T69 l p).f0) b).f2) ((rd_T71 ((rd_T69 l p).f0) b).f3) ((rd_T71 ((rd_T69 l p).f0) b).f4) ((rd_T71 ((rd_T69 l p).f0) b).f5) _ _ ((rd_T71 ((rd_T69 l p).f0) b).f6) a3 false _ (q_C (Kd.C_below e1.out y.out)) e2.out r6.out).mono ?_); rintro e H8 ⟨rfl, hb⟩; replace q := a_ (q_bk q.out hb); replace y := a_ (q_st1 y.out hb z.out); (clear hb)))
 go_roundg k3
 case measure => have := g2.out; have := g3.out; have := g4.out; omega
 case rel => exact ⟨(wrap64 (b + 1)), q_r, H', ⟨by have := g2.out; have := g3.out; have := g4.out; omega⟩, ⟨q_k q.out⟩, ⟨q_w1 y.out z.out⟩⟩}}}
 {
 replace p6 := Bool.eq_false_iff.mpr p6; subst p6; rw [if_neg Bool.false_ne_true] at H; replace H := Option.bind_eq_some_iff.mp H; obtain ⟨B2, q9, H⟩ := H; have r7 := a_ q9; clear q9; by_cases q1 : B2 = true
 {
 subst q1; rw [if_pos rfl] at H; replace H := Option.bind_eq_some_iff.mp H; obtain ⟨B3, r0, H⟩ := H; have B6 := a_ r0; clear r0; by_cases q2 : B3 = true
 {
 subst q2; rw [if_pos rfl] at H; obtain rfl := Option.some.inj H; obtain ⟨b5, M, N, b6, b7, b8, b9, c0, c3, c4, c6, B, D, i0, i1⟩ := b_T71 E.out y.out b; cases b6; have F := a_ D; have G := a_ B; clear D B; go_wp2_with (first | ((with_reducible refine gc_ 57 rfl ?_); refine q_gl 50 #[.agg #[.int .i64 ((rd_T71 ((rd_T69 l p).f0) b).f0), .int .i64 ((rd_T71 ((rd_T69 l p).f0) b).f1), .int .i64 ((rd_T71 ((rd_T69 l p).f0) b).f2), .int .i64 ((rd_T71 ((rd_T69 l p).f0) b).f3), .int .i64 ((rd_T71 ((rd_T69 l p).f0) b).f4), .int .i32 ((rd_T71 ((rd_T69 l p).f0) b).f5), .slice M ((rd_T71 ((rd_T69 l p).f0) b).f6).length N], .int .i64 a2] Tryd.func57 rfl ?_; (with_reducible refine (r11_Sets.calls k3 ((rd_T71 ((rd_T69 l p).f0) b).f0) ((rd_T71 ((rd_T69 l p).f0) b).f1) ((rd_T71 ((rd_T69 l p).f0) b).f2) ((rd_T71 ((rd_T69 l p).f0) b).f3) ((rd_T71 ((rd_T69 l p).f0) b).f4) ((rd_T71 ((rd_T69 l p).f0) b).f5) _ _ ((rd_T71 ((rd_T69 l p).f0) b).f6) a2 false _ (q_C (Kd.C_below F.out y.out)) G.out k0.out).mono ?_); rintro e H9 ⟨rfl, hb⟩; refine ⟨_, rfl, ?_⟩; replace q := a_ (q_bk q.out hb); replace y := a_ (q_st1 y.out hb z.out); (clear hb); have e3 : 0 ≤ (b : Int) := q_d; have e4 : b < (((rd_T69 l p).f0).length : Int) := q_d; obtain ⟨g1, k5, k6, j6, a6, a7, a8, a9, b0, b1, b2, b3, b4⟩ := at_T71 E.out b e3 e4; obtain rfl : b5 = g1 := (by injection j6); replace a6 := q_kc y.out a6; replace a7 := q_kc y.out a7; replace a8 := q_kc y.out a8; replace a9 := q_kc y.out a9; replace b0 := q_kc y.out b0; replace b1 := q_kc y.out b1; replace b2 := q_kc y.out b2; have e5 := a_ b4; have e6 := a_ b3; clear b4 b3; replace e3 := eq_true e3; replace e4 := eq_true e4) | (go_at_call 57; (with_reducible refine (r11_Sets.calls k3 ((rd_T71 ((rd_T69 l p).f0) b).f0) ((rd_T71 ((rd_T69 l p).f0) b).f1) ((rd_T71 ((rd_T69 l p).f0) b).f2) ((rd_T71 ((rd_T69 l p).f0) b).f3) ((rd_T71 ((rd_T69 l p).f0) b).f4) ((rd_T71 ((rd_T69 l p).f0) b).f5) _ _ ((rd_T71 ((rd_T69 l p).f0) b).f6) a3 true _ (q_C (Kd.C_below e5.out y.out)) e6.out r7.out).mono ?_); rintro e I0 ⟨rfl, hb⟩; replace q := a_ (q_bk q.out hb); replace y := a_ (q_st1 y.out hb z.out); (clear hb); obtain ⟨B7, C0, C1, C2, C3, C4, C5, C6, C7, C8⟩ := q_cf5 q.out) | (go_at_call 58; (with_reducible refine (r11_At.calls k3 O _ _ I _ _ J R _ _ l _ _ l1 p (wrap64 (b + 1)) a2 true _ (q_C (Kd.C_below d1.out y.out)) d2.out (q_C (Kd.C_below d3.out y.out)) d4.out (q_C (Kd.C_below d0.out y.out)) d5.out (q_C (Kd.C_below e9.out y.out)) i5.out B6.out).mono ?_); rintro e I1 ⟨rfl, hb⟩; replace q := a_ (q_bk q.out hb); replace y := a_ (q_st1 y.out hb z.out); (clear hb)))
 go_ret
 exact ⟨q_e, q_w1 y.out z.out⟩}
 {
 replace q2 := Bool.eq_false_iff.mpr q2; subst q2; rw [if_neg Bool.false_ne_true] at H; have H' := a_ H
 clear H; obtain ⟨b5, M, N, b6, b7, b8, b9, c0, c3, c4, c6, B, D, i0, i1⟩ := b_T71 E.out y.out b; cases b6; have F := a_ D; have G := a_ B; clear D B; go_wp2_with (first | ((with_reducible refine gc_ 57 rfl ?_); refine q_gl 50 #[.agg #[.int .i64 ((rd_T71 ((rd_T69 l p).f0) b).f0), .int .i64 ((rd_T71 ((rd_T69 l p).f0) b).f1), .int .i64 ((rd_T71 ((rd_T69 l p).f0) b).f2), .int .i64 ((rd_T71 ((rd_T69 l p).f0) b).f3), .int .i64 ((rd_T71 ((rd_T69 l p).f0) b).f4), .int .i32 ((rd_T71 ((rd_T69 l p).f0) b).f5), .slice M ((rd_T71 ((rd_T69 l p).f0) b).f6).length N], .int .i64 a2] Tryd.func57 rfl ?_; (with_reducible refine (r11_Sets.calls k3 ((rd_T71 ((rd_T69 l p).f0) b).f0) ((rd_T71 ((rd_T69 l p).f0) b).f1) ((rd_T71 ((rd_T69 l p).f0) b).f2) ((rd_T71 ((rd_T69 l p).f0) b).f3) ((rd_T71 ((rd_T69 l p).f0) b).f4) ((rd_T71 ((rd_T69 l p).f0) b).f5) _ _ ((rd_T71 ((rd_T69 l p).f0) b).f6) a2 false _ (q_C (Kd.C_below F.out y.out)) G.out k0.out).mono ?_); rintro e I2 ⟨rfl, hb⟩; refine ⟨_, rfl, ?_⟩; replace q := a_ (q_bk q.out hb); replace y := a_ (q_st1 y.out hb z.out); (clear hb); have e3 : 0 ≤ (b : Int) := q_d; have e4 : b < (((rd_T69 l p).f0).length : Int) := q_d; obtain ⟨g1, k5, k6, j6, a6, a7, a8, a9, b0, b1, b2, b3, b4⟩ := at_T71 E.out b e3 e4; obtain rfl : b5 = g1 := (by injection j6); replace a6 := q_kc y.out a6; replace a7 := q_kc y.out a7; replace a8 := q_kc y.out a8; replace a9 := q_kc y.out a9; replace b0 := q_kc y.out b0; replace b1 := q_kc y.out b1; replace b2 := q_kc y.out b2; have e5 := a_ b4; have e6 := a_ b3; clear b4 b3; replace e3 := eq_true e3; replace e4 := eq_true e4) | (go_at_call 57; (with_reducible refine (r11_Sets.calls k3 ((rd_T71 ((rd_T69 l p).f0) b).f0) ((rd_T71 ((rd_T69 l p).f0) b).f1) ((rd_T71 ((rd_T69 l p).f0) b).f2) ((rd_T71 ((rd_T69 l p).f0) b).f3) ((rd_T71 ((rd_T69 l p).f0) b).f4) ((rd_T71 ((rd_T69 l p).f0) b).f5) _ _ ((rd_T71 ((rd_T69 l p).f0) b).f6) a3 true _ (q_C (Kd.C_below e5.out y.out)) e6.out r7.out).mono ?_); rintro e I3 ⟨rfl, hb⟩; replace q := a_ (q_bk q.out hb); replace y := a_ (q_st1 y.out hb z.out); (clear hb); obtain ⟨C9, D0, D1, D2, D3, D4, D5, D6, D7, D8⟩ := q_cf5 q.out) | (go_at_call 58; (with_reducible refine (r11_At.calls k3 O _ _ I _ _ J R _ _ l _ _ l1 p (wrap64 (b + 1)) a2 false _ (q_C (Kd.C_below d1.out y.out)) d2.out (q_C (Kd.C_below d3.out y.out)) d4.out (q_C (Kd.C_below d0.out y.out)) d5.out (q_C (Kd.C_below e9.out y.out)) i5.out B6.out).mono ?_); rintro e I4 ⟨rfl, hb⟩; replace q := a_ (q_bk q.out hb); replace y := a_ (q_st1 y.out hb z.out); (clear hb)))
 go_roundg k3
 case measure => have := g2.out; have := g3.out; have := g4.out; omega
 case rel => exact ⟨(wrap64 (b + 1)), q_r, H', ⟨by have := g2.out; have := g3.out; have := g4.out; omega⟩, ⟨q_k q.out⟩, ⟨q_w1 y.out z.out⟩⟩}}
 {
 replace q1 := Bool.eq_false_iff.mpr q1; subst q1; rw [if_neg Bool.false_ne_true] at H; have H' := a_ H
 clear H; obtain ⟨b5, M, N, b6, b7, b8, b9, c0, c3, c4, c6, B, D, i0, i1⟩ := b_T71 E.out y.out b; cases b6; have F := a_ D; have G := a_ B; clear D B; go_wp2_with (first | ((with_reducible refine gc_ 57 rfl ?_); refine q_gl 50 #[.agg #[.int .i64 ((rd_T71 ((rd_T69 l p).f0) b).f0), .int .i64 ((rd_T71 ((rd_T69 l p).f0) b).f1), .int .i64 ((rd_T71 ((rd_T69 l p).f0) b).f2), .int .i64 ((rd_T71 ((rd_T69 l p).f0) b).f3), .int .i64 ((rd_T71 ((rd_T69 l p).f0) b).f4), .int .i32 ((rd_T71 ((rd_T69 l p).f0) b).f5), .slice M ((rd_T71 ((rd_T69 l p).f0) b).f6).length N], .int .i64 a2] Tryd.func57 rfl ?_; (with_reducible refine (r11_Sets.calls k3 ((rd_T71 ((rd_T69 l p).f0) b).f0) ((rd_T71 ((rd_T69 l p).f0) b).f1) ((rd_T71 ((rd_T69 l p).f0) b).f2) ((rd_T71 ((rd_T69 l p).f0) b).f3) ((rd_T71 ((rd_T69 l p).f0) b).f4) ((rd_T71 ((rd_T69 l p).f0) b).f5) _ _ ((rd_T71 ((rd_T69 l p).f0) b).f6) a2 false _ (q_C (Kd.C_below F.out y.out)) G.out k0.out).mono ?_); rintro e I5 ⟨rfl, hb⟩; refine ⟨_, rfl, ?_⟩; replace q := a_ (q_bk q.out hb); replace y := a_ (q_st1 y.out hb z.out); (clear hb); have e3 : 0 ≤ (b : Int) := q_d; have e4 : b < (((rd_T69 l p).f0).length : Int) := q_d; obtain ⟨g1, k5, k6, j6, a6, a7, a8, a9, b0, b1, b2, b3, b4⟩ := at_T71 E.out b e3 e4; obtain rfl : b5 = g1 := (by injection j6); replace a6 := q_kc y.out a6; replace a7 := q_kc y.out a7; replace a8 := q_kc y.out a8; replace a9 := q_kc y.out a9; replace b0 := q_kc y.out b0; replace b1 := q_kc y.out b1; replace b2 := q_kc y.out b2; have e5 := a_ b4; have e6 := a_ b3; clear b4 b3; replace e3 := eq_true e3; replace e4 := eq_true e4) | (go_at_call 57; (with_reducible refine (r11_Sets.calls k3 ((rd_T71 ((rd_T69 l p).f0) b).f0) ((rd_T71 ((rd_T69 l p).f0) b).f1) ((rd_T71 ((rd_T69 l p).f0) b).f2) ((rd_T71 ((rd_T69 l p).f0) b).f3) ((rd_T71 ((rd_T69 l p).f0) b).f4) ((rd_T71 ((rd_T69 l p).f0) b).f5) _ _ ((rd_T71 ((rd_T69 l p).f0) b).f6) a3 false _ (q_C (Kd.C_below e5.out y.out)) e6.out r7.out).mono ?_); rintro e I6 ⟨rfl, hb⟩; replace q := a_ (q_bk q.out hb); replace y := a_ (q_st1 y.out hb z.out); (clear hb)))
 go_roundg k3
 case measure => have := g2.out; have := g3.out; have := g4.out; omega
 case rel => exact ⟨(wrap64 (b + 1)), q_r, H', ⟨by have := g2.out; have := g3.out; have := g4.out; omega⟩, ⟨q_k q.out⟩, ⟨q_w1 y.out z.out⟩⟩}}}
 {
 have H' := a_ H
 clear H; go_wp2
 go_roundg k3
 case measure => have := g2.out; have := g3.out; have := g4.out; omega
 case rel => exact ⟨(wrap64 (p + 1)), q_r, H', ⟨by have := g2.out; have := g3.out; have := g4.out; omega⟩, ⟨q_k q.out⟩, ⟨q_w1 y.out z.out⟩⟩}))}
 {
 obtain rfl := Option.some.inj H; obtain ⟨D9, E0, E1, E2, E3, E4, E5, E6, E7, E8⟩ := q_cf5 q.out; go_wp2
 go_ret
 exact ⟨q_e, q_w1 y.out z.out⟩}))}))
def flow_next.f (q : List (S71)) (b : Int) (y : Int) (l : Int) (p : Int) : Option (List Int) := if b = 0 then (some (([l] : List Int))) else (if b = 1 then (some (([l, p] : List Int))) else (some ([] : List Int)))
theorem flow_next.calls (E : Option Addr) (F : Nat) (y : List (S71)) (B : Int) (G : Int) (b : Int) (q : Int) (r : List Int) (w : World) (O : Kd.C k71 w E y.length y) (S : y.length ≤ F) (h : flow_next.f y B G b q = some r) :
  Calls Tryd.prog 44 #[.agg #[.slice E y.length F, .int .i64 B, .int .i64 G, .int .i64 b, .int .i64 q]] w fun e w' => ∃ a3 : Value, e = .returned (a3) ∧ Kd.R (Kd.int .i64) 3 w' w.heap.size (fun _ => True) a3 r ∧ Below w.heap.size w w' := by
 have e1 := Tryd.underlying69; have d9 := a_ O; have e0 := a_ S; clear O S; have D := a_ (Below.refl w.heap.size w); have H : (if B = 0 then (some (([b] : List Int))) else (if B = 1 then (some (([b, q] : List Int))) else (some ([] : List Int)))) = some r := h
 clear h; replace H := q_iBN H; rcases H with ⟨-, c2b0, c2b1, H⟩ | ⟨c2, c2b0, c2b1, H⟩
 {
 obtain ⟨a4, J⟩ : ∃ y_ : List Int, y_ = (([b] : List Int)) := ⟨_, rfl⟩; replace H : (some a4) = some r := q_rw J H
 have T := a_ J; clear J; obtain rfl := Option.some.inj H; go_enter Tryd.func44, Tryd.ntmps44
 go_wp2_with (first | ((with_reducible refine gd_ 1 rfl ?_); refine q_box 1 69 #[.slice E y.length F, .int .i64 B, .int .i64 G, .int .i64 b, .int .i64 q] ?_; intro U hg w3 z hb; have l := a_ (z); have V := a_ ((q_ge D.out hg)); have p := a_ ((q_ge D.out hg)); replace D := a_ (q_st D.out hb); clear hb z hg; obtain ⟨b6, b7, b8, b9, c0, c1, c3, c4, c6, c8⟩ := q_cf5 l.out) | ((with_reducible refine gd_ 9 rfl ?_); refine Kd.R_lit (Kd.int .i64) _ 3 ?hg (N := 9) ?hd (xs := ([b] : List Int)) (inner := [.int .i64 b]) (ok := fun _ => True) (okp := fun _ => True) ?hr ?hp (fun _ hk => hk) trivial (Below.refl _ _) (Nat.le_refl _) (by simp) ?_; (case hd => rfl); (case hg => rfl); (case hr => first | (go_simp; done) | (go_simp; rfl)); (case hp => exact (Reps.one (show Kd.M (Kd.int .i64) _ _ _ b [.int .i64 b] from rfl) (Reps.none _ _))); intro e2 w5 X hb hg_ hnew_; clear hg_ hnew_; (first | rw [← T.out] at X | (simp only [Int.reduceToNat] at X; rw [← T.out] at X)); have a1 := a_ (Kd.R_lower X (below_size (q_w1 D.out p.out))); replace l := a_ (q_bk l.out hb); replace D := a_ (q_st1 D.out hb p.out); clear hb X))
 go_ret
 exact ⟨_, q_e, by (with_reducible repeat (first | apply Kd.R_alloc | apply Kd.R_drewN | apply Kd.R_drew)); exact a1.out, q_w1 D.out p.out⟩}
 {
 replace H := q_iBN H; rcases H with ⟨-, c7b0, c7b1, H⟩ | ⟨c7, c7b0, c7b1, H⟩
 {
 obtain ⟨a5, L⟩ : ∃ y_ : List Int, y_ = (([b, q] : List Int)) := ⟨_, rfl⟩; replace H : (some a5) = some r := q_rw L H
 have a0 := a_ L; clear L; obtain rfl := Option.some.inj H; go_enter Tryd.func44, Tryd.ntmps44
 go_wp2_with (first | ((with_reducible refine gd_ 1 rfl ?_); refine q_box 1 69 #[.slice E y.length F, .int .i64 B, .int .i64 G, .int .i64 b, .int .i64 q] ?_; intro U hg w8 z hb; have l := a_ (z); have V := a_ ((q_ge D.out hg)); have p := a_ ((q_ge D.out hg)); replace D := a_ (q_st D.out hb); clear hb z hg; obtain ⟨c9, d0, d1, d2, d3, d4, d5, d6, d7, d8⟩ := q_cf5 l.out) | ((with_reducible refine gd_ 16 rfl ?_); refine Kd.R_lit (Kd.int .i64) _ 3 ?hg (N := 16) ?hd (xs := ([b, q] : List Int)) (inner := [.int .i64 b, .int .i64 q]) (ok := fun _ => True) (okp := fun _ => True) ?hr ?hp (fun _ hk => hk) trivial (Below.refl _ _) (Nat.le_refl _) (by simp) ?_; (case hd => rfl); (case hg => rfl); (case hr => first | (go_simp; done) | (go_simp; rfl)); (case hp => exact (Reps.one (show Kd.M (Kd.int .i64) _ _ _ b [.int .i64 b] from rfl) (Reps.one (show Kd.M (Kd.int .i64) _ _ _ q [.int .i64 q] from rfl) (Reps.none _ _)))); intro e3 e4 I hb hg_ hnew_; clear hg_ hnew_; (first | rw [← a0.out] at I | (simp only [Int.reduceToNat] at I; rw [← a0.out] at I)); have a2 := a_ (Kd.R_lower I (below_size (q_w1 D.out p.out))); replace l := a_ (q_bk l.out hb); replace D := a_ (q_st1 D.out hb p.out); clear hb I))
 go_ret
 exact ⟨_, q_e, by (with_reducible repeat (first | apply Kd.R_alloc | apply Kd.R_drewN | apply Kd.R_drew)); exact a2.out, q_w1 D.out p.out⟩}
 {
 obtain rfl := Option.some.inj H; go_enter Tryd.func44, Tryd.ntmps44
 go_wp2_with (first | ((with_reducible refine gd_ 1 rfl ?_); refine q_box 1 69 #[.slice E y.length F, .int .i64 B, .int .i64 G, .int .i64 b, .int .i64 q] ?_; intro U hg e5 z hb; have l := a_ (z); have V := a_ ((q_ge D.out hg)); have p := a_ ((q_ge D.out hg)); replace D := a_ (q_st D.out hb); clear hb z hg; obtain ⟨a6, a7, a8, a9, b0, b1, b2, b3, b4, b5⟩ := q_cf5 l.out))
 go_ret
 exact ⟨_, q_e, by first | exact Kd.R_nil _ _ _ _ _ | exact Kd.N_nil _ _ _ _ _ | exact Kd.V_nil _ _ _ _ _ | exact Kd.Q_nil _ _ _ _ _ | exact Kd.S_nil _ _ _ _ _, q_w1 D.out p.out⟩}}
def r2_In.l0 : Nat → ByteArray → List ByteArray → Int → Option (Bool)
 | 0, _, _, _ => none
 | k + 1, p, l, b => if b < (l.length : Int) then (if 0 ≤ b then (if (rdOf ByteArray.empty l b).toList = p.toList then (some true) else (r2_In.l0 k p l (wrap64 (b + 1)))) else (none)) else (some false)
def r2_In.f (k : Nat) (b : ByteArray) (l1 : List ByteArray) : Option (Bool) := r2_In.l0 k b l1 0
theorem r2_In.calls (k : Nat) (z : ByteArray) (J : Option Addr) (L : Nat) (l1 : List ByteArray) (r : Bool) (w : World) (D : Kd.C Kd.string w J l1.length l1) (E : l1.length ≤ L) (h : r2_In.f k z l1 = some r) :
  Calls Tryd.prog 64 #[.string z, .slice J l1.length L] w fun e w' => e = .returned (.bool r) ∧ Drawn0 w w' := by
 have F := a_ D; have M := a_ E; clear D E; have H : (r2_In.l0 k z l1 0) = some r := h
 clear h; have I := a_ H
 clear H; go_enter Tryd.func64, Tryd.ntmps64
 go_wp2
 go_loopg [5] k (fun kq N w' => ∃ (b : Int), N = .int .i64 b ∧ Aside0 (r2_In.l0 kq z l1 b = some r) ∧ Aside0 (kq ≤ k) ∧ Drawn0 w w')
 case atStart => exact ⟨(0), q_r, I, ⟨Nat.le_refl _⟩, by repeat (first | exact Drawn0.refl _ | apply Drawn0.step)⟩
 case round => (
 clear I; obtain ⟨b, rfl, HA, G, ⟨R, rfl⟩⟩ := hrel; cases gk with
 | zero => exact absurd HA.out (by simp [r2_In.l0])
 | succ O => (
 have H := HA.out; clear HA; simp only [r2_In.l0] at H
 rcases q_ite H with ⟨c3b0, H⟩ | ⟨c3b0, H⟩
 {
 replace H := q_gD H; obtain ⟨-, c4b0, H⟩ := H; by_cases c5 : (rdOf ByteArray.empty l1 b).toList = z.toList
 {
 rw [if_pos c5] at H; have c5b0 : ((rdOf ByteArray.empty l1 b).toList == z.toList) = true := beq_iff_eq.mpr c5
 have c5b1 : ((rdOf ByteArray.empty l1 b).toList != z.toList) = false := bne_eq_false_iff_eq.mpr c5
 clear c5; obtain rfl := Option.some.inj H; have l : 0 ≤ (b : Int) := q_d
 have p : b < (l1.length : Int) := q_d
 obtain ⟨B, q, y⟩ := Kd.at_string F.out b l p; cases q; replace l := eq_true l; replace p := eq_true p; go_wp2
 go_ret
 exact ⟨by first | rfl | (simp; done) | (simp [*]; done), by repeat (first | exact Drawn0.refl _ | apply Drawn0.step)⟩}
 {
 rw [if_neg c5] at H; have c5b0 : ((rdOf ByteArray.empty l1 b).toList == z.toList) = false := beq_eq_false_iff_ne.mpr c5
 have c5b1 : ((rdOf ByteArray.empty l1 b).toList != z.toList) = true := bne_iff_ne.mpr c5
 have I := a_ H
 clear H; have l : 0 ≤ (b : Int) := q_d
 have p : b < (l1.length : Int) := q_d
 obtain ⟨B, q, y⟩ := Kd.at_string F.out b l p; cases q; replace l := eq_true l; replace p := eq_true p; go_wp2
 go_roundg O
 case measure => have := G.out; omega
 case rel => exact ⟨(wrap64 (b + 1)), q_r, I, ⟨by have := G.out; omega⟩, by repeat (first | exact Drawn0.refl _ | apply Drawn0.step)⟩}}
 {
 obtain rfl := Option.some.inj H; go_wp2
 go_ret
 exact ⟨by first | rfl | (simp; done) | (simp [*]; done), by repeat (first | exact Drawn0.refl _ | apply Drawn0.step)⟩}))
def r2_letter.f (b : Int) : Option (Bool) := if b ≥ 97 then (if b ≤ 122 then (some true) else (if b ≥ 65 then (some (decide (b ≤ 90))) else (some false))) else (if b ≥ 65 then (some (decide (b ≤ 90))) else (some false))
theorem r2_letter.calls (b : Int) (r : Bool) (w : World) (h : r2_letter.f b = some r) :
  Calls Tryd.prog 92 #[.int .u8 b] w fun e w' => e = .returned (.bool r) ∧ Drawn0 w w' := by
 have H : (if b ≥ 97 then (if b ≤ 122 then (some true) else (if b ≥ 65 then (some (decide (b ≤ 90))) else (some false))) else (if b ≥ 65 then (some (decide (b ≤ 90))) else (some false))) = some r := h
 clear h; rcases q_ite H with ⟨c2b0, H⟩ | ⟨c2b0, H⟩
 {
 rcases q_ite H with ⟨c3b0, H⟩ | ⟨c3b0, H⟩
 {
 obtain rfl := Option.some.inj H; go_enter Tryd.func92, Tryd.ntmps92
 go_wp2
 go_ret
 exact ⟨by first | rfl | (simp; done) | (simp [*]; done), by repeat (first | exact Drawn0.refl _ | apply Drawn0.step)⟩}
 {
 rcases q_ite H with ⟨c4b0, H⟩ | ⟨c4b0, H⟩
 {
 obtain rfl := Option.some.inj H; go_enter Tryd.func92, Tryd.ntmps92
 go_wp2
 go_ret
 exact ⟨by first | rfl | (simp; done) | (simp [*]; done), by repeat (first | exact Drawn0.refl _ | apply Drawn0.step)⟩}
 {
 obtain rfl := Option.some.inj H; go_enter Tryd.func92, Tryd.ntmps92
 go_wp2
 go_ret
 exact ⟨by first | rfl | (simp; done) | (simp [*]; done), by repeat (first | exact Drawn0.refl _ | apply Drawn0.step)⟩}}}
 {
 rcases q_ite H with ⟨c5b0, H⟩ | ⟨c5b0, H⟩
 {
 obtain rfl := Option.some.inj H; go_enter Tryd.func92, Tryd.ntmps92
 go_wp2
 go_ret
 exact ⟨by first | rfl | (simp; done) | (simp [*]; done), by repeat (first | exact Drawn0.refl _ | apply Drawn0.step)⟩}
 {
 obtain rfl := Option.some.inj H; go_enter Tryd.func92, Tryd.ntmps92
 go_wp2
 go_ret
 exact ⟨by first | rfl | (simp; done) | (simp [*]; done), by repeat (first | exact Drawn0.refl _ | apply Drawn0.step)⟩}}
def r2_digit.f (b : Int) : Option (Bool) := if b ≥ 48 then (some (decide (b ≤ 57))) else (some false)
theorem r2_digit.calls (b : Int) (r : Bool) (w : World) (h : r2_digit.f b = some r) :
  Calls Tryd.prog 96 #[.int .u8 b] w fun e w' => e = .returned (.bool r) ∧ Drawn0 w w' := by
 have H : (if b ≥ 48 then (some (decide (b ≤ 57))) else (some false)) = some r := h
 clear h; rcases q_ite H with ⟨c2b0, H⟩ | ⟨c2b0, H⟩
 {
 obtain rfl := Option.some.inj H; go_enter Tryd.func96, Tryd.ntmps96
 go_wp2
 go_ret
 exact ⟨by first | rfl | (simp; done) | (simp [*]; done), by repeat (first | exact Drawn0.refl _ | apply Drawn0.step)⟩}
 {
 obtain rfl := Option.some.inj H; go_enter Tryd.func96, Tryd.ntmps96
 go_wp2
 go_ret
 exact ⟨by first | rfl | (simp; done) | (simp [*]; done), by repeat (first | exact Drawn0.refl _ | apply Drawn0.step)⟩}
def r2_Inner.f (p : Int) : Option (Bool) := (r2_letter.f p).bind fun b => (if b = true then (some true) else ((r2_digit.f p).bind fun l => (if l = true then (some true) else (some (p == 95)))))
theorem r2_Inner.calls (b : Int) (r : Bool) (w : World) (h : r2_Inner.f b = some r) :
  Calls Tryd.prog 93 #[.int .u8 b] w fun e w' => e = .returned (.bool r) ∧ Drawn0 w w' := by
 have H : ((r2_letter.f b).bind fun l => (if l = true then (some true) else ((r2_digit.f b).bind fun p => (if p = true then (some true) else (some (b == 95)))))) = some r := h
 clear h; replace H := Option.bind_eq_some_iff.mp H; obtain ⟨l, q, H⟩ := H; have C := a_ q; clear q; by_cases z : l = true
 {
 subst z; rw [if_pos rfl] at H; obtain rfl := Option.some.inj H; go_enter Tryd.func93, Tryd.ntmps93
 go_wp2_with (first | ((with_reducible refine gc_ 92 rfl ?_); refine q_gl 4 #[.int .u8 b] Tryd.func92 rfl ?_; (with_reducible refine (r2_letter.calls b true _ C.out).mono ?_); rintro e w' ⟨rfl, ⟨B, rfl⟩⟩; refine ⟨_, rfl, ?_⟩))
 go_ret
 exact ⟨by first | rfl | (simp; done) | (simp [*]; done), by repeat (first | exact Drawn0.refl _ | apply Drawn0.step)⟩}
 {
 replace z := Bool.eq_false_iff.mpr z; subst z; rw [if_neg Bool.false_ne_true] at H; replace H := Option.bind_eq_some_iff.mp H; obtain ⟨p, y, H⟩ := H; have D := a_ y; clear y; by_cases c5 : p = true
 {
 subst c5; rw [if_pos rfl] at H; obtain rfl := Option.some.inj H; go_enter Tryd.func93, Tryd.ntmps93
 go_wp2_with (first | ((with_reducible refine gc_ 92 rfl ?_); refine q_gl 4 #[.int .u8 b] Tryd.func92 rfl ?_; (with_reducible refine (r2_letter.calls b false _ C.out).mono ?_); rintro e w' ⟨rfl, ⟨B, rfl⟩⟩; refine ⟨_, rfl, ?_⟩) | (go_at_call 96; (with_reducible refine (r2_digit.calls b true _ D.out).mono ?_); rintro e w' ⟨rfl, ⟨B, rfl⟩⟩))
 go_ret
 exact ⟨by first | rfl | (simp; done) | (simp [*]; done), by repeat (first | exact Drawn0.refl _ | apply Drawn0.step)⟩}
 {
 replace c5 := Bool.eq_false_iff.mpr c5; subst c5; rw [if_neg Bool.false_ne_true] at H; obtain rfl := Option.some.inj H; go_enter Tryd.func93, Tryd.ntmps93
 go_wp2_with (first | ((with_reducible refine gc_ 92 rfl ?_); refine q_gl 4 #[.int .u8 b] Tryd.func92 rfl ?_; (with_reducible refine (r2_letter.calls b false _ C.out).mono ?_); rintro e w' ⟨rfl, ⟨B, rfl⟩⟩; refine ⟨_, rfl, ?_⟩) | (go_at_call 96; (with_reducible refine (r2_digit.calls b false _ D.out).mono ?_); rintro e w' ⟨rfl, ⟨B, rfl⟩⟩))
 go_ret
 exact ⟨by first | rfl | (simp; done) | (simp [*]; done), by repeat (first | exact Drawn0.refl _ | apply Drawn0.step)⟩}}
mutual
def r2_shaped.j0 : Nat → ByteArray → Bool → Option (Bool)
 | 0, _, _ => none
 | k + 1, b, q => if q = true then (some false) else (r2_shaped.l0 k b 0)
def r2_shaped.l0 : Nat → ByteArray → Int → Option (Bool)
 | 0, _, _ => none
 | k + 1, b, p => if p < (b.size : Int) then (if 0 ≤ p then ((r2_Inner.f (bt b p)).bind fun l => (if l = true then (r2_shaped.l0 k b (wrap64 (p + 1))) else (some false))) else (none)) else (some true)
end
def r2_shaped.f (k : Nat) (b : ByteArray) : Option (Bool) := if b.toList = ([] : List UInt8) then (r2_shaped.j0 k b true) else (if 0 < (b.size : Int) then ((r2_letter.f (bt b 0)).bind fun l => (r2_shaped.j0 k b (!l))) else (none))
theorem r2_shaped.calls (k : Nat) (l : ByteArray) (r : Bool) (w : World) (h : r2_shaped.f k l = some r) :
  Calls Tryd.prog 87 #[.string l] w fun e w' => e = .returned (.bool r) ∧ Drawn0 w w' := by
 have H : (if l.toList = ([] : List UInt8) then (r2_shaped.j0 k l true) else (if 0 < (l.size : Int) then ((r2_letter.f (bt l 0)).bind fun q => (r2_shaped.j0 k l (!q))) else (none))) = some r := h
 clear h; have E := a_ H; clear H; go_enter Tryd.func87, Tryd.ntmps87
 go_upto_region 1 with (fail)
 go_cut [11] (fun R wc => ∃ (kq : Nat) (p : Bool), R = .bool p ∧ Aside0 (r2_shaped.j0 kq l p = some r) ∧ Aside0 (kq ≤ k) ∧ Drawn0 w wc)
 case first => (
 have H := E.out; clear E; by_cases F : l.toList = ([] : List UInt8)
 {
 rw [if_pos F] at H; have c3b0 : (l.toList == ([] : List UInt8)) = true := beq_iff_eq.mpr F
 have c3b1 : (l.toList != ([] : List UInt8)) = false := bne_eq_false_iff_eq.mpr F
 clear F; (first | rw [c3b0] | (simp only [i64_w, i32_w]; rw [c3b0]) | skip)
 have C := a_ H
 clear H; go_wp2
 go_meet
 case rel => exact ⟨_, (true), q_r, C, ⟨by first | omega | exact Nat.le_refl _⟩, by repeat (first | exact Drawn0.refl _ | apply Drawn0.step)⟩}
 {
 rw [if_neg F] at H; have c3b0 : (l.toList == ([] : List UInt8)) = false := beq_eq_false_iff_ne.mpr F
 have c3b1 : (l.toList != ([] : List UInt8)) = true := bne_iff_ne.mpr F
 (first | rw [c3b0] | (simp only [i64_w, i32_w]; rw [c3b0]) | skip)
 replace H := q_gD H; obtain ⟨U, c4b0, H⟩ := H; have c4b1 : decide (0 < l.size) = true := decide_eq_true (by omega)
 clear U; replace H := Option.bind_eq_some_iff.mp H; obtain ⟨q, G, H⟩ := H; have V := a_ G; clear G; have C := a_ H
 clear H; have X : 0 ≤ (0 : Int) := (by omega)
 have S : 0 < l.size := (by have : (0 : Int) < (l.size : Int) := q_d; omega)
 have a1 : ∀ h : 0 < l.size, ((l[0]'h).toNat : Int) = bt l 0 := bt_at l 0
 clear X; have a2 : (0 < (l.size : Int)) = True := eq_true (q_d)
 replace S := eq_true S; go_wp2_with (first | (go_at_call 92; (with_reducible refine (r2_letter.calls (bt l 0) q _ V.out).mono ?_); rintro e w' ⟨rfl, ⟨T, rfl⟩⟩))
 go_meet
 case rel => exact ⟨_, (!q), q_r, C, ⟨by first | omega | exact Nat.le_refl _⟩, by repeat (first | exact Drawn0.refl _ | apply Drawn0.step)⟩})
 case rest => (
 clear E; obtain ⟨kq, p, rfl, HA, I, ⟨a3, rfl⟩⟩ := hcut; cases kq with
 | zero => exact absurd HA.out (by simp [r2_shaped.j0])
 | succ J => (
 have H := HA.out; clear HA; simp only [r2_shaped.j0] at H
 by_cases c7 : p = true
 {
 subst c7; rw [if_pos rfl] at H; obtain rfl := Option.some.inj H; go_wp2
 go_ret
 exact ⟨by first | rfl | (simp; done) | (simp [*]; done), by repeat (first | exact Drawn0.refl _ | apply Drawn0.step)⟩}
 {
 replace c7 := Bool.eq_false_iff.mpr c7; subst c7; rw [if_neg Bool.false_ne_true] at H; have C := a_ H
 clear H; go_wp2
 go_loopg [3] J (fun kq v3 w' => ∃ (b : Int), v3 = .int .i64 b ∧ Aside0 (r2_shaped.l0 kq l b = some r) ∧ Aside0 (kq ≤ J) ∧ Drawn0 w w')
 case atStart => exact ⟨(0), q_r, C, ⟨Nat.le_refl _⟩, by repeat (first | exact Drawn0.refl _ | apply Drawn0.step)⟩
 case round => (
 clear C; obtain ⟨b, rfl, HA, L, ⟨m2, rfl⟩⟩ := hrel; cases gk with
 | zero => exact absurd HA.out (by simp [r2_shaped.l0])
 | succ k2 => (
 have H := HA.out; clear HA; simp only [r2_shaped.l0] at H
 rcases q_ite H with ⟨c8b0, H⟩ | ⟨c8b0, H⟩
 {
 replace H := q_gD H; obtain ⟨-, c9b0, H⟩ := H; replace H := Option.bind_eq_some_iff.mp H; obtain ⟨M, D, H⟩ := H; have N := a_ D; clear D; by_cases B : M = true
 {
 subst B; rw [if_pos rfl] at H; have C := a_ H
 clear H; have y : 0 ≤ (b : Int) := q_d
 have z : b < (l.size : Int) := q_d
 have O := bt_at l b; replace y := eq_true y; replace z := eq_true z; go_wp2_with (first | ((with_reducible refine gc_ 93 rfl ?_); refine q_gl 21 #[.int .u8 (bt l b)] Tryd.func93 rfl ?_; (with_reducible refine (r2_Inner.calls (bt l b) true _ N.out).mono ?_); rintro e w' ⟨rfl, ⟨T, rfl⟩⟩; refine ⟨_, rfl, ?_⟩))
 go_roundg k2
 case measure => have := I.out; have := L.out; omega
 case rel => exact ⟨(wrap64 (b + 1)), q_r, C, ⟨by have := I.out; have := L.out; omega⟩, by repeat (first | exact Drawn0.refl _ | apply Drawn0.step)⟩}
 {
 replace B := Bool.eq_false_iff.mpr B; subst B; rw [if_neg Bool.false_ne_true] at H; obtain rfl := Option.some.inj H; have y : 0 ≤ (b : Int) := q_d
 have z : b < (l.size : Int) := q_d
 have O := bt_at l b; replace y := eq_true y; replace z := eq_true z; go_wp2_with (first | ((with_reducible refine gc_ 93 rfl ?_); refine q_gl 21 #[.int .u8 (bt l b)] Tryd.func93 rfl ?_; (with_reducible refine (r2_Inner.calls (bt l b) false _ N.out).mono ?_); rintro e w' ⟨rfl, ⟨T, rfl⟩⟩; refine ⟨_, rfl, ?_⟩))
 go_ret
 exact ⟨by first | rfl | (simp; done) | (simp [*]; done), by repeat (first | exact Drawn0.refl _ | apply Drawn0.step)⟩}}
 {
 obtain rfl := Option.some.inj H; go_wp2
 go_ret
 exact ⟨by first | rfl | (simp; done) | (simp [*]; done), by repeat (first | exact Drawn0.refl _ | apply Drawn0.step)⟩}))}))
def r2_Words.f  : Option (List ByteArray) := some (([(⟨#[102, 117, 110, 99]⟩ : ByteArray), (⟨#[107, 101, 114, 110, 101, 108]⟩ : ByteArray), (⟨#[98, 117, 102, 102, 101, 114]⟩ : ByteArray), (⟨#[105, 110, 116]⟩ : ByteArray), (⟨#[115, 104, 97, 114, 101, 100]⟩ : ByteArray), (⟨#[108, 101, 116]⟩ : ByteArray), (⟨#[105, 102]⟩ : ByteArray), (⟨#[101, 108, 115, 101]⟩ : ByteArray), (⟨#[119, 104, 105, 108, 101]⟩ : ByteArray), (⟨#[98, 114, 101, 97, 107]⟩ : ByteArray), (⟨#[99, 111, 110, 116, 105, 110, 117, 101]⟩ : ByteArray), (⟨#[114, 101, 116, 117, 114, 110]⟩ : ByteArray), (⟨#[98, 97, 114, 114, 105, 101, 114]⟩ : ByteArray), (⟨#[97, 116, 111, 109, 105, 99]⟩ : ByteArray), (⟨#[99, 111, 108, 108, 101, 99, 116]⟩ : ByteArray), (⟨#[116, 105, 100]⟩ : ByteArray), (⟨#[98, 105, 100]⟩ : ByteArray), (⟨#[100, 105, 109]⟩ : ByteArray), (⟨#[103, 114, 105, 100]⟩ : ByteArray), (⟨#[109, 105, 110]⟩ : ByteArray), (⟨#[109, 97, 120]⟩ : ByteArray), (⟨#[97, 100, 100]⟩ : ByteArray), (⟨#[97, 110, 100]⟩ : ByteArray), (⟨#[111, 114]⟩ : ByteArray), (⟨#[120, 111, 114]⟩ : ByteArray)] : List ByteArray))
theorem r2_Words.calls  (r : List ByteArray) (w : World) (h : r2_Words.f  = some r) :
  Calls Tryd.prog 88 #[] w fun e w' => ∃ y : Value, e = .returned (y) ∧ Kd.R Kd.string 9 w' w.heap.size (fun _ => True) y r ∧ Below w.heap.size w w' := by
 have B := a_ (Below.refl w.heap.size w); have H : (some (([(⟨#[102, 117, 110, 99]⟩ : ByteArray), (⟨#[107, 101, 114, 110, 101, 108]⟩ : ByteArray), (⟨#[98, 117, 102, 102, 101, 114]⟩ : ByteArray), (⟨#[105, 110, 116]⟩ : ByteArray), (⟨#[115, 104, 97, 114, 101, 100]⟩ : ByteArray), (⟨#[108, 101, 116]⟩ : ByteArray), (⟨#[105, 102]⟩ : ByteArray), (⟨#[101, 108, 115, 101]⟩ : ByteArray), (⟨#[119, 104, 105, 108, 101]⟩ : ByteArray), (⟨#[98, 114, 101, 97, 107]⟩ : ByteArray), (⟨#[99, 111, 110, 116, 105, 110, 117, 101]⟩ : ByteArray), (⟨#[114, 101, 116, 117, 114, 110]⟩ : ByteArray), (⟨#[98, 97, 114, 114, 105, 101, 114]⟩ : ByteArray), (⟨#[97, 116, 111, 109, 105, 99]⟩ : ByteArray), (⟨#[99, 111, 108, 108, 101, 99, 116]⟩ : ByteArray), (⟨#[116, 105, 100]⟩ : ByteArray), (⟨#[98, 105, 100]⟩ : ByteArray), (⟨#[100, 105, 109]⟩ : ByteArray), (⟨#[103, 114, 105, 100]⟩ : ByteArray), (⟨#[109, 105, 110]⟩ : ByteArray), (⟨#[109, 97, 120]⟩ : ByteArray), (⟨#[97, 100, 100]⟩ : ByteArray), (⟨#[97, 110, 100]⟩ : ByteArray), (⟨#[111, 114]⟩ : ByteArray), (⟨#[120, 111, 114]⟩ : ByteArray)] : List ByteArray))) = some r := h
 clear h; obtain ⟨z, b⟩ : ∃ y_ : List ByteArray, y_ = (([(⟨#[102, 117, 110, 99]⟩ : ByteArray), (⟨#[107, 101, 114, 110, 101, 108]⟩ : ByteArray), (⟨#[98, 117, 102, 102, 101, 114]⟩ : ByteArray), (⟨#[105, 110, 116]⟩ : ByteArray), (⟨#[115, 104, 97, 114, 101, 100]⟩ : ByteArray), (⟨#[108, 101, 116]⟩ : ByteArray), (⟨#[105, 102]⟩ : ByteArray), (⟨#[101, 108, 115, 101]⟩ : ByteArray), (⟨#[119, 104, 105, 108, 101]⟩ : ByteArray), (⟨#[98, 114, 101, 97, 107]⟩ : ByteArray), (⟨#[99, 111, 110, 116, 105, 110, 117, 101]⟩ : ByteArray), (⟨#[114, 101, 116, 117, 114, 110]⟩ : ByteArray), (⟨#[98, 97, 114, 114, 105, 101, 114]⟩ : ByteArray), (⟨#[97, 116, 111, 109, 105, 99]⟩ : ByteArray), (⟨#[99, 111, 108, 108, 101, 99, 116]⟩ : ByteArray), (⟨#[116, 105, 100]⟩ : ByteArray), (⟨#[98, 105, 100]⟩ : ByteArray), (⟨#[100, 105, 109]⟩ : ByteArray), (⟨#[103, 114, 105, 100]⟩ : ByteArray), (⟨#[109, 105, 110]⟩ : ByteArray), (⟨#[109, 97, 120]⟩ : ByteArray), (⟨#[97, 100, 100]⟩ : ByteArray), (⟨#[97, 110, 100]⟩ : ByteArray), (⟨#[111, 114]⟩ : ByteArray), (⟨#[120, 111, 114]⟩ : ByteArray)] : List ByteArray)) := ⟨_, rfl⟩; replace H : (some z) = some r := q_rw b H
 have l := a_ b; clear b; obtain rfl := Option.some.inj H; go_enter Tryd.func88, Tryd.ntmps88
 go_wp2_with (first | ((with_reducible refine gd_ 1 rfl ?_); refine Kd.R_lit Kd.string _ 9 ?hg (N := 1) ?hd (xs := ([(⟨#[102, 117, 110, 99]⟩ : ByteArray), (⟨#[107, 101, 114, 110, 101, 108]⟩ : ByteArray), (⟨#[98, 117, 102, 102, 101, 114]⟩ : ByteArray), (⟨#[105, 110, 116]⟩ : ByteArray), (⟨#[115, 104, 97, 114, 101, 100]⟩ : ByteArray), (⟨#[108, 101, 116]⟩ : ByteArray), (⟨#[105, 102]⟩ : ByteArray), (⟨#[101, 108, 115, 101]⟩ : ByteArray), (⟨#[119, 104, 105, 108, 101]⟩ : ByteArray), (⟨#[98, 114, 101, 97, 107]⟩ : ByteArray), (⟨#[99, 111, 110, 116, 105, 110, 117, 101]⟩ : ByteArray), (⟨#[114, 101, 116, 117, 114, 110]⟩ : ByteArray), (⟨#[98, 97, 114, 114, 105, 101, 114]⟩ : ByteArray), (⟨#[97, 116, 111, 109, 105, 99]⟩ : ByteArray), (⟨#[99, 111, 108, 108, 101, 99, 116]⟩ : ByteArray), (⟨#[116, 105, 100]⟩ : ByteArray), (⟨#[98, 105, 100]⟩ : ByteArray), (⟨#[100, 105, 109]⟩ : ByteArray), (⟨#[103, 114, 105, 100]⟩ : ByteArray), (⟨#[109, 105, 110]⟩ : ByteArray), (⟨#[109, 97, 120]⟩ : ByteArray), (⟨#[97, 100, 100]⟩ : ByteArray), (⟨#[97, 110, 100]⟩ : ByteArray), (⟨#[111, 114]⟩ : ByteArray), (⟨#[120, 111, 114]⟩ : ByteArray)] : List ByteArray)) (inner := [.string (⟨#[102, 117, 110, 99]⟩ : ByteArray), .string (⟨#[107, 101, 114, 110, 101, 108]⟩ : ByteArray), .string (⟨#[98, 117, 102, 102, 101, 114]⟩ : ByteArray), .string (⟨#[105, 110, 116]⟩ : ByteArray), .string (⟨#[115, 104, 97, 114, 101, 100]⟩ : ByteArray), .string (⟨#[108, 101, 116]⟩ : ByteArray), .string (⟨#[105, 102]⟩ : ByteArray), .string (⟨#[101, 108, 115, 101]⟩ : ByteArray), .string (⟨#[119, 104, 105, 108, 101]⟩ : ByteArray), .string (⟨#[98, 114, 101, 97, 107]⟩ : ByteArray), .string (⟨#[99, 111, 110, 116, 105, 110, 117, 101]⟩ : ByteArray), .string (⟨#[114, 101, 116, 117, 114, 110]⟩ : ByteArray), .string (⟨#[98, 97, 114, 114, 105, 101, 114]⟩ : ByteArray), .string (⟨#[97, 116, 111, 109, 105, 99]⟩ : ByteArray), .string (⟨#[99, 111, 108, 108, 101, 99, 116]⟩ : ByteArray), .string (⟨#[116, 105, 100]⟩ : ByteArray), .string (⟨#[98, 105, 100]⟩ : ByteArray), .string (⟨#[100, 105, 109]⟩ : ByteArray), .string (⟨#[103, 114, 105, 100]⟩ : ByteArray), .string (⟨#[109, 105, 110]⟩ : ByteArray), .string (⟨#[109, 97, 120]⟩ : ByteArray), .string (⟨#[97, 100, 100]⟩ : ByteArray), .string (⟨#[97, 110, 100]⟩ : ByteArray), .string (⟨#[111, 114]⟩ : ByteArray), .string (⟨#[120, 111, 114]⟩ : ByteArray)]) (ok := fun _ => True) (okp := fun _ => True) ?hr ?hp (fun _ hk => hk) trivial (Below.refl _ _) (Nat.le_refl _) (by simp) ?_; (case hd => rfl); (case hg => rfl); (case hr => first | (go_simp; done) | (go_simp; rfl)); (case hp => exact (Reps.one (show Kd.M Kd.string _ _ _ (⟨#[102, 117, 110, 99]⟩ : ByteArray) [.string (⟨#[102, 117, 110, 99]⟩ : ByteArray)] from rfl) (Reps.one (show Kd.M Kd.string _ _ _ (⟨#[107, 101, 114, 110, 101, 108]⟩ : ByteArray) [.string (⟨#[107, 101, 114, 110, 101, 108]⟩ : ByteArray)] from rfl) (Reps.one (show Kd.M Kd.string _ _ _ (⟨#[98, 117, 102, 102, 101, 114]⟩ : ByteArray) [.string (⟨#[98, 117, 102, 102, 101, 114]⟩ : ByteArray)] from rfl) (Reps.one (show Kd.M Kd.string _ _ _ (⟨#[105, 110, 116]⟩ : ByteArray) [.string (⟨#[105, 110, 116]⟩ : ByteArray)] from rfl) (Reps.one (show Kd.M Kd.string _ _ _ (⟨#[115, 104, 97, 114, 101, 100]⟩ : ByteArray) [.string (⟨#[115, 104, 97, 114, 101, 100]⟩ : ByteArray)] from rfl) (Reps.one (show Kd.M Kd.string _ _ _ (⟨#[108, 101, 116]⟩ : ByteArray) [.string (⟨#[108, 101, 116]⟩ : ByteArray)] from rfl) (Reps.one (show Kd.M Kd.string _ _ _ (⟨#[105, 102]⟩ : ByteArray) [.string (⟨#[105, 102]⟩ : ByteArray)] from rfl) (Reps.one (show Kd.M Kd.string _ _ _ (⟨#[101, 108, 115, 101]⟩ : ByteArray) [.string (⟨#[101, 108, 115, 101]⟩ : ByteArray)] from rfl) (Reps.one (show Kd.M Kd.string _ _ _ (⟨#[119, 104, 105, 108, 101]⟩ : ByteArray) [.string (⟨#[119, 104, 105, 108, 101]⟩ : ByteArray)] from rfl) (Reps.one (show Kd.M Kd.string _ _ _ (⟨#[98, 114, 101, 97, 107]⟩ : ByteArray) [.string (⟨#[98, 114, 101, 97, 107]⟩ : ByteArray)] from rfl) (Reps.one (show Kd.M Kd.string _ _ _ (⟨#[99, 111, 110, 116, 105, 110, 117, 101]⟩ : ByteArray) [.string (⟨#[99, 111, 110, 116, 105, 110, 117, 101]⟩ : ByteArray)] from rfl) (Reps.one (show Kd.M Kd.string _ _ _ (⟨#[114, 101, 116, 117, 114, 110]⟩ : ByteArray) [.string (⟨#[114, 101, 116, 117, 114, 110]⟩ : ByteArray)] from rfl) (Reps.one (show Kd.M Kd.string _ _ _ (⟨#[98, 97, 114, 114, 105, 101, 114]⟩ : ByteArray) [.string (⟨#[98, 97, 114, 114, 105, 101, 114]⟩ : ByteArray)] from rfl) (Reps.one (show Kd.M Kd.string _ _ _ (⟨#[97, 116, 111, 109, 105, 99]⟩ : ByteArray) [.string (⟨#[97, 116, 111, 109, 105, 99]⟩ : ByteArray)] from rfl) (Reps.one (show Kd.M Kd.string _ _ _ (⟨#[99, 111, 108, 108, 101, 99, 116]⟩ : ByteArray) [.string (⟨#[99, 111, 108, 108, 101, 99, 116]⟩ : ByteArray)] from rfl) (Reps.one (show Kd.M Kd.string _ _ _ (⟨#[116, 105, 100]⟩ : ByteArray) [.string (⟨#[116, 105, 100]⟩ : ByteArray)] from rfl) (Reps.one (show Kd.M Kd.string _ _ _ (⟨#[98, 105, 100]⟩ : ByteArray) [.string (⟨#[98, 105, 100]⟩ : ByteArray)] from rfl) (Reps.one (show Kd.M Kd.string _ _ _ (⟨#[100, 105, 109]⟩ : ByteArray) [.string (⟨#[100, 105, 109]⟩ : ByteArray)] from rfl) (Reps.one (show Kd.M Kd.string _ _ _ (⟨#[103, 114, 105, 100]⟩ : ByteArray) [.string (⟨#[103, 114, 105, 100]⟩ : ByteArray)] from rfl) (Reps.one (show Kd.M Kd.string _ _ _ (⟨#[109, 105, 110]⟩ : ByteArray) [.string (⟨#[109, 105, 110]⟩ : ByteArray)] from rfl) (Reps.one (show Kd.M Kd.string _ _ _ (⟨#[109, 97, 120]⟩ : ByteArray) [.string (⟨#[109, 97, 120]⟩ : ByteArray)] from rfl) (Reps.one (show Kd.M Kd.string _ _ _ (⟨#[97, 100, 100]⟩ : ByteArray) [.string (⟨#[97, 100, 100]⟩ : ByteArray)] from rfl) (Reps.one (show Kd.M Kd.string _ _ _ (⟨#[97, 110, 100]⟩ : ByteArray) [.string (⟨#[97, 110, 100]⟩ : ByteArray)] from rfl) (Reps.one (show Kd.M Kd.string _ _ _ (⟨#[111, 114]⟩ : ByteArray) [.string (⟨#[111, 114]⟩ : ByteArray)] from rfl) (Reps.one (show Kd.M Kd.string _ _ _ (⟨#[120, 111, 114]⟩ : ByteArray) [.string (⟨#[120, 111, 114]⟩ : ByteArray)] from rfl) (Reps.none _ _))))))))))))))))))))))))))); intro C w1 p hb hg_ hnew_; clear hg_ hnew_; (first | rw [← l.out] at p | (simp only [Int.reduceToNat] at p; rw [← l.out] at p)); have q := a_ (Kd.R_lower p (below_size (q_w B.out))); replace B := a_ (q_st B.out hb); clear hb p))
 go_ret
 exact ⟨_, q_e, by (with_reducible repeat (first | apply Kd.R_alloc | apply Kd.R_drewN | apply Kd.R_drew)); exact q.out, q_w B.out⟩
def r2_Name.f (k : Nat) (q : ByteArray) : Option (Bool) := (r2_shaped.f k q).bind fun b => (if b = true then (if (q.size : Int) ≤ 16 then ((r2_Words.f).bind fun l => ((r2_In.f k q l).bind fun p => (some (!p)))) else (some false)) else (some false))
theorem r2_Name.calls (k : Nat) (l : ByteArray) (r : Bool) (w : World) (h : r2_Name.f k l = some r) :
  Calls Tryd.prog 77 #[.string l] w fun e w' => e = .returned (.bool r) ∧ Below w.heap.size w w' := by
 have z := a_ (Below.refl w.heap.size w); have H : ((r2_shaped.f k l).bind fun q => (if q = true then (if (l.size : Int) ≤ 16 then ((r2_Words.f).bind fun p => ((r2_In.f k l p).bind fun y => (some (!y)))) else (some false)) else (some false))) = some r := h
 clear h; replace H := Option.bind_eq_some_iff.mp H; obtain ⟨q, B, H⟩ := H; have G := a_ B; clear B; by_cases F : q = true
 {
 subst F; rw [if_pos rfl] at H; replace H := q_iD H; rcases H with ⟨I, c4b0, H⟩ | ⟨I, c4b0, H⟩
 {
 have c4b1 : decide (l.size ≤ 16) = true := decide_eq_true (by omega)
 clear I; replace H := Option.bind_eq_some_iff.mp H; obtain ⟨p, C, H⟩ := H; have N := a_ C; clear C; replace H := Option.bind_eq_some_iff.mp H; obtain ⟨y, D, H⟩ := H; have O := a_ D; clear D; obtain rfl := Option.some.inj H; go_enter Tryd.func77, Tryd.ntmps77
 go_wp2_with (first | ((with_reducible refine gc_ 87 rfl ?_); refine q_gl 4 #[.string l] Tryd.func87 rfl ?_; (with_reducible refine (r2_shaped.calls k l true _ G.out).mono ?_); rintro e w' ⟨rfl, ⟨J, rfl⟩⟩; refine ⟨_, rfl, ?_⟩) | (go_at_call 88; (with_reducible refine (r2_Words.calls  p _ N.out).mono ?_); rintro e T ⟨M, rfl, E, hb⟩; have b := a_ (Kd.R_lower E (below_size (q_w z.out))); replace z := a_ (q_st z.out hb); clear hb E; obtain ⟨R, S, L⟩ := Kd.R_slice b.out; subst L) | (go_at_call 64; (with_reducible refine (r2_In.calls k l _ _ p y _ ?side1 ((Kd.R_reads' b.out).2.1) O.out).mono ?_); (case side1 => repeat (first | exact (Kd.R_reads' b.out).2.2 | with_reducible first | refine Kd.C_alloc ?_ _ | refine Kd.C_drewN ?_ _ | refine Kd.C_drew ?_)); rintro e w' ⟨rfl, ⟨J, rfl⟩⟩))
 go_ret
 exact ⟨q_e, q_w z.out⟩}
 {
 have c4b1 : decide (l.size ≤ 16) = false := decide_eq_false (by omega)
 clear I; obtain rfl := Option.some.inj H; go_enter Tryd.func77, Tryd.ntmps77
 go_wp2_with (first | ((with_reducible refine gc_ 87 rfl ?_); refine q_gl 4 #[.string l] Tryd.func87 rfl ?_; (with_reducible refine (r2_shaped.calls k l true _ G.out).mono ?_); rintro e w' ⟨rfl, ⟨J, rfl⟩⟩; refine ⟨_, rfl, ?_⟩))
 go_ret
 exact ⟨q_e, q_w z.out⟩}}
 {
 replace F := Bool.eq_false_iff.mpr F; subst F; rw [if_neg Bool.false_ne_true] at H; obtain rfl := Option.some.inj H; go_enter Tryd.func77, Tryd.ntmps77
 go_wp2_with (first | ((with_reducible refine gc_ 87 rfl ?_); refine q_gl 4 #[.string l] Tryd.func87 rfl ?_; (with_reducible refine (r2_shaped.calls k l false _ G.out).mono ?_); rintro e w' ⟨rfl, ⟨J, rfl⟩⟩; refine ⟨_, rfl, ?_⟩))
 go_ret
 exact ⟨q_e, q_w z.out⟩}
mutual
def r3_Head.j0 : Nat → List (S83) → List (S85) → Bool → Option (Bool)
 | 0, _, _, _ => none
 | k + 1, p, b, B => if B = true then (some false) else (r3_Head.l0 k p b 0)
def r3_Head.l0 : Nat → List (S83) → List (S85) → Int → Option (Bool)
 | 0, _, _, _ => none
 | k + 1, p, b, z => if z < (p.length : Int) then (if 0 ≤ z then ((r2_Name.f k ((rd_T83 p z).f0)).bind fun q => (if q = true then (r3_Head.l0 k p b (wrap64 (z + 1))) else (some false))) else (none)) else (r3_Head.l1 k b 0)
def r3_Head.l1 : Nat → List (S85) → Int → Option (Bool)
 | 0, _, _ => none
 | k + 1, b, l => if l < (b.length : Int) then (if 0 ≤ l then ((r2_Name.f k ((rd_T85 b l).f0)).bind fun y => (if y = true then (if ((rd_T85 b l).f1) < 1 then (some false) else (if ((rd_T85 b l).f1) > 64 then (some false) else (r3_Head.l1 k b (wrap64 (l + 1))))) else (some false))) else (none)) else (some true)
end
def r3_Head.f (k : Nat) (l : ByteArray) (l1 : List (S83)) (l2 : List (S85)) : Option (Bool) := (r2_Name.f k l).bind fun b => (if b = true then (if (l1.length : Int) > 6 then (r3_Head.j0 k l1 l2 true) else (r3_Head.j0 k l1 l2 (decide ((l2.length : Int) > 4)))) else (r3_Head.j0 k l1 l2 true))
theorem r3_Head.calls (k : Nat) (a0 : ByteArray) (A1 : Option Addr) (c1 : Nat) (l1 : List (S83)) (A2 : Option Addr) (c2 : Nat) (l2 : List (S85)) (r : Bool) (w : World) (b7 : Kd.C k83 w A1 l1.length l1) (b8 : l1.length ≤ c1) (b9 : Kd.C k85 w A2 l2.length l2) (c0 : l2.length ≤ c2) (h : r3_Head.f k a0 l1 l2 = some r) :
  Calls Tryd.prog 63 #[.string a0, .slice A1 l1.length c1, .slice A2 l2.length c2] w fun e w' => e = .returned (.bool r) ∧ Below w.heap.size w w' := by
 have c3 := a_ b7; have e3 := a_ b8; clear b7 b8; have O := a_ b9; have e4 := a_ c0; clear b9 c0; have q := a_ (Below.refl w.heap.size w); have H : ((r2_Name.f k a0).bind fun V => (if V = true then (if (l1.length : Int) > 6 then (r3_Head.j0 k l1 l2 true) else (r3_Head.j0 k l1 l2 (decide ((l2.length : Int) > 4)))) else (r3_Head.j0 k l1 l2 true))) = some r := h
 clear h; have b5 := a_ H; clear H; go_enter Tryd.func63, Tryd.ntmps63
 go_upto_region 1 with (fail)
 go_cut [21] (fun d8 wc => ∃ (kq : Nat) (R : Bool), d8 = .bool R ∧ Aside0 (r3_Head.j0 kq l1 l2 R = some r) ∧ Aside0 (kq ≤ k) ∧ Aside0 (Below w.heap.size w wc))
 case first => (
 have H := b5.out; clear b5; replace H := Option.bind_eq_some_iff.mp H; obtain ⟨V, c4, H⟩ := H; have A5 := a_ c4; clear c4; by_cases c6 : V = true
 {
 subst c6; rw [if_pos rfl] at H; replace H := q_iD H; rcases H with ⟨c7, c7b0, H⟩ | ⟨c7, c7b0, H⟩
 {
 have c7b1 : decide (6 < l1.length) = true := decide_eq_true (by omega)
 clear c7; (first | rw [c7b0] | (simp only [i64_w, i32_w]; rw [c7b0]) | skip)
 have T := a_ H
 clear H; go_wp2_with (first | ((with_reducible refine gc_ 77 rfl ?_); refine q_gl 10 #[.string a0] Tryd.func77 rfl ?_; (with_reducible refine (r2_Name.calls k a0 true _ A5.out).mono ?_); rintro e w8 ⟨rfl, hb⟩; refine ⟨_, rfl, ?_⟩; replace q := a_ (q_st q.out hb); (clear hb)))
 go_meet
 case rel => exact ⟨_, (true), q_r, T, ⟨by first | omega | exact Nat.le_refl _⟩, ⟨q_w q.out⟩⟩}
 {
 have c7b1 : decide (6 < l1.length) = false := decide_eq_false (by omega)
 clear c7; (first | rw [c7b0] | (simp only [i64_w, i32_w]; rw [c7b0]) | skip)
 have T := a_ H
 clear H; go_wp2_with (first | ((with_reducible refine gc_ 77 rfl ?_); refine q_gl 10 #[.string a0] Tryd.func77 rfl ?_; (with_reducible refine (r2_Name.calls k a0 true _ A5.out).mono ?_); rintro e w9 ⟨rfl, hb⟩; refine ⟨_, rfl, ?_⟩; replace q := a_ (q_st q.out hb); (clear hb)))
 go_meet
 case rel => exact ⟨_, (decide ((l2.length : Int) > 4)), q_r, T, ⟨by first | omega | exact Nat.le_refl _⟩, ⟨q_w q.out⟩⟩}}
 {
 replace c6 := Bool.eq_false_iff.mpr c6; subst c6; rw [if_neg Bool.false_ne_true] at H; have T := a_ H
 clear H; go_wp2_with (first | ((with_reducible refine gc_ 77 rfl ?_); refine q_gl 10 #[.string a0] Tryd.func77 rfl ?_; (with_reducible refine (r2_Name.calls k a0 false _ A5.out).mono ?_); rintro e e5 ⟨rfl, hb⟩; refine ⟨_, rfl, ?_⟩; replace q := a_ (q_st q.out hb); (clear hb)))
 go_meet
 case rel => exact ⟨_, (true), q_r, T, ⟨by first | omega | exact Nat.le_refl _⟩, ⟨q_w q.out⟩⟩})
 case rest => (
 clear b5; obtain ⟨kq, R, rfl, HA, a7, q⟩ := hcut; cases kq with
 | zero => exact absurd HA.out (by simp [r3_Head.j0])
 | succ c8 => (
 have H := HA.out; clear HA; simp only [r3_Head.j0] at H
 by_cases a8 : R = true
 {
 subst a8; rw [if_pos rfl] at H; obtain rfl := Option.some.inj H; go_wp2
 go_ret
 exact ⟨q_e, q_w q.out⟩}
 {
 replace a8 := Bool.eq_false_iff.mpr a8; subst a8; rw [if_neg Bool.false_ne_true] at H; have T := a_ H
 clear H; go_wp2
 go_loopg [7] c8 (fun kq v7 w' => ∃ (F : Int), v7 = .int .i64 F ∧ Aside0 (r3_Head.l0 kq l1 l2 F = some r) ∧ Aside0 (kq ≤ c8) ∧ Aside0 (Below w.heap.size w w'))
 case atStart => exact ⟨(0), q_r, T, ⟨Nat.le_refl _⟩, ⟨q_w q.out⟩⟩
 case round => (
 clear T; obtain ⟨F, rfl, HA, a9, q⟩ := hrel; cases gk with
 | zero => exact absurd HA.out (by simp [r3_Head.l0])
 | succ k2 => (
 have H := HA.out; clear HA; simp only [r3_Head.l0] at H
 rcases q_ite H with ⟨c12b0, H⟩ | ⟨c12b0, H⟩
 {
 replace H := q_gD H; obtain ⟨-, c13b0, H⟩ := H; replace H := Option.bind_eq_some_iff.mp H; obtain ⟨d0, b3, H⟩ := H; have d1 := a_ b3; clear b3; by_cases b0 : d0 = true
 {
 subst b0; rw [if_pos rfl] at H; have T := a_ H
 clear H; obtain ⟨b6, X, a1, a2, d2, d3⟩ := b_T83 c3.out q.out F; cases X; go_wp2_with (first | ((with_reducible refine gc_ 77 rfl ?_); refine q_gl 33 #[.string ((rd_T83 l1 F).f0)] Tryd.func77 rfl ?_; (with_reducible refine (r2_Name.calls k2 ((rd_T83 l1 F).f0) true _ d1.out).mono ?_); rintro e e7 ⟨rfl, hb⟩; refine ⟨_, rfl, ?_⟩; replace q := a_ (q_st q.out hb); (clear hb)))
 go_roundg k2
 case measure => have := a7.out; have := a9.out; omega
 case rel => exact ⟨(wrap64 (F + 1)), q_r, T, ⟨by have := a7.out; have := a9.out; omega⟩, ⟨q_w q.out⟩⟩}
 {
 replace b0 := Bool.eq_false_iff.mpr b0; subst b0; rw [if_neg Bool.false_ne_true] at H; obtain rfl := Option.some.inj H; obtain ⟨b6, X, a1, a2, d2, d3⟩ := b_T83 c3.out q.out F; cases X; go_wp2_with (first | ((with_reducible refine gc_ 77 rfl ?_); refine q_gl 33 #[.string ((rd_T83 l1 F).f0)] Tryd.func77 rfl ?_; (with_reducible refine (r2_Name.calls k2 ((rd_T83 l1 F).f0) false _ d1.out).mono ?_); rintro e e8 ⟨rfl, hb⟩; refine ⟨_, rfl, ?_⟩; replace q := a_ (q_st q.out hb); (clear hb)))
 go_ret
 exact ⟨q_e, q_w q.out⟩}}
 {
 have T := a_ H
 clear H; go_wp2
 go_loopg [8] k2 (fun kq v8 w' => ∃ (b : Int), v8 = .int .i64 b ∧ Aside0 (r3_Head.l1 kq l2 b = some r) ∧ Aside0 (kq ≤ k2) ∧ Aside0 (Below w.heap.size w w'))
 case atStart => exact ⟨(0), q_r, T, ⟨Nat.le_refl _⟩, ⟨q_w q.out⟩⟩
 case round => (
 clear T; clear c12b0; obtain ⟨b, rfl, HA, d4, q⟩ := hrel; cases gk with
 | zero => exact absurd HA.out (by simp [r3_Head.l1])
 | succ k3 => (
 have H := HA.out; clear HA; simp only [r3_Head.l1] at H
 rcases q_ite H with ⟨c18b0, H⟩ | ⟨c18b0, H⟩
 {
 replace H := q_gD H; obtain ⟨-, c19b0, H⟩ := H; replace H := Option.bind_eq_some_iff.mp H; obtain ⟨d6, b4, H⟩ := H; have b1 := a_ b4; clear b4; by_cases b2 : d6 = true
 {
 subst b2; rw [if_pos rfl] at H; rcases q_ite H with ⟨c22b0, H⟩ | ⟨c22b0, H⟩
 {
 obtain rfl := Option.some.inj H; obtain ⟨y, G, I, J, a3, a4⟩ := b_T85 O.out q.out b; cases G; go_wp2_with (first | ((with_reducible refine gc_ 77 rfl ?_); refine q_gl 46 #[.string ((rd_T85 l2 b).f0)] Tryd.func77 rfl ?_; (with_reducible refine (r2_Name.calls k3 ((rd_T85 l2 b).f0) true _ b1.out).mono ?_); rintro e f1 ⟨rfl, hb⟩; refine ⟨_, rfl, ?_⟩; replace q := a_ (q_st q.out hb); (clear hb); have z : 0 ≤ (b : Int) := q_d; have B : b < (l2.length : Int) := q_d; obtain ⟨L, S, l, p⟩ := at_T85 O.out b z B; obtain rfl : y = L := (by injection S); replace l := q_kc q.out l; replace p := q_kc q.out p; replace z := eq_true z; replace B := eq_true B))
 go_ret
 exact ⟨q_e, q_w q.out⟩}
 {
 rcases q_ite H with ⟨c24b0, H⟩ | ⟨c24b0, H⟩
 {
 obtain rfl := Option.some.inj H; obtain ⟨y, G, I, J, a3, a4⟩ := b_T85 O.out q.out b; cases G; go_wp2_with (first | ((with_reducible refine gc_ 77 rfl ?_); refine q_gl 46 #[.string ((rd_T85 l2 b).f0)] Tryd.func77 rfl ?_; (with_reducible refine (r2_Name.calls k3 ((rd_T85 l2 b).f0) true _ b1.out).mono ?_); rintro e f2 ⟨rfl, hb⟩; refine ⟨_, rfl, ?_⟩; replace q := a_ (q_st q.out hb); (clear hb); have z : 0 ≤ (b : Int) := q_d; have B : b < (l2.length : Int) := q_d; obtain ⟨L, S, l, p⟩ := at_T85 O.out b z B; obtain rfl : y = L := (by injection S); replace l := q_kc q.out l; replace p := q_kc q.out p; replace z := eq_true z; replace B := eq_true B; have M : 0 ≤ (b : Int) := q_d; have N : b < (l2.length : Int) := q_d; obtain ⟨U, a5, D, E⟩ := at_T85 O.out b M N; obtain rfl : y = U := (by injection a5); replace D := q_kc q.out D; replace E := q_kc q.out E; replace M := eq_true M; replace N := eq_true N))
 go_ret
 exact ⟨q_e, q_w q.out⟩}
 {
 have T := a_ H
 clear H; obtain ⟨y, G, I, J, a3, a4⟩ := b_T85 O.out q.out b; cases G; go_wp2_with (first | ((with_reducible refine gc_ 77 rfl ?_); refine q_gl 46 #[.string ((rd_T85 l2 b).f0)] Tryd.func77 rfl ?_; (with_reducible refine (r2_Name.calls k3 ((rd_T85 l2 b).f0) true _ b1.out).mono ?_); rintro e f3 ⟨rfl, hb⟩; refine ⟨_, rfl, ?_⟩; replace q := a_ (q_st q.out hb); (clear hb); have z : 0 ≤ (b : Int) := q_d; have B : b < (l2.length : Int) := q_d; obtain ⟨L, S, l, p⟩ := at_T85 O.out b z B; obtain rfl : y = L := (by injection S); replace l := q_kc q.out l; replace p := q_kc q.out p; replace z := eq_true z; replace B := eq_true B; have M : 0 ≤ (b : Int) := q_d; have N : b < (l2.length : Int) := q_d; obtain ⟨U, a5, D, E⟩ := at_T85 O.out b M N; obtain rfl : y = U := (by injection a5); replace D := q_kc q.out D; replace E := q_kc q.out E; replace M := eq_true M; replace N := eq_true N))
 go_roundg k3
 case measure => have := a7.out; have := a9.out; have := d4.out; omega
 case rel => exact ⟨(wrap64 (b + 1)), q_r, T, ⟨by have := a7.out; have := a9.out; have := d4.out; omega⟩, ⟨q_w q.out⟩⟩}}}
 {
 replace b2 := Bool.eq_false_iff.mpr b2; subst b2; rw [if_neg Bool.false_ne_true] at H; obtain rfl := Option.some.inj H; obtain ⟨y, G, I, J, a3, a4⟩ := b_T85 O.out q.out b; cases G; go_wp2_with (first | ((with_reducible refine gc_ 77 rfl ?_); refine q_gl 46 #[.string ((rd_T85 l2 b).f0)] Tryd.func77 rfl ?_; (with_reducible refine (r2_Name.calls k3 ((rd_T85 l2 b).f0) false _ b1.out).mono ?_); rintro e f4 ⟨rfl, hb⟩; refine ⟨_, rfl, ?_⟩; replace q := a_ (q_st q.out hb); (clear hb)))
 go_ret
 exact ⟨q_e, q_w q.out⟩}}
 {
 obtain rfl := Option.some.inj H; go_wp2
 go_ret
 exact ⟨q_e, q_w q.out⟩}))}))}))
mutual
def r6_Heads.l0 : Nat → List (S83) → List (S85) → List ByteArray → Int → Option (Bool)
 | 0, _, _, _, _ => none
 | k + 1, B, p, b, y => if y < (B.length : Int) then (if 0 ≤ y then (if b.length < 8796093022208 then (r6_Heads.l0 k B p (b ++ [(rd_T83 B y).f0]) (wrap64 (y + 1))) else (none)) else (none)) else (r6_Heads.l1 k p b 0)
def r6_Heads.l1 : Nat → List (S85) → List ByteArray → Int → Option (Bool)
 | 0, _, _, _ => none
 | k + 1, p, b, z => if z < (p.length : Int) then (if 0 ≤ z then (if b.length < 8796093022208 then (r6_Heads.l1 k p (b ++ [(rd_T85 p z).f0]) (wrap64 (z + 1))) else (none)) else (none)) else (r6_Heads.l2 k b 0)
def r6_Heads.l2 : Nat → List ByteArray → Int → Option (Bool)
 | 0, _, _ => none
 | k + 1, b, l => if l < (b.length : Int) then (if 0 ≤ l then (if l ≤ (b.length : Int) then ((r2_In.f k (rdOf ByteArray.empty b l) (b.take (l : Int).toNat)).bind fun q => (if q = true then (some false) else (r6_Heads.l2 k b (wrap64 (l + 1))))) else (none)) else (none)) else (some true)
end
def r6_Heads.f (k : Nat) (l : ByteArray) (l1 : List (S83)) (l2 : List (S85)) : Option (Bool) := (r3_Head.f k l l1 l2).bind fun b => (if b = true then (r6_Heads.l0 k l1 l2 ([] : List ByteArray) 0) else (some false))
theorem r6_Heads.calls (k : Nat) (a0 : ByteArray) (A1 : Option Addr) (c1 : Nat) (l1 : List (S83)) (A2 : Option Addr) (c2 : Nat) (l2 : List (S85)) (r : Bool) (w : World) (e8 : Kd.C k83 w A1 l1.length l1) (e9 : l1.length ≤ c1) (f1 : Kd.C k85 w A2 l2.length l2) (f2 : l2.length ≤ c2) (h : r6_Heads.f k a0 l1 l2 = some r) :
  Calls Tryd.prog 45 #[.string a0, .slice A1 l1.length c1, .slice A2 l2.length c2] w fun e w' => e = .returned (.bool r) ∧ Below w.heap.size w w' := by
 have T := a_ e8; have a8 := a_ e9; clear e8 e9; have U := a_ f1; have a9 := a_ f2; clear f1 f2; have y := a_ (Below.refl w.heap.size w); have H : ((r3_Head.f k a0 l1 l2).bind fun b2 => (if b2 = true then (r6_Heads.l0 k l1 l2 ([] : List ByteArray) 0) else (some false))) = some r := h
 clear h; replace H := Option.bind_eq_some_iff.mp H; obtain ⟨b2, f3, H⟩ := H; have A4 := a_ f3; clear f3; by_cases c5 : b2 = true
 {
 subst c5; rw [if_pos rfl] at H; have H' := a_ H
 clear H; go_enter Tryd.func45, Tryd.ntmps45
 go_wp2_with (first | (go_at_call 63; (with_reducible refine (r3_Head.calls k a0 _ _ l1 _ _ l2 true _ (q_C T.out) a8.out (q_C U.out) a9.out A4.out).mono ?_); rintro e w6 ⟨rfl, hb⟩; replace y := a_ (q_st y.out hb); (clear hb)))
 repeat (go_quiet (first | (go_at_call 63; (with_reducible refine (r3_Head.calls k a0 _ _ l1 _ _ l2 true _ (q_C T.out) a8.out (q_C U.out) a9.out A4.out).mono ?_); rintro e w6 ⟨rfl, hb⟩; replace y := a_ (q_st y.out hb))); try go_wp2_with (first | (go_at_call 63; (with_reducible refine (r3_Head.calls k a0 _ _ l1 _ _ l2 true _ (q_C T.out) a8.out (q_C U.out) a9.out A4.out).mono ?_); rintro e w6 ⟨rfl, hb⟩; replace y := a_ (q_st y.out hb))))
 go_loopg [7, 8] k (fun kq v7 v8 w' => ∃ (I : List ByteArray) (z : Int), v8 = .int .i64 z ∧ Aside0 (r6_Heads.l0 kq l1 l2 I z = some r) ∧ Aside0 (kq ≤ k) ∧ Aside0 (Kd.R Kd.string 9 w' w.heap.size (fun _ => True) v7 I) ∧ Aside0 (Below w.heap.size w w'))
 case atStart => exact ⟨(([] : List ByteArray)), (0), q_r, H', ⟨Nat.le_refl _⟩, ⟨by first | exact Kd.R_nil _ _ _ _ _ | exact Kd.N_nil _ _ _ _ _ | exact Kd.V_nil _ _ _ _ _ | exact Kd.Q_nil _ _ _ _ _ | exact Kd.S_nil _ _ _ _ _⟩, ⟨q_w y.out⟩⟩
 case round => (
 clear H'; obtain ⟨I, z, rfl, HA, b0, HO_7, y⟩ := hrel; cases gk with
 | zero => exact absurd HA.out (by simp [r6_Heads.l0])
 | succ k1 => (
 have H := HA.out; clear HA; simp only [r6_Heads.l0] at H
 rcases q_ite H with ⟨c7b0, H⟩ | ⟨c7b0, H⟩
 {
 replace H := q_gD H; obtain ⟨-, c8b0, H⟩ := H; replace H := q_g H; obtain ⟨c9, H⟩ := H; have b3 := a_ c9; clear c9; obtain ⟨d6, V⟩ : ∃ y_ : List ByteArray, y_ = (I ++ [(rd_T83 l1 z).f0]) := ⟨_, rfl⟩; replace H : (r6_Heads.l0 k1 l1 l2 d6 (wrap64 (z + 1))) = some r := q_rw V H
 have X := a_ V; clear V; have H' := a_ H
 clear H; obtain ⟨i2, f4, f5, f6, j3, j5⟩ := b_T83 T.out y.out z; cases f4; go_wp2_with (first | ((with_reducible refine gate_builtin (b := .append) (xs := #[.tmp 22, .tmp 28]) rfl ?_); at_builtin; refine Kd.R_append Kd.string (w0 := w) w.heap.size rfl (.tmp 22) (.tmp 28) 100 9 (.string ⟨#[]⟩) 16 rfl Tryd.underlying100 info9 rfl (by decide) (by omega) u7 I ((rd_T83 l1 z).f0) [.string ((rd_T83 l1 z).f0)] (fun _ => True) (fun _ => False) rfl rfl ?aP (fun _ hk => hk.elim) ?aF ?aO ?aB ?aS ?aL ?_; (case aP => exact rfl); (case aB => exact (q_w y.out)); (case aF => exact (fun _ _ => trivial)); (case aO => exact (by (with_reducible repeat (first | apply Kd.R_alloc | apply Kd.R_drewN | apply Kd.R_drew)); exact HO_7.out)); (case aS => exact (below_size (q_w y.out))); (case aL => have := b3.out; omega); intro d7 f7 ho hb hg hat; rw [← X.out] at ho; have D := a_ (hb); have E := a_ (ho); clear y; clear HO_7; have y := D; have a1 := E; clear D E; clear ho hb hg hat))
 repeat (go_quiet (first | ((with_reducible refine gate_builtin (b := .append) (xs := #[.tmp 22, .tmp 28]) rfl ?_); at_builtin; refine Kd.R_append Kd.string (w0 := w) w.heap.size rfl (.tmp 22) (.tmp 28) 100 9 (.string ⟨#[]⟩) 16 rfl Tryd.underlying100 info9 rfl (by decide) (by omega) u7 I ((rd_T83 l1 z).f0) [.string ((rd_T83 l1 z).f0)] (fun _ => True) (fun _ => False) rfl rfl ?aP (fun _ hk => hk.elim) ?aF ?aO ?aB ?aS ?aL ?_; (case aP => exact rfl); (case aB => exact (q_w y.out)); (case aF => exact (fun _ _ => trivial)); (case aO => exact (by (with_reducible repeat (first | apply Kd.R_alloc | apply Kd.R_drewN | apply Kd.R_drew)); exact HO_7.out)); (case aS => exact (below_size (q_w y.out))); (case aL => have := b3.out; omega); intro d7 f7 ho hb hg hat; rw [← X.out] at ho; have D := a_ (hb); have E := a_ (ho); clear y; clear HO_7; have y := D; have a1 := E; clear D E; clear ho hb hg hat)); try go_wp2_with (first | ((with_reducible refine gate_builtin (b := .append) (xs := #[.tmp 22, .tmp 28]) rfl ?_); at_builtin; refine Kd.R_append Kd.string (w0 := w) w.heap.size rfl (.tmp 22) (.tmp 28) 100 9 (.string ⟨#[]⟩) 16 rfl Tryd.underlying100 info9 rfl (by decide) (by omega) u7 I ((rd_T83 l1 z).f0) [.string ((rd_T83 l1 z).f0)] (fun _ => True) (fun _ => False) rfl rfl ?aP (fun _ hk => hk.elim) ?aF ?aO ?aB ?aS ?aL ?_; (case aP => exact rfl); (case aB => exact (q_w y.out)); (case aF => exact (fun _ _ => trivial)); (case aO => exact (by (with_reducible repeat (first | apply Kd.R_alloc | apply Kd.R_drewN | apply Kd.R_drew)); exact HO_7.out)); (case aS => exact (below_size (q_w y.out))); (case aL => have := b3.out; omega); intro d7 f7 ho hb hg hat; rw [← X.out] at ho; have D := a_ (hb); have E := a_ (ho); clear y; clear HO_7; have y := D; have a1 := E; clear D E; clear ho hb hg hat)))
 go_roundg k1
 case measure => have := b0.out; omega
 case rel => exact ⟨(d6), (wrap64 (z + 1)), q_r, H', ⟨by have := b0.out; omega⟩, ⟨by (with_reducible repeat (first | apply Kd.R_alloc | apply Kd.R_drewN | apply Kd.R_drew)); exact a1.out⟩, ⟨q_w y.out⟩⟩}
 {
 have H' := a_ H
 clear H; go_wp2
 repeat (go_quiet (fail); try go_wp2)
 go_loopg [7, 9] k1 (fun kq v7 v9 w' => ∃ (p : List ByteArray) (B : Int), v9 = .int .i64 B ∧ Aside0 (r6_Heads.l1 kq l2 p B = some r) ∧ Aside0 (kq ≤ k1) ∧ Aside0 (Kd.R Kd.string 9 w' w.heap.size (fun _ => True) v7 p) ∧ Aside0 (Below w.heap.size w w'))
 case atStart => exact ⟨(I), (0), q_r, H', ⟨Nat.le_refl _⟩, ⟨by (with_reducible repeat (first | apply Kd.R_alloc | apply Kd.R_drewN | apply Kd.R_drew)); exact HO_7.out⟩, ⟨q_w y.out⟩⟩
 case round => (
 clear H'; clear c7b0; obtain ⟨p, B, rfl, HA, d1, HO_7, y⟩ := hrel; cases gk with
 | zero => exact absurd HA.out (by simp [r6_Heads.l1])
 | succ k2 => (
 have H := HA.out; clear HA; simp only [r6_Heads.l1] at H
 rcases q_ite H with ⟨c11b0, H⟩ | ⟨c11b0, H⟩
 {
 replace H := q_gD H; obtain ⟨-, c12b0, H⟩ := H; replace H := q_g H; obtain ⟨f8, H⟩ := H; have a2 := a_ f8; clear f8; obtain ⟨d8, a3⟩ : ∃ y_ : List ByteArray, y_ = (p ++ [(rd_T85 l2 B).f0]) := ⟨_, rfl⟩; replace H : (r6_Heads.l1 k2 l2 d8 (wrap64 (B + 1))) = some r := q_rw a3 H
 have a4 := a_ a3; clear a3; have H' := a_ H
 clear H; obtain ⟨i3, f9, g0, g1, j6, j7⟩ := b_T85 U.out y.out B; cases f9; go_wp2_with (first | ((with_reducible refine gate_builtin (b := .append) (xs := #[.tmp 36, .tmp 42]) rfl ?_); at_builtin; refine Kd.R_append Kd.string (w0 := w) w.heap.size rfl (.tmp 36) (.tmp 42) 100 9 (.string ⟨#[]⟩) 16 rfl Tryd.underlying100 info9 rfl (by decide) (by omega) u7 p ((rd_T85 l2 B).f0) [.string ((rd_T85 l2 B).f0)] (fun _ => True) (fun _ => False) rfl rfl ?aP (fun _ hk => hk.elim) ?aF ?aO ?aB ?aS ?aL ?_; (case aP => exact rfl); (case aB => exact (q_w y.out)); (case aF => exact (fun _ _ => trivial)); (case aO => exact (by (with_reducible repeat (first | apply Kd.R_alloc | apply Kd.R_drewN | apply Kd.R_drew)); exact HO_7.out)); (case aS => exact (below_size (q_w y.out))); (case aL => have := a2.out; omega); intro d9 g2 ho hb hg hat; rw [← a4.out] at ho; have D := a_ (hb); have E := a_ (ho); clear y; clear HO_7; have y := D; have a5 := E; clear D E; clear ho hb hg hat))
 repeat (go_quiet (first | ((with_reducible refine gate_builtin (b := .append) (xs := #[.tmp 36, .tmp 42]) rfl ?_); at_builtin; refine Kd.R_append Kd.string (w0 := w) w.heap.size rfl (.tmp 36) (.tmp 42) 100 9 (.string ⟨#[]⟩) 16 rfl Tryd.underlying100 info9 rfl (by decide) (by omega) u7 p ((rd_T85 l2 B).f0) [.string ((rd_T85 l2 B).f0)] (fun _ => True) (fun _ => False) rfl rfl ?aP (fun _ hk => hk.elim) ?aF ?aO ?aB ?aS ?aL ?_; (case aP => exact rfl); (case aB => exact (q_w y.out)); (case aF => exact (fun _ _ => trivial)); (case aO => exact (by (with_reducible repeat (first | apply Kd.R_alloc | apply Kd.R_drewN | apply Kd.R_drew)); exact HO_7.out)); (case aS => exact (below_size (q_w y.out))); (case aL => have := a2.out; omega); intro d9 g2 ho hb hg hat; rw [← a4.out] at ho; have D := a_ (hb); have E := a_ (ho); clear y; clear HO_7; have y := D; have a5 := E; clear D E; clear ho hb hg hat)); try go_wp2_with (first | ((with_reducible refine gate_builtin (b := .append) (xs := #[.tmp 36, .tmp 42]) rfl ?_); at_builtin; refine Kd.R_append Kd.string (w0 := w) w.heap.size rfl (.tmp 36) (.tmp 42) 100 9 (.string ⟨#[]⟩) 16 rfl Tryd.underlying100 info9 rfl (by decide) (by omega) u7 p ((rd_T85 l2 B).f0) [.string ((rd_T85 l2 B).f0)] (fun _ => True) (fun _ => False) rfl rfl ?aP (fun _ hk => hk.elim) ?aF ?aO ?aB ?aS ?aL ?_; (case aP => exact rfl); (case aB => exact (q_w y.out)); (case aF => exact (fun _ _ => trivial)); (case aO => exact (by (with_reducible repeat (first | apply Kd.R_alloc | apply Kd.R_drewN | apply Kd.R_drew)); exact HO_7.out)); (case aS => exact (below_size (q_w y.out))); (case aL => have := a2.out; omega); intro d9 g2 ho hb hg hat; rw [← a4.out] at ho; have D := a_ (hb); have E := a_ (ho); clear y; clear HO_7; have y := D; have a5 := E; clear D E; clear ho hb hg hat)))
 go_roundg k2
 case measure => have := b0.out; have := d1.out; omega
 case rel => exact ⟨(d8), (wrap64 (B + 1)), q_r, H', ⟨by have := b0.out; have := d1.out; omega⟩, ⟨by (with_reducible repeat (first | apply Kd.R_alloc | apply Kd.R_drewN | apply Kd.R_drew)); exact a5.out⟩, ⟨q_w y.out⟩⟩}
 {
 have H' := a_ H
 clear H; go_wp2
 repeat (go_quiet (fail); try go_wp2)
 go_loopg [10] k2 (fun kq i4 w' => ∃ (l : Int), i4 = .int .i64 l ∧ Aside0 (r6_Heads.l2 kq p l = some r) ∧ Aside0 (kq ≤ k2) ∧ Aside0 (Kd.R Kd.string 9 w' w.heap.size (fun _ => True) u7 p) ∧ Aside0 (Below w.heap.size w w'))
 case atStart => exact ⟨(0), q_r, H', ⟨Nat.le_refl _⟩, ⟨by (with_reducible repeat (first | apply Kd.R_alloc | apply Kd.R_drewN | apply Kd.R_drew)); exact HO_7.out⟩, ⟨q_w y.out⟩⟩
 case round => (
 clear H'; clear c11b0; obtain ⟨l, rfl, HA, g3, HO_7, y⟩ := hrel; cases gk with
 | zero => exact absurd HA.out (by simp [r6_Heads.l2])
 | succ k3 => (
 have H := HA.out; clear HA; simp only [r6_Heads.l2] at H
 rcases q_ite H with ⟨c15b0, H⟩ | ⟨c15b0, H⟩
 {
 replace H := q_gD H; obtain ⟨-, c16b0, H⟩ := H; have c17b0 := eq_true (q_d : 0 ≤ l); replace H := q_gED H; obtain ⟨-, c18b0, c18b1, H⟩ := H; obtain ⟨F, a6⟩ : ∃ y_ : List ByteArray, y_ = (p.take (l : Int).toNat) := ⟨_, rfl⟩; replace H : ((r2_In.f k3 (rdOf ByteArray.empty p l) F).bind fun b4 => (if b4 = true then (some false) else (r6_Heads.l2 k3 p (wrap64 (l + 1))))) = some r := q_rw a6 H
 have N := a_ a6; clear a6; replace H := Option.bind_eq_some_iff.mp H; obtain ⟨b4, e0, H⟩ := H; have b1 := a_ e0; clear e0; by_cases d3 : b4 = true
 {
 subst d3; rw [if_pos rfl] at H; obtain rfl := Option.some.inj H; obtain ⟨j8, b5, g4⟩ := Kd.R_slice HO_7.out; subst g4; have J : 0 ≤ (l : Int) := q_d
 have L : l < (p.length : Int) := q_d
 obtain ⟨M, b6, b7⟩ := Kd.at_string (Kd.R_reads' HO_7.out).2.2 l J L; cases b6; replace J := eq_true J; replace L := eq_true L; have e3 : (l : Int) ≤ ((p.length : Int) : Int) := q_d
 obtain ⟨j9, b8, _, e4, _⟩ := info_parts info9; have O : p.length ≤ b5 := (Kd.R_reads' HO_7.out).2.1
 have e1 : Kd.C Kd.string _ (some M) p.length p := (Kd.R_reads' HO_7.out).2.2
 have d4 := cut_to (P := Tryd.prog) 100 9 .i64 Tryd.underlying100 b8 (some M) p.length b5 l (q_d) e3 O; have b9 := Kd.C_take (m := (l : Int).toNat) e1 (by omega)
 have c0 : F.length = (l : Int).toNat := (by rw [N.out, List.length_take]; omega)
 rw [← N.out] at b9; rw [← c0] at d4; have q := a_ b9; have G := a_ (show F.length ≤ b5 from by omega)
 clear b9 e1 O b8 e4; have k0 := a_ c0; clear c0; have k4 := a_ (show (l : Int).toNat ≤ p.length from by omega)
 replace e3 := eq_true e3; go_wp2_with (first | (go_at_call 64; (with_reducible refine (r2_In.calls k3 (rdOf ByteArray.empty p l) _ _ F true _ ?side1 G.out b1.out).mono ?_); (case side1 => repeat (first | exact (by repeat (first | (with_reducible exact q.out) | with_reducible first | refine Kd.C_alloc ?_ _ | refine Kd.C_drewN ?_ _ | refine Kd.C_drew ?_ | exact q.out)) | with_reducible first | refine Kd.C_alloc ?_ _ | refine Kd.C_drewN ?_ _ | refine Kd.C_drew ?_)); rintro e w' ⟨rfl, ⟨nd, rfl⟩⟩; (try first | exact ⟨rfl, _, World.drewN_drewN _ _ _⟩ | exact ⟨rfl, _, Eq.trans (World.drewN_drewN _ _ _) (congrArg (World.drewN _) (Nat.add_assoc _ _ _))⟩)))
 repeat (go_quiet (first | (go_at_call 64; (with_reducible refine (r2_In.calls k3 (rdOf ByteArray.empty p l) _ _ F true _ ?side1 G.out b1.out).mono ?_); (case side1 => repeat (first | exact (by repeat (first | (with_reducible exact q.out) | with_reducible first | refine Kd.C_alloc ?_ _ | refine Kd.C_drewN ?_ _ | refine Kd.C_drew ?_ | exact q.out)) | with_reducible first | refine Kd.C_alloc ?_ _ | refine Kd.C_drewN ?_ _ | refine Kd.C_drew ?_)); rintro e w' ⟨rfl, ⟨nd, rfl⟩⟩; (try first | exact ⟨rfl, _, World.drewN_drewN _ _ _⟩ | exact ⟨rfl, _, Eq.trans (World.drewN_drewN _ _ _) (congrArg (World.drewN _) (Nat.add_assoc _ _ _))⟩))); try go_wp2_with (first | (go_at_call 64; (with_reducible refine (r2_In.calls k3 (rdOf ByteArray.empty p l) _ _ F true _ ?side1 G.out b1.out).mono ?_); (case side1 => repeat (first | exact (by repeat (first | (with_reducible exact q.out) | with_reducible first | refine Kd.C_alloc ?_ _ | refine Kd.C_drewN ?_ _ | refine Kd.C_drew ?_ | exact q.out)) | with_reducible first | refine Kd.C_alloc ?_ _ | refine Kd.C_drewN ?_ _ | refine Kd.C_drew ?_)); rintro e w' ⟨rfl, ⟨nd, rfl⟩⟩; (try first | exact ⟨rfl, _, World.drewN_drewN _ _ _⟩ | exact ⟨rfl, _, Eq.trans (World.drewN_drewN _ _ _) (congrArg (World.drewN _) (Nat.add_assoc _ _ _))⟩))))
 go_ret
 exact ⟨q_e, q_w y.out⟩}
 {
 replace d3 := Bool.eq_false_iff.mpr d3; subst d3; rw [if_neg Bool.false_ne_true] at H; have H' := a_ H
 clear H; obtain ⟨k5, c3, g6⟩ := Kd.R_slice HO_7.out; subst g6; have J : 0 ≤ (l : Int) := q_d
 have L : l < (p.length : Int) := q_d
 obtain ⟨M, b6, b7⟩ := Kd.at_string (Kd.R_reads' HO_7.out).2.2 l J L; cases b6; replace J := eq_true J; replace L := eq_true L; have e5 : (l : Int) ≤ ((p.length : Int) : Int) := q_d
 obtain ⟨k6, c4, _, e6, _⟩ := info_parts info9; have S : p.length ≤ c3 := (Kd.R_reads' HO_7.out).2.1
 have e2 : Kd.C Kd.string _ (some M) p.length p := (Kd.R_reads' HO_7.out).2.2
 have d5 := cut_to (P := Tryd.prog) 100 9 .i64 Tryd.underlying100 c4 (some M) p.length c3 l (q_d) e5 S; have c6 := Kd.C_take (m := (l : Int).toNat) e2 (by omega)
 have c8 : F.length = (l : Int).toNat := (by rw [N.out, List.length_take]; omega)
 rw [← N.out] at c6; rw [← c8] at d5; have q := a_ c6; have G := a_ (show F.length ≤ c3 from by omega)
 clear c6 e2 S c4 e6; have k7 := a_ c8; clear c8; have k8 := a_ (show (l : Int).toNat ≤ p.length from by omega)
 replace e5 := eq_true e5; go_wp2_with (first | (go_at_call 64; (with_reducible refine (r2_In.calls k3 (rdOf ByteArray.empty p l) _ _ F false _ ?side1 G.out b1.out).mono ?_); (case side1 => repeat (first | exact (by repeat (first | (with_reducible exact q.out) | with_reducible first | refine Kd.C_alloc ?_ _ | refine Kd.C_drewN ?_ _ | refine Kd.C_drew ?_ | exact q.out)) | with_reducible first | refine Kd.C_alloc ?_ _ | refine Kd.C_drewN ?_ _ | refine Kd.C_drew ?_)); rintro e w' ⟨rfl, ⟨nd, rfl⟩⟩; (try first | exact ⟨rfl, _, World.drewN_drewN _ _ _⟩ | exact ⟨rfl, _, Eq.trans (World.drewN_drewN _ _ _) (congrArg (World.drewN _) (Nat.add_assoc _ _ _))⟩)))
 repeat (go_quiet (first | (go_at_call 64; (with_reducible refine (r2_In.calls k3 (rdOf ByteArray.empty p l) _ _ F false _ ?side1 G.out b1.out).mono ?_); (case side1 => repeat (first | exact (by repeat (first | (with_reducible exact q.out) | with_reducible first | refine Kd.C_alloc ?_ _ | refine Kd.C_drewN ?_ _ | refine Kd.C_drew ?_ | exact q.out)) | with_reducible first | refine Kd.C_alloc ?_ _ | refine Kd.C_drewN ?_ _ | refine Kd.C_drew ?_)); rintro e w' ⟨rfl, ⟨nd, rfl⟩⟩; (try first | exact ⟨rfl, _, World.drewN_drewN _ _ _⟩ | exact ⟨rfl, _, Eq.trans (World.drewN_drewN _ _ _) (congrArg (World.drewN _) (Nat.add_assoc _ _ _))⟩))); try go_wp2_with (first | (go_at_call 64; (with_reducible refine (r2_In.calls k3 (rdOf ByteArray.empty p l) _ _ F false _ ?side1 G.out b1.out).mono ?_); (case side1 => repeat (first | exact (by repeat (first | (with_reducible exact q.out) | with_reducible first | refine Kd.C_alloc ?_ _ | refine Kd.C_drewN ?_ _ | refine Kd.C_drew ?_ | exact q.out)) | with_reducible first | refine Kd.C_alloc ?_ _ | refine Kd.C_drewN ?_ _ | refine Kd.C_drew ?_)); rintro e w' ⟨rfl, ⟨nd, rfl⟩⟩; (try first | exact ⟨rfl, _, World.drewN_drewN _ _ _⟩ | exact ⟨rfl, _, Eq.trans (World.drewN_drewN _ _ _) (congrArg (World.drewN _) (Nat.add_assoc _ _ _))⟩))))
 go_roundg k3
 case measure => have := b0.out; have := d1.out; have := g3.out; omega
 case rel => exact ⟨(wrap64 (l + 1)), q_r, H', ⟨by have := b0.out; have := d1.out; have := g3.out; omega⟩, ⟨by (with_reducible repeat (first | apply Kd.R_alloc | apply Kd.R_drewN | apply Kd.R_drew)); exact HO_7.out⟩, ⟨q_w y.out⟩⟩}}
 {
 obtain rfl := Option.some.inj H; obtain ⟨k9, l4, g7⟩ := Kd.R_slice HO_7.out; subst g7; go_wp2
 repeat (go_quiet (fail); try go_wp2)
 go_ret
 exact ⟨q_e, q_w y.out⟩}))}))}))}
 {
 replace c5 := Bool.eq_false_iff.mpr c5; subst c5; rw [if_neg Bool.false_ne_true] at H; obtain rfl := Option.some.inj H; go_enter Tryd.func45, Tryd.ntmps45
 go_wp2_with (first | (go_at_call 63; (with_reducible refine (r3_Head.calls k a0 _ _ l1 _ _ l2 false _ (q_C T.out) a8.out (q_C U.out) a9.out A4.out).mono ?_); rintro e g8 ⟨rfl, hb⟩; replace y := a_ (q_st y.out hb); (clear hb)))
 repeat (go_quiet (first | (go_at_call 63; (with_reducible refine (r3_Head.calls k a0 _ _ l1 _ _ l2 false _ (q_C T.out) a8.out (q_C U.out) a9.out A4.out).mono ?_); rintro e g8 ⟨rfl, hb⟩; replace y := a_ (q_st y.out hb))); try go_wp2_with (first | (go_at_call 63; (with_reducible refine (r3_Head.calls k a0 _ _ l1 _ _ l2 false _ (q_C T.out) a8.out (q_C U.out) a9.out A4.out).mono ?_); rintro e g8 ⟨rfl, hb⟩; replace y := a_ (q_st y.out hb))))
 go_ret
 exact ⟨q_e, q_w y.out⟩}
end Go.Proofs.YtefhpdcafdhcaaaDoor.A
end
