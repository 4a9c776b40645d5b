/- Texts of this claim, cut down to what its theorem uses and laid end to end (wip/shake.py). -/
import Derived.ArgAppend
import Derived.Below
import Derived.BigQuiet
import Derived.ChangeOld
import Derived.ChangeVars
import Derived.Deep.AppendLies
import Derived.Deep.CutBlock
import Derived.Deep.DeepCutAuto
import Derived.Deep.Draws
import Derived.Deep.LoopGhost
import Derived.Deep.MidRow
import Derived.Deep.OwnRows
import Derived.Deep.QuietTactic
import Derived.Deep.RegionHeld3
import Derived.Deep.Slices
import Derived.KernelRfl
import Derived.LaidLaws
import Derived.LaidMore
import Derived.Laws.Bits64b
import Derived.Laws.BitsLemmas
import Derived.Laws.BytesArg
import Derived.Laws.CopyRow
import Derived.Laws.IdiomCopy
import Derived.Laws.MakeOwn
import Derived.Laws.OwnMore
import Derived.Laws.Rows
import Derived.Laws.Slices
import Derived.Laws.StructEq
import Derived.Lay
import Derived.Lib.AppendStr
import Derived.Lib.ConvBytes
import Derived.Lib.LaidTab
import Derived.Maps.AppendAt
import Derived.Maps.OwnOps
import Derived.Maps.OwnSet
import Derived.OpenShut
import Derived.OrdersHeld
import Derived.OwnWalk
import Derived.ProofKit
import Derived.RowKit
import Derived.RowKit3
import Derived.SevenTiedAt
import Derived.Shelf.Strings.Fields
import Derived.ShutString
import Derived.SizedLaws
import Derived.Stop.Joined
import Derived.StringKeys
import Derived.Tactics
import Derived.Test.YtefhpdcafdhcaaaDoorCards
import Derived.Test.YtefhpdcafdhcaaaDoorProg
import Derived.Test.YtefhpdcafdhcaaaDoorRows
import Derived.Test.YtefhpdcafdhcaaaDoorTie
import Derived.WalkKit
import Derived.WideLaws
import Derived.Test.YtefhpdcafdhcaaaDoorKE0
set_option maxHeartbeats 16000000
set_option maxRecDepth 100000
section
namespace Go.Proofs.YtefhpdcafdhcaaaDoor.A
open Go.RowKit Go.Proofs.YtefhpdcafdhcaaaDoorW.PrintWords Go.Proofs.YtefhpdcafdhcaaaDoorW.PrintLast Go.Proofs.YtefhpdcafdhcaaaDoorW.PrintMore
set_option linter.unusedVariables false
set_option linter.unusedSimpArgs false
def errW : Option Int → Value
 | none => .nilIface
 | some c => .iface 0 (.int .i64 c)
theorem errW_none : errW none = .nilIface := rfl
theorem errW_some (c : Int) : errW (some c) = .iface 0 (.int .i64 c) := rfl
theorem info3 : (Tryd.prog.info? 3).map (fun i => (i.zero, i.size, i.bytes)) = some (some (.int .i64 0), 1, 8) := by kernel_rfl
theorem info4 : (Tryd.prog.info? 4).map (fun i => (i.zero, i.size, i.bytes)) = some (some (.bool false), 1, 1) := by kernel_rfl
theorem info9 : (Tryd.prog.info? 9).map (fun i => (i.zero, i.size, i.bytes)) = some (some (.string ⟨#[]⟩), 1, 16) := by kernel_rfl
theorem info27 : (Tryd.prog.info? 27).map (fun i => (i.zero, i.size, i.bytes)) = some (some (.slice none 0 0), 1, 24) := by kernel_rfl
theorem info71 : (Tryd.prog.info? 71).map (fun i => (i.zero, i.size, i.bytes)) = some (some (.agg #[(.int .i64 0), (.int .i64 0), (.int .i64 0), (.int .i64 0), (.int .i64 0), (.int .i32 0), (.slice none 0 0)]), 7, 72) := by kernel_rfl
def rd_L2 (xs : List (List Int)) (i : Int) : (List Int) := xs.getD i.toNat ([] : List Int)
theorem at_L2 {w : World} {A : Option Addr} {n : Nat} {xs : List (List Int)} (h : Kd.C (Kd.slice 3 (Kd.int .i64)) w A n xs) (i : Int) (E : 0 ≤ i) (h1 : i < n) : ∃ ad b l, A = some ad ∧ w.cell? (ad.add i.toNat) = some (.slice b (rd_L2 xs i).length l) ∧ (rd_L2 xs i).length ≤ l ∧ (Kd.int .i64).C w b (rd_L2 xs i).length (rd_L2 xs i) := by
 obtain ⟨ad, c, e, _, hK, y⟩ := Kd.C_get h ([] : List Int) i E h1; have hc : ∀ j u, c[j]? = some u → w.cell? (ad.add (i.toNat * 1 + j)) = some u := y
 obtain ⟨b, l, rfl, l0, F⟩ := hK; exact ⟨ad, b, l, e, by have hq := hc 0 _ rfl; rwa [Nat.mul_one, Nat.add_zero] at hq, l0, F⟩
theorem b_L2 {w W : World} {A : Option Addr} {n : Nat} {xs : List (List Int)} (h : Kd.C (Kd.slice 3 (Kd.int .i64)) w A n xs) (hB : Below w.heap.size w W) (i : Int) (p : 0 ≤ i := by exact q_d) (q : i < n := by exact q_d) : ∃ ad b l, A = some ad ∧ W.cell? (ad.add i.toNat) = some (.slice b (rd_L2 xs i).length l) ∧ (rd_L2 xs i).length ≤ l ∧ (Kd.int .i64).C w b (rd_L2 xs i).length (rd_L2 xs i) ∧ (0 ≤ i) = True ∧ (i < n) = True := by
 obtain ⟨ad, b, l, e_, z, B, D⟩ := at_L2 h i p q; exact ⟨ad, b, l, e_, q_kc hB z, B, D, eq_true p, eq_true q⟩
abbrev S71 := FlowM.Ins
def z71 : S71 := ⟨(0 : Int), (0 : Int), (0 : Int), (0 : Int), (0 : Int), (0 : Int), ([] : List Int)⟩
def k71 : Kd S71 := Kd.iso (Kd.pair (Kd.int .i64) (Kd.pair (Kd.int .i64) (Kd.pair (Kd.int .i64) (Kd.pair (Kd.int .i64) (Kd.pair (Kd.int .i64) (Kd.pair (Kd.int .i32) (Kd.slice 3 (Kd.int .i64)))))))) (fun x : S71 => (x.f0, x.f1, x.f2, x.f3, x.f4, x.f5, x.f6))
theorem k71_open {w : World} {x : S71} {cs : List Value} (h : k71.K w x cs) : ∃ b l, cs = [.int .i64 x.f0, .int .i64 x.f1, .int .i64 x.f2, .int .i64 x.f3, .int .i64 x.f4, .int .i32 x.f5, .slice b x.f6.length l] ∧ x.f6.length ≤ l ∧ (Kd.int .i64).C w b x.f6.length x.f6 := by
 obtain ⟨_, _, rfl, rfl, ⟨_, _, rfl, rfl, ⟨_, _, rfl, rfl, ⟨_, _, rfl, rfl, ⟨_, _, rfl, rfl, ⟨_, _, rfl, rfl, ⟨b, l, rfl, p, q⟩⟩⟩⟩⟩⟩⟩ := h; exact ⟨b, l, rfl, p, q⟩
theorem k71_mk (w : World) (x : S71) {b : Option Addr} {l : Nat} (p : x.f6.length ≤ l) (q : (Kd.int .i64).C w b x.f6.length x.f6) : k71.K w x [.int .i64 x.f0, .int .i64 x.f1, .int .i64 x.f2, .int .i64 x.f3, .int .i64 x.f4, .int .i32 x.f5, .slice b x.f6.length l] := ⟨[.int .i64 x.f0], [.int .i64 x.f1, .int .i64 x.f2, .int .i64 x.f3, .int .i64 x.f4, .int .i32 x.f5, .slice b x.f6.length l], rfl, rfl, ⟨[.int .i64 x.f1], [.int .i64 x.f2, .int .i64 x.f3, .int .i64 x.f4, .int .i32 x.f5, .slice b x.f6.length l], rfl, rfl, ⟨[.int .i64 x.f2], [.int .i64 x.f3, .int .i64 x.f4, .int .i32 x.f5, .slice b x.f6.length l], rfl, rfl, ⟨[.int .i64 x.f3], [.int .i64 x.f4, .int .i32 x.f5, .slice b x.f6.length l], rfl, rfl, ⟨[.int .i64 x.f4], [.int .i32 x.f5, .slice b x.f6.length l], rfl, rfl, ⟨[.int .i32 x.f5], [.slice b x.f6.length l], rfl, rfl, ⟨b, l, rfl, p, q⟩⟩⟩⟩⟩⟩⟩
theorem k71_mkF (W : World) (ok : Nat → Prop) (x : S71) {b : Option Addr} {l : Nat} (q : x.f6.length ≤ l) (y : Kd.F (Kd.int .i64) W ok b x.f6.length x.f6) : Kd.FK k71 W ok x [.int .i64 x.f0, .int .i64 x.f1, .int .i64 x.f2, .int .i64 x.f3, .int .i64 x.f4, .int .i32 x.f5, .slice b x.f6.length l] := fun p hW => k71_mk p x q (y p hW)
def rd_T71 (xs : List S71) (i : Int) : S71 := xs.getD i.toNat z71
theorem at_T71 {w : World} {A : Option Addr} {n : Nat} {xs : List S71} (h : Kd.C k71 w A n xs) (i : Int) (M : 0 ≤ i) (h1 : i < n) : ∃ ad b l, A = some ad ∧ w.cell? (ad.add (i.toNat * 7)) = some (.int .i64 (rd_T71 xs i).f0) ∧ w.cell? ⟨(ad.add (i.toNat * 7)).block, (ad.add (i.toNat * 7)).off + 1, none⟩ = some (.int .i64 (rd_T71 xs i).f1) ∧ w.cell? ⟨(ad.add (i.toNat * 7)).block, (ad.add (i.toNat * 7)).off + 2, none⟩ = some (.int .i64 (rd_T71 xs i).f2) ∧ w.cell? ⟨(ad.add (i.toNat * 7)).block, (ad.add (i.toNat * 7)).off + 3, none⟩ = some (.int .i64 (rd_T71 xs i).f3) ∧ w.cell? ⟨(ad.add (i.toNat * 7)).block, (ad.add (i.toNat * 7)).off + 4, none⟩ = some (.int .i64 (rd_T71 xs i).f4) ∧ w.cell? ⟨(ad.add (i.toNat * 7)).block, (ad.add (i.toNat * 7)).off + 5, none⟩ = some (.int .i32 (rd_T71 xs i).f5) ∧ w.cell? ⟨(ad.add (i.toNat * 7)).block, (ad.add (i.toNat * 7)).off + 6, none⟩ = some (.slice b (rd_T71 xs i).f6.length l) ∧ (rd_T71 xs i).f6.length ≤ l ∧ (Kd.int .i64).C w b (rd_T71 xs i).f6.length (rd_T71 xs i).f6 := by
 obtain ⟨ad, c, e, _, hK, y⟩ := Kd.C_get h z71 i M h1; have hc : ∀ j u, c[j]? = some u → w.cell? (ad.add (i.toNat * 7 + j)) = some u := y
 obtain ⟨b, l, rfl, N, O⟩ := k71_open hK; exact ⟨ad, b, l, e, hc 0 _ rfl, by rw [← add_field _ _ 1 (by omega)]; exact hc 1 _ rfl, by rw [← add_field _ _ 2 (by omega)]; exact hc 2 _ rfl, by rw [← add_field _ _ 3 (by omega)]; exact hc 3 _ rfl, by rw [← add_field _ _ 4 (by omega)]; exact hc 4 _ rfl, by rw [← add_field _ _ 5 (by omega)]; exact hc 5 _ rfl, by rw [← add_field _ _ 6 (by omega)]; exact hc 6 _ rfl, N, O⟩
theorem b_T71 {w W : World} {A : Option Addr} {n : Nat} {xs : List S71} (h : Kd.C k71 w A n xs) (hB : Below w.heap.size w W) (i : Int) (p : 0 ≤ i := by exact q_d) (q : i < n := by exact q_d) : ∃ ad b l, A = some ad ∧ W.cell? (ad.add (i.toNat * 7)) = some (.int .i64 (rd_T71 xs i).f0) ∧ W.cell? ⟨(ad.add (i.toNat * 7)).block, (ad.add (i.toNat * 7)).off + 1, none⟩ = some (.int .i64 (rd_T71 xs i).f1) ∧ W.cell? ⟨(ad.add (i.toNat * 7)).block, (ad.add (i.toNat * 7)).off + 2, none⟩ = some (.int .i64 (rd_T71 xs i).f2) ∧ W.cell? ⟨(ad.add (i.toNat * 7)).block, (ad.add (i.toNat * 7)).off + 3, none⟩ = some (.int .i64 (rd_T71 xs i).f3) ∧ W.cell? ⟨(ad.add (i.toNat * 7)).block, (ad.add (i.toNat * 7)).off + 4, none⟩ = some (.int .i64 (rd_T71 xs i).f4) ∧ W.cell? ⟨(ad.add (i.toNat * 7)).block, (ad.add (i.toNat * 7)).off + 5, none⟩ = some (.int .i32 (rd_T71 xs i).f5) ∧ W.cell? ⟨(ad.add (i.toNat * 7)).block, (ad.add (i.toNat * 7)).off + 6, none⟩ = some (.slice b (rd_T71 xs i).f6.length l) ∧ (rd_T71 xs i).f6.length ≤ l ∧ (Kd.int .i64).C w b (rd_T71 xs i).f6.length (rd_T71 xs i).f6 ∧ (0 ≤ i) = True ∧ (i < n) = True := by
 obtain ⟨ad, b, l, e_, z, B, D, E, F, G, I, J, L⟩ := at_T71 h i p q; exact ⟨ad, b, l, e_, q_kc hB z, q_kc hB B, q_kc hB D, q_kc hB E, q_kc hB F, q_kc hB G, q_kc hB I, J, L, eq_true p, eq_true q⟩
abbrev S69 := FlowM.Nd
def z69 : S69 := ⟨([] : List S71), (0 : Int), (0 : Int), (0 : Int), (0 : Int)⟩
def k69 : Kd S69 := Kd.iso (Kd.pair (Kd.slice 71 k71) (Kd.pair (Kd.int .i64) (Kd.pair (Kd.int .i64) (Kd.pair (Kd.int .i64) (Kd.int .i64))))) (fun x : S69 => (x.f0, x.f1, x.f2, x.f3, x.f4))
theorem k69_open {w : World} {x : S69} {cs : List Value} (h : k69.K w x cs) : ∃ b l, cs = [.slice b x.f0.length l, .int .i64 x.f1, .int .i64 x.f2, .int .i64 x.f3, .int .i64 x.f4] ∧ x.f0.length ≤ l ∧ k71.C w b x.f0.length x.f0 := by
 obtain ⟨_, _, rfl, ⟨b, l, rfl, l0, p⟩, ⟨_, _, rfl, rfl, ⟨_, _, rfl, rfl, ⟨_, _, rfl, rfl, rfl⟩⟩⟩⟩ := h; exact ⟨b, l, rfl, l0, p⟩
theorem k69_mk (w : World) (x : S69) {b : Option Addr} {l : Nat} (l0 : x.f0.length ≤ l) (p : k71.C w b x.f0.length x.f0) : k69.K w x [.slice b x.f0.length l, .int .i64 x.f1, .int .i64 x.f2, .int .i64 x.f3, .int .i64 x.f4] := ⟨[.slice b x.f0.length l], [.int .i64 x.f1, .int .i64 x.f2, .int .i64 x.f3, .int .i64 x.f4], rfl, ⟨b, l, rfl, l0, p⟩, ⟨[.int .i64 x.f1], [.int .i64 x.f2, .int .i64 x.f3, .int .i64 x.f4], rfl, rfl, ⟨[.int .i64 x.f2], [.int .i64 x.f3, .int .i64 x.f4], rfl, rfl, ⟨[.int .i64 x.f3], [.int .i64 x.f4], rfl, rfl, rfl⟩⟩⟩⟩
theorem k69_mkF (W : World) (ok : Nat → Prop) (x : S69) {b : Option Addr} {l : Nat} (l0 : x.f0.length ≤ l) (q : Kd.F k71 W ok b x.f0.length x.f0) : Kd.FK k69 W ok x [.slice b x.f0.length l, .int .i64 x.f1, .int .i64 x.f2, .int .i64 x.f3, .int .i64 x.f4] := fun p hW => k69_mk p x l0 (q p hW)
def rd_T69 (xs : List S69) (i : Int) : S69 := xs.getD i.toNat z69
theorem at_T69 {w : World} {A : Option Addr} {n : Nat} {xs : List S69} (h : Kd.C k69 w A n xs) (i : Int) (J : 0 ≤ i) (h1 : i < n) : ∃ ad b l, A = some ad ∧ w.cell? (ad.add (i.toNat * 5)) = some (.slice b (rd_T69 xs i).f0.length l) ∧ w.cell? ⟨(ad.add (i.toNat * 5)).block, (ad.add (i.toNat * 5)).off + 1, none⟩ = some (.int .i64 (rd_T69 xs i).f1) ∧ w.cell? ⟨(ad.add (i.toNat * 5)).block, (ad.add (i.toNat * 5)).off + 2, none⟩ = some (.int .i64 (rd_T69 xs i).f2) ∧ w.cell? ⟨(ad.add (i.toNat * 5)).block, (ad.add (i.toNat * 5)).off + 3, none⟩ = some (.int .i64 (rd_T69 xs i).f3) ∧ w.cell? ⟨(ad.add (i.toNat * 5)).block, (ad.add (i.toNat * 5)).off + 4, none⟩ = some (.int .i64 (rd_T69 xs i).f4) ∧ (rd_T69 xs i).f0.length ≤ l ∧ k71.C w b (rd_T69 xs i).f0.length (rd_T69 xs i).f0 := by
 obtain ⟨ad, c, e, _, hK, y⟩ := Kd.C_get h z69 i J h1; have hc : ∀ j u, c[j]? = some u → w.cell? (ad.add (i.toNat * 5 + j)) = some u := y
 obtain ⟨b, l, rfl, l0, L⟩ := k69_open hK; exact ⟨ad, b, l, e, hc 0 _ rfl, by rw [← add_field _ _ 1 (by omega)]; exact hc 1 _ rfl, by rw [← add_field _ _ 2 (by omega)]; exact hc 2 _ rfl, by rw [← add_field _ _ 3 (by omega)]; exact hc 3 _ rfl, by rw [← add_field _ _ 4 (by omega)]; exact hc 4 _ rfl, l0, L⟩
theorem b_T69 {w W : World} {A : Option Addr} {n : Nat} {xs : List S69} (h : Kd.C k69 w A n xs) (hB : Below w.heap.size w W) (i : Int) (p : 0 ≤ i := by exact q_d) (q : i < n := by exact q_d) : ∃ ad b l, A = some ad ∧ W.cell? (ad.add (i.toNat * 5)) = some (.slice b (rd_T69 xs i).f0.length l) ∧ W.cell? ⟨(ad.add (i.toNat * 5)).block, (ad.add (i.toNat * 5)).off + 1, none⟩ = some (.int .i64 (rd_T69 xs i).f1) ∧ W.cell? ⟨(ad.add (i.toNat * 5)).block, (ad.add (i.toNat * 5)).off + 2, none⟩ = some (.int .i64 (rd_T69 xs i).f2) ∧ W.cell? ⟨(ad.add (i.toNat * 5)).block, (ad.add (i.toNat * 5)).off + 3, none⟩ = some (.int .i64 (rd_T69 xs i).f3) ∧ W.cell? ⟨(ad.add (i.toNat * 5)).block, (ad.add (i.toNat * 5)).off + 4, none⟩ = some (.int .i64 (rd_T69 xs i).f4) ∧ (rd_T69 xs i).f0.length ≤ l ∧ k71.C w b (rd_T69 xs i).f0.length (rd_T69 xs i).f0 ∧ (0 ≤ i) = True ∧ (i < n) = True := by
 obtain ⟨ad, b, l, e_, z, B, D, E, F, G, I⟩ := at_T69 h i p q; exact ⟨ad, b, l, e_, q_kc hB z, q_kc hB B, q_kc hB D, q_kc hB E, q_kc hB F, G, I, eq_true p, eq_true q⟩
abbrev S83 := FlowM.Par
def z83 : S83 := ⟨(⟨#[]⟩ : ByteArray), false⟩
def k83 : Kd S83 := Kd.iso (Kd.pair Kd.string Kd.bool) (fun x : S83 => (x.f0, x.f1))
theorem k83_open {w : World} {x : S83} {cs : List Value} (h : k83.K w x cs) : cs = [.string x.f0, .bool x.f1] := by
 obtain ⟨_, _, rfl, rfl, rfl⟩ := h; exact rfl
theorem k83_mkM (w : World) (base : Nat) (ok : Nat → Prop) (x : S83)  : k83.M w base ok x [.string x.f0, .bool x.f1] := ⟨[.string x.f0], [.bool x.f1], rfl, rfl, rfl⟩
def rd_T83 (xs : List S83) (i : Int) : S83 := xs.getD i.toNat z83
theorem at_T83 {w : World} {A : Option Addr} {n : Nat} {xs : List S83} (h : Kd.C k83 w A n xs) (i : Int) (z : 0 ≤ i) (h1 : i < n) : ∃ ad , A = some ad ∧ w.cell? (ad.add (i.toNat * 2)) = some (.string (rd_T83 xs i).f0) ∧ w.cell? ⟨(ad.add (i.toNat * 2)).block, (ad.add (i.toNat * 2)).off + 1, none⟩ = some (.bool (rd_T83 xs i).f1) := by
 obtain ⟨ad, c, e, _, hK, b⟩ := Kd.C_get h z83 i z h1; have hc : ∀ j u, c[j]? = some u → w.cell? (ad.add (i.toNat * 2 + j)) = some u := b
 obtain rfl := k83_open hK; exact ⟨ad, e, hc 0 _ rfl, by rw [← add_field _ _ 1 (by omega)]; exact hc 1 _ rfl⟩
theorem b_T83 {w W : World} {A : Option Addr} {n : Nat} {xs : List S83} (h : Kd.C k83 w A n xs) (hB : Below w.heap.size w W) (i : Int) (p : 0 ≤ i := by exact q_d) (q : i < n := by exact q_d) : ∃ ad, A = some ad ∧ W.cell? (ad.add (i.toNat * 2)) = some (.string (rd_T83 xs i).f0) ∧ W.cell? ⟨(ad.add (i.toNat * 2)).block, (ad.add (i.toNat * 2)).off + 1, none⟩ = some (.bool (rd_T83 xs i).f1) ∧ (0 ≤ i) = True ∧ (i < n) = True := by
 obtain ⟨ad, e_, l, y⟩ := at_T83 h i p q; exact ⟨ad, e_, q_kc hB l, q_kc hB y, eq_true p, eq_true q⟩
abbrev S85 := FlowM.Arr
def z85 : S85 := ⟨(⟨#[]⟩ : ByteArray), (0 : Int)⟩
def k85 : Kd S85 := Kd.iso (Kd.pair Kd.string (Kd.int .i64)) (fun x : S85 => (x.f0, x.f1))
theorem k85_open {w : World} {x : S85} {cs : List Value} (h : k85.K w x cs) : cs = [.string x.f0, .int .i64 x.f1] := by
 obtain ⟨_, _, rfl, rfl, rfl⟩ := h; exact rfl
def rd_T85 (xs : List S85) (i : Int) : S85 := xs.getD i.toNat z85
theorem at_T85 {w : World} {A : Option Addr} {n : Nat} {xs : List S85} (h : Kd.C k85 w A n xs) (i : Int) (z : 0 ≤ i) (h1 : i < n) : ∃ ad , A = some ad ∧ w.cell? (ad.add (i.toNat * 2)) = some (.string (rd_T85 xs i).f0) ∧ w.cell? ⟨(ad.add (i.toNat * 2)).block, (ad.add (i.toNat * 2)).off + 1, none⟩ = some (.int .i64 (rd_T85 xs i).f1) := by
 obtain ⟨ad, c, e, _, hK, b⟩ := Kd.C_get h z85 i z h1; have hc : ∀ j u, c[j]? = some u → w.cell? (ad.add (i.toNat * 2 + j)) = some u := b
 obtain rfl := k85_open hK; exact ⟨ad, e, hc 0 _ rfl, by rw [← add_field _ _ 1 (by omega)]; exact hc 1 _ rfl⟩
theorem b_T85 {w W : World} {A : Option Addr} {n : Nat} {xs : List S85} (h : Kd.C k85 w A n xs) (hB : Below w.heap.size w W) (i : Int) (p : 0 ≤ i := by exact q_d) (q : i < n := by exact q_d) : ∃ ad, A = some ad ∧ W.cell? (ad.add (i.toNat * 2)) = some (.string (rd_T85 xs i).f0) ∧ W.cell? ⟨(ad.add (i.toNat * 2)).block, (ad.add (i.toNat * 2)).off + 1, none⟩ = some (.int .i64 (rd_T85 xs i).f1) ∧ (0 ≤ i) = True ∧ (i < n) = True := by
 obtain ⟨ad, e_, l, y⟩ := at_T85 h i p q; exact ⟨ad, e_, q_kc hB l, q_kc hB y, eq_true p, eq_true q⟩
def r5_SameInts.l0 : Nat → List Int → List Int → Int → Option (Bool)
 | 0, _, _, _ => none
 | k + 1, l, p, b => if b < (l.length : Int) then (if 0 ≤ b then (if b < (p.length : Int) then (if (rd l b) = (rd p b) then (r5_SameInts.l0 k l p (wrap64 (b + 1))) else (some false)) else (none)) else (none)) else (some true)
def r5_SameInts.f (k : Nat) (l0 : List Int) (l1 : List Int) : Option (Bool) := if (l0.length : Int) = (l1.length : Int) then (r5_SameInts.l0 k l0 l1 0) else (some false)
theorem r5_SameInts.calls (k : Nat) (U : Option Addr) (V : Nat) (l0 : List Int) (X : Option Addr) (c1 : Nat) (l1 : List Int) (r : Bool) (w : World) (J : Kd.C (Kd.int .i64) w U l0.length l0) (L : l0.length ≤ V) (M : Kd.C (Kd.int .i64) w X l1.length l1) (N : l1.length ≤ c1) (h : r5_SameInts.f k l0 l1 = some r) :
  Calls Tryd.prog 25 #[.slice U l0.length V, .slice X l1.length c1] w fun e w' => e = .returned (.bool r) ∧ Drawn0 w w' := by
 have O := a_ J; have a1 := a_ L; clear J L; have R := a_ M; have a2 := a_ N; clear M N; have H : (if (l0.length : Int) = (l1.length : Int) then (r5_SameInts.l0 k l0 l1 0) else (some false)) = some r := h
 clear h; replace H := q_iBN H; rcases H with ⟨I, c3b0, c3b1, H⟩ | ⟨I, c3b0, c3b1, H⟩
 {
 have c3b2 : (l0.length == l1.length) = true := by first | simpa using I | (simp at I ⊢; omega)
 clear I; have T := a_ H
 clear H; go_enter Tryd.func25, Tryd.ntmps25
 go_wp2
 repeat (go_quiet (fail); try go_wp2)
 go_loopg [5] k (fun kq v5 w' => ∃ (b : Int), v5 = .int .i64 b ∧ Aside0 (r5_SameInts.l0 kq l0 l1 b = some r) ∧ Aside0 (kq ≤ k) ∧ Drawn0 w w')
 case atStart => exact ⟨(0), q_r, T, ⟨Nat.le_refl _⟩, by repeat (first | exact Drawn0.refl _ | apply Drawn0.step)⟩
 case round => (
 clear T; clear c3b0 c3b1 c3b2; obtain ⟨b, rfl, HA, S, ⟨m1, rfl⟩⟩ := hrel; cases gk with
 | zero => exact absurd HA.out (by simp [r5_SameInts.l0])
 | succ k1 => (
 have H := HA.out; clear HA; simp only [r5_SameInts.l0] at H
 rcases q_ite H with ⟨c4b0, H⟩ | ⟨c4b0, H⟩
 {
 replace H := q_gD H; obtain ⟨-, c5b0, H⟩ := H; replace H := q_gD H; obtain ⟨-, c6b0, H⟩ := H; replace H := q_iBN H; rcases H with ⟨-, c7b0, c7b1, H⟩ | ⟨c7, c7b0, c7b1, H⟩
 {
 have T := a_ H
 clear H; have l : 0 ≤ (b : Int) := q_d
 have p : b < (l0.length : Int) := q_d
 obtain ⟨F, z, B⟩ := Kd.at_int O.out b l p; cases z; replace l := eq_true l; replace p := eq_true p; have q : 0 ≤ (b : Int) := q_d
 have y : b < (l1.length : Int) := q_d
 obtain ⟨G, D, E⟩ := Kd.at_int R.out b q y; cases D; replace q := eq_true q; replace y := eq_true y; go_wp2
 repeat (go_quiet (fail); try go_wp2)
 go_roundg k1
 case measure => have := S.out; omega
 case rel => exact ⟨(wrap64 (b + 1)), q_r, T, ⟨by have := S.out; omega⟩, by repeat (first | exact Drawn0.refl _ | apply Drawn0.step)⟩}
 {
 obtain rfl := Option.some.inj H; have l : 0 ≤ (b : Int) := q_d
 have p : b < (l0.length : Int) := q_d
 obtain ⟨F, z, B⟩ := Kd.at_int O.out b l p; cases z; replace l := eq_true l; replace p := eq_true p; have q : 0 ≤ (b : Int) := q_d
 have y : b < (l1.length : Int) := q_d
 obtain ⟨G, D, E⟩ := Kd.at_int R.out b q y; cases D; replace q := eq_true q; replace y := eq_true y; go_wp2
 repeat (go_quiet (fail); try go_wp2)
 go_ret
 exact ⟨by first | rfl | (simp; done) | (simp [*]; done), by repeat (first | exact Drawn0.refl _ | apply Drawn0.step)⟩}}
 {
 obtain rfl := Option.some.inj H; go_wp2
 repeat (go_quiet (fail); try go_wp2)
 go_ret
 exact ⟨by first | rfl | (simp; done) | (simp [*]; done), by repeat (first | exact Drawn0.refl _ | apply Drawn0.step)⟩}))}
 {
 have c3b2 : (l0.length == l1.length) = false := by first | simpa using I | (simp at I ⊢; omega)
 obtain rfl := Option.some.inj H; go_enter Tryd.func25, Tryd.ntmps25
 go_wp2
 repeat (go_quiet (fail); try go_wp2)
 go_ret
 exact ⟨by first | rfl | (simp; done) | (simp [*]; done), by repeat (first | exact Drawn0.refl _ | apply Drawn0.step)⟩}
def r6_Next.f (q : List (S71)) (b : Int) (y : Int) (l : Int) (p : Int) : Option (List Int) := if b = 0 then (some (([l] : List Int))) else (if b = 1 then (some (([l, p] : List Int))) else (some ([] : List Int)))
theorem r6_Next.calls (E : Option Addr) (F : Nat) (y : List (S71)) (B : Int) (G : Int) (b : Int) (q : Int) (r : List Int) (w : World) (O : Kd.C k71 w E y.length y) (S : y.length ≤ F) (h : r6_Next.f y B G b q = some r) :
  Calls Tryd.prog 56 #[.agg #[.slice E y.length F, .int .i64 B, .int .i64 G, .int .i64 b, .int .i64 q]] w fun e w' => ∃ a3 : Value, e = .returned (a3) ∧ Kd.R (Kd.int .i64) 3 w' w.heap.size (fun _ => True) a3 r ∧ Below w.heap.size w w' := by
 have e1 := Tryd.underlying69; have d9 := a_ O; have e0 := a_ S; clear O S; have D := a_ (Below.refl w.heap.size w); have H : (if B = 0 then (some (([b] : List Int))) else (if B = 1 then (some (([b, q] : List Int))) else (some ([] : List Int)))) = some r := h
 clear h; replace H := q_iBN H; rcases H with ⟨-, c2b0, c2b1, H⟩ | ⟨c2, c2b0, c2b1, H⟩
 {
 obtain ⟨a4, J⟩ : ∃ y_ : List Int, y_ = (([b] : List Int)) := ⟨_, rfl⟩; replace H : (some a4) = some r := q_rw J H
 have T := a_ J; clear J; obtain rfl := Option.some.inj H; go_enter Tryd.func56, Tryd.ntmps56
 go_wp2_with (first | ((with_reducible refine gd_ 1 rfl ?_); refine q_box 1 69 #[.slice E y.length F, .int .i64 B, .int .i64 G, .int .i64 b, .int .i64 q] ?_; intro U hg w3 z hb; have l := a_ (z); have V := a_ ((q_ge D.out hg)); have p := a_ ((q_ge D.out hg)); replace D := a_ (q_st D.out hb); clear hb z hg; obtain ⟨b6, b7, b8, b9, c0, c1, c3, c4, c6, c8⟩ := q_cf5 l.out) | ((with_reducible refine gd_ 9 rfl ?_); refine Kd.R_lit (Kd.int .i64) _ 3 ?hg (N := 9) ?hd (xs := ([b] : List Int)) (inner := [.int .i64 b]) (ok := fun _ => True) (okp := fun _ => True) ?hr ?hp (fun _ hk => hk) trivial (Below.refl _ _) (Nat.le_refl _) (by simp) ?_; (case hd => rfl); (case hg => rfl); (case hr => first | (go_simp; done) | (go_simp; rfl)); (case hp => exact (Reps.one (show Kd.M (Kd.int .i64) _ _ _ b [.int .i64 b] from rfl) (Reps.none _ _))); intro e2 w5 X hb hg_ hnew_; clear hg_ hnew_; (first | rw [← T.out] at X | (simp only [Int.reduceToNat] at X; rw [← T.out] at X)); have a1 := a_ (Kd.R_lower X (below_size (q_w1 D.out p.out))); replace l := a_ (q_bk l.out hb); replace D := a_ (q_st1 D.out hb p.out); clear hb X))
 go_ret
 exact ⟨_, q_e, by (with_reducible repeat (first | apply Kd.R_alloc | apply Kd.R_drewN | apply Kd.R_drew)); exact a1.out, q_w1 D.out p.out⟩}
 {
 replace H := q_iBN H; rcases H with ⟨-, c7b0, c7b1, H⟩ | ⟨c7, c7b0, c7b1, H⟩
 {
 obtain ⟨a5, L⟩ : ∃ y_ : List Int, y_ = (([b, q] : List Int)) := ⟨_, rfl⟩; replace H : (some a5) = some r := q_rw L H
 have a0 := a_ L; clear L; obtain rfl := Option.some.inj H; go_enter Tryd.func56, Tryd.ntmps56
 go_wp2_with (first | ((with_reducible refine gd_ 1 rfl ?_); refine q_box 1 69 #[.slice E y.length F, .int .i64 B, .int .i64 G, .int .i64 b, .int .i64 q] ?_; intro U hg w8 z hb; have l := a_ (z); have V := a_ ((q_ge D.out hg)); have p := a_ ((q_ge D.out hg)); replace D := a_ (q_st D.out hb); clear hb z hg; obtain ⟨c9, d0, d1, d2, d3, d4, d5, d6, d7, d8⟩ := q_cf5 l.out) | ((with_reducible refine gd_ 16 rfl ?_); refine Kd.R_lit (Kd.int .i64) _ 3 ?hg (N := 16) ?hd (xs := ([b, q] : List Int)) (inner := [.int .i64 b, .int .i64 q]) (ok := fun _ => True) (okp := fun _ => True) ?hr ?hp (fun _ hk => hk) trivial (Below.refl _ _) (Nat.le_refl _) (by simp) ?_; (case hd => rfl); (case hg => rfl); (case hr => first | (go_simp; done) | (go_simp; rfl)); (case hp => exact (Reps.one (show Kd.M (Kd.int .i64) _ _ _ b [.int .i64 b] from rfl) (Reps.one (show Kd.M (Kd.int .i64) _ _ _ q [.int .i64 q] from rfl) (Reps.none _ _)))); intro e3 e4 I hb hg_ hnew_; clear hg_ hnew_; (first | rw [← a0.out] at I | (simp only [Int.reduceToNat] at I; rw [← a0.out] at I)); have a2 := a_ (Kd.R_lower I (below_size (q_w1 D.out p.out))); replace l := a_ (q_bk l.out hb); replace D := a_ (q_st1 D.out hb p.out); clear hb I))
 go_ret
 exact ⟨_, q_e, by (with_reducible repeat (first | apply Kd.R_alloc | apply Kd.R_drewN | apply Kd.R_drew)); exact a2.out, q_w1 D.out p.out⟩}
 {
 obtain rfl := Option.some.inj H; go_enter Tryd.func56, Tryd.ntmps56
 go_wp2_with (first | ((with_reducible refine gd_ 1 rfl ?_); refine q_box 1 69 #[.slice E y.length F, .int .i64 B, .int .i64 G, .int .i64 b, .int .i64 q] ?_; intro U hg e5 z hb; have l := a_ (z); have V := a_ ((q_ge D.out hg)); have p := a_ ((q_ge D.out hg)); replace D := a_ (q_st D.out hb); clear hb z hg; obtain ⟨a6, a7, a8, a9, b0, b1, b2, b3, b4, b5⟩ := q_cf5 l.out))
 go_ret
 exact ⟨_, q_e, by first | exact Kd.R_nil _ _ _ _ _ | exact Kd.N_nil _ _ _ _ _ | exact Kd.V_nil _ _ _ _ _ | exact Kd.Q_nil _ _ _ _ _ | exact Kd.S_nil _ _ _ _ _, q_w1 D.out p.out⟩}}
mutual
def r6_Has.j0 : Nat → Int → Bool → Option (Bool × Bool × Bool)
 | 0, _, _ => none
 | k + 1, b, p => if p = true then (some (true, false, false)) else (if b = 1 then (r6_Has.j1 k b (b == 1)) else (if b = 2 then (r6_Has.j1 k b (b == 2)) else (if b = 6 then (r6_Has.j1 k b (b == 6)) else (r6_Has.j1 k b (b == 10)))))
def r6_Has.j1 : Nat → Int → Bool → Option (Bool × Bool × Bool)
 | 0, _, _ => none
 | k + 1, b, l => if l = true then (some (true, true, false)) else (if b = 3 then (some (true, true, true)) else (if b = 7 then (some (false, true, true)) else (if b = 8 then (some (false, true, true)) else (some (false, false, false)))))
end
def r6_Has.f (k : Nat) (b : Int) : Option (Bool × Bool × Bool) := if b = 0 then (r6_Has.j0 k b (b == 0)) else (if b = 4 then (r6_Has.j0 k b (b == 4)) else (if b = 5 then (r6_Has.j0 k b (b == 5)) else (r6_Has.j0 k b (b == 11))))
theorem r6_Has.calls (k : Nat) (b : Int) (D : Bool) (E : Bool) (F : Bool) (w : World) (h : r6_Has.f k b = some (D, E, F)) :
  Calls Tryd.prog 37 #[.int .i64 b] w fun e w' => e = .returned (.tuple #[.bool D, .bool E, .bool F]) ∧ Drawn0 w w' := by
 have H : (if b = 0 then (r6_Has.j0 k b (b == 0)) else (if b = 4 then (r6_Has.j0 k b (b == 4)) else (if b = 5 then (r6_Has.j0 k b (b == 5)) else (r6_Has.j0 k b (b == 11))))) = some (D, E, F) := h
 clear h; have B := a_ H; clear H; go_enter Tryd.func37, Tryd.ntmps37
 go_upto_if 6 with (fail)
 go_cut [6] (fun L wc => ∃ (kq : Nat) (q : Bool), L = .bool q ∧ Aside0 (r6_Has.j0 kq b q = some (D, E, F)) ∧ Aside0 (kq ≤ k) ∧ Drawn0 w wc)
 case first => (
 have H := B.out; clear B; replace H := q_iBN H; rcases H with ⟨-, c3b0, c3b1, H⟩ | ⟨X, c3b0, c3b1, H⟩
 {
 (first | rw [c3b0] | (simp only [i64_w, i32_w]; rw [c3b0]) | skip)
 have p := a_ H
 clear H; go_wp2
 go_meet
 case rel => exact ⟨_, ((b == 0)), q_r, p, ⟨by first | omega | exact Nat.le_refl _⟩, by repeat (first | exact Drawn0.refl _ | apply Drawn0.step)⟩}
 {
 (first | rw [c3b0] | (simp only [i64_w, i32_w]; rw [c3b0]) | skip)
 replace H := q_iBN H; rcases H with ⟨-, c4b0, c4b1, H⟩ | ⟨c4, c4b0, c4b1, H⟩
 {
 have p := a_ H
 clear H; go_wp2
 go_meet
 case rel => exact ⟨_, ((b == 4)), q_r, p, ⟨by first | omega | exact Nat.le_refl _⟩, by repeat (first | exact Drawn0.refl _ | apply Drawn0.step)⟩}
 {
 replace H := q_iBN H; rcases H with ⟨-, c5b0, c5b1, H⟩ | ⟨c5, c5b0, c5b1, H⟩
 {
 have p := a_ H
 clear H; go_wp2
 go_meet
 case rel => exact ⟨_, ((b == 5)), q_r, p, ⟨by first | omega | exact Nat.le_refl _⟩, by repeat (first | exact Drawn0.refl _ | apply Drawn0.step)⟩}
 {
 have p := a_ H
 clear H; go_wp2
 go_meet
 case rel => exact ⟨_, ((b == 11)), q_r, p, ⟨by first | omega | exact Nat.le_refl _⟩, by repeat (first | exact Drawn0.refl _ | apply Drawn0.step)⟩}}})
 case rest => (
 clear B; obtain ⟨kq, q, rfl, HA, y, ⟨M, rfl⟩⟩ := hcut; cases kq with
 | zero => exact absurd HA.out (by simp [r6_Has.j0])
 | succ I => (
 have H := HA.out; clear HA; simp only [r6_Has.j0] at H
 by_cases G : q = true
 {
 subst G; rw [if_pos rfl] at H; simp only [Option.some.injEq, Prod.mk.injEq] at H
 obtain ⟨rfl, rfl, rfl⟩ := H; go_wp2
 go_ret3
 exact ⟨by first | rfl | (simp; done) | (simp [*]; done), by repeat (first | exact Drawn0.refl _ | apply Drawn0.step)⟩}
 {
 replace G := Bool.eq_false_iff.mpr G; subst G; rw [if_neg Bool.false_ne_true] at H; have C := a_ H; clear H; go_upto_if 11 with (fail)
 go_cut [11] (fun J wc => ∃ (kq : Nat) (l : Bool), J = .bool l ∧ Aside0 (r6_Has.j1 kq b l = some (D, E, F)) ∧ Aside0 (kq ≤ I) ∧ Drawn0 w wc)
 case first => (
 have H := C.out; clear C; replace H := q_iBN H; rcases H with ⟨-, c8b0, c8b1, H⟩ | ⟨c8, c8b0, c8b1, H⟩
 {
 (first | rw [c8b0] | (simp only [i64_w, i32_w]; rw [c8b0]) | skip)
 have p := a_ H
 clear H; go_wp2
 go_meet
 case rel => exact ⟨_, ((b == 1)), q_r, p, ⟨by have := y.out; first | omega | exact Nat.le_refl _⟩, by repeat (first | exact Drawn0.refl _ | apply Drawn0.step)⟩}
 {
 (first | rw [c8b0] | (simp only [i64_w, i32_w]; rw [c8b0]) | skip)
 replace H := q_iBN H; rcases H with ⟨-, c9b0, c9b1, H⟩ | ⟨c9, c9b0, c9b1, H⟩
 {
 have p := a_ H
 clear H; go_wp2
 go_meet
 case rel => exact ⟨_, ((b == 2)), q_r, p, ⟨by have := y.out; first | omega | exact Nat.le_refl _⟩, by repeat (first | exact Drawn0.refl _ | apply Drawn0.step)⟩}
 {
 replace H := q_iBN H; rcases H with ⟨-, c10b0, c10b1, H⟩ | ⟨N, c10b0, c10b1, H⟩
 {
 have p := a_ H
 clear H; go_wp2
 go_meet
 case rel => exact ⟨_, ((b == 6)), q_r, p, ⟨by have := y.out; first | omega | exact Nat.le_refl _⟩, by repeat (first | exact Drawn0.refl _ | apply Drawn0.step)⟩}
 {
 have p := a_ H
 clear H; go_wp2
 go_meet
 case rel => exact ⟨_, ((b == 10)), q_r, p, ⟨by have := y.out; first | omega | exact Nat.le_refl _⟩, by repeat (first | exact Drawn0.refl _ | apply Drawn0.step)⟩}}})
 case rest => (
 clear C; obtain ⟨kq, l, rfl, HA, O, ⟨R, rfl⟩⟩ := hcut; cases kq with
 | zero => exact absurd HA.out (by simp [r6_Has.j1])
 | succ S => (
 have H := HA.out; clear HA; simp only [r6_Has.j1] at H
 by_cases z : l = true
 {
 subst z; rw [if_pos rfl] at H; simp only [Option.some.injEq, Prod.mk.injEq] at H
 obtain ⟨rfl, rfl, rfl⟩ := H; go_wp2
 go_ret3
 exact ⟨by first | rfl | (simp; done) | (simp [*]; done), by repeat (first | exact Drawn0.refl _ | apply Drawn0.step)⟩}
 {
 replace z := Bool.eq_false_iff.mpr z; subst z; rw [if_neg Bool.false_ne_true] at H; replace H := q_iBN H; rcases H with ⟨-, c12b0, c12b1, H⟩ | ⟨T, c12b0, c12b1, H⟩
 {
 simp only [Option.some.injEq, Prod.mk.injEq] at H
 obtain ⟨rfl, rfl, rfl⟩ := H; go_wp2
 go_ret3
 exact ⟨by first | rfl | (simp; done) | (simp [*]; done), by repeat (first | exact Drawn0.refl _ | apply Drawn0.step)⟩}
 {
 replace H := q_iBN H; rcases H with ⟨-, c13b0, c13b1, H⟩ | ⟨U, c13b0, c13b1, H⟩
 {
 simp only [Option.some.injEq, Prod.mk.injEq] at H
 obtain ⟨rfl, rfl, rfl⟩ := H; go_wp2
 go_ret3
 exact ⟨by first | rfl | (simp; done) | (simp [*]; done), by repeat (first | exact Drawn0.refl _ | apply Drawn0.step)⟩}
 {
 replace H := q_iBN H; rcases H with ⟨-, c14b0, c14b1, H⟩ | ⟨V, c14b0, c14b1, H⟩
 {
 simp only [Option.some.injEq, Prod.mk.injEq] at H
 obtain ⟨rfl, rfl, rfl⟩ := H; go_wp2
 go_ret3
 exact ⟨by first | rfl | (simp; done) | (simp [*]; done), by repeat (first | exact Drawn0.refl _ | apply Drawn0.step)⟩}
 {
 simp only [Option.some.injEq, Prod.mk.injEq] at H
 obtain ⟨rfl, rfl, rfl⟩ := H; go_wp2
 go_ret3
 exact ⟨by first | rfl | (simp; done) | (simp [*]; done), by repeat (first | exact Drawn0.refl _ | apply Drawn0.step)⟩}}}}))}))
mutual
def l6_Wide.j0 : Nat → Int → Bool → ByteArray → List (S83) → List (S85) → Int → List (S69) → Option (Bool)
 | 0, _, _, _, _, _, _, _ => none
 | k + 1, z, F, q, l, p, y, b => if F = true then (some true) else (l6_Wide.l0 k z 0 q l p y b)
def l6_Wide.l0 : Nat → Int → Int → ByteArray → List (S83) → List (S85) → Int → List (S69) → Option (Bool)
 | 0, _, _, _, _, _, _, _ => none
 | k + 1, z, C, q, l, p, y, b => if C < (l.length : Int) then (if 0 ≤ C then (if (((rd_T83 l C).f0).size : Int) > 100 then (some true) else (l6_Wide.l0 k z (wrap64 (C + 1)) q l p y b)) else (none)) else (l6_Wide.l1 k z 0 q l p y b)
def l6_Wide.l1 : Nat → Int → Int → ByteArray → List (S83) → List (S85) → Int → List (S69) → Option (Bool)
 | 0, _, _, _, _, _, _, _ => none
 | k + 1, z, D, q, l, p, y, b => if D < (p.length : Int) then (if 0 ≤ D then (if (((rd_T85 p D).f0).size : Int) > 100 then (some true) else (l6_Wide.l1 k z (wrap64 (D + 1)) q l p y b)) else (none)) else (l6_Wide.l2 k z 0 q l p y b)
def l6_Wide.l2 : Nat → Int → Int → ByteArray → List (S83) → List (S85) → Int → List (S69) → Option (Bool)
 | 0, _, _, _, _, _, _, _ => none
 | k + 1, z, B, q, l, p, y, b => if B < (b.length : Int) then (l6_Wide.j4 k z B (decide (z ≤ 400)) q l p y b) else (l6_Wide.j4 k z B false q l p y b)
def l6_Wide.j4 : Nat → Int → Int → Bool → ByteArray → List (S83) → List (S85) → Int → List (S69) → Option (Bool)
 | 0, _, _, _, _, _, _, _, _ => none
 | k + 1, z, B, G, q, l, p, y, b => if G = true then (if 0 ≤ B then (if B < (b.length : Int) then (l6_Wide.l3 k (wrap64 (z + (((rd_T69 b B).f0).length : Int))) B 0 q l p y b) else (none)) else (none)) else (some (decide (z > 400)))
def l6_Wide.l3 : Nat → Int → Int → Int → ByteArray → List (S83) → List (S85) → Int → List (S69) → Option (Bool)
 | 0, _, _, _, _, _, _, _, _ => none
 | k + 1, z, B, E, q, l, p, y, b => if 0 ≤ B then (if B < (b.length : Int) then (if E < (((rd_T69 b B).f0).length : Int) then (if z ≤ 400 then (if 0 ≤ E then (l6_Wide.l3 k (wrap64 (z + (((rd_T71 ((rd_T69 b B).f0) E).f6).length : Int))) B (wrap64 (E + 1)) q l p y b) else (none)) else (l6_Wide.l2 k z (wrap64 (B + 1)) q l p y b)) else (l6_Wide.l2 k z (wrap64 (B + 1)) q l p y b)) else (none)) else (none)
end
def l6_Wide.f (k : Nat) (q : ByteArray) (b : List (S83)) (l : List (S85)) (y : Int) (p : List (S69)) : Option (Bool) := if (wrap64 ((wrap64 ((p.length : Int) + (b.length : Int))) + (l.length : Int))) > 400 then (l6_Wide.j0 k (wrap64 ((wrap64 ((p.length : Int) + (b.length : Int))) + (l.length : Int))) true q b l y p) else (l6_Wide.j0 k (wrap64 ((wrap64 ((p.length : Int) + (b.length : Int))) + (l.length : Int))) (decide ((q.size : Int) > 100)) q b l y p)
theorem l6_Wide.calls (k : Nat) (B : ByteArray) (S : Option Addr) (T : Nat) (p : List (S83)) (U : Option Addr) (V : Nat) (q : List (S85)) (E : Int) (a2 : Option Addr) (X : Nat) (l : List (S69)) (r : Bool) (w : World) (d8 : Kd.C k83 w S p.length p) (d9 : p.length ≤ T) (e0 : Kd.C k85 w U q.length q) (e1 : q.length ≤ V) (e2 : Kd.C k69 w a2 l.length l) (e3 : l.length ≤ X) (h : l6_Wide.f k B p q E l = some r) :
  Calls Tryd.prog 26 #[.agg #[.string B, .slice S p.length T, .slice U q.length V, .int .i64 E, .slice a2 l.length X]] w fun e w' => e = .returned (.bool r) ∧ Below w.heap.size w w' := by
 have E6 := Tryd.underlying26; have e4 := a_ d8; have D5 := a_ d9; clear d8 d9; have e5 := a_ e0; have D6 := a_ e1; clear e0 e1; have a8 := a_ e2; have D7 := a_ e3; clear e2 e3; have F := a_ (Below.refl w.heap.size w); have H : (if (wrap64 ((wrap64 ((l.length : Int) + (p.length : Int))) + (q.length : Int))) > 400 then (l6_Wide.j0 k (wrap64 ((wrap64 ((l.length : Int) + (p.length : Int))) + (q.length : Int))) true B p q E l) else (l6_Wide.j0 k (wrap64 ((wrap64 ((l.length : Int) + (p.length : Int))) + (q.length : Int))) (decide ((B.size : Int) > 100)) B p q E l)) = some r := h
 clear h; have n8 := a_ H; clear H; go_enter Tryd.func26, Tryd.ntmps26
 go_upto_region 2 with (first | ((with_reducible refine gd_ 1 rfl ?_); (try (refine gate_guard (by rfl) ?_; dsimp only)); refine q_box 1 26 #[.string B, .slice S p.length T, .slice U q.length V, .int .i64 E, .slice a2 l.length X] ?_; intro a1 hg w3 n6 hb; have b := a_ (n6); have D8 := a_ ((q_ge F.out hg)); have y := a_ ((q_ge F.out hg)); replace F := a_ (q_st F.out hb); clear hb n6 hg; obtain ⟨l5, l6, l7, l8, l9, n0, n1, n2, n3, n4⟩ := q_cf5 b.out))
 (try simp only [Act.put, List.setIfInBounds_toArray, List.set_cons_zero, List.set_cons_succ])
 go_cut [26] (fun D9 wc => ∃ (kq : Nat) (b7 : Bool), D9 = .bool b7 ∧ Aside0 (l6_Wide.j0 kq (wrap64 ((wrap64 ((l.length : Int) + (p.length : Int))) + (q.length : Int))) b7 B p q E l = some r) ∧ Aside0 (kq ≤ k) ∧ Aside0 (wc.heap[a1]? = some (.cells #[.string B, (.slice S p.length T), (.slice U q.length V), .int .i64 E, (.slice a2 l.length X)] 26 (0, 0))) ∧ Aside0 (Below w.heap.size w wc))
 case first => (
 have H := n8.out; clear n8; rcases q_ite H with ⟨c5b0, H⟩ | ⟨c5b0, H⟩
 {
 (first | rw [c5b0] | (simp only [i64_w, i32_w]; rw [c5b0]) | skip)
 have H' := a_ H
 clear H; go_wp2
 go_meet
 case rel => exact ⟨_, (true), q_r, H', ⟨by first | omega | exact Nat.le_refl _⟩, ⟨q_k b.out⟩, ⟨q_w1 F.out y.out⟩⟩}
 {
 (first | rw [c5b0] | (simp only [i64_w, i32_w]; rw [c5b0]) | skip)
 have H' := a_ H
 clear H; obtain ⟨B7, C0, C1, C2, C3, C4, C5, C6, C7, C8⟩ := q_cf5 b.out; go_wp2
 go_meet
 case rel => exact ⟨_, (decide ((B.size : Int) > 100)), q_r, H', ⟨by first | omega | exact Nat.le_refl _⟩, ⟨q_k b.out⟩, ⟨q_w1 F.out y.out⟩⟩})
 case rest => (
 clear n8 l5 l6 l7 l8 l9 n0 n1 n2 n3 n4; obtain ⟨kq, b7, rfl, HA, a5, b, F⟩ := hcut; cases kq with
 | zero => exact absurd HA.out (by simp [l6_Wide.j0])
 | succ o4 => (
 have H := HA.out; clear HA; simp only [l6_Wide.j0] at H
 by_cases c7 : b7 = true
 {
 subst c7; rw [if_pos rfl] at H; obtain rfl := Option.some.inj H; go_wp2
 go_ret
 exact ⟨q_e, q_w1 F.out y.out⟩}
 {
 replace c7 := Bool.eq_false_iff.mpr c7; subst c7; rw [if_neg Bool.false_ne_true] at H; have H' := a_ H
 clear H; go_wp2
 go_loopg [4] o4 (fun kq v4 w' => ∃ (a3 : Int), v4 = .int .i64 a3 ∧ Aside0 (l6_Wide.l0 kq (wrap64 ((wrap64 ((l.length : Int) + (p.length : Int))) + (q.length : Int))) a3 B p q E l = some r) ∧ Aside0 (kq ≤ o4) ∧ Aside0 (w'.heap[a1]? = some (.cells #[.string B, (.slice S p.length T), (.slice U q.length V), .int .i64 E, (.slice a2 l.length X)] 26 (0, 0))) ∧ Aside0 (Below w.heap.size w w'))
 case atStart => exact ⟨(0), q_r, H', ⟨Nat.le_refl _⟩, ⟨q_k b.out⟩, ⟨q_w1 F.out y.out⟩⟩
 case round => (
 clear H'; obtain ⟨a3, rfl, HA, a6, b, F⟩ := hrel; cases gk with
 | zero => exact absurd HA.out (by simp [l6_Wide.l0])
 | succ k2 => (
 have H := HA.out; clear HA; simp only [l6_Wide.l0] at H
 rcases q_ite H with ⟨c8b0, H⟩ | ⟨c8b0, H⟩
 {
 replace H := q_gD H; obtain ⟨-, c9b0, H⟩ := H; replace H := q_iD H; rcases H with ⟨n9, c10b0, H⟩ | ⟨n9, c10b0, H⟩
 {
 have c10b1 : decide (100 < ((rd_T83 p a3).f0).size) = true := decide_eq_true (by omega)
 clear n9; obtain rfl := Option.some.inj H; obtain ⟨o5, o6, o7, o8, o9, p0, p1, p2, p3, p4⟩ := q_cf5 b.out; obtain ⟨o0, e6, e7, e8, p5, p6⟩ := b_T83 e4.out F.out a3; cases e6; go_wp2
 go_ret
 exact ⟨q_e, q_w1 F.out y.out⟩}
 {
 have c10b1 : decide (100 < ((rd_T83 p a3).f0).size) = false := decide_eq_false (by omega)
 clear n9; have H' := a_ H
 clear H; obtain ⟨p7, p8, p9, q0, q1, q2, q3, q4, q5, q6⟩ := q_cf5 b.out; obtain ⟨o0, e6, e7, e8, p5, p6⟩ := b_T83 e4.out F.out a3; cases e6; go_wp2
 go_roundg k2
 case measure => have := a5.out; have := a6.out; omega
 case rel => exact ⟨(wrap64 (a3 + 1)), q_r, H', ⟨by have := a5.out; have := a6.out; omega⟩, ⟨q_k b.out⟩, ⟨q_w1 F.out y.out⟩⟩}}
 {
 have H' := a_ H
 clear H; obtain ⟨e9, f1, f2, f3, f4, f5, f7, f8, f9, g0⟩ := q_cf5 b.out; go_wp2
 go_loopg [5] k2 (fun kq v5 w' => ∃ (a4 : Int), v5 = .int .i64 a4 ∧ Aside0 (l6_Wide.l1 kq (wrap64 ((wrap64 ((l.length : Int) + (p.length : Int))) + (q.length : Int))) a4 B p q E l = some r) ∧ Aside0 (kq ≤ k2) ∧ Aside0 (w'.heap[a1]? = some (.cells #[.string B, (.slice S p.length T), (.slice U q.length V), .int .i64 E, (.slice a2 l.length X)] 26 (0, 0))) ∧ Aside0 (Below w.heap.size w w'))
 case atStart => exact ⟨(0), q_r, H', ⟨Nat.le_refl _⟩, ⟨q_k b.out⟩, ⟨q_w1 F.out y.out⟩⟩
 case round => (
 clear H'; clear c8b0 e9 f1 f2 f3 f4 f5 f7 f8 f9 g0; obtain ⟨a4, rfl, HA, b2, b, F⟩ := hrel; cases gk with
 | zero => exact absurd HA.out (by simp [l6_Wide.l1])
 | succ k3 => (
 have H := HA.out; clear HA; simp only [l6_Wide.l1] at H
 rcases q_ite H with ⟨c14b0, H⟩ | ⟨c14b0, H⟩
 {
 replace H := q_gD H; obtain ⟨-, c15b0, H⟩ := H; replace H := q_iD H; rcases H with ⟨o1, c16b0, H⟩ | ⟨o1, c16b0, H⟩
 {
 have c16b1 : decide (100 < ((rd_T85 q a4).f0).size) = true := decide_eq_true (by omega)
 clear o1; obtain rfl := Option.some.inj H; obtain ⟨q7, q8, q9, r0, r1, r2, r3, r4, r5, r6⟩ := q_cf5 b.out; obtain ⟨o2, g1, g2, g3, r7, r8⟩ := b_T85 e5.out F.out a4; cases g1; go_wp2
 go_ret
 exact ⟨q_e, q_w1 F.out y.out⟩}
 {
 have c16b1 : decide (100 < ((rd_T85 q a4).f0).size) = false := decide_eq_false (by omega)
 clear o1; have H' := a_ H
 clear H; obtain ⟨r9, s0, s1, s2, s3, s4, s5, s6, s7, s8⟩ := q_cf5 b.out; obtain ⟨o2, g1, g2, g3, r7, r8⟩ := b_T85 e5.out F.out a4; cases g1; go_wp2
 go_roundg k3
 case measure => have := a5.out; have := a6.out; have := b2.out; omega
 case rel => exact ⟨(wrap64 (a4 + 1)), q_r, H', ⟨by have := a5.out; have := a6.out; have := b2.out; omega⟩, ⟨q_k b.out⟩, ⟨q_w1 F.out y.out⟩⟩}}
 {
 have H' := a_ H
 clear H; obtain ⟨g4, g5, g6, g7, g8, g9, i0, i1, i2, i3⟩ := q_cf5 b.out; go_wp2
 go_loopg [3, 6] k3 (fun kq v3 v6 w' => ∃ (b3 : Int) (z : Int), v3 = .int .i64 b3 ∧ v6 = .int .i64 z ∧ Aside0 (l6_Wide.l2 kq b3 z B p q E l = some r) ∧ Aside0 (kq ≤ k3) ∧ Aside0 (w'.heap[a1]? = some (.cells #[.string B, (.slice S p.length T), (.slice U q.length V), .int .i64 E, (.slice a2 l.length X)] 26 (0, 0))) ∧ Aside0 (Below w.heap.size w w'))
 case atStart => exact ⟨((wrap64 ((wrap64 ((l.length : Int) + (p.length : Int))) + (q.length : Int)))), (0), q_r, q_r, H', ⟨Nat.le_refl _⟩, ⟨q_k b.out⟩, ⟨q_w1 F.out y.out⟩⟩
 case round => (
 clear H'; clear c14b0 g4 g5 g6 g7 g8 g9 i0 i1 i2 i3; obtain ⟨b3, z, rfl, rfl, HA, b8, b, F⟩ := hrel; cases gk with
 | zero => exact absurd HA.out (by simp [l6_Wide.l2])
 | succ k4 => (
 have H := HA.out; clear HA; simp only [l6_Wide.l2] at H
 have i4 := a_ H; clear H; go_upto_region 15 with (fail)
 go_cut [65] (fun E3 wc => ∃ (kq : Nat) (a7 : Bool), E3 = .bool a7 ∧ Aside0 (l6_Wide.j4 kq b3 z a7 B p q E l = some r) ∧ Aside0 (kq ≤ k4) ∧ Aside0 (wc.heap[a1]? = some (.cells #[.string B, (.slice S p.length T), (.slice U q.length V), .int .i64 E, (.slice a2 l.length X)] 26 (0, 0))) ∧ Aside0 (Below w.heap.size w wc))
 case first => (
 have H := i4.out; clear i4; rcases q_ite H with ⟨c21b0, H⟩ | ⟨c21b0, H⟩
 {
 (first | rw [c21b0] | (simp only [i64_w, i32_w]; rw [c21b0]) | skip)
 have H' := a_ H
 clear H; obtain ⟨s9, t0, t1, t2, t3, t4, t5, t6, t7, t8⟩ := q_cf5 b.out; go_wp2
 go_meet
 case rel => exact ⟨_, (decide (b3 ≤ 400)), q_r, H', ⟨by have := a5.out; have := a6.out; have := b2.out; have := b8.out; first | omega | exact Nat.le_refl _⟩, ⟨q_k b.out⟩, ⟨q_w1 F.out y.out⟩⟩}
 {
 (first | rw [c21b0] | (simp only [i64_w, i32_w]; rw [c21b0]) | skip)
 have H' := a_ H
 clear H; obtain ⟨t9, v0, v1, v2, v8, v9, w2, w4, w5, w6⟩ := q_cf5 b.out; go_wp2
 go_meet
 case rel => exact ⟨_, (false), q_r, H', ⟨by have := a5.out; have := a6.out; have := b2.out; have := b8.out; first | omega | exact Nat.le_refl _⟩, ⟨q_k b.out⟩, ⟨q_w1 F.out y.out⟩⟩})
 case rest => (
 clear i4; obtain ⟨kq, a7, rfl, HA, b4, b, F⟩ := hcut; cases kq with
 | zero => exact absurd HA.out (by simp [l6_Wide.j4])
 | succ n7 => (
 have H := HA.out; clear HA; simp only [l6_Wide.j4] at H
 by_cases n5 : a7 = true
 {
 subst n5; rw [if_pos rfl] at H; replace H := q_gD H; obtain ⟨-, c25b0, H⟩ := H; replace H := q_gD H; obtain ⟨-, c26b0, H⟩ := H; have H' := a_ H
 clear H; obtain ⟨i5, i6, i7, i8, i9, j3, j5, j6, j7, j8⟩ := q_cf5 b.out; obtain ⟨a9, C9, D0, w7, j9, k0, k1, k5, k7, b9, c0, w8, w9⟩ := b_T69 a8.out F.out z; cases w7; have x0 := a_ c0; have x1 := a_ b9; clear c0 b9; go_wp2
 go_loopg [3, 7] n7 (fun kq v3 v7 w' => ∃ (b5 : Int) (b6 : Int), v3 = .int .i64 b5 ∧ v7 = .int .i64 b6 ∧ Aside0 (l6_Wide.l3 kq b5 z b6 B p q E l = some r) ∧ Aside0 (kq ≤ n7) ∧ Aside0 (w'.heap[a1]? = some (.cells #[.string B, (.slice S p.length T), (.slice U q.length V), .int .i64 E, (.slice (some a9) l.length X)] 26 (0, 0))) ∧ Aside0 (Below w.heap.size w w'))
 case atStart => exact ⟨(wrap64 (b3 + (((rd_T69 l z).f0).length : Int))), (0), q_r, q_r, H', ⟨Nat.le_refl _⟩, ⟨q_k b.out⟩, ⟨q_w1 F.out y.out⟩⟩
 case round => (
 clear H'; clear c25b0 c26b0 i5 i6 i7 i8 i9 j3 j5 j6 j7 j8 j9 k0 k1 k5 k7 w8 w9; obtain ⟨b5, b6, rfl, rfl, HA, d7, b, F⟩ := hrel; cases gk with
 | zero => exact absurd HA.out (by simp [l6_Wide.l3])
 | succ k6 => (
 have H := HA.out; clear HA; simp only [l6_Wide.l3] at H
 replace H := q_gD H; obtain ⟨-, c28b0, H⟩ := H; replace H := q_gD H; obtain ⟨-, c29b0, H⟩ := H; rcases q_ite H with ⟨c30b0, H⟩ | ⟨c30b0, H⟩
 {
 rcases q_ite H with ⟨c31b0, H⟩ | ⟨c31b0, H⟩
 {
 replace H := q_gD H; obtain ⟨-, c32b0, H⟩ := H; have H' := a_ H
 clear H; obtain ⟨x2, x3, x4, x5, x6, x7, x8, x9, y0, y1⟩ := q_cf5 b.out; have O : 0 ≤ (z : Int) := q_d
 have R : z < (l.length : Int) := q_d
 obtain ⟨b0, d5, d6, c1, D, G, I, J, L, M, N⟩ := at_T69 a8.out z O R; obtain rfl : a9 = b0 := (by injection c1)
 replace D := q_kc F.out D; replace G := q_kc F.out G; replace I := q_kc F.out I; replace J := q_kc F.out J; replace L := q_kc F.out L; have c3 := a_ N; have c4 := a_ M; clear N M; replace O := eq_true O; replace R := eq_true R; have k8 : 0 ≤ (z : Int) := q_d
 have k9 : z < (l.length : Int) := q_d
 obtain ⟨o3, D1, D2, y2, b1, c6, c8, c9, d0, d1, d2⟩ := at_T69 a8.out z k8 k9; obtain rfl : a9 = o3 := (by injection y2)
 replace b1 := q_kc F.out b1; replace c6 := q_kc F.out c6; replace c8 := q_kc F.out c8; replace c9 := q_kc F.out c9; replace d0 := q_kc F.out d0; have l4 := a_ d2; have y3 := a_ d1; clear d2 d1; replace k8 := eq_true k8; replace k9 := eq_true k9; have ea_ := Option.some.inj (D.symm.trans b1); injection ea_ with ea_ en_ ec_
 subst ea_; subst ec_; clear en_; obtain ⟨E5, D3, D4, y4, y5, y6, y7, y8, y9, z0, z1, d3, d4, E7, E8⟩ := b_T71 l4.out F.out b6; cases y4; have z2 := a_ d4; have z3 := a_ d3; clear d4 d3; go_wp2
 go_roundg k6
 case measure => have := a5.out; have := a6.out; have := b2.out; have := b8.out; have := b4.out; have := d7.out; omega
 case rel => exact ⟨(wrap64 (b5 + (((rd_T71 ((rd_T69 l z).f0) b6).f6).length : Int))), (wrap64 (b6 + 1)), q_r, q_r, H', ⟨by have := a5.out; have := a6.out; have := b2.out; have := b8.out; have := b4.out; have := d7.out; omega⟩, ⟨q_k b.out⟩, ⟨q_w1 F.out y.out⟩⟩}
 {
 have H' := a_ H
 clear H; obtain ⟨z4, z5, z6, z7, z8, z9, A0, A1, A2, A3⟩ := q_cf5 b.out; have O : 0 ≤ (z : Int) := q_d
 have R : z < (l.length : Int) := q_d
 obtain ⟨b0, d5, d6, c1, D, G, I, J, L, M, N⟩ := at_T69 a8.out z O R; obtain rfl : a9 = b0 := (by injection c1)
 replace D := q_kc F.out D; replace G := q_kc F.out G; replace I := q_kc F.out I; replace J := q_kc F.out J; replace L := q_kc F.out L; have c3 := a_ N; have c4 := a_ M; clear N M; replace O := eq_true O; replace R := eq_true R; go_wp2
 go_roundg k6
 case measure => have := a5.out; have := a6.out; have := b2.out; have := b8.out; have := b4.out; have := d7.out; omega
 case rel => exact ⟨(b5), (wrap64 (z + 1)), q_r, q_r, H', ⟨by have := a5.out; have := a6.out; have := b2.out; have := b8.out; have := b4.out; have := d7.out; omega⟩, ⟨q_k b.out⟩, ⟨q_w1 F.out y.out⟩⟩}}
 {
 have H' := a_ H
 clear H; obtain ⟨A4, A5, A6, A7, A8, A9, B1, B2, B3, B6⟩ := q_cf5 b.out; have O : 0 ≤ (z : Int) := q_d
 have R : z < (l.length : Int) := q_d
 obtain ⟨b0, d5, d6, c1, D, G, I, J, L, M, N⟩ := at_T69 a8.out z O R; obtain rfl : a9 = b0 := (by injection c1)
 replace D := q_kc F.out D; replace G := q_kc F.out G; replace I := q_kc F.out I; replace J := q_kc F.out J; replace L := q_kc F.out L; have c3 := a_ N; have c4 := a_ M; clear N M; replace O := eq_true O; replace R := eq_true R; go_wp2
 go_roundg k6
 case measure => have := a5.out; have := a6.out; have := b2.out; have := b8.out; have := b4.out; have := d7.out; omega
 case rel => exact ⟨(b5), (wrap64 (z + 1)), q_r, q_r, H', ⟨by have := a5.out; have := a6.out; have := b2.out; have := b8.out; have := b4.out; have := d7.out; omega⟩, ⟨q_k b.out⟩, ⟨q_w1 F.out y.out⟩⟩}))}
 {
 replace n5 := Bool.eq_false_iff.mpr n5; subst n5; rw [if_neg Bool.false_ne_true] at H; obtain rfl := Option.some.inj H; go_wp2
 go_ret
 exact ⟨q_e, q_w1 F.out y.out⟩}))))}))}))}))
def l11_sums.f  : Option (ByteArray × (List (S83)) × (List (S85)) × Int × (List (S69))) := some ((⟨#[107]⟩ : ByteArray), (([(⟨(⟨#[97]⟩ : ByteArray), true⟩ : S83)] : List (S83))), ([] : List (S85)), 3, (([(⟨(([(⟨0, 0, 0, 0, 0, 1, ([] : List Int)⟩ : S71), (⟨0, 0, 1, 0, 0, 2, ([] : List Int)⟩ : S71), (⟨3, 0, 2, 0, 1, 0, ([] : List Int)⟩ : S71), (⟨7, 0, 0, 2, 2, 0, ([] : List Int)⟩ : S71)] : List (S71))), 2, 0, 0, 0⟩ : S69)] : List (S69))))
theorem l11_sums.calls  (r1 : ByteArray) (r2 : List (S83)) (r3 : List (S85)) (r4 : Int) (r5 : List (S69)) (w : World) (h : l11_sums.f  = some (r1, r2, r3, r4, r5)) :
  Calls Tryd.prog 28 #[] w fun e w' => ∃ a3 a4 b2 : Value, e = .returned (.agg #[.string r1, a3, a4, .int .i64 r4, b2]) ∧ Kd.R k83 83 w' w.heap.size (fun k_ => (w.heap.size ≤ k_)) a3 r2 ∧ Kd.R k85 85 w' w.heap.size (fun k_ => (w.heap.size ≤ k_)) a4 r3 ∧ Kd.N k69 69 w' w.heap.size (fun k_ => (w.heap.size ≤ k_) ∧ some k_ ≠ (a3 : Value).ownBlock ∧ some k_ ≠ (a4 : Value).ownBlock) b2 r5 ∧ Below w.heap.size w w' := by
 have d6 := Tryd.underlying26; have d7 := Tryd.underlying83; have d8 := Tryd.underlying71; have d9 := Tryd.underlying69; have G := a_ (Below.refl w.heap.size w); have H : (some ((⟨#[107]⟩ : ByteArray), (([(⟨(⟨#[97]⟩ : ByteArray), true⟩ : S83)] : List (S83))), ([] : List (S85)), 3, (([(⟨(([(⟨0, 0, 0, 0, 0, 1, ([] : List Int)⟩ : S71), (⟨0, 0, 1, 0, 0, 2, ([] : List Int)⟩ : S71), (⟨3, 0, 2, 0, 1, 0, ([] : List Int)⟩ : S71), (⟨7, 0, 0, 2, 2, 0, ([] : List Int)⟩ : S71)] : List (S71))), 2, 0, 0, 0⟩ : S69)] : List (S69))))) = some (r1, r2, r3, r4, r5) := h
 clear h; obtain ⟨z, I⟩ : ∃ y_ : List (S83), y_ = (([(⟨(⟨#[97]⟩ : ByteArray), true⟩ : S83)] : List (S83))) := ⟨_, rfl⟩; replace H : (some ((⟨#[107]⟩ : ByteArray), z, ([] : List (S85)), 3, (([(⟨(([(⟨0, 0, 0, 0, 0, 1, ([] : List Int)⟩ : S71), (⟨0, 0, 1, 0, 0, 2, ([] : List Int)⟩ : S71), (⟨3, 0, 2, 0, 1, 0, ([] : List Int)⟩ : S71), (⟨7, 0, 0, 2, 2, 0, ([] : List Int)⟩ : S71)] : List (S71))), 2, 0, 0, 0⟩ : S69)] : List (S69))))) = some (r1, r2, r3, r4, r5) := q_rw I H
 have S := a_ I; clear I; obtain ⟨C, J⟩ : ∃ y_ : List (S71), y_ = (([(⟨0, 0, 0, 0, 0, 1, ([] : List Int)⟩ : S71), (⟨0, 0, 1, 0, 0, 2, ([] : List Int)⟩ : S71), (⟨3, 0, 2, 0, 1, 0, ([] : List Int)⟩ : S71), (⟨7, 0, 0, 2, 2, 0, ([] : List Int)⟩ : S71)] : List (S71))) := ⟨_, rfl⟩; replace H : (some ((⟨#[107]⟩ : ByteArray), z, ([] : List (S85)), 3, (([(⟨C, 2, 0, 0, 0⟩ : S69)] : List (S69))))) = some (r1, r2, r3, r4, r5) := q_rw J H
 have T := a_ J; clear J; obtain ⟨O, L⟩ : ∃ y_ : List (S69), y_ = (([(⟨C, 2, 0, 0, 0⟩ : S69)] : List (S69))) := ⟨_, rfl⟩; replace H : (some ((⟨#[107]⟩ : ByteArray), z, ([] : List (S85)), 3, O)) = some (r1, r2, r3, r4, r5) := q_rw L H
 have U := a_ L; clear L; simp only [Option.some.injEq, Prod.mk.injEq] at H
 obtain ⟨rfl, rfl, rfl, rfl, rfl⟩ := H; go_enter Tryd.func28, Tryd.ntmps28
 go_wp2_with (first | ((with_reducible refine gd_ 0 rfl ?_); refine q_box 0 26 #[.string (⟨#[]⟩ : ByteArray), .slice none 0 0, .slice none 0 0, .int .i64 0, .slice none 0 0] ?_; intro b hg w1 a2 hb; have l := a_ (a2); have d3 := a_ ((q_ge G.out hg)); have q := a_ ((q_ge G.out hg)); replace G := a_ (q_st G.out hb); clear hb a2 hg) | ((with_reducible refine gd_ 2 rfl ?_); refine Kd.R_lit k83 _ 83 ?hg (N := 2) ?hd (xs := ([(⟨(⟨#[97]⟩ : ByteArray), true⟩ : S83)] : List (S83))) (inner := [.string (⟨#[97]⟩ : ByteArray), .bool true]) (ok := fun _ => True) (okp := fun _ => True) ?hr ?hp (fun _ hk => hk) trivial (Below.refl _ _) (Nat.le_refl _) (by simp) ?_; (case hd => rfl); (case hg => rfl); (case hr => first | (go_simp; done) | (go_simp; rfl)); (case hp => exact (Reps.c2 (show Kd.M k83 _ _ _ (⟨(⟨#[97]⟩ : ByteArray), true⟩ : S83) [.string (⟨#[97]⟩ : ByteArray), .bool true] from (k83_mkM _ _ _ (⟨(⟨#[97]⟩ : ByteArray), true⟩ : S83) )) (Reps.none _ _))); intro B w2 V hb hg_ hnew_; clear hg_ hnew_; (first | rw [← S.out] at V | (simp only [Int.reduceToNat] at V; rw [← S.out] at V)); have y := a_ (Kd.R_lower (Kd.R_newM (M := fun k_ => (w.heap.size ≤ k_)) V (below_size (q_w1 G.out q.out)) (fun k_ h_ => h_)) (below_size (q_w1 G.out q.out))); replace l := a_ (q_bk l.out hb); replace G := a_ (q_st1 G.out hb q.out); clear hb V) | ((with_reducible refine gd_ 7 rfl ?_); refine Kd.N_lit k71 _ 71 ?hg (N' := 7) ?hd (xs := ([(⟨0, 0, 0, 0, 0, 1, ([] : List Int)⟩ : S71), (⟨0, 0, 1, 0, 0, 2, ([] : List Int)⟩ : S71), (⟨3, 0, 2, 0, 1, 0, ([] : List Int)⟩ : S71), (⟨7, 0, 0, 2, 2, 0, ([] : List Int)⟩ : S71)] : List (S71))) (inner := [.int .i64 0, .int .i64 0, .int .i64 0, .int .i64 0, .int .i64 0, .int .i32 1, .slice none 0 0, .int .i64 0, .int .i64 0, .int .i64 1, .int .i64 0, .int .i64 0, .int .i32 2, .slice none 0 0, .int .i64 3, .int .i64 0, .int .i64 2, .int .i64 0, .int .i64 1, .int .i32 0, .slice none 0 0, .int .i64 7, .int .i64 0, .int .i64 0, .int .i64 2, .int .i64 2, .int .i32 0, .slice none 0 0]) (ok := (fun k_ => (w.heap.size ≤ k_) ∧ some k_ ≠ (B : Value).ownBlock ∧ k_ ≠ b)) (okp := (fun k_ => (w.heap.size ≤ k_) ∧ some k_ ≠ (B : Value).ownBlock ∧ k_ ≠ b)) ?hr ?hp (fun _ hk => hk) ((show ∀ k_, w2.heap.size ≤ k_ → (fun k_ => (w.heap.size ≤ k_) ∧ some k_ ≠ (B : Value).ownBlock ∧ k_ ≠ b) k_ from fun k_ hk => ⟨(Nat.le_trans (below_size (q_w1 G.out q.out)) hk), Kd.fresh' (Kd.R_lt (by (with_reducible repeat (first | apply Kd.R_alloc | apply Kd.R_drewN | apply Kd.R_drew)); exact y.out)) k_ hk, Kd.freshB (g := b) (o := .cells #[.string (⟨#[]⟩ : ByteArray), .slice none 0 0, .slice none 0 0, .int .i64 0, .slice none 0 0] 26 (0, 0)) (q_k l.out) k_ hk⟩) _ (Nat.le_refl _)) (Below.refl _ _) (Nat.le_refl _) (by simp) ?_; (case hd => rfl); (case hg => rfl); (case hr => first | (go_simp; done) | (go_simp; rfl)); (case hp => exact (Reps.c7 (show Kd.FK k71 _ _ (⟨0, 0, 0, 0, 0, 1, ([] : List Int)⟩ : S71) [.int .i64 0, .int .i64 0, .int .i64 0, .int .i64 0, .int .i64 0, .int .i32 1, .slice none 0 0] from (k71_mkF _ _ (⟨0, 0, 0, 0, 0, 1, ([] : List Int)⟩ : S71) (Nat.le_refl _) (Kd.F_nil _ _ _))) (Reps.c7 (show Kd.FK k71 _ _ (⟨0, 0, 1, 0, 0, 2, ([] : List Int)⟩ : S71) [.int .i64 0, .int .i64 0, .int .i64 1, .int .i64 0, .int .i64 0, .int .i32 2, .slice none 0 0] from (k71_mkF _ _ (⟨0, 0, 1, 0, 0, 2, ([] : List Int)⟩ : S71) (Nat.le_refl _) (Kd.F_nil _ _ _))) (Reps.c7 (show Kd.FK k71 _ _ (⟨3, 0, 2, 0, 1, 0, ([] : List Int)⟩ : S71) [.int .i64 3, .int .i64 0, .int .i64 2, .int .i64 0, .int .i64 1, .int .i32 0, .slice none 0 0] from (k71_mkF _ _ (⟨3, 0, 2, 0, 1, 0, ([] : List Int)⟩ : S71) (Nat.le_refl _) (Kd.F_nil _ _ _))) (Reps.c7 (show Kd.FK k71 _ _ (⟨7, 0, 0, 2, 2, 0, ([] : List Int)⟩ : S71) [.int .i64 7, .int .i64 0, .int .i64 0, .int .i64 2, .int .i64 2, .int .i32 0, .slice none 0 0] from (k71_mkF _ _ (⟨7, 0, 0, 2, 2, 0, ([] : List Int)⟩ : S71) (Nat.le_refl _) (Kd.F_nil _ _ _))) (Reps.none _ _)))))); intro e0 w4 X hb hg_ hnew_; clear hg_ hnew_; (first | rw [← T.out] at X | (simp only [Int.reduceToNat] at X; rw [← T.out] at X)); have F := a_ (Kd.N_lower X (below_size (q_w1 G.out q.out))); replace y := a_ (Kd.R_below (by (with_reducible repeat (first | apply Kd.R_alloc | apply Kd.R_drewN | apply Kd.R_drew)); exact y.out) hb); replace l := a_ (q_bk l.out hb); replace G := a_ (q_st1 G.out hb q.out); clear hb X; obtain ⟨b3, b4, d4⟩ := Kd.N_slice F.out; subst d4) | ((with_reducible refine gd_ 9 rfl ?_); refine Kd.N_lit k69 _ 69 ?hg (N' := 9) ?hd (xs := ([(⟨C, 2, 0, 0, 0⟩ : S69)] : List (S69))) (inner := [.slice b3 C.length b4, .int .i64 2, .int .i64 0, .int .i64 0, .int .i64 0]) (ok := (fun k_ => (w.heap.size ≤ k_) ∧ some k_ ≠ (B : Value).ownBlock ∧ k_ ≠ b)) (okp := (fun k_ => (w.heap.size ≤ k_) ∧ some k_ ≠ (B : Value).ownBlock ∧ k_ ≠ b)) ?hr ?hp (fun _ hk => hk) ((show ∀ k_, w4.heap.size ≤ k_ → (fun k_ => (w.heap.size ≤ k_) ∧ some k_ ≠ (B : Value).ownBlock ∧ k_ ≠ b) k_ from fun k_ hk => ⟨(Nat.le_trans (below_size (q_w1 G.out q.out)) hk), Kd.fresh' (Kd.R_lt (by (with_reducible repeat (first | apply Kd.R_alloc | apply Kd.R_drewN | apply Kd.R_drew)); exact y.out)) k_ hk, Kd.freshB (g := b) (o := .cells #[.string (⟨#[]⟩ : ByteArray), .slice none 0 0, .slice none 0 0, .int .i64 0, .slice none 0 0] 26 (0, 0)) (q_k l.out) k_ hk⟩) _ (Nat.le_refl _)) (Below.refl _ _) (Nat.le_refl _) (by simp) ?_; (case hd => rfl); (case hg => rfl); (case hr => first | (go_simp; done) | (go_simp; rfl)); (case hp => exact (Reps.c5 (show Kd.FK k69 _ _ (⟨C, 2, 0, 0, 0⟩ : S69) [.slice b3 C.length b4, .int .i64 2, .int .i64 0, .int .i64 0, .int .i64 0] from (k69_mkF _ _ (⟨C, 2, 0, 0, 0⟩ : S69) (Kd.N_reads' (Kd.N_mono (ok' := (fun k_ => (w.heap.size ≤ k_) ∧ some k_ ≠ (B : Value).ownBlock ∧ k_ ≠ b)) (F.out) (fun k_ hk => ⟨hk.1, ⟨hk.2.1, hk.2.2⟩⟩))).2.1 (Kd.N_F (Kd.N_mono (ok' := (fun k_ => (w.heap.size ≤ k_) ∧ some k_ ≠ (B : Value).ownBlock ∧ k_ ≠ b)) (F.out) (fun k_ hk => ⟨hk.1, ⟨hk.2.1, hk.2.2⟩⟩))))) (Reps.none _ _))); intro e1 w7 a0 hb hg_ hnew_; clear hg_ hnew_; (first | rw [← U.out] at a0 | (simp only [Int.reduceToNat] at a0; rw [← U.out] at a0)); have b5 := a_ (Kd.R_below (by (with_reducible repeat (first | apply Kd.R_alloc | apply Kd.R_drewN | apply Kd.R_drew)); exact y.out) hb); have b6 := a_ (Kd.N_lower a0 (below_size (q_w1 G.out q.out))); have b7 := a_ (q_bk l.out hb); have b8 := a_ (q_st1 G.out hb q.out); clear y; clear l; clear G; clear F; have y := b5; have a1 := b6; have l := b7; have G := b8; clear b5 b6 b7 b8; clear hb a0; obtain ⟨a5, a6, d5⟩ := Kd.N_slice a1.out; subst d5; obtain ⟨D, E, b9⟩ := Kd.R_slice y.out; subst b9; obtain ⟨c0, c1, c3, c4, c6, c8, c9, d0, d1, d2⟩ := q_cf5 l.out))
 refine bodyPost_ret (results_cell_row rfl _ _ b 26 #[.string (⟨#[107]⟩ : ByteArray), .slice D z.length E, .slice none 0 0, .int .i64 3, .slice a5 O.length a6] (0, 0) _ rfl (by (with_reducible repeat (first | refine blk_drewN ?_ _ | refine blk_drew ?_ | refine blk_alloc ?_ _)); refine blk_put (cs := #[.string (⟨#[107]⟩ : ByteArray), .slice D z.length E, .slice none 0 0, .int .i64 3, .slice none 0 0]) ?_ 4 _ rfl; (with_reducible repeat (first | refine blk_drewN ?_ _ | refine blk_drew ?_ | refine blk_alloc ?_ _)); refine blk_put (cs := #[.string (⟨#[107]⟩ : ByteArray), .slice D z.length E, .slice none 0 0, .int .i64 0, .slice none 0 0]) ?_ 3 _ rfl; (with_reducible repeat (first | refine blk_drewN ?_ _ | refine blk_drew ?_ | refine blk_alloc ?_ _)); refine blk_put (cs := #[.string (⟨#[107]⟩ : ByteArray), .slice D z.length E, .slice none 0 0, .int .i64 0, .slice none 0 0]) ?_ 2 _ rfl; (with_reducible repeat (first | refine blk_drewN ?_ _ | refine blk_drew ?_ | refine blk_alloc ?_ _)); refine blk_put (cs := #[.string (⟨#[107]⟩ : ByteArray), .slice none 0 0, .slice none 0 0, .int .i64 0, .slice none 0 0]) ?_ 1 _ rfl; (with_reducible repeat (first | refine blk_drewN ?_ _ | refine blk_drew ?_ | refine blk_alloc ?_ _)); refine blk_put (cs := #[.string (⟨#[]⟩ : ByteArray), .slice none 0 0, .slice none 0 0, .int .i64 0, .slice none 0 0]) ?_ 0 _ rfl; (with_reducible repeat (first | refine blk_drewN ?_ _ | refine blk_drew ?_ | refine blk_alloc ?_ _)); exact l.out) Tryd.underlying26 rfl (by kernel_rfl)) rfl ?_
 exact ⟨_, _, _, q_e, by (with_reducible repeat (first | apply Kd.R_alloc | apply Kd.R_drewN | apply Kd.R_drew)); exact Kd.R_mono (Kd.R_far (p := ⟨b, 4, none⟩) (Kd.R_far (p := ⟨b, 3, none⟩) (Kd.R_far (p := ⟨b, 2, none⟩) (Kd.R_far (p := ⟨b, 1, none⟩) (Kd.R_far (p := ⟨b, 0, none⟩) (Kd.R_types y.out l.out (by decide)) (fun _ hk => hk.2) (.string (⟨#[107]⟩ : ByteArray))) (fun _ hk => hk.2) (.slice D z.length E)) (fun _ hk => hk.2) (.slice none 0 0)) (fun _ hk => hk.2) (.int .i64 3)) (fun _ hk => hk.2) (.slice a5 O.length a6)) (fun _ hk => hk.1.1), by first | exact Kd.R_nil _ _ _ _ _ | exact Kd.N_nil _ _ _ _ _ | exact Kd.V_nil _ _ _ _ _ | exact Kd.Q_nil _ _ _ _ _ | exact Kd.S_nil _ _ _ _ _, by (with_reducible repeat (first | apply Kd.N_alloc | apply Kd.N_drewN | apply Kd.N_drew)); exact Kd.N_mono (Kd.N_far (p := ⟨b, 4, none⟩) (Kd.N_far (p := ⟨b, 3, none⟩) (Kd.N_far (p := ⟨b, 2, none⟩) (Kd.N_far (p := ⟨b, 1, none⟩) (Kd.N_far (p := ⟨b, 0, none⟩) (Kd.N_mono a1.out (fun k_ hk => (⟨hk, hk.2.2⟩ : _ ∧ k_ ≠ b))) (fun _ hk => hk.2) (.string (⟨#[107]⟩ : ByteArray))) (fun _ hk => hk.2) (.slice D z.length E)) (fun _ hk => hk.2) (.slice none 0 0)) (fun _ hk => hk.2) (.int .i64 3)) (fun _ hk => hk.2) (.slice a5 O.length a6)) (fun _ hk => ⟨hk.1.1, ⟨hk.1.2.1, (by simp [Value.ownBlock])⟩⟩), q_w1 G.out q.out⟩
mutual
def r6_Phis.l0 : Nat → Int → Int → ByteArray → List (S83) → List (S85) → Int → List (S69) → Option (Int)
 | 0, _, _, _, _, _, _, _ => none
 | k + 1, B, z, l, p, q, y, b => if z < (b.length : Int) then (r6_Phis.l1 k B z 0 l p q y b) else (some B)
def r6_Phis.l1 : Nat → Int → Int → Int → ByteArray → List (S83) → List (S85) → Int → List (S69) → Option (Int)
 | 0, _, _, _, _, _, _, _, _ => none
 | k + 1, B, z, C, l, p, q, y, b => if 0 ≤ z then (if z < (b.length : Int) then (if C < (((rd_T69 b z).f0).length : Int) then (if 0 ≤ C then (if ((rd_T71 ((rd_T69 b z).f0) C).f0) = 11 then (r6_Phis.l1 k (wrap64 (B + 1)) z (wrap64 (C + 1)) l p q y b) else (r6_Phis.l1 k B z (wrap64 (C + 1)) l p q y b)) else (none)) else (r6_Phis.l0 k B (wrap64 (z + 1)) l p q y b)) else (none)) else (none)
end
def r6_Phis.f (k : Nat) (b : ByteArray) (l : List (S83)) (p : List (S85)) (q : Int) (y : List (S69)) : Option (Int) := r6_Phis.l0 k 0 0 b l p q y
theorem r6_Phis.calls (k : Nat) (T : ByteArray) (a5 : Option Addr) (a6 : Nat) (B : List (S83)) (a7 : Option Addr) (a8 : Nat) (D : List (S85)) (U : Int) (a9 : Option Addr) (b0 : Nat) (z : List (S69)) (r : Int) (w : World) (c6 : Kd.C k83 w a5 B.length B) (c8 : B.length ≤ a6) (d0 : Kd.C k85 w a7 D.length D) (d1 : D.length ≤ a8) (d2 : Kd.C k69 w a9 z.length z) (d3 : z.length ≤ b0) (h : r6_Phis.f k T B D U z = some r) :
  Calls Tryd.prog 32 #[.agg #[.string T, .slice a5 B.length a6, .slice a7 D.length a8, .int .i64 U, .slice a9 z.length b0]] w fun e w' => e = .returned (.int .i64 r) ∧ Below w.heap.size w w' := by
 have o6 := Tryd.underlying26; have n8 := a_ c6; have n9 := a_ c8; clear c6 c8; have o0 := a_ d0; have o1 := a_ d1; clear d0 d1; have V := a_ d2; have o2 := a_ d3; clear d2 d3; have R := a_ (Below.refl w.heap.size w); have H : (r6_Phis.l0 k 0 0 T B D U z) = some r := h
 clear h; have H' := a_ H
 clear H; go_enter Tryd.func32, Tryd.ntmps32
 go_wp2_with (first | ((with_reducible refine gd_ 1 rfl ?_); refine q_box 1 26 #[.string T, .slice a5 B.length a6, .slice a7 D.length a8, .int .i64 U, .slice a9 z.length b0] ?_; intro d5 hg w2 g2 hb; have p := a_ (g2); have o3 := a_ ((q_ge R.out hg)); have S := a_ ((q_ge R.out hg)); replace R := a_ (q_st R.out hb); clear hb g2 hg))
 go_loopg [3, 4] k (fun kq v3 v4 w' => ∃ (b9 : Int) (y : Int), v3 = .int .i64 b9 ∧ v4 = .int .i64 y ∧ Aside0 (r6_Phis.l0 kq b9 y T B D U z = some r) ∧ Aside0 (kq ≤ k) ∧ Aside0 (w'.heap[d5]? = some (.cells #[.string T, (.slice a5 B.length a6), (.slice a7 D.length a8), .int .i64 U, (.slice a9 z.length b0)] 26 (0, 0))) ∧ Aside0 (Below w.heap.size w w'))
 case atStart => exact ⟨(0), (0), q_r, q_r, H', ⟨Nat.le_refl _⟩, ⟨q_k p.out⟩, ⟨q_w1 R.out S.out⟩⟩
 case round => (
 clear H'; obtain ⟨b9, y, rfl, rfl, HA, c3, p, R⟩ := hrel; cases gk with
 | zero => exact absurd HA.out (by simp [r6_Phis.l0])
 | succ k1 => (
 have H := HA.out; clear HA; simp only [r6_Phis.l0] at H
 rcases q_ite H with ⟨c3b0, H⟩ | ⟨c3b0, H⟩
 {
 have H' := a_ H
 clear H; obtain ⟨e8, e9, f0, f1, f2, f3, f4, f5, f6, f7⟩ := q_cf5 p.out; go_wp2
 go_loopg [3, 5] k1 (fun kq v3 v5 w' => ∃ (a3 : Int) (X : Int), v3 = .int .i64 a3 ∧ v5 = .int .i64 X ∧ Aside0 (r6_Phis.l1 kq a3 y X T B D U z = some r) ∧ Aside0 (kq ≤ k1) ∧ Aside0 (w'.heap[d5]? = some (.cells #[.string T, (.slice a5 B.length a6), (.slice a7 D.length a8), .int .i64 U, (.slice a9 z.length b0)] 26 (0, 0))) ∧ Aside0 (Below w.heap.size w w'))
 case atStart => exact ⟨(b9), (0), q_r, q_r, H', ⟨Nat.le_refl _⟩, ⟨q_k p.out⟩, ⟨q_w1 R.out S.out⟩⟩
 case round => (
 clear H'; clear c3b0 e8 e9 f0 f1 f2 f3 f4 f5 f6 f7; obtain ⟨a3, X, rfl, rfl, HA, c4, p, R⟩ := hrel; cases gk with
 | zero => exact absurd HA.out (by simp [r6_Phis.l1])
 | succ k2 => (
 have H := HA.out; clear HA; simp only [r6_Phis.l1] at H
 replace H := q_gD H; obtain ⟨-, c5b0, H⟩ := H; replace H := q_gD H; obtain ⟨-, c6b0, H⟩ := H; rcases q_ite H with ⟨c7b0, H⟩ | ⟨c7b0, H⟩
 {
 replace H := q_gD H; obtain ⟨-, c8b0, H⟩ := H; replace H := q_iBN H; rcases H with ⟨-, c9b0, c9b1, H⟩ | ⟨c9, c9b0, c9b1, H⟩
 {
 have H' := a_ H
 clear H; obtain ⟨g6, g7, g8, g9, i0, i1, i2, i3, i4, i5⟩ := q_cf5 p.out; obtain ⟨a4, c0, c1, b1, O, b2, b3, b4, b5, b, l, g3, g4⟩ := b_T69 V.out R.out y; cases b1; have b6 := a_ l; have b7 := a_ b; clear l b; have a0 : 0 ≤ (y : Int) := q_d
 have a1 : y < (z.length : Int) := q_d
 obtain ⟨b8, f8, f9, d6, q, E, F, G, I, J, L⟩ := at_T69 V.out y a0 a1; obtain rfl : a4 = b8 := (by injection d6)
 replace q := q_kc R.out q; replace E := q_kc R.out E; replace F := q_kc R.out F; replace G := q_kc R.out G; replace I := q_kc R.out I; have a2 := a_ L; have d7 := a_ J; clear L J; replace a0 := eq_true a0; replace a1 := eq_true a1; have ea_ := Option.some.inj (O.symm.trans q); injection ea_ with ea_ en_ ec_
 subst ea_; subst ec_; clear en_; obtain ⟨g5, g0, g1, d8, d9, e0, e1, e2, e3, e4, e5, M, N, i6, i7⟩ := b_T71 a2.out R.out X; cases d8; have e6 := a_ N; have e7 := a_ M; clear N M; go_wp2
 go_roundg k2
 case measure => have := c3.out; have := c4.out; omega
 case rel => exact ⟨(wrap64 (a3 + 1)), (wrap64 (X + 1)), q_r, q_r, H', ⟨by have := c3.out; have := c4.out; omega⟩, ⟨q_k p.out⟩, ⟨q_w1 R.out S.out⟩⟩}
 {
 have H' := a_ H
 clear H; obtain ⟨i8, i9, j3, j5, j6, j7, j8, j9, k0, k3⟩ := q_cf5 p.out; obtain ⟨a4, c0, c1, b1, O, b2, b3, b4, b5, b, l, g3, g4⟩ := b_T69 V.out R.out y; cases b1; have b6 := a_ l; have b7 := a_ b; clear l b; have a0 : 0 ≤ (y : Int) := q_d
 have a1 : y < (z.length : Int) := q_d
 obtain ⟨b8, f8, f9, d6, q, E, F, G, I, J, L⟩ := at_T69 V.out y a0 a1; obtain rfl : a4 = b8 := (by injection d6)
 replace q := q_kc R.out q; replace E := q_kc R.out E; replace F := q_kc R.out F; replace G := q_kc R.out G; replace I := q_kc R.out I; have a2 := a_ L; have d7 := a_ J; clear L J; replace a0 := eq_true a0; replace a1 := eq_true a1; have ea_ := Option.some.inj (O.symm.trans q); injection ea_ with ea_ en_ ec_
 subst ea_; subst ec_; clear en_; obtain ⟨g5, g0, g1, d8, d9, e0, e1, e2, e3, e4, e5, M, N, i6, i7⟩ := b_T71 a2.out R.out X; cases d8; have e6 := a_ N; have e7 := a_ M; clear N M; go_wp2
 go_roundg k2
 case measure => have := c3.out; have := c4.out; omega
 case rel => exact ⟨(a3), (wrap64 (X + 1)), q_r, q_r, H', ⟨by have := c3.out; have := c4.out; omega⟩, ⟨q_k p.out⟩, ⟨q_w1 R.out S.out⟩⟩}}
 {
 have H' := a_ H
 clear H; obtain ⟨k4, k5, k6, k7, k8, k9, l4, l5, l6, l7⟩ := q_cf5 p.out; obtain ⟨a4, c0, c1, b1, O, b2, b3, b4, b5, b, l, g3, g4⟩ := b_T69 V.out R.out y; cases b1; have b6 := a_ l; have b7 := a_ b; clear l b; go_wp2
 go_roundg k2
 case measure => have := c3.out; have := c4.out; omega
 case rel => exact ⟨(a3), (wrap64 (y + 1)), q_r, q_r, H', ⟨by have := c3.out; have := c4.out; omega⟩, ⟨q_k p.out⟩, ⟨q_w1 R.out S.out⟩⟩}))}
 {
 obtain rfl := Option.some.inj H; obtain ⟨l8, l9, n0, n1, n2, n3, n4, n5, n6, n7⟩ := q_cf5 p.out; go_wp2
 go_ret
 exact ⟨q_e, q_w1 R.out S.out⟩}))
def alloc_index.f (b : Int) (l : Int) : Option (Int) := if b < 0 then (some (wrap64 ((wrap64 (l - 1)) - b))) else (some b)
theorem alloc_index.calls (b : Int) (l : Int) (r : Int) (w : World) (h : alloc_index.f b l = some r) :
  Calls Tryd.prog 35 #[.int .i64 b, .int .i64 l] w fun e w' => e = .returned (.int .i64 r) ∧ Drawn0 w w' := by
 have H : (if b < 0 then (some (wrap64 ((wrap64 (l - 1)) - b))) else (some b)) = some r := h
 clear h; rcases q_ite H with ⟨c3b0, H⟩ | ⟨c3b0, H⟩
 {
 obtain rfl := Option.some.inj H; go_enter Tryd.func35, Tryd.ntmps35
 go_wp2
 go_ret
 exact ⟨by first | rfl | (simp; done) | (simp [*]; done), by repeat (first | exact Drawn0.refl _ | apply Drawn0.step)⟩}
 {
 obtain rfl := Option.some.inj H; go_enter Tryd.func35, Tryd.ntmps35
 go_wp2
 go_ret
 exact ⟨by first | rfl | (simp; done) | (simp [*]; done), by repeat (first | exact Drawn0.refl _ | apply Drawn0.step)⟩}
def flow_next.f (q : List (S71)) (b : Int) (y : Int) (l : Int) (p : Int) : Option (List Int) := if b = 0 then (some (([l] : List Int))) else (if b = 1 then (some (([l, p] : List Int))) else (some ([] : List Int)))
theorem flow_next.calls (E : Option Addr) (F : Nat) (y : List (S71)) (B : Int) (G : Int) (b : Int) (q : Int) (r : List Int) (w : World) (O : Kd.C k71 w E y.length y) (S : y.length ≤ F) (h : flow_next.f y B G b q = some r) :
  Calls Tryd.prog 44 #[.agg #[.slice E y.length F, .int .i64 B, .int .i64 G, .int .i64 b, .int .i64 q]] w fun e w' => ∃ a3 : Value, e = .returned (a3) ∧ Kd.R (Kd.int .i64) 3 w' w.heap.size (fun _ => True) a3 r ∧ Below w.heap.size w w' := by
 have e1 := Tryd.underlying69; have d9 := a_ O; have e0 := a_ S; clear O S; have D := a_ (Below.refl w.heap.size w); have H : (if B = 0 then (some (([b] : List Int))) else (if B = 1 then (some (([b, q] : List Int))) else (some ([] : List Int)))) = some r := h
 clear h; replace H := q_iBN H; rcases H with ⟨-, c2b0, c2b1, H⟩ | ⟨c2, c2b0, c2b1, H⟩
 {
 obtain ⟨a4, J⟩ : ∃ y_ : List Int, y_ = (([b] : List Int)) := ⟨_, rfl⟩; replace H : (some a4) = some r := q_rw J H
 have T := a_ J; clear J; obtain rfl := Option.some.inj H; go_enter Tryd.func44, Tryd.ntmps44
 go_wp2_with (first | ((with_reducible refine gd_ 1 rfl ?_); refine q_box 1 69 #[.slice E y.length F, .int .i64 B, .int .i64 G, .int .i64 b, .int .i64 q] ?_; intro U hg w3 z hb; have l := a_ (z); have V := a_ ((q_ge D.out hg)); have p := a_ ((q_ge D.out hg)); replace D := a_ (q_st D.out hb); clear hb z hg; obtain ⟨b6, b7, b8, b9, c0, c1, c3, c4, c6, c8⟩ := q_cf5 l.out) | ((with_reducible refine gd_ 9 rfl ?_); refine Kd.R_lit (Kd.int .i64) _ 3 ?hg (N := 9) ?hd (xs := ([b] : List Int)) (inner := [.int .i64 b]) (ok := fun _ => True) (okp := fun _ => True) ?hr ?hp (fun _ hk => hk) trivial (Below.refl _ _) (Nat.le_refl _) (by simp) ?_; (case hd => rfl); (case hg => rfl); (case hr => first | (go_simp; done) | (go_simp; rfl)); (case hp => exact (Reps.one (show Kd.M (Kd.int .i64) _ _ _ b [.int .i64 b] from rfl) (Reps.none _ _))); intro e2 w5 X hb hg_ hnew_; clear hg_ hnew_; (first | rw [← T.out] at X | (simp only [Int.reduceToNat] at X; rw [← T.out] at X)); have a1 := a_ (Kd.R_lower X (below_size (q_w1 D.out p.out))); replace l := a_ (q_bk l.out hb); replace D := a_ (q_st1 D.out hb p.out); clear hb X))
 go_ret
 exact ⟨_, q_e, by (with_reducible repeat (first | apply Kd.R_alloc | apply Kd.R_drewN | apply Kd.R_drew)); exact a1.out, q_w1 D.out p.out⟩}
 {
 replace H := q_iBN H; rcases H with ⟨-, c7b0, c7b1, H⟩ | ⟨c7, c7b0, c7b1, H⟩
 {
 obtain ⟨a5, L⟩ : ∃ y_ : List Int, y_ = (([b, q] : List Int)) := ⟨_, rfl⟩; replace H : (some a5) = some r := q_rw L H
 have a0 := a_ L; clear L; obtain rfl := Option.some.inj H; go_enter Tryd.func44, Tryd.ntmps44
 go_wp2_with (first | ((with_reducible refine gd_ 1 rfl ?_); refine q_box 1 69 #[.slice E y.length F, .int .i64 B, .int .i64 G, .int .i64 b, .int .i64 q] ?_; intro U hg w8 z hb; have l := a_ (z); have V := a_ ((q_ge D.out hg)); have p := a_ ((q_ge D.out hg)); replace D := a_ (q_st D.out hb); clear hb z hg; obtain ⟨c9, d0, d1, d2, d3, d4, d5, d6, d7, d8⟩ := q_cf5 l.out) | ((with_reducible refine gd_ 16 rfl ?_); refine Kd.R_lit (Kd.int .i64) _ 3 ?hg (N := 16) ?hd (xs := ([b, q] : List Int)) (inner := [.int .i64 b, .int .i64 q]) (ok := fun _ => True) (okp := fun _ => True) ?hr ?hp (fun _ hk => hk) trivial (Below.refl _ _) (Nat.le_refl _) (by simp) ?_; (case hd => rfl); (case hg => rfl); (case hr => first | (go_simp; done) | (go_simp; rfl)); (case hp => exact (Reps.one (show Kd.M (Kd.int .i64) _ _ _ b [.int .i64 b] from rfl) (Reps.one (show Kd.M (Kd.int .i64) _ _ _ q [.int .i64 q] from rfl) (Reps.none _ _)))); intro e3 e4 I hb hg_ hnew_; clear hg_ hnew_; (first | rw [← a0.out] at I | (simp only [Int.reduceToNat] at I; rw [← a0.out] at I)); have a2 := a_ (Kd.R_lower I (below_size (q_w1 D.out p.out))); replace l := a_ (q_bk l.out hb); replace D := a_ (q_st1 D.out hb p.out); clear hb I))
 go_ret
 exact ⟨_, q_e, by (with_reducible repeat (first | apply Kd.R_alloc | apply Kd.R_drewN | apply Kd.R_drew)); exact a2.out, q_w1 D.out p.out⟩}
 {
 obtain rfl := Option.some.inj H; go_enter Tryd.func44, Tryd.ntmps44
 go_wp2_with (first | ((with_reducible refine gd_ 1 rfl ?_); refine q_box 1 69 #[.slice E y.length F, .int .i64 B, .int .i64 G, .int .i64 b, .int .i64 q] ?_; intro U hg e5 z hb; have l := a_ (z); have V := a_ ((q_ge D.out hg)); have p := a_ ((q_ge D.out hg)); replace D := a_ (q_st D.out hb); clear hb z hg; obtain ⟨a6, a7, a8, a9, b0, b1, b2, b3, b4, b5⟩ := q_cf5 l.out))
 go_ret
 exact ⟨_, q_e, by first | exact Kd.R_nil _ _ _ _ _ | exact Kd.N_nil _ _ _ _ _ | exact Kd.V_nil _ _ _ _ _ | exact Kd.Q_nil _ _ _ _ _ | exact Kd.S_nil _ _ _ _ _, q_w1 D.out p.out⟩}}
def r2_In.l0 : Nat → ByteArray → List ByteArray → Int → Option (Bool)
 | 0, _, _, _ => none
 | k + 1, p, l, b => if b < (l.length : Int) then (if 0 ≤ b then (if (rdOf ByteArray.empty l b).toList = p.toList then (some true) else (r2_In.l0 k p l (wrap64 (b + 1)))) else (none)) else (some false)
def r2_In.f (k : Nat) (b : ByteArray) (l1 : List ByteArray) : Option (Bool) := r2_In.l0 k b l1 0
theorem r2_In.calls (k : Nat) (z : ByteArray) (J : Option Addr) (L : Nat) (l1 : List ByteArray) (r : Bool) (w : World) (D : Kd.C Kd.string w J l1.length l1) (E : l1.length ≤ L) (h : r2_In.f k z l1 = some r) :
  Calls Tryd.prog 64 #[.string z, .slice J l1.length L] w fun e w' => e = .returned (.bool r) ∧ Drawn0 w w' := by
 have F := a_ D; have M := a_ E; clear D E; have H : (r2_In.l0 k z l1 0) = some r := h
 clear h; have I := a_ H
 clear H; go_enter Tryd.func64, Tryd.ntmps64
 go_wp2
 go_loopg [5] k (fun kq N w' => ∃ (b : Int), N = .int .i64 b ∧ Aside0 (r2_In.l0 kq z l1 b = some r) ∧ Aside0 (kq ≤ k) ∧ Drawn0 w w')
 case atStart => exact ⟨(0), q_r, I, ⟨Nat.le_refl _⟩, by repeat (first | exact Drawn0.refl _ | apply Drawn0.step)⟩
 case round => (
 clear I; obtain ⟨b, rfl, HA, G, ⟨R, rfl⟩⟩ := hrel; cases gk with
 | zero => exact absurd HA.out (by simp [r2_In.l0])
 | succ O => (
 have H := HA.out; clear HA; simp only [r2_In.l0] at H
 rcases q_ite H with ⟨c3b0, H⟩ | ⟨c3b0, H⟩
 {
 replace H := q_gD H; obtain ⟨-, c4b0, H⟩ := H; by_cases c5 : (rdOf ByteArray.empty l1 b).toList = z.toList
 {
 rw [if_pos c5] at H; have c5b0 : ((rdOf ByteArray.empty l1 b).toList == z.toList) = true := beq_iff_eq.mpr c5
 have c5b1 : ((rdOf ByteArray.empty l1 b).toList != z.toList) = false := bne_eq_false_iff_eq.mpr c5
 clear c5; obtain rfl := Option.some.inj H; have l : 0 ≤ (b : Int) := q_d
 have p : b < (l1.length : Int) := q_d
 obtain ⟨B, q, y⟩ := Kd.at_string F.out b l p; cases q; replace l := eq_true l; replace p := eq_true p; go_wp2
 go_ret
 exact ⟨by first | rfl | (simp; done) | (simp [*]; done), by repeat (first | exact Drawn0.refl _ | apply Drawn0.step)⟩}
 {
 rw [if_neg c5] at H; have c5b0 : ((rdOf ByteArray.empty l1 b).toList == z.toList) = false := beq_eq_false_iff_ne.mpr c5
 have c5b1 : ((rdOf ByteArray.empty l1 b).toList != z.toList) = true := bne_iff_ne.mpr c5
 have I := a_ H
 clear H; have l : 0 ≤ (b : Int) := q_d
 have p : b < (l1.length : Int) := q_d
 obtain ⟨B, q, y⟩ := Kd.at_string F.out b l p; cases q; replace l := eq_true l; replace p := eq_true p; go_wp2
 go_roundg O
 case measure => have := G.out; omega
 case rel => exact ⟨(wrap64 (b + 1)), q_r, I, ⟨by have := G.out; omega⟩, by repeat (first | exact Drawn0.refl _ | apply Drawn0.step)⟩}}
 {
 obtain rfl := Option.some.inj H; go_wp2
 go_ret
 exact ⟨by first | rfl | (simp; done) | (simp [*]; done), by repeat (first | exact Drawn0.refl _ | apply Drawn0.step)⟩}))
def r2_letter.f (b : Int) : Option (Bool) := if b ≥ 97 then (if b ≤ 122 then (some true) else (if b ≥ 65 then (some (decide (b ≤ 90))) else (some false))) else (if b ≥ 65 then (some (decide (b ≤ 90))) else (some false))
theorem r2_letter.calls (b : Int) (r : Bool) (w : World) (h : r2_letter.f b = some r) :
  Calls Tryd.prog 92 #[.int .u8 b] w fun e w' => e = .returned (.bool r) ∧ Drawn0 w w' := by
 have H : (if b ≥ 97 then (if b ≤ 122 then (some true) else (if b ≥ 65 then (some (decide (b ≤ 90))) else (some false))) else (if b ≥ 65 then (some (decide (b ≤ 90))) else (some false))) = some r := h
 clear h; rcases q_ite H with ⟨c2b0, H⟩ | ⟨c2b0, H⟩
 {
 rcases q_ite H with ⟨c3b0, H⟩ | ⟨c3b0, H⟩
 {
 obtain rfl := Option.some.inj H; go_enter Tryd.func92, Tryd.ntmps92
 go_wp2
 go_ret
 exact ⟨by first | rfl | (simp; done) | (simp [*]; done), by repeat (first | exact Drawn0.refl _ | apply Drawn0.step)⟩}
 {
 rcases q_ite H with ⟨c4b0, H⟩ | ⟨c4b0, H⟩
 {
 obtain rfl := Option.some.inj H; go_enter Tryd.func92, Tryd.ntmps92
 go_wp2
 go_ret
 exact ⟨by first | rfl | (simp; done) | (simp [*]; done), by repeat (first | exact Drawn0.refl _ | apply Drawn0.step)⟩}
 {
 obtain rfl := Option.some.inj H; go_enter Tryd.func92, Tryd.ntmps92
 go_wp2
 go_ret
 exact ⟨by first | rfl | (simp; done) | (simp [*]; done), by repeat (first | exact Drawn0.refl _ | apply Drawn0.step)⟩}}}
 {
 rcases q_ite H with ⟨c5b0, H⟩ | ⟨c5b0, H⟩
 {
 obtain rfl := Option.some.inj H; go_enter Tryd.func92, Tryd.ntmps92
 go_wp2
 go_ret
 exact ⟨by first | rfl | (simp; done) | (simp [*]; done), by repeat (first | exact Drawn0.refl _ | apply Drawn0.step)⟩}
 {
 obtain rfl := Option.some.inj H; go_enter Tryd.func92, Tryd.ntmps92
 go_wp2
 go_ret
 exact ⟨by first | rfl | (simp; done) | (simp [*]; done), by repeat (first | exact Drawn0.refl _ | apply Drawn0.step)⟩}}
def r2_digit.f (b : Int) : Option (Bool) := if b ≥ 48 then (some (decide (b ≤ 57))) else (some false)
theorem r2_digit.calls (b : Int) (r : Bool) (w : World) (h : r2_digit.f b = some r) :
  Calls Tryd.prog 96 #[.int .u8 b] w fun e w' => e = .returned (.bool r) ∧ Drawn0 w w' := by
 have H : (if b ≥ 48 then (some (decide (b ≤ 57))) else (some false)) = some r := h
 clear h; rcases q_ite H with ⟨c2b0, H⟩ | ⟨c2b0, H⟩
 {
 obtain rfl := Option.some.inj H; go_enter Tryd.func96, Tryd.ntmps96
 go_wp2
 go_ret
 exact ⟨by first | rfl | (simp; done) | (simp [*]; done), by repeat (first | exact Drawn0.refl _ | apply Drawn0.step)⟩}
 {
 obtain rfl := Option.some.inj H; go_enter Tryd.func96, Tryd.ntmps96
 go_wp2
 go_ret
 exact ⟨by first | rfl | (simp; done) | (simp [*]; done), by repeat (first | exact Drawn0.refl _ | apply Drawn0.step)⟩}
def r2_Inner.f (p : Int) : Option (Bool) := (r2_letter.f p).bind fun b => (if b = true then (some true) else ((r2_digit.f p).bind fun l => (if l = true then (some true) else (some (p == 95)))))
theorem r2_Inner.calls (b : Int) (r : Bool) (w : World) (h : r2_Inner.f b = some r) :
  Calls Tryd.prog 93 #[.int .u8 b] w fun e w' => e = .returned (.bool r) ∧ Drawn0 w w' := by
 have H : ((r2_letter.f b).bind fun l => (if l = true then (some true) else ((r2_digit.f b).bind fun p => (if p = true then (some true) else (some (b == 95)))))) = some r := h
 clear h; replace H := Option.bind_eq_some_iff.mp H; obtain ⟨l, q, H⟩ := H; have C := a_ q; clear q; by_cases z : l = true
 {
 subst z; rw [if_pos rfl] at H; obtain rfl := Option.some.inj H; go_enter Tryd.func93, Tryd.ntmps93
 go_wp2_with (first | ((with_reducible refine gc_ 92 rfl ?_); refine q_gl 4 #[.int .u8 b] Tryd.func92 rfl ?_; (with_reducible refine (r2_letter.calls b true _ C.out).mono ?_); rintro e w' ⟨rfl, ⟨B, rfl⟩⟩; refine ⟨_, rfl, ?_⟩))
 go_ret
 exact ⟨by first | rfl | (simp; done) | (simp [*]; done), by repeat (first | exact Drawn0.refl _ | apply Drawn0.step)⟩}
 {
 replace z := Bool.eq_false_iff.mpr z; subst z; rw [if_neg Bool.false_ne_true] at H; replace H := Option.bind_eq_some_iff.mp H; obtain ⟨p, y, H⟩ := H; have D := a_ y; clear y; by_cases c5 : p = true
 {
 subst c5; rw [if_pos rfl] at H; obtain rfl := Option.some.inj H; go_enter Tryd.func93, Tryd.ntmps93
 go_wp2_with (first | ((with_reducible refine gc_ 92 rfl ?_); refine q_gl 4 #[.int .u8 b] Tryd.func92 rfl ?_; (with_reducible refine (r2_letter.calls b false _ C.out).mono ?_); rintro e w' ⟨rfl, ⟨B, rfl⟩⟩; refine ⟨_, rfl, ?_⟩) | (go_at_call 96; (with_reducible refine (r2_digit.calls b true _ D.out).mono ?_); rintro e w' ⟨rfl, ⟨B, rfl⟩⟩))
 go_ret
 exact ⟨by first | rfl | (simp; done) | (simp [*]; done), by repeat (first | exact Drawn0.refl _ | apply Drawn0.step)⟩}
 {
 replace c5 := Bool.eq_false_iff.mpr c5; subst c5; rw [if_neg Bool.false_ne_true] at H; obtain rfl := Option.some.inj H; go_enter Tryd.func93, Tryd.ntmps93
 go_wp2_with (first | ((with_reducible refine gc_ 92 rfl ?_); refine q_gl 4 #[.int .u8 b] Tryd.func92 rfl ?_; (with_reducible refine (r2_letter.calls b false _ C.out).mono ?_); rintro e w' ⟨rfl, ⟨B, rfl⟩⟩; refine ⟨_, rfl, ?_⟩) | (go_at_call 96; (with_reducible refine (r2_digit.calls b false _ D.out).mono ?_); rintro e w' ⟨rfl, ⟨B, rfl⟩⟩))
 go_ret
 exact ⟨by first | rfl | (simp; done) | (simp [*]; done), by repeat (first | exact Drawn0.refl _ | apply Drawn0.step)⟩}}
mutual
def r2_shaped.j0 : Nat → ByteArray → Bool → Option (Bool)
 | 0, _, _ => none
 | k + 1, b, q => if q = true then (some false) else (r2_shaped.l0 k b 0)
def r2_shaped.l0 : Nat → ByteArray → Int → Option (Bool)
 | 0, _, _ => none
 | k + 1, b, p => if p < (b.size : Int) then (if 0 ≤ p then ((r2_Inner.f (bt b p)).bind fun l => (if l = true then (r2_shaped.l0 k b (wrap64 (p + 1))) else (some false))) else (none)) else (some true)
end
def r2_shaped.f (k : Nat) (b : ByteArray) : Option (Bool) := if b.toList = ([] : List UInt8) then (r2_shaped.j0 k b true) else (if 0 < (b.size : Int) then ((r2_letter.f (bt b 0)).bind fun l => (r2_shaped.j0 k b (!l))) else (none))
theorem r2_shaped.calls (k : Nat) (l : ByteArray) (r : Bool) (w : World) (h : r2_shaped.f k l = some r) :
  Calls Tryd.prog 87 #[.string l] w fun e w' => e = .returned (.bool r) ∧ Drawn0 w w' := by
 have H : (if l.toList = ([] : List UInt8) then (r2_shaped.j0 k l true) else (if 0 < (l.size : Int) then ((r2_letter.f (bt l 0)).bind fun q => (r2_shaped.j0 k l (!q))) else (none))) = some r := h
 clear h; have E := a_ H; clear H; go_enter Tryd.func87, Tryd.ntmps87
 go_upto_region 1 with (fail)
 go_cut [11] (fun R wc => ∃ (kq : Nat) (p : Bool), R = .bool p ∧ Aside0 (r2_shaped.j0 kq l p = some r) ∧ Aside0 (kq ≤ k) ∧ Drawn0 w wc)
 case first => (
 have H := E.out; clear E; by_cases F : l.toList = ([] : List UInt8)
 {
 rw [if_pos F] at H; have c3b0 : (l.toList == ([] : List UInt8)) = true := beq_iff_eq.mpr F
 have c3b1 : (l.toList != ([] : List UInt8)) = false := bne_eq_false_iff_eq.mpr F
 clear F; (first | rw [c3b0] | (simp only [i64_w, i32_w]; rw [c3b0]) | skip)
 have C := a_ H
 clear H; go_wp2
 go_meet
 case rel => exact ⟨_, (true), q_r, C, ⟨by first | omega | exact Nat.le_refl _⟩, by repeat (first | exact Drawn0.refl _ | apply Drawn0.step)⟩}
 {
 rw [if_neg F] at H; have c3b0 : (l.toList == ([] : List UInt8)) = false := beq_eq_false_iff_ne.mpr F
 have c3b1 : (l.toList != ([] : List UInt8)) = true := bne_iff_ne.mpr F
 (first | rw [c3b0] | (simp only [i64_w, i32_w]; rw [c3b0]) | skip)
 replace H := q_gD H; obtain ⟨U, c4b0, H⟩ := H; have c4b1 : decide (0 < l.size) = true := decide_eq_true (by omega)
 clear U; replace H := Option.bind_eq_some_iff.mp H; obtain ⟨q, G, H⟩ := H; have V := a_ G; clear G; have C := a_ H
 clear H; have X : 0 ≤ (0 : Int) := (by omega)
 have S : 0 < l.size := (by have : (0 : Int) < (l.size : Int) := q_d; omega)
 have a1 : ∀ h : 0 < l.size, ((l[0]'h).toNat : Int) = bt l 0 := bt_at l 0
 clear X; have a2 : (0 < (l.size : Int)) = True := eq_true (q_d)
 replace S := eq_true S; go_wp2_with (first | (go_at_call 92; (with_reducible refine (r2_letter.calls (bt l 0) q _ V.out).mono ?_); rintro e w' ⟨rfl, ⟨T, rfl⟩⟩))
 go_meet
 case rel => exact ⟨_, (!q), q_r, C, ⟨by first | omega | exact Nat.le_refl _⟩, by repeat (first | exact Drawn0.refl _ | apply Drawn0.step)⟩})
 case rest => (
 clear E; obtain ⟨kq, p, rfl, HA, I, ⟨a3, rfl⟩⟩ := hcut; cases kq with
 | zero => exact absurd HA.out (by simp [r2_shaped.j0])
 | succ J => (
 have H := HA.out; clear HA; simp only [r2_shaped.j0] at H
 by_cases c7 : p = true
 {
 subst c7; rw [if_pos rfl] at H; obtain rfl := Option.some.inj H; go_wp2
 go_ret
 exact ⟨by first | rfl | (simp; done) | (simp [*]; done), by repeat (first | exact Drawn0.refl _ | apply Drawn0.step)⟩}
 {
 replace c7 := Bool.eq_false_iff.mpr c7; subst c7; rw [if_neg Bool.false_ne_true] at H; have C := a_ H
 clear H; go_wp2
 go_loopg [3] J (fun kq v3 w' => ∃ (b : Int), v3 = .int .i64 b ∧ Aside0 (r2_shaped.l0 kq l b = some r) ∧ Aside0 (kq ≤ J) ∧ Drawn0 w w')
 case atStart => exact ⟨(0), q_r, C, ⟨Nat.le_refl _⟩, by repeat (first | exact Drawn0.refl _ | apply Drawn0.step)⟩
 case round => (
 clear C; obtain ⟨b, rfl, HA, L, ⟨m2, rfl⟩⟩ := hrel; cases gk with
 | zero => exact absurd HA.out (by simp [r2_shaped.l0])
 | succ k2 => (
 have H := HA.out; clear HA; simp only [r2_shaped.l0] at H
 rcases q_ite H with ⟨c8b0, H⟩ | ⟨c8b0, H⟩
 {
 replace H := q_gD H; obtain ⟨-, c9b0, H⟩ := H; replace H := Option.bind_eq_some_iff.mp H; obtain ⟨M, D, H⟩ := H; have N := a_ D; clear D; by_cases B : M = true
 {
 subst B; rw [if_pos rfl] at H; have C := a_ H
 clear H; have y : 0 ≤ (b : Int) := q_d
 have z : b < (l.size : Int) := q_d
 have O := bt_at l b; replace y := eq_true y; replace z := eq_true z; go_wp2_with (first | ((with_reducible refine gc_ 93 rfl ?_); refine q_gl 21 #[.int .u8 (bt l b)] Tryd.func93 rfl ?_; (with_reducible refine (r2_Inner.calls (bt l b) true _ N.out).mono ?_); rintro e w' ⟨rfl, ⟨T, rfl⟩⟩; refine ⟨_, rfl, ?_⟩))
 go_roundg k2
 case measure => have := I.out; have := L.out; omega
 case rel => exact ⟨(wrap64 (b + 1)), q_r, C, ⟨by have := I.out; have := L.out; omega⟩, by repeat (first | exact Drawn0.refl _ | apply Drawn0.step)⟩}
 {
 replace B := Bool.eq_false_iff.mpr B; subst B; rw [if_neg Bool.false_ne_true] at H; obtain rfl := Option.some.inj H; have y : 0 ≤ (b : Int) := q_d
 have z : b < (l.size : Int) := q_d
 have O := bt_at l b; replace y := eq_true y; replace z := eq_true z; go_wp2_with (first | ((with_reducible refine gc_ 93 rfl ?_); refine q_gl 21 #[.int .u8 (bt l b)] Tryd.func93 rfl ?_; (with_reducible refine (r2_Inner.calls (bt l b) false _ N.out).mono ?_); rintro e w' ⟨rfl, ⟨T, rfl⟩⟩; refine ⟨_, rfl, ?_⟩))
 go_ret
 exact ⟨by first | rfl | (simp; done) | (simp [*]; done), by repeat (first | exact Drawn0.refl _ | apply Drawn0.step)⟩}}
 {
 obtain rfl := Option.some.inj H; go_wp2
 go_ret
 exact ⟨by first | rfl | (simp; done) | (simp [*]; done), by repeat (first | exact Drawn0.refl _ | apply Drawn0.step)⟩}))}))
def r2_Words.f  : Option (List ByteArray) := some (([(⟨#[102, 117, 110, 99]⟩ : ByteArray), (⟨#[107, 101, 114, 110, 101, 108]⟩ : ByteArray), (⟨#[98, 117, 102, 102, 101, 114]⟩ : ByteArray), (⟨#[105, 110, 116]⟩ : ByteArray), (⟨#[115, 104, 97, 114, 101, 100]⟩ : ByteArray), (⟨#[108, 101, 116]⟩ : ByteArray), (⟨#[105, 102]⟩ : ByteArray), (⟨#[101, 108, 115, 101]⟩ : ByteArray), (⟨#[119, 104, 105, 108, 101]⟩ : ByteArray), (⟨#[98, 114, 101, 97, 107]⟩ : ByteArray), (⟨#[99, 111, 110, 116, 105, 110, 117, 101]⟩ : ByteArray), (⟨#[114, 101, 116, 117, 114, 110]⟩ : ByteArray), (⟨#[98, 97, 114, 114, 105, 101, 114]⟩ : ByteArray), (⟨#[97, 116, 111, 109, 105, 99]⟩ : ByteArray), (⟨#[99, 111, 108, 108, 101, 99, 116]⟩ : ByteArray), (⟨#[116, 105, 100]⟩ : ByteArray), (⟨#[98, 105, 100]⟩ : ByteArray), (⟨#[100, 105, 109]⟩ : ByteArray), (⟨#[103, 114, 105, 100]⟩ : ByteArray), (⟨#[109, 105, 110]⟩ : ByteArray), (⟨#[109, 97, 120]⟩ : ByteArray), (⟨#[97, 100, 100]⟩ : ByteArray), (⟨#[97, 110, 100]⟩ : ByteArray), (⟨#[111, 114]⟩ : ByteArray), (⟨#[120, 111, 114]⟩ : ByteArray)] : List ByteArray))
theorem r2_Words.calls  (r : List ByteArray) (w : World) (h : r2_Words.f  = some r) :
  Calls Tryd.prog 88 #[] w fun e w' => ∃ y : Value, e = .returned (y) ∧ Kd.R Kd.string 9 w' w.heap.size (fun _ => True) y r ∧ Below w.heap.size w w' := by
 have B := a_ (Below.refl w.heap.size w); have H : (some (([(⟨#[102, 117, 110, 99]⟩ : ByteArray), (⟨#[107, 101, 114, 110, 101, 108]⟩ : ByteArray), (⟨#[98, 117, 102, 102, 101, 114]⟩ : ByteArray), (⟨#[105, 110, 116]⟩ : ByteArray), (⟨#[115, 104, 97, 114, 101, 100]⟩ : ByteArray), (⟨#[108, 101, 116]⟩ : ByteArray), (⟨#[105, 102]⟩ : ByteArray), (⟨#[101, 108, 115, 101]⟩ : ByteArray), (⟨#[119, 104, 105, 108, 101]⟩ : ByteArray), (⟨#[98, 114, 101, 97, 107]⟩ : ByteArray), (⟨#[99, 111, 110, 116, 105, 110, 117, 101]⟩ : ByteArray), (⟨#[114, 101, 116, 117, 114, 110]⟩ : ByteArray), (⟨#[98, 97, 114, 114, 105, 101, 114]⟩ : ByteArray), (⟨#[97, 116, 111, 109, 105, 99]⟩ : ByteArray), (⟨#[99, 111, 108, 108, 101, 99, 116]⟩ : ByteArray), (⟨#[116, 105, 100]⟩ : ByteArray), (⟨#[98, 105, 100]⟩ : ByteArray), (⟨#[100, 105, 109]⟩ : ByteArray), (⟨#[103, 114, 105, 100]⟩ : ByteArray), (⟨#[109, 105, 110]⟩ : ByteArray), (⟨#[109, 97, 120]⟩ : ByteArray), (⟨#[97, 100, 100]⟩ : ByteArray), (⟨#[97, 110, 100]⟩ : ByteArray), (⟨#[111, 114]⟩ : ByteArray), (⟨#[120, 111, 114]⟩ : ByteArray)] : List ByteArray))) = some r := h
 clear h; obtain ⟨z, b⟩ : ∃ y_ : List ByteArray, y_ = (([(⟨#[102, 117, 110, 99]⟩ : ByteArray), (⟨#[107, 101, 114, 110, 101, 108]⟩ : ByteArray), (⟨#[98, 117, 102, 102, 101, 114]⟩ : ByteArray), (⟨#[105, 110, 116]⟩ : ByteArray), (⟨#[115, 104, 97, 114, 101, 100]⟩ : ByteArray), (⟨#[108, 101, 116]⟩ : ByteArray), (⟨#[105, 102]⟩ : ByteArray), (⟨#[101, 108, 115, 101]⟩ : ByteArray), (⟨#[119, 104, 105, 108, 101]⟩ : ByteArray), (⟨#[98, 114, 101, 97, 107]⟩ : ByteArray), (⟨#[99, 111, 110, 116, 105, 110, 117, 101]⟩ : ByteArray), (⟨#[114, 101, 116, 117, 114, 110]⟩ : ByteArray), (⟨#[98, 97, 114, 114, 105, 101, 114]⟩ : ByteArray), (⟨#[97, 116, 111, 109, 105, 99]⟩ : ByteArray), (⟨#[99, 111, 108, 108, 101, 99, 116]⟩ : ByteArray), (⟨#[116, 105, 100]⟩ : ByteArray), (⟨#[98, 105, 100]⟩ : ByteArray), (⟨#[100, 105, 109]⟩ : ByteArray), (⟨#[103, 114, 105, 100]⟩ : ByteArray), (⟨#[109, 105, 110]⟩ : ByteArray), (⟨#[109, 97, 120]⟩ : ByteArray), (⟨#[97, 100, 100]⟩ : ByteArray), (⟨#[97, 110, 100]⟩ : ByteArray), (⟨#[111, 114]⟩ : ByteArray), (⟨#[120, 111, 114]⟩ : ByteArray)] : List ByteArray)) := ⟨_, rfl⟩; replace H : (some z) = some r := q_rw b H
 have l := a_ b; clear b; obtain rfl := Option.some.inj H; go_enter Tryd.func88, Tryd.ntmps88
 go_wp2_with (first | ((with_reducible refine gd_ 1 rfl ?_); refine Kd.R_lit Kd.string _ 9 ?hg (N := 1) ?hd (xs := ([(⟨#[102, 117, 110, 99]⟩ : ByteArray), (⟨#[107, 101, 114, 110, 101, 108]⟩ : ByteArray), (⟨#[98, 117, 102, 102, 101, 114]⟩ : ByteArray), (⟨#[105, 110, 116]⟩ : ByteArray), (⟨#[115, 104, 97, 114, 101, 100]⟩ : ByteArray), (⟨#[108, 101, 116]⟩ : ByteArray), (⟨#[105, 102]⟩ : ByteArray), (⟨#[101, 108, 115, 101]⟩ : ByteArray), (⟨#[119, 104, 105, 108, 101]⟩ : ByteArray), (⟨#[98, 114, 101, 97, 107]⟩ : ByteArray), (⟨#[99, 111, 110, 116, 105, 110, 117, 101]⟩ : ByteArray), (⟨#[114, 101, 116, 117, 114, 110]⟩ : ByteArray), (⟨#[98, 97, 114, 114, 105, 101, 114]⟩ : ByteArray), (⟨#[97, 116, 111, 109, 105, 99]⟩ : ByteArray), (⟨#[99, 111, 108, 108, 101, 99, 116]⟩ : ByteArray), (⟨#[116, 105, 100]⟩ : ByteArray), (⟨#[98, 105, 100]⟩ : ByteArray), (⟨#[100, 105, 109]⟩ : ByteArray), (⟨#[103, 114, 105, 100]⟩ : ByteArray), (⟨#[109, 105, 110]⟩ : ByteArray), (⟨#[109, 97, 120]⟩ : ByteArray), (⟨#[97, 100, 100]⟩ : ByteArray), (⟨#[97, 110, 100]⟩ : ByteArray), (⟨#[111, 114]⟩ : ByteArray), (⟨#[120, 111, 114]⟩ : ByteArray)] : List ByteArray)) (inner := [.string (⟨#[102, 117, 110, 99]⟩ : ByteArray), .string (⟨#[107, 101, 114, 110, 101, 108]⟩ : ByteArray), .string (⟨#[98, 117, 102, 102, 101, 114]⟩ : ByteArray), .string (⟨#[105, 110, 116]⟩ : ByteArray), .string (⟨#[115, 104, 97, 114, 101, 100]⟩ : ByteArray), .string (⟨#[108, 101, 116]⟩ : ByteArray), .string (⟨#[105, 102]⟩ : ByteArray), .string (⟨#[101, 108, 115, 101]⟩ : ByteArray), .string (⟨#[119, 104, 105, 108, 101]⟩ : ByteArray), .string (⟨#[98, 114, 101, 97, 107]⟩ : ByteArray), .string (⟨#[99, 111, 110, 116, 105, 110, 117, 101]⟩ : ByteArray), .string (⟨#[114, 101, 116, 117, 114, 110]⟩ : ByteArray), .string (⟨#[98, 97, 114, 114, 105, 101, 114]⟩ : ByteArray), .string (⟨#[97, 116, 111, 109, 105, 99]⟩ : ByteArray), .string (⟨#[99, 111, 108, 108, 101, 99, 116]⟩ : ByteArray), .string (⟨#[116, 105, 100]⟩ : ByteArray), .string (⟨#[98, 105, 100]⟩ : ByteArray), .string (⟨#[100, 105, 109]⟩ : ByteArray), .string (⟨#[103, 114, 105, 100]⟩ : ByteArray), .string (⟨#[109, 105, 110]⟩ : ByteArray), .string (⟨#[109, 97, 120]⟩ : ByteArray), .string (⟨#[97, 100, 100]⟩ : ByteArray), .string (⟨#[97, 110, 100]⟩ : ByteArray), .string (⟨#[111, 114]⟩ : ByteArray), .string (⟨#[120, 111, 114]⟩ : ByteArray)]) (ok := fun _ => True) (okp := fun _ => True) ?hr ?hp (fun _ hk => hk) trivial (Below.refl _ _) (Nat.le_refl _) (by simp) ?_; (case hd => rfl); (case hg => rfl); (case hr => first | (go_simp; done) | (go_simp; rfl)); (case hp => exact (Reps.one (show Kd.M Kd.string _ _ _ (⟨#[102, 117, 110, 99]⟩ : ByteArray) [.string (⟨#[102, 117, 110, 99]⟩ : ByteArray)] from rfl) (Reps.one (show Kd.M Kd.string _ _ _ (⟨#[107, 101, 114, 110, 101, 108]⟩ : ByteArray) [.string (⟨#[107, 101, 114, 110, 101, 108]⟩ : ByteArray)] from rfl) (Reps.one (show Kd.M Kd.string _ _ _ (⟨#[98, 117, 102, 102, 101, 114]⟩ : ByteArray) [.string (⟨#[98, 117, 102, 102, 101, 114]⟩ : ByteArray)] from rfl) (Reps.one (show Kd.M Kd.string _ _ _ (⟨#[105, 110, 116]⟩ : ByteArray) [.string (⟨#[105, 110, 116]⟩ : ByteArray)] from rfl) (Reps.one (show Kd.M Kd.string _ _ _ (⟨#[115, 104, 97, 114, 101, 100]⟩ : ByteArray) [.string (⟨#[115, 104, 97, 114, 101, 100]⟩ : ByteArray)] from rfl) (Reps.one (show Kd.M Kd.string _ _ _ (⟨#[108, 101, 116]⟩ : ByteArray) [.string (⟨#[108, 101, 116]⟩ : ByteArray)] from rfl) (Reps.one (show Kd.M Kd.string _ _ _ (⟨#[105, 102]⟩ : ByteArray) [.string (⟨#[105, 102]⟩ : ByteArray)] from rfl) (Reps.one (show Kd.M Kd.string _ _ _ (⟨#[101, 108, 115, 101]⟩ : ByteArray) [.string (⟨#[101, 108, 115, 101]⟩ : ByteArray)] from rfl) (Reps.one (show Kd.M Kd.string _ _ _ (⟨#[119, 104, 105, 108, 101]⟩ : ByteArray) [.string (⟨#[119, 104, 105, 108, 101]⟩ : ByteArray)] from rfl) (Reps.one (show Kd.M Kd.string _ _ _ (⟨#[98, 114, 101, 97, 107]⟩ : ByteArray) [.string (⟨#[98, 114, 101, 97, 107]⟩ : ByteArray)] from rfl) (Reps.one (show Kd.M Kd.string _ _ _ (⟨#[99, 111, 110, 116, 105, 110, 117, 101]⟩ : ByteArray) [.string (⟨#[99, 111, 110, 116, 105, 110, 117, 101]⟩ : ByteArray)] from rfl) (Reps.one (show Kd.M Kd.string _ _ _ (⟨#[114, 101, 116, 117, 114, 110]⟩ : ByteArray) [.string (⟨#[114, 101, 116, 117, 114, 110]⟩ : ByteArray)] from rfl) (Reps.one (show Kd.M Kd.string _ _ _ (⟨#[98, 97, 114, 114, 105, 101, 114]⟩ : ByteArray) [.string (⟨#[98, 97, 114, 114, 105, 101, 114]⟩ : ByteArray)] from rfl) (Reps.one (show Kd.M Kd.string _ _ _ (⟨#[97, 116, 111, 109, 105, 99]⟩ : ByteArray) [.string (⟨#[97, 116, 111, 109, 105, 99]⟩ : ByteArray)] from rfl) (Reps.one (show Kd.M Kd.string _ _ _ (⟨#[99, 111, 108, 108, 101, 99, 116]⟩ : ByteArray) [.string (⟨#[99, 111, 108, 108, 101, 99, 116]⟩ : ByteArray)] from rfl) (Reps.one (show Kd.M Kd.string _ _ _ (⟨#[116, 105, 100]⟩ : ByteArray) [.string (⟨#[116, 105, 100]⟩ : ByteArray)] from rfl) (Reps.one (show Kd.M Kd.string _ _ _ (⟨#[98, 105, 100]⟩ : ByteArray) [.string (⟨#[98, 105, 100]⟩ : ByteArray)] from rfl) (Reps.one (show Kd.M Kd.string _ _ _ (⟨#[100, 105, 109]⟩ : ByteArray) [.string (⟨#[100, 105, 109]⟩ : ByteArray)] from rfl) (Reps.one (show Kd.M Kd.string _ _ _ (⟨#[103, 114, 105, 100]⟩ : ByteArray) [.string (⟨#[103, 114, 105, 100]⟩ : ByteArray)] from rfl) (Reps.one (show Kd.M Kd.string _ _ _ (⟨#[109, 105, 110]⟩ : ByteArray) [.string (⟨#[109, 105, 110]⟩ : ByteArray)] from rfl) (Reps.one (show Kd.M Kd.string _ _ _ (⟨#[109, 97, 120]⟩ : ByteArray) [.string (⟨#[109, 97, 120]⟩ : ByteArray)] from rfl) (Reps.one (show Kd.M Kd.string _ _ _ (⟨#[97, 100, 100]⟩ : ByteArray) [.string (⟨#[97, 100, 100]⟩ : ByteArray)] from rfl) (Reps.one (show Kd.M Kd.string _ _ _ (⟨#[97, 110, 100]⟩ : ByteArray) [.string (⟨#[97, 110, 100]⟩ : ByteArray)] from rfl) (Reps.one (show Kd.M Kd.string _ _ _ (⟨#[111, 114]⟩ : ByteArray) [.string (⟨#[111, 114]⟩ : ByteArray)] from rfl) (Reps.one (show Kd.M Kd.string _ _ _ (⟨#[120, 111, 114]⟩ : ByteArray) [.string (⟨#[120, 111, 114]⟩ : ByteArray)] from rfl) (Reps.none _ _))))))))))))))))))))))))))); intro C w1 p hb hg_ hnew_; clear hg_ hnew_; (first | rw [← l.out] at p | (simp only [Int.reduceToNat] at p; rw [← l.out] at p)); have q := a_ (Kd.R_lower p (below_size (q_w B.out))); replace B := a_ (q_st B.out hb); clear hb p))
 go_ret
 exact ⟨_, q_e, by (with_reducible repeat (first | apply Kd.R_alloc | apply Kd.R_drewN | apply Kd.R_drew)); exact q.out, q_w B.out⟩
def r2_Name.f (k : Nat) (q : ByteArray) : Option (Bool) := (r2_shaped.f k q).bind fun b => (if b = true then (if (q.size : Int) ≤ 16 then ((r2_Words.f).bind fun l => ((r2_In.f k q l).bind fun p => (some (!p)))) else (some false)) else (some false))
theorem r2_Name.calls (k : Nat) (l : ByteArray) (r : Bool) (w : World) (h : r2_Name.f k l = some r) :
  Calls Tryd.prog 77 #[.string l] w fun e w' => e = .returned (.bool r) ∧ Below w.heap.size w w' := by
 have z := a_ (Below.refl w.heap.size w); have H : ((r2_shaped.f k l).bind fun q => (if q = true then (if (l.size : Int) ≤ 16 then ((r2_Words.f).bind fun p => ((r2_In.f k l p).bind fun y => (some (!y)))) else (some false)) else (some false))) = some r := h
 clear h; replace H := Option.bind_eq_some_iff.mp H; obtain ⟨q, B, H⟩ := H; have G := a_ B; clear B; by_cases F : q = true
 {
 subst F; rw [if_pos rfl] at H; replace H := q_iD H; rcases H with ⟨I, c4b0, H⟩ | ⟨I, c4b0, H⟩
 {
 have c4b1 : decide (l.size ≤ 16) = true := decide_eq_true (by omega)
 clear I; replace H := Option.bind_eq_some_iff.mp H; obtain ⟨p, C, H⟩ := H; have N := a_ C; clear C; replace H := Option.bind_eq_some_iff.mp H; obtain ⟨y, D, H⟩ := H; have O := a_ D; clear D; obtain rfl := Option.some.inj H; go_enter Tryd.func77, Tryd.ntmps77
 go_wp2_with (first | ((with_reducible refine gc_ 87 rfl ?_); refine q_gl 4 #[.string l] Tryd.func87 rfl ?_; (with_reducible refine (r2_shaped.calls k l true _ G.out).mono ?_); rintro e w' ⟨rfl, ⟨J, rfl⟩⟩; refine ⟨_, rfl, ?_⟩) | (go_at_call 88; (with_reducible refine (r2_Words.calls  p _ N.out).mono ?_); rintro e T ⟨M, rfl, E, hb⟩; have b := a_ (Kd.R_lower E (below_size (q_w z.out))); replace z := a_ (q_st z.out hb); clear hb E; obtain ⟨R, S, L⟩ := Kd.R_slice b.out; subst L) | (go_at_call 64; (with_reducible refine (r2_In.calls k l _ _ p y _ ?side1 ((Kd.R_reads' b.out).2.1) O.out).mono ?_); (case side1 => repeat (first | exact (Kd.R_reads' b.out).2.2 | with_reducible first | refine Kd.C_alloc ?_ _ | refine Kd.C_drewN ?_ _ | refine Kd.C_drew ?_)); rintro e w' ⟨rfl, ⟨J, rfl⟩⟩))
 go_ret
 exact ⟨q_e, q_w z.out⟩}
 {
 have c4b1 : decide (l.size ≤ 16) = false := decide_eq_false (by omega)
 clear I; obtain rfl := Option.some.inj H; go_enter Tryd.func77, Tryd.ntmps77
 go_wp2_with (first | ((with_reducible refine gc_ 87 rfl ?_); refine q_gl 4 #[.string l] Tryd.func87 rfl ?_; (with_reducible refine (r2_shaped.calls k l true _ G.out).mono ?_); rintro e w' ⟨rfl, ⟨J, rfl⟩⟩; refine ⟨_, rfl, ?_⟩))
 go_ret
 exact ⟨q_e, q_w z.out⟩}}
 {
 replace F := Bool.eq_false_iff.mpr F; subst F; rw [if_neg Bool.false_ne_true] at H; obtain rfl := Option.some.inj H; go_enter Tryd.func77, Tryd.ntmps77
 go_wp2_with (first | ((with_reducible refine gc_ 87 rfl ?_); refine q_gl 4 #[.string l] Tryd.func87 rfl ?_; (with_reducible refine (r2_shaped.calls k l false _ G.out).mono ?_); rintro e w' ⟨rfl, ⟨J, rfl⟩⟩; refine ⟨_, rfl, ?_⟩))
 go_ret
 exact ⟨q_e, q_w z.out⟩}
mutual
def r3_Head.j0 : Nat → List (S83) → List (S85) → Bool → Option (Bool)
 | 0, _, _, _ => none
 | k + 1, p, b, B => if B = true then (some false) else (r3_Head.l0 k p b 0)
def r3_Head.l0 : Nat → List (S83) → List (S85) → Int → Option (Bool)
 | 0, _, _, _ => none
 | k + 1, p, b, z => if z < (p.length : Int) then (if 0 ≤ z then ((r2_Name.f k ((rd_T83 p z).f0)).bind fun q => (if q = true then (r3_Head.l0 k p b (wrap64 (z + 1))) else (some false))) else (none)) else (r3_Head.l1 k b 0)
def r3_Head.l1 : Nat → List (S85) → Int → Option (Bool)
 | 0, _, _ => none
 | k + 1, b, l => if l < (b.length : Int) then (if 0 ≤ l then ((r2_Name.f k ((rd_T85 b l).f0)).bind fun y => (if y = true then (if ((rd_T85 b l).f1) < 1 then (some false) else (if ((rd_T85 b l).f1) > 64 then (some false) else (r3_Head.l1 k b (wrap64 (l + 1))))) else (some false))) else (none)) else (some true)
end
def r3_Head.f (k : Nat) (l : ByteArray) (l1 : List (S83)) (l2 : List (S85)) : Option (Bool) := (r2_Name.f k l).bind fun b => (if b = true then (if (l1.length : Int) > 6 then (r3_Head.j0 k l1 l2 true) else (r3_Head.j0 k l1 l2 (decide ((l2.length : Int) > 4)))) else (r3_Head.j0 k l1 l2 true))
theorem r3_Head.calls (k : Nat) (a0 : ByteArray) (A1 : Option Addr) (c1 : Nat) (l1 : List (S83)) (A2 : Option Addr) (c2 : Nat) (l2 : List (S85)) (r : Bool) (w : World) (b7 : Kd.C k83 w A1 l1.length l1) (b8 : l1.length ≤ c1) (b9 : Kd.C k85 w A2 l2.length l2) (c0 : l2.length ≤ c2) (h : r3_Head.f k a0 l1 l2 = some r) :
  Calls Tryd.prog 63 #[.string a0, .slice A1 l1.length c1, .slice A2 l2.length c2] w fun e w' => e = .returned (.bool r) ∧ Below w.heap.size w w' := by
 have c3 := a_ b7; have e3 := a_ b8; clear b7 b8; have O := a_ b9; have e4 := a_ c0; clear b9 c0; have q := a_ (Below.refl w.heap.size w); have H : ((r2_Name.f k a0).bind fun V => (if V = true then (if (l1.length : Int) > 6 then (r3_Head.j0 k l1 l2 true) else (r3_Head.j0 k l1 l2 (decide ((l2.length : Int) > 4)))) else (r3_Head.j0 k l1 l2 true))) = some r := h
 clear h; have b5 := a_ H; clear H; go_enter Tryd.func63, Tryd.ntmps63
 go_upto_region 1 with (fail)
 go_cut [21] (fun d8 wc => ∃ (kq : Nat) (R : Bool), d8 = .bool R ∧ Aside0 (r3_Head.j0 kq l1 l2 R = some r) ∧ Aside0 (kq ≤ k) ∧ Aside0 (Below w.heap.size w wc))
 case first => (
 have H := b5.out; clear b5; replace H := Option.bind_eq_some_iff.mp H; obtain ⟨V, c4, H⟩ := H; have A5 := a_ c4; clear c4; by_cases c6 : V = true
 {
 subst c6; rw [if_pos rfl] at H; replace H := q_iD H; rcases H with ⟨c7, c7b0, H⟩ | ⟨c7, c7b0, H⟩
 {
 have c7b1 : decide (6 < l1.length) = true := decide_eq_true (by omega)
 clear c7; (first | rw [c7b0] | (simp only [i64_w, i32_w]; rw [c7b0]) | skip)
 have T := a_ H
 clear H; go_wp2_with (first | ((with_reducible refine gc_ 77 rfl ?_); refine q_gl 10 #[.string a0] Tryd.func77 rfl ?_; (with_reducible refine (r2_Name.calls k a0 true _ A5.out).mono ?_); rintro e w8 ⟨rfl, hb⟩; refine ⟨_, rfl, ?_⟩; replace q := a_ (q_st q.out hb); (clear hb)))
 go_meet
 case rel => exact ⟨_, (true), q_r, T, ⟨by first | omega | exact Nat.le_refl _⟩, ⟨q_w q.out⟩⟩}
 {
 have c7b1 : decide (6 < l1.length) = false := decide_eq_false (by omega)
 clear c7; (first | rw [c7b0] | (simp only [i64_w, i32_w]; rw [c7b0]) | skip)
 have T := a_ H
 clear H; go_wp2_with (first | ((with_reducible refine gc_ 77 rfl ?_); refine q_gl 10 #[.string a0] Tryd.func77 rfl ?_; (with_reducible refine (r2_Name.calls k a0 true _ A5.out).mono ?_); rintro e w9 ⟨rfl, hb⟩; refine ⟨_, rfl, ?_⟩; replace q := a_ (q_st q.out hb); (clear hb)))
 go_meet
 case rel => exact ⟨_, (decide ((l2.length : Int) > 4)), q_r, T, ⟨by first | omega | exact Nat.le_refl _⟩, ⟨q_w q.out⟩⟩}}
 {
 replace c6 := Bool.eq_false_iff.mpr c6; subst c6; rw [if_neg Bool.false_ne_true] at H; have T := a_ H
 clear H; go_wp2_with (first | ((with_reducible refine gc_ 77 rfl ?_); refine q_gl 10 #[.string a0] Tryd.func77 rfl ?_; (with_reducible refine (r2_Name.calls k a0 false _ A5.out).mono ?_); rintro e e5 ⟨rfl, hb⟩; refine ⟨_, rfl, ?_⟩; replace q := a_ (q_st q.out hb); (clear hb)))
 go_meet
 case rel => exact ⟨_, (true), q_r, T, ⟨by first | omega | exact Nat.le_refl _⟩, ⟨q_w q.out⟩⟩})
 case rest => (
 clear b5; obtain ⟨kq, R, rfl, HA, a7, q⟩ := hcut; cases kq with
 | zero => exact absurd HA.out (by simp [r3_Head.j0])
 | succ c8 => (
 have H := HA.out; clear HA; simp only [r3_Head.j0] at H
 by_cases a8 : R = true
 {
 subst a8; rw [if_pos rfl] at H; obtain rfl := Option.some.inj H; go_wp2
 go_ret
 exact ⟨q_e, q_w q.out⟩}
 {
 replace a8 := Bool.eq_false_iff.mpr a8; subst a8; rw [if_neg Bool.false_ne_true] at H; have T := a_ H
 clear H; go_wp2
 go_loopg [7] c8 (fun kq v7 w' => ∃ (F : Int), v7 = .int .i64 F ∧ Aside0 (r3_Head.l0 kq l1 l2 F = some r) ∧ Aside0 (kq ≤ c8) ∧ Aside0 (Below w.heap.size w w'))
 case atStart => exact ⟨(0), q_r, T, ⟨Nat.le_refl _⟩, ⟨q_w q.out⟩⟩
 case round => (
 clear T; obtain ⟨F, rfl, HA, a9, q⟩ := hrel; cases gk with
 | zero => exact absurd HA.out (by simp [r3_Head.l0])
 | succ k2 => (
 have H := HA.out; clear HA; simp only [r3_Head.l0] at H
 rcases q_ite H with ⟨c12b0, H⟩ | ⟨c12b0, H⟩
 {
 replace H := q_gD H; obtain ⟨-, c13b0, H⟩ := H; replace H := Option.bind_eq_some_iff.mp H; obtain ⟨d0, b3, H⟩ := H; have d1 := a_ b3; clear b3; by_cases b0 : d0 = true
 {
 subst b0; rw [if_pos rfl] at H; have T := a_ H
 clear H; obtain ⟨b6, X, a1, a2, d2, d3⟩ := b_T83 c3.out q.out F; cases X; go_wp2_with (first | ((with_reducible refine gc_ 77 rfl ?_); refine q_gl 33 #[.string ((rd_T83 l1 F).f0)] Tryd.func77 rfl ?_; (with_reducible refine (r2_Name.calls k2 ((rd_T83 l1 F).f0) true _ d1.out).mono ?_); rintro e e7 ⟨rfl, hb⟩; refine ⟨_, rfl, ?_⟩; replace q := a_ (q_st q.out hb); (clear hb)))
 go_roundg k2
 case measure => have := a7.out; have := a9.out; omega
 case rel => exact ⟨(wrap64 (F + 1)), q_r, T, ⟨by have := a7.out; have := a9.out; omega⟩, ⟨q_w q.out⟩⟩}
 {
 replace b0 := Bool.eq_false_iff.mpr b0; subst b0; rw [if_neg Bool.false_ne_true] at H; obtain rfl := Option.some.inj H; obtain ⟨b6, X, a1, a2, d2, d3⟩ := b_T83 c3.out q.out F; cases X; go_wp2_with (first | ((with_reducible refine gc_ 77 rfl ?_); refine q_gl 33 #[.string ((rd_T83 l1 F).f0)] Tryd.func77 rfl ?_; (with_reducible refine (r2_Name.calls k2 ((rd_T83 l1 F).f0) false _ d1.out).mono ?_); rintro e e8 ⟨rfl, hb⟩; refine ⟨_, rfl, ?_⟩; replace q := a_ (q_st q.out hb); (clear hb)))
 go_ret
 exact ⟨q_e, q_w q.out⟩}}
 {
 have T := a_ H
 clear H; go_wp2
 go_loopg [8] k2 (fun kq v8 w' => ∃ (b : Int), v8 = .int .i64 b ∧ Aside0 (r3_Head.l1 kq l2 b = some r) ∧ Aside0 (kq ≤ k2) ∧ Aside0 (Below w.heap.size w w'))
 case atStart => exact ⟨(0), q_r, T, ⟨Nat.le_refl _⟩, ⟨q_w q.out⟩⟩
 case round => (
 clear T; clear c12b0; obtain ⟨b, rfl, HA, d4, q⟩ := hrel; cases gk with
 | zero => exact absurd HA.out (by simp [r3_Head.l1])
 | succ k3 => (
 have H := HA.out; clear HA; simp only [r3_Head.l1] at H
 rcases q_ite H with ⟨c18b0, H⟩ | ⟨c18b0, H⟩
 {
 replace H := q_gD H; obtain ⟨-, c19b0, H⟩ := H; replace H := Option.bind_eq_some_iff.mp H; obtain ⟨d6, b4, H⟩ := H; have b1 := a_ b4; clear b4; by_cases b2 : d6 = true
 {
 subst b2; rw [if_pos rfl] at H; rcases q_ite H with ⟨c22b0, H⟩ | ⟨c22b0, H⟩
 {
 obtain rfl := Option.some.inj H; obtain ⟨y, G, I, J, a3, a4⟩ := b_T85 O.out q.out b; cases G; go_wp2_with (first | ((with_reducible refine gc_ 77 rfl ?_); refine q_gl 46 #[.string ((rd_T85 l2 b).f0)] Tryd.func77 rfl ?_; (with_reducible refine (r2_Name.calls k3 ((rd_T85 l2 b).f0) true _ b1.out).mono ?_); rintro e f1 ⟨rfl, hb⟩; refine ⟨_, rfl, ?_⟩; replace q := a_ (q_st q.out hb); (clear hb); have z : 0 ≤ (b : Int) := q_d; have B : b < (l2.length : Int) := q_d; obtain ⟨L, S, l, p⟩ := at_T85 O.out b z B; obtain rfl : y = L := (by injection S); replace l := q_kc q.out l; replace p := q_kc q.out p; replace z := eq_true z; replace B := eq_true B))
 go_ret
 exact ⟨q_e, q_w q.out⟩}
 {
 rcases q_ite H with ⟨c24b0, H⟩ | ⟨c24b0, H⟩
 {
 obtain rfl := Option.some.inj H; obtain ⟨y, G, I, J, a3, a4⟩ := b_T85 O.out q.out b; cases G; go_wp2_with (first | ((with_reducible refine gc_ 77 rfl ?_); refine q_gl 46 #[.string ((rd_T85 l2 b).f0)] Tryd.func77 rfl ?_; (with_reducible refine (r2_Name.calls k3 ((rd_T85 l2 b).f0) true _ b1.out).mono ?_); rintro e f2 ⟨rfl, hb⟩; refine ⟨_, rfl, ?_⟩; replace q := a_ (q_st q.out hb); (clear hb); have z : 0 ≤ (b : Int) := q_d; have B : b < (l2.length : Int) := q_d; obtain ⟨L, S, l, p⟩ := at_T85 O.out b z B; obtain rfl : y = L := (by injection S); replace l := q_kc q.out l; replace p := q_kc q.out p; replace z := eq_true z; replace B := eq_true B; have M : 0 ≤ (b : Int) := q_d; have N : b < (l2.length : Int) := q_d; obtain ⟨U, a5, D, E⟩ := at_T85 O.out b M N; obtain rfl : y = U := (by injection a5); replace D := q_kc q.out D; replace E := q_kc q.out E; replace M := eq_true M; replace N := eq_true N))
 go_ret
 exact ⟨q_e, q_w q.out⟩}
 {
 have T := a_ H
 clear H; obtain ⟨y, G, I, J, a3, a4⟩ := b_T85 O.out q.out b; cases G; go_wp2_with (first | ((with_reducible refine gc_ 77 rfl ?_); refine q_gl 46 #[.string ((rd_T85 l2 b).f0)] Tryd.func77 rfl ?_; (with_reducible refine (r2_Name.calls k3 ((rd_T85 l2 b).f0) true _ b1.out).mono ?_); rintro e f3 ⟨rfl, hb⟩; refine ⟨_, rfl, ?_⟩; replace q := a_ (q_st q.out hb); (clear hb); have z : 0 ≤ (b : Int) := q_d; have B : b < (l2.length : Int) := q_d; obtain ⟨L, S, l, p⟩ := at_T85 O.out b z B; obtain rfl : y = L := (by injection S); replace l := q_kc q.out l; replace p := q_kc q.out p; replace z := eq_true z; replace B := eq_true B; have M : 0 ≤ (b : Int) := q_d; have N : b < (l2.length : Int) := q_d; obtain ⟨U, a5, D, E⟩ := at_T85 O.out b M N; obtain rfl : y = U := (by injection a5); replace D := q_kc q.out D; replace E := q_kc q.out E; replace M := eq_true M; replace N := eq_true N))
 go_roundg k3
 case measure => have := a7.out; have := a9.out; have := d4.out; omega
 case rel => exact ⟨(wrap64 (b + 1)), q_r, T, ⟨by have := a7.out; have := a9.out; have := d4.out; omega⟩, ⟨q_w q.out⟩⟩}}}
 {
 replace b2 := Bool.eq_false_iff.mpr b2; subst b2; rw [if_neg Bool.false_ne_true] at H; obtain rfl := Option.some.inj H; obtain ⟨y, G, I, J, a3, a4⟩ := b_T85 O.out q.out b; cases G; go_wp2_with (first | ((with_reducible refine gc_ 77 rfl ?_); refine q_gl 46 #[.string ((rd_T85 l2 b).f0)] Tryd.func77 rfl ?_; (with_reducible refine (r2_Name.calls k3 ((rd_T85 l2 b).f0) false _ b1.out).mono ?_); rintro e f4 ⟨rfl, hb⟩; refine ⟨_, rfl, ?_⟩; replace q := a_ (q_st q.out hb); (clear hb)))
 go_ret
 exact ⟨q_e, q_w q.out⟩}}
 {
 obtain rfl := Option.some.inj H; go_wp2
 go_ret
 exact ⟨q_e, q_w q.out⟩}))}))}))
mutual
def r6_Heads.l0 : Nat → List (S83) → List (S85) → List ByteArray → Int → Option (Bool)
 | 0, _, _, _, _ => none
 | k + 1, B, p, b, y => if y < (B.length : Int) then (if 0 ≤ y then (if b.length < 8796093022208 then (r6_Heads.l0 k B p (b ++ [(rd_T83 B y).f0]) (wrap64 (y + 1))) else (none)) else (none)) else (r6_Heads.l1 k p b 0)
def r6_Heads.l1 : Nat → List (S85) → List ByteArray → Int → Option (Bool)
 | 0, _, _, _ => none
 | k + 1, p, b, z => if z < (p.length : Int) then (if 0 ≤ z then (if b.length < 8796093022208 then (r6_Heads.l1 k p (b ++ [(rd_T85 p z).f0]) (wrap64 (z + 1))) else (none)) else (none)) else (r6_Heads.l2 k b 0)
def r6_Heads.l2 : Nat → List ByteArray → Int → Option (Bool)
 | 0, _, _ => none
 | k + 1, b, l => if l < (b.length : Int) then (if 0 ≤ l then (if l ≤ (b.length : Int) then ((r2_In.f k (rdOf ByteArray.empty b l) (b.take (l : Int).toNat)).bind fun q => (if q = true then (some false) else (r6_Heads.l2 k b (wrap64 (l + 1))))) else (none)) else (none)) else (some true)
end
def r6_Heads.f (k : Nat) (l : ByteArray) (l1 : List (S83)) (l2 : List (S85)) : Option (Bool) := (r3_Head.f k l l1 l2).bind fun b => (if b = true then (r6_Heads.l0 k l1 l2 ([] : List ByteArray) 0) else (some false))
theorem r6_Heads.calls (k : Nat) (a0 : ByteArray) (A1 : Option Addr) (c1 : Nat) (l1 : List (S83)) (A2 : Option Addr) (c2 : Nat) (l2 : List (S85)) (r : Bool) (w : World) (e9 : Kd.C k83 w A1 l1.length l1) (f1 : l1.length ≤ c1) (f2 : Kd.C k85 w A2 l2.length l2) (f3 : l2.length ≤ c2) (h : r6_Heads.f k a0 l1 l2 = some r) :
  Calls Tryd.prog 45 #[.string a0, .slice A1 l1.length c1, .slice A2 l2.length c2] w fun e w' => e = .returned (.bool r) ∧ Below w.heap.size w w' := by
 have T := a_ e9; have a8 := a_ f1; clear e9 f1; have U := a_ f2; have a9 := a_ f3; clear f2 f3; have y := a_ (Below.refl w.heap.size w); have H : ((r3_Head.f k a0 l1 l2).bind fun b2 => (if b2 = true then (r6_Heads.l0 k l1 l2 ([] : List ByteArray) 0) else (some false))) = some r := h
 clear h; replace H := Option.bind_eq_some_iff.mp H; obtain ⟨b2, f4, H⟩ := H; have A4 := a_ f4; clear f4; by_cases c5 : b2 = true
 {
 subst c5; rw [if_pos rfl] at H; have H' := a_ H
 clear H; go_enter Tryd.func45, Tryd.ntmps45
 go_wp2_with (first | (go_at_call 63; (with_reducible refine (r3_Head.calls k a0 _ _ l1 _ _ l2 true _ (q_C T.out) a8.out (q_C U.out) a9.out A4.out).mono ?_); rintro e w6 ⟨rfl, hb⟩; replace y := a_ (q_st y.out hb); (clear hb)))
 repeat (go_quiet (first | (go_at_call 63; (with_reducible refine (r3_Head.calls k a0 _ _ l1 _ _ l2 true _ (q_C T.out) a8.out (q_C U.out) a9.out A4.out).mono ?_); rintro e w6 ⟨rfl, hb⟩; replace y := a_ (q_st y.out hb))); try go_wp2_with (first | (go_at_call 63; (with_reducible refine (r3_Head.calls k a0 _ _ l1 _ _ l2 true _ (q_C T.out) a8.out (q_C U.out) a9.out A4.out).mono ?_); rintro e w6 ⟨rfl, hb⟩; replace y := a_ (q_st y.out hb))))
 go_loopg [7, 8] k (fun kq v7 v8 w' => ∃ (I : List ByteArray) (z : Int), v8 = .int .i64 z ∧ Aside0 (r6_Heads.l0 kq l1 l2 I z = some r) ∧ Aside0 (kq ≤ k) ∧ Aside0 (Kd.R Kd.string 9 w' w.heap.size (fun _ => True) v7 I) ∧ Aside0 (Below w.heap.size w w'))
 case atStart => exact ⟨(([] : List ByteArray)), (0), q_r, H', ⟨Nat.le_refl _⟩, ⟨by first | exact Kd.R_nil _ _ _ _ _ | exact Kd.N_nil _ _ _ _ _ | exact Kd.V_nil _ _ _ _ _ | exact Kd.Q_nil _ _ _ _ _ | exact Kd.S_nil _ _ _ _ _⟩, ⟨q_w y.out⟩⟩
 case round => (
 clear H'; obtain ⟨I, z, rfl, HA, b0, HO_7, y⟩ := hrel; cases gk with
 | zero => exact absurd HA.out (by simp [r6_Heads.l0])
 | succ k1 => (
 have H := HA.out; clear HA; simp only [r6_Heads.l0] at H
 rcases q_ite H with ⟨c7b0, H⟩ | ⟨c7b0, H⟩
 {
 replace H := q_gD H; obtain ⟨-, c8b0, H⟩ := H; replace H := q_g H; obtain ⟨c9, H⟩ := H; have b3 := a_ c9; clear c9; obtain ⟨d6, V⟩ : ∃ y_ : List ByteArray, y_ = (I ++ [(rd_T83 l1 z).f0]) := ⟨_, rfl⟩; replace H : (r6_Heads.l0 k1 l1 l2 d6 (wrap64 (z + 1))) = some r := q_rw V H
 have X := a_ V; clear V; have H' := a_ H
 clear H; obtain ⟨i3, f5, f6, f7, j5, j6⟩ := b_T83 T.out y.out z; cases f5; go_wp2_with (first | ((with_reducible refine gate_builtin (b := .append) (xs := #[.tmp 22, .tmp 28]) rfl ?_); at_builtin; refine Kd.R_append Kd.string (w0 := w) w.heap.size rfl (.tmp 22) (.tmp 28) 100 9 (.string ⟨#[]⟩) 16 rfl Tryd.underlying100 info9 rfl (by decide) (by omega) u7 I ((rd_T83 l1 z).f0) [.string ((rd_T83 l1 z).f0)] (fun _ => True) (fun _ => False) rfl rfl ?aP (fun _ hk => hk.elim) ?aF ?aO ?aB ?aS ?aL ?_; (case aP => exact rfl); (case aB => exact (q_w y.out)); (case aF => exact (fun _ _ => trivial)); (case aO => exact (by (with_reducible repeat (first | apply Kd.R_alloc | apply Kd.R_drewN | apply Kd.R_drew)); exact HO_7.out)); (case aS => exact (below_size (q_w y.out))); (case aL => have := b3.out; omega); intro d7 f8 ho hb hg hat; rw [← X.out] at ho; have D := a_ (hb); have E := a_ (ho); clear y; clear HO_7; have y := D; have a1 := E; clear D E; clear ho hb hg hat))
 repeat (go_quiet (first | ((with_reducible refine gate_builtin (b := .append) (xs := #[.tmp 22, .tmp 28]) rfl ?_); at_builtin; refine Kd.R_append Kd.string (w0 := w) w.heap.size rfl (.tmp 22) (.tmp 28) 100 9 (.string ⟨#[]⟩) 16 rfl Tryd.underlying100 info9 rfl (by decide) (by omega) u7 I ((rd_T83 l1 z).f0) [.string ((rd_T83 l1 z).f0)] (fun _ => True) (fun _ => False) rfl rfl ?aP (fun _ hk => hk.elim) ?aF ?aO ?aB ?aS ?aL ?_; (case aP => exact rfl); (case aB => exact (q_w y.out)); (case aF => exact (fun _ _ => trivial)); (case aO => exact (by (with_reducible repeat (first | apply Kd.R_alloc | apply Kd.R_drewN | apply Kd.R_drew)); exact HO_7.out)); (case aS => exact (below_size (q_w y.out))); (case aL => have := b3.out; omega); intro d7 f8 ho hb hg hat; rw [← X.out] at ho; have D := a_ (hb); have E := a_ (ho); clear y; clear HO_7; have y := D; have a1 := E; clear D E; clear ho hb hg hat)); try go_wp2_with (first | ((with_reducible refine gate_builtin (b := .append) (xs := #[.tmp 22, .tmp 28]) rfl ?_); at_builtin; refine Kd.R_append Kd.string (w0 := w) w.heap.size rfl (.tmp 22) (.tmp 28) 100 9 (.string ⟨#[]⟩) 16 rfl Tryd.underlying100 info9 rfl (by decide) (by omega) u7 I ((rd_T83 l1 z).f0) [.string ((rd_T83 l1 z).f0)] (fun _ => True) (fun _ => False) rfl rfl ?aP (fun _ hk => hk.elim) ?aF ?aO ?aB ?aS ?aL ?_; (case aP => exact rfl); (case aB => exact (q_w y.out)); (case aF => exact (fun _ _ => trivial)); (case aO => exact (by (with_reducible repeat (first | apply Kd.R_alloc | apply Kd.R_drewN | apply Kd.R_drew)); exact HO_7.out)); (case aS => exact (below_size (q_w y.out))); (case aL => have := b3.out; omega); intro d7 f8 ho hb hg hat; rw [← X.out] at ho; have D := a_ (hb); have E := a_ (ho); clear y; clear HO_7; have y := D; have a1 := E; clear D E; clear ho hb hg hat)))
 go_roundg k1
 case measure => have := b0.out; omega
 case rel => exact ⟨(d6), (wrap64 (z + 1)), q_r, H', ⟨by have := b0.out; omega⟩, ⟨by (with_reducible repeat (first | apply Kd.R_alloc | apply Kd.R_drewN | apply Kd.R_drew)); exact a1.out⟩, ⟨q_w y.out⟩⟩}
 {
 have H' := a_ H
 clear H; go_wp2
 repeat (go_quiet (fail); try go_wp2)
 go_loopg [7, 9] k1 (fun kq v7 v9 w' => ∃ (p : List ByteArray) (B : Int), v9 = .int .i64 B ∧ Aside0 (r6_Heads.l1 kq l2 p B = some r) ∧ Aside0 (kq ≤ k1) ∧ Aside0 (Kd.R Kd.string 9 w' w.heap.size (fun _ => True) v7 p) ∧ Aside0 (Below w.heap.size w w'))
 case atStart => exact ⟨(I), (0), q_r, H', ⟨Nat.le_refl _⟩, ⟨by (with_reducible repeat (first | apply Kd.R_alloc | apply Kd.R_drewN | apply Kd.R_drew)); exact HO_7.out⟩, ⟨q_w y.out⟩⟩
 case round => (
 clear H'; clear c7b0; obtain ⟨p, B, rfl, HA, d1, HO_7, y⟩ := hrel; cases gk with
 | zero => exact absurd HA.out (by simp [r6_Heads.l1])
 | succ k2 => (
 have H := HA.out; clear HA; simp only [r6_Heads.l1] at H
 rcases q_ite H with ⟨c11b0, H⟩ | ⟨c11b0, H⟩
 {
 replace H := q_gD H; obtain ⟨-, c12b0, H⟩ := H; replace H := q_g H; obtain ⟨f9, H⟩ := H; have a2 := a_ f9; clear f9; obtain ⟨d8, a3⟩ : ∃ y_ : List ByteArray, y_ = (p ++ [(rd_T85 l2 B).f0]) := ⟨_, rfl⟩; replace H : (r6_Heads.l1 k2 l2 d8 (wrap64 (B + 1))) = some r := q_rw a3 H
 have a4 := a_ a3; clear a3; have H' := a_ H
 clear H; obtain ⟨i4, g0, g1, g2, j7, j8⟩ := b_T85 U.out y.out B; cases g0; go_wp2_with (first | ((with_reducible refine gate_builtin (b := .append) (xs := #[.tmp 36, .tmp 42]) rfl ?_); at_builtin; refine Kd.R_append Kd.string (w0 := w) w.heap.size rfl (.tmp 36) (.tmp 42) 100 9 (.string ⟨#[]⟩) 16 rfl Tryd.underlying100 info9 rfl (by decide) (by omega) u7 p ((rd_T85 l2 B).f0) [.string ((rd_T85 l2 B).f0)] (fun _ => True) (fun _ => False) rfl rfl ?aP (fun _ hk => hk.elim) ?aF ?aO ?aB ?aS ?aL ?_; (case aP => exact rfl); (case aB => exact (q_w y.out)); (case aF => exact (fun _ _ => trivial)); (case aO => exact (by (with_reducible repeat (first | apply Kd.R_alloc | apply Kd.R_drewN | apply Kd.R_drew)); exact HO_7.out)); (case aS => exact (below_size (q_w y.out))); (case aL => have := a2.out; omega); intro d9 g3 ho hb hg hat; rw [← a4.out] at ho; have D := a_ (hb); have E := a_ (ho); clear y; clear HO_7; have y := D; have a5 := E; clear D E; clear ho hb hg hat))
 repeat (go_quiet (first | ((with_reducible refine gate_builtin (b := .append) (xs := #[.tmp 36, .tmp 42]) rfl ?_); at_builtin; refine Kd.R_append Kd.string (w0 := w) w.heap.size rfl (.tmp 36) (.tmp 42) 100 9 (.string ⟨#[]⟩) 16 rfl Tryd.underlying100 info9 rfl (by decide) (by omega) u7 p ((rd_T85 l2 B).f0) [.string ((rd_T85 l2 B).f0)] (fun _ => True) (fun _ => False) rfl rfl ?aP (fun _ hk => hk.elim) ?aF ?aO ?aB ?aS ?aL ?_; (case aP => exact rfl); (case aB => exact (q_w y.out)); (case aF => exact (fun _ _ => trivial)); (case aO => exact (by (with_reducible repeat (first | apply Kd.R_alloc | apply Kd.R_drewN | apply Kd.R_drew)); exact HO_7.out)); (case aS => exact (below_size (q_w y.out))); (case aL => have := a2.out; omega); intro d9 g3 ho hb hg hat; rw [← a4.out] at ho; have D := a_ (hb); have E := a_ (ho); clear y; clear HO_7; have y := D; have a5 := E; clear D E; clear ho hb hg hat)); try go_wp2_with (first | ((with_reducible refine gate_builtin (b := .append) (xs := #[.tmp 36, .tmp 42]) rfl ?_); at_builtin; refine Kd.R_append Kd.string (w0 := w) w.heap.size rfl (.tmp 36) (.tmp 42) 100 9 (.string ⟨#[]⟩) 16 rfl Tryd.underlying100 info9 rfl (by decide) (by omega) u7 p ((rd_T85 l2 B).f0) [.string ((rd_T85 l2 B).f0)] (fun _ => True) (fun _ => False) rfl rfl ?aP (fun _ hk => hk.elim) ?aF ?aO ?aB ?aS ?aL ?_; (case aP => exact rfl); (case aB => exact (q_w y.out)); (case aF => exact (fun _ _ => trivial)); (case aO => exact (by (with_reducible repeat (first | apply Kd.R_alloc | apply Kd.R_drewN | apply Kd.R_drew)); exact HO_7.out)); (case aS => exact (below_size (q_w y.out))); (case aL => have := a2.out; omega); intro d9 g3 ho hb hg hat; rw [← a4.out] at ho; have D := a_ (hb); have E := a_ (ho); clear y; clear HO_7; have y := D; have a5 := E; clear D E; clear ho hb hg hat)))
 go_roundg k2
 case measure => have := b0.out; have := d1.out; omega
 case rel => exact ⟨(d8), (wrap64 (B + 1)), q_r, H', ⟨by have := b0.out; have := d1.out; omega⟩, ⟨by (with_reducible repeat (first | apply Kd.R_alloc | apply Kd.R_drewN | apply Kd.R_drew)); exact a5.out⟩, ⟨q_w y.out⟩⟩}
 {
 have H' := a_ H
 clear H; go_wp2
 repeat (go_quiet (fail); try go_wp2)
 go_loopg [10] k2 (fun kq i5 w' => ∃ (l : Int), i5 = .int .i64 l ∧ Aside0 (r6_Heads.l2 kq p l = some r) ∧ Aside0 (kq ≤ k2) ∧ Aside0 (Kd.R Kd.string 9 w' w.heap.size (fun _ => True) u7 p) ∧ Aside0 (Below w.heap.size w w'))
 case atStart => exact ⟨(0), q_r, H', ⟨Nat.le_refl _⟩, ⟨by (with_reducible repeat (first | apply Kd.R_alloc | apply Kd.R_drewN | apply Kd.R_drew)); exact HO_7.out⟩, ⟨q_w y.out⟩⟩
 case round => (
 clear H'; clear c11b0; obtain ⟨l, rfl, HA, g4, HO_7, y⟩ := hrel; cases gk with
 | zero => exact absurd HA.out (by simp [r6_Heads.l2])
 | succ k3 => (
 have H := HA.out; clear HA; simp only [r6_Heads.l2] at H
 rcases q_ite H with ⟨c15b0, H⟩ | ⟨c15b0, H⟩
 {
 replace H := q_gD H; obtain ⟨-, c16b0, H⟩ := H; have c17b0 := eq_true (q_d : 0 ≤ l); replace H := q_gED H; obtain ⟨-, c18b0, c18b1, H⟩ := H; obtain ⟨F, a6⟩ : ∃ y_ : List ByteArray, y_ = (p.take (l : Int).toNat) := ⟨_, rfl⟩; replace H : ((r2_In.f k3 (rdOf ByteArray.empty p l) F).bind fun b4 => (if b4 = true then (some false) else (r6_Heads.l2 k3 p (wrap64 (l + 1))))) = some r := q_rw a6 H
 have N := a_ a6; clear a6; replace H := Option.bind_eq_some_iff.mp H; obtain ⟨b4, e0, H⟩ := H; have b1 := a_ e0; clear e0; by_cases d3 : b4 = true
 {
 subst d3; rw [if_pos rfl] at H; obtain rfl := Option.some.inj H; obtain ⟨j9, b5, g5⟩ := Kd.R_slice HO_7.out; subst g5; have J : 0 ≤ (l : Int) := q_d
 have L : l < (p.length : Int) := q_d
 obtain ⟨M, b6, b7⟩ := Kd.at_string (Kd.R_reads' HO_7.out).2.2 l J L; cases b6; replace J := eq_true J; replace L := eq_true L; have e3 : (l : Int) ≤ ((p.length : Int) : Int) := q_d
 obtain ⟨k0, b8, _, e4, _⟩ := info_parts info9; have O : p.length ≤ b5 := (Kd.R_reads' HO_7.out).2.1
 have e1 : Kd.C Kd.string _ (some M) p.length p := (Kd.R_reads' HO_7.out).2.2
 have d4 := cut_to (P := Tryd.prog) 100 9 .i64 Tryd.underlying100 b8 (some M) p.length b5 l (q_d) e3 O; have b9 := Kd.C_take (m := (l : Int).toNat) e1 (by omega)
 have c0 : F.length = (l : Int).toNat := (by rw [N.out, List.length_take]; omega)
 rw [← N.out] at b9; rw [← c0] at d4; have q := a_ b9; have G := a_ (show F.length ≤ b5 from by omega)
 clear b9 e1 O b8 e4; have k4 := a_ c0; clear c0; have k5 := a_ (show (l : Int).toNat ≤ p.length from by omega)
 replace e3 := eq_true e3; go_wp2_with (first | (go_at_call 64; (with_reducible refine (r2_In.calls k3 (rdOf ByteArray.empty p l) _ _ F true _ ?side1 G.out b1.out).mono ?_); (case side1 => repeat (first | exact (by repeat (first | (with_reducible exact q.out) | with_reducible first | refine Kd.C_alloc ?_ _ | refine Kd.C_drewN ?_ _ | refine Kd.C_drew ?_ | exact q.out)) | with_reducible first | refine Kd.C_alloc ?_ _ | refine Kd.C_drewN ?_ _ | refine Kd.C_drew ?_)); rintro e w' ⟨rfl, ⟨nd, rfl⟩⟩; (try first | exact ⟨rfl, _, World.drewN_drewN _ _ _⟩ | exact ⟨rfl, _, Eq.trans (World.drewN_drewN _ _ _) (congrArg (World.drewN _) (Nat.add_assoc _ _ _))⟩)))
 repeat (go_quiet (first | (go_at_call 64; (with_reducible refine (r2_In.calls k3 (rdOf ByteArray.empty p l) _ _ F true _ ?side1 G.out b1.out).mono ?_); (case side1 => repeat (first | exact (by repeat (first | (with_reducible exact q.out) | with_reducible first | refine Kd.C_alloc ?_ _ | refine Kd.C_drewN ?_ _ | refine Kd.C_drew ?_ | exact q.out)) | with_reducible first | refine Kd.C_alloc ?_ _ | refine Kd.C_drewN ?_ _ | refine Kd.C_drew ?_)); rintro e w' ⟨rfl, ⟨nd, rfl⟩⟩; (try first | exact ⟨rfl, _, World.drewN_drewN _ _ _⟩ | exact ⟨rfl, _, Eq.trans (World.drewN_drewN _ _ _) (congrArg (World.drewN _) (Nat.add_assoc _ _ _))⟩))); try go_wp2_with (first | (go_at_call 64; (with_reducible refine (r2_In.calls k3 (rdOf ByteArray.empty p l) _ _ F true _ ?side1 G.out b1.out).mono ?_); (case side1 => repeat (first | exact (by repeat (first | (with_reducible exact q.out) | with_reducible first | refine Kd.C_alloc ?_ _ | refine Kd.C_drewN ?_ _ | refine Kd.C_drew ?_ | exact q.out)) | with_reducible first | refine Kd.C_alloc ?_ _ | refine Kd.C_drewN ?_ _ | refine Kd.C_drew ?_)); rintro e w' ⟨rfl, ⟨nd, rfl⟩⟩; (try first | exact ⟨rfl, _, World.drewN_drewN _ _ _⟩ | exact ⟨rfl, _, Eq.trans (World.drewN_drewN _ _ _) (congrArg (World.drewN _) (Nat.add_assoc _ _ _))⟩))))
 go_ret
 exact ⟨q_e, q_w y.out⟩}
 {
 replace d3 := Bool.eq_false_iff.mpr d3; subst d3; rw [if_neg Bool.false_ne_true] at H; have H' := a_ H
 clear H; obtain ⟨k6, c3, g7⟩ := Kd.R_slice HO_7.out; subst g7; have J : 0 ≤ (l : Int) := q_d
 have L : l < (p.length : Int) := q_d
 obtain ⟨M, b6, b7⟩ := Kd.at_string (Kd.R_reads' HO_7.out).2.2 l J L; cases b6; replace J := eq_true J; replace L := eq_true L; have e5 : (l : Int) ≤ ((p.length : Int) : Int) := q_d
 obtain ⟨k7, c4, _, e6, _⟩ := info_parts info9; have S : p.length ≤ c3 := (Kd.R_reads' HO_7.out).2.1
 have e2 : Kd.C Kd.string _ (some M) p.length p := (Kd.R_reads' HO_7.out).2.2
 have d5 := cut_to (P := Tryd.prog) 100 9 .i64 Tryd.underlying100 c4 (some M) p.length c3 l (q_d) e5 S; have c6 := Kd.C_take (m := (l : Int).toNat) e2 (by omega)
 have c8 : F.length = (l : Int).toNat := (by rw [N.out, List.length_take]; omega)
 rw [← N.out] at c6; rw [← c8] at d5; have q := a_ c6; have G := a_ (show F.length ≤ c3 from by omega)
 clear c6 e2 S c4 e6; have k8 := a_ c8; clear c8; have k9 := a_ (show (l : Int).toNat ≤ p.length from by omega)
 replace e5 := eq_true e5; go_wp2_with (first | (go_at_call 64; (with_reducible refine (r2_In.calls k3 (rdOf ByteArray.empty p l) _ _ F false _ ?side1 G.out b1.out).mono ?_); (case side1 => repeat (first | exact (by repeat (first | (with_reducible exact q.out) | with_reducible first | refine Kd.C_alloc ?_ _ | refine Kd.C_drewN ?_ _ | refine Kd.C_drew ?_ | exact q.out)) | with_reducible first | refine Kd.C_alloc ?_ _ | refine Kd.C_drewN ?_ _ | refine Kd.C_drew ?_)); rintro e w' ⟨rfl, ⟨nd, rfl⟩⟩; (try first | exact ⟨rfl, _, World.drewN_drewN _ _ _⟩ | exact ⟨rfl, _, Eq.trans (World.drewN_drewN _ _ _) (congrArg (World.drewN _) (Nat.add_assoc _ _ _))⟩)))
 repeat (go_quiet (first | (go_at_call 64; (with_reducible refine (r2_In.calls k3 (rdOf ByteArray.empty p l) _ _ F false _ ?side1 G.out b1.out).mono ?_); (case side1 => repeat (first | exact (by repeat (first | (with_reducible exact q.out) | with_reducible first | refine Kd.C_alloc ?_ _ | refine Kd.C_drewN ?_ _ | refine Kd.C_drew ?_ | exact q.out)) | with_reducible first | refine Kd.C_alloc ?_ _ | refine Kd.C_drewN ?_ _ | refine Kd.C_drew ?_)); rintro e w' ⟨rfl, ⟨nd, rfl⟩⟩; (try first | exact ⟨rfl, _, World.drewN_drewN _ _ _⟩ | exact ⟨rfl, _, Eq.trans (World.drewN_drewN _ _ _) (congrArg (World.drewN _) (Nat.add_assoc _ _ _))⟩))); try go_wp2_with (first | (go_at_call 64; (with_reducible refine (r2_In.calls k3 (rdOf ByteArray.empty p l) _ _ F false _ ?side1 G.out b1.out).mono ?_); (case side1 => repeat (first | exact (by repeat (first | (with_reducible exact q.out) | with_reducible first | refine Kd.C_alloc ?_ _ | refine Kd.C_drewN ?_ _ | refine Kd.C_drew ?_ | exact q.out)) | with_reducible first | refine Kd.C_alloc ?_ _ | refine Kd.C_drewN ?_ _ | refine Kd.C_drew ?_)); rintro e w' ⟨rfl, ⟨nd, rfl⟩⟩; (try first | exact ⟨rfl, _, World.drewN_drewN _ _ _⟩ | exact ⟨rfl, _, Eq.trans (World.drewN_drewN _ _ _) (congrArg (World.drewN _) (Nat.add_assoc _ _ _))⟩))))
 go_roundg k3
 case measure => have := b0.out; have := d1.out; have := g4.out; omega
 case rel => exact ⟨(wrap64 (l + 1)), q_r, H', ⟨by have := b0.out; have := d1.out; have := g4.out; omega⟩, ⟨by (with_reducible repeat (first | apply Kd.R_alloc | apply Kd.R_drewN | apply Kd.R_drew)); exact HO_7.out⟩, ⟨q_w y.out⟩⟩}}
 {
 obtain rfl := Option.some.inj H; obtain ⟨l4, l5, g8⟩ := Kd.R_slice HO_7.out; subst g8; go_wp2
 repeat (go_quiet (fail); try go_wp2)
 go_ret
 exact ⟨q_e, q_w y.out⟩}))}))}))}
 {
 replace c5 := Bool.eq_false_iff.mpr c5; subst c5; rw [if_neg Bool.false_ne_true] at H; obtain rfl := Option.some.inj H; go_enter Tryd.func45, Tryd.ntmps45
 go_wp2_with (first | (go_at_call 63; (with_reducible refine (r3_Head.calls k a0 _ _ l1 _ _ l2 false _ (q_C T.out) a8.out (q_C U.out) a9.out A4.out).mono ?_); rintro e g9 ⟨rfl, hb⟩; replace y := a_ (q_st y.out hb); (clear hb)))
 repeat (go_quiet (first | (go_at_call 63; (with_reducible refine (r3_Head.calls k a0 _ _ l1 _ _ l2 false _ (q_C T.out) a8.out (q_C U.out) a9.out A4.out).mono ?_); rintro e g9 ⟨rfl, hb⟩; replace y := a_ (q_st y.out hb))); try go_wp2_with (first | (go_at_call 63; (with_reducible refine (r3_Head.calls k a0 _ _ l1 _ _ l2 false _ (q_C T.out) a8.out (q_C U.out) a9.out A4.out).mono ?_); rintro e g9 ⟨rfl, hb⟩; replace y := a_ (q_st y.out hb))))
 go_ret
 exact ⟨q_e, q_w y.out⟩}
def r6_ends.l0 : Nat → List Int → Int → ByteArray → List (S83) → List (S85) → Int → List (S69) → List (S71) → Int → Int → Int → Int → Option (Bool)
 | 0, _, _, _, _, _, _, _, _, _, _, _, _ => none
 | k + 1, G, F, B, C, D, q, y, E, l, b, z, p => if F < (G.length : Int) then (if 0 ≤ F then (if (rd G F) < 1 then (some false) else (if (rd G F) ≥ (y.length : Int) then (some false) else (r6_ends.l0 k G (wrap64 (F + 1)) B C D q y E l b z p))) else (none)) else (if l = 0 then (if b = 0 then (some (p == 0)) else (some false)) else (if l = 1 then (if b ≥ 0 then (some (decide (b < q))) else (some false)) else (if l = 2 then (if b = 0 then (if z = 0 then (some (p == 0)) else (some false)) else (some false)) else (some false))))
def r6_ends.f (k : Nat) (z : ByteArray) (B : List (S83)) (C : List (S85)) (D : Int) (E : List (S69)) (b : List (S71)) (l : Int) (p : Int) (q : Int) (y : Int) : Option (Bool) := (r6_Next.f b l p q y).bind fun F => (r6_ends.l0 k F 0 z B C D E b l p q y)
theorem r6_ends.calls (k : Nat) (V : ByteArray) (a2 : Option Addr) (a3 : Nat) (N : List (S83)) (a4 : Option Addr) (a5 : Nat) (O : List (S85)) (X : Int) (a6 : Option Addr) (a7 : Nat) (S : List (S69)) (a8 : Option Addr) (a9 : Nat) (F : List (S71)) (G : Int) (I : Int) (J : Int) (L : Int) (r : Bool) (w : World) (d3 : Kd.C k83 w a2 N.length N) (d4 : N.length ≤ a3) (d5 : Kd.C k85 w a4 O.length O) (d6 : O.length ≤ a5) (d7 : Kd.C k69 w a6 S.length S) (d8 : S.length ≤ a7) (d9 : Kd.C k71 w a8 F.length F) (e0 : F.length ≤ a9) (h : r6_ends.f k V N O X S F G I J L = some r) :
  Calls Tryd.prog 46 #[.agg #[.string V, .slice a2 N.length a3, .slice a4 O.length a5, .int .i64 X, .slice a6 S.length a7], .agg #[.slice a8 F.length a9, .int .i64 G, .int .i64 I, .int .i64 J, .int .i64 L]] w fun e w' => e = .returned (.bool r) ∧ Below w.heap.size w w' := by
 have y4 := Tryd.underlying26; have y5 := Tryd.underlying69; have v1 := a_ d3; have v2 := a_ d4; clear d3 d4; have v3 := a_ d5; have v4 := a_ d6; clear d5 d6; have v5 := a_ d7; have v7 := a_ d8; clear d7 d8; have c4 := a_ d9; have c6 := a_ e0; clear d9 e0; have E := a_ (Below.refl w.heap.size w); have H : ((r6_Next.f F G I J L).bind fun M => (r6_ends.l0 k M 0 V N O X S F G I J L)) = some r := h
 clear h; replace H := Option.bind_eq_some_iff.mp H; obtain ⟨M, e8, H⟩ := H; have A3 := a_ e8; clear e8; have H' := a_ H
 clear H; go_enter Tryd.func46, Tryd.ntmps46
 go_wp2_with (first | ((with_reducible refine gd_ 2 rfl ?_); (try (refine gate_guard (by rfl) ?_; dsimp only)); refine q_box 2 26 #[.string V, .slice a2 N.length a3, .slice a4 O.length a5, .int .i64 X, .slice a6 S.length a7] ?_; intro c8 hg w4 D hb; have q := a_ (D); have e1 := a_ ((q_ge E.out hg)); have p := a_ ((q_ge E.out hg)); replace E := a_ (q_st E.out hb); clear hb D hg) | ((with_reducible refine gd_ 3 rfl ?_); (try (refine gate_guard (by rfl) ?_; dsimp only)); refine q_box 3 69 #[.slice a8 F.length a9, .int .i64 G, .int .i64 I, .int .i64 J, .int .i64 L] ?_; intro c9 hg w5 D hb; have y := a_ (D); have e2 := a_ ((q_ge1 E.out hg p.out)); have z := a_ ((q_ge1 E.out hg p.out)); have b := a_ ((q_ne q.out hg)); have l := a_ ((q_en q.out hg)); replace q := a_ (q_bk q.out hb); replace E := a_ (q_st1 E.out hb p.out); clear hb D hg; have e6 := l.out; have e7 := b.out; obtain ⟨b0, b1, b2, b3, b4, b5, b6, b7, b8, b9⟩ := q_cf5 y.out) | (go_at_call 56; (with_reducible refine (r6_Next.calls _ _ F G I J L M _ (q_C (Kd.C_below c4.out E.out)) c6.out A3.out).mono ?_); rintro e w8 ⟨e3, rfl, d2, hb⟩; have d0 := a_ (Kd.R_lower d2 (below_size (q_w2 E.out p.out z.out))); replace q := a_ (q_bk q.out hb); replace y := a_ (q_bk y.out hb); replace E := a_ (q_st2 E.out hb p.out z.out); clear hb d2))
 repeat (go_quiet (first | ((with_reducible refine gd_ 2 rfl ?_); (try (refine gate_guard (by rfl) ?_; dsimp only)); refine q_box 2 26 #[.string V, .slice a2 N.length a3, .slice a4 O.length a5, .int .i64 X, .slice a6 S.length a7] ?_; intro c8 hg w4 D hb; have q := a_ (D); have e1 := a_ ((q_ge E.out hg)); have p := a_ ((q_ge E.out hg)); replace E := a_ (q_st E.out hb); clear hb D hg) | ((with_reducible refine gd_ 3 rfl ?_); (try (refine gate_guard (by rfl) ?_; dsimp only)); refine q_box 3 69 #[.slice a8 F.length a9, .int .i64 G, .int .i64 I, .int .i64 J, .int .i64 L] ?_; intro c9 hg w5 D hb; have y := a_ (D); have e2 := a_ ((q_ge1 E.out hg p.out)); have z := a_ ((q_ge1 E.out hg p.out)); have b := a_ ((q_ne q.out hg)); have l := a_ ((q_en q.out hg)); replace q := a_ (q_bk q.out hb); replace E := a_ (q_st1 E.out hb p.out); clear hb D hg; have e6 := l.out; have e7 := b.out; obtain ⟨b0, b1, b2, b3, b4, b5, b6, b7, b8, b9⟩ := q_cf5 y.out) | (go_at_call 56; (with_reducible refine (r6_Next.calls _ _ F G I J L M _ (q_C (Kd.C_below c4.out E.out)) c6.out A3.out).mono ?_); rintro e w8 ⟨e3, rfl, d2, hb⟩; have d0 := a_ (Kd.R_lower d2 (below_size (q_w2 E.out p.out z.out))); replace q := a_ (q_bk q.out hb); replace y := a_ (q_bk y.out hb); replace E := a_ (q_st2 E.out hb p.out z.out))); try go_wp2_with (first | ((with_reducible refine gd_ 2 rfl ?_); (try (refine gate_guard (by rfl) ?_; dsimp only)); refine q_box 2 26 #[.string V, .slice a2 N.length a3, .slice a4 O.length a5, .int .i64 X, .slice a6 S.length a7] ?_; intro c8 hg w4 D hb; have q := a_ (D); have e1 := a_ ((q_ge E.out hg)); have p := a_ ((q_ge E.out hg)); replace E := a_ (q_st E.out hb); clear hb D hg) | ((with_reducible refine gd_ 3 rfl ?_); (try (refine gate_guard (by rfl) ?_; dsimp only)); refine q_box 3 69 #[.slice a8 F.length a9, .int .i64 G, .int .i64 I, .int .i64 J, .int .i64 L] ?_; intro c9 hg w5 D hb; have y := a_ (D); have e2 := a_ ((q_ge1 E.out hg p.out)); have z := a_ ((q_ge1 E.out hg p.out)); have b := a_ ((q_ne q.out hg)); have l := a_ ((q_en q.out hg)); replace q := a_ (q_bk q.out hb); replace E := a_ (q_st1 E.out hb p.out); clear hb D hg; have e6 := l.out; have e7 := b.out; obtain ⟨b0, b1, b2, b3, b4, b5, b6, b7, b8, b9⟩ := q_cf5 y.out) | (go_at_call 56; (with_reducible refine (r6_Next.calls _ _ F G I J L M _ (q_C (Kd.C_below c4.out E.out)) c6.out A3.out).mono ?_); rintro e w8 ⟨e3, rfl, d2, hb⟩; have d0 := a_ (Kd.R_lower d2 (below_size (q_w2 E.out p.out z.out))); replace q := a_ (q_bk q.out hb); replace y := a_ (q_bk y.out hb); replace E := a_ (q_st2 E.out hb p.out z.out))))
 go_loopg [6] k (fun kq v6 w' => ∃ (B : Int), v6 = .int .i64 B ∧ Aside0 (r6_ends.l0 kq M B V N O X S F G I J L = some r) ∧ Aside0 (kq ≤ k) ∧ Aside0 (Kd.R (Kd.int .i64) 3 w' w.heap.size (fun _ => True) e3 M) ∧ Aside0 (w'.heap[c8]? = some (.cells #[.string V, (.slice a2 N.length a3), (.slice a4 O.length a5), .int .i64 X, (.slice a6 S.length a7)] 26 (0, 0))) ∧ Aside0 (w'.heap[c9]? = some (.cells #[(.slice a8 F.length a9), .int .i64 G, .int .i64 I, .int .i64 J, .int .i64 L] 69 (0, 0))) ∧ Aside0 (Below w.heap.size w w'))
 case atStart => exact ⟨(0), q_r, H', ⟨Nat.le_refl _⟩, ⟨by (with_reducible repeat (first | apply Kd.R_alloc | apply Kd.R_drewN | apply Kd.R_drew)); exact d0.out⟩, ⟨q_k q.out⟩, ⟨q_k y.out⟩, ⟨q_w2 E.out p.out z.out⟩⟩
 case round => (
 clear H'; clear b0 b1 b2 b3 b4 b5 b6 b7 b8 b9; obtain ⟨B, rfl, HA, e9, HO_5, q, y, E⟩ := hrel; cases gk with
 | zero => exact absurd HA.out (by simp [r6_ends.l0])
 | succ k1 => (
 have H := HA.out; clear HA; simp only [r6_ends.l0] at H
 rcases q_ite H with ⟨c9b0, H⟩ | ⟨c9b0, H⟩
 {
 replace H := q_gD H; obtain ⟨-, c10b0, H⟩ := H; rcases q_ite H with ⟨c11b0, H⟩ | ⟨c11b0, H⟩
 {
 obtain rfl := Option.some.inj H; obtain ⟨y9, z0, f0⟩ := Kd.R_slice HO_5.out; subst f0; have T : 0 ≤ (B : Int) := q_d
 have U : B < (M.length : Int) := q_d
 obtain ⟨c0, c1, c3⟩ := Kd.at_int (Kd.R_reads' HO_5.out).2.2 B T U; cases c1; replace T := eq_true T; replace U := eq_true U; go_wp2
 repeat (go_quiet (fail); try go_wp2)
 go_ret
 exact ⟨q_e, q_w2 E.out p.out z.out⟩}
 {
 rcases q_ite H with ⟨c13b0, H⟩ | ⟨c13b0, H⟩
 {
 obtain rfl := Option.some.inj H; obtain ⟨z1, z2, f1⟩ := Kd.R_slice HO_5.out; subst f1; have T : 0 ≤ (B : Int) := q_d
 have U : B < (M.length : Int) := q_d
 obtain ⟨c0, c1, c3⟩ := Kd.at_int (Kd.R_reads' HO_5.out).2.2 B T U; cases c1; replace T := eq_true T; replace U := eq_true U; have a0 : 0 ≤ (B : Int) := q_d
 have a1 : B < (M.length : Int) := q_d
 obtain ⟨d1, e4, e5⟩ := Kd.at_int (Kd.R_reads' HO_5.out).2.2 B a0 a1; obtain rfl : c0 = d1 := (by injection e4)
 replace a0 := eq_true a0; replace a1 := eq_true a1; have v9 := b.out; have w2 := l.out; obtain ⟨f2, f3, f4, f5, f6, f7, f8, f9, g0, g1⟩ := q_cf5 q.out; go_wp2
 repeat (go_quiet (fail); try go_wp2)
 go_ret
 exact ⟨q_e, q_w2 E.out p.out z.out⟩}
 {
 have H' := a_ H
 clear H; obtain ⟨z3, z4, g2⟩ := Kd.R_slice HO_5.out; subst g2; have T : 0 ≤ (B : Int) := q_d
 have U : B < (M.length : Int) := q_d
 obtain ⟨c0, c1, c3⟩ := Kd.at_int (Kd.R_reads' HO_5.out).2.2 B T U; cases c1; replace T := eq_true T; replace U := eq_true U; have a0 : 0 ≤ (B : Int) := q_d
 have a1 : B < (M.length : Int) := q_d
 obtain ⟨d1, e4, e5⟩ := Kd.at_int (Kd.R_reads' HO_5.out).2.2 B a0 a1; obtain rfl : c0 = d1 := (by injection e4)
 replace a0 := eq_true a0; replace a1 := eq_true a1; have w3 := b.out; have w6 := l.out; obtain ⟨g3, g4, g5, g6, g7, g8, g9, i0, i1, i2⟩ := q_cf5 q.out; go_wp2
 repeat (go_quiet (fail); try go_wp2)
 go_roundg k1
 case measure => have := e9.out; omega
 case rel => exact ⟨(wrap64 (B + 1)), q_r, H', ⟨by have := e9.out; omega⟩, ⟨by (with_reducible repeat (first | apply Kd.R_alloc | apply Kd.R_drewN | apply Kd.R_drew)); exact HO_5.out⟩, ⟨q_k q.out⟩, ⟨q_k y.out⟩, ⟨q_w2 E.out p.out z.out⟩⟩}}}
 {
 replace H := q_iBN H; rcases H with ⟨-, c20b0, c20b1, H⟩ | ⟨B7, c20b0, c20b1, H⟩
 {
 replace H := q_iBN H; rcases H with ⟨-, c21b0, c21b1, H⟩ | ⟨C0, c21b0, c21b1, H⟩
 {
 obtain rfl := Option.some.inj H; obtain ⟨z5, z6, i3⟩ := Kd.R_slice HO_5.out; subst i3; have w7 := l.out; have w9 := b.out; obtain ⟨i4, i5, i6, i7, i8, i9, j3, j5, j6, j7⟩ := q_cf5 y.out; go_wp2
 repeat (go_quiet (fail); try go_wp2)
 go_ret
 exact ⟨q_e, q_w2 E.out p.out z.out⟩}
 {
 obtain rfl := Option.some.inj H; obtain ⟨z7, z8, j8⟩ := Kd.R_slice HO_5.out; subst j8; have x0 := l.out; have x1 := b.out; obtain ⟨j9, k0, k2, k3, k4, k5, k6, k7, k8, k9⟩ := q_cf5 y.out; go_wp2
 repeat (go_quiet (fail); try go_wp2)
 go_ret
 exact ⟨q_e, q_w2 E.out p.out z.out⟩}}
 {
 replace H := q_iBN H; rcases H with ⟨-, c28b0, c28b1, H⟩ | ⟨C1, c28b0, c28b1, H⟩
 {
 rcases q_ite H with ⟨c29b0, H⟩ | ⟨c29b0, H⟩
 {
 obtain rfl := Option.some.inj H; obtain ⟨z9, A0, l4⟩ := Kd.R_slice HO_5.out; subst l4; have x2 := l.out; have x3 := b.out; obtain ⟨l5, l6, l7, l8, l9, n0, n1, n2, n3, n4⟩ := q_cf5 y.out; obtain ⟨n5, n6, n7, n8, n9, o0, o1, o2, o3, o4⟩ := q_cf5 q.out; go_wp2
 repeat (go_quiet (fail); try go_wp2)
 go_ret
 exact ⟨q_e, q_w2 E.out p.out z.out⟩}
 {
 obtain rfl := Option.some.inj H; obtain ⟨A1, A2, o5⟩ := Kd.R_slice HO_5.out; subst o5; have x4 := l.out; have x5 := b.out; obtain ⟨o6, o7, o8, o9, p0, p1, p2, p3, p4, p5⟩ := q_cf5 y.out; go_wp2
 repeat (go_quiet (fail); try go_wp2)
 go_ret
 exact ⟨q_e, q_w2 E.out p.out z.out⟩}}
 {
 replace H := q_iBN H; rcases H with ⟨-, c37b0, c37b1, H⟩ | ⟨C2, c37b0, c37b1, H⟩
 {
 replace H := q_iBN H; rcases H with ⟨-, c38b0, c38b1, H⟩ | ⟨C3, c38b0, c38b1, H⟩
 {
 replace H := q_iBN H; rcases H with ⟨-, c39b0, c39b1, H⟩ | ⟨C4, c39b0, c39b1, H⟩
 {
 obtain rfl := Option.some.inj H; obtain ⟨A4, A5, p6⟩ := Kd.R_slice HO_5.out; subst p6; have x6 := l.out; have x7 := b.out; obtain ⟨p7, p8, p9, q0, q1, q2, q3, q4, q5, q6⟩ := q_cf5 y.out; go_wp2
 repeat (go_quiet (fail); try go_wp2)
 go_ret
 exact ⟨q_e, q_w2 E.out p.out z.out⟩}
 {
 obtain rfl := Option.some.inj H; obtain ⟨A6, A7, q7⟩ := Kd.R_slice HO_5.out; subst q7; have x8 := l.out; have x9 := b.out; obtain ⟨q8, q9, r0, r1, r2, r3, r4, r5, r6, r7⟩ := q_cf5 y.out; go_wp2
 repeat (go_quiet (fail); try go_wp2)
 go_ret
 exact ⟨q_e, q_w2 E.out p.out z.out⟩}}
 {
 obtain rfl := Option.some.inj H; obtain ⟨A8, A9, r8⟩ := Kd.R_slice HO_5.out; subst r8; have y0 := l.out; have y1 := b.out; obtain ⟨r9, s0, s1, s2, s3, s4, s5, s6, s7, s8⟩ := q_cf5 y.out; go_wp2
 repeat (go_quiet (fail); try go_wp2)
 go_ret
 exact ⟨q_e, q_w2 E.out p.out z.out⟩}}
 {
 obtain rfl := Option.some.inj H; obtain ⟨B1, B2, s9⟩ := Kd.R_slice HO_5.out; subst s9; have y2 := l.out; have y3 := b.out; obtain ⟨t0, t1, t2, t3, t4, t5, t6, t7, t8, t9⟩ := q_cf5 y.out; go_wp2
 repeat (go_quiet (fail); try go_wp2)
 go_ret
 exact ⟨q_e, q_w2 E.out p.out z.out⟩}}}}))
mutual
def r6_reached.l0 : Nat → List Bool → List Int → ByteArray → List (S83) → List (S85) → Int → List (S69) → Option (List Bool)
 | 0, _, _, _, _, _, _, _ => none
 | k + 1, C, z, l, p, q, y, b => if (z.length : Int) > 0 then (if 0 < (z.length : Int) then (if 0 ≤ (rd z 0) then (if (rd z 0) < (b.length : Int) then ((r6_Next.f ((rd_T69 b (rd z 0)).f0) ((rd_T69 b (rd z 0)).f1) ((rd_T69 b (rd z 0)).f2) ((rd_T69 b (rd z 0)).f3) ((rd_T69 b (rd z 0)).f4)).bind fun E => (if 1 ≤ (z.length : Int) then (r6_reached.l1 k C (z.drop (1 : Int).toNat) E 0 l p q y b) else (none))) else (none)) else (none)) else (none)) else (some C)
def r6_reached.l1 : Nat → List Bool → List Int → List Int → Int → ByteArray → List (S83) → List (S85) → Int → List (S69) → Option (List Bool)
 | 0, _, _, _, _, _, _, _, _, _ => none
 | k + 1, C, z, D, B, l, p, q, y, b => if B < (D.length : Int) then (if 0 ≤ B then (if 0 ≤ (rd D B) then (if (rd D B) < (C.length : Int) then (if (rdOf false C (rd D B) = true) then (r6_reached.l1 k C z D (wrap64 (B + 1)) l p q y b) else (if z.length < 17592186044416 then (r6_reached.l1 k (C.set ((rd D B) : Int).toNat true) (z ++ [rd D B]) D (wrap64 (B + 1)) l p q y b) else (none))) else (none)) else (none)) else (none)) else (r6_reached.l0 k C z l p q y b)
end
def r6_reached.f (k : Nat) (p : ByteArray) (q : List (S83)) (y : List (S85)) (z : Int) (b : List (S69)) : Option (List Bool) := if 0 ≤ (b.length : Int) then (if ((b.length : Int) : Int).toNat ≤ 281474976710656 then ((some (List.replicate ((b.length : Int) : Int).toNat false : List Bool)).bind fun l => (if 0 < (l.length : Int) then (r6_reached.l0 k (l.set (0 : Int).toNat true) (([0] : List Int)) p q y z b) else (none))) else (none)) else (none)
def r6_reached.T5 : Bool × List (List Nat × List Nat) := (true, [([], []), ([0], [0]), ([], []), ([2], [2]), ([3], [3]), ([1, 4], [1, 4]), ([5], [5]), ([6], [6]), ([7, 7, 0, 1, 2, 3, 4, 5, 6, 7], [7])])
def r6_reached.B5 : List Nat := [0, 1, 0, 4, 12, 31, 63, 127, 255]
theorem r6_reached.tab5 : rtab .any (opsOf Tryd.f48 5) = r6_reached.T5 := by kernel_rfl
theorem r6_reached.bits5 : waitsOk r6_reached.T5.2 r6_reached.B5 = true := by kernel_rfl
theorem r6_reached.calls (k : Nat) (I : ByteArray) (a7 : Option Addr) (a8 : Nat) (F : List (S83)) (a9 : Option Addr) (b0 : Nat) (G : List (S85)) (J : Int) (d1 : Option Addr) (b1 : Nat) (l : List (S69)) (r : List Bool) (w : World) (i0 : Kd.C k83 w a7 F.length F) (i1 : F.length ≤ a8) (i2 : Kd.C k85 w a9 G.length G) (i3 : G.length ≤ b0) (i4 : Kd.C k69 w d1 l.length l) (i5 : l.length ≤ b1) (h : r6_reached.f k I F G J l = some r) :
  Calls Tryd.prog 48 #[.agg #[.string I, .slice a7 F.length a8, .slice a9 G.length b0, .int .i64 J, .slice d1 l.length b1]] w fun e w' => ∃ r4 : Value, e = .returned (r4) ∧ Kd.R Kd.bool 4 w' w.heap.size (fun _ => True) r4 r ∧ Below w.heap.size w w' := by
 have w9 := Tryd.underlying26; have x0 := Tryd.underlying69; have v0 := a_ i0; have v1 := a_ i1; clear i0 i1; have v2 := a_ i2; have v3 := a_ i3; clear i2 i3; have p1 := a_ i4; have v5 := a_ i5; clear i4 i5; have T := a_ (Below.refl w.heap.size w); have H : (if 0 ≤ (l.length : Int) then (if ((l.length : Int) : Int).toNat ≤ 281474976710656 then ((some (List.replicate ((l.length : Int) : Int).toNat false : List Bool)).bind fun a0 => (if 0 < (a0.length : Int) then (r6_reached.l0 k (a0.set (0 : Int).toNat true) (([0] : List Int)) I F G J l) else (none))) else (none)) else (none)) = some r := h
 clear h; replace H := q_gED H; obtain ⟨-, c2b0, c2b1, H⟩ := H; replace H := q_gED H; obtain ⟨-, c3b0, c3b1, H⟩ := H; obtain ⟨a0, e2⟩ : ∃ y_ : List Bool, y_ = (List.replicate ((l.length : Int) : Int).toNat false) := ⟨_, rfl⟩; replace H : (if 0 < (a0.length : Int) then (r6_reached.l0 k (a0.set (0 : Int).toNat true) (([0] : List Int)) I F G J l) else (none)) = some r := q_rw e2 H
 have i6 := a_ e2; clear e2; replace H := q_gD H; obtain ⟨c4, c4b0, H⟩ := H; have c4b1 : decide (0 < a0.length) = true := decide_eq_true (by omega)
 clear c4; obtain ⟨f6, e3⟩ : ∃ y_ : List Bool, y_ = (a0.set (0 : Int).toNat true) := ⟨_, rfl⟩; replace H : (r6_reached.l0 k f6 (([0] : List Int)) I F G J l) = some r := q_rw e3 H
 have p2 := a_ e3; clear e3; obtain ⟨o6, e4⟩ : ∃ y_ : List Int, y_ = (([0] : List Int)) := ⟨_, rfl⟩; replace H : (r6_reached.l0 k f6 o6 I F G J l) = some r := q_rw e4 H
 have i7 := a_ e4; clear e4; have H' := a_ H
 clear H; go_enter Tryd.func48, Tryd.ntmps48
 go_wp2_with (first | ((with_reducible refine gd_ 1 rfl ?_); refine q_box 1 26 #[.string I, .slice a7 F.length a8, .slice a9 G.length b0, .int .i64 J, .slice d1 l.length b1] ?_; intro b2 hg w6 o7 hb; have q := a_ (o7); have v7 := a_ ((q_ge T.out hg)); have L := a_ ((q_ge T.out hg)); replace T := a_ (q_st T.out hb); clear hb o7 hg; obtain ⟨n3, n4, n5, n6, n7, n8, n9, o0, o1, o2⟩ := q_cf5 q.out) | ((with_reducible refine gd_ 10 rfl ?_); refine Kd.R_make Kd.bool _ 4 rfl (N := 10) rfl 37 _ _ rfl (l.length : Int) rfl rfl Tryd.underlying37 (.bool false) 1 info4 rfl (by decide) (by omega) false (ok := fun _ => True) (okp := fun _ => True) rfl (fun _ hk => hk) trivial (q_d) (Nat.le_trans (Nat.mul_le_mul_right _ (q_d : (l.length : Int).toNat ≤ 281474976710656)) (by omega)) (Below.refl _ _) (Nat.le_refl _) ?_; intro x1 w8 i9 hb hg_ hnew_; clear hg_ hnew_; (first | rw [← i6.out] at i9 | (simp only [Int.reduceToNat] at i9; rw [← i6.out] at i9)); have V := a_ (Kd.R_lower i9 (below_size (q_w1 T.out L.out))); replace q := a_ (q_bk q.out hb); replace T := a_ (q_st1 T.out hb L.out); clear hb i9; have p5 : 0 ≤ (0 : Int) := (by omega); have q5 : (0 : Int) < ((a0.length : Int) : Int) := q_d; have v8 : (0 < a0.length) = True := eq_true (by omega); obtain ⟨b5, g7, r5, r6, v9, y5, r7⟩ := Kd.R_form V.out (by omega); (first | cases r5 | (injection r5 with ea_ en_ ec_; (first | subst ea_ | (injection ea_ with ea_; subst ea_)); subst ec_; clear en_)); have r8 := a_ r6; have y6 := a_ r7; clear r6 v9 r7; obtain ⟨e5, j3⟩ := Kd.R_celln false V.out (0 : Int) p5 q5; (try rw [show ((0 : Int)).toNat = 0 from rfl] at e5); (try simp only [Nat.reduceMul, Nat.zero_mul, Nat.zero_add, Nat.reduceAdd] at e5); (try rw [show ((0 : Int)).toNat = 0 from rfl] at j3); (try simp only [Nat.reduceMul, Nat.zero_mul, Nat.zero_add, Nat.reduceAdd] at j3); replace p5 := eq_true p5; replace q5 := eq_true q5; obtain ⟨j5, j6⟩ := Kd.R_celln false V.out (0 : Int) (by omega) (q_d); (try simp only [Int.reduceToNat, Int.toNat_zero, Int.toNat_ofNat, Nat.reduceMul, Nat.zero_mul, Nat.zero_add] at j5 j6); (try rw [show ((0 : Int)).toNat = 0 from rfl] at j5); (try rw [show ((0 : Int)).toNat = 0 from rfl] at j6); have j7 := Kd.R_putg V.out (0 : Int) true) | ((with_reducible refine gate_store (t := 4) (p := 12) rfl ?_); refine store_event (t := 4) (p := 12) (v := ?vo_w11) (w1 := (w8.setCell ⟨b5, (0 : Int).toNat, none⟩ (.bool true))) ?hg ?ho ?hn ?hr ?_; (case ho => rfl); (case hg => rfl); (case hn => rfl); (case hr => first | (go_simp; done) | (go_simp; rfl)); intro p3 hw; have hg : w8.grownBy p3 (some b5) := (by rw [hw]; exact j7.2); have hp_ : Kd.R Kd.bool 4 p3 w.heap.size (fun _ => True) (.slice (some ⟨b5, 0, none⟩) a0.length g7) f6 := (by rw [hw, p2.out]; exact j7.1); clear j7; replace q := a_ (blk_grown (g := b2) (o := .cells #[.string I, .slice a7 F.length a8, .slice a9 G.length b0, .int .i64 J, .slice d1 l.length b1] 26 (0, 0)) (q_k q.out) hg (Kd.R_ne V.out q.out (by decide))); replace V := a_ (hp_); replace T := a_ ((by rw [hw]; exact below_set (T.out) r8.out : Below w.heap.size w p3)); clear hg hw hp_) | ((with_reducible refine gd_ 13 rfl ?_); refine Kd.R_lit (Kd.int .i64) _ 3 ?hg (N := 13) ?hd (xs := ([0] : List Int)) (inner := [.int .i64 0]) (ok := fun _ => True) (okp := fun _ => True) ?hr ?hp (fun _ hk => hk) trivial (Below.refl _ _) (Nat.le_refl _) (by simp) ?_; (case hd => rfl); (case hg => rfl); (case hr => first | (go_simp; done) | (go_simp; rfl)); (case hp => exact (Reps.one (show Kd.M (Kd.int .i64) _ _ _ 0 [.int .i64 0] from rfl) (Reps.none _ _))); intro x3 y7 d2 hb hg_ hnew_; clear hg_ hnew_; (first | rw [← i7.out] at d2 | (simp only [Int.reduceToNat] at d2; rw [← i7.out] at d2)); have p4 := a_ (Kd.R_lower d2 (below_size (q_w1 T.out L.out))); replace V := a_ (Kd.R_below (by (with_reducible repeat (first | apply Kd.R_alloc | apply Kd.R_drewN | apply Kd.R_drew)); exact V.out) hb); replace q := a_ (q_bk q.out hb); replace T := a_ (q_st1 T.out hb L.out); clear hb d2))
 go_loopg [4] k (fun kq v4 w' => ∃ (c8 : List Bool) (B : List Int), Aside0 (r6_reached.l0 kq c8 B I F G J l = some r) ∧ Aside0 (kq ≤ k) ∧ Aside0 (Kd.R Kd.bool 4 w' w.heap.size (fun _ => True) (.slice (some ⟨b5, 0, none⟩) a0.length g7) c8) ∧ Aside0 (Kd.Q (Kd.int .i64) 3 w' w.heap.size (fun _ => True) v4 B) ∧ Aside0 (w'.heap[b2]? = some (.cells #[.string I, (.slice a7 F.length a8), (.slice a9 G.length b0), .int .i64 J, (.slice d1 l.length b1)] 26 (0, 0))) ∧ Aside0 (Below w.heap.size w w'))
 case atStart => exact ⟨(f6), (o6), H', ⟨Nat.le_refl _⟩, ⟨by (with_reducible repeat (first | apply Kd.R_alloc | apply Kd.R_drewN | apply Kd.R_drew)); exact V.out⟩, ⟨Kd.Q_of_R (by (with_reducible repeat (first | apply Kd.R_alloc | apply Kd.R_drewN | apply Kd.R_drew)); exact p4.out)⟩, ⟨q_k q.out⟩, ⟨q_w1 T.out L.out⟩⟩
 case round => (
 clear H'; clear c2b0 c2b1 c3b0 c3b1 c4b0 c4b1 p5 q5 v8 n3 n4 n5 n6 n7 n8 n9 o0 o1 o2 e5; obtain ⟨c8, B, HA, g8, HO_3, HO_4, q, T⟩ := hrel; have z := (Kd.R_reads' HO_3.out).1; rw [z] at HO_3; (try simp only [z])
 (try simp only [z] at q)
 (try simp only [z] at HO_4)
 cases gk with
 | zero => exact absurd HA.out (by simp [r6_reached.l0])
 | succ k1 => (
 have H := HA.out; clear HA; simp only [r6_reached.l0] at H
 replace H := q_iD H; rcases H with ⟨p6, c14b0, H⟩ | ⟨p6, c14b0, H⟩
 {
 have c14b7 := c14b0; (try simp only [z] at c14b7)
 have c14b1 : decide (0 < B.length) = true := decide_eq_true (by omega)
 clear p6; replace H := q_gD H; obtain ⟨w3, c15b0, H⟩ := H; have c15b7 := c15b0; (try simp only [z] at c15b7)
 have c15b1 : decide (0 < B.length) = true := decide_eq_true (by omega)
 clear w3; replace H := q_gD H; obtain ⟨-, c16b0, H⟩ := H; replace H := q_gD H; obtain ⟨-, c17b0, H⟩ := H; replace H := Option.bind_eq_some_iff.mp H; obtain ⟨D, o8, H⟩ := H; have w4 := a_ o8; clear o8; replace H := q_gED H; obtain ⟨-, c19b0, c19b1, H⟩ := H; obtain ⟨b6, e6⟩ : ∃ y_ : List Int, y_ = (B.drop (1 : Int).toNat) := ⟨_, rfl⟩; replace H : (r6_reached.l1 k1 c8 b6 D 0 I F G J l) = some r := q_rw e6 H
 have j8 := a_ e6; clear e6; have H' := a_ H
 clear H; obtain ⟨x4, f7, r9, _⟩ := Kd.Q_slice HO_4.out; subst r9; try go_wp2
 have j9 := a_ (Kd.R_drew HO_3.out); have k0 := a_ (Kd.Q_drew HO_4.out); have k3 := a_ (blk_drew q.out); have k4 := a_ (below_drew1 T.out); clear HO_3 HO_4 q T; have HO_3 := j9; have HO_4 := k0; have q := k3; have T := k4; clear j9 k0 k3 k4; have f8 : 0 ≤ (0 : Int) := (by omega)
 have f9 : 0 < (B.length : Int) := q_d
 obtain ⟨b3, s0, a1⟩ := Kd.at_int (Kd.Q_reads' HO_4.out).2.2 0 f8 f9; cases s0; have w5 : (0 < B.length) = True := eq_true (by omega)
 (try rw [show ((0 : Int)).toNat = 0 from rfl] at a1)
 (try rw [Addr.add_zero'] at a1)
 replace f8 := eq_true f8; replace f9 := eq_true f9; have g0 : 0 ≤ ((rd B 0) : Int) := q_d
 have g1 : (rd B 0) < (l.length : Int) := q_d
 obtain ⟨b7, g2, g3, s1, a2, a3, a4, a5, a6, d3, d4⟩ := at_T69 p1.out (rd B 0) g0 g1; have d5 := a6; have d6 := a5; have d7 := a4; have d8 := a3; have d9 := a2; cases s1; replace a2 := q_kc T.out a2; replace a3 := q_kc T.out a3; replace a4 := q_kc T.out a4; replace a5 := q_kc T.out a5; replace a6 := q_kc T.out a6; have e0 := a_ d4; have k5 := a_ d3; clear d4 d3; replace g0 := eq_true g0; replace g1 := eq_true g1; refine q_s 9 (S := fun w' => cg5 w' b2 (.string I) (.slice a7 F.length a8) (.slice a9 G.length b0) (.int .i64 J) (.slice (some b7) l.length b1) (w'.cell? b3 = some (.int .i64 (rd B 0)) ∧ cp5_ w' (b7.add (((rd B 0)).toNat * 5)) (.slice g2 ((rd_T69 l (rd B 0)).f0).length g3) (.int .i64 ((rd_T69 l (rd B 0)).f1)) (.int .i64 ((rd_T69 l (rd B 0)).f2)) (.int .i64 ((rd_T69 l (rd B 0)).f3)) (.int .i64 ((rd_T69 l (rd B 0)).f4)))) (q_g5 q.out ⟨a1, (q_kc T.out d9), (q_kc T.out d8), (q_kc T.out d7), (q_kc T.out d6), (q_kc T.out d5)⟩) (fun b4 => ?_); refine with_tabW r6_reached.tab5 r6_reached.bits5 (fun c6 p7 => ?_)
 generalize wr.drew = y8 at HO_3 HO_4 q T e0 a1 a2 a3 a4 a5 a6 b4 ⊢
 refine qv_ 0 c6 ?_
 refine qv_ 2 c6 ?_
 refine qv_ 3 c6 ?_
 refine qt11_ 1 c6 p7 b4 ?_
 refine qt11_ 4 c6 p7 b4 ?_
 refine qv_ 5 c6 ?_
 refine qt11_ 6 c6 p7 b4 ?_
 refine q_o 7 c6 (fun K hK => ?_)
 refine q_go #[.agg #[.slice g2 ((rd_T69 l (rd B 0)).f0).length g3, .int .i64 ((rd_T69 l (rd B 0)).f1), .int .i64 ((rd_T69 l (rd B 0)).f2), .int .i64 ((rd_T69 l (rd B 0)).f3), .int .i64 ((rd_T69 l (rd B 0)).f4)]] Tryd.func56 rfl ?_
 with_reducible refine (r6_Next.calls _ _ ((rd_T69 l (rd B 0)).f0) ((rd_T69 l (rd B 0)).f1) ((rd_T69 l (rd B 0)).f2) ((rd_T69 l (rd B 0)).f3) ((rd_T69 l (rd B 0)).f4) D _ (q_C (Kd.C_below e0.out T.out)) k5.out w4.out).mono ?_
 rintro e w7 ⟨g4, rfl, p8, hb⟩
 have s2 := q_kc hb (b4.2.2.2.2.2.1); refine ⟨_, rfl, ?_⟩
 have c9 := a_ (Kd.R_lower (Kd.R_new' p8 (Kd.Q_lt (by (with_reducible repeat (first | apply Kd.Q_alloc | apply Kd.Q_drewN | apply Kd.Q_drew)); exact HO_4.out))) (below_size (q_w1 T.out L.out))); replace HO_3 := a_ (Kd.R_below (by (with_reducible repeat (first | apply Kd.R_alloc | apply Kd.R_drewN | apply Kd.R_drew)); exact HO_3.out) hb); replace HO_4 := a_ (Kd.Q_elder' (by (with_reducible repeat (first | apply Kd.Q_alloc | apply Kd.Q_drewN | apply Kd.Q_drew)); exact HO_4.out) (Kd.R_base p8) hb); replace q := a_ (q_bk q.out hb); replace T := a_ (q_st1 T.out hb L.out); (clear hb)
 (clear p8)
 refine q_nk hK.out (q_g5 q.out ⟨s2, (q_kc T.out d9), (q_kc T.out d8), (q_kc T.out d7), (q_kc T.out d6), (q_kc T.out d5)⟩) (fun b4 => ?_)
 clear hK K
 refine qv_ 8 c6 ?_
 refine done_ (done_of c6.out (by kernel_rfl)) ?_
 have n_ := a_ (Kd.Q_mono (ok' := (fun k_ => some k_ ≠ (g4 : Value).ownBlock)) HO_4.out (fun k_ hk => hk.2))
 clear HO_4; have HO_4 := n_; clear n_; have o3 : (1 : Int) ≤ ((B.length : Int) : Int) := q_d
 obtain ⟨x5, k6, _, k7, _⟩ := info_parts info3; have o4 := cut_from (P := Tryd.prog) 27 3 .i64 Tryd.underlying27 k6 1 k7 (some b3) B.length f7 1 (by omega) o3
 have e1 := Kd.Q_drop (k := (1 : Int).toNat) HO_4.out (by omega)
 obtain ⟨p9, g5⟩ : ∃ A1, A1 = (if f7 = (1 : Int).toNat then (some b3) else ((some b3) : Option Addr).map (·.add ((1 : Int).toNat * 1))) := ⟨_, rfl⟩
 obtain ⟨q0, k8⟩ : ∃ c1, c1 = f7 - (1 : Int).toNat := ⟨_, rfl⟩; have k9 : b6.length = B.length - (1 : Int).toNat := (by rw [j8.out, List.length_drop])
 rw [← j8.out] at e1; rw [← k9, ← g5, ← k8] at o4; replace e1 : Kd.Q (Kd.int .i64) 3 w7 w.heap.size (fun k_ => some k_ ≠ (g4 : Value).ownBlock) (.slice p9 b6.length q0) b6 := (by rw [g5, k8, k9]; exact e1)
 have s3 : Aside0 ((Value.slice p9 b6.length q0).ownBlock = (.slice (some b3) B.length f7 : Value).ownBlock) := ⟨by rw [g5]; split <;> (cases ((some b3) : Option Addr) <;> rfl)⟩
 clear k9 k6 k7 HO_4 g5 k8; have q1 := a_ e1; clear e1; replace o3 := eq_true o3; have n_ := a_ (Kd.R_mono (ok' := fun k_ => (True ∧ some k_ ≠ (.slice p9 b6.length q0 : Value).ownBlock)) c9.out (fun k_ hk => ⟨trivial, (by rw [s3.out]; exact hk.2)⟩))
 clear c9; have c9 := n_; clear n_; try go_wp2
 go_loopg [4, 6] k1 (fun kq v4 v6 w' => ∃ (U : List Bool) (X : List Int) (y : Int), v6 = .int .i64 y ∧ Aside0 (r6_reached.l1 kq U X D y I F G J l = some r) ∧ Aside0 (kq ≤ k1) ∧ Aside0 (Kd.R Kd.bool 4 w' w.heap.size (fun _ => True) (.slice (some ⟨b5, 0, none⟩) c8.length g7) U) ∧ Aside0 (Kd.Q (Kd.int .i64) 3 w' w.heap.size (fun k_ => some k_ ≠ (g4 : Value).ownBlock) v4 X) ∧ Aside0 (Kd.R (Kd.int .i64) 3 w' w.heap.size (fun k_ => some k_ ≠ (v4 : Value).ownBlock) g4 D) ∧ Aside0 (w'.heap[b2]? = some (.cells #[.string I, (.slice a7 F.length a8), (.slice a9 G.length b0), .int .i64 J, (.slice (some b7) l.length b1)] 26 (0, 0))) ∧ Aside0 (Below w.heap.size w w'))
 case atStart => exact ⟨(c8), (b6), (0), q_r, H', ⟨Nat.le_refl _⟩, ⟨by (try simp only [z]); (with_reducible repeat (first | apply Kd.R_alloc | apply Kd.R_drewN | apply Kd.R_drew)); exact HO_3.out⟩, ⟨by (try simp only [z]); (with_reducible repeat (first | apply Kd.Q_alloc | apply Kd.Q_drewN | apply Kd.Q_drew)); exact q1.out⟩, ⟨by (try simp only [z]); (with_reducible repeat (first | apply Kd.R_alloc | apply Kd.R_drewN | apply Kd.R_drew)); exact Kd.R_mono c9.out (fun _ hk => hk.2)⟩, ⟨by (try simp only [z]); (with_reducible repeat (first | refine blk_drewN ?_ _ | refine blk_drew ?_ | refine blk_alloc ?_ _)); exact q.out⟩, ⟨q_w1 T.out L.out⟩⟩
 case round => (
 clear H'; clear c14b0 c14b1 c15b0 c15b1 c16b0 c17b0 c19b0 c19b1 o3 a1 a2 a3 a4 a5 a6 f8 g0 f9 g1; obtain ⟨U, X, y, rfl, HA, g9, HO_3, HO_4, HO_5, q, T⟩ := hrel; have E := (Kd.R_reads' HO_3.out).1; rw [E] at HO_3; (try simp only [E])
 (try simp only [E] at q)
 (try simp only [E] at HO_4)
 (try simp only [E] at HO_5)
 cases gk with
 | zero => exact absurd HA.out (by simp [r6_reached.l1])
 | succ k2 => (
 have H := HA.out; clear HA; simp only [r6_reached.l1] at H
 replace H := q_iD H; rcases H with ⟨q3, c24b0, H⟩ | ⟨q3, c24b0, H⟩
 {
 have c24b7 := c24b0; (try simp only [z, E] at c24b7)
 clear q3; replace H := q_gD H; obtain ⟨-, c25b0, H⟩ := H; replace H := q_gD H; obtain ⟨-, c26b0, H⟩ := H; replace H := q_gD H; obtain ⟨-, c27b0, H⟩ := H; obtain ⟨o9, e7⟩ : ∃ b_ : Bool, b_ = (rdOf false U (rd D y)) := ⟨_, rfl⟩; replace H : (if (o9 = true) then (r6_reached.l1 k2 U X D (wrap64 (y + 1)) I F G J l) else (if X.length < 17592186044416 then (r6_reached.l1 k2 (U.set ((rd D y) : Int).toNat true) (X ++ [rd D y]) D (wrap64 (y + 1)) I F G J l) else (none))) = some r := by rw [← e7] at H; exact H
 have l4 := a_ e7; clear e7; by_cases o5 : (o9 = true)
 {
 subst o5; rw [if_pos rfl] at H; have H' := a_ H
 clear H; obtain ⟨x6, x7, s4⟩ := Kd.R_slice HO_5.out; subst s4; have b8 : 0 ≤ (y : Int) := q_d
 have b9 : y < (D.length : Int) := q_d
 obtain ⟨d0, l5, l6⟩ := Kd.at_int (Kd.R_reads' HO_5.out).2.2 y b8 b9; cases l5; replace b8 := eq_true b8; replace b9 := eq_true b9; have c0 : 0 ≤ ((rd D y) : Int) := q_d
 have c3 : (rd D y) < (U.length : Int) := q_d
 obtain ⟨e8, l7, O⟩ := Kd.at_bool (Kd.R_reads' HO_3.out).2.2 (rd D y) c0 c3; (try rw [← l4.out] at O)
 obtain rfl : (⟨b5, 0, none⟩ : Addr) = e8 := (by injection l7)
 (first | simp only [add_plain] at O | simp only [add_at] at O | simp only [Addr.add, Nat.zero_add] at O | skip)
 replace c0 := eq_true c0; replace c3 := eq_true c3; go_wp2
 (try simp only [← E])
 go_roundg k2
 case measure => have := g8.out; have := g9.out; omega
 case rel => exact ⟨(U), (X), (wrap64 (y + 1)), q_r, H', ⟨by have := g8.out; have := g9.out; omega⟩, ⟨by (try simp only [z]); (try simp only [E]); (with_reducible repeat (first | apply Kd.R_alloc | apply Kd.R_drewN | apply Kd.R_drew)); exact HO_3.out⟩, ⟨by (try simp only [z]); (try simp only [E]); (with_reducible repeat (first | apply Kd.Q_alloc | apply Kd.Q_drewN | apply Kd.Q_drew)); exact HO_4.out⟩, ⟨by (try simp only [z]); (try simp only [E]); (with_reducible repeat (first | apply Kd.R_alloc | apply Kd.R_drewN | apply Kd.R_drew)); exact HO_5.out⟩, ⟨by (try simp only [z]); (try simp only [E]); (with_reducible repeat (first | refine blk_drewN ?_ _ | refine blk_drew ?_ | refine blk_alloc ?_ _)); exact q.out⟩, ⟨q_w1 T.out L.out⟩⟩}
 {
 replace o5 := Bool.eq_false_iff.mpr o5; subst o5; rw [if_neg Bool.false_ne_true] at H; obtain ⟨g6, e9⟩ : ∃ y_ : List Bool, y_ = (U.set ((rd D y) : Int).toNat true) := ⟨_, rfl⟩; replace H : (if X.length < 17592186044416 then (r6_reached.l1 k2 g6 (X ++ [rd D y]) D (wrap64 (y + 1)) I F G J l) else (none)) = some r := q_rw e9 H
 have q4 := a_ e9; clear e9; replace H := q_g H; obtain ⟨s5, H⟩ := H; have q6 := a_ s5; clear s5; obtain ⟨p0, f5⟩ : ∃ y_ : List Int, y_ = (X ++ [rd D y]) := ⟨_, rfl⟩; replace H : (r6_reached.l1 k2 g6 p0 D (wrap64 (y + 1)) I F G J l) = some r := q_rw f5 H
 have q7 := a_ f5; clear f5; have H' := a_ H
 clear H; obtain ⟨x8, s6, s7⟩ := Kd.R_slice HO_5.out; subst s7; have b8 : 0 ≤ (y : Int) := q_d
 have b9 : y < (D.length : Int) := q_d
 obtain ⟨d0, l5, l6⟩ := Kd.at_int (Kd.R_reads' HO_5.out).2.2 y b8 b9; cases l5; replace b8 := eq_true b8; replace b9 := eq_true b9; have c0 : 0 ≤ ((rd D y) : Int) := q_d
 have c3 : (rd D y) < (U.length : Int) := q_d
 obtain ⟨e8, l7, O⟩ := Kd.at_bool (Kd.R_reads' HO_3.out).2.2 (rd D y) c0 c3; (try rw [← l4.out] at O)
 obtain rfl : (⟨b5, 0, none⟩ : Addr) = e8 := (by injection l7)
 (first | simp only [add_plain] at O | simp only [add_at] at O | simp only [Addr.add, Nat.zero_add] at O | skip)
 replace c0 := eq_true c0; replace c3 := eq_true c3; have l8 : 0 ≤ (y : Int) := q_d
 have l9 : y < (D.length : Int) := q_d
 obtain ⟨q8, s8, s9⟩ := Kd.at_int (Kd.R_reads' HO_5.out).2.2 y l8 l9; obtain rfl : d0 = q8 := (by injection s8)
 replace l8 := eq_true l8; replace l9 := eq_true l9; have q9 : 0 ≤ ((rd D y) : Int) := q_d
 have r0 : ((rd D y) : Int) < ((U.length : Int) : Int) := q_d
 obtain ⟨t8, t9⟩ := Kd.R_celln false HO_3.out ((rd D y) : Int) q9 r0; replace q9 := eq_true q9; replace r0 := eq_true r0; have n0 := Kd.R_putg HO_3.out ((rd D y) : Int) true; go_wp2_with (first | ((with_reducible refine gate_store (t := 4) (p := 46) rfl ?_); refine store_event (t := 4) (p := 46) (v := ?vo_w35) (w1 := (wr.setCell ⟨b5, ((rd D y) : Int).toNat, none⟩ (.bool true))) ?hg ?ho ?hn ?hr ?_; (case ho => rfl); (case hg => rfl); (case hn => rfl); (case hr => first | (go_simp; done) | (go_simp; rfl)); intro r1 hw; have hg : wr.grownBy r1 (some b5) := (by rw [hw]; exact n0.2); have hp_ : Kd.R Kd.bool 4 r1 w.heap.size (fun _ => True) (.slice (some ⟨b5, 0, none⟩) U.length g7) g6 := (by rw [hw, q4.out]; exact n0.1); clear n0; replace T := a_ ((by rw [hw]; exact below_set (T.out) r8.out : Below w.heap.size w r1)); replace q := a_ (blk_grown (g := b2) (o := .cells #[.string I, .slice a7 F.length a8, .slice a9 G.length b0, .int .i64 J, .slice (some b7) l.length b1] 26 (0, 0)) (q_k q.out) hg (Kd.R_ne HO_3.out q.out (by decide))); replace HO_5 := a_ (Kd.R_over' (v := (.slice (some ⟨b5, 0, none⟩) U.length g7)) (by (with_reducible repeat (first | apply Kd.R_alloc | apply Kd.R_drewN | apply Kd.R_drew)); exact HO_5.out) (Kd.R_typed HO_3.out) (by decide) hg); replace HO_4 := a_ (Kd.Q_over' (v := (.slice (some ⟨b5, 0, none⟩) U.length g7)) (by (with_reducible repeat (first | apply Kd.Q_alloc | apply Kd.Q_drewN | apply Kd.Q_drew)); exact HO_4.out) (Kd.R_typed HO_3.out) (by decide) hg); replace HO_3 := a_ (hp_); clear hg hw hp_; have n1 : 0 ≤ (y : Int) := q_d; have n2 : y < (D.length : Int) := q_d; obtain ⟨r2, t0, t1⟩ := Kd.at_int (Kd.R_reads' HO_5.out).2.2 y n1 n2; obtain rfl : d0 = r2 := (by injection t0); replace n1 := eq_true n1; replace n2 := eq_true n2) | ((with_reducible refine gate_builtin (b := .append) (xs := #[.tmp 47, .tmp 52]) rfl ?_); at_builtin; refine Kd.Q_append (Kd.int .i64) (w0 := w) w.heap.size rfl (.tmp 47) (.tmp 52) 27 3 (.int .i64 0) 8 rfl Tryd.underlying27 info3 rfl (by decide) (by omega) u4 X (rd D y) [.int .i64 (rd D y)] (fun k_ => some k_ ≠ (.slice (some d0) D.length s6 : Value).ownBlock) (fun _ => False) rfl rfl ?aP (fun _ hk => hk.elim) ?aF ?aO ?aB ?aS ?aL ?_; (case aP => exact rfl); (case aB => exact (q_w1 T.out L.out)); (case aF => exact (fun k_ hk => Kd.fresh' (Kd.R_lt (by (with_reducible repeat (first | apply Kd.R_alloc | apply Kd.R_drewN | apply Kd.R_drew)); exact HO_5.out)) k_ hk)); (case aO => exact (by (with_reducible repeat (first | apply Kd.Q_alloc | apply Kd.Q_drewN | apply Kd.Q_drew)); exact HO_4.out)); (case aS => exact (below_size (q_w1 T.out L.out))); (case aL => have := q6.out; omega); intro x9 z2 ho hb hg hat; rw [← q7.out] at ho; have j9 := a_ (Kd.R_over' (by (with_reducible repeat (first | apply Kd.R_alloc | apply Kd.R_drewN | apply Kd.R_drew)); exact HO_3.out) (Kd.Q_typed (by (with_reducible repeat (first | apply Kd.Q_alloc | apply Kd.Q_drewN | apply Kd.Q_drew)); exact HO_4.out)) (by decide) hg); have k0 := a_ (Kd.R_after (ok := (fun _ => True)) (by (with_reducible repeat (first | apply Kd.R_alloc | apply Kd.R_drewN | apply Kd.R_drew)); exact Kd.R_mono HO_5.out (fun _ hk => ⟨trivial, hk⟩)) hg hat); have k3 := a_ (blk_grown (g := b2) (o := .cells #[.string I, .slice a7 F.length a8, .slice a9 G.length b0, .int .i64 J, .slice (some b7) l.length b1] 26 (0, 0)) (q_k q.out) hg (Kd.Q_ne HO_4.out q.out (by decide))); have k4 := a_ (hb); have t2 := a_ (ho); clear HO_3; clear HO_5; clear q; clear T; clear HO_4; have HO_3 := j9; have HO_5 := k0; have q := k3; have T := k4; have r3 := t2; clear j9 k0 k3 k4 t2; clear ho hb hg hat))
 (try simp only [← E])
 go_roundg k2
 case measure => have := g8.out; have := g9.out; omega
 case rel => exact ⟨(g6), (p0), (wrap64 (y + 1)), q_r, H', ⟨by have := g8.out; have := g9.out; omega⟩, ⟨by (try simp only [z]); (try simp only [E]); (with_reducible repeat (first | apply Kd.R_alloc | apply Kd.R_drewN | apply Kd.R_drew)); exact HO_3.out⟩, ⟨by (try simp only [z]); (try simp only [E]); (with_reducible repeat (first | apply Kd.Q_alloc | apply Kd.Q_drewN | apply Kd.Q_drew)); exact r3.out⟩, ⟨by (try simp only [z]); (try simp only [E]); (with_reducible repeat (first | apply Kd.R_alloc | apply Kd.R_drewN | apply Kd.R_drew)); exact Kd.R_mono HO_5.out (fun _ hk => hk.2)⟩, ⟨by (try simp only [z]); (try simp only [E]); (with_reducible repeat (first | refine blk_drewN ?_ _ | refine blk_drew ?_ | refine blk_alloc ?_ _)); exact q.out⟩, ⟨q_w1 T.out L.out⟩⟩}}
 {
 have c24b7 := c24b0; (try simp only [z, E] at c24b7)
 clear q3; have H' := a_ H
 clear H; obtain ⟨y0, y1, t3⟩ := Kd.R_slice HO_5.out; subst t3; go_wp2
 (try simp only [← z, ← E])
 go_roundg k2
 case measure => have := g8.out; have := g9.out; omega
 case rel => exact ⟨(U), (X), H', ⟨by have := g8.out; have := g9.out; omega⟩, ⟨by (try simp only [z]); (try simp only [E]); (with_reducible repeat (first | apply Kd.R_alloc | apply Kd.R_drewN | apply Kd.R_drew)); exact HO_3.out⟩, ⟨by (try simp only [z]); (try simp only [E]); (with_reducible repeat (first | apply Kd.Q_alloc | apply Kd.Q_drewN | apply Kd.Q_drew)); exact Kd.Q_mono HO_4.out (fun _ hk => trivial)⟩, ⟨by (try simp only [z]); (try simp only [E]); (with_reducible repeat (first | refine blk_drewN ?_ _ | refine blk_drew ?_ | refine blk_alloc ?_ _)); exact q.out⟩, ⟨q_w1 T.out L.out⟩⟩}))}
 {
 have c14b7 := c14b0; (try simp only [z, E] at c14b7)
 have c14b1 : decide (0 < B.length) = false := decide_eq_false (by omega)
 clear p6; obtain rfl := Option.some.inj H; obtain ⟨y2, y3, t4, _⟩ := Kd.Q_slice HO_4.out; subst t4; go_wp2
 go_ret
 exact ⟨_, q_e, by (with_reducible repeat (first | apply Kd.R_alloc | apply Kd.R_drewN | apply Kd.R_drew)); exact HO_3.out, q_w1 T.out L.out⟩}))
def r6_reg.f (l : Bool) (b : Int) (p : Int) : Option (Bool) := if l = true then (if b ≥ 0 then (if b < p then (some true) else (some false)) else (some false)) else (some (b == 0))
theorem r6_reg.calls (l : Bool) (b : Int) (q : Int) (r : Bool) (w : World) (h : r6_reg.f l b q = some r) :
  Calls Tryd.prog 65 #[.bool l, .int .i64 b, .int .i64 q] w fun e w' => e = .returned (.bool r) ∧ Drawn0 w w' := by
 have H : (if l = true then (if b ≥ 0 then (if b < q then (some true) else (some false)) else (some false)) else (some (b == 0))) = some r := h
 clear h; by_cases p : l = true
 {
 subst p; rw [if_pos rfl] at H; rcases q_ite H with ⟨c5b0, H⟩ | ⟨c5b0, H⟩
 {
 rcases q_ite H with ⟨c6b0, H⟩ | ⟨c6b0, H⟩
 {
 obtain rfl := Option.some.inj H; go_enter Tryd.func65, Tryd.ntmps65
 go_wp2
 go_ret
 exact ⟨by first | rfl | (simp; done) | (simp [*]; done), by repeat (first | exact Drawn0.refl _ | apply Drawn0.step)⟩}
 {
 obtain rfl := Option.some.inj H; go_enter Tryd.func65, Tryd.ntmps65
 go_wp2
 go_ret
 exact ⟨by first | rfl | (simp; done) | (simp [*]; done), by repeat (first | exact Drawn0.refl _ | apply Drawn0.step)⟩}}
 {
 obtain rfl := Option.some.inj H; go_enter Tryd.func65, Tryd.ntmps65
 go_wp2
 go_ret
 exact ⟨by first | rfl | (simp; done) | (simp [*]; done), by repeat (first | exact Drawn0.refl _ | apply Drawn0.step)⟩}}
 {
 replace p := Bool.eq_false_iff.mpr p; subst p; rw [if_neg Bool.false_ne_true] at H; obtain rfl := Option.some.inj H; go_enter Tryd.func65, Tryd.ntmps65
 go_wp2
 go_ret
 exact ⟨by first | rfl | (simp; done) | (simp [*]; done), by repeat (first | exact Drawn0.refl _ | apply Drawn0.step)⟩}
def r1_IsUnary.f (b : Int) : Option (Bool) := if b ≥ 0 then (some (decide (b < 3))) else (some false)
theorem r1_IsUnary.calls (b : Int) (r : Bool) (w : World) (h : r1_IsUnary.f b = some r) :
  Calls Tryd.prog 78 #[.int .i64 b] w fun e w' => e = .returned (.bool r) ∧ Drawn0 w w' := by
 have H : (if b ≥ 0 then (some (decide (b < 3))) else (some false)) = some r := h
 clear h; rcases q_ite H with ⟨c2b0, H⟩ | ⟨c2b0, H⟩
 {
 obtain rfl := Option.some.inj H; go_enter Tryd.func78, Tryd.ntmps78
 go_wp2
 go_ret
 exact ⟨by first | rfl | (simp; done) | (simp [*]; done), by repeat (first | exact Drawn0.refl _ | apply Drawn0.step)⟩}
 {
 obtain rfl := Option.some.inj H; go_enter Tryd.func78, Tryd.ntmps78
 go_wp2
 go_ret
 exact ⟨by first | rfl | (simp; done) | (simp [*]; done), by repeat (first | exact Drawn0.refl _ | apply Drawn0.step)⟩}
def r1_IsBinary.f (b : Int) : Option (Bool) := if b ≥ 0 then (some (decide (b < 20))) else (some false)
theorem r1_IsBinary.calls (b : Int) (r : Bool) (w : World) (h : r1_IsBinary.f b = some r) :
  Calls Tryd.prog 79 #[.int .i64 b] w fun e w' => e = .returned (.bool r) ∧ Drawn0 w w' := by
 have H : (if b ≥ 0 then (some (decide (b < 20))) else (some false)) = some r := h
 clear h; rcases q_ite H with ⟨c2b0, H⟩ | ⟨c2b0, H⟩
 {
 obtain rfl := Option.some.inj H; go_enter Tryd.func79, Tryd.ntmps79
 go_wp2
 go_ret
 exact ⟨by first | rfl | (simp; done) | (simp [*]; done), by repeat (first | exact Drawn0.refl _ | apply Drawn0.step)⟩}
 {
 obtain rfl := Option.some.inj H; go_enter Tryd.func79, Tryd.ntmps79
 go_wp2
 go_ret
 exact ⟨by first | rfl | (simp; done) | (simp [*]; done), by repeat (first | exact Drawn0.refl _ | apply Drawn0.step)⟩}
def r1_Neutral.j0 : Nat → Int → Bool → Option (Int × Bool)
 | 0, _, _ => none
 | k + 1, b, l => if l = true then (some (0, true)) else (if b = 18 then (some (2147483647, true)) else (if b = 19 then (some ((-2147483648), true)) else (if b = 5 then (some ((-1), true)) else (some (0, false)))))
def r1_Neutral.f (k : Nat) (b : Int) : Option (Int × Bool) := if b = 0 then (r1_Neutral.j0 k b (b == 0)) else (if b = 6 then (r1_Neutral.j0 k b (b == 6)) else (r1_Neutral.j0 k b (b == 7)))
theorem r1_Neutral.calls (k : Nat) (b : Int) (y : Int) (z : Bool) (w : World) (h : r1_Neutral.f k b = some (y, z)) :
  Calls Tryd.prog 89 #[.int .i64 b] w fun e w' => e = .returned (.tuple #[.int .i32 y, .bool z]) ∧ Drawn0 w w' := by
 have H : (if b = 0 then (r1_Neutral.j0 k b (b == 0)) else (if b = 6 then (r1_Neutral.j0 k b (b == 6)) else (r1_Neutral.j0 k b (b == 7)))) = some (y, z) := h
 clear h; have p := a_ H; clear H; go_enter Tryd.func89, Tryd.ntmps89
 go_upto_if 5 with (fail)
 go_cut [5] (fun B wc => ∃ (kq : Nat) (l : Bool), B = .bool l ∧ Aside0 (r1_Neutral.j0 kq b l = some (y, z)) ∧ Aside0 (kq ≤ k) ∧ Drawn0 w wc)
 case first => (
 have H := p.out; clear p; replace H := q_iBN H; rcases H with ⟨-, c3b0, c3b1, H⟩ | ⟨F, c3b0, c3b1, H⟩
 {
 (first | rw [c3b0] | (simp only [i64_w, i32_w]; rw [c3b0]) | skip)
 have q := a_ H
 clear H; go_wp2
 go_meet
 case rel => exact ⟨_, ((b == 0)), q_r, q, ⟨by first | omega | exact Nat.le_refl _⟩, by repeat (first | exact Drawn0.refl _ | apply Drawn0.step)⟩}
 {
 (first | rw [c3b0] | (simp only [i64_w, i32_w]; rw [c3b0]) | skip)
 replace H := q_iBN H; rcases H with ⟨-, c4b0, c4b1, H⟩ | ⟨G, c4b0, c4b1, H⟩
 {
 have q := a_ H
 clear H; go_wp2
 go_meet
 case rel => exact ⟨_, ((b == 6)), q_r, q, ⟨by first | omega | exact Nat.le_refl _⟩, by repeat (first | exact Drawn0.refl _ | apply Drawn0.step)⟩}
 {
 have q := a_ H
 clear H; go_wp2
 go_meet
 case rel => exact ⟨_, ((b == 7)), q_r, q, ⟨by first | omega | exact Nat.le_refl _⟩, by repeat (first | exact Drawn0.refl _ | apply Drawn0.step)⟩}})
 case rest => (
 clear p; obtain ⟨kq, l, rfl, HA, C, ⟨D, rfl⟩⟩ := hcut; cases kq with
 | zero => exact absurd HA.out (by simp [r1_Neutral.j0])
 | succ E => (
 have H := HA.out; clear HA; simp only [r1_Neutral.j0] at H
 by_cases c5 : l = true
 {
 subst c5; rw [if_pos rfl] at H; simp only [Option.some.injEq, Prod.mk.injEq] at H
 obtain ⟨rfl, rfl⟩ := H; go_wp2
 go_ret2
 exact ⟨by first | rfl | (simp; done) | (simp [*]; done), by repeat (first | exact Drawn0.refl _ | apply Drawn0.step)⟩}
 {
 replace c5 := Bool.eq_false_iff.mpr c5; subst c5; rw [if_neg Bool.false_ne_true] at H; replace H := q_iBN H; rcases H with ⟨-, c6b0, c6b1, H⟩ | ⟨I, c6b0, c6b1, H⟩
 {
 simp only [Option.some.injEq, Prod.mk.injEq] at H
 obtain ⟨rfl, rfl⟩ := H; go_wp2
 go_ret2
 exact ⟨by first | rfl | (simp; done) | (simp [*]; done), by repeat (first | exact Drawn0.refl _ | apply Drawn0.step)⟩}
 {
 replace H := q_iBN H; rcases H with ⟨-, c7b0, c7b1, H⟩ | ⟨c7, c7b0, c7b1, H⟩
 {
 simp only [Option.some.injEq, Prod.mk.injEq] at H
 obtain ⟨rfl, rfl⟩ := H; go_wp2
 go_ret2
 exact ⟨by first | rfl | (simp; done) | (simp [*]; done), by repeat (first | exact Drawn0.refl _ | apply Drawn0.step)⟩}
 {
 replace H := q_iBN H; rcases H with ⟨-, c8b0, c8b1, H⟩ | ⟨J, c8b0, c8b1, H⟩
 {
 simp only [Option.some.injEq, Prod.mk.injEq] at H
 obtain ⟨rfl, rfl⟩ := H; go_wp2
 go_ret2
 exact ⟨by first | rfl | (simp; done) | (simp [*]; done), by repeat (first | exact Drawn0.refl _ | apply Drawn0.step)⟩}
 {
 simp only [Option.some.injEq, Prod.mk.injEq] at H
 obtain ⟨rfl, rfl⟩ := H; go_wp2
 go_ret2
 exact ⟨by first | rfl | (simp; done) | (simp [*]; done), by repeat (first | exact Drawn0.refl _ | apply Drawn0.step)⟩}}}}))
def r1_Folds.f (k : Nat) (l : Int) : Option (Bool) := (r1_Neutral.f k l).bind fun b => (some b.2)
theorem r1_Folds.calls (k : Nat) (p : Int) (r : Bool) (w : World) (h : r1_Folds.f k p = some r) :
  Calls Tryd.prog 80 #[.int .i64 p] w fun e w' => e = .returned (.bool r) ∧ Drawn0 w w' := by
 have H : ((r1_Neutral.f k p).bind fun l => (some l.2)) = some r := h
 clear h; replace H := Option.bind_eq_some_iff.mp H; obtain ⟨⟨q, b⟩, y, H⟩ := H; replace H : (some b) = some r := H; have z := a_ y; clear y; obtain rfl := Option.some.inj H; go_enter Tryd.func80, Tryd.ntmps80
 go_wp2_with (first | ((with_reducible refine gc_ 89 rfl ?_); refine q_gl 7 #[.int .i64 p] Tryd.func89 rfl ?_; (with_reducible refine (r1_Neutral.calls k p q b _ z.out).mono ?_); rintro e w' ⟨rfl, ⟨B, rfl⟩⟩; refine ⟨_, rfl, ?_⟩))
 go_ret
 exact ⟨by first | rfl | (simp; done) | (simp [*]; done), by repeat (first | exact Drawn0.refl _ | apply Drawn0.step)⟩
def r6_Sign.f (k : Nat) (y : Int) (b : Int) : Option (Bool) := if y = 1 then ((r1_IsUnary.f b).bind fun l => (some l)) else (if y = 2 then ((r1_IsBinary.f b).bind fun p => (some p)) else (if y = 3 then (if b ≥ 0 then (some (decide (b < 4))) else (some false)) else (if y = 4 then ((r1_Folds.f k b).bind fun q => (some q)) else (some (b == 0)))))
theorem r6_Sign.calls (k : Nat) (z : Int) (b : Int) (r : Bool) (w : World) (h : r6_Sign.f k z b = some r) :
  Calls Tryd.prog 66 #[.int .i64 z, .int .i64 b] w fun e w' => e = .returned (.bool r) ∧ Drawn0 w w' := by
 have H : (if z = 1 then ((r1_IsUnary.f b).bind fun l => (some l)) else (if z = 2 then ((r1_IsBinary.f b).bind fun p => (some p)) else (if z = 3 then (if b ≥ 0 then (some (decide (b < 4))) else (some false)) else (if z = 4 then ((r1_Folds.f k b).bind fun q => (some q)) else (some (b == 0)))))) = some r := h
 clear h; replace H := q_iBN H; rcases H with ⟨-, c3b0, c3b1, H⟩ | ⟨I, c3b0, c3b1, H⟩
 {
 replace H := Option.bind_eq_some_iff.mp H; obtain ⟨l, B, H⟩ := H; have F := a_ B; clear B; obtain rfl := Option.some.inj H; go_enter Tryd.func66, Tryd.ntmps66
 go_wp2_with (first | ((with_reducible refine gc_ 78 rfl ?_); refine q_gl 9 #[.int .i64 b] Tryd.func78 rfl ?_; (with_reducible refine (r1_IsUnary.calls b l _ F.out).mono ?_); rintro e w' ⟨rfl, ⟨E, rfl⟩⟩; refine ⟨_, rfl, ?_⟩))
 go_ret
 exact ⟨by first | rfl | (simp; done) | (simp [*]; done), by repeat (first | exact Drawn0.refl _ | apply Drawn0.step)⟩}
 {
 replace H := q_iBN H; rcases H with ⟨-, c5b0, c5b1, H⟩ | ⟨c5, c5b0, c5b1, H⟩
 {
 replace H := Option.bind_eq_some_iff.mp H; obtain ⟨p, C, H⟩ := H; have G := a_ C; clear C; obtain rfl := Option.some.inj H; go_enter Tryd.func66, Tryd.ntmps66
 go_wp2_with (first | ((with_reducible refine gc_ 79 rfl ?_); refine q_gl 13 #[.int .i64 b] Tryd.func79 rfl ?_; (with_reducible refine (r1_IsBinary.calls b p _ G.out).mono ?_); rintro e w' ⟨rfl, ⟨E, rfl⟩⟩; refine ⟨_, rfl, ?_⟩))
 go_ret
 exact ⟨by first | rfl | (simp; done) | (simp [*]; done), by repeat (first | exact Drawn0.refl _ | apply Drawn0.step)⟩}
 {
 replace H := q_iBN H; rcases H with ⟨-, c7b0, c7b1, H⟩ | ⟨c7, c7b0, c7b1, H⟩
 {
 rcases q_ite H with ⟨c8b0, H⟩ | ⟨c8b0, H⟩
 {
 obtain rfl := Option.some.inj H; go_enter Tryd.func66, Tryd.ntmps66
 go_wp2
 go_ret
 exact ⟨by first | rfl | (simp; done) | (simp [*]; done), by repeat (first | exact Drawn0.refl _ | apply Drawn0.step)⟩}
 {
 obtain rfl := Option.some.inj H; go_enter Tryd.func66, Tryd.ntmps66
 go_wp2
 go_ret
 exact ⟨by first | rfl | (simp; done) | (simp [*]; done), by repeat (first | exact Drawn0.refl _ | apply Drawn0.step)⟩}}
 {
 replace H := q_iBN H; rcases H with ⟨-, c9b0, c9b1, H⟩ | ⟨J, c9b0, c9b1, H⟩
 {
 replace H := Option.bind_eq_some_iff.mp H; obtain ⟨q, y, H⟩ := H; have D := a_ y; clear y; obtain rfl := Option.some.inj H; go_enter Tryd.func66, Tryd.ntmps66
 go_wp2_with (first | ((with_reducible refine gc_ 80 rfl ?_); refine q_gl 25 #[.int .i64 b] Tryd.func80 rfl ?_; (with_reducible refine (r1_Folds.calls k b q _ D.out).mono ?_); rintro e w' ⟨rfl, ⟨E, rfl⟩⟩; refine ⟨_, rfl, ?_⟩))
 go_ret
 exact ⟨by first | rfl | (simp; done) | (simp [*]; done), by repeat (first | exact Drawn0.refl _ | apply Drawn0.step)⟩}
 {
 obtain rfl := Option.some.inj H; go_enter Tryd.func66, Tryd.ntmps66
 go_wp2
 go_ret
 exact ⟨by first | rfl | (simp; done) | (simp [*]; done), by repeat (first | exact Drawn0.refl _ | apply Drawn0.step)⟩}}}}
def r6_how.f (b : Int) : Option (Int) := if b = 2 then (some 1) else (if b = 3 then (some 2) else (if b = 4 then (some 3) else (if b = 8 then (some 4) else (if b = 10 then (some 4) else (some 0)))))
theorem r6_how.calls (b : Int) (r : Int) (w : World) (h : r6_how.f b = some r) :
  Calls Tryd.prog 67 #[.int .i64 b] w fun e w' => e = .returned (.int .i64 r) ∧ Drawn0 w w' := by
 have H : (if b = 2 then (some 1) else (if b = 3 then (some 2) else (if b = 4 then (some 3) else (if b = 8 then (some 4) else (if b = 10 then (some 4) else (some 0)))))) = some r := h
 clear h; replace H := q_iBN H; rcases H with ⟨-, c2b0, c2b1, H⟩ | ⟨c2, c2b0, c2b1, H⟩
 {
 obtain rfl := Option.some.inj H; go_enter Tryd.func67, Tryd.ntmps67
 go_wp2
 go_ret
 exact ⟨by first | rfl | (simp; done) | (simp [*]; done), by repeat (first | exact Drawn0.refl _ | apply Drawn0.step)⟩}
 {
 replace H := q_iBN H; rcases H with ⟨-, c3b0, c3b1, H⟩ | ⟨l, c3b0, c3b1, H⟩
 {
 obtain rfl := Option.some.inj H; go_enter Tryd.func67, Tryd.ntmps67
 go_wp2
 go_ret
 exact ⟨by first | rfl | (simp; done) | (simp [*]; done), by repeat (first | exact Drawn0.refl _ | apply Drawn0.step)⟩}
 {
 replace H := q_iBN H; rcases H with ⟨-, c4b0, c4b1, H⟩ | ⟨p, c4b0, c4b1, H⟩
 {
 obtain rfl := Option.some.inj H; go_enter Tryd.func67, Tryd.ntmps67
 go_wp2
 go_ret
 exact ⟨by first | rfl | (simp; done) | (simp [*]; done), by repeat (first | exact Drawn0.refl _ | apply Drawn0.step)⟩}
 {
 replace H := q_iBN H; rcases H with ⟨-, c5b0, c5b1, H⟩ | ⟨c5, c5b0, c5b1, H⟩
 {
 obtain rfl := Option.some.inj H; go_enter Tryd.func67, Tryd.ntmps67
 go_wp2
 go_ret
 exact ⟨by first | rfl | (simp; done) | (simp [*]; done), by repeat (first | exact Drawn0.refl _ | apply Drawn0.step)⟩}
 {
 replace H := q_iBN H; rcases H with ⟨-, c6b0, c6b1, H⟩ | ⟨q, c6b0, c6b1, H⟩
 {
 obtain rfl := Option.some.inj H; go_enter Tryd.func67, Tryd.ntmps67
 go_wp2
 go_ret
 exact ⟨by first | rfl | (simp; done) | (simp [*]; done), by repeat (first | exact Drawn0.refl _ | apply Drawn0.step)⟩}
 {
 obtain rfl := Option.some.inj H; go_enter Tryd.func67, Tryd.ntmps67
 go_wp2
 go_ret
 exact ⟨by first | rfl | (simp; done) | (simp [*]; done), by repeat (first | exact Drawn0.refl _ | apply Drawn0.step)⟩}}}}}
def r6_Word.f (l : Int) (b : Int) (l2 : List (S83)) (l3 : List (S85)) : Option (Bool) := if l = 0 then (if b ≥ 0 then (if (wrap64 (b)) < (l2.length : Int) then (if 0 ≤ b then (if b < (l2.length : Int) then (some (!((rd_T83 l2 b).f1))) else (none)) else (none)) else (some false)) else (some false)) else (if l = 1 then (if b ≥ 0 then (if (wrap64 (b)) < (l2.length : Int) then (if 0 ≤ b then (if b < (l2.length : Int) then (if (rd_T83 l2 b).f1 = true then (some true) else (if b ≥ 6 then (some (decide ((wrap64 (b)) < (wrap64 (6 + (l3.length : Int)))))) else (some false))) else (none)) else (none)) else (if b ≥ 6 then (some (decide ((wrap64 (b)) < (wrap64 (6 + (l3.length : Int)))))) else (some false))) else (if b ≥ 6 then (some (decide ((wrap64 (b)) < (wrap64 (6 + (l3.length : Int)))))) else (some false))) else (if l = 2 then (if b ≥ 0 then (some (decide (b ≤ 400))) else (some false)) else (if l = 3 then (some true) else (some (b == 0)))))
theorem r6_Word.calls (M : Int) (b : Int) (A2 : Option Addr) (c2 : Nat) (l2 : List (S83)) (A3 : Option Addr) (c3 : Nat) (l3 : List (S85)) (r : Bool) (w : World) (N : Kd.C k83 w A2 l2.length l2) (O : l2.length ≤ c2) (R : Kd.C k85 w A3 l3.length l3) (S : l3.length ≤ c3) (h : r6_Word.f M b l2 l3 = some r) :
  Calls Tryd.prog 68 #[.int .i64 M, .int .i32 b, .slice A2 l2.length c2, .slice A3 l3.length c3] w fun e w' => e = .returned (.bool r) ∧ Drawn0 w w' := by
 have I := a_ N; have a5 := a_ O; clear N O; have a6 := a_ R; have a7 := a_ S; clear R S; have H : (if M = 0 then (if b ≥ 0 then (if (wrap64 (b)) < (l2.length : Int) then (if 0 ≤ b then (if b < (l2.length : Int) then (some (!((rd_T83 l2 b).f1))) else (none)) else (none)) else (some false)) else (some false)) else (if M = 1 then (if b ≥ 0 then (if (wrap64 (b)) < (l2.length : Int) then (if 0 ≤ b then (if b < (l2.length : Int) then (if (rd_T83 l2 b).f1 = true then (some true) else (if b ≥ 6 then (some (decide ((wrap64 (b)) < (wrap64 (6 + (l3.length : Int)))))) else (some false))) else (none)) else (none)) else (if b ≥ 6 then (some (decide ((wrap64 (b)) < (wrap64 (6 + (l3.length : Int)))))) else (some false))) else (if b ≥ 6 then (some (decide ((wrap64 (b)) < (wrap64 (6 + (l3.length : Int)))))) else (some false))) else (if M = 2 then (if b ≥ 0 then (some (decide (b ≤ 400))) else (some false)) else (if M = 3 then (some true) else (some (b == 0)))))) = some r := h
 clear h; replace H := q_iBN H; rcases H with ⟨-, c5b0, c5b1, H⟩ | ⟨c5, c5b0, c5b1, H⟩
 {
 rcases q_ite H with ⟨c6b0, H⟩ | ⟨c6b0, H⟩
 {
 rcases q_ite H with ⟨c7b0, H⟩ | ⟨c7b0, H⟩
 {
 replace H := q_gD H; obtain ⟨-, c8b0, H⟩ := H; replace H := q_gD H; obtain ⟨-, c9b0, H⟩ := H; obtain rfl := Option.some.inj H; have E : 0 ≤ (b : Int) := q_d
 have F : b < (l2.length : Int) := q_d
 obtain ⟨X, T, U, V⟩ := at_T83 I.out b E F; cases T; replace E := eq_true E; replace F := eq_true F; go_enter Tryd.func68, Tryd.ntmps68
 go_wp2
 go_ret
 exact ⟨by first | rfl | (simp; done) | (simp [*]; done), by repeat (first | exact Drawn0.refl _ | apply Drawn0.step)⟩}
 {
 obtain rfl := Option.some.inj H; go_enter Tryd.func68, Tryd.ntmps68
 go_wp2
 go_ret
 exact ⟨by first | rfl | (simp; done) | (simp [*]; done), by repeat (first | exact Drawn0.refl _ | apply Drawn0.step)⟩}}
 {
 obtain rfl := Option.some.inj H; go_enter Tryd.func68, Tryd.ntmps68
 go_wp2
 go_ret
 exact ⟨by first | rfl | (simp; done) | (simp [*]; done), by repeat (first | exact Drawn0.refl _ | apply Drawn0.step)⟩}}
 {
 replace H := q_iBN H; rcases H with ⟨-, c10b0, c10b1, H⟩ | ⟨a8, c10b0, c10b1, H⟩
 {
 rcases q_ite H with ⟨c11b0, H⟩ | ⟨c11b0, H⟩
 {
 rcases q_ite H with ⟨c12b0, H⟩ | ⟨c12b0, H⟩
 {
 replace H := q_gD H; obtain ⟨-, c13b0, H⟩ := H; replace H := q_gD H; obtain ⟨-, c14b0, H⟩ := H; obtain ⟨L, B⟩ : ∃ b_ : Bool, b_ = ((rd_T83 l2 b).f1) := ⟨_, rfl⟩; replace H : (if L = true then (some true) else (if b ≥ 6 then (some (decide ((wrap64 (b)) < (wrap64 (6 + (l3.length : Int)))))) else (some false))) = some r := by rw [← B] at H; exact H
 have D := a_ B; clear B; by_cases J : L = true
 {
 subst J; rw [if_pos rfl] at H; obtain rfl := Option.some.inj H; have l : 0 ≤ (b : Int) := q_d
 have p : b < (l2.length : Int) := q_d
 obtain ⟨G, y, z, q⟩ := at_T83 I.out b l p; (try rw [← D.out] at q)
 cases y; replace l := eq_true l; replace p := eq_true p; go_enter Tryd.func68, Tryd.ntmps68
 go_wp2
 go_ret
 exact ⟨by first | rfl | (simp; done) | (simp [*]; done), by repeat (first | exact Drawn0.refl _ | apply Drawn0.step)⟩}
 {
 replace J := Bool.eq_false_iff.mpr J; subst J; rw [if_neg Bool.false_ne_true] at H; rcases q_ite H with ⟨c17b0, H⟩ | ⟨c17b0, H⟩
 {
 obtain rfl := Option.some.inj H; have l : 0 ≤ (b : Int) := q_d
 have p : b < (l2.length : Int) := q_d
 obtain ⟨G, y, z, q⟩ := at_T83 I.out b l p; (try rw [← D.out] at q)
 cases y; replace l := eq_true l; replace p := eq_true p; go_enter Tryd.func68, Tryd.ntmps68
 go_wp2
 go_ret
 exact ⟨by first | rfl | (simp; done) | (simp [*]; done), by repeat (first | exact Drawn0.refl _ | apply Drawn0.step)⟩}
 {
 obtain rfl := Option.some.inj H; have l : 0 ≤ (b : Int) := q_d
 have p : b < (l2.length : Int) := q_d
 obtain ⟨G, y, z, q⟩ := at_T83 I.out b l p; (try rw [← D.out] at q)
 cases y; replace l := eq_true l; replace p := eq_true p; go_enter Tryd.func68, Tryd.ntmps68
 go_wp2
 go_ret
 exact ⟨by first | rfl | (simp; done) | (simp [*]; done), by repeat (first | exact Drawn0.refl _ | apply Drawn0.step)⟩}}}
 {
 rcases q_ite H with ⟨c18b0, H⟩ | ⟨c18b0, H⟩
 {
 obtain rfl := Option.some.inj H; go_enter Tryd.func68, Tryd.ntmps68
 go_wp2
 go_ret
 exact ⟨by first | rfl | (simp; done) | (simp [*]; done), by repeat (first | exact Drawn0.refl _ | apply Drawn0.step)⟩}
 {
 obtain rfl := Option.some.inj H; go_enter Tryd.func68, Tryd.ntmps68
 go_wp2
 go_ret
 exact ⟨by first | rfl | (simp; done) | (simp [*]; done), by repeat (first | exact Drawn0.refl _ | apply Drawn0.step)⟩}}}
 {
 rcases q_ite H with ⟨c19b0, H⟩ | ⟨c19b0, H⟩
 {
 obtain rfl := Option.some.inj H; go_enter Tryd.func68, Tryd.ntmps68
 go_wp2
 go_ret
 exact ⟨by first | rfl | (simp; done) | (simp [*]; done), by repeat (first | exact Drawn0.refl _ | apply Drawn0.step)⟩}
 {
 obtain rfl := Option.some.inj H; go_enter Tryd.func68, Tryd.ntmps68
 go_wp2
 go_ret
 exact ⟨by first | rfl | (simp; done) | (simp [*]; done), by repeat (first | exact Drawn0.refl _ | apply Drawn0.step)⟩}}}
 {
 replace H := q_iBN H; rcases H with ⟨-, c20b0, c20b1, H⟩ | ⟨a9, c20b0, c20b1, H⟩
 {
 rcases q_ite H with ⟨c21b0, H⟩ | ⟨c21b0, H⟩
 {
 obtain rfl := Option.some.inj H; go_enter Tryd.func68, Tryd.ntmps68
 go_wp2
 go_ret
 exact ⟨by first | rfl | (simp; done) | (simp [*]; done), by repeat (first | exact Drawn0.refl _ | apply Drawn0.step)⟩}
 {
 obtain rfl := Option.some.inj H; go_enter Tryd.func68, Tryd.ntmps68
 go_wp2
 go_ret
 exact ⟨by first | rfl | (simp; done) | (simp [*]; done), by repeat (first | exact Drawn0.refl _ | apply Drawn0.step)⟩}}
 {
 replace H := q_iBN H; rcases H with ⟨-, c22b0, c22b1, H⟩ | ⟨b0, c22b0, c22b1, H⟩
 {
 obtain rfl := Option.some.inj H; go_enter Tryd.func68, Tryd.ntmps68
 go_wp2
 go_ret
 exact ⟨by first | rfl | (simp; done) | (simp [*]; done), by repeat (first | exact Drawn0.refl _ | apply Drawn0.step)⟩}
 {
 obtain rfl := Option.some.inj H; go_enter Tryd.func68, Tryd.ntmps68
 go_wp2
 go_ret
 exact ⟨by first | rfl | (simp; done) | (simp [*]; done), by repeat (first | exact Drawn0.refl _ | apply Drawn0.step)⟩}}}}
def r6_what.j0 : Nat → Int → Bool → Option (Int)
 | 0, _, _ => none
 | k + 1, b, l => if l = true then (some 1) else (if b = 9 then (some 2) else (if b = 10 then (some 2) else (some 4)))
def r6_what.f (k : Nat) (b : Int) : Option (Int) := if b = 0 then (some 3) else (if b = 5 then (some 0) else (if b = 6 then (r6_what.j0 k b (b == 6)) else (if b = 7 then (r6_what.j0 k b (b == 7)) else (r6_what.j0 k b (b == 8)))))
theorem r6_what.calls (k : Nat) (b : Int) (r : Int) (w : World) (h : r6_what.f k b = some r) :
  Calls Tryd.prog 69 #[.int .i64 b] w fun e w' => e = .returned (.int .i64 r) ∧ Drawn0 w w' := by
 have H : (if b = 0 then (some 3) else (if b = 5 then (some 0) else (if b = 6 then (r6_what.j0 k b (b == 6)) else (if b = 7 then (r6_what.j0 k b (b == 7)) else (r6_what.j0 k b (b == 8)))))) = some r := h
 clear h; replace H := q_iBN H; rcases H with ⟨-, c2b0, c2b1, H⟩ | ⟨c2, c2b0, c2b1, H⟩
 {
 obtain rfl := Option.some.inj H; go_enter Tryd.func69, Tryd.ntmps69
 go_wp2
 go_ret
 exact ⟨by first | rfl | (simp; done) | (simp [*]; done), by repeat (first | exact Drawn0.refl _ | apply Drawn0.step)⟩}
 {
 replace H := q_iBN H; rcases H with ⟨-, c3b0, c3b1, H⟩ | ⟨y, c3b0, c3b1, H⟩
 {
 obtain rfl := Option.some.inj H; go_enter Tryd.func69, Tryd.ntmps69
 go_wp2
 go_ret
 exact ⟨by first | rfl | (simp; done) | (simp [*]; done), by repeat (first | exact Drawn0.refl _ | apply Drawn0.step)⟩}
 {
 have p := a_ H; clear H; go_enter Tryd.func69, Tryd.ntmps69
 go_upto_if 8 with (fail)
 go_cut [8] (fun z wc => ∃ (kq : Nat) (l : Bool), z = .bool l ∧ Aside0 (r6_what.j0 kq b l = some r) ∧ Aside0 (kq ≤ k) ∧ Drawn0 w wc)
 case first => (
 have H := p.out; clear p; replace H := q_iBN H; rcases H with ⟨-, c5b0, c5b1, H⟩ | ⟨c5, c5b0, c5b1, H⟩
 {
 (first | rw [c5b0] | (simp only [i64_w, i32_w]; rw [c5b0]) | skip)
 have q := a_ H
 clear H; go_wp2
 go_meet
 case rel => exact ⟨_, ((b == 6)), q_r, q, ⟨by first | omega | exact Nat.le_refl _⟩, by repeat (first | exact Drawn0.refl _ | apply Drawn0.step)⟩}
 {
 (first | rw [c5b0] | (simp only [i64_w, i32_w]; rw [c5b0]) | skip)
 replace H := q_iBN H; rcases H with ⟨-, c6b0, c6b1, H⟩ | ⟨E, c6b0, c6b1, H⟩
 {
 have q := a_ H
 clear H; go_wp2
 go_meet
 case rel => exact ⟨_, ((b == 7)), q_r, q, ⟨by first | omega | exact Nat.le_refl _⟩, by repeat (first | exact Drawn0.refl _ | apply Drawn0.step)⟩}
 {
 have q := a_ H
 clear H; go_wp2
 go_meet
 case rel => exact ⟨_, ((b == 8)), q_r, q, ⟨by first | omega | exact Nat.le_refl _⟩, by repeat (first | exact Drawn0.refl _ | apply Drawn0.step)⟩}})
 case rest => (
 clear p c2 c2b0 c2b1 y c3b0 c3b1; obtain ⟨kq, l, rfl, HA, B, ⟨C, rfl⟩⟩ := hcut; cases kq with
 | zero => exact absurd HA.out (by simp [r6_what.j0])
 | succ D => (
 have H := HA.out; clear HA; simp only [r6_what.j0] at H
 by_cases c7 : l = true
 {
 subst c7; rw [if_pos rfl] at H; obtain rfl := Option.some.inj H; go_wp2
 go_ret
 exact ⟨by first | rfl | (simp; done) | (simp [*]; done), by repeat (first | exact Drawn0.refl _ | apply Drawn0.step)⟩}
 {
 replace c7 := Bool.eq_false_iff.mpr c7; subst c7; rw [if_neg Bool.false_ne_true] at H; replace H := q_iBN H; rcases H with ⟨-, c8b0, c8b1, H⟩ | ⟨F, c8b0, c8b1, H⟩
 {
 obtain rfl := Option.some.inj H; go_wp2
 go_ret
 exact ⟨by first | rfl | (simp; done) | (simp [*]; done), by repeat (first | exact Drawn0.refl _ | apply Drawn0.step)⟩}
 {
 replace H := q_iBN H; rcases H with ⟨-, c9b0, c9b1, H⟩ | ⟨G, c9b0, c9b1, H⟩
 {
 obtain rfl := Option.some.inj H; go_wp2
 go_ret
 exact ⟨by first | rfl | (simp; done) | (simp [*]; done), by repeat (first | exact Drawn0.refl _ | apply Drawn0.step)⟩}
 {
 obtain rfl := Option.some.inj H; go_wp2
 go_ret
 exact ⟨by first | rfl | (simp; done) | (simp [*]; done), by repeat (first | exact Drawn0.refl _ | apply Drawn0.step)⟩}}}))}}
mutual
def r6_instr.j0 : Nat → Int → Bool → ByteArray → List (S83) → List (S85) → Int → List (S69) → Int → Int → Int → Int → Int → Int → List Int → Option (Bool)
 | 0, _, _, _, _, _, _, _, _, _, _, _, _, _, _ => none
 | k + 1, L, V, F, q, y, l, G, p, z, B, C, D, E, b => if V = true then (some false) else ((r6_Has.f k p).bind fun I => ((r6_reg.f I.1 B l).bind fun M => (if M = true then ((r6_reg.f I.2.1 C l).bind fun N => (if N = true then ((r6_reg.f I.2.2 D l).bind fun O => (if O = true then ((r6_how.f p).bind fun R => ((r6_Sign.f k R z).bind fun S => (if S = true then ((r6_what.f k p).bind fun T => ((r6_Word.f T E q y).bind fun U => (r6_instr.j1 k L (!U) F q y l G p z B C D E b))) else (r6_instr.j1 k L true F q y l G p z B C D E b)))) else (r6_instr.j1 k L true F q y l G p z B C D E b))) else (r6_instr.j1 k L true F q y l G p z B C D E b))) else (r6_instr.j1 k L true F q y l G p z B C D E b))))
def r6_instr.j1 : Nat → Int → Bool → ByteArray → List (S83) → List (S85) → Int → List (S69) → Int → Int → Int → Int → Int → Int → List Int → Option (Bool)
 | 0, _, _, _, _, _, _, _, _, _, _, _, _, _, _ => none
 | k + 1, L, X, F, q, y, l, G, p, z, B, C, D, E, b => if X = true then (some false) else (if p = 11 then (r6_instr.l0 k L 0 F q y l G p z B C D E b) else (some ((b.length : Int) == 0)))
def r6_instr.l0 : Nat → Int → Int → ByteArray → List (S83) → List (S85) → Int → List (S69) → Int → Int → Int → Int → Int → Int → List Int → Option (Bool)
 | 0, _, _, _, _, _, _, _, _, _, _, _, _, _, _ => none
 | k + 1, L, J, F, q, y, l, G, p, z, B, C, D, E, b => if J < (b.length : Int) then (if 0 ≤ J then (if (rd b J) < 0 then (some false) else (if (rd b J) ≥ l then (some false) else (r6_instr.l0 k L (wrap64 (J + 1)) F q y l G p z B C D E b))) else (none)) else (some ((b.length : Int) == L))
end
def r6_instr.f (k : Nat) (l : ByteArray) (p : List (S83)) (q : List (S85)) (y : Int) (z : List (S69)) (b : Int) (B : Int) (C : Int) (D : Int) (E : Int) (F : Int) (G : List Int) (I : Int) : Option (Bool) := if b < 0 then (r6_instr.j0 k I true l p q y z b B C D E F G) else (r6_instr.j0 k I (decide (b ≥ 12)) l p q y z b B C D E F G)
def r6_instr.T4 : Bool × List (List Nat × List Nat) := (true, [([], []), ([], []), ([1], [1]), ([], []), ([3], [3]), ([0, 2, 4], [0, 2, 4]), ([5], [5]), ([6, 5], [6]), ([7], [7]), ([7], [7]), ([9, 7], [7, 9]), ([7], [7]), ([11, 7], [7, 11]), ([8, 10, 12, 7, 7], [7, 8, 10, 12]), ([13, 7], [7, 13]), ([7, 14], [7, 14]), ([15, 13], [15]), ([16], [16]), ([16], [16]), ([18, 16], [16, 18]), ([16], [16]), ([20, 16], [16, 20]), ([17, 19, 21, 16, 16], [16, 17, 19, 21]), ([22, 16], [16, 22]), ([16, 23], [16, 23]), ([24, 22], [24]), ([25], [25]), ([26, 25], [25, 26]), ([27, 25, 25], [25, 27]), ([25], [25]), ([29, 25], [25, 29]), ([28, 30, 28, 25], [25, 28, 30]), ([31, 25], [25, 31]), ([25, 32], [25, 32]), ([33, 31], [33]), ([34], [34]), ([35, 34], [34, 35]), ([36, 34, 34], [34, 36]), ([34], [34]), ([38, 34], [34, 38]), ([34], [34]), ([40, 34], [34, 40]), ([34], [34]), ([42, 34], [34, 42]), ([37, 39, 41, 43, 37, 34], [34, 37, 39, 41, 43]), ([44, 34], [34, 44]), ([34, 45], [34, 45])])
def r6_instr.B4 : List Nat := [0, 0, 2, 0, 8, 31, 63, 127, 255, 255, 767, 255, 2303, 8191, 16383, 32767, 65535, 131071, 131071, 393215, 131071, 1179647, 4194303, 8388607, 16777215, 33554431, 67108863, 134217727, 268435455, 67108863, 603979775, 2147483647, 4294967295, 8589934591, 17179869183, 34359738367, 68719476735, 137438953471, 34359738367, 309237645311, 34359738367, 1133871366143, 34359738367, 4432406249471, 17592186044415, 35184372088831, 70368744177663]
theorem r6_instr.tab4 : rtab .any (opsOf Tryd.f49 4) = r6_instr.T4 := by kernel_rfl
theorem r6_instr.bits4 : waitsOk r6_instr.T4.2 r6_instr.B4 = true := by kernel_rfl
def r6_instr.T11 : Bool × List (List Nat × List Nat) := (true, [([], []), ([0], [0]), ([], []), ([1, 2], [1, 2]), ([3], [3]), ([4], [4]), ([5], [5]), ([6], [6]), ([7, 6], [6, 7]), ([6], [6]), ([8, 9, 6], [6, 8, 9]), ([10, 6], [6, 10]), ([6], [6]), ([12, 6], [6, 12]), ([11, 13, 6], [6, 11, 13]), ([6, 14], [6, 14])])
def r6_instr.B11 : List Nat := [0, 1, 0, 7, 15, 31, 63, 127, 255, 127, 1023, 2047, 127, 4223, 16383, 32767]
theorem r6_instr.tab11 : rtab .any (opsOf Tryd.f49 11) = r6_instr.T11 := by kernel_rfl
theorem r6_instr.bits11 : waitsOk r6_instr.T11.2 r6_instr.B11 = true := by kernel_rfl
theorem r6_instr.calls (k : Nat) (a0 : ByteArray) (a9 : Option Addr) (b0 : Nat) (J : List (S83)) (b1 : Option Addr) (b2 : Nat) (L : List (S85)) (y : Int) (b5 : Option Addr) (b6 : Nat) (T : List (S69)) (B : Int) (M : Int) (E : Int) (G : Int) (I : Int) (O : Int) (b8 : Option Addr) (b3 : Nat) (D : List Int) (a2 : Int) (r : Bool) (w : World) (e4 : Kd.C k83 w a9 J.length J) (e5 : J.length ≤ b0) (e6 : Kd.C k85 w b1 L.length L) (e7 : L.length ≤ b2) (e8 : Kd.C k69 w b5 T.length T) (e9 : T.length ≤ b6) (f0 : Kd.C (Kd.int .i64) w b8 D.length D) (f1 : D.length ≤ b3) (h : r6_instr.f k a0 J L y T B M E G I O D a2 = some r) :
  Calls Tryd.prog 49 #[.agg #[.string a0, .slice a9 J.length b0, .slice b1 L.length b2, .int .i64 y, .slice b5 T.length b6], .agg #[.int .i64 B, .int .i64 M, .int .i64 E, .int .i64 G, .int .i64 I, .int .i32 O, .slice b8 D.length b3], .int .i64 a2] w fun e w' => e = .returned (.bool r) ∧ Below w.heap.size w w' := by
 have C6 := Tryd.underlying26; have C7 := Tryd.underlying71; have k5 := a_ e4; have k6 := a_ e5; clear e4 e5; have k7 := a_ e6; have k8 := a_ e7; clear e6 e7; have z4 := a_ e8; have z5 := a_ e9; clear e8 e9; have d0 := a_ f0; have z6 := a_ f1; clear f0 f1; have X := a_ (Below.refl w.heap.size w); have H : (if B < 0 then (r6_instr.j0 k a2 true a0 J L y T B M E G I O D) else (r6_instr.j0 k a2 (decide (B ≥ 12)) a0 J L y T B M E G I O D)) = some r := h
 clear h; have k9 := a_ H; clear H; go_enter Tryd.func49, Tryd.ntmps49
 go_upto_region 1 with (first | ((with_reducible refine gd_ 3 rfl ?_); refine q_box 3 26 #[.string a0, .slice a9 J.length b0, .slice b1 L.length b2, .int .i64 y, .slice b5 T.length b6] ?_; intro b4 hg w5 d7 hb; have p := a_ (d7); have z7 := a_ ((q_ge X.out hg)); have R := a_ ((q_ge X.out hg)); replace X := a_ (q_st X.out hb); clear hb d7 hg) | ((with_reducible refine gd_ 4 rfl ?_); refine q_box 4 71 #[.int .i64 B, .int .i64 M, .int .i64 E, .int .i64 G, .int .i64 I, .int .i32 O, .slice b8 D.length b3] ?_; intro a8 hg w6 d7 hb; have l := a_ (d7); have z8 := a_ ((q_ge1 X.out hg R.out)); have a1 := a_ ((q_ge1 X.out hg R.out)); have U := a_ ((q_ne p.out hg)); have V := a_ ((q_en p.out hg)); replace p := a_ (q_bk p.out hb); replace X := a_ (q_st1 X.out hb R.out); clear hb d7 hg))
 (try simp only [Act.put, List.setIfInBounds_toArray, List.set_cons_zero, List.set_cons_succ])
 go_cut [18] (fun z9 wc => ∃ (kq : Nat) (d5 : Bool), z9 = .bool d5 ∧ Aside0 (r6_instr.j0 kq a2 d5 a0 J L y T B M E G I O D = some r) ∧ Aside0 (kq ≤ k) ∧ Aside0 (wc.heap[b4]? = some (.cells #[.string a0, (.slice a9 J.length b0), (.slice b1 L.length b2), .int .i64 y, (.slice b5 T.length b6)] 26 (0, 0))) ∧ Aside0 (wc.heap[a8]? = some (.cells #[.int .i64 B, .int .i64 M, .int .i64 E, .int .i64 G, .int .i64 I, .int .i32 O, (.slice b8 D.length b3)] 71 (0, 0))) ∧ Aside0 (Below w.heap.size w wc))
 case first => (
 have H := k9.out; clear k9; rcases q_ite H with ⟨c7b0, H⟩ | ⟨c7b0, H⟩
 {
 (first | rw [c7b0] | (simp only [i64_w, i32_w]; rw [c7b0]) | skip)
 have H' := a_ H
 clear H; have C8 := V.out; have C9 := U.out; obtain ⟨y0, y1, y2, y3, y4, y5, y6, y7, y8, y9, z0, z1, z2, z3⟩ := q_cf7 l.out; go_wp2
 go_meet
 case rel => exact ⟨_, (true), q_r, H', ⟨by first | omega | exact Nat.le_refl _⟩, ⟨q_k p.out⟩, ⟨q_k l.out⟩, ⟨q_w2 X.out R.out a1.out⟩⟩}
 {
 (first | rw [c7b0] | (simp only [i64_w, i32_w]; rw [c7b0]) | skip)
 have H' := a_ H
 clear H; have A0 := V.out; have A1 := U.out; obtain ⟨l5, l6, l7, l8, l9, n0, n1, n2, n3, n4, n5, n6, n7, n8⟩ := q_cf7 l.out; go_wp2
 go_meet
 case rel => exact ⟨_, (decide (B ≥ 12)), q_r, H', ⟨by first | omega | exact Nat.le_refl _⟩, ⟨q_k p.out⟩, ⟨q_k l.out⟩, ⟨q_w2 X.out R.out a1.out⟩⟩})
 case rest => (
 clear k9; obtain ⟨kq, d5, rfl, HA, e0, p, l, X⟩ := hcut; cases kq with
 | zero => exact absurd HA.out (by simp [r6_instr.j0])
 | succ c8 => (
 have H := HA.out; clear HA; simp only [r6_instr.j0] at H
 by_cases i3 : d5 = true
 {
 subst i3; rw [if_pos rfl] at H; obtain rfl := Option.some.inj H; go_wp2
 go_ret
 exact ⟨q_e, q_w2 X.out R.out a1.out⟩}
 {
 replace i3 := Bool.eq_false_iff.mpr i3; subst i3; rw [if_neg Bool.false_ne_true] at H; replace H := Option.bind_eq_some_iff.mp H; obtain ⟨⟨b7, c3, c4⟩, j3, H⟩ := H; replace H : ((r6_reg.f b7 E y).bind fun f2 => (if f2 = true then ((r6_reg.f c3 G y).bind fun f3 => (if f3 = true then ((r6_reg.f c4 I y).bind fun f4 => (if f4 = true then ((r6_how.f B).bind fun c6 => ((r6_Sign.f c8 c6 M).bind fun f5 => (if f5 = true then ((r6_what.f c8 B).bind fun d8 => ((r6_Word.f d8 O J L).bind fun e2 => (r6_instr.j1 c8 a2 (!e2) a0 J L y T B M E G I O D))) else (r6_instr.j1 c8 a2 true a0 J L y T B M E G I O D)))) else (r6_instr.j1 c8 a2 true a0 J L y T B M E G I O D))) else (r6_instr.j1 c8 a2 true a0 J L y T B M E G I O D))) else (r6_instr.j1 c8 a2 true a0 J L y T B M E G I O D))) = some r := H
 have A2 := a_ j3; clear j3; have f6 := a_ H; clear H; have A3 := V.out; have A4 := U.out; obtain ⟨n9, o0, o1, o2, o3, o4, o5, o6, o7, o8, o9, p0, p1, p2⟩ := q_cf7 l.out; go_upto_region 4 with (first | ((with_reducible refine gc_ 37 rfl ?_); refine q_gl 22 #[.int .i64 B] Tryd.func37 rfl ?_; (with_reducible refine (r6_Has.calls c8 B b7 c3 c4 _ A2.out).mono ?_); rintro e w' ⟨rfl, ⟨nd, rfl⟩⟩; refine ⟨_, rfl, ?_⟩))
 have a4 := a_ (blk_drewN p.out nd); have a5 := a_ (blk_drewN l.out nd); have a6 := a_ (pw_below_drewN X.out nd); clear p l X; have p := a4; have l := a5; have X := a6; clear a4 a5 a6; generalize World.drewN wc nd = wc at p l X ⊢
 (try simp only [Act.put, List.setIfInBounds_toArray, List.set_cons_zero, List.set_cons_succ])
 go_cut [72] (fun A5 wc => ∃ (kq : Nat) (c9 : Bool), A5 = .bool c9 ∧ Aside0 (r6_instr.j1 kq a2 c9 a0 J L y T B M E G I O D = some r) ∧ Aside0 (kq ≤ c8) ∧ Aside0 (wc.heap[b4]? = some (.cells #[.string a0, (.slice a9 J.length b0), (.slice b1 L.length b2), .int .i64 y, (.slice b5 T.length b6)] 26 (0, 0))) ∧ Aside0 (wc.heap[a8]? = some (.cells #[.int .i64 B, .int .i64 M, .int .i64 E, .int .i64 G, .int .i64 I, .int .i32 O, (.slice b8 D.length b3)] 71 (0, 0))) ∧ Aside0 (Below w.heap.size w wc))
 case first => (
 have H := f6.out; clear f6; replace H := Option.bind_eq_some_iff.mp H; obtain ⟨f2, j5, H⟩ := H; have f7 := a_ j5; clear j5; by_cases i4 : f2 = true
 {
 subst i4; rw [if_pos rfl] at H; replace H := Option.bind_eq_some_iff.mp H; obtain ⟨f3, j6, H⟩ := H; have i5 := a_ j6; clear j6; by_cases i6 : f3 = true
 {
 subst i6; rw [if_pos rfl] at H; replace H := Option.bind_eq_some_iff.mp H; obtain ⟨f4, j7, H⟩ := H; have l4 := a_ j7; clear j7; by_cases i7 : f4 = true
 {
 subst i7; rw [if_pos rfl] at H; replace H := Option.bind_eq_some_iff.mp H; obtain ⟨c6, j8, H⟩ := H; have p3 := a_ j8; clear j8; replace H := Option.bind_eq_some_iff.mp H; obtain ⟨f5, j9, H⟩ := H; have p4 := a_ j9; clear j9; by_cases i8 : f5 = true
 {
 subst i8; rw [if_pos rfl] at H; replace H := Option.bind_eq_some_iff.mp H; obtain ⟨d8, k0, H⟩ := H; have A6 := a_ k0; clear k0; replace H := Option.bind_eq_some_iff.mp H; obtain ⟨e2, k1, H⟩ := H; have A7 := a_ k1; clear k1; have H' := a_ H
 clear H; try go_wp2
 have a4 := a_ (blk_drew p.out); have a5 := a_ (blk_drew l.out); have a6 := a_ (below_drew1 X.out); clear p l X; have p := a4; have l := a5; have X := a6; clear a4 a5 a6; refine q_s 47 (S := fun w' => cg7 w' a8 (.int .i64 B) (.int .i64 M) (.int .i64 E) (.int .i64 G) (.int .i64 I) (.int .i32 O) (.slice b8 D.length b3) (cg5_ w' b4 (.string a0) (.slice a9 J.length b0) (.slice b1 L.length b2) (.int .i64 y) (.slice b5 T.length b6))) (q_g7 l.out (q_g5_ p.out)) (fun q => ?_); refine with_tabW r6_instr.tab4 r6_instr.bits4 (fun b F => ?_)
 generalize wc.drew = D0 at p l X q ⊢
 refine qv_ 0 b ?_
 refine qv_ 1 b ?_
 refine qv_ 3 b ?_
 refine qt12_ 2 b F q ?_
 refine qt12_ 4 b F q ?_
 refine q_o 5 b (fun K hK => ?_)
 refine q_go #[.bool b7, .int .i64 E, .int .i64 y] Tryd.func65 rfl ?_
 with_reducible refine (r6_reg.calls b7 E y true _ f7.out).mono ?_
 rintro e w' ⟨rfl, ⟨nd, rfl⟩⟩
 refine ⟨_, rfl, ?_⟩
 refine q_nk hK.out (q_g7 l.out (q_g5_ p.out)) (fun q => ?_)
 clear hK K
 refine qv_ 6 b ?_
 refine qv_ 7 b ?_
 refine qv_ 8 b ?_
 refine qv_ 9 b ?_
 refine qv_ 11 b ?_
 refine qt12_ 10 b F q ?_
 refine qt12_ 12 b F q ?_
 refine q_o 13 b (fun K hK => ?_)
 refine q_go #[.bool c3, .int .i64 G, .int .i64 y] Tryd.func65 rfl ?_
 with_reducible refine (r6_reg.calls c3 G y true _ i5.out).mono ?_
 rintro e w' ⟨rfl, ⟨nd, rfl⟩⟩
 refine ⟨_, rfl, ?_⟩
 refine q_nk hK.out (q_g7 l.out (q_g5_ p.out)) (fun q => ?_)
 clear hK K
 refine qv_ 14 b ?_
 refine qv_ 15 b ?_
 refine qv_ 16 b ?_
 refine qv_ 17 b ?_
 refine qv_ 18 b ?_
 refine qv_ 20 b ?_
 refine qt12_ 19 b F q ?_
 refine qt12_ 21 b F q ?_
 refine q_o 22 b (fun K hK => ?_)
 refine q_go #[.bool c4, .int .i64 I, .int .i64 y] Tryd.func65 rfl ?_
 with_reducible refine (r6_reg.calls c4 I y true _ l4.out).mono ?_
 rintro e w' ⟨rfl, ⟨nd, rfl⟩⟩
 refine ⟨_, rfl, ?_⟩
 refine q_nk hK.out (q_g7 l.out (q_g5_ p.out)) (fun q => ?_)
 clear hK K
 refine qv_ 23 b ?_
 refine qv_ 24 b ?_
 refine qv_ 25 b ?_
 refine qv_ 26 b ?_
 refine qv_ 29 b ?_
 refine qt12_ 27 b F q ?_
 refine qt12_ 30 b F q ?_
 refine q_o 28 b (fun K hK => ?_)
 refine q_go #[.int .i64 B] Tryd.func67 rfl ?_
 with_reducible refine (r6_how.calls B c6 _ p3.out).mono ?_
 rintro e w' ⟨rfl, ⟨nd, rfl⟩⟩
 refine ⟨_, rfl, ?_⟩
 refine q_nk hK.out (q_g7 l.out (q_g5_ p.out)) (fun q => ?_)
 clear hK K
 refine q_o 31 b (fun K hK => ?_)
 refine q_go #[.int .i64 c6, .int .i64 M] Tryd.func66 rfl ?_
 with_reducible refine (r6_Sign.calls c8 c6 M true _ p4.out).mono ?_
 rintro e w' ⟨rfl, ⟨nd, rfl⟩⟩
 refine ⟨_, rfl, ?_⟩
 refine q_nk hK.out (q_g7 l.out (q_g5_ p.out)) (fun q => ?_)
 clear hK K
 refine qv_ 32 b ?_
 refine qv_ 33 b ?_
 refine qv_ 34 b ?_
 refine qv_ 35 b ?_
 refine qv_ 38 b ?_
 refine qv_ 40 b ?_
 refine qv_ 42 b ?_
 refine qt12_ 36 b F q ?_
 refine qt12_ 39 b F q ?_
 refine qt12_ 41 b F q ?_
 refine qt12_ 43 b F q ?_
 refine q_o 37 b (fun K hK => ?_)
 refine q_go #[.int .i64 B] Tryd.func69 rfl ?_
 with_reducible refine (r6_what.calls c8 B d8 _ A6.out).mono ?_
 rintro e w' ⟨rfl, ⟨nd, rfl⟩⟩
 refine ⟨_, rfl, ?_⟩
 refine q_nk hK.out (q_g7 l.out (q_g5_ p.out)) (fun q => ?_)
 clear hK K
 refine q_o 44 b (fun K hK => ?_)
 refine q_go #[.int .i64 d8, .int .i32 O, .slice a9 J.length b0, .slice b1 L.length b2] Tryd.func68 rfl ?_
 with_reducible refine (r6_Word.calls d8 O _ _ J _ _ L e2 _ (q_C (Kd.C_below k5.out (q_w2 X.out R.out a1.out))) k6.out (q_C (Kd.C_below k7.out (q_w2 X.out R.out a1.out))) k8.out A7.out).mono ?_
 rintro e w' ⟨rfl, ⟨nd, rfl⟩⟩
 refine ⟨_, rfl, ?_⟩
 refine q_nk hK.out (q_g7 l.out (q_g5_ p.out)) (fun q => ?_)
 clear hK K
 refine qv_ 45 b ?_
 refine qv_ 46 b ?_
 refine done_ (done_of b.out (by kernel_rfl)) ?_
 try go_wp2
 go_meet
 case rel => exact ⟨_, (!e2), q_r, H', ⟨by have := e0.out; first | omega | exact Nat.le_refl _⟩, ⟨q_k p.out⟩, ⟨q_k l.out⟩, ⟨q_w2 X.out R.out a1.out⟩⟩}
 {
 replace i8 := Bool.eq_false_iff.mpr i8; subst i8; rw [if_neg Bool.false_ne_true] at H; have H' := a_ H
 clear H; try go_wp2
 have a4 := a_ (blk_drew p.out); have a5 := a_ (blk_drew l.out); have a6 := a_ (below_drew1 X.out); clear p l X; have p := a4; have l := a5; have X := a6; clear a4 a5 a6; refine q_s 47 (S := fun w' => cg7 w' a8 (.int .i64 B) (.int .i64 M) (.int .i64 E) (.int .i64 G) (.int .i64 I) (.int .i32 O) (.slice b8 D.length b3) (cg5_ w' b4 (.string a0) (.slice a9 J.length b0) (.slice b1 L.length b2) (.int .i64 y) (.slice b5 T.length b6))) (q_g7 l.out (q_g5_ p.out)) (fun q => ?_); refine with_tabW r6_instr.tab4 r6_instr.bits4 (fun b F => ?_)
 generalize wc.drew = D1 at p l X q ⊢
 refine qv_ 0 b ?_
 refine qv_ 1 b ?_
 refine qv_ 3 b ?_
 refine qt12_ 2 b F q ?_
 refine qt12_ 4 b F q ?_
 refine q_o 5 b (fun K hK => ?_)
 refine q_go #[.bool b7, .int .i64 E, .int .i64 y] Tryd.func65 rfl ?_
 with_reducible refine (r6_reg.calls b7 E y true _ f7.out).mono ?_
 rintro e w' ⟨rfl, ⟨nd, rfl⟩⟩
 refine ⟨_, rfl, ?_⟩
 refine q_nk hK.out (q_g7 l.out (q_g5_ p.out)) (fun q => ?_)
 clear hK K
 refine qv_ 6 b ?_
 refine qv_ 7 b ?_
 refine qv_ 8 b ?_
 refine qv_ 9 b ?_
 refine qv_ 11 b ?_
 refine qt12_ 10 b F q ?_
 refine qt12_ 12 b F q ?_
 refine q_o 13 b (fun K hK => ?_)
 refine q_go #[.bool c3, .int .i64 G, .int .i64 y] Tryd.func65 rfl ?_
 with_reducible refine (r6_reg.calls c3 G y true _ i5.out).mono ?_
 rintro e w' ⟨rfl, ⟨nd, rfl⟩⟩
 refine ⟨_, rfl, ?_⟩
 refine q_nk hK.out (q_g7 l.out (q_g5_ p.out)) (fun q => ?_)
 clear hK K
 refine qv_ 14 b ?_
 refine qv_ 15 b ?_
 refine qv_ 16 b ?_
 refine qv_ 17 b ?_
 refine qv_ 18 b ?_
 refine qv_ 20 b ?_
 refine qt12_ 19 b F q ?_
 refine qt12_ 21 b F q ?_
 refine q_o 22 b (fun K hK => ?_)
 refine q_go #[.bool c4, .int .i64 I, .int .i64 y] Tryd.func65 rfl ?_
 with_reducible refine (r6_reg.calls c4 I y true _ l4.out).mono ?_
 rintro e w' ⟨rfl, ⟨nd, rfl⟩⟩
 refine ⟨_, rfl, ?_⟩
 refine q_nk hK.out (q_g7 l.out (q_g5_ p.out)) (fun q => ?_)
 clear hK K
 refine qv_ 23 b ?_
 refine qv_ 24 b ?_
 refine qv_ 25 b ?_
 refine qv_ 26 b ?_
 refine qv_ 29 b ?_
 refine qt12_ 27 b F q ?_
 refine qt12_ 30 b F q ?_
 refine q_o 28 b (fun K hK => ?_)
 refine q_go #[.int .i64 B] Tryd.func67 rfl ?_
 with_reducible refine (r6_how.calls B c6 _ p3.out).mono ?_
 rintro e w' ⟨rfl, ⟨nd, rfl⟩⟩
 refine ⟨_, rfl, ?_⟩
 refine q_nk hK.out (q_g7 l.out (q_g5_ p.out)) (fun q => ?_)
 clear hK K
 refine q_o 31 b (fun K hK => ?_)
 refine q_go #[.int .i64 c6, .int .i64 M] Tryd.func66 rfl ?_
 with_reducible refine (r6_Sign.calls c8 c6 M false _ p4.out).mono ?_
 rintro e w' ⟨rfl, ⟨nd, rfl⟩⟩
 refine ⟨_, rfl, ?_⟩
 refine q_nk hK.out (q_g7 l.out (q_g5_ p.out)) (fun q => ?_)
 clear hK K
 refine qv_ 32 b ?_
 refine qv_ 33 b ?_
 refine qv_ 34 b ?_
 refine qu_ 35 b ?_
 refine qu_ 36 b ?_
 refine qu_ 37 b ?_
 refine qu_ 38 b ?_
 refine qu_ 39 b ?_
 refine qu_ 40 b ?_
 refine qu_ 41 b ?_
 refine qu_ 42 b ?_
 refine qu_ 43 b ?_
 refine qu_ 44 b ?_
 refine qu_ 45 b ?_
 refine qv_ 46 b ?_
 refine done_ (done_of b.out (by kernel_rfl)) ?_
 try go_wp2
 go_meet
 case rel => exact ⟨_, (true), q_r, H', ⟨by have := e0.out; first | omega | exact Nat.le_refl _⟩, ⟨q_k p.out⟩, ⟨q_k l.out⟩, ⟨q_w2 X.out R.out a1.out⟩⟩}}
 {
 replace i7 := Bool.eq_false_iff.mpr i7; subst i7; rw [if_neg Bool.false_ne_true] at H; have H' := a_ H
 clear H; try go_wp2
 have a4 := a_ (blk_drew p.out); have a5 := a_ (blk_drew l.out); have a6 := a_ (below_drew1 X.out); clear p l X; have p := a4; have l := a5; have X := a6; clear a4 a5 a6; refine q_s 47 (S := fun w' => cg7 w' a8 (.int .i64 B) (.int .i64 M) (.int .i64 E) (.int .i64 G) (.int .i64 I) (.int .i32 O) (.slice b8 D.length b3) (cg5_ w' b4 (.string a0) (.slice a9 J.length b0) (.slice b1 L.length b2) (.int .i64 y) (.slice b5 T.length b6))) (q_g7 l.out (q_g5_ p.out)) (fun q => ?_); refine with_tabW r6_instr.tab4 r6_instr.bits4 (fun b F => ?_)
 generalize wc.drew = D2 at p l X q ⊢
 refine qv_ 0 b ?_
 refine qv_ 1 b ?_
 refine qv_ 3 b ?_
 refine qt12_ 2 b F q ?_
 refine qt12_ 4 b F q ?_
 refine q_o 5 b (fun K hK => ?_)
 refine q_go #[.bool b7, .int .i64 E, .int .i64 y] Tryd.func65 rfl ?_
 with_reducible refine (r6_reg.calls b7 E y true _ f7.out).mono ?_
 rintro e w' ⟨rfl, ⟨nd, rfl⟩⟩
 refine ⟨_, rfl, ?_⟩
 refine q_nk hK.out (q_g7 l.out (q_g5_ p.out)) (fun q => ?_)
 clear hK K
 refine qv_ 6 b ?_
 refine qv_ 7 b ?_
 refine qv_ 8 b ?_
 refine qv_ 9 b ?_
 refine qv_ 11 b ?_
 refine qt12_ 10 b F q ?_
 refine qt12_ 12 b F q ?_
 refine q_o 13 b (fun K hK => ?_)
 refine q_go #[.bool c3, .int .i64 G, .int .i64 y] Tryd.func65 rfl ?_
 with_reducible refine (r6_reg.calls c3 G y true _ i5.out).mono ?_
 rintro e w' ⟨rfl, ⟨nd, rfl⟩⟩
 refine ⟨_, rfl, ?_⟩
 refine q_nk hK.out (q_g7 l.out (q_g5_ p.out)) (fun q => ?_)
 clear hK K
 refine qv_ 14 b ?_
 refine qv_ 15 b ?_
 refine qv_ 16 b ?_
 refine qv_ 17 b ?_
 refine qv_ 18 b ?_
 refine qv_ 20 b ?_
 refine qt12_ 19 b F q ?_
 refine qt12_ 21 b F q ?_
 refine q_o 22 b (fun K hK => ?_)
 refine q_go #[.bool c4, .int .i64 I, .int .i64 y] Tryd.func65 rfl ?_
 with_reducible refine (r6_reg.calls c4 I y false _ l4.out).mono ?_
 rintro e w' ⟨rfl, ⟨nd, rfl⟩⟩
 refine ⟨_, rfl, ?_⟩
 refine q_nk hK.out (q_g7 l.out (q_g5_ p.out)) (fun q => ?_)
 clear hK K
 refine qv_ 23 b ?_
 refine qv_ 24 b ?_
 refine qv_ 25 b ?_
 refine qu_ 26 b ?_
 refine qu_ 27 b ?_
 refine qu_ 28 b ?_
 refine qu_ 29 b ?_
 refine qu_ 30 b ?_
 refine qu_ 31 b ?_
 refine qu_ 32 b ?_
 refine qv_ 33 b ?_
 refine qv_ 34 b ?_
 refine qu_ 35 b ?_
 refine qu_ 36 b ?_
 refine qu_ 37 b ?_
 refine qu_ 38 b ?_
 refine qu_ 39 b ?_
 refine qu_ 40 b ?_
 refine qu_ 41 b ?_
 refine qu_ 42 b ?_
 refine qu_ 43 b ?_
 refine qu_ 44 b ?_
 refine qu_ 45 b ?_
 refine qv_ 46 b ?_
 refine done_ (done_of b.out (by kernel_rfl)) ?_
 try go_wp2
 go_meet
 case rel => exact ⟨_, (true), q_r, H', ⟨by have := e0.out; first | omega | exact Nat.le_refl _⟩, ⟨q_k p.out⟩, ⟨q_k l.out⟩, ⟨q_w2 X.out R.out a1.out⟩⟩}}
 {
 replace i6 := Bool.eq_false_iff.mpr i6; subst i6; rw [if_neg Bool.false_ne_true] at H; have H' := a_ H
 clear H; try go_wp2
 have a4 := a_ (blk_drew p.out); have a5 := a_ (blk_drew l.out); have a6 := a_ (below_drew1 X.out); clear p l X; have p := a4; have l := a5; have X := a6; clear a4 a5 a6; refine q_s 47 (S := fun w' => cg7 w' a8 (.int .i64 B) (.int .i64 M) (.int .i64 E) (.int .i64 G) (.int .i64 I) (.int .i32 O) (.slice b8 D.length b3) (cg5_ w' b4 (.string a0) (.slice a9 J.length b0) (.slice b1 L.length b2) (.int .i64 y) (.slice b5 T.length b6))) (q_g7 l.out (q_g5_ p.out)) (fun q => ?_); refine with_tabW r6_instr.tab4 r6_instr.bits4 (fun b F => ?_)
 generalize wc.drew = D3 at p l X q ⊢
 refine qv_ 0 b ?_
 refine qv_ 1 b ?_
 refine qv_ 3 b ?_
 refine qt12_ 2 b F q ?_
 refine qt12_ 4 b F q ?_
 refine q_o 5 b (fun K hK => ?_)
 refine q_go #[.bool b7, .int .i64 E, .int .i64 y] Tryd.func65 rfl ?_
 with_reducible refine (r6_reg.calls b7 E y true _ f7.out).mono ?_
 rintro e w' ⟨rfl, ⟨nd, rfl⟩⟩
 refine ⟨_, rfl, ?_⟩
 refine q_nk hK.out (q_g7 l.out (q_g5_ p.out)) (fun q => ?_)
 clear hK K
 refine qv_ 6 b ?_
 refine qv_ 7 b ?_
 refine qv_ 8 b ?_
 refine qv_ 9 b ?_
 refine qv_ 11 b ?_
 refine qt12_ 10 b F q ?_
 refine qt12_ 12 b F q ?_
 refine q_o 13 b (fun K hK => ?_)
 refine q_go #[.bool c3, .int .i64 G, .int .i64 y] Tryd.func65 rfl ?_
 with_reducible refine (r6_reg.calls c3 G y false _ i5.out).mono ?_
 rintro e w' ⟨rfl, ⟨nd, rfl⟩⟩
 refine ⟨_, rfl, ?_⟩
 refine q_nk hK.out (q_g7 l.out (q_g5_ p.out)) (fun q => ?_)
 clear hK K
 refine qv_ 14 b ?_
 refine qv_ 15 b ?_
 refine qv_ 16 b ?_
 refine qu_ 17 b ?_
 refine qu_ 18 b ?_
 refine qu_ 19 b ?_
 refine qu_ 20 b ?_
 refine qu_ 21 b ?_
 refine qu_ 22 b ?_
 refine qu_ 23 b ?_
 refine qv_ 24 b ?_
 refine qv_ 25 b ?_
 refine qu_ 26 b ?_
 refine qu_ 27 b ?_
 refine qu_ 28 b ?_
 refine qu_ 29 b ?_
 refine qu_ 30 b ?_
 refine qu_ 31 b ?_
 refine qu_ 32 b ?_
 refine qv_ 33 b ?_
 refine qv_ 34 b ?_
 refine qu_ 35 b ?_
 refine qu_ 36 b ?_
 refine qu_ 37 b ?_
 refine qu_ 38 b ?_
 refine qu_ 39 b ?_
 refine qu_ 40 b ?_
 refine qu_ 41 b ?_
 refine qu_ 42 b ?_
 refine qu_ 43 b ?_
 refine qu_ 44 b ?_
 refine qu_ 45 b ?_
 refine qv_ 46 b ?_
 refine done_ (done_of b.out (by kernel_rfl)) ?_
 try go_wp2
 go_meet
 case rel => exact ⟨_, (true), q_r, H', ⟨by have := e0.out; first | omega | exact Nat.le_refl _⟩, ⟨q_k p.out⟩, ⟨q_k l.out⟩, ⟨q_w2 X.out R.out a1.out⟩⟩}}
 {
 replace i4 := Bool.eq_false_iff.mpr i4; subst i4; rw [if_neg Bool.false_ne_true] at H; have H' := a_ H
 clear H; try go_wp2
 have a4 := a_ (blk_drew p.out); have a5 := a_ (blk_drew l.out); have a6 := a_ (below_drew1 X.out); clear p l X; have p := a4; have l := a5; have X := a6; clear a4 a5 a6; refine q_s 47 (S := fun w' => cg7 w' a8 (.int .i64 B) (.int .i64 M) (.int .i64 E) (.int .i64 G) (.int .i64 I) (.int .i32 O) (.slice b8 D.length b3) (cg5_ w' b4 (.string a0) (.slice a9 J.length b0) (.slice b1 L.length b2) (.int .i64 y) (.slice b5 T.length b6))) (q_g7 l.out (q_g5_ p.out)) (fun q => ?_); refine with_tabW r6_instr.tab4 r6_instr.bits4 (fun b F => ?_)
 generalize wc.drew = D4 at p l X q ⊢
 refine qv_ 0 b ?_
 refine qv_ 1 b ?_
 refine qv_ 3 b ?_
 refine qt12_ 2 b F q ?_
 refine qt12_ 4 b F q ?_
 refine q_o 5 b (fun K hK => ?_)
 refine q_go #[.bool b7, .int .i64 E, .int .i64 y] Tryd.func65 rfl ?_
 with_reducible refine (r6_reg.calls b7 E y false _ f7.out).mono ?_
 rintro e w' ⟨rfl, ⟨nd, rfl⟩⟩
 refine ⟨_, rfl, ?_⟩
 refine q_nk hK.out (q_g7 l.out (q_g5_ p.out)) (fun q => ?_)
 clear hK K
 refine qv_ 6 b ?_
 refine qv_ 7 b ?_
 refine qu_ 8 b ?_
 refine qu_ 9 b ?_
 refine qu_ 10 b ?_
 refine qu_ 11 b ?_
 refine qu_ 12 b ?_
 refine qu_ 13 b ?_
 refine qu_ 14 b ?_
 refine qv_ 15 b ?_
 refine qv_ 16 b ?_
 refine qu_ 17 b ?_
 refine qu_ 18 b ?_
 refine qu_ 19 b ?_
 refine qu_ 20 b ?_
 refine qu_ 21 b ?_
 refine qu_ 22 b ?_
 refine qu_ 23 b ?_
 refine qv_ 24 b ?_
 refine qv_ 25 b ?_
 refine qu_ 26 b ?_
 refine qu_ 27 b ?_
 refine qu_ 28 b ?_
 refine qu_ 29 b ?_
 refine qu_ 30 b ?_
 refine qu_ 31 b ?_
 refine qu_ 32 b ?_
 refine qv_ 33 b ?_
 refine qv_ 34 b ?_
 refine qu_ 35 b ?_
 refine qu_ 36 b ?_
 refine qu_ 37 b ?_
 refine qu_ 38 b ?_
 refine qu_ 39 b ?_
 refine qu_ 40 b ?_
 refine qu_ 41 b ?_
 refine qu_ 42 b ?_
 refine qu_ 43 b ?_
 refine qu_ 44 b ?_
 refine qu_ 45 b ?_
 refine qv_ 46 b ?_
 refine done_ (done_of b.out (by kernel_rfl)) ?_
 try go_wp2
 go_meet
 case rel => exact ⟨_, (true), q_r, H', ⟨by have := e0.out; first | omega | exact Nat.le_refl _⟩, ⟨q_k p.out⟩, ⟨q_k l.out⟩, ⟨q_w2 X.out R.out a1.out⟩⟩})
 case rest => (
 clear f6; obtain ⟨kq, c9, rfl, HA, k2, p, l, X⟩ := hcut; cases kq with
 | zero => exact absurd HA.out (by simp [r6_instr.j1])
 | succ k4 => (
 have H := HA.out; clear HA; simp only [r6_instr.j1] at H
 by_cases i9 : c9 = true
 {
 subst i9; rw [if_pos rfl] at H; obtain rfl := Option.some.inj H; go_wp2
 go_ret
 exact ⟨q_e, q_w2 X.out R.out a1.out⟩}
 {
 replace i9 := Bool.eq_false_iff.mpr i9; subst i9; rw [if_neg Bool.false_ne_true] at H; replace H := q_iBN H; rcases H with ⟨-, c34b0, c34b1, H⟩ | ⟨D5, c34b0, c34b1, H⟩
 {
 have H' := a_ H
 clear H; have A8 := V.out; have A9 := U.out; obtain ⟨f8, f9, g0, g1, g2, g3, g4, g5, g6, g7, g8, g9, i0, i1⟩ := q_cf7 l.out; go_wp2
 go_loopg [10] k4 (fun kq B1 w' => ∃ (z : Int), B1 = .int .i64 z ∧ Aside0 (r6_instr.l0 kq a2 z a0 J L y T B M E G I O D = some r) ∧ Aside0 (kq ≤ k4) ∧ Aside0 (w'.heap[b4]? = some (.cells #[.string a0, (.slice a9 J.length b0), (.slice b1 L.length b2), .int .i64 y, (.slice b5 T.length b6)] 26 (0, 0))) ∧ Aside0 (w'.heap[a8]? = some (.cells #[.int .i64 B, .int .i64 M, .int .i64 E, .int .i64 G, .int .i64 I, .int .i32 O, (.slice b8 D.length b3)] 71 (0, 0))) ∧ Aside0 (Below w.heap.size w w'))
 case atStart => exact ⟨(0), q_r, H', ⟨Nat.le_refl _⟩, ⟨q_k p.out⟩, ⟨q_k l.out⟩, ⟨q_w2 X.out R.out a1.out⟩⟩
 case round => (
 clear H'; clear c34b0 c34b1 f8 f9 g0 g1 g2 g3 g4 g5 g6 g7 g8 g9 i0 i1; obtain ⟨z, rfl, HA, p5, p, l, X⟩ := hrel; cases gk with
 | zero => exact absurd HA.out (by simp [r6_instr.l0])
 | succ k3 => (
 have H := HA.out; clear HA; simp only [r6_instr.l0] at H
 rcases q_ite H with ⟨c37b0, H⟩ | ⟨c37b0, H⟩
 {
 replace H := q_gD H; obtain ⟨-, c38b0, H⟩ := H; rcases q_ite H with ⟨c39b0, H⟩ | ⟨c39b0, H⟩
 {
 obtain rfl := Option.some.inj H; have B2 := V.out; have B3 := U.out; obtain ⟨p6, p7, p8, p9, q0, q1, q2, q3, q4, q5, q6, q7, q8, q9⟩ := q_cf7 l.out; try go_wp2
 have a4 := a_ (blk_drew p.out); have a5 := a_ (blk_drew l.out); have a6 := a_ (below_drew1 X.out); clear p l X; have p := a4; have l := a5; have X := a6; clear a4 a5 a6; have b9 : 0 ≤ (z : Int) := q_d
 have c0 : z < (D.length : Int) := q_d
 obtain ⟨a7, d9, N⟩ := Kd.at_int d0.out z b9 c0; have c1 := N; cases d9; replace N := q_kc X.out N; replace b9 := eq_true b9; replace c0 := eq_true c0; refine q_s 16 (S := fun w' => cg7 w' a8 (.int .i64 B) (.int .i64 M) (.int .i64 E) (.int .i64 G) (.int .i64 I) (.int .i32 O) (.slice (some a7) D.length b3) (w'.cell? (a7.add (z).toNat) = some (.int .i64 (rd D z)))) (q_g7 l.out ((q_kc X.out c1))) (fun q => ?_); refine with_tabW r6_instr.tab11 r6_instr.bits11 (fun b F => ?_)
 generalize wr.drew = D7 at p l X N q ⊢
 refine qv_ 0 b ?_
 refine qv_ 2 b ?_
 refine qt8_ 1 b F q ?_
 refine qv_ 3 b ?_
 refine qt8_ 4 b F q ?_
 refine qv_ 5 b ?_
 refine qv_ 6 b ?_
 refine qu_ 7 b ?_
 refine qu_ 8 b ?_
 refine qu_ 9 b ?_
 refine qu_ 10 b ?_
 refine qu_ 11 b ?_
 refine qu_ 12 b ?_
 refine qu_ 13 b ?_
 refine qu_ 14 b ?_
 refine qv_ 15 b ?_
 refine done_ (done_of b.out (by kernel_rfl)) ?_
 try go_wp2
 go_ret
 exact ⟨q_e, q_w2 X.out R.out a1.out⟩}
 {
 rcases q_ite H with ⟨c43b0, H⟩ | ⟨c43b0, H⟩
 {
 obtain rfl := Option.some.inj H; have B6 := V.out; have B7 := U.out; obtain ⟨r0, r1, r2, r3, r4, r5, r6, r7, r8, r9, s0, s1, s2, s3⟩ := q_cf7 l.out; try go_wp2
 have a4 := a_ (blk_drew p.out); have a5 := a_ (blk_drew l.out); have a6 := a_ (below_drew1 X.out); clear p l X; have p := a4; have l := a5; have X := a6; clear a4 a5 a6; have b9 : 0 ≤ (z : Int) := q_d
 have c0 : z < (D.length : Int) := q_d
 obtain ⟨a7, d9, N⟩ := Kd.at_int d0.out z b9 c0; have c1 := N; cases d9; replace N := q_kc X.out N; replace b9 := eq_true b9; replace c0 := eq_true c0; have d1 : 0 ≤ (z : Int) := q_d
 have d2 : z < (D.length : Int) := q_d
 obtain ⟨e1, i2, a3⟩ := Kd.at_int d0.out z d1 d2; have d3 := a3; obtain rfl : a7 = e1 := (by injection i2)
 replace a3 := q_kc X.out a3; replace d1 := eq_true d1; replace d2 := eq_true d2; refine q_s 16 (S := fun w' => cg7 w' a8 (.int .i64 B) (.int .i64 M) (.int .i64 E) (.int .i64 G) (.int .i64 I) (.int .i32 O) (.slice (some a7) D.length b3) (cg5 w' b4 (.string a0) (.slice a9 J.length b0) (.slice b1 L.length b2) (.int .i64 y) (.slice b5 T.length b6) (w'.cell? (a7.add (z).toNat) = some (.int .i64 (rd D z)) ∧ w'.cell? (a7.add (z).toNat) = some (.int .i64 (rd D z))))) (q_g7 l.out (q_g5 p.out ⟨(q_kc X.out c1), (q_kc X.out d3)⟩)) (fun q => ?_); refine with_tabW r6_instr.tab11 r6_instr.bits11 (fun b F => ?_)
 generalize wr.drew = D8 at p l X N a3 q ⊢
 refine qv_ 0 b ?_
 refine qv_ 2 b ?_
 refine qt14_ 1 b F q ?_
 refine qv_ 3 b ?_
 refine qt14_ 4 b F q ?_
 refine qv_ 5 b ?_
 refine qv_ 6 b ?_
 refine qv_ 7 b ?_
 refine qv_ 9 b ?_
 refine qv_ 12 b ?_
 refine qt14_ 8 b F q ?_
 refine qv_ 10 b ?_
 refine qt14_ 11 b F q ?_
 refine qt14_ 13 b F q ?_
 refine qv_ 14 b ?_
 refine qv_ 15 b ?_
 refine done_ (done_of b.out (by kernel_rfl)) ?_
 try go_wp2
 go_ret
 exact ⟨q_e, q_w2 X.out R.out a1.out⟩}
 {
 have H' := a_ H
 clear H; have C0 := V.out; have C1 := U.out; obtain ⟨s4, s5, s6, s7, s8, s9, t0, t1, t2, t3, t4, t5, t6, t7⟩ := q_cf7 l.out; try go_wp2
 have a4 := a_ (blk_drew p.out); have a5 := a_ (blk_drew l.out); have a6 := a_ (below_drew1 X.out); clear p l X; have p := a4; have l := a5; have X := a6; clear a4 a5 a6; have b9 : 0 ≤ (z : Int) := q_d
 have c0 : z < (D.length : Int) := q_d
 obtain ⟨a7, d9, N⟩ := Kd.at_int d0.out z b9 c0; have c1 := N; cases d9; replace N := q_kc X.out N; replace b9 := eq_true b9; replace c0 := eq_true c0; have d1 : 0 ≤ (z : Int) := q_d
 have d2 : z < (D.length : Int) := q_d
 obtain ⟨e1, i2, a3⟩ := Kd.at_int d0.out z d1 d2; have d3 := a3; obtain rfl : a7 = e1 := (by injection i2)
 replace a3 := q_kc X.out a3; replace d1 := eq_true d1; replace d2 := eq_true d2; refine q_s 16 (S := fun w' => cg7 w' a8 (.int .i64 B) (.int .i64 M) (.int .i64 E) (.int .i64 G) (.int .i64 I) (.int .i32 O) (.slice (some a7) D.length b3) (cg5 w' b4 (.string a0) (.slice a9 J.length b0) (.slice b1 L.length b2) (.int .i64 y) (.slice b5 T.length b6) (w'.cell? (a7.add (z).toNat) = some (.int .i64 (rd D z)) ∧ w'.cell? (a7.add (z).toNat) = some (.int .i64 (rd D z))))) (q_g7 l.out (q_g5 p.out ⟨(q_kc X.out c1), (q_kc X.out d3)⟩)) (fun q => ?_); refine with_tabW r6_instr.tab11 r6_instr.bits11 (fun b F => ?_)
 generalize wr.drew = D9 at p l X N a3 q ⊢
 refine qv_ 0 b ?_
 refine qv_ 2 b ?_
 refine qt14_ 1 b F q ?_
 refine qv_ 3 b ?_
 refine qt14_ 4 b F q ?_
 refine qv_ 5 b ?_
 refine qv_ 6 b ?_
 refine qv_ 7 b ?_
 refine qv_ 9 b ?_
 refine qv_ 12 b ?_
 refine qt14_ 8 b F q ?_
 refine qv_ 10 b ?_
 refine qt14_ 11 b F q ?_
 refine qt14_ 13 b F q ?_
 refine qv_ 14 b ?_
 refine qv_ 15 b ?_
 refine done_ (done_of b.out (by kernel_rfl)) ?_
 try go_wp2
 go_roundg k3
 case measure => have := e0.out; have := k2.out; have := p5.out; omega
 case rel => exact ⟨(wrap64 (z + 1)), q_r, H', ⟨by have := e0.out; have := k2.out; have := p5.out; omega⟩, ⟨q_k p.out⟩, ⟨q_k l.out⟩, ⟨q_w2 X.out R.out a1.out⟩⟩}}}
 {
 obtain rfl := Option.some.inj H; have C2 := V.out; have C3 := U.out; obtain ⟨t8, t9, v0, v1, v2, v3, v4, v5, v6, v7, v8, v9, w2, w3⟩ := q_cf7 l.out; go_wp2
 go_ret
 exact ⟨q_e, q_w2 X.out R.out a1.out⟩}))}
 {
 obtain rfl := Option.some.inj H; have C4 := V.out; have C5 := U.out; obtain ⟨w4, w7, w8, w9, x0, x1, x2, x3, x4, x5, x6, x7, x8, x9⟩ := q_cf7 l.out; go_wp2
 go_ret
 exact ⟨q_e, q_w2 X.out R.out a1.out⟩}}))}))
end Go.Proofs.YtefhpdcafdhcaaaDoor.A
end
