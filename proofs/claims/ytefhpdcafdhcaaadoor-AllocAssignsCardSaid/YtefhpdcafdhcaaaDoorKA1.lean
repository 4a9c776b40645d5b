/- Texts of this claim, cut down to what its theorem uses and laid end to end (wip/shake.py). -/
import Derived.Test.YtefhpdcafdhcaaaDoorKA0
set_option maxHeartbeats 16000000
set_option maxRecDepth 100000
set_option exponentiation.threshold 3000
section
namespace Go.Proofs.YtefhpdcafdhcaaaDoor.A
open Go.RowKit Go.Proofs.YtefhpdcafdhcaaaDoorW.PrintWords Go.Proofs.YtefhpdcafdhcaaaDoorW.PrintLast Go.Proofs.YtefhpdcafdhcaaaDoorW.PrintMore
attribute [local go_sem] max2_int max_two
set_option linter.unusedVariables false
set_option linter.unusedSimpArgs false
def errW : Option Int → Value
 | none => .nilIface
 | some c => .iface 0 (.int .i64 c)
theorem errW_none : errW none = .nilIface := rfl
theorem errW_some (c : Int) : errW (some c) = .iface 0 (.int .i64 c) := rfl
theorem info3 : (Tryd.prog.info? 3).map (fun i => (i.zero, i.size, i.bytes)) = some (some (.int .i64 0), 1, 8) := by kernel_rfl
theorem info4 : (Tryd.prog.info? 4).map (fun i => (i.zero, i.size, i.bytes)) = some (some (.bool false), 1, 1) := by kernel_rfl
theorem info9 : (Tryd.prog.info? 9).map (fun i => (i.zero, i.size, i.bytes)) = some (some (.string ⟨#[]⟩), 1, 16) := by kernel_rfl
theorem info27 : (Tryd.prog.info? 27).map (fun i => (i.zero, i.size, i.bytes)) = some (some (.slice none 0 0), 1, 24) := by kernel_rfl
theorem info37 : (Tryd.prog.info? 37).map (fun i => (i.zero, i.size, i.bytes)) = some (some (.slice none 0 0), 1, 24) := by kernel_rfl
theorem info71 : (Tryd.prog.info? 71).map (fun i => (i.zero, i.size, i.bytes)) = some (some (.agg #[(.int .i64 0), (.int .i64 0), (.int .i64 0), (.int .i64 0), (.int .i64 0), (.int .i32 0), (.slice none 0 0)]), 7, 72) := by kernel_rfl
def rd_L2 (xs : List (List Int)) (i : Int) : (List Int) := xs.getD i.toNat ([] : List Int)
theorem at_L2 {w : World} {A : Option Addr} {n : Nat} {xs : List (List Int)} (h : Kd.C (Kd.slice 3 (Kd.int .i64)) w A n xs) (i : Int) (E : 0 ≤ i) (h1 : i < n) : ∃ ad b l, A = some ad ∧ w.cell? (ad.add i.toNat) = some (.slice b (rd_L2 xs i).length l) ∧ (rd_L2 xs i).length ≤ l ∧ (Kd.int .i64).C w b (rd_L2 xs i).length (rd_L2 xs i) := by
 obtain ⟨ad, c, e, _, hK, y⟩ := Kd.C_get h ([] : List Int) i E h1; have hc : ∀ j u, c[j]? = some u → w.cell? (ad.add (i.toNat * 1 + j)) = some u := y
 obtain ⟨b, l, rfl, l0, F⟩ := hK; exact ⟨ad, b, l, e, by have hq := hc 0 _ rfl; rwa [Nat.mul_one, Nat.add_zero] at hq, l0, F⟩
theorem b_L2 {w W : World} {A : Option Addr} {n : Nat} {xs : List (List Int)} (h : Kd.C (Kd.slice 3 (Kd.int .i64)) w A n xs) (hB : Below w.heap.size w W) (i : Int) (p : 0 ≤ i := by exact q_d) (q : i < n := by exact q_d) : ∃ ad b l, A = some ad ∧ W.cell? (ad.add i.toNat) = some (.slice b (rd_L2 xs i).length l) ∧ (rd_L2 xs i).length ≤ l ∧ (Kd.int .i64).C w b (rd_L2 xs i).length (rd_L2 xs i) ∧ (0 ≤ i) = True ∧ (i < n) = True := by
 obtain ⟨ad, b, l, e_, z, B, D⟩ := at_L2 h i p q; exact ⟨ad, b, l, e_, q_kc hB z, B, D, eq_true p, eq_true q⟩
abbrev S71 := FlowM.Ins
def z71 : S71 := ⟨(0 : Int), (0 : Int), (0 : Int), (0 : Int), (0 : Int), (0 : Int), ([] : List Int)⟩
def k71 : Kd S71 := Kd.iso (Kd.pair (Kd.int .i64) (Kd.pair (Kd.int .i64) (Kd.pair (Kd.int .i64) (Kd.pair (Kd.int .i64) (Kd.pair (Kd.int .i64) (Kd.pair (Kd.int .i32) (Kd.slice 3 (Kd.int .i64)))))))) (fun x : S71 => (x.f0, x.f1, x.f2, x.f3, x.f4, x.f5, x.f6))
theorem k71_open {w : World} {x : S71} {cs : List Value} (h : k71.K w x cs) : ∃ b l, cs = [.int .i64 x.f0, .int .i64 x.f1, .int .i64 x.f2, .int .i64 x.f3, .int .i64 x.f4, .int .i32 x.f5, .slice b x.f6.length l] ∧ x.f6.length ≤ l ∧ (Kd.int .i64).C w b x.f6.length x.f6 := by
 obtain ⟨_, _, rfl, rfl, ⟨_, _, rfl, rfl, ⟨_, _, rfl, rfl, ⟨_, _, rfl, rfl, ⟨_, _, rfl, rfl, ⟨_, _, rfl, rfl, ⟨b, l, rfl, p, q⟩⟩⟩⟩⟩⟩⟩ := h; exact ⟨b, l, rfl, p, q⟩
theorem k71_mk (w : World) (x : S71) {b : Option Addr} {l : Nat} (p : x.f6.length ≤ l) (q : (Kd.int .i64).C w b x.f6.length x.f6) : k71.K w x [.int .i64 x.f0, .int .i64 x.f1, .int .i64 x.f2, .int .i64 x.f3, .int .i64 x.f4, .int .i32 x.f5, .slice b x.f6.length l] := ⟨[.int .i64 x.f0], [.int .i64 x.f1, .int .i64 x.f2, .int .i64 x.f3, .int .i64 x.f4, .int .i32 x.f5, .slice b x.f6.length l], rfl, rfl, ⟨[.int .i64 x.f1], [.int .i64 x.f2, .int .i64 x.f3, .int .i64 x.f4, .int .i32 x.f5, .slice b x.f6.length l], rfl, rfl, ⟨[.int .i64 x.f2], [.int .i64 x.f3, .int .i64 x.f4, .int .i32 x.f5, .slice b x.f6.length l], rfl, rfl, ⟨[.int .i64 x.f3], [.int .i64 x.f4, .int .i32 x.f5, .slice b x.f6.length l], rfl, rfl, ⟨[.int .i64 x.f4], [.int .i32 x.f5, .slice b x.f6.length l], rfl, rfl, ⟨[.int .i32 x.f5], [.slice b x.f6.length l], rfl, rfl, ⟨b, l, rfl, p, q⟩⟩⟩⟩⟩⟩⟩
theorem k71_mkF (W : World) (ok : Nat → Prop) (x : S71) {b : Option Addr} {l : Nat} (q : x.f6.length ≤ l) (y : Kd.F (Kd.int .i64) W ok b x.f6.length x.f6) : Kd.FK k71 W ok x [.int .i64 x.f0, .int .i64 x.f1, .int .i64 x.f2, .int .i64 x.f3, .int .i64 x.f4, .int .i32 x.f5, .slice b x.f6.length l] := fun p hW => k71_mk p x q (y p hW)
def rd_T71 (xs : List S71) (i : Int) : S71 := xs.getD i.toNat z71
theorem at_T71 {w : World} {A : Option Addr} {n : Nat} {xs : List S71} (h : Kd.C k71 w A n xs) (i : Int) (M : 0 ≤ i) (h1 : i < n) : ∃ ad b l, A = some ad ∧ w.cell? (ad.add (i.toNat * 7)) = some (.int .i64 (rd_T71 xs i).f0) ∧ w.cell? ⟨(ad.add (i.toNat * 7)).block, (ad.add (i.toNat * 7)).off + 1, none⟩ = some (.int .i64 (rd_T71 xs i).f1) ∧ w.cell? ⟨(ad.add (i.toNat * 7)).block, (ad.add (i.toNat * 7)).off + 2, none⟩ = some (.int .i64 (rd_T71 xs i).f2) ∧ w.cell? ⟨(ad.add (i.toNat * 7)).block, (ad.add (i.toNat * 7)).off + 3, none⟩ = some (.int .i64 (rd_T71 xs i).f3) ∧ w.cell? ⟨(ad.add (i.toNat * 7)).block, (ad.add (i.toNat * 7)).off + 4, none⟩ = some (.int .i64 (rd_T71 xs i).f4) ∧ w.cell? ⟨(ad.add (i.toNat * 7)).block, (ad.add (i.toNat * 7)).off + 5, none⟩ = some (.int .i32 (rd_T71 xs i).f5) ∧ w.cell? ⟨(ad.add (i.toNat * 7)).block, (ad.add (i.toNat * 7)).off + 6, none⟩ = some (.slice b (rd_T71 xs i).f6.length l) ∧ (rd_T71 xs i).f6.length ≤ l ∧ (Kd.int .i64).C w b (rd_T71 xs i).f6.length (rd_T71 xs i).f6 := by
 obtain ⟨ad, c, e, _, hK, y⟩ := Kd.C_get h z71 i M h1; have hc : ∀ j u, c[j]? = some u → w.cell? (ad.add (i.toNat * 7 + j)) = some u := y
 obtain ⟨b, l, rfl, N, O⟩ := k71_open hK; exact ⟨ad, b, l, e, hc 0 _ rfl, by rw [← add_field _ _ 1 (by omega)]; exact hc 1 _ rfl, by rw [← add_field _ _ 2 (by omega)]; exact hc 2 _ rfl, by rw [← add_field _ _ 3 (by omega)]; exact hc 3 _ rfl, by rw [← add_field _ _ 4 (by omega)]; exact hc 4 _ rfl, by rw [← add_field _ _ 5 (by omega)]; exact hc 5 _ rfl, by rw [← add_field _ _ 6 (by omega)]; exact hc 6 _ rfl, N, O⟩
theorem b_T71 {w W : World} {A : Option Addr} {n : Nat} {xs : List S71} (h : Kd.C k71 w A n xs) (hB : Below w.heap.size w W) (i : Int) (p : 0 ≤ i := by exact q_d) (q : i < n := by exact q_d) : ∃ ad b l, A = some ad ∧ W.cell? (ad.add (i.toNat * 7)) = some (.int .i64 (rd_T71 xs i).f0) ∧ W.cell? ⟨(ad.add (i.toNat * 7)).block, (ad.add (i.toNat * 7)).off + 1, none⟩ = some (.int .i64 (rd_T71 xs i).f1) ∧ W.cell? ⟨(ad.add (i.toNat * 7)).block, (ad.add (i.toNat * 7)).off + 2, none⟩ = some (.int .i64 (rd_T71 xs i).f2) ∧ W.cell? ⟨(ad.add (i.toNat * 7)).block, (ad.add (i.toNat * 7)).off + 3, none⟩ = some (.int .i64 (rd_T71 xs i).f3) ∧ W.cell? ⟨(ad.add (i.toNat * 7)).block, (ad.add (i.toNat * 7)).off + 4, none⟩ = some (.int .i64 (rd_T71 xs i).f4) ∧ W.cell? ⟨(ad.add (i.toNat * 7)).block, (ad.add (i.toNat * 7)).off + 5, none⟩ = some (.int .i32 (rd_T71 xs i).f5) ∧ W.cell? ⟨(ad.add (i.toNat * 7)).block, (ad.add (i.toNat * 7)).off + 6, none⟩ = some (.slice b (rd_T71 xs i).f6.length l) ∧ (rd_T71 xs i).f6.length ≤ l ∧ (Kd.int .i64).C w b (rd_T71 xs i).f6.length (rd_T71 xs i).f6 ∧ (0 ≤ i) = True ∧ (i < n) = True := by
 obtain ⟨ad, b, l, e_, z, B, D, E, F, G, I, J, L⟩ := at_T71 h i p q; exact ⟨ad, b, l, e_, q_kc hB z, q_kc hB B, q_kc hB D, q_kc hB E, q_kc hB F, q_kc hB G, q_kc hB I, J, L, eq_true p, eq_true q⟩
abbrev S69 := FlowM.Nd
def z69 : S69 := ⟨([] : List S71), (0 : Int), (0 : Int), (0 : Int), (0 : Int)⟩
def k69 : Kd S69 := Kd.iso (Kd.pair (Kd.slice 71 k71) (Kd.pair (Kd.int .i64) (Kd.pair (Kd.int .i64) (Kd.pair (Kd.int .i64) (Kd.int .i64))))) (fun x : S69 => (x.f0, x.f1, x.f2, x.f3, x.f4))
theorem k69_open {w : World} {x : S69} {cs : List Value} (h : k69.K w x cs) : ∃ b l, cs = [.slice b x.f0.length l, .int .i64 x.f1, .int .i64 x.f2, .int .i64 x.f3, .int .i64 x.f4] ∧ x.f0.length ≤ l ∧ k71.C w b x.f0.length x.f0 := by
 obtain ⟨_, _, rfl, ⟨b, l, rfl, l0, p⟩, ⟨_, _, rfl, rfl, ⟨_, _, rfl, rfl, ⟨_, _, rfl, rfl, rfl⟩⟩⟩⟩ := h; exact ⟨b, l, rfl, l0, p⟩
theorem k69_mk (w : World) (x : S69) {b : Option Addr} {l : Nat} (l0 : x.f0.length ≤ l) (p : k71.C w b x.f0.length x.f0) : k69.K w x [.slice b x.f0.length l, .int .i64 x.f1, .int .i64 x.f2, .int .i64 x.f3, .int .i64 x.f4] := ⟨[.slice b x.f0.length l], [.int .i64 x.f1, .int .i64 x.f2, .int .i64 x.f3, .int .i64 x.f4], rfl, ⟨b, l, rfl, l0, p⟩, ⟨[.int .i64 x.f1], [.int .i64 x.f2, .int .i64 x.f3, .int .i64 x.f4], rfl, rfl, ⟨[.int .i64 x.f2], [.int .i64 x.f3, .int .i64 x.f4], rfl, rfl, ⟨[.int .i64 x.f3], [.int .i64 x.f4], rfl, rfl, rfl⟩⟩⟩⟩
theorem k69_mkF (W : World) (ok : Nat → Prop) (x : S69) {b : Option Addr} {l : Nat} (l0 : x.f0.length ≤ l) (q : Kd.F k71 W ok b x.f0.length x.f0) : Kd.FK k69 W ok x [.slice b x.f0.length l, .int .i64 x.f1, .int .i64 x.f2, .int .i64 x.f3, .int .i64 x.f4] := fun p hW => k69_mk p x l0 (q p hW)
def rd_T69 (xs : List S69) (i : Int) : S69 := xs.getD i.toNat z69
theorem at_T69 {w : World} {A : Option Addr} {n : Nat} {xs : List S69} (h : Kd.C k69 w A n xs) (i : Int) (J : 0 ≤ i) (h1 : i < n) : ∃ ad b l, A = some ad ∧ w.cell? (ad.add (i.toNat * 5)) = some (.slice b (rd_T69 xs i).f0.length l) ∧ w.cell? ⟨(ad.add (i.toNat * 5)).block, (ad.add (i.toNat * 5)).off + 1, none⟩ = some (.int .i64 (rd_T69 xs i).f1) ∧ w.cell? ⟨(ad.add (i.toNat * 5)).block, (ad.add (i.toNat * 5)).off + 2, none⟩ = some (.int .i64 (rd_T69 xs i).f2) ∧ w.cell? ⟨(ad.add (i.toNat * 5)).block, (ad.add (i.toNat * 5)).off + 3, none⟩ = some (.int .i64 (rd_T69 xs i).f3) ∧ w.cell? ⟨(ad.add (i.toNat * 5)).block, (ad.add (i.toNat * 5)).off + 4, none⟩ = some (.int .i64 (rd_T69 xs i).f4) ∧ (rd_T69 xs i).f0.length ≤ l ∧ k71.C w b (rd_T69 xs i).f0.length (rd_T69 xs i).f0 := by
 obtain ⟨ad, c, e, _, hK, y⟩ := Kd.C_get h z69 i J h1; have hc : ∀ j u, c[j]? = some u → w.cell? (ad.add (i.toNat * 5 + j)) = some u := y
 obtain ⟨b, l, rfl, l0, L⟩ := k69_open hK; exact ⟨ad, b, l, e, hc 0 _ rfl, by rw [← add_field _ _ 1 (by omega)]; exact hc 1 _ rfl, by rw [← add_field _ _ 2 (by omega)]; exact hc 2 _ rfl, by rw [← add_field _ _ 3 (by omega)]; exact hc 3 _ rfl, by rw [← add_field _ _ 4 (by omega)]; exact hc 4 _ rfl, l0, L⟩
theorem b_T69 {w W : World} {A : Option Addr} {n : Nat} {xs : List S69} (h : Kd.C k69 w A n xs) (hB : Below w.heap.size w W) (i : Int) (p : 0 ≤ i := by exact q_d) (q : i < n := by exact q_d) : ∃ ad b l, A = some ad ∧ W.cell? (ad.add (i.toNat * 5)) = some (.slice b (rd_T69 xs i).f0.length l) ∧ W.cell? ⟨(ad.add (i.toNat * 5)).block, (ad.add (i.toNat * 5)).off + 1, none⟩ = some (.int .i64 (rd_T69 xs i).f1) ∧ W.cell? ⟨(ad.add (i.toNat * 5)).block, (ad.add (i.toNat * 5)).off + 2, none⟩ = some (.int .i64 (rd_T69 xs i).f2) ∧ W.cell? ⟨(ad.add (i.toNat * 5)).block, (ad.add (i.toNat * 5)).off + 3, none⟩ = some (.int .i64 (rd_T69 xs i).f3) ∧ W.cell? ⟨(ad.add (i.toNat * 5)).block, (ad.add (i.toNat * 5)).off + 4, none⟩ = some (.int .i64 (rd_T69 xs i).f4) ∧ (rd_T69 xs i).f0.length ≤ l ∧ k71.C w b (rd_T69 xs i).f0.length (rd_T69 xs i).f0 ∧ (0 ≤ i) = True ∧ (i < n) = True := by
 obtain ⟨ad, b, l, e_, z, B, D, E, F, G, I⟩ := at_T69 h i p q; exact ⟨ad, b, l, e_, q_kc hB z, q_kc hB B, q_kc hB D, q_kc hB E, q_kc hB F, G, I, eq_true p, eq_true q⟩
abbrev S83 := FlowM.Par
def z83 : S83 := ⟨(⟨#[]⟩ : ByteArray), false⟩
def k83 : Kd S83 := Kd.iso (Kd.pair Kd.string Kd.bool) (fun x : S83 => (x.f0, x.f1))
theorem k83_open {w : World} {x : S83} {cs : List Value} (h : k83.K w x cs) : cs = [.string x.f0, .bool x.f1] := by
 obtain ⟨_, _, rfl, rfl, rfl⟩ := h; exact rfl
theorem k83_mkM (w : World) (base : Nat) (ok : Nat → Prop) (x : S83)  : k83.M w base ok x [.string x.f0, .bool x.f1] := ⟨[.string x.f0], [.bool x.f1], rfl, rfl, rfl⟩
def rd_T83 (xs : List S83) (i : Int) : S83 := xs.getD i.toNat z83
theorem at_T83 {w : World} {A : Option Addr} {n : Nat} {xs : List S83} (h : Kd.C k83 w A n xs) (i : Int) (z : 0 ≤ i) (h1 : i < n) : ∃ ad , A = some ad ∧ w.cell? (ad.add (i.toNat * 2)) = some (.string (rd_T83 xs i).f0) ∧ w.cell? ⟨(ad.add (i.toNat * 2)).block, (ad.add (i.toNat * 2)).off + 1, none⟩ = some (.bool (rd_T83 xs i).f1) := by
 obtain ⟨ad, c, e, _, hK, b⟩ := Kd.C_get h z83 i z h1; have hc : ∀ j u, c[j]? = some u → w.cell? (ad.add (i.toNat * 2 + j)) = some u := b
 obtain rfl := k83_open hK; exact ⟨ad, e, hc 0 _ rfl, by rw [← add_field _ _ 1 (by omega)]; exact hc 1 _ rfl⟩
theorem b_T83 {w W : World} {A : Option Addr} {n : Nat} {xs : List S83} (h : Kd.C k83 w A n xs) (hB : Below w.heap.size w W) (i : Int) (p : 0 ≤ i := by exact q_d) (q : i < n := by exact q_d) : ∃ ad, A = some ad ∧ W.cell? (ad.add (i.toNat * 2)) = some (.string (rd_T83 xs i).f0) ∧ W.cell? ⟨(ad.add (i.toNat * 2)).block, (ad.add (i.toNat * 2)).off + 1, none⟩ = some (.bool (rd_T83 xs i).f1) ∧ (0 ≤ i) = True ∧ (i < n) = True := by
 obtain ⟨ad, e_, l, y⟩ := at_T83 h i p q; exact ⟨ad, e_, q_kc hB l, q_kc hB y, eq_true p, eq_true q⟩
abbrev S85 := FlowM.Arr
def z85 : S85 := ⟨(⟨#[]⟩ : ByteArray), (0 : Int)⟩
def k85 : Kd S85 := Kd.iso (Kd.pair Kd.string (Kd.int .i64)) (fun x : S85 => (x.f0, x.f1))
abbrev q5 (w : World) (a : Option Addr) (b : Nat) (l : List S83) (a' : Option Addr) (b' : Nat) (l' : List S85) (a'' : Option Addr) (b'' : Nat) (l'' : List S69) : Prop := Kd.C k83 w a l.length l ∧ l.length ≤ b ∧ Kd.C k85 w a' l'.length l' ∧ l'.length ≤ b' ∧ Kd.C k69 w a'' l''.length l'' ∧ l''.length ≤ b''
theorem q_O {w : World} {a : Option Addr} {b : Nat} {l : List S83} {a' : Option Addr} {b' : Nat} {l' : List S85} {a'' : Option Addr} {b'' : Nat} {l'' : List S69} (h : q5 w a b l a' b' l' a'' b'' l'') : Aside0 (Kd.C k83 w a l.length l) ∧ Aside0 (l.length ≤ b) ∧ Aside0 (Kd.C k85 w a' l'.length l') ∧ Aside0 (l'.length ≤ b') ∧ Aside0 (Kd.C k69 w a'' l''.length l'') ∧ Aside0 (l''.length ≤ b'') := ⟨⟨h.1⟩, ⟨h.2.1⟩, ⟨h.2.2.1⟩, ⟨h.2.2.2.1⟩, ⟨h.2.2.2.2.1⟩, ⟨h.2.2.2.2.2⟩⟩
theorem q_G {w W : World} {a : Option Addr} {b : Nat} {l : List S83} {a' : Option Addr} {b' : Nat} {l' : List S85} {a'' : Option Addr} {b'' : Nat} {l'' : List S69} (h : q5 w a b l a' b' l' a'' b'' l'') (B : Below w.heap.size w W) : q5 W a b l a' b' l' a'' b'' l'' := ⟨Kd.C_below h.1 B, h.2.1, Kd.C_below h.2.2.1 B, h.2.2.2.1, Kd.C_below h.2.2.2.2.1 B, h.2.2.2.2.2⟩
theorem q_F {w W W' : World} {a : Option Addr} {b : Nat} {l : List S83} {a' : Option Addr} {b' : Nat} {l' : List S85} {a'' : Option Addr} {b'' : Nat} {l'' : List S69} (h : q5 w a b l a' b' l' a'' b'' l'') (B : Below w.heap.size w W) (t : q5 W a b l a' b' l' a'' b'' l'' → q5 W' a b l a' b' l' a'' b'' l'' := by (intro ⟨h1_, h2_, h3_, h4_, h5_, h6_⟩; exact ⟨q_C h1_, h2_, q_C h3_, h4_, q_C h5_, h6_⟩)) : q5 W' a b l a' b' l' a'' b'' l'' := t (q_G h B)
theorem k85_open {w : World} {x : S85} {cs : List Value} (h : k85.K w x cs) : cs = [.string x.f0, .int .i64 x.f1] := by
 obtain ⟨_, _, rfl, rfl, rfl⟩ := h; exact rfl
def rd_T85 (xs : List S85) (i : Int) : S85 := xs.getD i.toNat z85
theorem at_T85 {w : World} {A : Option Addr} {n : Nat} {xs : List S85} (h : Kd.C k85 w A n xs) (i : Int) (z : 0 ≤ i) (h1 : i < n) : ∃ ad , A = some ad ∧ w.cell? (ad.add (i.toNat * 2)) = some (.string (rd_T85 xs i).f0) ∧ w.cell? ⟨(ad.add (i.toNat * 2)).block, (ad.add (i.toNat * 2)).off + 1, none⟩ = some (.int .i64 (rd_T85 xs i).f1) := by
 obtain ⟨ad, c, e, _, hK, b⟩ := Kd.C_get h z85 i z h1; have hc : ∀ j u, c[j]? = some u → w.cell? (ad.add (i.toNat * 2 + j)) = some u := b
 obtain rfl := k85_open hK; exact ⟨ad, e, hc 0 _ rfl, by rw [← add_field _ _ 1 (by omega)]; exact hc 1 _ rfl⟩
theorem b_T85 {w W : World} {A : Option Addr} {n : Nat} {xs : List S85} (h : Kd.C k85 w A n xs) (hB : Below w.heap.size w W) (i : Int) (p : 0 ≤ i := by exact q_d) (q : i < n := by exact q_d) : ∃ ad, A = some ad ∧ W.cell? (ad.add (i.toNat * 2)) = some (.string (rd_T85 xs i).f0) ∧ W.cell? ⟨(ad.add (i.toNat * 2)).block, (ad.add (i.toNat * 2)).off + 1, none⟩ = some (.int .i64 (rd_T85 xs i).f1) ∧ (0 ≤ i) = True ∧ (i < n) = True := by
 obtain ⟨ad, e_, l, y⟩ := at_T85 h i p q; exact ⟨ad, e_, q_kc hB l, q_kc hB y, eq_true p, eq_true q⟩
def rd_L10 (xs : List (List Bool)) (i : Int) : (List Bool) := xs.getD i.toNat ([] : List Bool)
theorem at_L10 {w : World} {A : Option Addr} {n : Nat} {xs : List (List Bool)} (h : Kd.C (Kd.slice 4 Kd.bool) w A n xs) (i : Int) (E : 0 ≤ i) (h1 : i < n) : ∃ ad b l, A = some ad ∧ w.cell? (ad.add i.toNat) = some (.slice b (rd_L10 xs i).length l) ∧ (rd_L10 xs i).length ≤ l ∧ Kd.bool.C w b (rd_L10 xs i).length (rd_L10 xs i) := by
 obtain ⟨ad, c, e, _, hK, y⟩ := Kd.C_get h ([] : List Bool) i E h1; have hc : ∀ j u, c[j]? = some u → w.cell? (ad.add (i.toNat * 1 + j)) = some u := y
 obtain ⟨b, l, rfl, l0, F⟩ := hK; exact ⟨ad, b, l, e, by have hq := hc 0 _ rfl; rwa [Nat.mul_one, Nat.add_zero] at hq, l0, F⟩
theorem b_L10 {w W : World} {A : Option Addr} {n : Nat} {xs : List (List Bool)} (h : Kd.C (Kd.slice 4 Kd.bool) w A n xs) (hB : Below w.heap.size w W) (i : Int) (p : 0 ≤ i := by exact q_d) (q : i < n := by exact q_d) : ∃ ad b l, A = some ad ∧ W.cell? (ad.add i.toNat) = some (.slice b (rd_L10 xs i).length l) ∧ (rd_L10 xs i).length ≤ l ∧ Kd.bool.C w b (rd_L10 xs i).length (rd_L10 xs i) ∧ (0 ≤ i) = True ∧ (i < n) = True := by
 obtain ⟨ad, b, l, e_, z, B, D⟩ := at_L10 h i p q; exact ⟨ad, b, l, e_, q_kc hB z, B, D, eq_true p, eq_true q⟩
def r11_Many.l0 : Nat → List Bool → Int → Int → Option (Int)
 | 0, _, _, _ => none
 | k + 1, l, p, b => if b < (l.length : Int) then (if 0 ≤ b then (if rdOf false l b = true then (r11_Many.l0 k l (wrap64 (p + 1)) (wrap64 (b + 1))) else (r11_Many.l0 k l p (wrap64 (b + 1)))) else (none)) else (some p)
def r11_Many.f (k : Nat) (l0 : List Bool) : Option (Int) := r11_Many.l0 k l0 0 0
theorem r11_Many.calls {k : Nat} {S : Option Addr} {T : Nat} {l0 : List Bool} {r : Int} {w : World} (I : Kd.C Kd.bool w S l0.length l0) (J : l0.length ≤ T) (h : r11_Many.f k l0 = some r) :
  Calls Tryd.prog 14 #[.slice S l0.length T] w fun e w' => e = .returned (.int .i64 r) ∧ Drawn0 w w' := by
 have O := a_ I; have V := a_ J; clear I J; have H : (r11_Many.l0 k l0 0 0) = some r := h
 clear h; have G := a_ H
 clear H; go_enter Tryd.func14, Tryd.ntmps14
 go_wp2
 go_loopg [3, 4] k (fun kq L M w' => ∃ (l : Int) (b : Int), L = .int .i64 l ∧ M = .int .i64 b ∧ Aside0 (r11_Many.l0 kq l0 l b = some r) ∧ Aside0 (kq ≤ k) ∧ Drawn0 w w')
 case atStart => exact ⟨(0), (0), q_r, q_r, G, ⟨Nat.le_refl _⟩, by repeat (first | exact Drawn0.refl _ | apply Drawn0.step)⟩
 case round => (
 clear G; obtain ⟨l, b, rfl, rfl, HA, p, ⟨U, rfl⟩⟩ := hrel; cases gk with
 | zero => exact absurd HA.out (by simp [r11_Many.l0])
 | succ y => (
 have H := HA.out; clear HA; simp only [r11_Many.l0] at H
 rcases q_ite H with ⟨c2b0, H⟩ | ⟨c2b0, H⟩
 {
 replace H := q_gD H; obtain ⟨-, c3b0, H⟩ := H; obtain ⟨z, q⟩ : ∃ b_ : Bool, b_ = (rdOf false l0 b) := ⟨_, rfl⟩; replace H : (if z = true then (r11_Many.l0 y l0 (wrap64 (l + 1)) (wrap64 (b + 1))) else (r11_Many.l0 y l0 l (wrap64 (b + 1)))) = some r := by rw [← q] at H; exact H
 have F := a_ q; clear q; by_cases c5 : z = true
 focus (
 subst c5; rw [if_pos rfl] at H; have G := a_ H)
 rotate_left
 focus (
 replace c5 := q_bf c5; subst c5; replace H := q_if H; have G := a_ H)
 all_goals (
 clear H; have B : 0 ≤ (b : Int) := q_d
 have D : b < (l0.length : Int) := q_d
 obtain ⟨R, N, E⟩ := Kd.at_bool O.out b B D; (try rw [← F.out] at E)
 cases N; replace B := eq_true B; replace D := eq_true D; go_wp2)
 {
 go_roundg y
 case measure => have := p.out; omega
 case rel => exact ⟨(l), (wrap64 (b + 1)), q_r, q_r, G, ⟨by have := p.out; omega⟩, by repeat (first | exact Drawn0.refl _ | apply Drawn0.step)⟩}
 {
 go_roundg y
 case measure => have := p.out; omega
 case rel => exact ⟨(wrap64 (l + 1)), (wrap64 (b + 1)), q_r, q_r, G, ⟨by have := p.out; omega⟩, by repeat (first | exact Drawn0.refl _ | apply Drawn0.step)⟩}}
 {
 obtain rfl := q_so H; go_wp2
 go_ret
 exact ⟨by first | rfl | (simp; done) | (simp [*]; done), by repeat (first | exact Drawn0.refl _ | apply Drawn0.step)⟩}))
mutual
def r11_Cells.l0 : Nat → List Int → Int → Int → Option (Int)
 | 0, _, _, _ => none
 | k + 1, l, p, b => if b < (l.length : Int) then (if 0 ≤ b then (r11_Cells.l1 k l p b (decide ((rd l b) < 0)) 0) else (none)) else (some p)
def r11_Cells.l1 : Nat → List Int → Int → Int → Bool → Int → Option (Int)
 | 0, _, _, _, _, _ => none
 | k + 1, l, p, b, y, q => if q < b then (if y = true then (if 0 ≤ q then (if q < (l.length : Int) then (if 0 ≤ b then (if b < (l.length : Int) then (r11_Cells.l1 k l p b ((rd l q) != (rd l b)) (wrap64 (q + 1))) else (none)) else (none)) else (none)) else (none)) else (r11_Cells.l1 k l p b false (wrap64 (q + 1)))) else (if y = true then (r11_Cells.l0 k l (wrap64 (p + 1)) (wrap64 (b + 1))) else (r11_Cells.l0 k l p (wrap64 (b + 1))))
end
def r11_Cells.f (k : Nat) (l0 : List Int) : Option (Int) := r11_Cells.l0 k l0 0 0
theorem r11_Cells.calls {k : Nat} {A0 : Option Addr} {c0 : Nat} {l0 : List Int} {r : Int} {w : World} (T : Kd.C (Kd.int .i64) w A0 l0.length l0) (U : l0.length ≤ c0) (h : r11_Cells.f k l0 = some r) :
  Calls Tryd.prog 15 #[.slice A0 l0.length c0] w fun e w' => e = .returned (.int .i64 r) ∧ Drawn0 w w' := by
 have O := a_ T; have a7 := a_ U; clear T U; have H : (r11_Cells.l0 k l0 0 0) = some r := h
 clear h; have E := a_ H
 clear H; go_enter Tryd.func15, Tryd.ntmps15
 go_wp2
 repeat (go_quiet (fail); try go_wp2)
 go_loopg [3, 4] k (fun kq v3 v4 w' => ∃ (p : Int) (b : Int), v3 = .int .i64 p ∧ v4 = .int .i64 b ∧ Aside0 (r11_Cells.l0 kq l0 p b = some r) ∧ Aside0 (kq ≤ k) ∧ Drawn0 w w')
 case atStart => exact ⟨(0), (0), q_r, q_r, E, ⟨Nat.le_refl _⟩, by repeat (first | exact Drawn0.refl _ | apply Drawn0.step)⟩
 case round => (
 clear E; obtain ⟨p, b, rfl, rfl, HA, q, ⟨m1, rfl⟩⟩ := hrel; cases gk with
 | zero => exact absurd HA.out (by simp [r11_Cells.l0])
 | succ k1 => (
 have H := HA.out; clear HA; simp only [r11_Cells.l0] at H
 rcases q_ite H with ⟨c2b0, H⟩ | ⟨c2b0, H⟩
 {
 replace H := q_gD H; obtain ⟨-, c3b0, H⟩ := H; have E := a_ H
 clear H; have B : 0 ≤ (b : Int) := q_d
 have D : b < (l0.length : Int) := q_d
 obtain ⟨F, V, G⟩ := Kd.at_int O.out b B D; cases V; replace B := eq_true B; replace D := eq_true D; go_wp2
 repeat (go_quiet (fail); try go_wp2)
 go_loopg [5, 6] k1 (fun kq v5 v6 w' => ∃ (y : Bool) (l : Int), v5 = .bool y ∧ v6 = .int .i64 l ∧ Aside0 (r11_Cells.l1 kq l0 p b y l = some r) ∧ Aside0 (kq ≤ k1) ∧ Drawn0 w w')
 case atStart => exact ⟨(decide ((rd l0 b) < 0)), (0), q_r, q_r, E, ⟨Nat.le_refl _⟩, by repeat (first | exact Drawn0.refl _ | apply Drawn0.step)⟩
 case round => (
 clear E; clear c2b0 c3b0 G B D; obtain ⟨y, l, rfl, rfl, HA, z, ⟨m2, rfl⟩⟩ := hrel; cases gk with
 | zero => exact absurd HA.out (by simp [r11_Cells.l1])
 | succ k2 => (
 have H := HA.out; clear HA; simp only [r11_Cells.l1] at H
 rcases q_ite H with ⟨c4b0, H⟩ | ⟨c4b0, H⟩
 {
 cases y
 {
 replace H := q_if H; have E := a_ H
 clear H; go_wp2
 repeat (go_quiet (fail); try go_wp2)
 go_roundg k2
 case measure => have := q.out; have := z.out; omega
 case rel => exact ⟨(false), (wrap64 (l + 1)), q_r, q_r, E, ⟨by have := q.out; have := z.out; omega⟩, by repeat (first | exact Drawn0.refl _ | apply Drawn0.step)⟩}
 {
 rw [if_pos rfl] at H; replace H := q_gD H; obtain ⟨-, c6b0, H⟩ := H; replace H := q_gD H; obtain ⟨-, c7b0, H⟩ := H; replace H := q_gD H; obtain ⟨-, c8b0, H⟩ := H; replace H := q_gD H; obtain ⟨-, c9b0, H⟩ := H; have E := a_ H
 clear H; have I : 0 ≤ (l : Int) := q_d
 have J : l < (l0.length : Int) := q_d
 obtain ⟨R, X, a0⟩ := Kd.at_int O.out l I J; obtain rfl : F = R := (by injection X)
 replace I := eq_true I; replace J := eq_true J; have L : 0 ≤ (b : Int) := q_d
 have M : b < (l0.length : Int) := q_d
 obtain ⟨S, a1, a2⟩ := Kd.at_int O.out b L M; obtain rfl : F = S := (by injection a1)
 replace L := eq_true L; replace M := eq_true M; go_wp2
 repeat (go_quiet (fail); try go_wp2)
 go_roundg k2
 case measure => have := q.out; have := z.out; omega
 case rel => exact ⟨(((rd l0 l) != (rd l0 b))), (wrap64 (l + 1)), q_r, q_r, E, ⟨by have := q.out; have := z.out; omega⟩, by repeat (first | exact Drawn0.refl _ | apply Drawn0.step)⟩}}
 {
 cases y
 {
 replace H := q_if H; have E := a_ H
 clear H; go_wp2
 repeat (go_quiet (fail); try go_wp2)
 go_roundg k2
 case measure => have := q.out; have := z.out; omega
 case rel => exact ⟨(p), (wrap64 (b + 1)), q_r, q_r, E, ⟨by have := q.out; have := z.out; omega⟩, by repeat (first | exact Drawn0.refl _ | apply Drawn0.step)⟩}
 {
 rw [if_pos rfl] at H; have E := a_ H
 clear H; go_wp2
 repeat (go_quiet (fail); try go_wp2)
 go_roundg k2
 case measure => have := q.out; have := z.out; omega
 case rel => exact ⟨(wrap64 (p + 1)), (wrap64 (b + 1)), q_r, q_r, E, ⟨by have := q.out; have := z.out; omega⟩, by repeat (first | exact Drawn0.refl _ | apply Drawn0.step)⟩}}))}
 {
 obtain rfl := q_so H; go_wp2
 repeat (go_quiet (fail); try go_wp2)
 go_ret
 exact ⟨by first | rfl | (simp; done) | (simp [*]; done), by repeat (first | exact Drawn0.refl _ | apply Drawn0.step)⟩}))
def r6_Next.f (q : List (S71)) (b : Int) (y : Int) (l : Int) (p : Int) : Option (List Int) := if b = 0 then (some (([l] : List Int))) else (if b = 1 then (some (([l, p] : List Int))) else (some ([] : List Int)))
theorem r6_Next.calls {E : Option Addr} {F : Nat} {y : List (S71)} {B : Int} {G : Int} {b : Int} {q : Int} {r : List Int} {w : World} (O : Kd.C k71 w E y.length y) (S : y.length ≤ F) (h : r6_Next.f y B G b q = some r) :
  Calls Tryd.prog 56 #[.agg #[.slice E y.length F, .int .i64 B, .int .i64 G, .int .i64 b, .int .i64 q]] w fun e w' => ∃ a3 : Value, e = .returned (a3) ∧ Kd.R (Kd.int .i64) 3 w' w.heap.size (fun _ => True) a3 r ∧ Below w.heap.size w w' := by
 have e1 := Tryd.underlying69; have d9 := a_ O; have e0 := a_ S; clear O S; have D := a_ (Below.refl w.heap.size w); have H : (if B = 0 then (some (([b] : List Int))) else (if B = 1 then (some (([b, q] : List Int))) else (some ([] : List Int)))) = some r := h
 clear h; replace H := q_iBN H; rcases H with ⟨-, c2b0, c2b1, H⟩ | ⟨c2, c2b0, c2b1, H⟩
 {
 obtain ⟨a4, J⟩ : ∃ y_ : List Int, y_ = (([b] : List Int)) := ⟨_, rfl⟩; replace H : (some a4) = some r := q_rw J H
 have T := a_ J; clear J; obtain rfl := q_so H; go_enter Tryd.func56, Tryd.ntmps56
 go_wp2_with (first | ((with_reducible refine gd_ 1 rfl ?_); refine q_box 1 69 #[.slice E y.length F, .int .i64 B, .int .i64 G, .int .i64 b, .int .i64 q] ?_; intro U hg w3 z hb; have l := a_ z; have V := a_ (q_ge D.out hg); have p := a_ (q_ge D.out hg); replace D := a_ (q_st D.out hb); clear hb z hg; obtain ⟨b6, b7, b8, b9, c0, c1, c3, c4, c6, c8⟩ := q_cf5 l.out) | ((with_reducible refine gd_ 9 rfl ?_); refine Kd.R_lit (Kd.int .i64) _ 3 ?hg (N := 9) ?hd (xs := ([b] : List Int)) (inner := [.int .i64 b]) (ok := fun _ => True) (okp := fun _ => True) ?hr ?hp (fun _ hk => hk) trivial (Below.refl _ _) (Nat.le_refl _) (by simp) ?_; (case hd => rfl); (case hg => rfl); (case hr => first | (go_simp; done) | (go_simp; rfl)); (case hp => exact (Reps.one (show Kd.M (Kd.int .i64) _ _ _ b [.int .i64 b] from rfl) (Reps.none _ _))); intro e2 w5 X hb hg_ hnew_; clear hg_ hnew_; (first | rw [← T.out] at X | (simp only [Int.reduceToNat] at X; rw [← T.out] at X)); have a1 := a_ (Kd.R_lower X (below_size (q_w1 D.out p.out))); replace l := a_ (q_bk l.out hb); replace D := a_ (q_st1 D.out hb p.out); clear hb X))
 go_ret
 exact ⟨_, q_e, q_R a1.out, q_w1 D.out p.out⟩}
 {
 replace H := q_iBN H; rcases H with ⟨-, c7b0, c7b1, H⟩ | ⟨c7, c7b0, c7b1, H⟩
 {
 obtain ⟨a5, L⟩ : ∃ y_ : List Int, y_ = (([b, q] : List Int)) := ⟨_, rfl⟩; replace H : (some a5) = some r := q_rw L H
 have a0 := a_ L; clear L; obtain rfl := q_so H; go_enter Tryd.func56, Tryd.ntmps56
 go_wp2_with (first | ((with_reducible refine gd_ 1 rfl ?_); refine q_box 1 69 #[.slice E y.length F, .int .i64 B, .int .i64 G, .int .i64 b, .int .i64 q] ?_; intro U hg w8 z hb; have l := a_ z; have V := a_ (q_ge D.out hg); have p := a_ (q_ge D.out hg); replace D := a_ (q_st D.out hb); clear hb z hg; obtain ⟨c9, d0, d1, d2, d3, d4, d5, d6, d7, d8⟩ := q_cf5 l.out) | ((with_reducible refine gd_ 16 rfl ?_); refine Kd.R_lit (Kd.int .i64) _ 3 ?hg (N := 16) ?hd (xs := ([b, q] : List Int)) (inner := [.int .i64 b, .int .i64 q]) (ok := fun _ => True) (okp := fun _ => True) ?hr ?hp (fun _ hk => hk) trivial (Below.refl _ _) (Nat.le_refl _) (by simp) ?_; (case hd => rfl); (case hg => rfl); (case hr => first | (go_simp; done) | (go_simp; rfl)); (case hp => exact (Reps.one (show Kd.M (Kd.int .i64) _ _ _ b [.int .i64 b] from rfl) (Reps.one (show Kd.M (Kd.int .i64) _ _ _ q [.int .i64 q] from rfl) (Reps.none _ _)))); intro e3 e4 I hb hg_ hnew_; clear hg_ hnew_; (first | rw [← a0.out] at I | (simp only [Int.reduceToNat] at I; rw [← a0.out] at I)); have a2 := a_ (Kd.R_lower I (below_size (q_w1 D.out p.out))); replace l := a_ (q_bk l.out hb); replace D := a_ (q_st1 D.out hb p.out); clear hb I))
 go_ret
 exact ⟨_, q_e, q_R a2.out, q_w1 D.out p.out⟩}
 {
 obtain rfl := q_so H; go_enter Tryd.func56, Tryd.ntmps56
 go_wp2_with (first | ((with_reducible refine gd_ 1 rfl ?_); refine q_box 1 69 #[.slice E y.length F, .int .i64 B, .int .i64 G, .int .i64 b, .int .i64 q] ?_; intro U hg e5 z hb; have l := a_ z; have V := a_ (q_ge D.out hg); have p := a_ (q_ge D.out hg); replace D := a_ (q_st D.out hb); clear hb z hg; obtain ⟨a6, a7, a8, a9, b0, b1, b2, b3, b4, b5⟩ := q_cf5 l.out))
 go_ret
 exact ⟨_, q_e, by first | exact Kd.R_nil _ _ _ _ _ | exact Kd.N_nil _ _ _ _ _ | exact Kd.V_nil _ _ _ _ _ | exact Kd.Q_nil _ _ _ _ _ | exact Kd.S_nil _ _ _ _ _, q_w1 D.out p.out⟩}}
def r11_out.l0 : Nat → List Bool → List Int → Int → Option (Bool)
 | 0, _, _, _ => none
 | k + 1, p, l, b => if b < (l.length : Int) then (if 0 ≤ b then (if 0 ≤ (rd l b) then (if (rd l b) < (p.length : Int) then (if rdOf false p (rd l b) = true then (some true) else (r11_out.l0 k p l (wrap64 (b + 1)))) else (none)) else (none)) else (none)) else (some false)
def r11_out.f (k : Nat) (q : ByteArray) (y : List (S83)) (z : List (S85)) (B : Int) (b : List (S69)) (l1 : List Bool) (l : Int) : Option (Bool) := if 0 ≤ l then (if l < (b.length : Int) then ((r6_Next.f ((rd_T69 b l).f0) ((rd_T69 b l).f1) ((rd_T69 b l).f2) ((rd_T69 b l).f3) ((rd_T69 b l).f4)).bind fun p => (r11_out.l0 k l1 p 0)) else (none)) else (none)
theorem r11_out.calls {k : Nat} {M : ByteArray} {N : Option Addr} {O : Nat} {z : List (S83)} {S : Option Addr} {T : Nat} {B : List (S85)} {U : Int} {b2 : Option Addr} {V : Nat} {l : List (S69)} {A1 : Option Addr} {c1 : Nat} {l1 : List Bool} {F : Int} {r : Bool} {w : World} (b3 : q5 w N O z S T B b2 V l) (e8 : Kd.C Kd.bool w A1 l1.length l1) (e9 : l1.length ≤ c1) (h : r11_out.f k M z B U l l1 F = some r) :
  Calls Tryd.prog 41 #[.agg #[.string M, .slice N z.length O, .slice S B.length T, .int .i64 U, .slice b2 l.length V], .slice A1 l1.length c1, .int .i64 F] w fun e w' => e = .returned (.bool r) ∧ Below w.heap.size w w' := by
 obtain ⟨_, _, _, _, e1, _⟩ := q_O b3; have g5 := Tryd.underlying26; have i9 := Tryd.underlying69; have i1 := a_ e8; have j7 := a_ e9; clear e8 e9; have J := a_ (Below.refl w.heap.size w); have H : (if 0 ≤ F then (if F < (l.length : Int) then ((r6_Next.f ((rd_T69 l F).f0) ((rd_T69 l F).f1) ((rd_T69 l F).f2) ((rd_T69 l F).f3) ((rd_T69 l F).f4)).bind fun p => (r11_out.l0 k l1 p 0)) else (none)) else (none)) = some r := h
 clear h; replace H := q_gD H; obtain ⟨-, c4b0, H⟩ := H; replace H := q_gD H; obtain ⟨-, c5b0, H⟩ := H; replace H := q_bd H; obtain ⟨p, d9, H⟩ := H; have f5 := a_ d9; clear d9; have H' := a_ H
 clear H; go_enter Tryd.func41, Tryd.ntmps41
 go_wp2_with (first | ((with_reducible refine gd_ 3 rfl ?_); refine q_box 3 26 #[.string M, .slice N z.length O, .slice S B.length T, .int .i64 U, .slice b2 l.length V] ?_; intro e2 hg j3 e0 hb; have q := a_ e0; have i2 := a_ (q_ge J.out hg); have y := a_ (q_ge J.out hg); replace J := a_ (q_st J.out hb); clear hb e0 hg; obtain ⟨a1, a3, a4, a5, a6, a7, a8, a9, b0, b1⟩ := q_cf5 q.out; have b9 : 0 ≤ (F : Int) := q_d; have c0 : F < (l.length : Int) := q_d; obtain ⟨e3, d6, d7, f6, c3, c4, c6, c8, c9, G, I, b9, c0⟩ := b_T69 e1.out J.out F b9 c0; cases f6; have d0 := a_ I; have d1 := a_ G; clear I G) | ((with_reducible refine gc_ 56 rfl ?_); refine q_gl 14 #[.agg #[.slice d6 ((rd_T69 l F).f0).length d7, .int .i64 ((rd_T69 l F).f1), .int .i64 ((rd_T69 l F).f2), .int .i64 ((rd_T69 l F).f3), .int .i64 ((rd_T69 l F).f4)]] Tryd.func56 rfl ?_; (with_reducible refine (r6_Next.calls (q_C (Kd.C_below d0.out J.out)) d1.out f5.out).mono ?_); rintro e j5 ⟨f7, rfl, f8, hb⟩; refine ⟨_, rfl, ?_⟩; have e4 := a_ (Kd.R_lower f8 (below_size (q_w1 J.out y.out))); replace q := a_ (q_bk q.out hb); replace J := a_ (q_st1 J.out hb y.out); clear hb f8))
 go_loopg [8] k (fun kq f9 w' => ∃ (b : Int), f9 = .int .i64 b ∧ Aside0 (r11_out.l0 kq l1 p b = some r) ∧ Aside0 (kq ≤ k) ∧ Aside0 (Kd.R (Kd.int .i64) 3 w' w.heap.size (fun _ => True) f7 p) ∧ Aside0 (w'.heap[e2]? = some (.cells #[.string M, (.slice N z.length O), (.slice S B.length T), .int .i64 U, (.slice (some e3) l.length V)] 26 (0, 0))) ∧ Aside0 (Below w.heap.size w w'))
 case atStart => exact ⟨(0), q_r, H', ⟨Nat.le_refl _⟩, ⟨q_R e4.out⟩, ⟨q_k q.out⟩, ⟨q_w1 J.out y.out⟩⟩
 case round => (
 clear H'; clear c4b0 c5b0 a1 a3 a4 a5 a6 a7 a8 a9 b0 b1 c3 c4 c6 c8 c9 b9 c0; obtain ⟨b, rfl, HA, g0, HO_7, q, J⟩ := hrel; cases gk with
 | zero => exact absurd HA.out (by simp [r11_out.l0])
 | succ k1 => (
 have H := HA.out; clear HA; simp only [r11_out.l0] at H
 rcases q_ite H with ⟨c10b0, H⟩ | ⟨c10b0, H⟩
 {
 replace H := q_gD H; obtain ⟨-, c11b0, H⟩ := H; replace H := q_gD H; obtain ⟨-, c12b0, H⟩ := H; replace H := q_gD H; obtain ⟨-, c13b0, H⟩ := H; obtain ⟨d2, E⟩ : ∃ b_ : Bool, b_ = (rdOf false l1 (rd p b)) := ⟨_, rfl⟩; replace H : (if d2 = true then (some true) else (r11_out.l0 k1 l1 p (wrap64 (b + 1)))) = some r := by rw [← E] at H; exact H
 have d8 := a_ E; clear E; by_cases X : d2 = true
 focus (
 subst X; rw [if_pos rfl] at H; obtain rfl := q_so H; obtain ⟨e5, e6, L⟩ := Kd.R_slice HO_7.out; subst L; have a0 : 0 ≤ (b : Int) := q_d)
 rotate_left
 focus (
 replace X := q_bf X; subst X; replace H := q_if H; have H' := a_ H
 clear H; obtain ⟨e5, e6, L⟩ := Kd.R_slice HO_7.out; subst L; have a0 : 0 ≤ (b : Int) := q_d)
 all_goals (
 have d3 : b < (p.length : Int) := q_d
 obtain ⟨i3, g1, g2⟩ := Kd.at_int (Kd.R_reads' HO_7.out).2.2 b a0 d3; cases g1; replace a0 := eq_true a0; replace d3 := eq_true d3; have d4 : 0 ≤ ((rd p b) : Int) := q_d
 have d5 : (rd p b) < (l1.length : Int) := q_d
 obtain ⟨i4, g3, D⟩ := Kd.at_bool i1.out (rd p b) d4 d5; (try rw [← d8.out] at D)
 cases g3; replace D := q_kc J.out D; replace d4 := eq_true d4; replace d5 := eq_true d5; go_wp2)
 {
 go_roundg k1
 case measure => have := g0.out; omega
 case rel => exact ⟨(wrap64 (b + 1)), q_r, H', ⟨by have := g0.out; omega⟩, ⟨q_R HO_7.out⟩, ⟨q_k q.out⟩, ⟨q_w1 J.out y.out⟩⟩}
 {
 go_ret
 exact ⟨q_e, q_w1 J.out y.out⟩}}
 {
 obtain rfl := q_so H; obtain ⟨i5, i6, e7⟩ := Kd.R_slice HO_7.out; subst e7; go_wp2
 go_ret
 exact ⟨q_e, q_w1 J.out y.out⟩}))
mutual
def r6_Has.j0 : Nat → Int → Bool → Option (Bool × Bool × Bool)
 | 0, _, _ => none
 | k + 1, b, p => if p = true then (some (true, false, false)) else (if b = 1 then (r6_Has.j1 k b (b == 1)) else (if b = 2 then (r6_Has.j1 k b (b == 2)) else (if b = 6 then (r6_Has.j1 k b (b == 6)) else (r6_Has.j1 k b (b == 10)))))
def r6_Has.j1 : Nat → Int → Bool → Option (Bool × Bool × Bool)
 | 0, _, _ => none
 | k + 1, b, l => if l = true then (some (true, true, false)) else (if b = 3 then (some (true, true, true)) else (if b = 7 then (some (false, true, true)) else (if b = 8 then (some (false, true, true)) else (some (false, false, false)))))
end
def r6_Has.f (k : Nat) (b : Int) : Option (Bool × Bool × Bool) := if b = 0 then (r6_Has.j0 k b (b == 0)) else (if b = 4 then (r6_Has.j0 k b (b == 4)) else (if b = 5 then (r6_Has.j0 k b (b == 5)) else (r6_Has.j0 k b (b == 11))))
theorem r6_Has.calls (k : Nat) (p : Int) (E : Bool) (F : Bool) (G : Bool) (w : World) (h : r6_Has.f k p = some (E, F, G)) :
  Calls Tryd.prog 37 #[.int .i64 p] w fun e w' => e = .returned (.tuple #[.bool E, .bool F, .bool G]) ∧ Drawn0 w w' := by
 have H : (if p = 0 then (r6_Has.j0 k p (p == 0)) else (if p = 4 then (r6_Has.j0 k p (p == 4)) else (if p = 5 then (r6_Has.j0 k p (p == 5)) else (r6_Has.j0 k p (p == 11))))) = some (E, F, G) := h
 clear h; have D := a_ H; clear H; go_enter Tryd.func37, Tryd.ntmps37
 go_upto_if 6 with (fail)
 go_cut [6] (fun I wc => ∃ (kq : Nat) (b : Bool), I = .bool b ∧ Aside0 (r6_Has.j0 kq p b = some (E, F, G)) ∧ Aside0 (kq ≤ k) ∧ Drawn0 w wc)
 case first => (
 have H := D.out; clear D; replace H := q_iBN H; rcases H with ⟨-, c3b0, c3b1, H⟩ | ⟨X, c3b0, c3b1, H⟩
 all_goals (
 (first | rw [c3b0] | (simp only [i64_w, i32_w]; rw [c3b0]) | skip))
 {
 have q := a_ H
 clear H; go_wp2
 go_meet
 case rel => exact ⟨_, ((p == 0)), q_r, q, ⟨by first | omega | exact Nat.le_refl _⟩, by repeat (first | exact Drawn0.refl _ | apply Drawn0.step)⟩}
 {
 replace H := q_iBN H; rcases H with ⟨-, c4b0, c4b1, H⟩ | ⟨U, c4b0, c4b1, H⟩
 {
 have q := a_ H
 clear H; go_wp2
 go_meet
 case rel => exact ⟨_, ((p == 4)), q_r, q, ⟨by first | omega | exact Nat.le_refl _⟩, by repeat (first | exact Drawn0.refl _ | apply Drawn0.step)⟩}
 {
 replace H := q_iBN H; rcases H with ⟨-, c5b0, c5b1, H⟩ | ⟨c5, c5b0, c5b1, H⟩
 {
 have q := a_ H
 clear H; go_wp2
 go_meet
 case rel => exact ⟨_, ((p == 5)), q_r, q, ⟨by first | omega | exact Nat.le_refl _⟩, by repeat (first | exact Drawn0.refl _ | apply Drawn0.step)⟩}
 {
 have q := a_ H
 clear H; go_wp2
 go_meet
 case rel => exact ⟨_, ((p == 11)), q_r, q, ⟨by first | omega | exact Nat.le_refl _⟩, by repeat (first | exact Drawn0.refl _ | apply Drawn0.step)⟩}}})
 case rest => (
 clear D; obtain ⟨kq, b, rfl, HA, C, ⟨V, rfl⟩⟩ := hcut; cases kq with
 | zero => exact absurd HA.out (by simp [r6_Has.j0])
 | succ O => (
 have H := HA.out; clear HA; simp only [r6_Has.j0] at H
 cases b
 {
 replace H := q_if H; have y := a_ H; clear H; go_upto_if 11 with (fail)
 go_cut [11] (fun J wc => ∃ (kq : Nat) (l : Bool), J = .bool l ∧ Aside0 (r6_Has.j1 kq p l = some (E, F, G)) ∧ Aside0 (kq ≤ O) ∧ Drawn0 w wc)
 case first => (
 have H := y.out; clear y; replace H := q_iBN H; rcases H with ⟨-, c8b0, c8b1, H⟩ | ⟨L, c8b0, c8b1, H⟩
 all_goals (
 (first | rw [c8b0] | (simp only [i64_w, i32_w]; rw [c8b0]) | skip))
 {
 have q := a_ H
 clear H; go_wp2
 go_meet
 case rel => exact ⟨_, ((p == 1)), q_r, q, ⟨by have := C.out; first | omega | exact Nat.le_refl _⟩, by repeat (first | exact Drawn0.refl _ | apply Drawn0.step)⟩}
 {
 replace H := q_iBN H; rcases H with ⟨-, c9b0, c9b1, H⟩ | ⟨M, c9b0, c9b1, H⟩
 {
 have q := a_ H
 clear H; go_wp2
 go_meet
 case rel => exact ⟨_, ((p == 2)), q_r, q, ⟨by have := C.out; first | omega | exact Nat.le_refl _⟩, by repeat (first | exact Drawn0.refl _ | apply Drawn0.step)⟩}
 {
 replace H := q_iBN H; rcases H with ⟨-, c10b0, c10b1, H⟩ | ⟨N, c10b0, c10b1, H⟩
 {
 have q := a_ H
 clear H; go_wp2
 go_meet
 case rel => exact ⟨_, ((p == 6)), q_r, q, ⟨by have := C.out; first | omega | exact Nat.le_refl _⟩, by repeat (first | exact Drawn0.refl _ | apply Drawn0.step)⟩}
 {
 have q := a_ H
 clear H; go_wp2
 go_meet
 case rel => exact ⟨_, ((p == 10)), q_r, q, ⟨by have := C.out; first | omega | exact Nat.le_refl _⟩, by repeat (first | exact Drawn0.refl _ | apply Drawn0.step)⟩}}})
 case rest => (
 clear y; obtain ⟨kq, l, rfl, HA, R, ⟨S, rfl⟩⟩ := hcut; cases kq with
 | zero => exact absurd HA.out (by simp [r6_Has.j1])
 | succ T => (
 have H := HA.out; clear HA; simp only [r6_Has.j1] at H
 cases l
 {
 replace H := q_if H; replace H := q_iBN H; rcases H with ⟨-, c12b0, c12b1, H⟩ | ⟨L, c12b0, c12b1, H⟩
 {
 simp only [Option.some.injEq, Prod.mk.injEq] at H
 obtain ⟨rfl, rfl, rfl⟩ := H; go_wp2
 go_ret3
 exact ⟨by first | rfl | (simp; done) | (simp [*]; done), by repeat (first | exact Drawn0.refl _ | apply Drawn0.step)⟩}
 {
 replace H := q_iBN H; rcases H with ⟨-, c13b0, c13b1, H⟩ | ⟨M, c13b0, c13b1, H⟩
 {
 simp only [Option.some.injEq, Prod.mk.injEq] at H
 obtain ⟨rfl, rfl, rfl⟩ := H; go_wp2
 go_ret3
 exact ⟨by first | rfl | (simp; done) | (simp [*]; done), by repeat (first | exact Drawn0.refl _ | apply Drawn0.step)⟩}
 {
 replace H := q_iBN H; rcases H with ⟨-, c14b0, c14b1, H⟩ | ⟨N, c14b0, c14b1, H⟩
 all_goals (
 simp only [Option.some.injEq, Prod.mk.injEq] at H
 obtain ⟨rfl, rfl, rfl⟩ := H; go_wp2
 go_ret3
 exact ⟨by first | rfl | (simp; done) | (simp [*]; done), by repeat (first | exact Drawn0.refl _ | apply Drawn0.step)⟩)}}}
 {
 rw [if_pos rfl] at H; simp only [Option.some.injEq, Prod.mk.injEq] at H
 obtain ⟨rfl, rfl, rfl⟩ := H; go_wp2
 go_ret3
 exact ⟨by first | rfl | (simp; done) | (simp [*]; done), by repeat (first | exact Drawn0.refl _ | apply Drawn0.step)⟩}))}
 {
 rw [if_pos rfl] at H; simp only [Option.some.injEq, Prod.mk.injEq] at H
 obtain ⟨rfl, rfl, rfl⟩ := H; go_wp2
 go_ret3
 exact ⟨by first | rfl | (simp; done) | (simp [*]; done), by repeat (first | exact Drawn0.refl _ | apply Drawn0.step)⟩}))
def r11_Sets.f (k : Nat) (l : Int) (q : Int) (p : Int) (y : Int) (z : Int) (B : Int) (C : List Int) (D : Int) : Option (Bool) := (r6_Has.f k l).bind fun b => (if b.1 = true then (some (p == D)) else (some false))
theorem r11_Sets.calls {k : Nat} {b : Int} {B : Int} {p : Int} {D : Int} {E : Int} {F : Int} {G : Option Addr} {I : Nat} {l : List Int} {U : Int} {r : Bool} {w : World} (J : Kd.C (Kd.int .i64) w G l.length l) (L : l.length ≤ I) (h : r11_Sets.f k b B p D E F l U = some r) :
  Calls Tryd.prog 57 #[.agg #[.int .i64 b, .int .i64 B, .int .i64 p, .int .i64 D, .int .i64 E, .int .i32 F, .slice G l.length I], .int .i64 U] w fun e w' => e = .returned (.bool r) ∧ Below w.heap.size w w' := by
 have d4 := Tryd.underlying71; have d2 := a_ J; have d3 := a_ L; clear J L; have M := a_ (Below.refl w.heap.size w); have H : ((r6_Has.f k b).bind fun O => (if O.1 = true then (some (p == U)) else (some false))) = some r := h
 clear h; replace H := q_bd H; obtain ⟨⟨N, d5, d6⟩, T, H⟩ := H; replace H : (if N = true then (some (p == U)) else (some false)) = some r := H
 have A3 := a_ T; clear T; cases N
 {
 replace H := q_if H; obtain rfl := q_so H; go_enter Tryd.func57, Tryd.ntmps57
 go_wp2_with (first | ((with_reducible refine gd_ 2 rfl ?_); refine q_box 2 71 #[.int .i64 b, .int .i64 B, .int .i64 p, .int .i64 D, .int .i64 E, .int .i32 F, .slice G l.length I] ?_; intro R hg w7 q hb; have y := a_ q; have S := a_ (q_ge M.out hg); have z := a_ (q_ge M.out hg); replace M := a_ (q_st M.out hb); clear hb q hg; obtain ⟨b4, b5, b6, b7, b8, b9, c0, c1, c3, c6, c8, c9, d0, d1⟩ := q_cf7 y.out) | ((with_reducible refine gc_ 37 rfl ?_); refine q_gl 11 #[.int .i64 b] Tryd.func37 rfl ?_; (with_reducible refine (r6_Has.calls _ _ _ _ _ _ A3.out).mono ?_); rintro e w' ⟨rfl, ⟨nd, rfl⟩⟩; refine ⟨_, rfl, ?_⟩))
 go_ret
 exact ⟨q_e, q_w1 M.out z.out⟩}
 {
 rw [if_pos rfl] at H; obtain rfl := q_so H; go_enter Tryd.func57, Tryd.ntmps57
 go_wp2_with (first | ((with_reducible refine gd_ 2 rfl ?_); refine q_box 2 71 #[.int .i64 b, .int .i64 B, .int .i64 p, .int .i64 D, .int .i64 E, .int .i32 F, .slice G l.length I] ?_; intro R hg w5 q hb; have y := a_ q; have S := a_ (q_ge M.out hg); have z := a_ (q_ge M.out hg); replace M := a_ (q_st M.out hb); clear hb q hg; obtain ⟨X, a0, a2, a3, a4, a5, a6, a7, a8, a9, b0, b1, b2, b3⟩ := q_cf7 y.out) | ((with_reducible refine gc_ 37 rfl ?_); refine q_gl 11 #[.int .i64 b] Tryd.func37 rfl ?_; (with_reducible refine (r6_Has.calls _ _ _ _ _ _ A3.out).mono ?_); rintro e w' ⟨rfl, ⟨nd, rfl⟩⟩; refine ⟨_, rfl, ?_⟩))
 go_ret
 exact ⟨q_e, q_w1 M.out z.out⟩}
def r11_Uses.f (k : Nat) (p : Int) (z : Int) (B : Int) (q : Int) (l : Int) (C : Int) (D : List Int) (y : Int) : Option (Bool) := (r6_Has.f k p).bind fun b => (if b.2.1 = true then (if q = y then (some true) else (if b.2.2 = true then (some (l == y)) else (some false))) else (if b.2.2 = true then (some (l == y)) else (some false)))
theorem r11_Uses.calls {k : Nat} {b : Int} {D : Int} {E : Int} {z : Int} {p : Int} {F : Int} {G : Option Addr} {I : Nat} {q : List Int} {a1 : Int} {r : Bool} {w : World} (a8 : Kd.C (Kd.int .i64) w G q.length q) (a9 : q.length ≤ I) (h : r11_Uses.f k b D E z p F q a1 = some r) :
  Calls Tryd.prog 81 #[.agg #[.int .i64 b, .int .i64 D, .int .i64 E, .int .i64 z, .int .i64 p, .int .i32 F, .slice G q.length I], .int .i64 a1] w fun e w' => e = .returned (.bool r) ∧ Below w.heap.size w w' := by
 have f2 := Tryd.underlying71; have f3 := a_ a8; have f4 := a_ a9; clear a8 a9; have J := a_ (Below.refl w.heap.size w); have H : ((r6_Has.f k b).bind fun M => (if M.2.1 = true then (if z = a1 then (some true) else (if M.2.2 = true then (some (p == a1)) else (some false))) else (if M.2.2 = true then (some (p == a1)) else (some false)))) = some r := h
 clear h; replace H := q_bd H; obtain ⟨⟨f8, b3, N⟩, b4, H⟩ := H; replace H : (if b3 = true then (if z = a1 then (some true) else (if N = true then (some (p == a1)) else (some false))) else (if N = true then (some (p == a1)) else (some false))) = some r := H
 have A3 := a_ b4; clear b4; cases b3
 {
 replace H := q_if H; by_cases y : N = true
 focus (
 subst y; rw [if_pos rfl] at H; obtain rfl := q_so H; go_enter Tryd.func81, Tryd.ntmps81)
 rotate_left
 focus (
 replace y := q_bf y; subst y; replace H := q_if H; obtain rfl := q_so H; go_enter Tryd.func81, Tryd.ntmps81)
 all_goals (
 go_wp2_with (first | ((with_reducible refine gd_ 2 rfl ?_); refine q_box 2 71 #[.int .i64 b, .int .i64 D, .int .i64 E, .int .i64 z, .int .i64 p, .int .i32 F, .slice G q.length I] ?_; intro b0 hg e9 l hb; have B := a_ l; have b1 := a_ (q_ge J.out hg); have L := a_ (q_ge J.out hg); replace J := a_ (q_st J.out hb); clear hb l hg; obtain ⟨O, R, S, T, U, V, X, a0, a2, a3, a4, a5, a6, a7⟩ := q_cf7 B.out) | ((with_reducible refine gc_ 37 rfl ?_); refine q_gl 11 #[.int .i64 b] Tryd.func37 rfl ?_; (with_reducible refine (r6_Has.calls _ _ _ _ _ _ A3.out).mono ?_); rintro e w' ⟨rfl, ⟨nd, rfl⟩⟩; refine ⟨_, rfl, ?_⟩))
 go_ret
 exact ⟨q_e, q_w1 J.out L.out⟩)}
 {
 rw [if_pos rfl] at H; replace H := q_iBN H; rcases H with ⟨-, c5b0, c5b1, H⟩ | ⟨c5, c5b0, c5b1, H⟩
 {
 obtain rfl := q_so H; go_enter Tryd.func81, Tryd.ntmps81
 go_wp2_with (first | ((with_reducible refine gd_ 2 rfl ?_); refine q_box 2 71 #[.int .i64 b, .int .i64 D, .int .i64 E, .int .i64 z, .int .i64 p, .int .i32 F, .slice G q.length I] ?_; intro f5 hg w6 l hb; have b5 := a_ l; have f6 := a_ (q_ge J.out hg); have b6 := a_ (q_ge J.out hg); replace J := a_ (q_st J.out hb); clear hb l hg; obtain ⟨b7, b8, b9, c0, c1, c3, c6, c8, c9, d0, d1, d2, d3, d4⟩ := q_cf7 b5.out) | ((with_reducible refine gc_ 37 rfl ?_); refine q_gl 11 #[.int .i64 b] Tryd.func37 rfl ?_; (with_reducible refine (r6_Has.calls _ _ _ _ _ _ A3.out).mono ?_); rintro e w' ⟨rfl, ⟨nd, rfl⟩⟩; refine ⟨_, rfl, ?_⟩))
 go_ret
 exact ⟨q_e, q_w1 J.out b6.out⟩}
 {
 by_cases y : N = true
 focus (
 subst y; rw [if_pos rfl] at H; obtain rfl := q_so H; go_enter Tryd.func81, Tryd.ntmps81
 go_wp2_with (first | ((with_reducible refine gd_ 2 rfl ?_); refine q_box 2 71 #[.int .i64 b, .int .i64 D, .int .i64 E, .int .i64 z, .int .i64 p, .int .i32 F, .slice G q.length I] ?_; intro b0 hg e9 l hb; have B := a_ l; have b1 := a_ (q_ge J.out hg); have L := a_ (q_ge J.out hg); replace J := a_ (q_st J.out hb); clear hb l hg; obtain ⟨O, R, S, T, U, V, X, a0, a2, a3, a4, a5, a6, a7⟩ := q_cf7 B.out) | ((with_reducible refine gc_ 37 rfl ?_); refine q_gl 11 #[.int .i64 b] Tryd.func37 rfl ?_; (with_reducible refine (r6_Has.calls _ _ _ _ _ _ A3.out).mono ?_); rintro e w' ⟨rfl, ⟨nd, rfl⟩⟩; refine ⟨_, rfl, ?_⟩)))
 rotate_left
 focus (
 replace y := q_bf y; subst y; replace H := q_if H; obtain rfl := q_so H; go_enter Tryd.func81, Tryd.ntmps81
 go_wp2_with (first | ((with_reducible refine gd_ 2 rfl ?_); refine q_box 2 71 #[.int .i64 b, .int .i64 D, .int .i64 E, .int .i64 z, .int .i64 p, .int .i32 F, .slice G q.length I] ?_; intro b0 hg f9 l hb; have B := a_ l; have b1 := a_ (q_ge J.out hg); have L := a_ (q_ge J.out hg); replace J := a_ (q_st J.out hb); clear hb l hg; obtain ⟨d5, d6, d7, d8, d9, e0, e1, e2, e3, e4, e5, e6, e7, e8⟩ := q_cf7 B.out) | ((with_reducible refine gc_ 37 rfl ?_); refine q_gl 11 #[.int .i64 b] Tryd.func37 rfl ?_; (with_reducible refine (r6_Has.calls _ _ _ _ _ _ A3.out).mono ?_); rintro e w' ⟨rfl, ⟨nd, rfl⟩⟩; refine ⟨_, rfl, ?_⟩)))
 all_goals (
 go_ret
 exact ⟨q_e, q_w1 J.out L.out⟩)}}
def r11_before.l0 : Nat → Int → Int → Bool → List (S71) → Int → Int → Int → Int → Option (Bool)
 | 0, _, _, _, _, _, _, _, _ => none
 | k + 1, l, D, E, b, p, q, y, z => if l < (b.length : Int) then (if 0 ≤ l then ((r11_Uses.f k ((rd_T71 b l).f0) ((rd_T71 b l).f1) ((rd_T71 b l).f2) ((rd_T71 b l).f3) ((rd_T71 b l).f4) ((rd_T71 b l).f5) ((rd_T71 b l).f6) D).bind fun B => (if B = true then (some true) else ((r11_Sets.f k ((rd_T71 b l).f0) ((rd_T71 b l).f1) ((rd_T71 b l).f2) ((rd_T71 b l).f3) ((rd_T71 b l).f4) ((rd_T71 b l).f5) ((rd_T71 b l).f6) D).bind fun C => (if C = true then (some false) else (r11_before.l0 k (wrap64 (l + 1)) D E b p q y z))))) else (none)) else (if p = 1 then (if q = D then (some true) else (some E)) else (some E))
def r11_before.f (k : Nat) (b : List (S71)) (l : Int) (p : Int) (q : Int) (y : Int) (z : Int) (B : Int) (C : Bool) : Option (Bool) := r11_before.l0 k z B C b l p q y
theorem r11_before.calls {k : Nat} {b5 : Option Addr} {b6 : Nat} {l : List (S71)} {a0 : Int} {a4 : Int} {a5 : Int} {a6 : Int} {a1 : Int} {a2 : Int} {a3 : Bool} {r : Bool} {w : World} (e2 : Kd.C k71 w b5 l.length l) (e3 : l.length ≤ b6) (h : r11_before.f k l a0 a4 a5 a6 a1 a2 a3 = some r) :
  Calls Tryd.prog 71 #[.agg #[.slice b5 l.length b6, .int .i64 a0, .int .i64 a4, .int .i64 a5, .int .i64 a6], .int .i64 a1, .int .i64 a2, .bool a3] w fun e w' => e = .returned (.bool r) ∧ Below w.heap.size w w' := by
 have o8 := Tryd.underlying69; have p2 := Tryd.underlying71; have O := a_ e2; have o9 := a_ e3; clear e2 e3; have y := a_ (Below.refl w.heap.size w); have H : (r11_before.l0 k a1 a2 a3 l a0 a4 a5 a6) = some r := h
 clear h; have H' := a_ H
 clear H; go_enter Tryd.func71, Tryd.ntmps71
 go_wp2_with (first | ((with_reducible refine gd_ 4 rfl ?_); refine q_box 4 69 #[.slice b5 l.length b6, .int .i64 a0, .int .i64 a4, .int .i64 a5, .int .i64 a6] ?_; intro i0 hg p3 g6 hb; have p := a_ g6; have p0 := a_ (q_ge y.out hg); have q := a_ (q_ge y.out hg); replace y := a_ (q_st y.out hb); clear hb g6 hg))
 go_loopg [1] k (fun kq v1 w' => ∃ (b : Int), v1 = .int .i64 b ∧ Aside0 (r11_before.l0 kq b a2 a3 l a0 a4 a5 a6 = some r) ∧ Aside0 (kq ≤ k) ∧ Aside0 (w'.heap[i0]? = some (.cells #[(.slice b5 l.length b6), .int .i64 a0, .int .i64 a4, .int .i64 a5, .int .i64 a6] 69 (0, 0))) ∧ Aside0 (Below w.heap.size w w'))
 case atStart => exact ⟨(a1), q_r, H', ⟨Nat.le_refl _⟩, ⟨q_k p.out⟩, ⟨q_w1 y.out q.out⟩⟩
 case round => (
 clear H'; obtain ⟨b, rfl, HA, n0, p, y⟩ := hrel; cases gk with
 | zero => exact absurd HA.out (by simp [r11_before.l0])
 | succ k1 => (
 have H := HA.out; clear HA; simp only [r11_before.l0] at H
 rcases q_ite H with ⟨c6b0, H⟩ | ⟨c6b0, H⟩
 {
 replace H := q_gD H; obtain ⟨-, c7b0, H⟩ := H; replace H := q_bd H; obtain ⟨n1, g7, H⟩ := H; have e4 := a_ g7; clear g7; cases n1
 {
 replace H := q_if H; replace H := q_bd H; obtain ⟨o0, g8, H⟩ := H; have g9 := a_ g8; clear g8; cases o0
 {
 replace H := q_if H; have H' := a_ H
 clear H; obtain ⟨b9, c0, c1, c3, c4, c6, c8, c9, d0, d1⟩ := q_cf5 p.out; obtain ⟨b3, a7, a8, e7, e8, e9, f7, f8, f9, g0, g1, z, B, o1, o2⟩ := b_T71 O.out y.out b; cases e7; have R := a_ B; have S := a_ z; clear B z; go_wp2_with (first | ((with_reducible refine gc_ 81 rfl ?_); refine q_gl 22 #[.agg #[.int .i64 ((rd_T71 l b).f0), .int .i64 ((rd_T71 l b).f1), .int .i64 ((rd_T71 l b).f2), .int .i64 ((rd_T71 l b).f3), .int .i64 ((rd_T71 l b).f4), .int .i32 ((rd_T71 l b).f5), .slice a7 ((rd_T71 l b).f6).length a8], .int .i64 a2] Tryd.func81 rfl ?_; (with_reducible refine (r11_Uses.calls (q_C (Kd.C_below R.out y.out)) S.out e4.out).mono ?_); rintro e o3 ⟨rfl, hb⟩; refine ⟨_, rfl, ?_⟩; replace p := a_ (q_bk p.out hb); replace y := a_ (q_st1 y.out hb q.out); (clear hb); obtain ⟨d2, d3, d4, d5, d6, d7, d8, d9, e0, e1⟩ := q_cf5 p.out; have T : 0 ≤ (b : Int) := q_d; have U : b < (l.length : Int) := q_d; obtain ⟨b4, a9, b0, g2, D, E, F, G, I, J, L, M, N⟩ := at_T71 O.out b T U; obtain rfl : b3 = b4 := (by injection g2); replace D := q_kc y.out D; replace E := q_kc y.out E; replace F := q_kc y.out F; replace G := q_kc y.out G; replace I := q_kc y.out I; replace J := q_kc y.out J; replace L := q_kc y.out L; have V := a_ N; have X := a_ M; clear N M; replace T := eq_true T; replace U := eq_true U) | ((with_reducible refine gc_ 57 rfl ?_); refine q_gl 29 #[.agg #[.int .i64 ((rd_T71 l b).f0), .int .i64 ((rd_T71 l b).f1), .int .i64 ((rd_T71 l b).f2), .int .i64 ((rd_T71 l b).f3), .int .i64 ((rd_T71 l b).f4), .int .i32 ((rd_T71 l b).f5), .slice a9 ((rd_T71 l b).f6).length b0], .int .i64 a2] Tryd.func57 rfl ?_; (with_reducible refine (r11_Sets.calls (q_C (Kd.C_below V.out y.out)) X.out g9.out).mono ?_); rintro e o4 ⟨rfl, hb⟩; refine ⟨_, rfl, ?_⟩; replace p := a_ (q_bk p.out hb); replace y := a_ (q_st1 y.out hb q.out); (clear hb)))
 go_roundg k1
 case measure => have := n0.out; omega
 case rel => exact ⟨(wrap64 (b + 1)), q_r, H', ⟨by have := n0.out; omega⟩, ⟨q_k p.out⟩, ⟨q_w1 y.out q.out⟩⟩}
 {
 rw [if_pos rfl] at H; obtain rfl := q_so H; obtain ⟨b9, c0, c1, c3, c4, c6, c8, c9, d0, d1⟩ := q_cf5 p.out; obtain ⟨b3, a7, a8, e7, e8, e9, f7, f8, f9, g0, g1, z, B, o1, o2⟩ := b_T71 O.out y.out b; cases e7; have R := a_ B; have S := a_ z; clear B z; go_wp2_with (first | ((with_reducible refine gc_ 81 rfl ?_); refine q_gl 22 #[.agg #[.int .i64 ((rd_T71 l b).f0), .int .i64 ((rd_T71 l b).f1), .int .i64 ((rd_T71 l b).f2), .int .i64 ((rd_T71 l b).f3), .int .i64 ((rd_T71 l b).f4), .int .i32 ((rd_T71 l b).f5), .slice a7 ((rd_T71 l b).f6).length a8], .int .i64 a2] Tryd.func81 rfl ?_; (with_reducible refine (r11_Uses.calls (q_C (Kd.C_below R.out y.out)) S.out e4.out).mono ?_); rintro e o3 ⟨rfl, hb⟩; refine ⟨_, rfl, ?_⟩; replace p := a_ (q_bk p.out hb); replace y := a_ (q_st1 y.out hb q.out); (clear hb); obtain ⟨d2, d3, d4, d5, d6, d7, d8, d9, e0, e1⟩ := q_cf5 p.out; have T : 0 ≤ (b : Int) := q_d; have U : b < (l.length : Int) := q_d; obtain ⟨b4, a9, b0, g2, D, E, F, G, I, J, L, M, N⟩ := at_T71 O.out b T U; obtain rfl : b3 = b4 := (by injection g2); replace D := q_kc y.out D; replace E := q_kc y.out E; replace F := q_kc y.out F; replace G := q_kc y.out G; replace I := q_kc y.out I; replace J := q_kc y.out J; replace L := q_kc y.out L; have V := a_ N; have X := a_ M; clear N M; replace T := eq_true T; replace U := eq_true U) | ((with_reducible refine gc_ 57 rfl ?_); refine q_gl 29 #[.agg #[.int .i64 ((rd_T71 l b).f0), .int .i64 ((rd_T71 l b).f1), .int .i64 ((rd_T71 l b).f2), .int .i64 ((rd_T71 l b).f3), .int .i64 ((rd_T71 l b).f4), .int .i32 ((rd_T71 l b).f5), .slice a9 ((rd_T71 l b).f6).length b0], .int .i64 a2] Tryd.func57 rfl ?_; (with_reducible refine (r11_Sets.calls (q_C (Kd.C_below V.out y.out)) X.out g9.out).mono ?_); rintro e o4 ⟨rfl, hb⟩; refine ⟨_, rfl, ?_⟩; replace p := a_ (q_bk p.out hb); replace y := a_ (q_st1 y.out hb q.out); (clear hb)))
 go_ret
 exact ⟨q_e, q_w1 y.out q.out⟩}}
 {
 rw [if_pos rfl] at H; obtain rfl := q_so H; obtain ⟨i1, i2, i3, i4, i5, i6, i7, i8, i9, j3⟩ := q_cf5 p.out; obtain ⟨p1, g4, g5, n2, n3, n4, n5, n6, n7, n8, n9, b1, b2, p4, p5⟩ := b_T71 O.out y.out b; cases n2; have e5 := a_ b2; have e6 := a_ b1; clear b2 b1; go_wp2_with (first | ((with_reducible refine gc_ 81 rfl ?_); refine q_gl 22 #[.agg #[.int .i64 ((rd_T71 l b).f0), .int .i64 ((rd_T71 l b).f1), .int .i64 ((rd_T71 l b).f2), .int .i64 ((rd_T71 l b).f3), .int .i64 ((rd_T71 l b).f4), .int .i32 ((rd_T71 l b).f5), .slice g4 ((rd_T71 l b).f6).length g5], .int .i64 a2] Tryd.func81 rfl ?_; (with_reducible refine (r11_Uses.calls (q_C (Kd.C_below e5.out y.out)) e6.out e4.out).mono ?_); rintro e q0 ⟨rfl, hb⟩; refine ⟨_, rfl, ?_⟩; replace p := a_ (q_bk p.out hb); replace y := a_ (q_st1 y.out hb q.out); (clear hb)))
 go_ret
 exact ⟨q_e, q_w1 y.out q.out⟩}}
 {
 replace H := q_iBN H; rcases H with ⟨-, c22b0, c22b1, H⟩ | ⟨p6, c22b0, c22b1, H⟩
 {
 replace H := q_iBN H; rcases H with ⟨-, c23b0, c23b1, H⟩ | ⟨p7, c23b0, c23b1, H⟩
 all_goals (
 obtain rfl := q_so H; obtain ⟨j5, j6, j7, j8, j9, k0, k2, k3, k4, k5⟩ := q_cf5 p.out; go_wp2
 go_ret
 exact ⟨q_e, q_w1 y.out q.out⟩)}
 {
 obtain rfl := q_so H; obtain ⟨k6, k7, k8, k9, l4, l5, l6, l7, l8, l9⟩ := q_cf5 p.out; go_wp2
 go_ret
 exact ⟨q_e, q_w1 y.out q.out⟩}}))
mutual
def r11_into.l0 : Nat → Int → List Bool → Bool → ByteArray → List (S83) → List (S85) → Int → List (S69) → Option (List Bool)
 | 0, _, _, _, _, _, _, _, _ => none
 | k + 1, C, B, D, l, p, q, y, b => if D = true then (r11_into.l1 k C B false 0 l p q y b) else (some B)
def r11_into.l1 : Nat → Int → List Bool → Bool → Int → ByteArray → List (S83) → List (S85) → Int → List (S69) → Option (List Bool)
 | 0, _, _, _, _, _, _, _, _, _ => none
 | k + 1, C, B, D, z, l, p, q, y, b => if z < (b.length : Int) then (if 0 ≤ z then (if z < (B.length : Int) then (if rdOf false B z = true then (r11_into.l1 k C B D (wrap64 (z + 1)) l p q y b) else ((r11_out.f k l p q y b B z).bind fun E => ((r11_before.f k ((rd_T69 b z).f0) ((rd_T69 b z).f1) ((rd_T69 b z).f2) ((rd_T69 b z).f3) ((rd_T69 b z).f4) 0 C E).bind fun F => (if F = true then (r11_into.l1 k C (B.set (z : Int).toNat true) true (wrap64 (z + 1)) l p q y b) else (r11_into.l1 k C B D (wrap64 (z + 1)) l p q y b))))) else (none)) else (none)) else (r11_into.l0 k C B D l p q y b)
end
def r11_into.f (k : Nat) (l : ByteArray) (p : List (S83)) (q : List (S85)) (y : Int) (b : List (S69)) (z : Int) : Option (List Bool) := if 0 ≤ (b.length : Int) then (if ((b.length : Int) : Int).toNat ≤ 281474976710656 then (r11_into.l0 k z (List.replicate ((b.length : Int) : Int).toNat false) true l p q y b) else (none)) else (none)
def r11_into.T8 : Bool × List (List Nat × List Nat) := (true, [([], []), ([], []), ([0, 1], [0, 1]), ([2], [2]), ([3], [3]), ([4], [4]), ([5], [5]), ([6, 5], [5, 6]), ([5], [5]), ([7, 8, 5], [5, 7, 8]), ([9, 5], [5, 9]), ([5], [5]), ([5], [5]), ([5], [5]), ([5], [5]), ([12, 13, 14, 5, 5], [5, 12, 13, 14]), ([10, 11, 15, 15, 5], [5, 10, 11, 15]), ([5, 16], [5, 16])])
def r11_into.B8 : List Nat := [0, 0, 3, 7, 15, 31, 63, 127, 63, 511, 1023, 63, 63, 63, 63, 28735, 65535, 131071]
theorem r11_into.tab8 : rtab .any (opsOf Tryd.f55 8) = r11_into.T8 := by kernel_rfl
theorem r11_into.bits8 : waitsOk r11_into.T8.2 r11_into.B8 = true := by kernel_rfl
theorem r11_into.calls {k : Nat} {G : ByteArray} {T : Option Addr} {U : Nat} {E : List (S83)} {V : Option Addr} {X : Nat} {F : List (S85)} {I : Int} {d7 : Option Addr} {a0 : Nat} {q : List (S69)} {a1 : Int} {r : List Bool} {w : World} (j6 : q5 w T U E V X F d7 a0 q) (h : r11_into.f k G E F I q a1 = some r) :
  Calls Tryd.prog 55 #[.agg #[.string G, .slice T E.length U, .slice V F.length X, .int .i64 I, .slice d7 q.length a0], .int .i64 a1] w fun e w' => ∃ v4 : Value, e = .returned (v4) ∧ Kd.R Kd.bool 4 w' w.heap.size (fun _ => True) v4 r ∧ Below w.heap.size w w' := by
 obtain ⟨_, _, _, _, f6, _⟩ := q_O j6; have w7 := Tryd.underlying26; have x6 := Tryd.underlying69; have z := a_ (Below.refl w.heap.size w); have H : (if 0 ≤ (q.length : Int) then (if ((q.length : Int) : Int).toNat ≤ 281474976710656 then (r11_into.l0 k a1 (List.replicate ((q.length : Int) : Int).toNat false) true G E F I q) else (none)) else (none)) = some r := h
 clear h; replace H := q_gED H; obtain ⟨-, c3b0, c3b1, H⟩ := H; replace H := q_gED H; obtain ⟨-, c4b0, c4b1, H⟩ := H; obtain ⟨o6, f7⟩ : ∃ y_ : List Bool, y_ = (List.replicate ((q.length : Int) : Int).toNat false) := ⟨_, rfl⟩; replace H : (r11_into.l0 k a1 o6 true G E F I q) = some r := q_rw f7 H
 have k4 := a_ f7; clear f7; have H' := a_ H
 clear H; go_enter Tryd.func55, Tryd.ntmps55
 go_wp2_with (first | ((with_reducible refine gd_ 2 rfl ?_); refine q_box 2 26 #[.string G, .slice T E.length U, .slice V F.length X, .int .i64 I, .slice d7 q.length a0] ?_; intro b4 hg x7 o7 hb; have l := a_ o7; have w8 := a_ (q_ge z.out hg); have L := a_ (q_ge z.out hg); replace z := a_ (q_st z.out hb); clear hb o7 hg; obtain ⟨i2, i3, i4, i5, i6, i7, i8, i9, j3, j5⟩ := q_cf5 l.out) | ((with_reducible refine gd_ 11 rfl ?_); refine Kd.R_make Kd.bool _ 4 rfl (N := 11) rfl 37 _ _ rfl (q.length : Int) rfl rfl Tryd.underlying37 (.bool false) 1 info4 rfl (by decide) (by omega) false (ok := fun _ => True) (okp := fun _ => True) rfl (fun _ hk => hk) trivial (q_d) (Nat.le_trans (Nat.mul_le_mul_right _ (q_d : (q.length : Int).toNat ≤ 281474976710656)) (by omega)) (Below.refl _ _) (Nat.le_refl _) ?_; intro o8 x8 b5 hb hg_ hnew_; clear hg_ hnew_; (first | rw [← k4.out] at b5 | (simp only [Int.reduceToNat] at b5; rw [← k4.out] at b5)); have p8 := a_ (Kd.R_lower b5 (below_size (q_w1 z.out L.out))); replace l := a_ (q_bk l.out hb); replace z := a_ (q_st1 z.out hb L.out); clear hb b5))
 go_loopg [6] k (fun kq k5 w' => ∃ (b2 : List Bool) (b3 : Bool), k5 = .bool b3 ∧ Aside0 (r11_into.l0 kq a1 b2 b3 G E F I q = some r) ∧ Aside0 (kq ≤ k) ∧ Aside0 (Kd.R Kd.bool 4 w' w.heap.size (fun _ => True) o8 b2) ∧ Aside0 (w'.heap[b4]? = some (.cells #[.string G, (.slice T E.length U), (.slice V F.length X), .int .i64 I, (.slice d7 q.length a0)] 26 (0, 0))) ∧ Aside0 (Below w.heap.size w w'))
 case atStart => exact ⟨(o6), (true), q_r, H', ⟨Nat.le_refl _⟩, ⟨q_R p8.out⟩, ⟨q_k l.out⟩, ⟨q_w1 z.out L.out⟩⟩
 case round => (
 clear H'; clear c3b0 c3b1 c4b0 c4b1 i2 i3 i4 i5 i6 i7 i8 i9 j3 j5; obtain ⟨b2, b3, rfl, HA, d8, HO_5, l, z⟩ := hrel; cases gk with
 | zero => exact absurd HA.out (by simp [r11_into.l0])
 | succ k1 => (
 have H := HA.out; clear HA; simp only [r11_into.l0] at H
 cases b3
 {
 replace H := q_if H; obtain rfl := q_so H; go_wp2
 go_ret
 exact ⟨_, q_e, q_R HO_5.out, q_w1 z.out L.out⟩}
 {
 rw [if_pos rfl] at H; have H' := a_ H
 clear H; go_wp2
 go_loopg [6, 7] k1 (fun kq k5 v5 w' => ∃ (y : List Bool) (M : Bool) (b : Int), k5 = .bool M ∧ v5 = .int .i64 b ∧ Aside0 (r11_into.l1 kq a1 y M b G E F I q = some r) ∧ Aside0 (kq ≤ k1) ∧ Aside0 (Kd.R Kd.bool 4 w' w.heap.size (fun _ => True) o8 y) ∧ Aside0 (w'.heap[b4]? = some (.cells #[.string G, (.slice T E.length U), (.slice V F.length X), .int .i64 I, (.slice d7 q.length a0)] 26 (0, 0))) ∧ Aside0 (Below w.heap.size w w'))
 case atStart => exact ⟨(b2), (false), (0), q_r, q_r, H', ⟨Nat.le_refl _⟩, ⟨q_R HO_5.out⟩, ⟨q_k l.out⟩, ⟨q_w1 z.out L.out⟩⟩
 case round => (
 clear H'; obtain ⟨y, M, b, rfl, rfl, HA, d9, HO_5, l, z⟩ := hrel; cases gk with
 | zero => exact absurd HA.out (by simp [r11_into.l1])
 | succ k2 => (
 have H := HA.out; clear HA; simp only [r11_into.l1] at H
 rcases q_ite H with ⟨c10b0, H⟩ | ⟨c10b0, H⟩
 {
 replace H := q_gD H; obtain ⟨-, c11b0, H⟩ := H; replace H := q_gD H; obtain ⟨-, c12b0, H⟩ := H; obtain ⟨k6, d4⟩ : ∃ b_ : Bool, b_ = (rdOf false y b) := ⟨_, rfl⟩; replace H : (if k6 = true then (r11_into.l1 k2 a1 y M (wrap64 (b + 1)) G E F I q) else ((r11_out.f k2 G E F I q y b).bind fun g3 => ((r11_before.f k2 ((rd_T69 q b).f0) ((rd_T69 q b).f1) ((rd_T69 q b).f2) ((rd_T69 q b).f3) ((rd_T69 q b).f4) 0 a1 g3).bind fun k7 => (if k7 = true then (r11_into.l1 k2 a1 (y.set (b : Int).toNat true) true (wrap64 (b + 1)) G E F I q) else (r11_into.l1 k2 a1 y M (wrap64 (b + 1)) G E F I q))))) = some r := by rw [← d4] at H; exact H
 have d5 := a_ d4; clear d4; cases k6
 {
 replace H := q_if H; replace H := q_bd H; obtain ⟨g3, o9, H⟩ := H; have v7 := a_ o9; clear o9; replace H := q_bd H; obtain ⟨k7, p0, H⟩ := H; have p1 := a_ p0; clear p0; by_cases g5 : k7 = true
 focus (
 subst g5; rw [if_pos rfl] at H; obtain ⟨l7, f9⟩ : ∃ y_ : List Bool, y_ = (y.set (b : Int).toNat true) := ⟨_, rfl⟩; replace H : (r11_into.l1 k2 a1 l7 true (wrap64 (b + 1)) G E F I q) = some r := q_rw f9 H
 have q0 := a_ f9; clear f9; have H' := a_ H
 clear H; obtain ⟨r4, r5, r6, r7, r8, r9, s0, s1, s2, s3⟩ := q_cf5 l.out; try go_wp2
 have e0 := a_ (Kd.R_drew HO_5.out); have e1 := a_ (blk_drew l.out); have e2 := a_ (below_drew1 z.out); clear HO_5 l z; have HO_5 := e0; have l := e1; have z := e2; clear e0 e1 e2; obtain ⟨x1, l8, l9⟩ := Kd.R_slice HO_5.out; (first | subst l9 | (injection l9 with e3 k9 e4; have l4 := e3.symm; have b6 := e4.symm; clear e3 k9 e4; subst l4; subst b6))
 have b8 : 0 ≤ (b : Int) := q_d
 have b9 : b < (y.length : Int) := q_d
 obtain ⟨b1, n0, J⟩ := Kd.at_bool (Kd.R_reads' HO_5.out).2.2 b b8 b9; (try rw [← d5.out] at J)
 cases n0; replace b8 := eq_true b8; replace b9 := eq_true b9; have n1 : 0 ≤ (b : Int) := q_d
 have n2 : b < (q.length : Int) := q_d
 obtain ⟨d6, g6, g7, v8, a2, a3, a4, a5, a6, e5, e6⟩ := at_T69 f6.out b n1 n2; have c0 := a6; have c1 := a5; have c3 := a4; have c4 := a3; have c6 := a2; cases v8; replace a2 := q_kc z.out a2; replace a3 := q_kc z.out a3; replace a4 := q_kc z.out a4; replace a5 := q_kc z.out a5; replace a6 := q_kc z.out a6; have e7 := a_ e6; have n3 := a_ e5; clear e6 e5; replace n1 := eq_true n1; replace n2 := eq_true n2; refine q_s 18 (S := fun w' => cg5 w' b4 (.string G) (.slice T E.length U) (.slice V F.length X) (.int .i64 I) (.slice (some d6) q.length a0) (w'.cell? (b1.add (b).toNat) = some (.bool false) ∧ cp5_ w' (d6.add ((b).toNat * 5)) (.slice g6 ((rd_T69 q b).f0).length g7) (.int .i64 ((rd_T69 q b).f1)) (.int .i64 ((rd_T69 q b).f2)) (.int .i64 ((rd_T69 q b).f3)) (.int .i64 ((rd_T69 q b).f4)))) (q_g5 l.out ⟨J, (q_kc z.out c6), (q_kc z.out c4), (q_kc z.out c3), (q_kc z.out c1), (q_kc z.out c0)⟩) (fun D => ?_); refine with_tabW r11_into.tab8 r11_into.bits8 (fun B f8 => ?_)
 generalize wr.drew = v9 at HO_5 l z e7 J a2 a3 a4 a5 a6 D ⊢)
 rotate_left
 focus (
 replace g5 := q_bf g5; subst g5; replace H := q_if H; have H' := a_ H
 clear H; obtain ⟨s4, s5, s6, s7, s8, s9, t0, t1, t2, t3⟩ := q_cf5 l.out; try go_wp2
 have e0 := a_ (Kd.R_drew HO_5.out); have e1 := a_ (blk_drew l.out); have e2 := a_ (below_drew1 z.out); clear HO_5 l z; have HO_5 := e0; have l := e1; have z := e2; clear e0 e1 e2; obtain ⟨x2, q1, n4⟩ := Kd.R_slice HO_5.out; (first | subst n4 | (injection n4 with e3 k9 e4; have l4 := e3.symm; have b6 := e4.symm; clear e3 k9 e4; subst l4; subst b6))
 have n5 : 0 ≤ (b : Int) := q_d
 have n6 : b < (y.length : Int) := q_d
 obtain ⟨n7, w2, c8⟩ := Kd.at_bool (Kd.R_reads' HO_5.out).2.2 b n5 n6; (try rw [← d5.out] at c8)
 cases w2; replace n5 := eq_true n5; replace n6 := eq_true n6; have b8 : 0 ≤ (b : Int) := q_d
 have b9 : b < (q.length : Int) := q_d
 obtain ⟨b1, g8, g9, n0, J, a7, a8, a9, b0, e8, e9⟩ := at_T69 f6.out b b8 b9; have c9 := b0; have d0 := a9; have d1 := a8; have d2 := a7; have d3 := J; cases n0; replace J := q_kc z.out J; replace a7 := q_kc z.out a7; replace a8 := q_kc z.out a8; replace a9 := q_kc z.out a9; replace b0 := q_kc z.out b0; have f5 := a_ e9; have n8 := a_ e8; clear e9 e8; replace b8 := eq_true b8; replace b9 := eq_true b9; refine q_s 18 (S := fun w' => cg5 w' b4 (.string G) (.slice T E.length U) (.slice V F.length X) (.int .i64 I) (.slice (some b1) q.length a0) (w'.cell? (n7.add (b).toNat) = some (.bool false) ∧ cp5_ w' (b1.add ((b).toNat * 5)) (.slice g8 ((rd_T69 q b).f0).length g9) (.int .i64 ((rd_T69 q b).f1)) (.int .i64 ((rd_T69 q b).f2)) (.int .i64 ((rd_T69 q b).f3)) (.int .i64 ((rd_T69 q b).f4)))) (q_g5 l.out ⟨c8, (q_kc z.out d3), (q_kc z.out d2), (q_kc z.out d1), (q_kc z.out d0), (q_kc z.out c9)⟩) (fun D => ?_); refine with_tabW r11_into.tab8 r11_into.bits8 (fun B f8 => ?_)
 generalize wr.drew = y1 at HO_5 l z f5 c8 J a7 a8 a9 b0 D ⊢)
 all_goals (
 refine qv_ 0 B ?_
 refine qv_ 1 B ?_
 refine qv_ 2 B ?_
 refine qt11_ 3 B f8 D ?_
 refine qv_ 4 B ?_
 refine qv_ 5 B ?_
 refine qv_ 6 B ?_
 refine qv_ 8 B ?_
 refine qv_ 11 B ?_
 refine qv_ 13 B ?_
 refine qv_ 14 B ?_
 refine qt11_ 7 B f8 D ?_
 refine qv_ 9 B ?_
 refine qt11_ 10 B f8 D ?_
 refine qt11_ 12 B f8 D ?_
 refine q_o 15 B (fun K hK => ?_))
 focus (
 refine q_go #[.agg #[.string G, .slice T E.length U, .slice V F.length X, .int .i64 I, .slice (some b1) q.length a0], .slice (some n7) y.length q1, .int .i64 b] Tryd.func41 rfl ?_)
 rotate_left
 focus (
 refine q_go #[.agg #[.string G, .slice T E.length U, .slice V F.length X, .int .i64 I, .slice (some d6) q.length a0], .slice (some b1) y.length l8, .int .i64 b] Tryd.func41 rfl ?_)
 all_goals (
 with_reducible refine (r11_out.calls (q_F j6 z.out) ?side7 ((Kd.R_reads' HO_5.out).2.1) v7.out).mono ?_
 (case side7 => repeat (first | exact (Kd.R_reads' HO_5.out).2.2 | with_reducible first | refine Kd.C_alloc ?_ _ | refine Kd.C_drewN ?_ _ | refine Kd.C_drew ?_)))
 rotate_left
 focus (
 rintro e v9 ⟨rfl, hb⟩
 have O := q_kc hb (D.2.2.2.2.2.1); refine ⟨_, rfl, ?_⟩
 replace HO_5 := a_ (Kd.R_below (q_R HO_5.out) hb); replace l := a_ (q_bk l.out hb); replace z := a_ (q_st1 z.out hb L.out); (clear hb)
 refine q_nk hK.out (q_g5 l.out ⟨O, (q_kc z.out d3), (q_kc z.out d2), (q_kc z.out d1), (q_kc z.out d0), (q_kc z.out c9)⟩) (fun D => ?_)
 clear hK K
 refine q_o 16 B (fun K hK => ?_)
 refine q_go #[.agg #[.slice g8 ((rd_T69 q b).f0).length g9, .int .i64 ((rd_T69 q b).f1), .int .i64 ((rd_T69 q b).f2), .int .i64 ((rd_T69 q b).f3), .int .i64 ((rd_T69 q b).f4)], .int .i64 0, .int .i64 a1, .bool g3] Tryd.func71 rfl ?_
 with_reducible refine (r11_before.calls (q_C (Kd.C_below f5.out z.out)) n8.out p1.out).mono ?_)
 all_goals (
 rintro e y2 ⟨rfl, hb⟩
 have O := q_kc hb (D.2.2.2.2.2.1); refine ⟨_, rfl, ?_⟩)
 focus (
 replace HO_5 := a_ (Kd.R_below (q_R HO_5.out) hb); replace l := a_ (q_bk l.out hb); replace z := a_ (q_st1 z.out hb L.out); (clear hb)
 refine q_nk hK.out (q_g5 l.out ⟨O, (q_kc z.out d3), (q_kc z.out d2), (q_kc z.out d1), (q_kc z.out d0), (q_kc z.out c9)⟩) (fun D => ?_))
 rotate_left
 focus (
 replace HO_5 := a_ (Kd.R_below (q_R HO_5.out) hb); replace l := a_ (q_bk l.out hb); replace z := a_ (q_st1 z.out hb L.out); (clear hb)
 refine q_nk hK.out (q_g5 l.out ⟨O, (q_kc z.out c6), (q_kc z.out c4), (q_kc z.out c3), (q_kc z.out c1), (q_kc z.out c0)⟩) (fun D => ?_)
 clear hK K
 refine q_o 16 B (fun K hK => ?_)
 refine q_go #[.agg #[.slice g6 ((rd_T69 q b).f0).length g7, .int .i64 ((rd_T69 q b).f1), .int .i64 ((rd_T69 q b).f2), .int .i64 ((rd_T69 q b).f3), .int .i64 ((rd_T69 q b).f4)], .int .i64 0, .int .i64 a1, .bool g3] Tryd.func71 rfl ?_
 with_reducible refine (r11_before.calls (q_C (Kd.C_below e7.out z.out)) n3.out p1.out).mono ?_
 rintro e p2 ⟨rfl, hb⟩
 have O := q_kc hb (D.2.2.2.2.2.1); refine ⟨_, rfl, ?_⟩
 replace HO_5 := a_ (Kd.R_below (q_R HO_5.out) hb); replace l := a_ (q_bk l.out hb); replace z := a_ (q_st1 z.out hb L.out); (clear hb)
 refine q_nk hK.out (q_g5 l.out ⟨O, (q_kc z.out c6), (q_kc z.out c4), (q_kc z.out c3), (q_kc z.out c1), (q_kc z.out c0)⟩) (fun D => ?_))
 all_goals (
 clear hK K
 refine qv_ 17 B ?_
 refine done_ (done_of B.out (by kernel_rfl)) ?_)
 {
 have n9 : 0 ≤ (b : Int) := q_d
 have o0 : (b : Int) < ((y.length : Int) : Int) := q_d
 obtain ⟨g0, x3, o1, o2, q2, x4, o3⟩ := Kd.R_form HO_5.out (by omega)
 (first | cases o1 | (injection o1 with ea_ en_ ec_; (first | subst ea_ | (injection ea_ with ea_; subst ea_)); subst ec_; clear en_))
 have q3 := a_ o2; have x5 := a_ o3; clear o2 q2 o3; (first | simp only [add_plain] at J | skip)
 obtain ⟨w3, w4⟩ := Kd.R_celln false HO_5.out (b : Int) n9 o0; replace n9 := eq_true n9; replace o0 := eq_true o0; obtain ⟨w5, w6⟩ := Kd.R_celln false HO_5.out (b : Int) (q_d) (q_d); have g1 := Kd.R_putg HO_5.out (b : Int) true; try go_wp2_with (first | ((with_reducible refine gate_store (t := 4) (p := 40) rfl ?_); refine store_event (t := 4) (p := 40) (v := ?vo_w28) (w1 := (p2.setCell ⟨g0, (b : Int).toNat, none⟩ (.bool true))) ?hg ?ho ?hn ?hr ?_; (case ho => rfl); (case hg => rfl); (case hn => rfl); (case hr => first | (go_simp; done) | (go_simp; rfl)); intro o4 hw; have hg : p2.grownBy o4 (some g0) := (by rw [hw]; exact g1.2); have hp_ : Kd.R Kd.bool 4 o4 w.heap.size (fun _ => True) (.slice (some ⟨g0, 0, none⟩) y.length l8) l7 := (by rw [hw, q0.out]; exact g1.1); clear g1; replace z := a_ (by rw [hw]; exact below_set (z.out) q3.out : Below w.heap.size w o4); replace l := a_ (blk_grown (g := b4) (o := .cells #[.string G, .slice T E.length U, .slice V F.length X, .int .i64 I, .slice (some d6) q.length a0] 26 (0, 0)) (q_k l.out) hg (Kd.R_ne HO_5.out l.out (by decide))); replace HO_5 := a_ hp_; clear hg hw hp_))
 go_roundg k2
 case measure => have := d8.out; have := d9.out; omega
 case rel => exact ⟨(l7), (true), (wrap64 (b + 1)), q_r, q_r, H', ⟨by have := d8.out; have := d9.out; omega⟩, ⟨q_R HO_5.out⟩, ⟨q_k l.out⟩, ⟨q_w1 z.out L.out⟩⟩}
 {
 try go_wp2
 go_roundg k2
 case measure => have := d8.out; have := d9.out; omega
 case rel => exact ⟨(y), (M), (wrap64 (b + 1)), q_r, q_r, H', ⟨by have := d8.out; have := d9.out; omega⟩, ⟨q_R HO_5.out⟩, ⟨q_k l.out⟩, ⟨q_w1 z.out L.out⟩⟩}}
 {
 rw [if_pos rfl] at H; have H' := a_ H
 clear H; obtain ⟨q4, q5, q6, q7, q8, q9, r0, r1, r2, r3⟩ := q_cf5 l.out; try go_wp2
 have e0 := a_ (Kd.R_drew HO_5.out); have e1 := a_ (blk_drew l.out); have e2 := a_ (below_drew1 z.out); clear HO_5 l z; have HO_5 := e0; have l := e1; have z := e2; clear e0 e1 e2; obtain ⟨w9, x0, k8⟩ := Kd.R_slice HO_5.out; (first | subst k8 | (injection k8 with e3 k9 e4; have l4 := e3.symm; have b6 := e4.symm; clear e3 k9 e4; subst l4; subst b6))
 have l5 : 0 ≤ (b : Int) := q_d
 have l6 : b < (y.length : Int) := q_d
 obtain ⟨p9, v6, b7⟩ := Kd.at_bool (Kd.R_reads' HO_5.out).2.2 b l5 l6; (try rw [← d5.out] at b7)
 cases v6; replace l5 := eq_true l5; replace l6 := eq_true l6; refine q_s 18 (S := fun w' => w'.cell? (p9.add (b).toNat) = some (.bool true)) (b7) (fun D => ?_); refine with_tabW r11_into.tab8 r11_into.bits8 (fun B f8 => ?_)
 generalize wr.drew = y0 at HO_5 l z b7 D ⊢
 refine qv_ 0 B ?_
 refine qv_ 1 B ?_
 refine qv_ 2 B ?_
 refine qt_ 3 B f8 D ?_
 refine qv_ 4 B ?_
 refine qv_ 5 B ?_
 refine qu_ 6 B ?_
 refine qu_ 7 B ?_
 refine qu_ 8 B ?_
 refine qu_ 9 B ?_
 refine qu_ 10 B ?_
 refine qu_ 11 B ?_
 refine qu_ 12 B ?_
 refine qu_ 13 B ?_
 refine qu_ 14 B ?_
 refine qu_ 15 B ?_
 refine qu_ 16 B ?_
 refine qv_ 17 B ?_
 refine done_ (done_of B.out (by kernel_rfl)) ?_
 try go_wp2
 go_roundg k2
 case measure => have := d8.out; have := d9.out; omega
 case rel => exact ⟨(y), (M), (wrap64 (b + 1)), q_r, q_r, H', ⟨by have := d8.out; have := d9.out; omega⟩, ⟨q_R HO_5.out⟩, ⟨q_k l.out⟩, ⟨q_w1 z.out L.out⟩⟩}}
 {
 have H' := a_ H
 clear H; obtain ⟨t4, t5, t6, t7, t8, t9, v0, v1, v2, v3⟩ := q_cf5 l.out; go_wp2
 go_roundg k2
 case measure => have := d8.out; have := d9.out; omega
 case rel => exact ⟨(y), (M), q_r, H', ⟨by have := d8.out; have := d9.out; omega⟩, ⟨q_R HO_5.out⟩, ⟨q_k l.out⟩, ⟨q_w1 z.out L.out⟩⟩}))}))
def r11_Live.l0 : Nat → List (List Bool) → Int → ByteArray → List (S83) → List (S85) → Int → List (S69) → Option ((List (List Bool)))
 | 0, _, _, _, _, _, _, _ => none
 | k + 1, B, C, l, p, q, b, y => if C < b then ((r11_into.f k l p q b y C).bind fun z => (if B.length < 5864062014805 then (r11_Live.l0 k (B ++ [z]) (wrap64 (C + 1)) l p q b y) else (none))) else (some B)
def r11_Live.f (k : Nat) (b : ByteArray) (l : List (S83)) (p : List (S85)) (q : Int) (y : List (S69)) : Option ((List (List Bool))) := r11_Live.l0 k ([] : List (List Bool)) 0 b l p q y
theorem r11_Live.calls (k : Nat) (B : ByteArray) (E : Option Addr) (F : Nat) (p : List (S83)) (G : Option Addr) (I : Nat) (q : List (S85)) (D : Int) (J : Option Addr) (L : Nat) (y : List (S69)) (r : List (List Bool)) (w : World) (V : q5 w E F p G I q J L y) (h : r11_Live.f k B p q D y = some r) :
  Calls Tryd.prog 40 #[.agg #[.string B, .slice E p.length F, .slice G q.length I, .int .i64 D, .slice J y.length L]] w fun e w' => ∃ b6 : Value, e = .returned (b6) ∧ Kd.S (Kd.slice 4 Kd.bool) 37 w' w.heap.size (fun _ => True) b6 r ∧ Below w.heap.size w w' := by
 have f1 := Tryd.underlying26; have O := a_ (Below.refl w.heap.size w); have H : (r11_Live.l0 k ([] : List (List Bool)) 0 B p q D y) = some r := h
 clear h; have H' := a_ H
 clear H; go_enter Tryd.func40, Tryd.ntmps40
 go_wp2_with (first | ((with_reducible refine gd_ 1 rfl ?_); refine q_box 1 26 #[.string B, .slice E p.length F, .slice G q.length I, .int .i64 D, .slice J y.length L] ?_; intro a4 hg w2 a5 hb; have l := a_ a5; have e9 := a_ (q_ge O.out hg); have z := a_ (q_ge O.out hg); replace O := a_ (q_st O.out hb); clear hb a5 hg))
 go_loopg [3, 4] k (fun kq v3 v4 w' => ∃ (R : List (List Bool)) (M : Int), v4 = .int .i64 M ∧ Aside0 (r11_Live.l0 kq R M B p q D y = some r) ∧ Aside0 (kq ≤ k) ∧ Aside0 (Kd.S (Kd.slice 4 Kd.bool) 37 w' w.heap.size (fun _ => True) v3 R) ∧ Aside0 (w'.heap[a4]? = some (.cells #[.string B, (.slice E p.length F), (.slice G q.length I), .int .i64 D, (.slice J y.length L)] 26 (0, 0))) ∧ Aside0 (Below w.heap.size w w'))
 case atStart => exact ⟨(([] : List (List Bool))), (0), q_r, H', ⟨Nat.le_refl _⟩, ⟨by first | exact Kd.S_nil _ _ _ _ _ | exact Kd.N_nil _ _ _ _ _ | exact Kd.V_nil _ _ _ _ _ | exact Kd.Q_nil _ _ _ _ _ | exact Kd.R_nil _ _ _ _ _⟩, ⟨q_k l.out⟩, ⟨q_w1 O.out z.out⟩⟩
 case round => (
 clear H'; obtain ⟨R, M, rfl, HA, b7, HO_3, l, O⟩ := hrel; cases gk with
 | zero => exact absurd HA.out (by simp [r11_Live.l0])
 | succ k1 => (
 have H := HA.out; clear HA; simp only [r11_Live.l0] at H
 rcases q_ite H with ⟨c3b0, H⟩ | ⟨c3b0, H⟩
 {
 replace H := q_bd H; obtain ⟨U, b8, H⟩ := H; have A4 := a_ b8; clear b8; replace H := q_g H; obtain ⟨c5, H⟩ := H; have b9 := a_ c5; clear c5; obtain ⟨a6, T⟩ : ∃ y_ : List (List Bool), y_ = (R ++ [U]) := ⟨_, rfl⟩; replace H : (r11_Live.l0 k1 a6 (wrap64 (M + 1)) B p q D y) = some r := q_rw T H
 have b3 := a_ T; clear T; have H' := a_ H
 clear H; obtain ⟨d9, e0, e1, e2, e3, e4, e5, e6, e7, e8⟩ := q_cf5 l.out; go_wp2_with (first | ((with_reducible refine gc_ 55 rfl ?_); refine q_gl 14 #[.agg #[.string B, .slice E p.length F, .slice G q.length I, .int .i64 D, .slice J y.length L], .int .i64 M] Tryd.func55 rfl ?_; (with_reducible refine (r11_into.calls (q_F V O.out) A4.out).mono ?_); rintro e w7 ⟨f3, rfl, b4, hb⟩; refine ⟨_, rfl, ?_⟩; have N := a_ (Kd.R_lower b4 (below_size (q_w1 O.out z.out))); replace HO_3 := a_ (Kd.S_elder' (q_S HO_3.out) (Kd.R_base b4) hb); replace l := a_ (q_bk l.out hb); replace O := a_ (q_st1 O.out hb z.out); clear hb b4; obtain ⟨c0, c1, f0⟩ := Kd.R_slice N.out; subst f0) | ((with_reducible refine gate_builtin (b := .append) (xs := #[.tmp 11, .tmp 15]) rfl ?_); at_builtin; refine Kd.S_append (Kd.slice 4 Kd.bool) (w0 := w) w.heap.size rfl (.tmp 11) (.tmp 15) 77 37 (.slice none 0 0) 24 rfl Tryd.underlying77 info37 rfl (by decide) (by omega) u3 R U [.slice c0 U.length c1] (fun _ => True) (fun k_ => some k_ = (.slice c0 U.length c1 : Value).ownBlock) rfl rfl ?aP (fun k_ hk_ => ((Kd.R_mono (ok' := fun k_ => ((fun _ => True)) k_ ∧ some k_ ≠ (u3 : Value).ownBlock) (Kd.R_apart' (N.out) (Kd.S_typed HO_3.out) (by decide)) (fun k_ hk => ⟨trivial, hk.2⟩))).1 k_ hk_.symm) ?aF ?aO ?aB ?aS ?aL ?_; (case aP => exact Kd.M_row (Kd.R_mono (Kd.R_tight rfl (Kd.R_mono (ok' := fun k_ => ((fun _ => True)) k_ ∧ some k_ ≠ (u3 : Value).ownBlock) (Kd.R_apart' (N.out) (Kd.S_typed HO_3.out) (by decide)) (fun k_ hk => ⟨trivial, hk.2⟩))) (fun _ h_ => h_))); (case aB => exact (q_w1 O.out z.out)); (case aF => exact (fun _ _ => trivial)); (case aO => exact (q_S (Kd.S_mono HO_3.out (fun k_ hk => ⟨trivial, fun e_ => hk.2 e_⟩)))); (case aS => exact (below_size (q_w1 O.out z.out))); (case aL => have := b9.out; omega); intro f4 w8 ho hb hg hat; rw [← b3.out] at ho; have c3 := a_ (blk_grown (g := a4) (o := .cells #[.string B, .slice E p.length F, .slice G q.length I, .int .i64 D, .slice J y.length L] 26 (0, 0)) (q_k l.out) hg (Kd.S_ne HO_3.out l.out (by decide))); have c4 := a_ hb; have c6 := a_ ho; clear l; clear O; clear HO_3; clear N; have l := c3; have O := c4; have b5 := c6; clear c3 c4 c6; clear ho hb hg hat))
 go_roundg k1
 case measure => have := b7.out; omega
 case rel => exact ⟨(a6), (wrap64 (M + 1)), q_r, H', ⟨by have := b7.out; omega⟩, ⟨q_S b5.out⟩, ⟨q_k l.out⟩, ⟨q_w1 O.out z.out⟩⟩}
 {
 obtain rfl := q_so H; obtain ⟨c8, c9, d0, d1, d2, d3, d4, d5, d6, d7⟩ := q_cf5 l.out; go_wp2
 go_ret
 exact ⟨_, q_e, q_S HO_3.out, q_w1 O.out z.out⟩}))
mutual
def l6_Wide.j0 : Nat → Int → Bool → ByteArray → List (S83) → List (S85) → Int → List (S69) → Option (Bool)
 | 0, _, _, _, _, _, _, _ => none
 | k + 1, z, F, q, l, p, y, b => if F = true then (some true) else (l6_Wide.l0 k z 0 q l p y b)
def l6_Wide.l0 : Nat → Int → Int → ByteArray → List (S83) → List (S85) → Int → List (S69) → Option (Bool)
 | 0, _, _, _, _, _, _, _ => none
 | k + 1, z, C, q, l, p, y, b => if C < (l.length : Int) then (if 0 ≤ C then (if (((rd_T83 l C).f0).size : Int) > 100 then (some true) else (l6_Wide.l0 k z (wrap64 (C + 1)) q l p y b)) else (none)) else (l6_Wide.l1 k z 0 q l p y b)
def l6_Wide.l1 : Nat → Int → Int → ByteArray → List (S83) → List (S85) → Int → List (S69) → Option (Bool)
 | 0, _, _, _, _, _, _, _ => none
 | k + 1, z, D, q, l, p, y, b => if D < (p.length : Int) then (if 0 ≤ D then (if (((rd_T85 p D).f0).size : Int) > 100 then (some true) else (l6_Wide.l1 k z (wrap64 (D + 1)) q l p y b)) else (none)) else (l6_Wide.l2 k z 0 q l p y b)
def l6_Wide.l2 : Nat → Int → Int → ByteArray → List (S83) → List (S85) → Int → List (S69) → Option (Bool)
 | 0, _, _, _, _, _, _, _ => none
 | k + 1, z, B, q, l, p, y, b => if B < (b.length : Int) then (l6_Wide.j4 k z B (decide (z ≤ 400)) q l p y b) else (l6_Wide.j4 k z B false q l p y b)
def l6_Wide.j4 : Nat → Int → Int → Bool → ByteArray → List (S83) → List (S85) → Int → List (S69) → Option (Bool)
 | 0, _, _, _, _, _, _, _, _ => none
 | k + 1, z, B, G, q, l, p, y, b => if G = true then (if 0 ≤ B then (if B < (b.length : Int) then (l6_Wide.l3 k (wrap64 (z + (((rd_T69 b B).f0).length : Int))) B 0 q l p y b) else (none)) else (none)) else (some (decide (z > 400)))
def l6_Wide.l3 : Nat → Int → Int → Int → ByteArray → List (S83) → List (S85) → Int → List (S69) → Option (Bool)
 | 0, _, _, _, _, _, _, _, _ => none
 | k + 1, z, B, E, q, l, p, y, b => if 0 ≤ B then (if B < (b.length : Int) then (if E < (((rd_T69 b B).f0).length : Int) then (if z ≤ 400 then (if 0 ≤ E then (l6_Wide.l3 k (wrap64 (z + (((rd_T71 ((rd_T69 b B).f0) E).f6).length : Int))) B (wrap64 (E + 1)) q l p y b) else (none)) else (l6_Wide.l2 k z (wrap64 (B + 1)) q l p y b)) else (l6_Wide.l2 k z (wrap64 (B + 1)) q l p y b)) else (none)) else (none)
end
def l6_Wide.f (k : Nat) (q : ByteArray) (b : List (S83)) (l : List (S85)) (y : Int) (p : List (S69)) : Option (Bool) := if (wrap64 ((wrap64 ((p.length : Int) + (b.length : Int))) + (l.length : Int))) > 400 then (l6_Wide.j0 k (wrap64 ((wrap64 ((p.length : Int) + (b.length : Int))) + (l.length : Int))) true q b l y p) else (l6_Wide.j0 k (wrap64 ((wrap64 ((p.length : Int) + (b.length : Int))) + (l.length : Int))) (decide ((q.size : Int) > 100)) q b l y p)
theorem l6_Wide.calls {k : Nat} {B : ByteArray} {S : Option Addr} {T : Nat} {q : List (S83)} {U : Option Addr} {V : Nat} {y : List (S85)} {D : Int} {a7 : Option Addr} {X : Nat} {p : List (S69)} {r : Bool} {w : World} (n0 : q5 w S T q U V y a7 X p) (h : l6_Wide.f k B q y D p = some r) :
  Calls Tryd.prog 26 #[.agg #[.string B, .slice S q.length T, .slice U y.length V, .int .i64 D, .slice a7 p.length X]] w fun e w' => e = .returned (.bool r) ∧ Below w.heap.size w w' := by
 obtain ⟨n6, _, n7, _, c8, _⟩ := q_O n0; have y0 := Tryd.underlying26; have E := a_ (Below.refl w.heap.size w); have H : (if (wrap64 ((wrap64 ((p.length : Int) + (q.length : Int))) + (y.length : Int))) > 400 then (l6_Wide.j0 k (wrap64 ((wrap64 ((p.length : Int) + (q.length : Int))) + (y.length : Int))) true B q y D p) else (l6_Wide.j0 k (wrap64 ((wrap64 ((p.length : Int) + (q.length : Int))) + (y.length : Int))) (decide ((B.size : Int) > 100)) B q y D p)) = some r := h
 clear h; have r0 := a_ H; clear H; go_enter Tryd.func26, Tryd.ntmps26
 go_upto_region 2 with (first | ((with_reducible refine gd_ 1 rfl ?_); (try (refine gate_guard (by rfl) ?_; dsimp only)); refine q_box 1 26 #[.string B, .slice S q.length T, .slice U y.length V, .int .i64 D, .slice a7 p.length X] ?_; intro a3 hg w3 q9 hb; have b := a_ q9; have x4 := a_ (q_ge E.out hg); have z := a_ (q_ge E.out hg); replace E := a_ (q_st E.out hb); clear hb q9 hg; obtain ⟨p7, p8, p9, q0, q1, q2, q3, q4, q5, q6⟩ := q_cf5 b.out))
 (try simp only [Act.put, List.setIfInBounds_toArray, List.set_cons_zero, List.set_cons_succ])
 go_cut [26] (fun x5 wc => ∃ (kq : Nat) (c9 : Bool), x5 = .bool c9 ∧ Aside0 (l6_Wide.j0 kq (wrap64 ((wrap64 ((p.length : Int) + (q.length : Int))) + (y.length : Int))) c9 B q y D p = some r) ∧ Aside0 (kq ≤ k) ∧ Aside0 (wc.heap[a3]? = some (.cells #[.string B, (.slice S q.length T), (.slice U y.length V), .int .i64 D, (.slice a7 p.length X)] 26 (0, 0))) ∧ Aside0 (Below w.heap.size w wc))
 case first => (
 have H := r0.out; clear r0; rcases q_ite H with ⟨c5b0, H⟩ | ⟨c5b0, H⟩
 all_goals (
 (first | rw [c5b0] | (simp only [i64_w, i32_w]; rw [c5b0]) | skip)
 have H' := a_ H)
 {
 clear H; go_wp2
 go_meet
 case rel => exact ⟨_, (true), q_r, H', ⟨by first | omega | exact Nat.le_refl _⟩, ⟨q_k b.out⟩, ⟨q_w1 E.out z.out⟩⟩}
 {
 clear H; obtain ⟨b3, b4, b5, b6, b7, b8, b9, c0, c1, c3⟩ := q_cf5 b.out; go_wp2
 go_meet
 case rel => exact ⟨_, (decide ((B.size : Int) > 100)), q_r, H', ⟨by first | omega | exact Nat.le_refl _⟩, ⟨q_k b.out⟩, ⟨q_w1 E.out z.out⟩⟩})
 case rest => (
 clear r0 p7 p8 p9 q0 q1 q2 q3 q4 q5 q6; obtain ⟨kq, c9, rfl, HA, a9, b, E⟩ := hcut; cases kq with
 | zero => exact absurd HA.out (by simp [l6_Wide.j0])
 | succ s4 => (
 have H := HA.out; clear HA; simp only [l6_Wide.j0] at H
 cases c9
 {
 replace H := q_if H; have H' := a_ H
 clear H; go_wp2
 go_loopg [4] s4 (fun kq v4 w' => ∃ (a8 : Int), v4 = .int .i64 a8 ∧ Aside0 (l6_Wide.l0 kq (wrap64 ((wrap64 ((p.length : Int) + (q.length : Int))) + (y.length : Int))) a8 B q y D p = some r) ∧ Aside0 (kq ≤ s4) ∧ Aside0 (w'.heap[a3]? = some (.cells #[.string B, (.slice S q.length T), (.slice U y.length V), .int .i64 D, (.slice a7 p.length X)] 26 (0, 0))) ∧ Aside0 (Below w.heap.size w w'))
 case atStart => exact ⟨(0), q_r, H', ⟨Nat.le_refl _⟩, ⟨q_k b.out⟩, ⟨q_w1 E.out z.out⟩⟩
 case round => (
 clear H'; obtain ⟨a8, rfl, HA, b0, b, E⟩ := hrel; cases gk with
 | zero => exact absurd HA.out (by simp [l6_Wide.l0])
 | succ k2 => (
 have H := HA.out; clear HA; simp only [l6_Wide.l0] at H
 rcases q_ite H with ⟨c8b0, H⟩ | ⟨c8b0, H⟩
 {
 replace H := q_gD H; obtain ⟨-, c9b0, H⟩ := H; replace H := q_iD H; rcases H with ⟨n8, c10b0, H⟩ | ⟨n8, c10b0, H⟩
 {
 have c10b1 : decide (100 < ((rd_T83 q a8).f0).size) = true := decide_eq_true (by omega)
 clear n8; obtain rfl := q_so H; obtain ⟨e7, e8, e9, f1, f2, f3, f4, f5, f7, f8⟩ := q_cf5 b.out; obtain ⟨r1, n9, o0, o1, s5, s6⟩ := b_T83 n6.out E.out a8; cases n9; go_wp2
 go_ret
 exact ⟨q_e, q_w1 E.out z.out⟩}
 {
 have c10b1 : decide (100 < ((rd_T83 q a8).f0).size) = false := decide_eq_false (by omega)
 clear n8; have H' := a_ H
 clear H; obtain ⟨e7, e8, e9, f1, f2, f3, f4, f5, f7, f8⟩ := q_cf5 b.out; obtain ⟨r1, n9, o0, o1, s5, s6⟩ := b_T83 n6.out E.out a8; cases n9; go_wp2
 go_roundg k2
 case measure => have := a9.out; have := b0.out; omega
 case rel => exact ⟨(wrap64 (a8 + 1)), q_r, H', ⟨by have := a9.out; have := b0.out; omega⟩, ⟨q_k b.out⟩, ⟨q_w1 E.out z.out⟩⟩}}
 {
 have H' := a_ H
 clear H; obtain ⟨b3, b4, b5, b6, b7, b8, b9, c0, c1, c3⟩ := q_cf5 b.out; go_wp2
 go_loopg [5] k2 (fun kq s7 w' => ∃ (O : Int), s7 = .int .i64 O ∧ Aside0 (l6_Wide.l1 kq (wrap64 ((wrap64 ((p.length : Int) + (q.length : Int))) + (y.length : Int))) O B q y D p = some r) ∧ Aside0 (kq ≤ k2) ∧ Aside0 (w'.heap[a3]? = some (.cells #[.string B, (.slice S q.length T), (.slice U y.length V), .int .i64 D, (.slice a7 p.length X)] 26 (0, 0))) ∧ Aside0 (Below w.heap.size w w'))
 case atStart => exact ⟨(0), q_r, H', ⟨Nat.le_refl _⟩, ⟨q_k b.out⟩, ⟨q_w1 E.out z.out⟩⟩
 case round => (
 clear H'; clear c8b0 b3 b4 b5 b6 b7 b8 b9 c0 c1 c3; obtain ⟨O, rfl, HA, b2, b, E⟩ := hrel; cases gk with
 | zero => exact absurd HA.out (by simp [l6_Wide.l1])
 | succ k3 => (
 have H := HA.out; clear HA; simp only [l6_Wide.l1] at H
 rcases q_ite H with ⟨c14b0, H⟩ | ⟨c14b0, H⟩
 {
 replace H := q_gD H; obtain ⟨-, c15b0, H⟩ := H; replace H := q_iD H; rcases H with ⟨o2, c16b0, H⟩ | ⟨o2, c16b0, H⟩
 {
 have c16b1 : decide (100 < ((rd_T85 y O).f0).size) = true := decide_eq_true (by omega)
 clear o2; obtain rfl := q_so H; obtain ⟨f9, g0, g1, g2, g3, g4, g5, g6, g7, g8⟩ := q_cf5 b.out; obtain ⟨r2, o3, o4, o5, s8, s9⟩ := b_T85 n7.out E.out O; cases o3; go_wp2
 go_ret
 exact ⟨q_e, q_w1 E.out z.out⟩}
 {
 have c16b1 : decide (100 < ((rd_T85 y O).f0).size) = false := decide_eq_false (by omega)
 clear o2; have H' := a_ H
 clear H; obtain ⟨f9, g0, g1, g2, g3, g4, g5, g6, g7, g8⟩ := q_cf5 b.out; obtain ⟨r2, o3, o4, o5, s8, s9⟩ := b_T85 n7.out E.out O; cases o3; go_wp2
 go_roundg k3
 case measure => have := a9.out; have := b0.out; have := b2.out; omega
 case rel => exact ⟨(wrap64 (O + 1)), q_r, H', ⟨by have := a9.out; have := b0.out; have := b2.out; omega⟩, ⟨q_k b.out⟩, ⟨q_w1 E.out z.out⟩⟩}}
 {
 have H' := a_ H
 clear H; obtain ⟨g9, i0, i1, i2, i3, i4, i5, i6, i7, i8⟩ := q_cf5 b.out; go_wp2
 go_loopg [3, 6] k3 (fun kq v3 t0 w' => ∃ (c4 : Int) (l : Int), v3 = .int .i64 c4 ∧ t0 = .int .i64 l ∧ Aside0 (l6_Wide.l2 kq c4 l B q y D p = some r) ∧ Aside0 (kq ≤ k3) ∧ Aside0 (w'.heap[a3]? = some (.cells #[.string B, (.slice S q.length T), (.slice U y.length V), .int .i64 D, (.slice a7 p.length X)] 26 (0, 0))) ∧ Aside0 (Below w.heap.size w w'))
 case atStart => exact ⟨((wrap64 ((wrap64 ((p.length : Int) + (q.length : Int))) + (y.length : Int)))), (0), q_r, q_r, H', ⟨Nat.le_refl _⟩, ⟨q_k b.out⟩, ⟨q_w1 E.out z.out⟩⟩
 case round => (
 clear H'; clear c14b0 g9 i0 i1 i2 i3 i4 i5 i6 i7 i8; obtain ⟨c4, l, rfl, rfl, HA, d1, b, E⟩ := hrel; cases gk with
 | zero => exact absurd HA.out (by simp [l6_Wide.l2])
 | succ k4 => (
 have H := HA.out; clear HA; simp only [l6_Wide.l2] at H
 have e4 := a_ H; clear H; go_upto_region 15 with (fail)
 go_cut [65] (fun t1 wc => ∃ (kq : Nat) (a0 : Bool), t1 = .bool a0 ∧ Aside0 (l6_Wide.j4 kq c4 l a0 B q y D p = some r) ∧ Aside0 (kq ≤ k4) ∧ Aside0 (wc.heap[a3]? = some (.cells #[.string B, (.slice S q.length T), (.slice U y.length V), .int .i64 D, (.slice a7 p.length X)] 26 (0, 0))) ∧ Aside0 (Below w.heap.size w wc))
 case first => (
 have H := e4.out; clear e4; rcases q_ite H with ⟨c21b0, H⟩ | ⟨c21b0, H⟩
 all_goals (
 (first | rw [c21b0] | (simp only [i64_w, i32_w]; rw [c21b0]) | skip)
 have H' := a_ H
 clear H; obtain ⟨r4, r5, r6, r7, r8, r9, s0, s1, s2, s3⟩ := q_cf5 b.out; go_wp2)
 {
 go_meet
 case rel => exact ⟨_, (decide (c4 ≤ 400)), q_r, H', ⟨by have := a9.out; have := b0.out; have := b2.out; have := d1.out; first | omega | exact Nat.le_refl _⟩, ⟨q_k b.out⟩, ⟨q_w1 E.out z.out⟩⟩}
 {
 go_meet
 case rel => exact ⟨_, (false), q_r, H', ⟨by have := a9.out; have := b0.out; have := b2.out; have := d1.out; first | omega | exact Nat.le_refl _⟩, ⟨q_k b.out⟩, ⟨q_w1 E.out z.out⟩⟩})
 case rest => (
 clear e4; obtain ⟨kq, a0, rfl, HA, a5, b, E⟩ := hcut; cases kq with
 | zero => exact absurd HA.out (by simp [l6_Wide.j4])
 | succ o6 => (
 have H := HA.out; clear HA; simp only [l6_Wide.j4] at H
 cases a0
 {
 replace H := q_if H; obtain rfl := q_so H; go_wp2
 go_ret
 exact ⟨q_e, q_w1 E.out z.out⟩}
 {
 rw [if_pos rfl] at H; replace H := q_gD H; obtain ⟨-, c25b0, H⟩ := H; replace H := q_gD H; obtain ⟨-, c26b0, H⟩ := H; have H' := a_ H
 clear H; obtain ⟨i9, j3, j5, j6, j7, j8, j9, k0, k1, k5⟩ := q_cf5 b.out; obtain ⟨d0, w5, w6, t2, o7, o8, o9, p0, p1, d2, d3, t3, t4⟩ := b_T69 c8.out E.out l; cases t2; have t5 := a_ d3; have t6 := a_ d2; clear d3 d2; go_wp2
 go_loopg [3, 7] o6 (fun kq v3 t7 w' => ∃ (c6 : Int) (R : Int), v3 = .int .i64 c6 ∧ t7 = .int .i64 R ∧ Aside0 (l6_Wide.l3 kq c6 l R B q y D p = some r) ∧ Aside0 (kq ≤ o6) ∧ Aside0 (w'.heap[a3]? = some (.cells #[.string B, (.slice S q.length T), (.slice U y.length V), .int .i64 D, (.slice (some d0) p.length X)] 26 (0, 0))) ∧ Aside0 (Below w.heap.size w w'))
 case atStart => exact ⟨(wrap64 (c4 + (((rd_T69 p l).f0).length : Int))), (0), q_r, q_r, H', ⟨Nat.le_refl _⟩, ⟨q_k b.out⟩, ⟨q_w1 E.out z.out⟩⟩
 case round => (
 clear H'; clear c25b0 c26b0 i9 j3 j5 j6 j7 j8 j9 k0 k1 k5 o7 o8 o9 p0 p1 t3 t4; obtain ⟨c6, R, rfl, rfl, HA, a6, b, E⟩ := hrel; cases gk with
 | zero => exact absurd HA.out (by simp [l6_Wide.l3])
 | succ p2 => (
 have H := HA.out; clear HA; simp only [l6_Wide.l3] at H
 replace H := q_gD H; obtain ⟨-, c28b0, H⟩ := H; replace H := q_gD H; obtain ⟨-, c29b0, H⟩ := H; rcases q_ite H with ⟨c30b0, H⟩ | ⟨c30b0, H⟩
 {
 rcases q_ite H with ⟨c31b0, H⟩ | ⟨c31b0, H⟩
 focus (
 replace H := q_gD H; obtain ⟨-, c32b0, H⟩ := H; have H' := a_ H)
 rotate_left
 focus (
 have H' := a_ H)
 all_goals (
 clear H; obtain ⟨k6, k7, k8, k9, l4, l5, l6, l7, l8, l9⟩ := q_cf5 b.out; have a1 : 0 ≤ (l : Int) := q_d
 have a2 : l < (p.length : Int) := q_d
 obtain ⟨e5, q7, q8, p3, F, G, I, J, L, M, N⟩ := at_T69 c8.out l a1 a2; obtain rfl : d0 = e5 := (by injection p3))
 {
 replace F := q_kc E.out F; replace G := q_kc E.out G; replace I := q_kc E.out I; replace J := q_kc E.out J; replace L := q_kc E.out L; have d4 := a_ N; have d5 := a_ M; clear N M; replace a1 := eq_true a1; replace a2 := eq_true a2; go_wp2
 go_roundg p2
 case measure => have := a9.out; have := b0.out; have := b2.out; have := d1.out; have := a5.out; have := a6.out; omega
 case rel => exact ⟨(c6), (wrap64 (l + 1)), q_r, q_r, H', ⟨by have := a9.out; have := b0.out; have := b2.out; have := d1.out; have := a5.out; have := a6.out; omega⟩, ⟨q_k b.out⟩, ⟨q_w1 E.out z.out⟩⟩}
 {
 replace F := q_kc E.out F; replace G := q_kc E.out G; replace I := q_kc E.out I; replace J := q_kc E.out J; replace L := q_kc E.out L; have d4 := a_ N; have d5 := a_ M; clear N M; replace a1 := eq_true a1; replace a2 := eq_true a2; have p4 : 0 ≤ (l : Int) := q_d
 have p5 : l < (p.length : Int) := q_d
 obtain ⟨r3, w7, w8, t8, b1, d6, d7, d8, d9, e0, e1⟩ := at_T69 c8.out l p4 p5; obtain rfl : d0 = r3 := (by injection t8)
 replace b1 := q_kc E.out b1; replace d6 := q_kc E.out d6; replace d7 := q_kc E.out d7; replace d8 := q_kc E.out d8; replace d9 := q_kc E.out d9; have p6 := a_ e1; have t9 := a_ e0; clear e1 e0; replace p4 := eq_true p4; replace p5 := eq_true p5; have ea_ := Option.some.inj (F.symm.trans b1); injection ea_ with ea_ en_ ec_
 subst ea_; subst ec_; clear en_; obtain ⟨x9, w9, x0, v0, v1, v2, v5, v6, v7, v8, v9, e2, e3, y1, y2⟩ := b_T71 p6.out E.out R; cases v0; have w2 := a_ e3; have w4 := a_ e2; clear e3 e2; go_wp2
 go_roundg p2
 case measure => have := a9.out; have := b0.out; have := b2.out; have := d1.out; have := a5.out; have := a6.out; omega
 case rel => exact ⟨(wrap64 (c6 + (((rd_T71 ((rd_T69 p l).f0) R).f6).length : Int))), (wrap64 (R + 1)), q_r, q_r, H', ⟨by have := a9.out; have := b0.out; have := b2.out; have := d1.out; have := a5.out; have := a6.out; omega⟩, ⟨q_k b.out⟩, ⟨q_w1 E.out z.out⟩⟩}}
 {
 have H' := a_ H
 clear H; obtain ⟨k6, k7, k8, k9, l4, l5, l6, l7, l8, l9⟩ := q_cf5 b.out; have a1 : 0 ≤ (l : Int) := q_d
 have a2 : l < (p.length : Int) := q_d
 obtain ⟨e5, q7, q8, p3, F, G, I, J, L, M, N⟩ := at_T69 c8.out l a1 a2; obtain rfl : d0 = e5 := (by injection p3)
 replace F := q_kc E.out F; replace G := q_kc E.out G; replace I := q_kc E.out I; replace J := q_kc E.out J; replace L := q_kc E.out L; have d4 := a_ N; have d5 := a_ M; clear N M; replace a1 := eq_true a1; replace a2 := eq_true a2; go_wp2
 go_roundg p2
 case measure => have := a9.out; have := b0.out; have := b2.out; have := d1.out; have := a5.out; have := a6.out; omega
 case rel => exact ⟨(c6), (wrap64 (l + 1)), q_r, q_r, H', ⟨by have := a9.out; have := b0.out; have := b2.out; have := d1.out; have := a5.out; have := a6.out; omega⟩, ⟨q_k b.out⟩, ⟨q_w1 E.out z.out⟩⟩}))}))))}))}))}
 {
 rw [if_pos rfl] at H; obtain rfl := q_so H; go_wp2
 go_ret
 exact ⟨q_e, q_w1 E.out z.out⟩}))
def l11_sums.f  : Option (ByteArray × (List (S83)) × (List (S85)) × Int × (List (S69))) := some ((⟨#[107]⟩ : ByteArray), (([(⟨(⟨#[97]⟩ : ByteArray), true⟩ : S83)] : List (S83))), ([] : List (S85)), 3, (([(⟨(([(⟨0, 0, 0, 0, 0, 1, ([] : List Int)⟩ : S71), (⟨0, 0, 1, 0, 0, 2, ([] : List Int)⟩ : S71), (⟨3, 0, 2, 0, 1, 0, ([] : List Int)⟩ : S71), (⟨7, 0, 0, 2, 2, 0, ([] : List Int)⟩ : S71)] : List (S71))), 2, 0, 0, 0⟩ : S69)] : List (S69))))
theorem l11_sums.calls  (r1 : ByteArray) (r2 : List (S83)) (r3 : List (S85)) (r4 : Int) (r5 : List (S69)) (w : World) (h : l11_sums.f  = some (r1, r2, r3, r4, r5)) :
  Calls Tryd.prog 28 #[] w fun e w' => ∃ a3 a4 b2 : Value, e = .returned (.agg #[.string r1, a3, a4, .int .i64 r4, b2]) ∧ Kd.R k83 83 w' w.heap.size (fun k_ => (w.heap.size ≤ k_)) a3 r2 ∧ Kd.R k85 85 w' w.heap.size (fun k_ => (w.heap.size ≤ k_)) a4 r3 ∧ Kd.N k69 69 w' w.heap.size (fun k_ => (w.heap.size ≤ k_) ∧ some k_ ≠ (a3 : Value).ownBlock ∧ some k_ ≠ (a4 : Value).ownBlock) b2 r5 ∧ Below w.heap.size w w' := by
 have d6 := Tryd.underlying26; have d7 := Tryd.underlying83; have d8 := Tryd.underlying71; have d9 := Tryd.underlying69; have E := a_ (Below.refl w.heap.size w); have H : (some ((⟨#[107]⟩ : ByteArray), (([(⟨(⟨#[97]⟩ : ByteArray), true⟩ : S83)] : List (S83))), ([] : List (S85)), 3, (([(⟨(([(⟨0, 0, 0, 0, 0, 1, ([] : List Int)⟩ : S71), (⟨0, 0, 1, 0, 0, 2, ([] : List Int)⟩ : S71), (⟨3, 0, 2, 0, 1, 0, ([] : List Int)⟩ : S71), (⟨7, 0, 0, 2, 2, 0, ([] : List Int)⟩ : S71)] : List (S71))), 2, 0, 0, 0⟩ : S69)] : List (S69))))) = some (r1, r2, r3, r4, r5) := h
 clear h; obtain ⟨C, F⟩ : ∃ y_ : List (S83), y_ = (([(⟨(⟨#[97]⟩ : ByteArray), true⟩ : S83)] : List (S83))) := ⟨_, rfl⟩; replace H : (some ((⟨#[107]⟩ : ByteArray), C, ([] : List (S85)), 3, (([(⟨(([(⟨0, 0, 0, 0, 0, 1, ([] : List Int)⟩ : S71), (⟨0, 0, 1, 0, 0, 2, ([] : List Int)⟩ : S71), (⟨3, 0, 2, 0, 1, 0, ([] : List Int)⟩ : S71), (⟨7, 0, 0, 2, 2, 0, ([] : List Int)⟩ : S71)] : List (S71))), 2, 0, 0, 0⟩ : S69)] : List (S69))))) = some (r1, r2, r3, r4, r5) := q_rw F H
 have L := a_ F; clear F; obtain ⟨B, G⟩ : ∃ y_ : List (S71), y_ = (([(⟨0, 0, 0, 0, 0, 1, ([] : List Int)⟩ : S71), (⟨0, 0, 1, 0, 0, 2, ([] : List Int)⟩ : S71), (⟨3, 0, 2, 0, 1, 0, ([] : List Int)⟩ : S71), (⟨7, 0, 0, 2, 2, 0, ([] : List Int)⟩ : S71)] : List (S71))) := ⟨_, rfl⟩; replace H : (some ((⟨#[107]⟩ : ByteArray), C, ([] : List (S85)), 3, (([(⟨B, 2, 0, 0, 0⟩ : S69)] : List (S69))))) = some (r1, r2, r3, r4, r5) := q_rw G H
 have O := a_ G; clear G; obtain ⟨J, I⟩ : ∃ y_ : List (S69), y_ = (([(⟨B, 2, 0, 0, 0⟩ : S69)] : List (S69))) := ⟨_, rfl⟩; replace H : (some ((⟨#[107]⟩ : ByteArray), C, ([] : List (S85)), 3, J)) = some (r1, r2, r3, r4, r5) := q_rw I H
 have S := a_ I; clear I; simp only [Option.some.injEq, Prod.mk.injEq] at H
 obtain ⟨rfl, rfl, rfl, rfl, rfl⟩ := H; go_enter Tryd.func28, Tryd.ntmps28
 go_wp2_with (first | ((with_reducible refine gd_ 0 rfl ?_); refine q_box 0 26 #[.string (⟨#[]⟩ : ByteArray), .slice none 0 0, .slice none 0 0, .int .i64 0, .slice none 0 0] ?_; intro b hg w1 a2 hb; have l := a_ a2; have d3 := a_ (q_ge E.out hg); have q := a_ (q_ge E.out hg); replace E := a_ (q_st E.out hb); clear hb a2 hg) | ((with_reducible refine gd_ 2 rfl ?_); refine Kd.R_lit k83 _ 83 ?hg (N := 2) ?hd (xs := ([(⟨(⟨#[97]⟩ : ByteArray), true⟩ : S83)] : List (S83))) (inner := [.string (⟨#[97]⟩ : ByteArray), .bool true]) (ok := fun _ => True) (okp := fun _ => True) ?hr ?hp (fun _ hk => hk) trivial (Below.refl _ _) (Nat.le_refl _) (by simp) ?_; (case hd => rfl); (case hg => rfl); (case hr => first | (go_simp; done) | (go_simp; rfl)); (case hp => exact (Reps.c2 (show Kd.M k83 _ _ _ (⟨(⟨#[97]⟩ : ByteArray), true⟩ : S83) [.string (⟨#[97]⟩ : ByteArray), .bool true] from (k83_mkM _ _ _ (⟨(⟨#[97]⟩ : ByteArray), true⟩ : S83) )) (Reps.none _ _))); intro z w2 T hb hg_ hnew_; clear hg_ hnew_; (first | rw [← L.out] at T | (simp only [Int.reduceToNat] at T; rw [← L.out] at T)); have y := a_ (Kd.R_lower (Kd.R_newM (M := fun k_ => (w.heap.size ≤ k_)) T (below_size (q_w1 E.out q.out)) (fun k_ h_ => h_)) (below_size (q_w1 E.out q.out))); replace l := a_ (q_bk l.out hb); replace E := a_ (q_st1 E.out hb q.out); clear hb T) | ((with_reducible refine gd_ 7 rfl ?_); refine Kd.N_lit k71 _ 71 ?hg (N' := 7) ?hd (xs := ([(⟨0, 0, 0, 0, 0, 1, ([] : List Int)⟩ : S71), (⟨0, 0, 1, 0, 0, 2, ([] : List Int)⟩ : S71), (⟨3, 0, 2, 0, 1, 0, ([] : List Int)⟩ : S71), (⟨7, 0, 0, 2, 2, 0, ([] : List Int)⟩ : S71)] : List (S71))) (inner := [.int .i64 0, .int .i64 0, .int .i64 0, .int .i64 0, .int .i64 0, .int .i32 1, .slice none 0 0, .int .i64 0, .int .i64 0, .int .i64 1, .int .i64 0, .int .i64 0, .int .i32 2, .slice none 0 0, .int .i64 3, .int .i64 0, .int .i64 2, .int .i64 0, .int .i64 1, .int .i32 0, .slice none 0 0, .int .i64 7, .int .i64 0, .int .i64 0, .int .i64 2, .int .i64 2, .int .i32 0, .slice none 0 0]) (ok := (fun k_ => (w.heap.size ≤ k_) ∧ some k_ ≠ (z : Value).ownBlock ∧ k_ ≠ b)) (okp := (fun k_ => (w.heap.size ≤ k_) ∧ some k_ ≠ (z : Value).ownBlock ∧ k_ ≠ b)) ?hr ?hp (fun _ hk => hk) ((show ∀ k_, w2.heap.size ≤ k_ → (fun k_ => (w.heap.size ≤ k_) ∧ some k_ ≠ (z : Value).ownBlock ∧ k_ ≠ b) k_ from fun k_ hk => ⟨(Nat.le_trans (below_size (q_w1 E.out q.out)) hk), Kd.fresh' (Kd.R_lt (q_R y.out)) k_ hk, Kd.freshB (g := b) (o := .cells #[.string (⟨#[]⟩ : ByteArray), .slice none 0 0, .slice none 0 0, .int .i64 0, .slice none 0 0] 26 (0, 0)) (q_k l.out) k_ hk⟩) _ (Nat.le_refl _)) (Below.refl _ _) (Nat.le_refl _) (by simp) ?_; (case hd => rfl); (case hg => rfl); (case hr => first | (go_simp; done) | (go_simp; rfl)); (case hp => exact (Reps.c7 (show Kd.FK k71 _ _ (⟨0, 0, 0, 0, 0, 1, ([] : List Int)⟩ : S71) [.int .i64 0, .int .i64 0, .int .i64 0, .int .i64 0, .int .i64 0, .int .i32 1, .slice none 0 0] from (k71_mkF _ _ (⟨0, 0, 0, 0, 0, 1, ([] : List Int)⟩ : S71) (Nat.le_refl _) (Kd.F_nil _ _ _))) (Reps.c7 (show Kd.FK k71 _ _ (⟨0, 0, 1, 0, 0, 2, ([] : List Int)⟩ : S71) [.int .i64 0, .int .i64 0, .int .i64 1, .int .i64 0, .int .i64 0, .int .i32 2, .slice none 0 0] from (k71_mkF _ _ (⟨0, 0, 1, 0, 0, 2, ([] : List Int)⟩ : S71) (Nat.le_refl _) (Kd.F_nil _ _ _))) (Reps.c7 (show Kd.FK k71 _ _ (⟨3, 0, 2, 0, 1, 0, ([] : List Int)⟩ : S71) [.int .i64 3, .int .i64 0, .int .i64 2, .int .i64 0, .int .i64 1, .int .i32 0, .slice none 0 0] from (k71_mkF _ _ (⟨3, 0, 2, 0, 1, 0, ([] : List Int)⟩ : S71) (Nat.le_refl _) (Kd.F_nil _ _ _))) (Reps.c7 (show Kd.FK k71 _ _ (⟨7, 0, 0, 2, 2, 0, ([] : List Int)⟩ : S71) [.int .i64 7, .int .i64 0, .int .i64 0, .int .i64 2, .int .i64 2, .int .i32 0, .slice none 0 0] from (k71_mkF _ _ (⟨7, 0, 0, 2, 2, 0, ([] : List Int)⟩ : S71) (Nat.le_refl _) (Kd.F_nil _ _ _))) (Reps.none _ _)))))); intro e0 w4 U hb hg_ hnew_; clear hg_ hnew_; (first | rw [← O.out] at U | (simp only [Int.reduceToNat] at U; rw [← O.out] at U)); have D := a_ (Kd.N_lower U (below_size (q_w1 E.out q.out))); replace y := a_ (Kd.R_below (q_R y.out) hb); replace l := a_ (q_bk l.out hb); replace E := a_ (q_st1 E.out hb q.out); clear hb U; obtain ⟨b3, b4, d4⟩ := Kd.N_slice D.out; subst d4) | ((with_reducible refine gd_ 9 rfl ?_); refine Kd.N_lit k69 _ 69 ?hg (N' := 9) ?hd (xs := ([(⟨B, 2, 0, 0, 0⟩ : S69)] : List (S69))) (inner := [.slice b3 B.length b4, .int .i64 2, .int .i64 0, .int .i64 0, .int .i64 0]) (ok := (fun k_ => (w.heap.size ≤ k_) ∧ some k_ ≠ (z : Value).ownBlock ∧ k_ ≠ b)) (okp := (fun k_ => (w.heap.size ≤ k_) ∧ some k_ ≠ (z : Value).ownBlock ∧ k_ ≠ b)) ?hr ?hp (fun _ hk => hk) ((show ∀ k_, w4.heap.size ≤ k_ → (fun k_ => (w.heap.size ≤ k_) ∧ some k_ ≠ (z : Value).ownBlock ∧ k_ ≠ b) k_ from fun k_ hk => ⟨(Nat.le_trans (below_size (q_w1 E.out q.out)) hk), Kd.fresh' (Kd.R_lt (q_R y.out)) k_ hk, Kd.freshB (g := b) (o := .cells #[.string (⟨#[]⟩ : ByteArray), .slice none 0 0, .slice none 0 0, .int .i64 0, .slice none 0 0] 26 (0, 0)) (q_k l.out) k_ hk⟩) _ (Nat.le_refl _)) (Below.refl _ _) (Nat.le_refl _) (by simp) ?_; (case hd => rfl); (case hg => rfl); (case hr => first | (go_simp; done) | (go_simp; rfl)); (case hp => exact (Reps.c5 (show Kd.FK k69 _ _ (⟨B, 2, 0, 0, 0⟩ : S69) [.slice b3 B.length b4, .int .i64 2, .int .i64 0, .int .i64 0, .int .i64 0] from (k69_mkF _ _ (⟨B, 2, 0, 0, 0⟩ : S69) (Kd.N_reads' (Kd.N_mono (ok' := (fun k_ => (w.heap.size ≤ k_) ∧ some k_ ≠ (z : Value).ownBlock ∧ k_ ≠ b)) (D.out) (fun k_ hk => ⟨hk.1, ⟨hk.2.1, hk.2.2⟩⟩))).2.1 (Kd.N_F (Kd.N_mono (ok' := (fun k_ => (w.heap.size ≤ k_) ∧ some k_ ≠ (z : Value).ownBlock ∧ k_ ≠ b)) (D.out) (fun k_ hk => ⟨hk.1, ⟨hk.2.1, hk.2.2⟩⟩))))) (Reps.none _ _))); intro e1 w7 V hb hg_ hnew_; clear hg_ hnew_; (first | rw [← S.out] at V | (simp only [Int.reduceToNat] at V; rw [← S.out] at V)); have b5 := a_ (Kd.R_below (q_R y.out) hb); have b6 := a_ (Kd.N_lower V (below_size (q_w1 E.out q.out))); have b7 := a_ (q_bk l.out hb); have b8 := a_ (q_st1 E.out hb q.out); clear y; clear l; clear E; clear D; have y := b5; have X := b6; have l := b7; have E := b8; clear b5 b6 b7 b8; clear hb V; obtain ⟨a5, a6, d5⟩ := Kd.N_slice X.out; subst d5; obtain ⟨a0, a1, b9⟩ := Kd.R_slice y.out; subst b9; obtain ⟨c0, c1, c3, c4, c6, c8, c9, d0, d1, d2⟩ := q_cf5 l.out))
 refine bodyPost_ret (results_cell_row rfl _ _ b 26 #[.string (⟨#[107]⟩ : ByteArray), .slice a0 C.length a1, .slice none 0 0, .int .i64 3, .slice a5 J.length a6] (0, 0) _ rfl (q_p l.out) Tryd.underlying26 rfl (by kernel_rfl)) rfl ?_
 exact ⟨_, _, _, q_e, q_R (Kd.R_mono (Kd.R_far (p := ⟨b, 4, none⟩) (Kd.R_far (p := ⟨b, 3, none⟩) (Kd.R_far (p := ⟨b, 2, none⟩) (Kd.R_far (p := ⟨b, 1, none⟩) (Kd.R_far (p := ⟨b, 0, none⟩) (Kd.R_types y.out l.out (by decide)) (fun _ hk => hk.2) (.string (⟨#[107]⟩ : ByteArray))) (fun _ hk => hk.2) (.slice a0 C.length a1)) (fun _ hk => hk.2) (.slice none 0 0)) (fun _ hk => hk.2) (.int .i64 3)) (fun _ hk => hk.2) (.slice a5 J.length a6)) (fun _ hk => hk.1.1)), by first | exact Kd.R_nil _ _ _ _ _ | exact Kd.N_nil _ _ _ _ _ | exact Kd.V_nil _ _ _ _ _ | exact Kd.Q_nil _ _ _ _ _ | exact Kd.S_nil _ _ _ _ _, by (with_reducible repeat (first | apply Kd.N_alloc | apply Kd.N_drewN | apply Kd.N_drew)); exact Kd.N_mono (Kd.N_far (p := ⟨b, 4, none⟩) (Kd.N_far (p := ⟨b, 3, none⟩) (Kd.N_far (p := ⟨b, 2, none⟩) (Kd.N_far (p := ⟨b, 1, none⟩) (Kd.N_far (p := ⟨b, 0, none⟩) (Kd.N_mono X.out (fun k_ hk => (⟨hk, hk.2.2⟩ : _ ∧ k_ ≠ b))) (fun _ hk => hk.2) (.string (⟨#[107]⟩ : ByteArray))) (fun _ hk => hk.2) (.slice a0 C.length a1)) (fun _ hk => hk.2) (.slice none 0 0)) (fun _ hk => hk.2) (.int .i64 3)) (fun _ hk => hk.2) (.slice a5 J.length a6)) (fun _ hk => ⟨hk.1.1, ⟨hk.1.2.1, (by simp [Value.ownBlock])⟩⟩), q_w1 E.out q.out⟩
mutual
def r6_Phis.l0 : Nat → Int → Int → ByteArray → List (S83) → List (S85) → Int → List (S69) → Option (Int)
 | 0, _, _, _, _, _, _, _ => none
 | k + 1, B, z, l, p, q, y, b => if z < (b.length : Int) then (r6_Phis.l1 k B z 0 l p q y b) else (some B)
def r6_Phis.l1 : Nat → Int → Int → Int → ByteArray → List (S83) → List (S85) → Int → List (S69) → Option (Int)
 | 0, _, _, _, _, _, _, _, _ => none
 | k + 1, B, z, C, l, p, q, y, b => if 0 ≤ z then (if z < (b.length : Int) then (if C < (((rd_T69 b z).f0).length : Int) then (if 0 ≤ C then (if ((rd_T71 ((rd_T69 b z).f0) C).f0) = 11 then (r6_Phis.l1 k (wrap64 (B + 1)) z (wrap64 (C + 1)) l p q y b) else (r6_Phis.l1 k B z (wrap64 (C + 1)) l p q y b)) else (none)) else (r6_Phis.l0 k B (wrap64 (z + 1)) l p q y b)) else (none)) else (none)
end
def r6_Phis.f (k : Nat) (b : ByteArray) (l : List (S83)) (p : List (S85)) (q : Int) (y : List (S69)) : Option (Int) := r6_Phis.l0 k 0 0 b l p q y
theorem r6_Phis.calls {k : Nat} {D : ByteArray} {J : Option Addr} {L : Nat} {p : List (S83)} {M : Option Addr} {N : Nat} {q : List (S85)} {E : Int} {O : Option Addr} {R : Nat} {l : List (S69)} {r : Int} {w : World} (b1 : q5 w J L p M N q O R l) (h : r6_Phis.f k D p q E l = some r) :
  Calls Tryd.prog 32 #[.agg #[.string D, .slice J p.length L, .slice M q.length N, .int .i64 E, .slice O l.length R]] w fun e w' => e = .returned (.int .i64 r) ∧ Below w.heap.size w w' := by
 obtain ⟨_, _, _, _, a7, _⟩ := q_O b1; have n5 := Tryd.underlying26; have G := a_ (Below.refl w.heap.size w); have H : (r6_Phis.l0 k 0 0 D p q E l) = some r := h
 clear h; have H' := a_ H
 clear H; go_enter Tryd.func32, Tryd.ntmps32
 go_wp2_with (first | ((with_reducible refine gd_ 1 rfl ?_); refine q_box 1 26 #[.string D, .slice J p.length L, .slice M q.length N, .int .i64 E, .slice O l.length R] ?_; intro b7 hg w2 d6 hb; have b := a_ d6; have o1 := a_ (q_ge G.out hg); have B := a_ (q_ge G.out hg); replace G := a_ (q_st G.out hb); clear hb d6 hg))
 go_loopg [3, 4] k (fun kq v3 v4 w' => ∃ (a8 : Int) (z : Int), v3 = .int .i64 a8 ∧ v4 = .int .i64 z ∧ Aside0 (r6_Phis.l0 kq a8 z D p q E l = some r) ∧ Aside0 (kq ≤ k) ∧ Aside0 (w'.heap[b7]? = some (.cells #[.string D, (.slice J p.length L), (.slice M q.length N), .int .i64 E, (.slice O l.length R)] 26 (0, 0))) ∧ Aside0 (Below w.heap.size w w'))
 case atStart => exact ⟨(0), (0), q_r, q_r, H', ⟨Nat.le_refl _⟩, ⟨q_k b.out⟩, ⟨q_w1 G.out B.out⟩⟩
 case round => (
 clear H'; obtain ⟨a8, z, rfl, rfl, HA, a9, b, G⟩ := hrel; cases gk with
 | zero => exact absurd HA.out (by simp [r6_Phis.l0])
 | succ k1 => (
 have H := HA.out; clear HA; simp only [r6_Phis.l0] at H
 rcases q_ite H with ⟨c3b0, H⟩ | ⟨c3b0, H⟩
 {
 have H' := a_ H
 clear H; obtain ⟨c4, c6, c8, c9, d0, d1, d2, d3, d4, d5⟩ := q_cf5 b.out; go_wp2
 go_loopg [3, 5] k1 (fun kq v3 g9 w' => ∃ (I : Int) (y : Int), v3 = .int .i64 I ∧ g9 = .int .i64 y ∧ Aside0 (r6_Phis.l1 kq I z y D p q E l = some r) ∧ Aside0 (kq ≤ k1) ∧ Aside0 (w'.heap[b7]? = some (.cells #[.string D, (.slice J p.length L), (.slice M q.length N), .int .i64 E, (.slice O l.length R)] 26 (0, 0))) ∧ Aside0 (Below w.heap.size w w'))
 case atStart => exact ⟨(a8), (0), q_r, q_r, H', ⟨Nat.le_refl _⟩, ⟨q_k b.out⟩, ⟨q_w1 G.out B.out⟩⟩
 case round => (
 clear H'; clear c3b0 c4 c6 c8 c9 d0 d1 d2 d3 d4 d5; obtain ⟨I, y, rfl, rfl, HA, b0, b, G⟩ := hrel; cases gk with
 | zero => exact absurd HA.out (by simp [r6_Phis.l1])
 | succ k2 => (
 have H := HA.out; clear HA; simp only [r6_Phis.l1] at H
 replace H := q_gD H; obtain ⟨-, c5b0, H⟩ := H; replace H := q_gD H; obtain ⟨-, c6b0, H⟩ := H; rcases q_ite H with ⟨c7b0, H⟩ | ⟨c7b0, H⟩
 {
 replace H := q_gD H; obtain ⟨-, c8b0, H⟩ := H; replace H := q_iBN H; rcases H with ⟨-, c9b0, c9b1, H⟩ | ⟨o7, c9b0, c9b1, H⟩
 all_goals (
 have H' := a_ H
 clear H; obtain ⟨d9, e0, e1, e2, e3, e4, e5, e6, e7, e8⟩ := q_cf5 b.out; obtain ⟨d7, l7, l8, i0, b8, i1, i2, i3, i4, S, T, o8, o9⟩ := b_T69 a7.out G.out z; cases i0; have i5 := a_ T; have i6 := a_ S; clear T S; have b9 : 0 ≤ (z : Int) := q_d
 have c0 : z < (l.length : Int) := q_d
 obtain ⟨d8, l9, n0, i7, F, U, V, X, a0, a1, a2⟩ := at_T69 a7.out z b9 c0; obtain rfl : d7 = d8 := (by injection i7)
 replace F := q_kc G.out F; replace U := q_kc G.out U; replace V := q_kc G.out V; replace X := q_kc G.out X; replace a0 := q_kc G.out a0; have c1 := a_ a2; have i8 := a_ a1; clear a2 a1; replace b9 := eq_true b9; replace c0 := eq_true c0; have ea_ := Option.some.inj (b8.symm.trans F); injection ea_ with ea_ en_ ec_
 subst ea_; subst ec_; clear en_; obtain ⟨o4, n1, n2, i9, j3, j5, j6, j7, j8, j9, k0, a3, a4, p0, p1⟩ := b_T71 c1.out G.out y; cases i9; have k3 := a_ a4; have k4 := a_ a3; clear a4 a3; go_wp2)
 {
 go_roundg k2
 case measure => have := a9.out; have := b0.out; omega
 case rel => exact ⟨(wrap64 (I + 1)), (wrap64 (y + 1)), q_r, q_r, H', ⟨by have := a9.out; have := b0.out; omega⟩, ⟨q_k b.out⟩, ⟨q_w1 G.out B.out⟩⟩}
 {
 go_roundg k2
 case measure => have := a9.out; have := b0.out; omega
 case rel => exact ⟨(I), (wrap64 (y + 1)), q_r, q_r, H', ⟨by have := a9.out; have := b0.out; omega⟩, ⟨q_k b.out⟩, ⟨q_w1 G.out B.out⟩⟩}}
 {
 have H' := a_ H
 clear H; obtain ⟨e9, f0, f1, f2, f3, f4, f5, f6, f7, f8⟩ := q_cf5 b.out; obtain ⟨o5, n3, n4, k5, k6, k7, k8, k9, l4, a5, a6, p2, p3⟩ := b_T69 a7.out G.out z; cases k5; have l5 := a_ a6; have l6 := a_ a5; clear a6 a5; go_wp2
 go_roundg k2
 case measure => have := a9.out; have := b0.out; omega
 case rel => exact ⟨(I), (wrap64 (z + 1)), q_r, q_r, H', ⟨by have := a9.out; have := b0.out; omega⟩, ⟨q_k b.out⟩, ⟨q_w1 G.out B.out⟩⟩}))}
 {
 obtain rfl := q_so H; obtain ⟨f9, g0, g1, g2, g3, g4, g5, g6, g7, g8⟩ := q_cf5 b.out; go_wp2
 go_ret
 exact ⟨q_e, q_w1 G.out B.out⟩}))
def alloc_index.f (b : Int) (l : Int) : Option (Int) := if b < 0 then (some (wrap64 ((wrap64 (l - 1)) - b))) else (some b)
theorem alloc_index.calls {b : Int} {l : Int} {r : Int} {w : World} (h : alloc_index.f b l = some r) :
  Calls Tryd.prog 35 #[.int .i64 b, .int .i64 l] w fun e w' => e = .returned (.int .i64 r) ∧ Drawn0 w w' := by
 have H : (if b < 0 then (some (wrap64 ((wrap64 (l - 1)) - b))) else (some b)) = some r := h
 clear h; rcases q_ite H with ⟨c3b0, H⟩ | ⟨c3b0, H⟩
 all_goals (
 obtain rfl := q_so H; go_enter Tryd.func35, Tryd.ntmps35
 go_wp2
 go_ret
 exact ⟨by first | rfl | (simp; done) | (simp [*]; done), by repeat (first | exact Drawn0.refl _ | apply Drawn0.step)⟩)
def r11_At.f (k : Nat) (p : ByteArray) (q : List (S83)) (y : List (S85)) (z : Int) (b : List (S69)) (l1 : List (List Bool)) (l : Int) (E : Int) (D : Int) : Option (Bool) := if 0 ≤ l then (if l < (b.length : Int) then (if 0 ≤ D then (if D < (l1.length : Int) then ((r11_out.f k p q y z b (rd_L10 l1 D) l).bind fun B => ((r11_before.f k ((rd_T69 b l).f0) ((rd_T69 b l).f1) ((rd_T69 b l).f2) ((rd_T69 b l).f3) ((rd_T69 b l).f4) E D B).bind fun C => (some C))) else (none)) else (none)) else (none)) else (none)
def r11_At.T1 : Bool × List (List Nat × List Nat) := (true, [([], []), ([0], [0]), ([], []), ([1, 2], [1, 2]), ([3], [3]), ([], []), ([], []), ([], []), ([], []), ([], []), ([8, 9], [8, 9]), ([10], [10]), ([], []), ([7, 11, 12], [7, 11, 12]), ([4, 5, 6, 13, 13], [4, 5, 6, 13]), ([14, 14, 0, 1, 2, 3, 4, 5, 6, 7, 8, 9, 10, 11, 12, 13, 14], [14])])
def r11_At.B1 : List Nat := [0, 1, 0, 7, 15, 0, 0, 0, 0, 0, 768, 1792, 0, 8064, 16383, 32767]
theorem r11_At.tab1 : rtab .any (opsOf Tryd.f58 1) = r11_At.T1 := by kernel_rfl
theorem r11_At.bits1 : waitsOk r11_At.T1.2 r11_At.B1 = true := by kernel_rfl
theorem r11_At.calls {k : Nat} {V : ByteArray} {a0 : Option Addr} {a1 : Nat} {z : List (S83)} {a5 : Option Addr} {a6 : Nat} {B : List (S85)} {X : Int} {c6 : Option Addr} {a7 : Nat} {b : List (S69)} {A1 : Option Addr} {c1 : Nat} {l1 : List (List Bool)} {L : Int} {a3 : Int} {a4 : Int} {r : Bool} {w : World} (c8 : q5 w a0 a1 z a5 a6 B c6 a7 b) (f9 : Kd.C (Kd.slice 4 Kd.bool) w A1 l1.length l1) (g0 : l1.length ≤ c1) (h : r11_At.f k V z B X b l1 L a3 a4 = some r) :
  Calls Tryd.prog 58 #[.agg #[.string V, .slice a0 z.length a1, .slice a5 B.length a6, .int .i64 X, .slice c6 b.length a7], .slice A1 l1.length c1, .int .i64 L, .int .i64 a3, .int .i64 a4] w fun e w' => e = .returned (.bool r) ∧ Below w.heap.size w w' := by
 obtain ⟨_, _, _, _, d4, _⟩ := q_O c8; have i1 := Tryd.underlying26; have i2 := Tryd.underlying69; have g4 := a_ f9; have i3 := a_ g0; clear f9 g0; have p := a_ (Below.refl w.heap.size w); have H : (if 0 ≤ L then (if L < (b.length : Int) then (if 0 ≤ a4 then (if a4 < (l1.length : Int) then ((r11_out.f k V z B X b (rd_L10 l1 a4) L).bind fun d5 => ((r11_before.f k ((rd_T69 b L).f0) ((rd_T69 b L).f1) ((rd_T69 b L).f2) ((rd_T69 b L).f3) ((rd_T69 b L).f4) a3 a4 d5).bind fun e3 => (some e3))) else (none)) else (none)) else (none)) else (none)) = some r := h
 clear h; replace H := q_gD H; obtain ⟨-, c6b0, H⟩ := H; replace H := q_gD H; obtain ⟨-, c7b0, H⟩ := H; replace H := q_gD H; obtain ⟨-, c8b0, H⟩ := H; replace H := q_gD H; obtain ⟨-, c9b0, H⟩ := H; replace H := q_bd H; obtain ⟨d5, e4, H⟩ := H; have g5 := a_ e4; clear e4; replace H := q_bd H; obtain ⟨e3, e5, H⟩ := H; have g6 := a_ e5; clear e5; obtain rfl := q_so H; go_enter Tryd.func58, Tryd.ntmps58
 try go_wp2_with (first | ((with_reducible refine gd_ 5 rfl ?_); refine q_box 5 26 #[.string V, .slice a0 z.length a1, .slice a5 B.length a6, .int .i64 X, .slice c6 b.length a7] ?_; intro f7 hg g7 e6 hb; have l := a_ e6; have g8 := a_ (q_ge p.out hg); have b6 := a_ (q_ge p.out hg); replace p := a_ (q_st p.out hb); clear hb e6 hg))
 have a8 := a_ (blk_drew l.out); have a9 := a_ (below_drew1 p.out); clear l p; have l := a8; have p := a9; clear a8 a9; have d6 : 0 ≤ (L : Int) := q_d
 have d7 : L < (b.length : Int) := q_d
 obtain ⟨b7, b8, b9, g1, D, E, F, G, I, b0, b1⟩ := at_T69 d4.out L d6 d7; have M := I; have N := G; have O := F; have R := E; have T := D; cases g1; replace D := q_kc p.out D; replace E := q_kc p.out E; replace F := q_kc p.out F; replace G := q_kc p.out G; replace I := q_kc p.out I; have b2 := a_ b1; have d8 := a_ b0; clear b1 b0; replace d6 := eq_true d6; replace d7 := eq_true d7; have d9 : 0 ≤ (a4 : Int) := q_d
 have e0 : a4 < (l1.length : Int) := q_d
 obtain ⟨f8, c0, c3, g2, J, b3, b4⟩ := at_L10 g4.out a4 d9 e0; have U := J; cases g2; replace J := q_kc p.out J; have b5 := a_ b4; have e1 := a_ b3; clear b4 b3; replace d9 := eq_true d9; replace e0 := eq_true e0; refine q_s 16 (S := fun w' => cg5 w' f7 (.string V) (.slice a0 z.length a1) (.slice a5 B.length a6) (.int .i64 X) (.slice (some b7) b.length a7) (cp5 w' (b7.add ((L).toNat * 5)) (.slice b8 ((rd_T69 b L).f0).length b9) (.int .i64 ((rd_T69 b L).f1)) (.int .i64 ((rd_T69 b L).f2)) (.int .i64 ((rd_T69 b L).f3)) (.int .i64 ((rd_T69 b L).f4)) (w'.cell? (f8.add (a4).toNat) = some (.slice c0 (rd_L10 l1 a4).length c3)))) (q_g5 l.out ⟨(q_kc p.out T), (q_kc p.out R), (q_kc p.out O), (q_kc p.out N), (q_kc p.out M), (q_kc p.out U)⟩) (fun y => ?_); refine with_tabW r11_At.tab1 r11_At.bits1 (fun q e2 => ?_)
 generalize g7.drew = i4 at l p b2 b5 D E F G I J y ⊢
 refine qv_ 0 q ?_
 refine qv_ 2 q ?_
 refine qv_ 5 q ?_
 refine qv_ 6 q ?_
 refine qv_ 8 q ?_
 refine qv_ 9 q ?_
 refine qv_ 10 q ?_
 refine qv_ 12 q ?_
 refine qt11_ 1 q e2 y ?_
 refine qv_ 3 q ?_
 refine qt11_ 4 q e2 y ?_
 refine qt11_ 7 q e2 y ?_
 refine qt11_ 11 q e2 y ?_
 refine q_o 13 q (fun K hK => ?_)
 refine q_go #[.agg #[.string V, .slice a0 z.length a1, .slice a5 B.length a6, .int .i64 X, .slice (some b7) b.length a7], .slice c0 (rd_L10 l1 a4).length c3, .int .i64 L] Tryd.func41 rfl ?_
 with_reducible refine (r11_out.calls (q_F c8 p.out) (q_C (Kd.C_below b5.out p.out)) e1.out g5.out).mono ?_
 rintro e i5 ⟨rfl, hb⟩
 refine ⟨_, rfl, ?_⟩
 have a8 := a_ (q_bk l.out hb); have a9 := a_ (q_st1 p.out hb b6.out); clear l p; have l := a8; have p := a9; clear a8 a9; (clear hb)
 refine hK.out _ _ (q_g5 l.out ⟨(q_kc p.out T), (q_kc p.out R), (q_kc p.out O), (q_kc p.out N), (q_kc p.out M), (q_kc p.out U)⟩) (fun y => ?_)
 clear hK K; refine norm_ (a' := ?_) ?_ ?_
 rotate_left
 ·show Act.put _ (some 24) _ = _
  simp only [Act.put, List.setIfInBounds_toArray, List.set_cons_zero, List.set_cons_succ, i64_w, i32_w]
  rfl
 refine q_o 14 q (fun K hK => ?_)
 refine q_go #[.agg #[.slice b8 ((rd_T69 b L).f0).length b9, .int .i64 ((rd_T69 b L).f1), .int .i64 ((rd_T69 b L).f2), .int .i64 ((rd_T69 b L).f3), .int .i64 ((rd_T69 b L).f4)], .int .i64 a3, .int .i64 a4, .bool d5] Tryd.func71 rfl ?_
 with_reducible refine (r11_before.calls (q_C (Kd.C_below b2.out p.out)) d8.out g6.out).mono ?_
 rintro e i6 ⟨rfl, hb⟩
 refine ⟨_, rfl, ?_⟩
 have a8 := a_ (q_bk l.out hb); have a9 := a_ (q_st1 p.out hb b6.out); clear l p; have l := a8; have p := a9; clear a8 a9; (clear hb)
 refine hK.out _ _ (q_g5 l.out ⟨(q_kc p.out T), (q_kc p.out R), (q_kc p.out O), (q_kc p.out N), (q_kc p.out M), (q_kc p.out U)⟩) (fun y => ?_)
 clear hK K; refine norm_ (a' := ?_) ?_ ?_
 rotate_left
 ·show Act.put _ (some 25) _ = _
  simp only [Act.put, List.setIfInBounds_toArray, List.set_cons_zero, List.set_cons_succ, i64_w, i32_w]
  rfl
 refine qv_ 15 q ?_
 refine done_ (done_of q.out (by kernel_rfl)) ?_
 try go_wp2
 go_ret
 exact ⟨q_e, q_w1 p.out b6.out⟩
mutual
def r11_clash.j0 : Nat → List (List Bool) → Int → Int → Bool → ByteArray → List (S83) → List (S85) → Int → List (S69) → Option (Bool)
 | 0, _, _, _, _, _, _, _, _, _ => none
 | k + 1, D, E, F, O, l, p, q, y, b => if O = true then (some true) else (r11_clash.l0 k D E F 0 l p q y b)
def r11_clash.l0 : Nat → List (List Bool) → Int → Int → Int → ByteArray → List (S83) → List (S85) → Int → List (S69) → Option (Bool)
 | 0, _, _, _, _, _, _, _, _, _ => none
 | k + 1, D, E, F, C, l, p, q, y, b => if C < (b.length : Int) then (if 0 ≤ C then (r11_clash.l1 k D E F C ((rd_T69 b C).f0) 0 l p q y b) else (none)) else (some false)
def r11_clash.l1 : Nat → List (List Bool) → Int → Int → Int → List (S71) → Int → ByteArray → List (S83) → List (S85) → Int → List (S69) → Option (Bool)
 | 0, _, _, _, _, _, _, _, _, _, _, _ => none
 | k + 1, D, E, F, C, B, z, l, p, q, y, b => if z < (B.length : Int) then (if 0 ≤ z then ((r11_Sets.f k ((rd_T71 B z).f0) ((rd_T71 B z).f1) ((rd_T71 B z).f2) ((rd_T71 B z).f3) ((rd_T71 B z).f4) ((rd_T71 B z).f5) ((rd_T71 B z).f6) E).bind fun G => (if G = true then ((r11_At.f k l p q y b D C (wrap64 (z + 1)) F).bind fun I => (if I = true then (some true) else ((r11_Sets.f k ((rd_T71 B z).f0) ((rd_T71 B z).f1) ((rd_T71 B z).f2) ((rd_T71 B z).f3) ((rd_T71 B z).f4) ((rd_T71 B z).f5) ((rd_T71 B z).f6) F).bind fun J => (if J = true then ((r11_At.f k l p q y b D C (wrap64 (z + 1)) E).bind fun L => (if L = true then (some true) else (r11_clash.l1 k D E F C B (wrap64 (z + 1)) l p q y b))) else (r11_clash.l1 k D E F C B (wrap64 (z + 1)) l p q y b))))) else ((r11_Sets.f k ((rd_T71 B z).f0) ((rd_T71 B z).f1) ((rd_T71 B z).f2) ((rd_T71 B z).f3) ((rd_T71 B z).f4) ((rd_T71 B z).f5) ((rd_T71 B z).f6) F).bind fun M => (if M = true then ((r11_At.f k l p q y b D C (wrap64 (z + 1)) E).bind fun N => (if N = true then (some true) else (r11_clash.l1 k D E F C B (wrap64 (z + 1)) l p q y b))) else (r11_clash.l1 k D E F C B (wrap64 (z + 1)) l p q y b))))) else (none)) else (r11_clash.l0 k D E F (wrap64 (C + 1)) l p q y b)
end
def r11_clash.f (k : Nat) (b : ByteArray) (l : List (S83)) (p : List (S85)) (q : Int) (y : List (S69)) (l1 : List (List Bool)) (z : Int) (B : Int) : Option (Bool) := if 0 ≤ z then (if z < (l1.length : Int) then (if 0 < ((rd_L10 l1 z).length : Int) then (if rdOf false (rd_L10 l1 z) 0 = true then (if 0 ≤ B then (if B < (l1.length : Int) then (if 0 < ((rd_L10 l1 B).length : Int) then (r11_clash.j0 k l1 z B (rdOf false (rd_L10 l1 B) 0) b l p q y) else (none)) else (none)) else (none)) else (r11_clash.j0 k l1 z B false b l p q y)) else (none)) else (none)) else (none)
theorem r11_clash.calls (k : Nat) (b4 : ByteArray) (g4 : Option Addr) (g5 : Nat) (b2 : List (S83)) (g6 : Option Addr) (g7 : Nat) (b3 : List (S85)) (b5 : Int) (i3 : Option Addr) (g8 : Nat) (p : List (S69)) (A1 : Option Addr) (c1 : Nat) (l1 : List (List Bool)) (a2 : Int) (a3 : Int) (r : Bool) (w : World) (k6 : q5 w g4 g5 b2 g6 g7 b3 i3 g8 p) (r7 : Kd.C (Kd.slice 4 Kd.bool) w A1 l1.length l1) (r8 : l1.length ≤ c1) (h : r11_clash.f k b4 b2 b3 b5 p l1 a2 a3 = some r) :
  Calls Tryd.prog 42 #[.agg #[.string b4, .slice g4 b2.length g5, .slice g6 b3.length g7, .int .i64 b5, .slice i3 p.length g8], .slice A1 l1.length c1, .int .i64 a2, .int .i64 a3] w fun e w' => e = .returned (.bool r) ∧ Below w.heap.size w w' := by
 obtain ⟨_, _, _, _, c8, _⟩ := q_O k6; have G1 := Tryd.underlying26; have G2 := Tryd.underlying71; have e8 := a_ r7; have i4 := a_ r8; clear r7 r8; have y := a_ (Below.refl w.heap.size w); have H : (if 0 ≤ a2 then (if a2 < (l1.length : Int) then (if 0 < ((rd_L10 l1 a2).length : Int) then (if rdOf false (rd_L10 l1 a2) 0 = true then (if 0 ≤ a3 then (if a3 < (l1.length : Int) then (if 0 < ((rd_L10 l1 a3).length : Int) then (r11_clash.j0 k l1 a2 a3 (rdOf false (rd_L10 l1 a3) 0) b4 b2 b3 b5 p) else (none)) else (none)) else (none)) else (r11_clash.j0 k l1 a2 a3 false b4 b2 b3 b5 p)) else (none)) else (none)) else (none)) = some r := h
 clear h; have r0 := a_ H; clear H; go_enter Tryd.func42, Tryd.ntmps42
 go_upto_region 1 with (first | ((with_reducible refine gd_ 4 rfl ?_); refine q_box 4 26 #[.string b4, .slice g4 b2.length g5, .slice g6 b3.length g7, .int .i64 b5, .slice i3 p.length g8] ?_; intro j6 hg w6 q2 hb; have l := a_ q2; have F3 := a_ (q_ge y.out hg); have z := a_ (q_ge y.out hg); replace y := a_ (q_st y.out hb); clear hb q2 hg))
 (try simp only [Act.put, List.setIfInBounds_toArray, List.set_cons_zero, List.set_cons_succ])
 go_cut [25] (fun F4 wc => ∃ (kq : Nat) (i1 : Bool), F4 = .bool i1 ∧ Aside0 (r11_clash.j0 kq l1 a2 a3 i1 b4 b2 b3 b5 p = some r) ∧ Aside0 (kq ≤ k) ∧ Aside0 (wc.heap[j6]? = some (.cells #[.string b4, (.slice g4 b2.length g5), (.slice g6 b3.length g7), .int .i64 b5, (.slice i3 p.length g8)] 26 (0, 0))) ∧ Aside0 (Below w.heap.size w wc))
 case first => (
 have H := r0.out; clear r0; replace H := q_gD H; obtain ⟨-, c7b0, H⟩ := H; (first | rw [c7b0] | (simp only [i64_w, i32_w]; rw [c7b0]) | skip)
 replace H := q_gD H; obtain ⟨-, c8b0, H⟩ := H; replace H := q_gD H; obtain ⟨c9, c9b0, H⟩ := H; have c9b1 : decide (0 < (rd_L10 l1 a2).length) = true := decide_eq_true (by omega)
 clear c9; obtain ⟨q3, j7⟩ : ∃ b_ : Bool, b_ = (rdOf false (rd_L10 l1 a2) 0) := ⟨_, rfl⟩; replace H : (if q3 = true then (if 0 ≤ a3 then (if a3 < (l1.length : Int) then (if 0 < ((rd_L10 l1 a3).length : Int) then (r11_clash.j0 k l1 a2 a3 (rdOf false (rd_L10 l1 a3) 0) b4 b2 b3 b5 p) else (none)) else (none)) else (none)) else (r11_clash.j0 k l1 a2 a3 false b4 b2 b3 b5 p)) = some r := by rw [← j7] at H; exact H
 have j8 := a_ j7; clear j7; cases q3
 {
 replace H := q_if H; have H' := a_ H
 clear H; obtain ⟨l6, p2, p3, l7, l8, d5, d6, r9, s0⟩ := b_L10 e8.out y.out a2; cases l7; have e9 := a_ d6; have l9 := a_ d5; clear d6 d5; have f7 : 0 ≤ (0 : Int) := (by omega)
 have f8 : 0 < ((rd_L10 l1 a2).length : Int) := q_d
 obtain ⟨r1, n0, I⟩ := Kd.at_bool e9.out 0 f7 f8; (try rw [← j8.out] at I)
 cases n0; have r2 : (0 < (rd_L10 l1 a2).length) = True := eq_true (by omega)
 (try rw [show ((0 : Int)).toNat = 0 from rfl] at I)
 (try rw [Addr.add_zero'] at I)
 replace I := q_kc y.out I; replace f7 := eq_true f7; replace f8 := eq_true f8; go_wp2
 go_meet
 case rel => exact ⟨_, (false), q_r, H', ⟨by first | omega | exact Nat.le_refl _⟩, ⟨q_k l.out⟩, ⟨q_w1 y.out z.out⟩⟩}
 {
 rw [if_pos rfl] at H; replace H := q_gD H; obtain ⟨-, c12b0, H⟩ := H; replace H := q_gD H; obtain ⟨-, c13b0, H⟩ := H; replace H := q_gD H; obtain ⟨F5, c14b0, H⟩ := H; have c14b1 : decide (0 < (rd_L10 l1 a3).length) = true := decide_eq_true (by omega)
 clear F5; have H' := a_ H
 clear H; obtain ⟨l6, p2, p3, l7, l8, d5, d6, r9, s0⟩ := b_L10 e8.out y.out a2; cases l7; have e9 := a_ d6; have l9 := a_ d5; clear d6 d5; have f7 : 0 ≤ (0 : Int) := (by omega)
 have f8 : 0 < ((rd_L10 l1 a2).length : Int) := q_d
 obtain ⟨r1, n0, I⟩ := Kd.at_bool e9.out 0 f7 f8; (try rw [← j8.out] at I)
 cases n0; have r2 : (0 < (rd_L10 l1 a2).length) = True := eq_true (by omega)
 (try rw [show ((0 : Int)).toNat = 0 from rfl] at I)
 (try rw [Addr.add_zero'] at I)
 replace I := q_kc y.out I; replace f7 := eq_true f7; replace f8 := eq_true f8; have n1 : 0 ≤ (a3 : Int) := q_d
 have n2 : a3 < (l1.length : Int) := q_d
 obtain ⟨r3, E9, F0, s1, i5, i6, i7⟩ := at_L10 e8.out a3 n1 n2; obtain rfl : l6 = r3 := (by injection s1)
 replace i5 := q_kc y.out i5; have n3 := a_ i7; have s2 := a_ i6; clear i7 i6; replace n1 := eq_true n1; replace n2 := eq_true n2; have n4 : 0 ≤ (0 : Int) := (by omega)
 have n5 : 0 < ((rd_L10 l1 a3).length : Int) := q_d
 obtain ⟨F6, s3, d7⟩ := Kd.at_bool n3.out 0 n4 n5; (try rw [← j8.out] at d7)
 cases s3; have F7 : (0 < (rd_L10 l1 a3).length) = True := eq_true (by omega)
 (try rw [show ((0 : Int)).toNat = 0 from rfl] at d7)
 (try rw [Addr.add_zero'] at d7)
 replace d7 := q_kc y.out d7; replace n4 := eq_true n4; replace n5 := eq_true n5; go_wp2
 go_meet
 case rel => exact ⟨_, (rdOf false (rd_L10 l1 a3) 0), q_r, H', ⟨by first | omega | exact Nat.le_refl _⟩, ⟨q_k l.out⟩, ⟨q_w1 y.out z.out⟩⟩})
 case rest => (
 clear r0; obtain ⟨kq, i1, rfl, HA, g1, l, y⟩ := hcut; cases kq with
 | zero => exact absurd HA.out (by simp [r11_clash.j0])
 | succ s4 => (
 have H := HA.out; clear HA; simp only [r11_clash.j0] at H
 cases i1
 {
 replace H := q_if H; have H' := a_ H
 clear H; go_wp2
 go_loopg [9] s4 (fun kq v9 w' => ∃ (q : Int), v9 = .int .i64 q ∧ Aside0 (r11_clash.l0 kq l1 a2 a3 q b4 b2 b3 b5 p = some r) ∧ Aside0 (kq ≤ s4) ∧ Aside0 (w'.heap[j6]? = some (.cells #[.string b4, (.slice g4 b2.length g5), (.slice g6 b3.length g7), .int .i64 b5, (.slice i3 p.length g8)] 26 (0, 0))) ∧ Aside0 (Below w.heap.size w w'))
 case atStart => exact ⟨(0), q_r, H', ⟨Nat.le_refl _⟩, ⟨q_k l.out⟩, ⟨q_w1 y.out z.out⟩⟩
 case round => (
 clear H'; obtain ⟨q, rfl, HA, g2, l, y⟩ := hrel; cases gk with
 | zero => exact absurd HA.out (by simp [r11_clash.l0])
 | succ k2 => (
 have H := HA.out; clear HA; simp only [r11_clash.l0] at H
 rcases q_ite H with ⟨c16b0, H⟩ | ⟨c16b0, H⟩
 {
 replace H := q_gD H; obtain ⟨-, c17b0, H⟩ := H; have H' := a_ H
 clear H; obtain ⟨n6, n7, n8, n9, o0, o1, o2, o3, o4, o5⟩ := q_cf5 l.out; obtain ⟨r4, F1, F2, s5, o6, o7, o8, o9, p0, i8, i9, s6, s7⟩ := b_T69 c8.out y.out q; cases s5; have E := a_ i9; have s8 := a_ i8; clear i9 i8; go_wp2
 go_loopg [11] k2 (fun kq F8 w' => ∃ (b : Int), F8 = .int .i64 b ∧ Aside0 (r11_clash.l1 kq l1 a2 a3 q ((rd_T69 p q).f0) b b4 b2 b3 b5 p = some r) ∧ Aside0 (kq ≤ k2) ∧ Aside0 (w'.heap[j6]? = some (.cells #[.string b4, (.slice g4 b2.length g5), (.slice g6 b3.length g7), .int .i64 b5, (.slice (some r4) p.length g8)] 26 (0, 0))) ∧ Aside0 (Below w.heap.size w w'))
 case atStart => exact ⟨(0), q_r, H', ⟨Nat.le_refl _⟩, ⟨q_k l.out⟩, ⟨q_w1 y.out z.out⟩⟩
 case round => (
 clear H'; clear c16b0 c17b0 n6 n7 n8 n9 o0 o1 o2 o3 o4 o5 o6 o7 o8 o9 p0 s6 s7; obtain ⟨b, rfl, HA, g3, l, y⟩ := hrel; cases gk with
 | zero => exact absurd HA.out (by simp [r11_clash.l1])
 | succ k3 => (
 have H := HA.out; clear HA; simp only [r11_clash.l1] at H
 rcases q_ite H with ⟨c19b0, H⟩ | ⟨c19b0, H⟩
 {
 replace H := q_gD H; obtain ⟨-, c20b0, H⟩ := H; replace H := q_bd H; obtain ⟨t0, q4, H⟩ := H; have j9 := a_ q4; clear q4; cases t0
 {
 replace H := q_if H; replace H := q_bd H; obtain ⟨B2, q8, H⟩ := H; have r6 := a_ q8; clear q8; cases B2
 {
 replace H := q_if H; have H' := a_ H
 clear H; obtain ⟨b1, J, L, b6, b7, b8, b9, c0, c3, c4, c6, B, D, g9, i0⟩ := b_T71 E.out y.out b; cases b6; have F := a_ D; have G := a_ B; clear D B; go_wp2_with (first | ((with_reducible refine gc_ 57 rfl ?_); refine q_gl 50 #[.agg #[.int .i64 ((rd_T71 ((rd_T69 p q).f0) b).f0), .int .i64 ((rd_T71 ((rd_T69 p q).f0) b).f1), .int .i64 ((rd_T71 ((rd_T69 p q).f0) b).f2), .int .i64 ((rd_T71 ((rd_T69 p q).f0) b).f3), .int .i64 ((rd_T71 ((rd_T69 p q).f0) b).f4), .int .i32 ((rd_T71 ((rd_T69 p q).f0) b).f5), .slice J ((rd_T71 ((rd_T69 p q).f0) b).f6).length L], .int .i64 a2] Tryd.func57 rfl ?_; (with_reducible refine (r11_Sets.calls (q_C (Kd.C_below F.out y.out)) G.out j9.out).mono ?_); rintro e I5 ⟨rfl, hb⟩; refine ⟨_, rfl, ?_⟩; replace l := a_ (q_bk l.out hb); replace y := a_ (q_st1 y.out hb z.out); (clear hb); have e2 : 0 ≤ (b : Int) := q_d; have e3 : b < (((rd_T69 p q).f0).length : Int) := q_d; obtain ⟨g0, k4, k5, j5, a0, a1, a4, a5, a6, a7, a8, a9, b0⟩ := at_T71 E.out b e2 e3; obtain rfl : b1 = g0 := (by injection j5); replace a0 := q_kc y.out a0; replace a1 := q_kc y.out a1; replace a4 := q_kc y.out a4; replace a5 := q_kc y.out a5; replace a6 := q_kc y.out a6; replace a7 := q_kc y.out a7; replace a8 := q_kc y.out a8; have e4 := a_ b0; have e5 := a_ a9; clear b0 a9; replace e2 := eq_true e2; replace e3 := eq_true e3) | (go_at_call 57; (with_reducible refine (r11_Sets.calls (q_C (Kd.C_below e4.out y.out)) e5.out r6.out).mono ?_); rintro e I6 ⟨rfl, hb⟩; replace l := a_ (q_bk l.out hb); replace y := a_ (q_st1 y.out hb z.out); (clear hb)))
 go_roundg k3
 case measure => have := g1.out; have := g2.out; have := g3.out; omega
 case rel => exact ⟨(wrap64 (b + 1)), q_r, H', ⟨by have := g1.out; have := g2.out; have := g3.out; omega⟩, ⟨q_k l.out⟩, ⟨q_w1 y.out z.out⟩⟩}
 {
 rw [if_pos rfl] at H; replace H := q_bd H; obtain ⟨B3, q9, H⟩ := H; have B6 := a_ q9; clear q9; cases B3
 {
 replace H := q_if H; have H' := a_ H
 clear H; obtain ⟨b1, J, L, b6, b7, b8, b9, c0, c3, c4, c6, B, D, g9, i0⟩ := b_T71 E.out y.out b; cases b6; have F := a_ D; have G := a_ B; clear D B; go_wp2_with (first | ((with_reducible refine gc_ 57 rfl ?_); refine q_gl 50 #[.agg #[.int .i64 ((rd_T71 ((rd_T69 p q).f0) b).f0), .int .i64 ((rd_T71 ((rd_T69 p q).f0) b).f1), .int .i64 ((rd_T71 ((rd_T69 p q).f0) b).f2), .int .i64 ((rd_T71 ((rd_T69 p q).f0) b).f3), .int .i64 ((rd_T71 ((rd_T69 p q).f0) b).f4), .int .i32 ((rd_T71 ((rd_T69 p q).f0) b).f5), .slice J ((rd_T71 ((rd_T69 p q).f0) b).f6).length L], .int .i64 a2] Tryd.func57 rfl ?_; (with_reducible refine (r11_Sets.calls (q_C (Kd.C_below F.out y.out)) G.out j9.out).mono ?_); rintro e I2 ⟨rfl, hb⟩; refine ⟨_, rfl, ?_⟩; replace l := a_ (q_bk l.out hb); replace y := a_ (q_st1 y.out hb z.out); (clear hb); have e2 : 0 ≤ (b : Int) := q_d; have e3 : b < (((rd_T69 p q).f0).length : Int) := q_d; obtain ⟨g0, k4, k5, j5, a0, a1, a4, a5, a6, a7, a8, a9, b0⟩ := at_T71 E.out b e2 e3; obtain rfl : b1 = g0 := (by injection j5); replace a0 := q_kc y.out a0; replace a1 := q_kc y.out a1; replace a4 := q_kc y.out a4; replace a5 := q_kc y.out a5; replace a6 := q_kc y.out a6; replace a7 := q_kc y.out a7; replace a8 := q_kc y.out a8; have e4 := a_ b0; have e5 := a_ a9; clear b0 a9; replace e2 := eq_true e2; replace e3 := eq_true e3) | (go_at_call 57; (with_reducible refine (r11_Sets.calls (q_C (Kd.C_below e4.out y.out)) e5.out r6.out).mono ?_); rintro e I3 ⟨rfl, hb⟩; replace l := a_ (q_bk l.out hb); replace y := a_ (q_st1 y.out hb z.out); (clear hb); obtain ⟨C9, D0, D1, D2, D3, D4, D5, D6, D7, D8⟩ := q_cf5 l.out) | (go_at_call 58; (with_reducible refine (r11_At.calls (q_F k6 y.out) (q_C (Kd.C_below e8.out y.out)) i4.out B6.out).mono ?_); rintro e I4 ⟨rfl, hb⟩; replace l := a_ (q_bk l.out hb); replace y := a_ (q_st1 y.out hb z.out); (clear hb)))
 go_roundg k3
 case measure => have := g1.out; have := g2.out; have := g3.out; omega
 case rel => exact ⟨(wrap64 (b + 1)), q_r, H', ⟨by have := g1.out; have := g2.out; have := g3.out; omega⟩, ⟨q_k l.out⟩, ⟨q_w1 y.out z.out⟩⟩}
 {
 rw [if_pos rfl] at H; obtain rfl := q_so H; obtain ⟨b1, J, L, b6, b7, b8, b9, c0, c3, c4, c6, B, D, g9, i0⟩ := b_T71 E.out y.out b; cases b6; have F := a_ D; have G := a_ B; clear D B; go_wp2_with (first | ((with_reducible refine gc_ 57 rfl ?_); refine q_gl 50 #[.agg #[.int .i64 ((rd_T71 ((rd_T69 p q).f0) b).f0), .int .i64 ((rd_T71 ((rd_T69 p q).f0) b).f1), .int .i64 ((rd_T71 ((rd_T69 p q).f0) b).f2), .int .i64 ((rd_T71 ((rd_T69 p q).f0) b).f3), .int .i64 ((rd_T71 ((rd_T69 p q).f0) b).f4), .int .i32 ((rd_T71 ((rd_T69 p q).f0) b).f5), .slice J ((rd_T71 ((rd_T69 p q).f0) b).f6).length L], .int .i64 a2] Tryd.func57 rfl ?_; (with_reducible refine (r11_Sets.calls (q_C (Kd.C_below F.out y.out)) G.out j9.out).mono ?_); rintro e H9 ⟨rfl, hb⟩; refine ⟨_, rfl, ?_⟩; replace l := a_ (q_bk l.out hb); replace y := a_ (q_st1 y.out hb z.out); (clear hb); have e2 : 0 ≤ (b : Int) := q_d; have e3 : b < (((rd_T69 p q).f0).length : Int) := q_d; obtain ⟨g0, k4, k5, j5, a0, a1, a4, a5, a6, a7, a8, a9, b0⟩ := at_T71 E.out b e2 e3; obtain rfl : b1 = g0 := (by injection j5); replace a0 := q_kc y.out a0; replace a1 := q_kc y.out a1; replace a4 := q_kc y.out a4; replace a5 := q_kc y.out a5; replace a6 := q_kc y.out a6; replace a7 := q_kc y.out a7; replace a8 := q_kc y.out a8; have e4 := a_ b0; have e5 := a_ a9; clear b0 a9; replace e2 := eq_true e2; replace e3 := eq_true e3) | (go_at_call 57; (with_reducible refine (r11_Sets.calls (q_C (Kd.C_below e4.out y.out)) e5.out r6.out).mono ?_); rintro e I0 ⟨rfl, hb⟩; replace l := a_ (q_bk l.out hb); replace y := a_ (q_st1 y.out hb z.out); (clear hb); obtain ⟨B7, C0, C1, C2, C3, C4, C5, C6, C7, C8⟩ := q_cf5 l.out) | (go_at_call 58; (with_reducible refine (r11_At.calls (q_F k6 y.out) (q_C (Kd.C_below e8.out y.out)) i4.out B6.out).mono ?_); rintro e I1 ⟨rfl, hb⟩; replace l := a_ (q_bk l.out hb); replace y := a_ (q_st1 y.out hb z.out); (clear hb)))
 go_ret
 exact ⟨q_e, q_w1 y.out z.out⟩}}}
 {
 rw [if_pos rfl] at H; replace H := q_bd H; obtain ⟨t1, q5, H⟩ := H; have p6 := a_ q5; clear q5; cases t1
 {
 replace H := q_if H; replace H := q_bd H; obtain ⟨v2, q6, H⟩ := H; have r5 := a_ q6; clear q6; cases v2
 {
 replace H := q_if H; have H' := a_ H
 clear H; obtain ⟨b1, J, L, b6, b7, b8, b9, c0, c3, c4, c6, B, D, g9, i0⟩ := b_T71 E.out y.out b; cases b6; have F := a_ D; have G := a_ B; clear D B; go_wp2_with (first | ((with_reducible refine gc_ 57 rfl ?_); refine q_gl 50 #[.agg #[.int .i64 ((rd_T71 ((rd_T69 p q).f0) b).f0), .int .i64 ((rd_T71 ((rd_T69 p q).f0) b).f1), .int .i64 ((rd_T71 ((rd_T69 p q).f0) b).f2), .int .i64 ((rd_T71 ((rd_T69 p q).f0) b).f3), .int .i64 ((rd_T71 ((rd_T69 p q).f0) b).f4), .int .i32 ((rd_T71 ((rd_T69 p q).f0) b).f5), .slice J ((rd_T71 ((rd_T69 p q).f0) b).f6).length L], .int .i64 a2] Tryd.func57 rfl ?_; (with_reducible refine (r11_Sets.calls (q_C (Kd.C_below F.out y.out)) G.out j9.out).mono ?_); rintro e H6 ⟨rfl, hb⟩; refine ⟨_, rfl, ?_⟩; replace l := a_ (q_bk l.out hb); replace y := a_ (q_st1 y.out hb z.out); (clear hb); obtain ⟨z9, A0, A2, A3, A4, A5, A6, A7, A8, A9⟩ := q_cf5 l.out) | (go_at_call 58; (with_reducible refine (r11_At.calls (q_F k6 y.out) (q_C (Kd.C_below e8.out y.out)) i4.out p6.out).mono ?_); rintro e H7 ⟨rfl, hb⟩; replace l := a_ (q_bk l.out hb); replace y := a_ (q_st1 y.out hb z.out); (clear hb); have d8 : 0 ≤ (b : Int) := q_d; have d9 : b < (((rd_T69 p q).f0).length : Int) := q_d; obtain ⟨f9, k0, k1, j3, M, N, O, R, S, T, U, V, X⟩ := at_T71 E.out b d8 d9; obtain rfl : b1 = f9 := (by injection j3); replace M := q_kc y.out M; replace N := q_kc y.out N; replace O := q_kc y.out O; replace R := q_kc y.out R; replace S := q_kc y.out S; replace T := q_kc y.out T; replace U := q_kc y.out U; have e0 := a_ X; have e1 := a_ V; clear X V; replace d8 := eq_true d8; replace d9 := eq_true d9) | (go_at_call 57; (with_reducible refine (r11_Sets.calls (q_C (Kd.C_below e0.out y.out)) e1.out r5.out).mono ?_); rintro e H8 ⟨rfl, hb⟩; replace l := a_ (q_bk l.out hb); replace y := a_ (q_st1 y.out hb z.out); (clear hb)))
 go_roundg k3
 case measure => have := g1.out; have := g2.out; have := g3.out; omega
 case rel => exact ⟨(wrap64 (b + 1)), q_r, H', ⟨by have := g1.out; have := g2.out; have := g3.out; omega⟩, ⟨q_k l.out⟩, ⟨q_w1 y.out z.out⟩⟩}
 {
 rw [if_pos rfl] at H; replace H := q_bd H; obtain ⟨v3, q7, H⟩ := H; have v4 := a_ q7; clear q7; cases v3
 {
 replace H := q_if H; have H' := a_ H
 clear H; obtain ⟨b1, J, L, b6, b7, b8, b9, c0, c3, c4, c6, B, D, g9, i0⟩ := b_T71 E.out y.out b; cases b6; have F := a_ D; have G := a_ B; clear D B; go_wp2_with (first | ((with_reducible refine gc_ 57 rfl ?_); refine q_gl 50 #[.agg #[.int .i64 ((rd_T71 ((rd_T69 p q).f0) b).f0), .int .i64 ((rd_T71 ((rd_T69 p q).f0) b).f1), .int .i64 ((rd_T71 ((rd_T69 p q).f0) b).f2), .int .i64 ((rd_T71 ((rd_T69 p q).f0) b).f3), .int .i64 ((rd_T71 ((rd_T69 p q).f0) b).f4), .int .i32 ((rd_T71 ((rd_T69 p q).f0) b).f5), .slice J ((rd_T71 ((rd_T69 p q).f0) b).f6).length L], .int .i64 a2] Tryd.func57 rfl ?_; (with_reducible refine (r11_Sets.calls (q_C (Kd.C_below F.out y.out)) G.out j9.out).mono ?_); rintro e H2 ⟨rfl, hb⟩; refine ⟨_, rfl, ?_⟩; replace l := a_ (q_bk l.out hb); replace y := a_ (q_st1 y.out hb z.out); (clear hb); obtain ⟨x9, y0, y1, y2, y3, y4, y5, y6, y7, y8⟩ := q_cf5 l.out) | (go_at_call 58; (with_reducible refine (r11_At.calls (q_F k6 y.out) (q_C (Kd.C_below e8.out y.out)) i4.out p6.out).mono ?_); rintro e H3 ⟨rfl, hb⟩; replace l := a_ (q_bk l.out hb); replace y := a_ (q_st1 y.out hb z.out); (clear hb); have d8 : 0 ≤ (b : Int) := q_d; have d9 : b < (((rd_T69 p q).f0).length : Int) := q_d; obtain ⟨f9, k0, k1, j3, M, N, O, R, S, T, U, V, X⟩ := at_T71 E.out b d8 d9; obtain rfl : b1 = f9 := (by injection j3); replace M := q_kc y.out M; replace N := q_kc y.out N; replace O := q_kc y.out O; replace R := q_kc y.out R; replace S := q_kc y.out S; replace T := q_kc y.out T; replace U := q_kc y.out U; have e0 := a_ X; have e1 := a_ V; clear X V; replace d8 := eq_true d8; replace d9 := eq_true d9) | (go_at_call 57; (with_reducible refine (r11_Sets.calls (q_C (Kd.C_below e0.out y.out)) e1.out r5.out).mono ?_); rintro e H4 ⟨rfl, hb⟩; replace l := a_ (q_bk l.out hb); replace y := a_ (q_st1 y.out hb z.out); (clear hb); obtain ⟨y9, z0, z1, z2, z3, z4, z5, z6, z7, z8⟩ := q_cf5 l.out) | (go_at_call 58; (with_reducible refine (r11_At.calls (q_F k6 y.out) (q_C (Kd.C_below e8.out y.out)) i4.out v4.out).mono ?_); rintro e H5 ⟨rfl, hb⟩; replace l := a_ (q_bk l.out hb); replace y := a_ (q_st1 y.out hb z.out); (clear hb)))
 go_roundg k3
 case measure => have := g1.out; have := g2.out; have := g3.out; omega
 case rel => exact ⟨(wrap64 (b + 1)), q_r, H', ⟨by have := g1.out; have := g2.out; have := g3.out; omega⟩, ⟨q_k l.out⟩, ⟨q_w1 y.out z.out⟩⟩}
 {
 rw [if_pos rfl] at H; obtain rfl := q_so H; obtain ⟨b1, J, L, b6, b7, b8, b9, c0, c3, c4, c6, B, D, g9, i0⟩ := b_T71 E.out y.out b; cases b6; have F := a_ D; have G := a_ B; clear D B; go_wp2_with (first | ((with_reducible refine gc_ 57 rfl ?_); refine q_gl 50 #[.agg #[.int .i64 ((rd_T71 ((rd_T69 p q).f0) b).f0), .int .i64 ((rd_T71 ((rd_T69 p q).f0) b).f1), .int .i64 ((rd_T71 ((rd_T69 p q).f0) b).f2), .int .i64 ((rd_T71 ((rd_T69 p q).f0) b).f3), .int .i64 ((rd_T71 ((rd_T69 p q).f0) b).f4), .int .i32 ((rd_T71 ((rd_T69 p q).f0) b).f5), .slice J ((rd_T71 ((rd_T69 p q).f0) b).f6).length L], .int .i64 a2] Tryd.func57 rfl ?_; (with_reducible refine (r11_Sets.calls (q_C (Kd.C_below F.out y.out)) G.out j9.out).mono ?_); rintro e G8 ⟨rfl, hb⟩; refine ⟨_, rfl, ?_⟩; replace l := a_ (q_bk l.out hb); replace y := a_ (q_st1 y.out hb z.out); (clear hb); obtain ⟨v5, v6, v7, v8, w2, w3, w4, w5, w7, w8⟩ := q_cf5 l.out) | (go_at_call 58; (with_reducible refine (r11_At.calls (q_F k6 y.out) (q_C (Kd.C_below e8.out y.out)) i4.out p6.out).mono ?_); rintro e G9 ⟨rfl, hb⟩; replace l := a_ (q_bk l.out hb); replace y := a_ (q_st1 y.out hb z.out); (clear hb); have d8 : 0 ≤ (b : Int) := q_d; have d9 : b < (((rd_T69 p q).f0).length : Int) := q_d; obtain ⟨f9, k0, k1, j3, M, N, O, R, S, T, U, V, X⟩ := at_T71 E.out b d8 d9; obtain rfl : b1 = f9 := (by injection j3); replace M := q_kc y.out M; replace N := q_kc y.out N; replace O := q_kc y.out O; replace R := q_kc y.out R; replace S := q_kc y.out S; replace T := q_kc y.out T; replace U := q_kc y.out U; have e0 := a_ X; have e1 := a_ V; clear X V; replace d8 := eq_true d8; replace d9 := eq_true d9) | (go_at_call 57; (with_reducible refine (r11_Sets.calls (q_C (Kd.C_below e0.out y.out)) e1.out r5.out).mono ?_); rintro e H0 ⟨rfl, hb⟩; replace l := a_ (q_bk l.out hb); replace y := a_ (q_st1 y.out hb z.out); (clear hb); obtain ⟨w9, x0, x1, x2, x3, x4, x5, x6, x7, x8⟩ := q_cf5 l.out) | (go_at_call 58; (with_reducible refine (r11_At.calls (q_F k6 y.out) (q_C (Kd.C_below e8.out y.out)) i4.out v4.out).mono ?_); rintro e H1 ⟨rfl, hb⟩; replace l := a_ (q_bk l.out hb); replace y := a_ (q_st1 y.out hb z.out); (clear hb)))
 go_ret
 exact ⟨q_e, q_w1 y.out z.out⟩}}}
 {
 rw [if_pos rfl] at H; obtain rfl := q_so H; obtain ⟨b1, J, L, b6, b7, b8, b9, c0, c3, c4, c6, B, D, g9, i0⟩ := b_T71 E.out y.out b; cases b6; have F := a_ D; have G := a_ B; clear D B; go_wp2_with (first | ((with_reducible refine gc_ 57 rfl ?_); refine q_gl 50 #[.agg #[.int .i64 ((rd_T71 ((rd_T69 p q).f0) b).f0), .int .i64 ((rd_T71 ((rd_T69 p q).f0) b).f1), .int .i64 ((rd_T71 ((rd_T69 p q).f0) b).f2), .int .i64 ((rd_T71 ((rd_T69 p q).f0) b).f3), .int .i64 ((rd_T71 ((rd_T69 p q).f0) b).f4), .int .i32 ((rd_T71 ((rd_T69 p q).f0) b).f5), .slice J ((rd_T71 ((rd_T69 p q).f0) b).f6).length L], .int .i64 a2] Tryd.func57 rfl ?_; (with_reducible refine (r11_Sets.calls (q_C (Kd.C_below F.out y.out)) G.out j9.out).mono ?_); rintro e G6 ⟨rfl, hb⟩; refine ⟨_, rfl, ?_⟩; replace l := a_ (q_bk l.out hb); replace y := a_ (q_st1 y.out hb z.out); (clear hb); obtain ⟨t2, t3, t4, t5, t6, t7, t8, t9, v0, v1⟩ := q_cf5 l.out) | (go_at_call 58; (with_reducible refine (r11_At.calls (q_F k6 y.out) (q_C (Kd.C_below e8.out y.out)) i4.out p6.out).mono ?_); rintro e G7 ⟨rfl, hb⟩; replace l := a_ (q_bk l.out hb); replace y := a_ (q_st1 y.out hb z.out); (clear hb)))
 go_ret
 exact ⟨q_e, q_w1 y.out z.out⟩}}}
 {
 have H' := a_ H
 clear H; go_wp2
 go_roundg k3
 case measure => have := g1.out; have := g2.out; have := g3.out; omega
 case rel => exact ⟨(wrap64 (q + 1)), q_r, H', ⟨by have := g1.out; have := g2.out; have := g3.out; omega⟩, ⟨q_k l.out⟩, ⟨q_w1 y.out z.out⟩⟩}))}
 {
 obtain rfl := q_so H; obtain ⟨D9, E0, E1, E2, E3, E4, E5, E6, E7, E8⟩ := q_cf5 l.out; go_wp2
 go_ret
 exact ⟨q_e, q_w1 y.out z.out⟩}))}
 {
 rw [if_pos rfl] at H; obtain rfl := q_so H; go_wp2
 go_ret
 exact ⟨q_e, q_w1 y.out z.out⟩}))
def flow_next.f (q : List (S71)) (b : Int) (y : Int) (l : Int) (p : Int) : Option (List Int) := if b = 0 then (some (([l] : List Int))) else (if b = 1 then (some (([l, p] : List Int))) else (some ([] : List Int)))
theorem flow_next.calls {E : Option Addr} {F : Nat} {y : List (S71)} {B : Int} {G : Int} {b : Int} {q : Int} {r : List Int} {w : World} (O : Kd.C k71 w E y.length y) (S : y.length ≤ F) (h : flow_next.f y B G b q = some r) :
  Calls Tryd.prog 44 #[.agg #[.slice E y.length F, .int .i64 B, .int .i64 G, .int .i64 b, .int .i64 q]] w fun e w' => ∃ a3 : Value, e = .returned (a3) ∧ Kd.R (Kd.int .i64) 3 w' w.heap.size (fun _ => True) a3 r ∧ Below w.heap.size w w' := by
 have e1 := Tryd.underlying69; have d9 := a_ O; have e0 := a_ S; clear O S; have D := a_ (Below.refl w.heap.size w); have H : (if B = 0 then (some (([b] : List Int))) else (if B = 1 then (some (([b, q] : List Int))) else (some ([] : List Int)))) = some r := h
 clear h; replace H := q_iBN H; rcases H with ⟨-, c2b0, c2b1, H⟩ | ⟨c2, c2b0, c2b1, H⟩
 {
 obtain ⟨a4, J⟩ : ∃ y_ : List Int, y_ = (([b] : List Int)) := ⟨_, rfl⟩; replace H : (some a4) = some r := q_rw J H
 have T := a_ J; clear J; obtain rfl := q_so H; go_enter Tryd.func44, Tryd.ntmps44
 go_wp2_with (first | ((with_reducible refine gd_ 1 rfl ?_); refine q_box 1 69 #[.slice E y.length F, .int .i64 B, .int .i64 G, .int .i64 b, .int .i64 q] ?_; intro U hg w3 z hb; have l := a_ z; have V := a_ (q_ge D.out hg); have p := a_ (q_ge D.out hg); replace D := a_ (q_st D.out hb); clear hb z hg; obtain ⟨b6, b7, b8, b9, c0, c1, c3, c4, c6, c8⟩ := q_cf5 l.out) | ((with_reducible refine gd_ 9 rfl ?_); refine Kd.R_lit (Kd.int .i64) _ 3 ?hg (N := 9) ?hd (xs := ([b] : List Int)) (inner := [.int .i64 b]) (ok := fun _ => True) (okp := fun _ => True) ?hr ?hp (fun _ hk => hk) trivial (Below.refl _ _) (Nat.le_refl _) (by simp) ?_; (case hd => rfl); (case hg => rfl); (case hr => first | (go_simp; done) | (go_simp; rfl)); (case hp => exact (Reps.one (show Kd.M (Kd.int .i64) _ _ _ b [.int .i64 b] from rfl) (Reps.none _ _))); intro e2 w5 X hb hg_ hnew_; clear hg_ hnew_; (first | rw [← T.out] at X | (simp only [Int.reduceToNat] at X; rw [← T.out] at X)); have a1 := a_ (Kd.R_lower X (below_size (q_w1 D.out p.out))); replace l := a_ (q_bk l.out hb); replace D := a_ (q_st1 D.out hb p.out); clear hb X))
 go_ret
 exact ⟨_, q_e, q_R a1.out, q_w1 D.out p.out⟩}
 {
 replace H := q_iBN H; rcases H with ⟨-, c7b0, c7b1, H⟩ | ⟨c7, c7b0, c7b1, H⟩
 {
 obtain ⟨a5, L⟩ : ∃ y_ : List Int, y_ = (([b, q] : List Int)) := ⟨_, rfl⟩; replace H : (some a5) = some r := q_rw L H
 have a0 := a_ L; clear L; obtain rfl := q_so H; go_enter Tryd.func44, Tryd.ntmps44
 go_wp2_with (first | ((with_reducible refine gd_ 1 rfl ?_); refine q_box 1 69 #[.slice E y.length F, .int .i64 B, .int .i64 G, .int .i64 b, .int .i64 q] ?_; intro U hg w8 z hb; have l := a_ z; have V := a_ (q_ge D.out hg); have p := a_ (q_ge D.out hg); replace D := a_ (q_st D.out hb); clear hb z hg; obtain ⟨c9, d0, d1, d2, d3, d4, d5, d6, d7, d8⟩ := q_cf5 l.out) | ((with_reducible refine gd_ 16 rfl ?_); refine Kd.R_lit (Kd.int .i64) _ 3 ?hg (N := 16) ?hd (xs := ([b, q] : List Int)) (inner := [.int .i64 b, .int .i64 q]) (ok := fun _ => True) (okp := fun _ => True) ?hr ?hp (fun _ hk => hk) trivial (Below.refl _ _) (Nat.le_refl _) (by simp) ?_; (case hd => rfl); (case hg => rfl); (case hr => first | (go_simp; done) | (go_simp; rfl)); (case hp => exact (Reps.one (show Kd.M (Kd.int .i64) _ _ _ b [.int .i64 b] from rfl) (Reps.one (show Kd.M (Kd.int .i64) _ _ _ q [.int .i64 q] from rfl) (Reps.none _ _)))); intro e3 e4 I hb hg_ hnew_; clear hg_ hnew_; (first | rw [← a0.out] at I | (simp only [Int.reduceToNat] at I; rw [← a0.out] at I)); have a2 := a_ (Kd.R_lower I (below_size (q_w1 D.out p.out))); replace l := a_ (q_bk l.out hb); replace D := a_ (q_st1 D.out hb p.out); clear hb I))
 go_ret
 exact ⟨_, q_e, q_R a2.out, q_w1 D.out p.out⟩}
 {
 obtain rfl := q_so H; go_enter Tryd.func44, Tryd.ntmps44
 go_wp2_with (first | ((with_reducible refine gd_ 1 rfl ?_); refine q_box 1 69 #[.slice E y.length F, .int .i64 B, .int .i64 G, .int .i64 b, .int .i64 q] ?_; intro U hg e5 z hb; have l := a_ z; have V := a_ (q_ge D.out hg); have p := a_ (q_ge D.out hg); replace D := a_ (q_st D.out hb); clear hb z hg; obtain ⟨a6, a7, a8, a9, b0, b1, b2, b3, b4, b5⟩ := q_cf5 l.out))
 go_ret
 exact ⟨_, q_e, by first | exact Kd.R_nil _ _ _ _ _ | exact Kd.N_nil _ _ _ _ _ | exact Kd.V_nil _ _ _ _ _ | exact Kd.Q_nil _ _ _ _ _ | exact Kd.S_nil _ _ _ _ _, q_w1 D.out p.out⟩}}
def r2_In.l0 : Nat → ByteArray → List ByteArray → Int → Option (Bool)
 | 0, _, _, _ => none
 | k + 1, p, l, b => if b < (l.length : Int) then (if 0 ≤ b then (if (rdOf ByteArray.empty l b).toList = p.toList then (some true) else (r2_In.l0 k p l (wrap64 (b + 1)))) else (none)) else (some false)
def r2_In.f (k : Nat) (b : ByteArray) (l1 : List ByteArray) : Option (Bool) := r2_In.l0 k b l1 0
theorem r2_In.calls {k : Nat} {q : ByteArray} {L : Option Addr} {M : Nat} {l1 : List ByteArray} {r : Bool} {w : World} (y : Kd.C Kd.string w L l1.length l1) (z : l1.length ≤ M) (h : r2_In.f k q l1 = some r) :
  Calls Tryd.prog 64 #[.string q, .slice L l1.length M] w fun e w' => e = .returned (.bool r) ∧ Drawn0 w w' := by
 have I := a_ y; have N := a_ z; clear y z; have H : (r2_In.l0 k q l1 0) = some r := h
 clear h; have G := a_ H
 clear H; go_enter Tryd.func64, Tryd.ntmps64
 go_wp2
 go_loopg [5] k (fun kq B w' => ∃ (b : Int), B = .int .i64 b ∧ Aside0 (r2_In.l0 kq q l1 b = some r) ∧ Aside0 (kq ≤ k) ∧ Drawn0 w w')
 case atStart => exact ⟨(0), q_r, G, ⟨Nat.le_refl _⟩, by repeat (first | exact Drawn0.refl _ | apply Drawn0.step)⟩
 case round => (
 clear G; obtain ⟨b, rfl, HA, D, ⟨R, rfl⟩⟩ := hrel; cases gk with
 | zero => exact absurd HA.out (by simp [r2_In.l0])
 | succ O => (
 have H := HA.out; clear HA; simp only [r2_In.l0] at H
 rcases q_ite H with ⟨c3b0, H⟩ | ⟨c3b0, H⟩
 {
 replace H := q_gD H; obtain ⟨-, c4b0, H⟩ := H; by_cases c5 : (rdOf ByteArray.empty l1 b).toList = q.toList
 focus (
 rw [if_pos c5] at H; have c5b0 : ((rdOf ByteArray.empty l1 b).toList == q.toList) = true := beq_iff_eq.mpr c5
 have c5b1 : ((rdOf ByteArray.empty l1 b).toList != q.toList) = false := bne_eq_false_iff_eq.mpr c5
 clear c5; obtain rfl := q_so H; have l : 0 ≤ (b : Int) := q_d)
 rotate_left
 focus (
 rw [if_neg c5] at H; have c5b0 : ((rdOf ByteArray.empty l1 b).toList == q.toList) = false := beq_eq_false_iff_ne.mpr c5
 have c5b1 : ((rdOf ByteArray.empty l1 b).toList != q.toList) = true := bne_iff_ne.mpr c5
 have G := a_ H
 clear H; have l : 0 ≤ (b : Int) := q_d)
 all_goals (
 have p : b < (l1.length : Int) := q_d
 obtain ⟨J, E, F⟩ := Kd.at_string I.out b l p; cases E; replace l := eq_true l; replace p := eq_true p; go_wp2)
 {
 go_roundg O
 case measure => have := D.out; omega
 case rel => exact ⟨(wrap64 (b + 1)), q_r, G, ⟨by have := D.out; omega⟩, by repeat (first | exact Drawn0.refl _ | apply Drawn0.step)⟩}
 {
 go_ret
 exact ⟨by first | rfl | (simp; done) | (simp [*]; done), by repeat (first | exact Drawn0.refl _ | apply Drawn0.step)⟩}}
 {
 obtain rfl := q_so H; go_wp2
 go_ret
 exact ⟨by first | rfl | (simp; done) | (simp [*]; done), by repeat (first | exact Drawn0.refl _ | apply Drawn0.step)⟩}))
def r2_letter.f (b : Int) : Option (Bool) := if b ≥ 97 then (if b ≤ 122 then (some true) else (if b ≥ 65 then (some (decide (b ≤ 90))) else (some false))) else (if b ≥ 65 then (some (decide (b ≤ 90))) else (some false))
theorem r2_letter.calls {b : Int} {r : Bool} {w : World} (h : r2_letter.f b = some r) :
  Calls Tryd.prog 92 #[.int .u8 b] w fun e w' => e = .returned (.bool r) ∧ Drawn0 w w' := by
 have H : (if b ≥ 97 then (if b ≤ 122 then (some true) else (if b ≥ 65 then (some (decide (b ≤ 90))) else (some false))) else (if b ≥ 65 then (some (decide (b ≤ 90))) else (some false))) = some r := h
 clear h; rcases q_ite H with ⟨c2b0, H⟩ | ⟨c2b0, H⟩
 {
 rcases q_ite H with ⟨c3b0, H⟩ | ⟨c3b0, H⟩
 {
 obtain rfl := q_so H; go_enter Tryd.func92, Tryd.ntmps92
 go_wp2
 go_ret
 exact ⟨by first | rfl | (simp; done) | (simp [*]; done), by repeat (first | exact Drawn0.refl _ | apply Drawn0.step)⟩}
 {
 rcases q_ite H with ⟨c4b0, H⟩ | ⟨c4b0, H⟩
 all_goals (
 obtain rfl := q_so H; go_enter Tryd.func92, Tryd.ntmps92
 go_wp2
 go_ret
 exact ⟨by first | rfl | (simp; done) | (simp [*]; done), by repeat (first | exact Drawn0.refl _ | apply Drawn0.step)⟩)}}
 {
 rcases q_ite H with ⟨c5b0, H⟩ | ⟨c5b0, H⟩
 all_goals (
 obtain rfl := q_so H; go_enter Tryd.func92, Tryd.ntmps92
 go_wp2
 go_ret
 exact ⟨by first | rfl | (simp; done) | (simp [*]; done), by repeat (first | exact Drawn0.refl _ | apply Drawn0.step)⟩)}
def r2_digit.f (b : Int) : Option (Bool) := if b ≥ 48 then (some (decide (b ≤ 57))) else (some false)
theorem r2_digit.calls {b : Int} {r : Bool} {w : World} (h : r2_digit.f b = some r) :
  Calls Tryd.prog 96 #[.int .u8 b] w fun e w' => e = .returned (.bool r) ∧ Drawn0 w w' := by
 have H : (if b ≥ 48 then (some (decide (b ≤ 57))) else (some false)) = some r := h
 clear h; rcases q_ite H with ⟨c2b0, H⟩ | ⟨c2b0, H⟩
 all_goals (
 obtain rfl := q_so H; go_enter Tryd.func96, Tryd.ntmps96
 go_wp2
 go_ret
 exact ⟨by first | rfl | (simp; done) | (simp [*]; done), by repeat (first | exact Drawn0.refl _ | apply Drawn0.step)⟩)
def r2_Inner.f (p : Int) : Option (Bool) := (r2_letter.f p).bind fun b => (if b = true then (some true) else ((r2_digit.f p).bind fun l => (if l = true then (some true) else (some (p == 95)))))
theorem r2_Inner.calls {B : Int} {r : Bool} {w : World} (h : r2_Inner.f B = some r) :
  Calls Tryd.prog 93 #[.int .u8 B] w fun e w' => e = .returned (.bool r) ∧ Drawn0 w w' := by
 have H : ((r2_letter.f B).bind fun l => (if l = true then (some true) else ((r2_digit.f B).bind fun p => (if p = true then (some true) else (some (B == 95)))))) = some r := h
 clear h; replace H := q_bd H; obtain ⟨l, q, H⟩ := H; have y := a_ q; clear q; cases l
 {
 replace H := q_if H; replace H := q_bd H; obtain ⟨p, z, H⟩ := H; have C := a_ z; clear z; by_cases c5 : p = true
 focus (
 subst c5; rw [if_pos rfl] at H; obtain rfl := q_so H; go_enter Tryd.func93, Tryd.ntmps93)
 rotate_left
 focus (
 replace c5 := q_bf c5; subst c5; replace H := q_if H; obtain rfl := q_so H; go_enter Tryd.func93, Tryd.ntmps93)
 all_goals (
 go_wp2_with (first | ((with_reducible refine gc_ 92 rfl ?_); refine q_gl 4 #[.int .u8 B] Tryd.func92 rfl ?_; (with_reducible refine (r2_letter.calls y.out).mono ?_); rintro e w' ⟨rfl, ⟨D, rfl⟩⟩; refine ⟨_, rfl, ?_⟩) | (go_at_call 96; (with_reducible refine (r2_digit.calls C.out).mono ?_); rintro e w' ⟨rfl, ⟨D, rfl⟩⟩))
 go_ret
 exact ⟨by first | rfl | (simp; done) | (simp [*]; done), by repeat (first | exact Drawn0.refl _ | apply Drawn0.step)⟩)}
 {
 rw [if_pos rfl] at H; obtain rfl := q_so H; go_enter Tryd.func93, Tryd.ntmps93
 go_wp2_with (first | ((with_reducible refine gc_ 92 rfl ?_); refine q_gl 4 #[.int .u8 B] Tryd.func92 rfl ?_; (with_reducible refine (r2_letter.calls y.out).mono ?_); rintro e w' ⟨rfl, ⟨D, rfl⟩⟩; refine ⟨_, rfl, ?_⟩))
 go_ret
 exact ⟨by first | rfl | (simp; done) | (simp [*]; done), by repeat (first | exact Drawn0.refl _ | apply Drawn0.step)⟩}
mutual
def r2_shaped.j0 : Nat → ByteArray → Bool → Option (Bool)
 | 0, _, _ => none
 | k + 1, b, q => if q = true then (some false) else (r2_shaped.l0 k b 0)
def r2_shaped.l0 : Nat → ByteArray → Int → Option (Bool)
 | 0, _, _ => none
 | k + 1, b, p => if p < (b.size : Int) then (if 0 ≤ p then ((r2_Inner.f (bt b p)).bind fun l => (if l = true then (r2_shaped.l0 k b (wrap64 (p + 1))) else (some false))) else (none)) else (some true)
end
def r2_shaped.f (k : Nat) (b : ByteArray) : Option (Bool) := if b.toList = ([] : List UInt8) then (r2_shaped.j0 k b true) else (if 0 < (b.size : Int) then ((r2_letter.f (bt b 0)).bind fun l => (r2_shaped.j0 k b (!l))) else (none))
theorem r2_shaped.calls {k : Nat} {l : ByteArray} {r : Bool} {w : World} (h : r2_shaped.f k l = some r) :
  Calls Tryd.prog 87 #[.string l] w fun e w' => e = .returned (.bool r) ∧ Drawn0 w w' := by
 have H : (if l.toList = ([] : List UInt8) then (r2_shaped.j0 k l true) else (if 0 < (l.size : Int) then ((r2_letter.f (bt l 0)).bind fun C => (r2_shaped.j0 k l (!C))) else (none))) = some r := h
 clear h; have y := a_ H; clear H; go_enter Tryd.func87, Tryd.ntmps87
 go_upto_region 1 with (fail)
 go_cut [11] (fun N wc => ∃ (kq : Nat) (p : Bool), N = .bool p ∧ Aside0 (r2_shaped.j0 kq l p = some r) ∧ Aside0 (kq ≤ k) ∧ Drawn0 w wc)
 case first => (
 have H := y.out; clear y; by_cases q : l.toList = ([] : List UInt8)
 {
 rw [if_pos q] at H; have c3b0 : (l.toList == ([] : List UInt8)) = true := beq_iff_eq.mpr q
 have c3b1 : (l.toList != ([] : List UInt8)) = false := bne_eq_false_iff_eq.mpr q
 clear q; (first | rw [c3b0] | (simp only [i64_w, i32_w]; rw [c3b0]) | skip)
 have I := a_ H
 clear H; go_wp2
 go_meet
 case rel => exact ⟨_, (true), q_r, I, ⟨by first | omega | exact Nat.le_refl _⟩, by repeat (first | exact Drawn0.refl _ | apply Drawn0.step)⟩}
 {
 rw [if_neg q] at H; have c3b0 : (l.toList == ([] : List UInt8)) = false := beq_eq_false_iff_ne.mpr q
 have c3b1 : (l.toList != ([] : List UInt8)) = true := bne_iff_ne.mpr q
 (first | rw [c3b0] | (simp only [i64_w, i32_w]; rw [c3b0]) | skip)
 replace H := q_gD H; obtain ⟨O, c4b0, H⟩ := H; have c4b1 : decide (0 < l.size) = true := decide_eq_true (by omega)
 clear O; replace H := q_bd H; obtain ⟨C, J, H⟩ := H; have z := a_ J; clear J; have I := a_ H
 clear H; have R : 0 ≤ (0 : Int) := (by omega)
 have L : 0 < l.size := (by have : (0 : Int) < (l.size : Int) := q_d; omega)
 have X : ∀ h : 0 < l.size, ((l[0]'h).toNat : Int) = bt l 0 := bt_at l 0
 clear R; have a1 : (0 < (l.size : Int)) = True := eq_true (q_d)
 replace L := eq_true L; go_wp2_with (first | (go_at_call 92; (with_reducible refine (r2_letter.calls z.out).mono ?_); rintro e w' ⟨rfl, ⟨nd, rfl⟩⟩))
 go_meet
 case rel => exact ⟨_, (!C), q_r, I, ⟨by first | omega | exact Nat.le_refl _⟩, by repeat (first | exact Drawn0.refl _ | apply Drawn0.step)⟩})
 case rest => (
 clear y; obtain ⟨kq, p, rfl, HA, D, ⟨a2, rfl⟩⟩ := hcut; cases kq with
 | zero => exact absurd HA.out (by simp [r2_shaped.j0])
 | succ E => (
 have H := HA.out; clear HA; simp only [r2_shaped.j0] at H
 cases p
 {
 replace H := q_if H; have I := a_ H
 clear H; go_wp2
 go_loopg [3] E (fun kq S w' => ∃ (b : Int), S = .int .i64 b ∧ Aside0 (r2_shaped.l0 kq l b = some r) ∧ Aside0 (kq ≤ E) ∧ Drawn0 w w')
 case atStart => exact ⟨(0), q_r, I, ⟨Nat.le_refl _⟩, by repeat (first | exact Drawn0.refl _ | apply Drawn0.step)⟩
 case round => (
 clear I; obtain ⟨b, rfl, HA, F, ⟨a4, rfl⟩⟩ := hrel; cases gk with
 | zero => exact absurd HA.out (by simp [r2_shaped.l0])
 | succ T => (
 have H := HA.out; clear HA; simp only [r2_shaped.l0] at H
 rcases q_ite H with ⟨c8b0, H⟩ | ⟨c8b0, H⟩
 {
 replace H := q_gD H; obtain ⟨-, c9b0, H⟩ := H; replace H := q_bd H; obtain ⟨U, z, H⟩ := H; have V := a_ z; clear z; by_cases B : U = true
 focus (
 subst B; rw [if_pos rfl] at H; have I := a_ H
 clear H; have G : 0 ≤ (b : Int) := q_d)
 rotate_left
 focus (
 replace B := q_bf B; subst B; replace H := q_if H; obtain rfl := q_so H; have G : 0 ≤ (b : Int) := q_d)
 all_goals (
 have M : b < (l.size : Int) := q_d
 have a3 := bt_at l b; replace G := eq_true G; replace M := eq_true M; go_wp2_with (first | ((with_reducible refine gc_ 93 rfl ?_); refine q_gl 21 #[.int .u8 (bt l b)] Tryd.func93 rfl ?_; (with_reducible refine (r2_Inner.calls V.out).mono ?_); rintro e w' ⟨rfl, ⟨nd, rfl⟩⟩; refine ⟨_, rfl, ?_⟩)))
 {
 go_ret
 exact ⟨by first | rfl | (simp; done) | (simp [*]; done), by repeat (first | exact Drawn0.refl _ | apply Drawn0.step)⟩}
 {
 go_roundg T
 case measure => have := D.out; have := F.out; omega
 case rel => exact ⟨(wrap64 (b + 1)), q_r, I, ⟨by have := D.out; have := F.out; omega⟩, by repeat (first | exact Drawn0.refl _ | apply Drawn0.step)⟩}}
 {
 obtain rfl := q_so H; go_wp2
 go_ret
 exact ⟨by first | rfl | (simp; done) | (simp [*]; done), by repeat (first | exact Drawn0.refl _ | apply Drawn0.step)⟩}))}
 {
 rw [if_pos rfl] at H; obtain rfl := q_so H; go_wp2
 go_ret
 exact ⟨by first | rfl | (simp; done) | (simp [*]; done), by repeat (first | exact Drawn0.refl _ | apply Drawn0.step)⟩}))
def r2_Words.f  : Option (List ByteArray) := some (([(⟨#[102, 117, 110, 99]⟩ : ByteArray), (⟨#[107, 101, 114, 110, 101, 108]⟩ : ByteArray), (⟨#[98, 117, 102, 102, 101, 114]⟩ : ByteArray), (⟨#[105, 110, 116]⟩ : ByteArray), (⟨#[115, 104, 97, 114, 101, 100]⟩ : ByteArray), (⟨#[108, 101, 116]⟩ : ByteArray), (⟨#[105, 102]⟩ : ByteArray), (⟨#[101, 108, 115, 101]⟩ : ByteArray), (⟨#[119, 104, 105, 108, 101]⟩ : ByteArray), (⟨#[98, 114, 101, 97, 107]⟩ : ByteArray), (⟨#[99, 111, 110, 116, 105, 110, 117, 101]⟩ : ByteArray), (⟨#[114, 101, 116, 117, 114, 110]⟩ : ByteArray), (⟨#[98, 97, 114, 114, 105, 101, 114]⟩ : ByteArray), (⟨#[97, 116, 111, 109, 105, 99]⟩ : ByteArray), (⟨#[99, 111, 108, 108, 101, 99, 116]⟩ : ByteArray), (⟨#[116, 105, 100]⟩ : ByteArray), (⟨#[98, 105, 100]⟩ : ByteArray), (⟨#[100, 105, 109]⟩ : ByteArray), (⟨#[103, 114, 105, 100]⟩ : ByteArray), (⟨#[109, 105, 110]⟩ : ByteArray), (⟨#[109, 97, 120]⟩ : ByteArray), (⟨#[97, 100, 100]⟩ : ByteArray), (⟨#[97, 110, 100]⟩ : ByteArray), (⟨#[111, 114]⟩ : ByteArray), (⟨#[120, 111, 114]⟩ : ByteArray)] : List ByteArray))
theorem r2_Words.calls  {r : List ByteArray} {w : World} (h : r2_Words.f  = some r) :
  Calls Tryd.prog 88 #[] w fun e w' => ∃ y : Value, e = .returned (y) ∧ Kd.R Kd.string 9 w' w.heap.size (fun _ => True) y r ∧ Below w.heap.size w w' := by
 have B := a_ (Below.refl w.heap.size w); have H : (some (([(⟨#[102, 117, 110, 99]⟩ : ByteArray), (⟨#[107, 101, 114, 110, 101, 108]⟩ : ByteArray), (⟨#[98, 117, 102, 102, 101, 114]⟩ : ByteArray), (⟨#[105, 110, 116]⟩ : ByteArray), (⟨#[115, 104, 97, 114, 101, 100]⟩ : ByteArray), (⟨#[108, 101, 116]⟩ : ByteArray), (⟨#[105, 102]⟩ : ByteArray), (⟨#[101, 108, 115, 101]⟩ : ByteArray), (⟨#[119, 104, 105, 108, 101]⟩ : ByteArray), (⟨#[98, 114, 101, 97, 107]⟩ : ByteArray), (⟨#[99, 111, 110, 116, 105, 110, 117, 101]⟩ : ByteArray), (⟨#[114, 101, 116, 117, 114, 110]⟩ : ByteArray), (⟨#[98, 97, 114, 114, 105, 101, 114]⟩ : ByteArray), (⟨#[97, 116, 111, 109, 105, 99]⟩ : ByteArray), (⟨#[99, 111, 108, 108, 101, 99, 116]⟩ : ByteArray), (⟨#[116, 105, 100]⟩ : ByteArray), (⟨#[98, 105, 100]⟩ : ByteArray), (⟨#[100, 105, 109]⟩ : ByteArray), (⟨#[103, 114, 105, 100]⟩ : ByteArray), (⟨#[109, 105, 110]⟩ : ByteArray), (⟨#[109, 97, 120]⟩ : ByteArray), (⟨#[97, 100, 100]⟩ : ByteArray), (⟨#[97, 110, 100]⟩ : ByteArray), (⟨#[111, 114]⟩ : ByteArray), (⟨#[120, 111, 114]⟩ : ByteArray)] : List ByteArray))) = some r := h
 clear h; obtain ⟨z, b⟩ : ∃ y_ : List ByteArray, y_ = (([(⟨#[102, 117, 110, 99]⟩ : ByteArray), (⟨#[107, 101, 114, 110, 101, 108]⟩ : ByteArray), (⟨#[98, 117, 102, 102, 101, 114]⟩ : ByteArray), (⟨#[105, 110, 116]⟩ : ByteArray), (⟨#[115, 104, 97, 114, 101, 100]⟩ : ByteArray), (⟨#[108, 101, 116]⟩ : ByteArray), (⟨#[105, 102]⟩ : ByteArray), (⟨#[101, 108, 115, 101]⟩ : ByteArray), (⟨#[119, 104, 105, 108, 101]⟩ : ByteArray), (⟨#[98, 114, 101, 97, 107]⟩ : ByteArray), (⟨#[99, 111, 110, 116, 105, 110, 117, 101]⟩ : ByteArray), (⟨#[114, 101, 116, 117, 114, 110]⟩ : ByteArray), (⟨#[98, 97, 114, 114, 105, 101, 114]⟩ : ByteArray), (⟨#[97, 116, 111, 109, 105, 99]⟩ : ByteArray), (⟨#[99, 111, 108, 108, 101, 99, 116]⟩ : ByteArray), (⟨#[116, 105, 100]⟩ : ByteArray), (⟨#[98, 105, 100]⟩ : ByteArray), (⟨#[100, 105, 109]⟩ : ByteArray), (⟨#[103, 114, 105, 100]⟩ : ByteArray), (⟨#[109, 105, 110]⟩ : ByteArray), (⟨#[109, 97, 120]⟩ : ByteArray), (⟨#[97, 100, 100]⟩ : ByteArray), (⟨#[97, 110, 100]⟩ : ByteArray), (⟨#[111, 114]⟩ : ByteArray), (⟨#[120, 111, 114]⟩ : ByteArray)] : List ByteArray)) := ⟨_, rfl⟩; replace H : (some z) = some r := q_rw b H
 have l := a_ b; clear b; obtain rfl := q_so H; go_enter Tryd.func88, Tryd.ntmps88
 go_wp2_with (first | ((with_reducible refine gd_ 1 rfl ?_); refine Kd.R_lit Kd.string _ 9 ?hg (N := 1) ?hd (xs := ([(⟨#[102, 117, 110, 99]⟩ : ByteArray), (⟨#[107, 101, 114, 110, 101, 108]⟩ : ByteArray), (⟨#[98, 117, 102, 102, 101, 114]⟩ : ByteArray), (⟨#[105, 110, 116]⟩ : ByteArray), (⟨#[115, 104, 97, 114, 101, 100]⟩ : ByteArray), (⟨#[108, 101, 116]⟩ : ByteArray), (⟨#[105, 102]⟩ : ByteArray), (⟨#[101, 108, 115, 101]⟩ : ByteArray), (⟨#[119, 104, 105, 108, 101]⟩ : ByteArray), (⟨#[98, 114, 101, 97, 107]⟩ : ByteArray), (⟨#[99, 111, 110, 116, 105, 110, 117, 101]⟩ : ByteArray), (⟨#[114, 101, 116, 117, 114, 110]⟩ : ByteArray), (⟨#[98, 97, 114, 114, 105, 101, 114]⟩ : ByteArray), (⟨#[97, 116, 111, 109, 105, 99]⟩ : ByteArray), (⟨#[99, 111, 108, 108, 101, 99, 116]⟩ : ByteArray), (⟨#[116, 105, 100]⟩ : ByteArray), (⟨#[98, 105, 100]⟩ : ByteArray), (⟨#[100, 105, 109]⟩ : ByteArray), (⟨#[103, 114, 105, 100]⟩ : ByteArray), (⟨#[109, 105, 110]⟩ : ByteArray), (⟨#[109, 97, 120]⟩ : ByteArray), (⟨#[97, 100, 100]⟩ : ByteArray), (⟨#[97, 110, 100]⟩ : ByteArray), (⟨#[111, 114]⟩ : ByteArray), (⟨#[120, 111, 114]⟩ : ByteArray)] : List ByteArray)) (inner := [.string (⟨#[102, 117, 110, 99]⟩ : ByteArray), .string (⟨#[107, 101, 114, 110, 101, 108]⟩ : ByteArray), .string (⟨#[98, 117, 102, 102, 101, 114]⟩ : ByteArray), .string (⟨#[105, 110, 116]⟩ : ByteArray), .string (⟨#[115, 104, 97, 114, 101, 100]⟩ : ByteArray), .string (⟨#[108, 101, 116]⟩ : ByteArray), .string (⟨#[105, 102]⟩ : ByteArray), .string (⟨#[101, 108, 115, 101]⟩ : ByteArray), .string (⟨#[119, 104, 105, 108, 101]⟩ : ByteArray), .string (⟨#[98, 114, 101, 97, 107]⟩ : ByteArray), .string (⟨#[99, 111, 110, 116, 105, 110, 117, 101]⟩ : ByteArray), .string (⟨#[114, 101, 116, 117, 114, 110]⟩ : ByteArray), .string (⟨#[98, 97, 114, 114, 105, 101, 114]⟩ : ByteArray), .string (⟨#[97, 116, 111, 109, 105, 99]⟩ : ByteArray), .string (⟨#[99, 111, 108, 108, 101, 99, 116]⟩ : ByteArray), .string (⟨#[116, 105, 100]⟩ : ByteArray), .string (⟨#[98, 105, 100]⟩ : ByteArray), .string (⟨#[100, 105, 109]⟩ : ByteArray), .string (⟨#[103, 114, 105, 100]⟩ : ByteArray), .string (⟨#[109, 105, 110]⟩ : ByteArray), .string (⟨#[109, 97, 120]⟩ : ByteArray), .string (⟨#[97, 100, 100]⟩ : ByteArray), .string (⟨#[97, 110, 100]⟩ : ByteArray), .string (⟨#[111, 114]⟩ : ByteArray), .string (⟨#[120, 111, 114]⟩ : ByteArray)]) (ok := fun _ => True) (okp := fun _ => True) ?hr ?hp (fun _ hk => hk) trivial (Below.refl _ _) (Nat.le_refl _) (by simp) ?_; (case hd => rfl); (case hg => rfl); (case hr => first | (go_simp; done) | (go_simp; rfl)); (case hp => exact (Reps.one (show Kd.M Kd.string _ _ _ (⟨#[102, 117, 110, 99]⟩ : ByteArray) [.string (⟨#[102, 117, 110, 99]⟩ : ByteArray)] from rfl) (Reps.one (show Kd.M Kd.string _ _ _ (⟨#[107, 101, 114, 110, 101, 108]⟩ : ByteArray) [.string (⟨#[107, 101, 114, 110, 101, 108]⟩ : ByteArray)] from rfl) (Reps.one (show Kd.M Kd.string _ _ _ (⟨#[98, 117, 102, 102, 101, 114]⟩ : ByteArray) [.string (⟨#[98, 117, 102, 102, 101, 114]⟩ : ByteArray)] from rfl) (Reps.one (show Kd.M Kd.string _ _ _ (⟨#[105, 110, 116]⟩ : ByteArray) [.string (⟨#[105, 110, 116]⟩ : ByteArray)] from rfl) (Reps.one (show Kd.M Kd.string _ _ _ (⟨#[115, 104, 97, 114, 101, 100]⟩ : ByteArray) [.string (⟨#[115, 104, 97, 114, 101, 100]⟩ : ByteArray)] from rfl) (Reps.one (show Kd.M Kd.string _ _ _ (⟨#[108, 101, 116]⟩ : ByteArray) [.string (⟨#[108, 101, 116]⟩ : ByteArray)] from rfl) (Reps.one (show Kd.M Kd.string _ _ _ (⟨#[105, 102]⟩ : ByteArray) [.string (⟨#[105, 102]⟩ : ByteArray)] from rfl) (Reps.one (show Kd.M Kd.string _ _ _ (⟨#[101, 108, 115, 101]⟩ : ByteArray) [.string (⟨#[101, 108, 115, 101]⟩ : ByteArray)] from rfl) (Reps.one (show Kd.M Kd.string _ _ _ (⟨#[119, 104, 105, 108, 101]⟩ : ByteArray) [.string (⟨#[119, 104, 105, 108, 101]⟩ : ByteArray)] from rfl) (Reps.one (show Kd.M Kd.string _ _ _ (⟨#[98, 114, 101, 97, 107]⟩ : ByteArray) [.string (⟨#[98, 114, 101, 97, 107]⟩ : ByteArray)] from rfl) (Reps.one (show Kd.M Kd.string _ _ _ (⟨#[99, 111, 110, 116, 105, 110, 117, 101]⟩ : ByteArray) [.string (⟨#[99, 111, 110, 116, 105, 110, 117, 101]⟩ : ByteArray)] from rfl) (Reps.one (show Kd.M Kd.string _ _ _ (⟨#[114, 101, 116, 117, 114, 110]⟩ : ByteArray) [.string (⟨#[114, 101, 116, 117, 114, 110]⟩ : ByteArray)] from rfl) (Reps.one (show Kd.M Kd.string _ _ _ (⟨#[98, 97, 114, 114, 105, 101, 114]⟩ : ByteArray) [.string (⟨#[98, 97, 114, 114, 105, 101, 114]⟩ : ByteArray)] from rfl) (Reps.one (show Kd.M Kd.string _ _ _ (⟨#[97, 116, 111, 109, 105, 99]⟩ : ByteArray) [.string (⟨#[97, 116, 111, 109, 105, 99]⟩ : ByteArray)] from rfl) (Reps.one (show Kd.M Kd.string _ _ _ (⟨#[99, 111, 108, 108, 101, 99, 116]⟩ : ByteArray) [.string (⟨#[99, 111, 108, 108, 101, 99, 116]⟩ : ByteArray)] from rfl) (Reps.one (show Kd.M Kd.string _ _ _ (⟨#[116, 105, 100]⟩ : ByteArray) [.string (⟨#[116, 105, 100]⟩ : ByteArray)] from rfl) (Reps.one (show Kd.M Kd.string _ _ _ (⟨#[98, 105, 100]⟩ : ByteArray) [.string (⟨#[98, 105, 100]⟩ : ByteArray)] from rfl) (Reps.one (show Kd.M Kd.string _ _ _ (⟨#[100, 105, 109]⟩ : ByteArray) [.string (⟨#[100, 105, 109]⟩ : ByteArray)] from rfl) (Reps.one (show Kd.M Kd.string _ _ _ (⟨#[103, 114, 105, 100]⟩ : ByteArray) [.string (⟨#[103, 114, 105, 100]⟩ : ByteArray)] from rfl) (Reps.one (show Kd.M Kd.string _ _ _ (⟨#[109, 105, 110]⟩ : ByteArray) [.string (⟨#[109, 105, 110]⟩ : ByteArray)] from rfl) (Reps.one (show Kd.M Kd.string _ _ _ (⟨#[109, 97, 120]⟩ : ByteArray) [.string (⟨#[109, 97, 120]⟩ : ByteArray)] from rfl) (Reps.one (show Kd.M Kd.string _ _ _ (⟨#[97, 100, 100]⟩ : ByteArray) [.string (⟨#[97, 100, 100]⟩ : ByteArray)] from rfl) (Reps.one (show Kd.M Kd.string _ _ _ (⟨#[97, 110, 100]⟩ : ByteArray) [.string (⟨#[97, 110, 100]⟩ : ByteArray)] from rfl) (Reps.one (show Kd.M Kd.string _ _ _ (⟨#[111, 114]⟩ : ByteArray) [.string (⟨#[111, 114]⟩ : ByteArray)] from rfl) (Reps.one (show Kd.M Kd.string _ _ _ (⟨#[120, 111, 114]⟩ : ByteArray) [.string (⟨#[120, 111, 114]⟩ : ByteArray)] from rfl) (Reps.none _ _))))))))))))))))))))))))))); intro C w1 p hb hg_ hnew_; clear hg_ hnew_; (first | rw [← l.out] at p | (simp only [Int.reduceToNat] at p; rw [← l.out] at p)); have q := a_ (Kd.R_lower p (below_size (q_w B.out))); replace B := a_ (q_st B.out hb); clear hb p))
 go_ret
 exact ⟨_, q_e, q_R q.out, q_w B.out⟩
def r2_Name.f (k : Nat) (q : ByteArray) : Option (Bool) := (r2_shaped.f k q).bind fun b => (if b = true then (if (q.size : Int) ≤ 16 then ((r2_Words.f).bind fun l => ((r2_In.f k q l).bind fun p => (some (!p)))) else (some false)) else (some false))
theorem r2_Name.calls {k : Nat} {p : ByteArray} {r : Bool} {w : World} (h : r2_Name.f k p = some r) :
  Calls Tryd.prog 77 #[.string p] w fun e w' => e = .returned (.bool r) ∧ Below w.heap.size w w' := by
 have z := a_ (Below.refl w.heap.size w); have H : ((r2_shaped.f k p).bind fun l => (if l = true then (if (p.size : Int) ≤ 16 then ((r2_Words.f).bind fun q => ((r2_In.f k p q).bind fun y => (some (!y)))) else (some false)) else (some false))) = some r := h
 clear h; replace H := q_bd H; obtain ⟨l, B, H⟩ := H; have G := a_ B; clear B; cases l
 {
 replace H := q_if H; obtain rfl := q_so H; go_enter Tryd.func77, Tryd.ntmps77
 go_wp2_with (first | ((with_reducible refine gc_ 87 rfl ?_); refine q_gl 4 #[.string p] Tryd.func87 rfl ?_; (with_reducible refine (r2_shaped.calls G.out).mono ?_); rintro e w' ⟨rfl, ⟨J, rfl⟩⟩; refine ⟨_, rfl, ?_⟩))
 go_ret
 exact ⟨q_e, q_w z.out⟩}
 {
 rw [if_pos rfl] at H; replace H := q_iD H; rcases H with ⟨I, c4b0, H⟩ | ⟨I, c4b0, H⟩
 {
 have c4b1 : decide (p.size ≤ 16) = true := decide_eq_true (by omega)
 clear I; replace H := q_bd H; obtain ⟨q, C, H⟩ := H; have N := a_ C; clear C; replace H := q_bd H; obtain ⟨y, D, H⟩ := H; have O := a_ D; clear D; obtain rfl := q_so H; go_enter Tryd.func77, Tryd.ntmps77
 go_wp2_with (first | ((with_reducible refine gc_ 87 rfl ?_); refine q_gl 4 #[.string p] Tryd.func87 rfl ?_; (with_reducible refine (r2_shaped.calls G.out).mono ?_); rintro e w' ⟨rfl, ⟨J, rfl⟩⟩; refine ⟨_, rfl, ?_⟩) | (go_at_call 88; (with_reducible refine (r2_Words.calls N.out).mono ?_); rintro e T ⟨M, rfl, E, hb⟩; have b := a_ (Kd.R_lower E (below_size (q_w z.out))); replace z := a_ (q_st z.out hb); clear hb E; obtain ⟨R, S, L⟩ := Kd.R_slice b.out; subst L) | (go_at_call 64; (with_reducible refine (r2_In.calls ?side1 ((Kd.R_reads' b.out).2.1) O.out).mono ?_); (case side1 => repeat (first | exact (Kd.R_reads' b.out).2.2 | with_reducible first | refine Kd.C_alloc ?_ _ | refine Kd.C_drewN ?_ _ | refine Kd.C_drew ?_)); rintro e w' ⟨rfl, ⟨J, rfl⟩⟩))
 go_ret
 exact ⟨q_e, q_w z.out⟩}
 {
 have c4b1 : decide (p.size ≤ 16) = false := decide_eq_false (by omega)
 clear I; obtain rfl := q_so H; go_enter Tryd.func77, Tryd.ntmps77
 go_wp2_with (first | ((with_reducible refine gc_ 87 rfl ?_); refine q_gl 4 #[.string p] Tryd.func87 rfl ?_; (with_reducible refine (r2_shaped.calls G.out).mono ?_); rintro e w' ⟨rfl, ⟨J, rfl⟩⟩; refine ⟨_, rfl, ?_⟩))
 go_ret
 exact ⟨q_e, q_w z.out⟩}}
mutual
def r3_Head.j0 : Nat → List (S83) → List (S85) → Bool → Option (Bool)
 | 0, _, _, _ => none
 | k + 1, p, b, B => if B = true then (some false) else (r3_Head.l0 k p b 0)
def r3_Head.l0 : Nat → List (S83) → List (S85) → Int → Option (Bool)
 | 0, _, _, _ => none
 | k + 1, p, b, z => if z < (p.length : Int) then (if 0 ≤ z then ((r2_Name.f k ((rd_T83 p z).f0)).bind fun q => (if q = true then (r3_Head.l0 k p b (wrap64 (z + 1))) else (some false))) else (none)) else (r3_Head.l1 k b 0)
def r3_Head.l1 : Nat → List (S85) → Int → Option (Bool)
 | 0, _, _ => none
 | k + 1, b, l => if l < (b.length : Int) then (if 0 ≤ l then ((r2_Name.f k ((rd_T85 b l).f0)).bind fun y => (if y = true then (if ((rd_T85 b l).f1) < 1 then (some false) else (if ((rd_T85 b l).f1) > 64 then (some false) else (r3_Head.l1 k b (wrap64 (l + 1))))) else (some false))) else (none)) else (some true)
end
def r3_Head.f (k : Nat) (l : ByteArray) (l1 : List (S83)) (l2 : List (S85)) : Option (Bool) := (r2_Name.f k l).bind fun b => (if b = true then (if (l1.length : Int) > 6 then (r3_Head.j0 k l1 l2 true) else (r3_Head.j0 k l1 l2 (decide ((l2.length : Int) > 4)))) else (r3_Head.j0 k l1 l2 true))
theorem r3_Head.calls {k : Nat} {a0 : ByteArray} {A1 : Option Addr} {c1 : Nat} {l1 : List (S83)} {A2 : Option Addr} {c2 : Nat} {l2 : List (S85)} {r : Bool} {w : World} (b9 : Kd.C k83 w A1 l1.length l1) (c0 : l1.length ≤ c1) (c3 : Kd.C k85 w A2 l2.length l2) (c4 : l2.length ≤ c2) (h : r3_Head.f k a0 l1 l2 = some r) :
  Calls Tryd.prog 63 #[.string a0, .slice A1 l1.length c1, .slice A2 l2.length c2] w fun e w' => e = .returned (.bool r) ∧ Below w.heap.size w w' := by
 have c6 := a_ b9; have d9 := a_ c0; clear b9 c0; have R := a_ c3; have e0 := a_ c4; clear c3 c4; have q := a_ (Below.refl w.heap.size w); have H : ((r2_Name.f k a0).bind fun b0 => (if b0 = true then (if (l1.length : Int) > 6 then (r3_Head.j0 k l1 l2 true) else (r3_Head.j0 k l1 l2 (decide ((l2.length : Int) > 4)))) else (r3_Head.j0 k l1 l2 true))) = some r := h
 clear h; have a2 := a_ H; clear H; go_enter Tryd.func63, Tryd.ntmps63
 go_upto_region 1 with (fail)
 go_cut [21] (fun c8 wc => ∃ (kq : Nat) (L : Bool), c8 = .bool L ∧ Aside0 (r3_Head.j0 kq l1 l2 L = some r) ∧ Aside0 (kq ≤ k) ∧ Aside0 (Below w.heap.size w wc))
 case first => (
 have H := a2.out; clear a2; replace H := q_bd H; obtain ⟨b0, b5, H⟩ := H; have b6 := a_ b5; clear b5; cases b0
 {
 replace H := q_if H; have H' := a_ H
 clear H; go_wp2_with (first | ((with_reducible refine gc_ 77 rfl ?_); refine q_gl 10 #[.string a0] Tryd.func77 rfl ?_; (with_reducible refine (r2_Name.calls b6.out).mono ?_); rintro e c9 ⟨rfl, hb⟩; refine ⟨_, rfl, ?_⟩; replace q := a_ (q_st q.out hb); (clear hb)))
 go_meet
 case rel => exact ⟨_, (true), q_r, H', ⟨by first | omega | exact Nat.le_refl _⟩, ⟨q_w q.out⟩⟩}
 {
 rw [if_pos rfl] at H; replace H := q_iD H; rcases H with ⟨c7, c7b0, H⟩ | ⟨c7, c7b0, H⟩
 focus (
 have c7b1 : decide (6 < l1.length) = true := decide_eq_true (by omega))
 rotate_left
 focus (
 have c7b1 : decide (6 < l1.length) = false := decide_eq_false (by omega))
 all_goals (
 clear c7; (first | rw [c7b0] | (simp only [i64_w, i32_w]; rw [c7b0]) | skip)
 have H' := a_ H
 clear H; go_wp2_with (first | ((with_reducible refine gc_ 77 rfl ?_); refine q_gl 10 #[.string a0] Tryd.func77 rfl ?_; (with_reducible refine (r2_Name.calls b6.out).mono ?_); rintro e c9 ⟨rfl, hb⟩; refine ⟨_, rfl, ?_⟩; replace q := a_ (q_st q.out hb); (clear hb))))
 {
 go_meet
 case rel => exact ⟨_, (decide ((l2.length : Int) > 4)), q_r, H', ⟨by first | omega | exact Nat.le_refl _⟩, ⟨q_w q.out⟩⟩}
 {
 go_meet
 case rel => exact ⟨_, (true), q_r, H', ⟨by first | omega | exact Nat.le_refl _⟩, ⟨q_w q.out⟩⟩}})
 case rest => (
 clear a2; obtain ⟨kq, L, rfl, HA, S, q⟩ := hcut; cases kq with
 | zero => exact absurd HA.out (by simp [r3_Head.j0])
 | succ b1 => (
 have H := HA.out; clear HA; simp only [r3_Head.j0] at H
 cases L
 {
 replace H := q_if H; have H' := a_ H
 clear H; go_wp2
 go_loopg [7] b1 (fun kq d0 w' => ∃ (y : Int), d0 = .int .i64 y ∧ Aside0 (r3_Head.l0 kq l1 l2 y = some r) ∧ Aside0 (kq ≤ b1) ∧ Aside0 (Below w.heap.size w w'))
 case atStart => exact ⟨(0), q_r, H', ⟨Nat.le_refl _⟩, ⟨q_w q.out⟩⟩
 case round => (
 clear H'; obtain ⟨y, rfl, HA, b4, q⟩ := hrel; cases gk with
 | zero => exact absurd HA.out (by simp [r3_Head.l0])
 | succ k2 => (
 have H := HA.out; clear HA; simp only [r3_Head.l0] at H
 rcases q_ite H with ⟨c12b0, H⟩ | ⟨c12b0, H⟩
 {
 replace H := q_gD H; obtain ⟨-, c13b0, H⟩ := H; replace H := q_bd H; obtain ⟨d1, b7, H⟩ := H; have T := a_ b7; clear b7; cases d1
 {
 replace H := q_if H; obtain rfl := q_so H; obtain ⟨z, B, D, E, U, V⟩ := b_T83 c6.out q.out y; cases B; go_wp2_with (first | ((with_reducible refine gc_ 77 rfl ?_); refine q_gl 33 #[.string ((rd_T83 l1 y).f0)] Tryd.func77 rfl ?_; (with_reducible refine (r2_Name.calls T.out).mono ?_); rintro e X ⟨rfl, hb⟩; refine ⟨_, rfl, ?_⟩; replace q := a_ (q_st q.out hb); (clear hb)))
 go_ret
 exact ⟨q_e, q_w q.out⟩}
 {
 rw [if_pos rfl] at H; have H' := a_ H
 clear H; obtain ⟨z, B, D, E, U, V⟩ := b_T83 c6.out q.out y; cases B; go_wp2_with (first | ((with_reducible refine gc_ 77 rfl ?_); refine q_gl 33 #[.string ((rd_T83 l1 y).f0)] Tryd.func77 rfl ?_; (with_reducible refine (r2_Name.calls T.out).mono ?_); rintro e X ⟨rfl, hb⟩; refine ⟨_, rfl, ?_⟩; replace q := a_ (q_st q.out hb); (clear hb)))
 go_roundg k2
 case measure => have := S.out; have := b4.out; omega
 case rel => exact ⟨(wrap64 (y + 1)), q_r, H', ⟨by have := S.out; have := b4.out; omega⟩, ⟨q_w q.out⟩⟩}}
 {
 have H' := a_ H
 clear H; go_wp2
 go_loopg [8] k2 (fun kq d2 w' => ∃ (b : Int), d2 = .int .i64 b ∧ Aside0 (r3_Head.l1 kq l2 b = some r) ∧ Aside0 (kq ≤ k2) ∧ Aside0 (Below w.heap.size w w'))
 case atStart => exact ⟨(0), q_r, H', ⟨Nat.le_refl _⟩, ⟨q_w q.out⟩⟩
 case round => (
 clear H'; clear c12b0; obtain ⟨b, rfl, HA, b2, q⟩ := hrel; cases gk with
 | zero => exact absurd HA.out (by simp [r3_Head.l1])
 | succ d3 => (
 have H := HA.out; clear HA; simp only [r3_Head.l1] at H
 rcases q_ite H with ⟨c18b0, H⟩ | ⟨c18b0, H⟩
 {
 replace H := q_gD H; obtain ⟨-, c19b0, H⟩ := H; replace H := q_bd H; obtain ⟨d4, T, H⟩ := H; have a8 := a_ T; clear T; cases d4
 {
 replace H := q_if H; obtain rfl := q_so H; obtain ⟨z, B, D, E, U, V⟩ := b_T85 R.out q.out b; cases B; go_wp2_with (first | ((with_reducible refine gc_ 77 rfl ?_); refine q_gl 46 #[.string ((rd_T85 l2 b).f0)] Tryd.func77 rfl ?_; (with_reducible refine (r2_Name.calls a8.out).mono ?_); rintro e X ⟨rfl, hb⟩; refine ⟨_, rfl, ?_⟩; replace q := a_ (q_st q.out hb); (clear hb)))
 go_ret
 exact ⟨q_e, q_w q.out⟩}
 {
 rw [if_pos rfl] at H; rcases q_ite H with ⟨c22b0, H⟩ | ⟨c22b0, H⟩
 {
 obtain rfl := q_so H; obtain ⟨z, B, D, E, U, V⟩ := b_T85 R.out q.out b; cases B; go_wp2_with (first | ((with_reducible refine gc_ 77 rfl ?_); refine q_gl 46 #[.string ((rd_T85 l2 b).f0)] Tryd.func77 rfl ?_; (with_reducible refine (r2_Name.calls a8.out).mono ?_); rintro e X ⟨rfl, hb⟩; refine ⟨_, rfl, ?_⟩; replace q := a_ (q_st q.out hb); (clear hb); have F : 0 ≤ (b : Int) := q_d; have G : b < (l2.length : Int) := q_d; obtain ⟨M, a1, l, p⟩ := at_T85 R.out b F G; obtain rfl : z = M := (by injection a1); replace l := q_kc q.out l; replace p := q_kc q.out p; replace F := eq_true F; replace G := eq_true G))
 go_ret
 exact ⟨q_e, q_w q.out⟩}
 {
 rcases q_ite H with ⟨c24b0, H⟩ | ⟨c24b0, H⟩
 {
 obtain rfl := q_so H; obtain ⟨z, B, D, E, U, V⟩ := b_T85 R.out q.out b; cases B; go_wp2_with (first | ((with_reducible refine gc_ 77 rfl ?_); refine q_gl 46 #[.string ((rd_T85 l2 b).f0)] Tryd.func77 rfl ?_; (with_reducible refine (r2_Name.calls a8.out).mono ?_); rintro e X ⟨rfl, hb⟩; refine ⟨_, rfl, ?_⟩; replace q := a_ (q_st q.out hb); (clear hb); have F : 0 ≤ (b : Int) := q_d; have G : b < (l2.length : Int) := q_d; obtain ⟨M, a1, l, p⟩ := at_T85 R.out b F G; obtain rfl : z = M := (by injection a1); replace l := q_kc q.out l; replace p := q_kc q.out p; replace F := eq_true F; replace G := eq_true G; have N : 0 ≤ (b : Int) := q_d; have O : b < (l2.length : Int) := q_d; obtain ⟨a3, b3, I, J⟩ := at_T85 R.out b N O; obtain rfl : z = a3 := (by injection b3); replace I := q_kc q.out I; replace J := q_kc q.out J; replace N := eq_true N; replace O := eq_true O))
 go_ret
 exact ⟨q_e, q_w q.out⟩}
 {
 have H' := a_ H
 clear H; obtain ⟨z, B, D, E, U, V⟩ := b_T85 R.out q.out b; cases B; go_wp2_with (first | ((with_reducible refine gc_ 77 rfl ?_); refine q_gl 46 #[.string ((rd_T85 l2 b).f0)] Tryd.func77 rfl ?_; (with_reducible refine (r2_Name.calls a8.out).mono ?_); rintro e X ⟨rfl, hb⟩; refine ⟨_, rfl, ?_⟩; replace q := a_ (q_st q.out hb); (clear hb); have F : 0 ≤ (b : Int) := q_d; have G : b < (l2.length : Int) := q_d; obtain ⟨M, a1, l, p⟩ := at_T85 R.out b F G; obtain rfl : z = M := (by injection a1); replace l := q_kc q.out l; replace p := q_kc q.out p; replace F := eq_true F; replace G := eq_true G; have N : 0 ≤ (b : Int) := q_d; have O : b < (l2.length : Int) := q_d; obtain ⟨a3, b3, I, J⟩ := at_T85 R.out b N O; obtain rfl : z = a3 := (by injection b3); replace I := q_kc q.out I; replace J := q_kc q.out J; replace N := eq_true N; replace O := eq_true O))
 go_roundg d3
 case measure => have := S.out; have := b4.out; have := b2.out; omega
 case rel => exact ⟨(wrap64 (b + 1)), q_r, H', ⟨by have := S.out; have := b4.out; have := b2.out; omega⟩, ⟨q_w q.out⟩⟩}}}}
 {
 obtain rfl := q_so H; go_wp2
 go_ret
 exact ⟨q_e, q_w q.out⟩}))}))}
 {
 rw [if_pos rfl] at H; obtain rfl := q_so H; go_wp2
 go_ret
 exact ⟨q_e, q_w q.out⟩}))
mutual
def r6_Heads.l0 : Nat → List (S83) → List (S85) → List ByteArray → Int → Option (Bool)
 | 0, _, _, _, _ => none
 | k + 1, B, p, b, y => if y < (B.length : Int) then (if 0 ≤ y then (if b.length < 8796093022208 then (r6_Heads.l0 k B p (b ++ [(rd_T83 B y).f0]) (wrap64 (y + 1))) else (none)) else (none)) else (r6_Heads.l1 k p b 0)
def r6_Heads.l1 : Nat → List (S85) → List ByteArray → Int → Option (Bool)
 | 0, _, _, _ => none
 | k + 1, p, b, z => if z < (p.length : Int) then (if 0 ≤ z then (if b.length < 8796093022208 then (r6_Heads.l1 k p (b ++ [(rd_T85 p z).f0]) (wrap64 (z + 1))) else (none)) else (none)) else (r6_Heads.l2 k b 0)
def r6_Heads.l2 : Nat → List ByteArray → Int → Option (Bool)
 | 0, _, _ => none
 | k + 1, b, l => if l < (b.length : Int) then (if 0 ≤ l then (if l ≤ (b.length : Int) then ((r2_In.f k (rdOf ByteArray.empty b l) (b.take (l : Int).toNat)).bind fun q => (if q = true then (some false) else (r6_Heads.l2 k b (wrap64 (l + 1))))) else (none)) else (none)) else (some true)
end
def r6_Heads.f (k : Nat) (l : ByteArray) (l1 : List (S83)) (l2 : List (S85)) : Option (Bool) := (r3_Head.f k l l1 l2).bind fun b => (if b = true then (r6_Heads.l0 k l1 l2 ([] : List ByteArray) 0) else (some false))
theorem r6_Heads.calls {k : Nat} {a0 : ByteArray} {A1 : Option Addr} {c1 : Nat} {l1 : List (S83)} {A2 : Option Addr} {c2 : Nat} {l2 : List (S85)} {r : Bool} {w : World} (e6 : Kd.C k83 w A1 l1.length l1) (e7 : l1.length ≤ c1) (e8 : Kd.C k85 w A2 l2.length l2) (e9 : l2.length ≤ c2) (h : r6_Heads.f k a0 l1 l2 = some r) :
  Calls Tryd.prog 45 #[.string a0, .slice A1 l1.length c1, .slice A2 l2.length c2] w fun e w' => e = .returned (.bool r) ∧ Below w.heap.size w w' := by
 have b0 := a_ e6; have b3 := a_ e7; clear e6 e7; have b1 := a_ e8; have b4 := a_ e9; clear e8 e9; have z := a_ (Below.refl w.heap.size w); have H : ((r3_Head.f k a0 l1 l2).bind fun b5 => (if b5 = true then (r6_Heads.l0 k l1 l2 ([] : List ByteArray) 0) else (some false))) = some r := h
 clear h; replace H := q_bd H; obtain ⟨b5, d4, H⟩ := H; have N := a_ d4; clear d4; by_cases c5 : b5 = true
 focus (
 subst c5; rw [if_pos rfl] at H; have H' := a_ H
 clear H; go_enter Tryd.func45, Tryd.ntmps45)
 rotate_left
 focus (
 replace c5 := q_bf c5; subst c5; replace H := q_if H; obtain rfl := q_so H; go_enter Tryd.func45, Tryd.ntmps45)
 all_goals (
 go_wp2_with (first | (go_at_call 63; (with_reducible refine (r3_Head.calls (q_C b0.out) b3.out (q_C b1.out) b4.out N.out).mono ?_); rintro e a7 ⟨rfl, hb⟩; replace z := a_ (q_st z.out hb); (clear hb))))
 {
 repeat (go_quiet (first | (go_at_call 63; (with_reducible refine (r3_Head.calls (q_C b0.out) b3.out (q_C b1.out) b4.out N.out).mono ?_); rintro e a7 ⟨rfl, hb⟩; replace z := a_ (q_st z.out hb))); try go_wp2_with (first | (go_at_call 63; (with_reducible refine (r3_Head.calls (q_C b0.out) b3.out (q_C b1.out) b4.out N.out).mono ?_); rintro e a7 ⟨rfl, hb⟩; replace z := a_ (q_st z.out hb))))
 go_ret
 exact ⟨q_e, q_w z.out⟩}
 {
 repeat (go_quiet (first | (go_at_call 63; (with_reducible refine (r3_Head.calls (q_C b0.out) b3.out (q_C b1.out) b4.out N.out).mono ?_); rintro e a7 ⟨rfl, hb⟩; replace z := a_ (q_st z.out hb))); try go_wp2_with (first | (go_at_call 63; (with_reducible refine (r3_Head.calls (q_C b0.out) b3.out (q_C b1.out) b4.out N.out).mono ?_); rintro e a7 ⟨rfl, hb⟩; replace z := a_ (q_st z.out hb))))
 go_loopg [7, 8] k (fun kq b6 f1 w' => ∃ (B : List ByteArray) (q : Int), f1 = .int .i64 q ∧ Aside0 (r6_Heads.l0 kq l1 l2 B q = some r) ∧ Aside0 (kq ≤ k) ∧ Aside0 (Kd.R Kd.string 9 w' w.heap.size (fun _ => True) b6 B) ∧ Aside0 (Below w.heap.size w w'))
 case atStart => exact ⟨(([] : List ByteArray)), (0), q_r, H', ⟨Nat.le_refl _⟩, ⟨by first | exact Kd.R_nil _ _ _ _ _ | exact Kd.N_nil _ _ _ _ _ | exact Kd.V_nil _ _ _ _ _ | exact Kd.Q_nil _ _ _ _ _ | exact Kd.S_nil _ _ _ _ _⟩, ⟨q_w z.out⟩⟩
 case round => (
 clear H'; obtain ⟨B, q, rfl, HA, b2, HO_7, z⟩ := hrel; cases gk with
 | zero => exact absurd HA.out (by simp [r6_Heads.l0])
 | succ k1 => (
 have H := HA.out; clear HA; simp only [r6_Heads.l0] at H
 rcases q_ite H with ⟨c7b0, H⟩ | ⟨c7b0, H⟩
 {
 replace H := q_gD H; obtain ⟨-, c8b0, H⟩ := H; replace H := q_g H; obtain ⟨d5, H⟩ := H; have J := a_ d5; clear d5; obtain ⟨d6, S⟩ : ∃ y_ : List ByteArray, y_ = (B ++ [(rd_T83 l1 q).f0]) := ⟨_, rfl⟩; replace H : (r6_Heads.l0 k1 l1 l2 d6 (wrap64 (q + 1))) = some r := q_rw S H
 have T := a_ S; clear S; have H' := a_ H
 clear H; obtain ⟨g6, f2, f3, f4, i5, i6⟩ := b_T83 b0.out z.out q; cases f2; go_wp2_with (first | ((with_reducible refine gate_builtin (b := .append) (xs := #[.tmp 22, .tmp 28]) rfl ?_); at_builtin; refine Kd.R_append Kd.string (w0 := w) w.heap.size rfl (.tmp 22) (.tmp 28) 100 9 (.string ⟨#[]⟩) 16 rfl Tryd.underlying100 info9 rfl (by decide) (by omega) u7 B ((rd_T83 l1 q).f0) [.string ((rd_T83 l1 q).f0)] (fun _ => True) (fun _ => False) rfl rfl ?aP (fun _ hk => hk.elim) ?aF ?aO ?aB ?aS ?aL ?_; (case aP => exact rfl); (case aB => exact (q_w z.out)); (case aF => exact (fun _ _ => trivial)); (case aO => exact (q_R HO_7.out)); (case aS => exact (below_size (q_w z.out))); (case aL => have := J.out; omega); intro d7 d8 ho hb hg hat; rw [← T.out] at ho; have E := a_ hb; have F := a_ ho; clear z; clear HO_7; have z := E; have U := F; clear E F; clear ho hb hg hat))
 repeat (go_quiet (first | ((with_reducible refine gate_builtin (b := .append) (xs := #[.tmp 22, .tmp 28]) rfl ?_); at_builtin; refine Kd.R_append Kd.string (w0 := w) w.heap.size rfl (.tmp 22) (.tmp 28) 100 9 (.string ⟨#[]⟩) 16 rfl Tryd.underlying100 info9 rfl (by decide) (by omega) u7 B ((rd_T83 l1 q).f0) [.string ((rd_T83 l1 q).f0)] (fun _ => True) (fun _ => False) rfl rfl ?aP (fun _ hk => hk.elim) ?aF ?aO ?aB ?aS ?aL ?_; (case aP => exact rfl); (case aB => exact (q_w z.out)); (case aF => exact (fun _ _ => trivial)); (case aO => exact (q_R HO_7.out)); (case aS => exact (below_size (q_w z.out))); (case aL => have := J.out; omega); intro d7 d8 ho hb hg hat; rw [← T.out] at ho; have E := a_ hb; have F := a_ ho; clear z; clear HO_7; have z := E; have U := F; clear E F; clear ho hb hg hat)); try go_wp2_with (first | ((with_reducible refine gate_builtin (b := .append) (xs := #[.tmp 22, .tmp 28]) rfl ?_); at_builtin; refine Kd.R_append Kd.string (w0 := w) w.heap.size rfl (.tmp 22) (.tmp 28) 100 9 (.string ⟨#[]⟩) 16 rfl Tryd.underlying100 info9 rfl (by decide) (by omega) u7 B ((rd_T83 l1 q).f0) [.string ((rd_T83 l1 q).f0)] (fun _ => True) (fun _ => False) rfl rfl ?aP (fun _ hk => hk.elim) ?aF ?aO ?aB ?aS ?aL ?_; (case aP => exact rfl); (case aB => exact (q_w z.out)); (case aF => exact (fun _ _ => trivial)); (case aO => exact (q_R HO_7.out)); (case aS => exact (below_size (q_w z.out))); (case aL => have := J.out; omega); intro d7 d8 ho hb hg hat; rw [← T.out] at ho; have E := a_ hb; have F := a_ ho; clear z; clear HO_7; have z := E; have U := F; clear E F; clear ho hb hg hat)))
 go_roundg k1
 case measure => have := b2.out; omega
 case rel => exact ⟨(d6), (wrap64 (q + 1)), q_r, H', ⟨by have := b2.out; omega⟩, ⟨q_R U.out⟩, ⟨q_w z.out⟩⟩}
 {
 have H' := a_ H
 clear H; go_wp2
 repeat (go_quiet (fail); try go_wp2)
 go_loopg [7, 9] k1 (fun kq b6 f5 w' => ∃ (l : List ByteArray) (y : Int), f5 = .int .i64 y ∧ Aside0 (r6_Heads.l1 kq l2 l y = some r) ∧ Aside0 (kq ≤ k1) ∧ Aside0 (Kd.R Kd.string 9 w' w.heap.size (fun _ => True) b6 l) ∧ Aside0 (Below w.heap.size w w'))
 case atStart => exact ⟨(B), (0), q_r, H', ⟨Nat.le_refl _⟩, ⟨q_R HO_7.out⟩, ⟨q_w z.out⟩⟩
 case round => (
 clear H'; clear c7b0; obtain ⟨l, y, rfl, HA, d2, HO_7, z⟩ := hrel; cases gk with
 | zero => exact absurd HA.out (by simp [r6_Heads.l1])
 | succ k2 => (
 have H := HA.out; clear HA; simp only [r6_Heads.l1] at H
 rcases q_ite H with ⟨c11b0, H⟩ | ⟨c11b0, H⟩
 {
 replace H := q_gD H; obtain ⟨-, c12b0, H⟩ := H; replace H := q_g H; obtain ⟨d9, H⟩ := H; have L := a_ d9; clear d9; obtain ⟨e0, V⟩ : ∃ y_ : List ByteArray, y_ = (l ++ [(rd_T85 l2 y).f0]) := ⟨_, rfl⟩; replace H : (r6_Heads.l1 k2 l2 e0 (wrap64 (y + 1))) = some r := q_rw V H
 have X := a_ V; clear V; have H' := a_ H
 clear H; obtain ⟨g7, f6, f7, f8, i7, i8⟩ := b_T85 b1.out z.out y; cases f6; go_wp2_with (first | ((with_reducible refine gate_builtin (b := .append) (xs := #[.tmp 36, .tmp 42]) rfl ?_); at_builtin; refine Kd.R_append Kd.string (w0 := w) w.heap.size rfl (.tmp 36) (.tmp 42) 100 9 (.string ⟨#[]⟩) 16 rfl Tryd.underlying100 info9 rfl (by decide) (by omega) u7 l ((rd_T85 l2 y).f0) [.string ((rd_T85 l2 y).f0)] (fun _ => True) (fun _ => False) rfl rfl ?aP (fun _ hk => hk.elim) ?aF ?aO ?aB ?aS ?aL ?_; (case aP => exact rfl); (case aB => exact (q_w z.out)); (case aF => exact (fun _ _ => trivial)); (case aO => exact (q_R HO_7.out)); (case aS => exact (below_size (q_w z.out))); (case aL => have := L.out; omega); intro e1 e2 ho hb hg hat; rw [← X.out] at ho; have E := a_ hb; have F := a_ ho; clear z; clear HO_7; have z := E; have a1 := F; clear E F; clear ho hb hg hat))
 repeat (go_quiet (first | ((with_reducible refine gate_builtin (b := .append) (xs := #[.tmp 36, .tmp 42]) rfl ?_); at_builtin; refine Kd.R_append Kd.string (w0 := w) w.heap.size rfl (.tmp 36) (.tmp 42) 100 9 (.string ⟨#[]⟩) 16 rfl Tryd.underlying100 info9 rfl (by decide) (by omega) u7 l ((rd_T85 l2 y).f0) [.string ((rd_T85 l2 y).f0)] (fun _ => True) (fun _ => False) rfl rfl ?aP (fun _ hk => hk.elim) ?aF ?aO ?aB ?aS ?aL ?_; (case aP => exact rfl); (case aB => exact (q_w z.out)); (case aF => exact (fun _ _ => trivial)); (case aO => exact (q_R HO_7.out)); (case aS => exact (below_size (q_w z.out))); (case aL => have := L.out; omega); intro e1 e2 ho hb hg hat; rw [← X.out] at ho; have E := a_ hb; have F := a_ ho; clear z; clear HO_7; have z := E; have a1 := F; clear E F; clear ho hb hg hat)); try go_wp2_with (first | ((with_reducible refine gate_builtin (b := .append) (xs := #[.tmp 36, .tmp 42]) rfl ?_); at_builtin; refine Kd.R_append Kd.string (w0 := w) w.heap.size rfl (.tmp 36) (.tmp 42) 100 9 (.string ⟨#[]⟩) 16 rfl Tryd.underlying100 info9 rfl (by decide) (by omega) u7 l ((rd_T85 l2 y).f0) [.string ((rd_T85 l2 y).f0)] (fun _ => True) (fun _ => False) rfl rfl ?aP (fun _ hk => hk.elim) ?aF ?aO ?aB ?aS ?aL ?_; (case aP => exact rfl); (case aB => exact (q_w z.out)); (case aF => exact (fun _ _ => trivial)); (case aO => exact (q_R HO_7.out)); (case aS => exact (below_size (q_w z.out))); (case aL => have := L.out; omega); intro e1 e2 ho hb hg hat; rw [← X.out] at ho; have E := a_ hb; have F := a_ ho; clear z; clear HO_7; have z := E; have a1 := F; clear E F; clear ho hb hg hat)))
 go_roundg k2
 case measure => have := b2.out; have := d2.out; omega
 case rel => exact ⟨(e0), (wrap64 (y + 1)), q_r, H', ⟨by have := b2.out; have := d2.out; omega⟩, ⟨q_R a1.out⟩, ⟨q_w z.out⟩⟩}
 {
 have H' := a_ H
 clear H; go_wp2
 repeat (go_quiet (fail); try go_wp2)
 go_loopg [10] k2 (fun kq f9 w' => ∃ (p : Int), f9 = .int .i64 p ∧ Aside0 (r6_Heads.l2 kq l p = some r) ∧ Aside0 (kq ≤ k2) ∧ Aside0 (Kd.R Kd.string 9 w' w.heap.size (fun _ => True) u7 l) ∧ Aside0 (Below w.heap.size w w'))
 case atStart => exact ⟨(0), q_r, H', ⟨Nat.le_refl _⟩, ⟨q_R HO_7.out⟩, ⟨q_w z.out⟩⟩
 case round => (
 clear H'; clear c11b0; obtain ⟨p, rfl, HA, b7, HO_7, z⟩ := hrel; cases gk with
 | zero => exact absurd HA.out (by simp [r6_Heads.l2])
 | succ b8 => (
 have H := HA.out; clear HA; simp only [r6_Heads.l2] at H
 rcases q_ite H with ⟨c15b0, H⟩ | ⟨c15b0, H⟩
 {
 replace H := q_gD H; obtain ⟨-, c16b0, H⟩ := H; have c17b0 := eq_true (q_d : 0 ≤ p); replace H := q_gED H; obtain ⟨-, c18b0, c18b1, H⟩ := H; obtain ⟨b9, a2⟩ : ∃ y_ : List ByteArray, y_ = (l.take (p : Int).toNat) := ⟨_, rfl⟩; replace H : ((r2_In.f b8 (rdOf ByteArray.empty l p) b9).bind fun c0 => (if c0 = true then (some false) else (r6_Heads.l2 b8 l (wrap64 (p + 1))))) = some r := q_rw a2 H
 have c3 := a_ a2; clear a2; replace H := q_bd H; obtain ⟨c0, e3, H⟩ := H; have O := a_ e3; clear e3; by_cases a8 : c0 = true
 focus (
 subst a8; rw [if_pos rfl] at H; obtain rfl := q_so H; obtain ⟨e4, M, a3⟩ := Kd.R_slice HO_7.out; subst a3; have a9 : 0 ≤ (p : Int) := q_d)
 rotate_left
 focus (
 replace a8 := q_bf a8; subst a8; replace H := q_if H; have H' := a_ H
 clear H; obtain ⟨e4, M, a3⟩ := Kd.R_slice HO_7.out; subst a3; have a9 : 0 ≤ (p : Int) := q_d)
 all_goals (
 have c4 : p < (l.length : Int) := q_d
 obtain ⟨c6, g0, g1⟩ := Kd.at_string (Kd.R_reads' HO_7.out).2.2 p a9 c4; cases g0; replace a9 := eq_true a9; replace c4 := eq_true c4; have c8 : (p : Int) ≤ ((l.length : Int) : Int) := q_d
 obtain ⟨i9, c9, _, d3, _⟩ := info_parts info9; have I : l.length ≤ M := (Kd.R_reads' HO_7.out).2.1
 have d0 : Kd.C Kd.string _ (some c6) l.length l := (Kd.R_reads' HO_7.out).2.2
 have d1 := cut_to (P := Tryd.prog) 100 9 .i64 Tryd.underlying100 c9 (some c6) l.length M p (q_d) c8 I; have a4 := Kd.C_take (m := (p : Int).toNat) d0 (by omega)
 have a5 : b9.length = (p : Int).toNat := (by rw [c3.out, List.length_take]; omega)
 rw [← c3.out] at a4; rw [← a5] at d1; have D := a_ a4; have G := a_ (show b9.length ≤ M from by omega)
 clear a4 d0 I c9 d3; have g8 := a_ a5; clear a5; have g9 := a_ (show (p : Int).toNat ≤ l.length from by omega)
 replace c8 := eq_true c8; go_wp2_with (first | (go_at_call 64; (with_reducible refine (r2_In.calls ?side1 G.out O.out).mono ?_); (case side1 => repeat (first | exact (by repeat (first | (with_reducible exact D.out) | with_reducible first | refine Kd.C_alloc ?_ _ | refine Kd.C_drewN ?_ _ | refine Kd.C_drew ?_ | exact D.out)) | with_reducible first | refine Kd.C_alloc ?_ _ | refine Kd.C_drewN ?_ _ | refine Kd.C_drew ?_)); rintro e w' ⟨rfl, ⟨nd, rfl⟩⟩; (try first | exact ⟨rfl, _, World.drewN_drewN _ _ _⟩ | exact ⟨rfl, _, Eq.trans (World.drewN_drewN _ _ _) (congrArg (World.drewN _) (Nat.add_assoc _ _ _))⟩))))
 {
 repeat (go_quiet (first | (go_at_call 64; (with_reducible refine (r2_In.calls ?side1 G.out O.out).mono ?_); (case side1 => repeat (first | exact (by repeat (first | (with_reducible exact D.out) | with_reducible first | refine Kd.C_alloc ?_ _ | refine Kd.C_drewN ?_ _ | refine Kd.C_drew ?_ | exact D.out)) | with_reducible first | refine Kd.C_alloc ?_ _ | refine Kd.C_drewN ?_ _ | refine Kd.C_drew ?_)); rintro e w' ⟨rfl, ⟨nd, rfl⟩⟩; (try first | exact ⟨rfl, _, World.drewN_drewN _ _ _⟩ | exact ⟨rfl, _, Eq.trans (World.drewN_drewN _ _ _) (congrArg (World.drewN _) (Nat.add_assoc _ _ _))⟩))); try go_wp2_with (first | (go_at_call 64; (with_reducible refine (r2_In.calls ?side1 G.out O.out).mono ?_); (case side1 => repeat (first | exact (by repeat (first | (with_reducible exact D.out) | with_reducible first | refine Kd.C_alloc ?_ _ | refine Kd.C_drewN ?_ _ | refine Kd.C_drew ?_ | exact D.out)) | with_reducible first | refine Kd.C_alloc ?_ _ | refine Kd.C_drewN ?_ _ | refine Kd.C_drew ?_)); rintro e w' ⟨rfl, ⟨nd, rfl⟩⟩; (try first | exact ⟨rfl, _, World.drewN_drewN _ _ _⟩ | exact ⟨rfl, _, Eq.trans (World.drewN_drewN _ _ _) (congrArg (World.drewN _) (Nat.add_assoc _ _ _))⟩))))
 go_roundg b8
 case measure => have := b2.out; have := d2.out; have := b7.out; omega
 case rel => exact ⟨(wrap64 (p + 1)), q_r, H', ⟨by have := b2.out; have := d2.out; have := b7.out; omega⟩, ⟨q_R HO_7.out⟩, ⟨q_w z.out⟩⟩}
 {
 repeat (go_quiet (first | (go_at_call 64; (with_reducible refine (r2_In.calls ?side1 G.out O.out).mono ?_); (case side1 => repeat (first | exact (by repeat (first | (with_reducible exact D.out) | with_reducible first | refine Kd.C_alloc ?_ _ | refine Kd.C_drewN ?_ _ | refine Kd.C_drew ?_ | exact D.out)) | with_reducible first | refine Kd.C_alloc ?_ _ | refine Kd.C_drewN ?_ _ | refine Kd.C_drew ?_)); rintro e w' ⟨rfl, ⟨nd, rfl⟩⟩; (try first | exact ⟨rfl, _, World.drewN_drewN _ _ _⟩ | exact ⟨rfl, _, Eq.trans (World.drewN_drewN _ _ _) (congrArg (World.drewN _) (Nat.add_assoc _ _ _))⟩))); try go_wp2_with (first | (go_at_call 64; (with_reducible refine (r2_In.calls ?side1 G.out O.out).mono ?_); (case side1 => repeat (first | exact (by repeat (first | (with_reducible exact D.out) | with_reducible first | refine Kd.C_alloc ?_ _ | refine Kd.C_drewN ?_ _ | refine Kd.C_drew ?_ | exact D.out)) | with_reducible first | refine Kd.C_alloc ?_ _ | refine Kd.C_drewN ?_ _ | refine Kd.C_drew ?_)); rintro e w' ⟨rfl, ⟨nd, rfl⟩⟩; (try first | exact ⟨rfl, _, World.drewN_drewN _ _ _⟩ | exact ⟨rfl, _, Eq.trans (World.drewN_drewN _ _ _) (congrArg (World.drewN _) (Nat.add_assoc _ _ _))⟩))))
 go_ret
 exact ⟨q_e, q_w z.out⟩}}
 {
 obtain rfl := q_so H; obtain ⟨i0, i1, e5⟩ := Kd.R_slice HO_7.out; subst e5; go_wp2
 repeat (go_quiet (fail); try go_wp2)
 go_ret
 exact ⟨q_e, q_w z.out⟩}))}))}))}
end Go.Proofs.YtefhpdcafdhcaaaDoor.A
end
