/- What num.rules, num.Binary, num.Commutes, num.Text and num.UnaryText come to. -/
import Derived.Test.YtkahmcdnnknhmaaAx1
namespace Go.Proofs.Ytkahmcdnnknhmaa
open Go.RowKit Go.Proofs.YtkahmcdnnknhmaaW.PrintWords Go.Proofs.YtkahmcdnnknhmaaW.PrintLast Go.Proofs.YtkahmcdnnknhmaaW.PrintMore Go.Proofs.Ytkahmcdnnknhmaa.A

abbrev fnv (k : Nat) : Value := .func (.func k) #[] #[]
def ruleRow : Array Value := #[.string ⟨#[43]⟩, fnv 40, .int .i64 1, .string ⟨#[45]⟩, fnv 41, .int .i64 0, .string ⟨#[42]⟩, fnv 42, .int .i64 1, .string ⟨#[47]⟩, fnv 43, .int .i64 0, .string ⟨#[37]⟩, fnv 44, .int .i64 0,
  .string ⟨#[38]⟩, fnv 45, .int .i64 1, .string ⟨#[124]⟩, fnv 46, .int .i64 1, .string ⟨#[94]⟩, fnv 47, .int .i64 1, .string ⟨#[60, 60]⟩, fnv 48, .int .i64 0, .string ⟨#[62, 62]⟩, fnv 49, .int .i64 0,
  .string ⟨#[62, 62, 62]⟩, fnv 50, .int .i64 0, .string ⟨#[60]⟩, fnv 51, .int .i64 0, .string ⟨#[60, 61]⟩, fnv 52, .int .i64 0, .string ⟨#[61, 61]⟩, fnv 53, .int .i64 1, .string ⟨#[33, 61]⟩, fnv 54, .int .i64 1,
  .string ⟨#[60, 58]⟩, fnv 55, .int .i64 0, .string ⟨#[38, 38]⟩, fnv 56, .int .i64 1, .string ⟨#[124, 124]⟩, fnv 57, .int .i64 1, .string ⟨#[109, 105, 110]⟩, fnv 58, .int .i64 1, .string ⟨#[109, 97, 120]⟩, fnv 59, .int .i64 1]

set_option maxHeartbeats 1000000 in
theorem rules_any (w : World) : Calls Try.prog 32 #[] w fun e w' => e = .returned (.slice (some ⟨w.heap.size, 0, none⟩) 20 20) ∧ w' = w.alloc (.cells ruleRow 42) := by
  go_enter Try.func32, Try.ntmps32
  go_wp2
  go_ret
  exact ⟨rfl, rfl⟩
end Go.Proofs.Ytkahmcdnnknhmaa
