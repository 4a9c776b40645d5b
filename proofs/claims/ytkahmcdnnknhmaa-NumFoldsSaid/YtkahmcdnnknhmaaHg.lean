/- The reference's both and shift as functions of numbers, with their contracts. -/
import Derived.Test.YtkahmcdnnknhmaaHb
import Derived.Test.YtkahmcdnnknhmaaHf
namespace Go.Proofs.Ytkahmcdnnknhmaa
open Go.RowKit Go.Proofs.YtkahmcdnnknhmaaW.PrintWords Go.Proofs.YtkahmcdnnknhmaaW.PrintLast Go.Proofs.YtkahmcdnnknhmaaW.PrintMore Go.Proofs.Ytkahmcdnnknhmaa.A

def drawloomref01_both.f (a0 a1 a2 : Int) : Option Int := some (wrap32 (wsum (fL (combF a0 (bitL (a1 % 4294967296) 32) (bitL (a2 % 4294967296) 32)) 32) 32))
theorem drawloomref01_both.calls (a0 a1 a2 r : Int) (w : World) (h : drawloomref01_both.f a0 a1 a2 = some r) :
    Calls Try.prog 35 #[.int .i64 a0, .int .i32 a1, .int .i32 a2] w fun e w' => e = .returned (.int .i32 r) ∧ Below w.heap.size w w' := by
  obtain rfl := Option.some.inj h
  exact both_any _ _ _ _
def drawloomref01_shift.f (a0 a1 a2 : Int) : Option Int := some (wrap32 (wsum (fL (shiftF a0 (a2 % 32).toNat (bitL (a1 % 4294967296) 32)) 32) 32))
theorem drawloomref01_shift.calls (a0 a1 a2 r : Int) (w : World) (h : drawloomref01_shift.f a0 a1 a2 = some r) :
    Calls Try.prog 36 #[.int .i64 a0, .int .i32 a1, .int .i32 a2] w fun e w' => e = .returned (.int .i32 r) ∧ Below w.heap.size w w' := by
  obtain rfl := Option.some.inj h
  exact shift_any _ _ _ _
end Go.Proofs.Ytkahmcdnnknhmaa
