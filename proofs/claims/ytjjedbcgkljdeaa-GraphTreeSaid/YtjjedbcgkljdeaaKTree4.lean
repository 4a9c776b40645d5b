/- Texts of this claim, cut down to what its theorem uses and laid end to end (wip/shake.py). -/
import Derived.ArgAppend
import Derived.Below
import Derived.BigQuiet
import Derived.ChangeOld
import Derived.ChangeSlices
import Derived.Deep.AppendLies
import Derived.Deep.CutBlock
import Derived.Deep.DeepCutAuto
import Derived.Deep.Draws
import Derived.Deep.LoopGhost
import Derived.Deep.Matrix
import Derived.Deep.OwnRows
import Derived.Deep.QuietTactic
import Derived.Deep.RegionHeld3
import Derived.KernelRfl
import Derived.Laws.BitsLemmas
import Derived.Laws.BytesArg
import Derived.Laws.CopyOwn
import Derived.Laws.IdiomCopy
import Derived.Laws.MakeOwn
import Derived.Laws.OwnMore
import Derived.Laws.Rows
import Derived.Laws.Slices
import Derived.Laws.StructEq
import Derived.Lib.AppendStr
import Derived.Lib.ConvBytes
import Derived.LoopIn
import Derived.LoopNIn
import Derived.Maps.AppendAt
import Derived.OpenShut
import Derived.OrdersHeld
import Derived.OwnWalk
import Derived.OwnWalkIn
import Derived.ProofKit
import Derived.RangeFuncBound
import Derived.RangeFuncBox
import Derived.RangeFuncCalls
import Derived.RangeFuncFrom
import Derived.RangeFuncLeaves
import Derived.RangeFuncNested
import Derived.RowKit
import Derived.RowKit3
import Derived.Shelf.Abstract
import Derived.ShutString
import Derived.SizedLaws
import Derived.Tactics
import Derived.TacticsInMore
import Derived.Test.YtjjedbcgkljdeaaProg
import Derived.WalkKit
import Derived.WideLaws
import GoSem.ClaimData
import Derived.Test.YtjjedbcgkljdeaaKTree3
section
namespace Go.Proofs.Ytjjedbcgkljdeaa.T
open Go.RowKit Go.Proofs.YtjjedbcgkljdeaaW.PrintWords Go.Proofs.YtjjedbcgkljdeaaW.PrintLast Go.Proofs.YtjjedbcgkljdeaaW.PrintMore Go.Proofs.Ytjjedbcgkljdeaa.A Go.Proofs.Ytjjedbcgkljdeaa.B Go.Proofs.Ytjjedbcgkljdeaa.C Go.Proofs.Ytjjedbcgkljdeaa.D
set_option linter.unusedVariables false
set_option linter.unusedSimpArgs false
mutual
def l7_GraphTree.j0 : Nat → List (List Int) → List Int → List Bool → List Int → Bool → Option (Bool)
 | 0, _, _, _, _, _ => none
 | k + 1, x0, x3, x5, x7, x49 => if x49 = true then (some false) else (if 0 ≤ (x0.length : Int) then (if ((x0.length : Int) : Int).toNat ≤ 35184372088832 then (l7_GraphTree.l0 k x0 x3 x5 x7 (List.replicate ((x0.length : Int) : Int).toNat 0) 0) else (none)) else (none))
def l7_GraphTree.l0 : Nat → List (List Int) → List Int → List Bool → List Int → List Int → Int → Option (Bool)
 | 0, _, _, _, _, _, _ => none
 | k + 1, x0, x3, x5, x7, x9, x10 => if x10 < (x7.length : Int) then (if 0 ≤ x10 then (if (rd x7 x10) < 0 then (some false) else (if (rd x7 x10) ≥ (x0.length : Int) then (some false) else (if 0 ≤ (rd x7 x10) then (if (rd x7 x10) < (x9.length : Int) then (l7_GraphTree.l0 k x0 x3 x5 x7 (x9.set ((rd x7 x10) : Int).toNat x10) (wrap64 (x10 + 1))) else (none)) else (none)))) else (none)) else (l7_GraphTree.l1 k x0 x3 x5 x9 0)
def l7_GraphTree.l1 : Nat → List (List Int) → List Int → List Bool → List Int → Int → Option (Bool)
 | 0, _, _, _, _, _ => none
 | k + 1, x0, x3, x5, x9, x11 => if x11 < (x0.length : Int) then (if 0 ≤ x11 then (if x11 < (x5.length : Int) then (if x11 = 0 then (if ((rdOf false x5 x11) != true) = true then (l7_GraphTree.j3 k x0 x3 x5 x9 x11 true) else ((l7_above.f k x3 0 x11).bind fun t124 => (l7_GraphTree.j3 k x0 x3 x5 x9 x11 ((rdOf false x5 x11) != t124)))) else (if x11 < (x3.length : Int) then (if ((rdOf false x5 x11) != (decide ((rd x3 x11) ≥ 0))) = true then (l7_GraphTree.j3 k x0 x3 x5 x9 x11 true) else ((l7_above.f k x3 0 x11).bind fun t127 => (l7_GraphTree.j3 k x0 x3 x5 x9 x11 ((rdOf false x5 x11) != t127)))) else (none))) else (none)) else (none)) else ((l7_awake.f k).bind fun t139 => (some t139))
def l7_GraphTree.j3 : Nat → List (List Int) → List Int → List Bool → List Int → Int → Bool → Option (Bool)
 | 0, _, _, _, _, _, _ => none
 | k + 1, x0, x3, x5, x9, x11, x109 => if x109 = true then (some false) else (l7_GraphTree.l2 k x0 x3 x5 x9 x11 0)
def l7_GraphTree.l2 : Nat → List (List Int) → List Int → List Bool → List Int → Int → Int → Option (Bool)
 | 0, _, _, _, _, _, _ => none
 | k + 1, x0, x3, x5, x9, x11, x12 => if x12 < (x0.length : Int) then ((graph_Dominates.f k x0 x11 x12).bind fun bt128 => (if 0 ≤ x11 then (if x11 < (x5.length : Int) then (if rdOf false x5 x11 = true then (if 0 ≤ x12 then (if x12 < (x5.length : Int) then (if rdOf false x5 x12 = true then ((l7_above.f k x3 x11 x12).bind fun t132 => (if (bt128.1 != t132) = true then (l7_GraphTree.j5 k x0 x3 x5 x9 x11 x12 true) else (if bt128.1 = true then (if x11 = x12 then (l7_GraphTree.j5 k x0 x3 x5 x9 x11 x12 false) else (if x11 < (x9.length : Int) then (if x12 < (x9.length : Int) then (l7_GraphTree.j5 k x0 x3 x5 x9 x11 x12 (decide ((rd x9 x11) ≥ (rd x9 x12)))) else (none)) else (none))) else (l7_GraphTree.j5 k x0 x3 x5 x9 x11 x12 false)))) else (if (bt128.1 != false) = true then (l7_GraphTree.j5 k x0 x3 x5 x9 x11 x12 true) else (if bt128.1 = true then (if x11 = x12 then (l7_GraphTree.j5 k x0 x3 x5 x9 x11 x12 false) else (if x11 < (x9.length : Int) then (if x12 < (x9.length : Int) then (l7_GraphTree.j5 k x0 x3 x5 x9 x11 x12 (decide ((rd x9 x11) ≥ (rd x9 x12)))) else (none)) else (none))) else (l7_GraphTree.j5 k x0 x3 x5 x9 x11 x12 false)))) else (none)) else (none)) else (if (bt128.1 != false) = true then (l7_GraphTree.j5 k x0 x3 x5 x9 x11 x12 true) else (if bt128.1 = true then (if x11 = x12 then (l7_GraphTree.j5 k x0 x3 x5 x9 x11 x12 false) else (if x11 < (x9.length : Int) then (if 0 ≤ x12 then (if x12 < (x9.length : Int) then (l7_GraphTree.j5 k x0 x3 x5 x9 x11 x12 (decide ((rd x9 x11) ≥ (rd x9 x12)))) else (none)) else (none)) else (none))) else (l7_GraphTree.j5 k x0 x3 x5 x9 x11 x12 false)))) else (none)) else (none))) else (l7_GraphTree.l1 k x0 x3 x5 x9 (wrap64 (x11 + 1)))
def l7_GraphTree.j5 : Nat → List (List Int) → List Int → List Bool → List Int → Int → Int → Bool → Option (Bool)
 | 0, _, _, _, _, _, _, _ => none
 | k + 1, x0, x3, x5, x9, x11, x12, x159 => if x159 = true then (some false) else (l7_GraphTree.l2 k x0 x3 x5 x9 x11 (wrap64 (x12 + 1)))
end
def l7_GraphTree.f (k : Nat) (l0 : List (List Int)) : Option (Bool) := (l7_usable.f k l0).bind fun t101 => (if t101 = true then ((graph_Dominators.f k l0).bind fun bt103 => ((graph_Reachable.f k l0).bind fun bt107 => ((graph_Order.f k l0).bind fun bt111 => (if bt103.2 = 0 then (if (bt103.1.length : Int) = (l0.length : Int) then (l7_GraphTree.j0 k l0 bt103.1 bt107.1 bt111.1 ((bt107.1.length : Int) != (l0.length : Int))) else (l7_GraphTree.j0 k l0 bt103.1 bt107.1 bt111.1 true)) else (l7_GraphTree.j0 k l0 bt103.1 bt107.1 bt111.1 true))))) else ((l7_awake.f k).bind fun t102 => (some t102)))
abbrev b24_0 : Array Bool := #[false, false, false, false, false, false, false, false, false, false, false, false, false, false, false, false, false, false, false, false, false, false, false, false]
abbrev b24_1 : Array Bool := #[true, false, false, false, false, false, false, false, false, false, false, false, false, false, false, false, false, false, false, false, false, false, false, false]
abbrev b24_2 : Array Bool := #[true, true, false, false, false, false, false, false, false, false, false, false, false, false, false, false, false, false, false, false, false, false, false, false]
abbrev b24_3 : Array Bool := #[true, true, true, false, false, false, false, false, false, false, false, false, false, false, false, false, false, false, false, false, false, false, false, false]
abbrev b24_4 : Array Bool := #[true, true, true, false, true, false, false, false, false, false, false, false, false, false, false, false, false, false, false, false, false, false, false, false]
abbrev b24_5 : Array Bool := #[true, true, true, false, true, true, false, false, false, false, false, false, false, false, false, false, false, false, false, false, false, false, false, false]
abbrev b24_6 : Array Bool := #[true, true, true, false, true, true, true, false, false, false, false, false, false, false, false, false, false, false, false, false, false, false, false, false]
abbrev b24_7 : Array Bool := #[true, true, true, false, true, true, true, true, false, false, false, false, false, false, false, false, false, false, false, false, false, false, false, false]
abbrev b24_8 : Array Bool := #[true, true, true, false, true, true, true, true, true, false, false, false, false, false, false, false, false, false, false, false, false, false, false, false]
abbrev b24_9 : Array Bool := #[true, true, true, false, true, true, true, true, true, true, false, false, false, false, false, false, false, false, false, false, false, false, false, false]
abbrev b24_10 : Array Bool := #[true, true, true, false, true, true, true, true, true, true, true, false, false, false, false, false, false, false, false, false, false, false, false, false]
abbrev b24_11 : Array Bool := #[true, true, true, false, true, true, true, true, true, true, true, true, false, false, false, false, false, false, false, false, false, false, false, false]
abbrev b24_12 : Array Bool := #[true, true, true, false, true, true, true, true, true, true, true, true, true, false, false, false, false, false, false, false, false, false, false, false]
abbrev b24_13 : Array Bool := #[true, true, true, true, true, true, true, true, true, true, true, true, true, false, false, false, false, false, false, false, false, false, false, false]
abbrev b24_14 : Array Bool := #[true, true, true, true, true, true, true, true, true, true, true, true, true, true, false, false, false, false, false, false, false, false, false, false]
abbrev b24_15 : Array Bool := #[true, true, true, true, true, true, true, true, true, true, true, true, true, true, true, false, false, false, false, false, false, false, false, false]
abbrev b24_16 : Array Bool := #[true, true, true, true, true, true, true, true, true, true, true, true, true, true, true, true, false, false, false, false, false, false, false, false]
abbrev b24_17 : Array Bool := #[true, true, true, true, true, true, true, true, true, true, true, true, true, true, true, true, true, false, false, false, false, false, false, false]
abbrev b24_18 : Array Bool := #[true, true, true, true, true, true, true, true, true, true, true, true, true, true, true, true, true, true, false, false, false, false, false, false]
abbrev b24_19 : Array Bool := #[true, true, true, true, true, true, true, true, true, true, true, true, true, true, true, true, true, true, true, false, false, false, false, false]
abbrev b24_20 : Array Bool := #[true, true, true, true, true, true, true, true, true, true, true, true, true, true, true, true, true, true, true, true, false, false, false, false]
abbrev b24_21 : Array Bool := #[true, true, true, true, true, true, true, true, true, true, true, true, true, true, true, true, true, true, true, true, true, false, false, false]
abbrev b24_22 : Array Bool := #[true, true, true, true, true, true, true, true, true, true, true, true, true, true, true, true, true, true, true, true, true, true, false, false]
abbrev b24_23 : Array Bool := #[true, true, true, true, true, true, true, true, true, true, true, true, true, true, true, true, true, true, true, true, true, true, true, false]
abbrev b24_24 : Array Bool := #[true, true, true, true, true, true, true, true, true, true, true, true, true, true, true, true, true, true, true, true, true, true, true, true]
abbrev b24_25 : Array Bool := #[true, true, true, true, true, true, true, true, true, true, true, true, true, true, true, true, true, true, false, true, false, false, false, false]
abbrev b24_26 : Array Bool := #[true, true, true, true, true, true, true, true, true, true, true, true, true, true, true, true, true, true, false, true, true, false, false, false]
abbrev b24_27 : Array Bool := #[true, true, true, true, true, true, true, true, true, true, false, false, false, false, false, false, false, false, false, false, false, false, false, false]
abbrev b24_28 : Array Bool := #[true, true, true, true, true, true, true, true, true, true, true, false, false, false, false, false, false, false, false, false, false, false, false, false]
abbrev b24_29 : Array Bool := #[true, true, true, true, true, true, true, true, true, true, true, true, false, false, false, false, false, false, false, false, false, false, false, false]
abbrev b37_30 : Array Bool := #[false, false, false, false, false, false, false, false, false, false, false, false, false, false, false, false, false, false, false, false, false, false, false, false, false, false, false, false, false, false, false, false, false, false, false, false, false]
abbrev b37_31 : Array Bool := #[true, false, false, false, false, false, false, false, false, false, false, false, false, false, false, false, false, false, false, false, false, false, false, false, false, false, false, false, false, false, false, false, false, false, false, false, false]
abbrev b37_32 : Array Bool := #[true, true, false, false, false, false, false, false, false, false, false, false, false, false, false, false, false, false, false, false, false, false, false, false, false, false, false, false, false, false, false, false, false, false, false, false, false]
abbrev b37_33 : Array Bool := #[true, true, true, false, false, false, false, false, false, false, false, false, false, false, false, false, false, false, false, false, false, false, false, false, false, false, false, false, false, false, false, false, false, false, false, false, false]
abbrev b37_34 : Array Bool := #[true, true, true, true, false, false, false, false, false, false, false, false, false, false, false, false, false, false, false, false, false, false, false, false, false, false, false, false, false, false, false, false, false, false, false, false, false]
abbrev b37_35 : Array Bool := #[true, true, true, true, true, false, false, false, false, false, false, false, false, false, false, false, false, false, false, false, false, false, false, false, false, false, false, false, false, false, false, false, false, false, false, false, false]
abbrev b37_36 : Array Bool := #[true, true, true, true, true, true, false, false, false, false, false, false, false, false, false, false, false, false, false, false, false, false, false, false, false, false, false, false, false, false, false, false, false, false, false, false, false]
abbrev b37_37 : Array Bool := #[true, true, true, true, true, true, true, false, false, false, false, false, false, false, false, false, false, false, false, false, false, false, false, false, false, false, false, false, false, false, false, false, false, false, false, false, false]
abbrev b37_38 : Array Bool := #[true, true, true, true, true, true, true, true, false, false, false, false, false, false, false, false, false, false, false, false, false, false, false, false, false, false, false, false, false, false, false, false, false, false, false, false, false]
abbrev b37_39 : Array Bool := #[true, true, true, true, true, true, true, true, true, false, false, false, false, false, false, false, false, false, false, false, false, false, false, false, false, false, false, false, false, false, false, false, false, false, false, false, false]
abbrev b37_40 : Array Bool := #[true, true, true, true, true, true, true, true, true, true, false, false, false, false, false, false, false, false, false, false, false, false, false, false, false, false, false, false, false, false, false, false, false, false, false, false, false]
abbrev b37_41 : Array Bool := #[true, true, true, true, true, true, true, true, true, true, true, false, false, false, false, false, false, false, false, false, false, false, false, false, false, false, false, false, false, false, false, false, false, false, false, false, false]
abbrev b37_42 : Array Bool := #[true, true, true, true, true, true, true, true, true, true, true, true, false, false, false, false, false, false, false, false, false, false, false, false, false, false, false, false, false, false, false, false, false, false, false, false, false]
abbrev b37_43 : Array Bool := #[true, true, true, true, true, true, true, true, true, true, true, true, true, false, false, false, false, false, false, false, false, false, false, false, false, false, false, false, false, false, false, false, false, false, false, false, false]
abbrev b37_44 : Array Bool := #[true, true, true, true, true, true, true, true, true, true, true, true, true, true, false, false, false, false, false, false, false, false, false, false, false, false, false, false, false, false, false, false, false, false, false, false, false]
abbrev b37_45 : Array Bool := #[true, true, true, true, true, true, true, true, true, true, true, true, true, true, true, false, false, false, false, false, false, false, false, false, false, false, false, false, false, false, false, false, false, false, false, false, false]
abbrev b37_46 : Array Bool := #[true, true, true, true, true, true, true, true, true, true, true, true, true, true, true, true, false, false, false, false, false, false, false, false, false, false, false, false, false, false, false, false, false, false, false, false, false]
abbrev b37_47 : Array Bool := #[true, true, true, true, true, true, true, true, true, true, true, true, true, true, true, true, true, false, false, false, false, false, false, false, false, false, false, false, false, false, false, false, false, false, false, false, false]
abbrev b37_48 : Array Bool := #[true, true, true, true, true, true, true, true, true, true, true, true, true, true, true, true, true, true, false, false, false, false, false, false, false, false, false, false, false, false, false, false, false, false, false, false, false]
abbrev b37_49 : Array Bool := #[true, true, true, true, true, true, true, true, true, true, true, true, true, true, true, true, true, true, true, false, false, false, false, false, false, false, false, false, false, false, false, false, false, false, false, false, false]
abbrev b37_50 : Array Bool := #[true, true, true, true, true, true, true, true, true, true, true, true, true, true, true, true, true, true, true, true, false, false, false, false, false, false, false, false, false, false, false, false, false, false, false, false, false]
abbrev b37_51 : Array Bool := #[true, true, true, true, true, true, true, true, true, true, true, true, true, true, true, true, true, true, true, true, true, false, false, false, false, false, false, false, false, false, false, false, false, false, false, false, false]
abbrev b37_52 : Array Bool := #[true, true, true, true, true, true, true, true, true, true, true, true, true, true, true, true, true, true, true, true, true, true, false, false, false, false, false, false, false, false, false, false, false, false, false, false, false]
abbrev b37_53 : Array Bool := #[true, true, true, true, true, true, true, true, true, true, true, true, true, true, true, true, true, true, true, true, true, true, true, false, false, false, false, false, false, false, false, false, false, false, false, false, false]
abbrev b37_54 : Array Bool := #[true, true, true, true, true, true, true, true, true, true, true, true, true, true, true, true, true, true, true, true, true, true, true, true, false, false, false, false, false, false, false, false, false, false, false, false, false]
abbrev b37_55 : Array Bool := #[true, true, true, true, true, true, true, true, true, true, true, true, true, true, true, true, true, true, true, true, true, true, true, true, true, false, false, false, false, false, false, false, false, false, false, false, false]
abbrev b37_56 : Array Bool := #[true, true, true, true, true, true, true, true, true, true, true, true, true, true, true, true, true, true, true, true, true, true, true, true, true, true, false, false, false, false, false, false, false, false, false, false, false]
abbrev b37_57 : Array Bool := #[true, true, true, true, true, true, true, true, true, true, true, true, true, true, true, true, true, true, true, true, true, true, true, true, true, true, true, false, false, false, false, false, false, false, false, false, false]
abbrev b37_58 : Array Bool := #[true, true, true, true, true, true, true, true, true, true, true, true, true, true, true, true, true, true, true, true, true, true, true, true, true, true, true, true, false, false, false, false, false, false, false, false, false]
abbrev b37_59 : Array Bool := #[true, true, true, true, true, true, true, true, true, true, true, true, true, true, true, true, true, true, true, true, true, true, true, true, true, true, true, true, true, false, false, false, false, false, false, false, false]
abbrev b37_60 : Array Bool := #[true, true, true, true, true, true, true, true, true, true, true, true, true, true, true, true, true, true, true, true, true, true, true, true, true, true, true, true, true, true, false, false, false, false, false, false, false]
abbrev b37_61 : Array Bool := #[true, true, true, true, true, true, true, true, true, true, true, true, true, true, true, true, true, true, true, true, true, true, true, true, true, true, true, true, true, true, true, false, false, false, false, false, false]
abbrev b37_62 : Array Bool := #[true, true, true, true, true, true, true, true, true, true, true, true, true, true, true, true, true, true, true, true, true, true, true, true, true, true, true, true, true, true, true, true, false, false, false, false, false]
abbrev b37_63 : Array Bool := #[true, true, true, true, true, true, true, true, true, true, true, true, true, true, true, true, true, true, true, true, true, true, true, true, true, true, true, true, true, true, true, true, true, false, false, false, false]
abbrev b37_64 : Array Bool := #[true, true, true, true, true, true, true, true, true, true, true, true, true, true, true, true, true, true, true, true, true, true, true, true, true, true, true, true, true, true, true, true, true, true, false, false, false]
abbrev b37_65 : Array Bool := #[true, true, true, true, true, true, true, true, true, true, true, true, true, true, true, true, true, true, true, true, true, true, true, true, true, true, true, true, true, true, true, true, true, true, true, false, false]
abbrev b37_66 : Array Bool := #[true, true, true, true, true, true, true, true, true, true, true, true, true, true, true, true, true, true, true, true, true, true, true, true, true, true, true, true, true, true, true, true, true, true, true, true, false]
abbrev b37_67 : Array Bool := #[true, true, true, true, true, true, true, true, true, true, true, true, true, true, true, true, true, true, true, true, true, true, true, true, true, true, true, true, true, true, true, true, true, true, true, true, true]
abbrev b37_68 : Array Bool := #[true, true, true, true, true, true, true, true, true, true, true, true, true, true, true, true, true, true, true, true, true, true, true, true, true, true, true, true, true, false, true, false, false, false, false, false, false]
abbrev b37_69 : Array Bool := #[true, true, true, true, true, true, true, true, true, true, true, true, true, true, true, true, true, true, true, true, true, true, true, true, true, true, true, true, true, false, true, true, false, false, false, false, false]
abbrev b37_70 : Array Bool := #[true, true, true, true, true, true, true, true, true, true, true, true, true, true, true, true, true, true, true, true, true, true, true, true, true, true, true, true, true, false, true, true, true, false, false, false, false]
section
variable {P : Program} {ops : Array Oper} {Q : Exit → Act → World → Prop} {md : Region.Mode} {S : World → Prop} {ds : List Nat} {T : Bool × List (List Nat × List Nat)}
theorem pu_ (i K : Nat) {oi : Oper} {fuel : Nat} {l : Array Bool} {a a' : Act} {w : World} (l' : Array Bool) (hi : ops[i]? = some oi) (hN : oi.dst = some K) (HT : Aside0 (rtab md ops = T)) (h : wpAnyLast P md ops Q S ds fuel l' a' w)
  (hc : anyT T l.toList l'.toList i = true := by kernel_rfl) (hw : Region.wanted oi (yielded ops a.tmps) = false := by rfl) (hQ : ∀ c a w, Q (.panic c) (a.put oi.dst undef) w → Q (.panic c) a w := by exact fun _ _ _ h => h) (ha : a.put (some K) undef = a' := by simp only [Act.put, List.setIfInBounds_toArray, List.set_cons_zero, List.set_cons_succ, i64_w, i32_w]; rfl) : wpAnyLast P md ops Q S ds (fuel + 1) l a w :=
 pure_ l' hi hN (any_of HT.out hc) hQ (Or.inr ⟨hw, rfl⟩) ha h
theorem pv_ (i K : Nat) {oi : Oper} {v : Value} {fuel : Nat} {l : Array Bool} {a a' : Act} {w : World} (l' : Array Bool) (hi : ops[i]? = some oi) (hN : oi.dst = some K) (HT : Aside0 (rtab md ops = T)) (h : wpAnyLast P md ops Q S ds fuel l' a' w)
  (hc : anyT T l.toList l'.toList i = true := by kernel_rfl) (hw : Region.wanted oi (yielded ops a.tmps) = true := by rfl) (hy : ∀ w, (execOp a.eval oi).run P w = .ok (.value v) w := by (intro w'; go_simp; with_reducible rfl)) (hQ : ∀ c a w, Q (.panic c) (a.put oi.dst v) w → Q (.panic c) a w := by exact fun _ _ _ h => h) (ha : a.put (some K) v = a' := by simp only [Act.put, List.setIfInBounds_toArray, List.set_cons_zero, List.set_cons_succ, i64_w, i32_w]; rfl) : wpAnyLast P md ops Q S ds (fuel + 1) l a w :=
 pure_ l' hi hN (any_of HT.out hc) hQ (Or.inl ⟨hw, hy⟩) ha h
theorem tk_ (i K : Nat) {oi : Oper} {v : Value} {fuel : Nat} {l : Array Bool} {a a' : Act} {w : World} {B : List Nat} (l' : Array Bool) (hi : ops[i]? = some oi) (hN : oi.dst = some K) (HT : Aside0 (rtab md ops = T)) (HW : Aside0 (waitsOk T.2 B = true)) (hS : S w) (h : wpAnyLast P md ops Q S ds fuel l' a' w)
  (hc : takeW T B ds l.toList l'.toList i = true := by kernel_rfl) (hw : Region.wanted oi (yielded ops a.tmps) = true := by rfl) (hy : ∀ w, S w → (execOp a.eval oi).run P w = .ok (.value v) w := by (intro w' s0; go_simp; with_reducible rfl)) (hQ : ∀ c a w, Q (.panic c) (a.put oi.dst v) w → Q (.panic c) a w := by exact fun _ _ _ h => h) (ha : a.put (some K) v = a' := by simp only [Act.put, List.setIfInBounds_toArray, List.set_cons_zero, List.set_cons_succ, i64_w, i32_w]; rfl) : wpAnyLast P md ops Q S ds (fuel + 1) l a w :=
 take_ l' hi hN (take_ofW HT.out HW.out hc) hQ (Or.inl ⟨hw, hy⟩) hS ha h
end
def l7_GraphTree.T18 : Bool × List (List Nat × List Nat) := (true, [([], []), ([], []), ([0, 1], [0, 1]), ([2], [2]), ([], []), ([4], [4]), ([5], [5]), ([6], [6]), ([6], [6]), ([7, 8, 6], [6, 7, 8]), ([9, 6], [6, 9]), ([10, 6], [6, 10]), ([6, 11], [6, 11]), ([3, 12], [3, 12]), ([13, 6], [13]), ([14], [14]), ([14], [14]), ([15, 16, 14], [14, 15, 16]), ([17, 14], [14, 17]), ([14], [14]), ([14], [14]), ([19, 20, 14, 14], [14, 19, 20]), ([18, 21, 14], [14, 18, 21]), ([14, 22], [14, 22])])
def l7_GraphTree.B18 : List Nat := [0, 0, 3, 7, 0, 16, 48, 112, 112, 496, 1008, 2032, 4080, 8191, 16383, 32767, 32767, 131071, 262143, 32767, 32767, 1605631, 4194303, 8388607]
theorem l7_GraphTree.tab18 : rtab .any (opsOf Try.f12 18) = l7_GraphTree.T18 := by kernel_rfl
theorem l7_GraphTree.bits18 : waitsOk l7_GraphTree.T18.2 l7_GraphTree.B18 = true := by kernel_rfl
def l7_GraphTree.T24 : Bool × List (List Nat × List Nat) := (true, [([], []), ([], []), ([], []), ([1, 2], [1, 2]), ([3], [3]), ([4], [4]), ([5], [5]), ([5], [5]), ([6, 7, 5], [5, 6, 7]), ([8, 5], [5, 8]), ([5, 9], [5, 9]), ([10, 5], [10]), ([11], [11]), ([11], [11]), ([11], [11]), ([12, 13, 14, 11, 11], [11, 12, 13, 14]), ([11, 15], [11, 15]), ([0, 16], [0, 16]), ([17, 15], [17]), ([18], [18]), ([19, 18, 18], [18, 19]), ([20], [20]), ([20], [20]), ([21, 22, 20], [20, 21, 22]), ([20, 23, 18], [18, 20, 23]), ([24, 20, 18], [18, 24]), ([25], [25]), ([25], [25]), ([26, 27, 25], [25, 26, 27]), ([28, 25], [25, 28]), ([25], [25]), ([25], [25]), ([30, 31, 25], [25, 30, 31]), ([32, 25], [25, 32]), ([29, 33, 25], [25, 29, 33]), ([25, 34, 18], [18, 25, 34]), ([18, 35], [18, 35])])
def l7_GraphTree.B24 : List Nat := [0, 0, 0, 6, 14, 30, 62, 62, 254, 510, 1022, 2046, 4094, 4094, 4094, 32766, 65534, 131071, 262143, 524287, 1048575, 2097151, 2097151, 8388607, 16777215, 33554431, 67108863, 67108863, 268435455, 536870911, 67108863, 67108863, 3288334335, 7583301631, 17179869183, 34359738367, 68719476735]
theorem l7_GraphTree.tab24 : rtab .any (opsOf Try.f12 24) = l7_GraphTree.T24 := by kernel_rfl
theorem l7_GraphTree.bits24 : waitsOk l7_GraphTree.T24.2 l7_GraphTree.B24 = true := by kernel_rfl
set_option maxHeartbeats 8000000 in
set_option maxRecDepth 100000 in
theorem l7_GraphTree.calls (k : Nat) (A0 : Option Addr) (c0 : Nat) (l0 : List (List Int)) (r : Bool) (w : World) (hr0 : Kd.C (Kd.slice 3 (Kd.int .i64)) w A0 l0.length l0) (hc0 : l0.length ≤ c0) (h : l7_GraphTree.f k l0 = some r) :
  Calls Try.prog 12 #[.slice A0 l0.length c0] w fun e w' => e = .returned (.bool r) ∧ Below w.heap.size w w' := by
 have HR0 := Aside0.mk hr0; have HC0 := Aside0.mk hc0; clear hr0 hc0; have HB := Aside0.mk (Below.refl w.heap.size w); have H : ((l7_usable.f k l0).bind fun t101 => (if t101 = true then ((graph_Dominators.f k l0).bind fun bt103 => ((graph_Reachable.f k l0).bind fun bt107 => ((graph_Order.f k l0).bind fun bt111 => (if bt103.2 = 0 then (if (bt103.1.length : Int) = (l0.length : Int) then (l7_GraphTree.j0 k l0 bt103.1 bt107.1 bt111.1 ((bt107.1.length : Int) != (l0.length : Int))) else (l7_GraphTree.j0 k l0 bt103.1 bt107.1 bt111.1 true)) else (l7_GraphTree.j0 k l0 bt103.1 bt107.1 bt111.1 true))))) else ((l7_awake.f k).bind fun t102 => (some t102)))) = some r := h
 clear h; replace H := Option.bind_eq_some_iff.mp H; obtain ⟨t101, A20, H⟩ := H; replace H : (if t101 = true then ((graph_Dominators.f k l0).bind fun bt103 => ((graph_Reachable.f k l0).bind fun bt107 => ((graph_Order.f k l0).bind fun bt111 => (if bt103.2 = 0 then (if (bt103.1.length : Int) = (l0.length : Int) then (l7_GraphTree.j0 k l0 bt103.1 bt107.1 bt111.1 ((bt107.1.length : Int) != (l0.length : Int))) else (l7_GraphTree.j0 k l0 bt103.1 bt107.1 bt111.1 true)) else (l7_GraphTree.j0 k l0 bt103.1 bt107.1 bt111.1 true))))) else ((l7_awake.f k).bind fun t102 => (some t102))) = some r := H
 have A2 := Aside0.mk A20; clear A20; by_cases c3 : t101 = true
 ·subst c3; have H1 : ((graph_Dominators.f k l0).bind fun bt103 => ((graph_Reachable.f k l0).bind fun bt107 => ((graph_Order.f k l0).bind fun bt111 => (if bt103.2 = 0 then (if (bt103.1.length : Int) = (l0.length : Int) then (l7_GraphTree.j0 k l0 bt103.1 bt107.1 bt111.1 ((bt107.1.length : Int) != (l0.length : Int))) else (l7_GraphTree.j0 k l0 bt103.1 bt107.1 bt111.1 true)) else (l7_GraphTree.j0 k l0 bt103.1 bt107.1 bt111.1 true))))) = some r := by rw [if_pos rfl] at H; exact H
  clear H; have H := H1; clear H1; replace H := Option.bind_eq_some_iff.mp H; obtain ⟨⟨t103, t104⟩, A40, H⟩ := H; replace H : ((graph_Reachable.f k l0).bind fun bt107 => ((graph_Order.f k l0).bind fun bt111 => (if t104 = 0 then (if (t103.length : Int) = (l0.length : Int) then (l7_GraphTree.j0 k l0 t103 bt107.1 bt111.1 ((bt107.1.length : Int) != (l0.length : Int))) else (l7_GraphTree.j0 k l0 t103 bt107.1 bt111.1 true)) else (l7_GraphTree.j0 k l0 t103 bt107.1 bt111.1 true)))) = some r := H
  have A4 := Aside0.mk A40; clear A40; replace H := Option.bind_eq_some_iff.mp H; obtain ⟨⟨t107, t108⟩, A50, H⟩ := H; replace H : ((graph_Order.f k l0).bind fun bt111 => (if t104 = 0 then (if (t103.length : Int) = (l0.length : Int) then (l7_GraphTree.j0 k l0 t103 t107 bt111.1 ((t107.length : Int) != (l0.length : Int))) else (l7_GraphTree.j0 k l0 t103 t107 bt111.1 true)) else (l7_GraphTree.j0 k l0 t103 t107 bt111.1 true))) = some r := H
  have A5 := Aside0.mk A50; clear A50; replace H := Option.bind_eq_some_iff.mp H; obtain ⟨⟨t111, t112⟩, A60, H⟩ := H; replace H : (if t104 = 0 then (if (t103.length : Int) = (l0.length : Int) then (l7_GraphTree.j0 k l0 t103 t107 t111 ((t107.length : Int) != (l0.length : Int))) else (l7_GraphTree.j0 k l0 t103 t107 t111 true)) else (l7_GraphTree.j0 k l0 t103 t107 t111 true)) = some r := H
  have A6 := Aside0.mk A60; clear A60; have HC7 := Aside0.mk H; clear H; go_enter Try.func12, Try.ntmps12
  go_upto_region 6 with (first | ((with_reducible refine gate_callee (f := 26) rfl ?_); refine goesL_ (some 16) rfl rfl Try.func26 (by kernel_rfl) rfl #[.slice A0 l0.length c0] rfl (by (try simp only [List.map_toArray, List.map_cons, List.map_nil]); first | done | rfl | (simp only [List.length_drop, List.length_take]; rfl)) ?_; (with_reducible refine (l7_usable.calls k _ _ l0 true _ ?side1 ?side2 A2.out).mono ?_); (case side1 => repeat (first | exact HR0.out | with_reducible first | refine Kd.C_alloc ?_ _ | refine Kd.C_drewN ?_ _ | refine Kd.C_drew ?_)); (case side2 => exact HC0.out); rintro e w' ⟨rfl, ⟨nd, rfl⟩⟩; refine ⟨_, rfl, ?_⟩) | ((with_reducible refine gate_callee (f := 29) rfl ?_); refine goesL_ (some 21) rfl rfl Try.func29 (by kernel_rfl) rfl #[.slice A0 l0.length c0] rfl (by (try simp only [List.map_toArray, List.map_cons, List.map_nil]); first | done | rfl | (simp only [List.length_drop, List.length_take]; rfl)) ?_; (with_reducible refine (graph_Dominators.calls k _ _ l0 t103 t104 _ ?side1 ?side2 A4.out).mono ?_); (case side1 => repeat (first | exact HR0.out | with_reducible first | refine Kd.C_alloc ?_ _ | refine Kd.C_drewN ?_ _ | refine Kd.C_drew ?_)); (case side2 => exact HC0.out); rintro e w8 ⟨v105, rfl, ho0, hb⟩; refine ⟨_, rfl, ?_⟩; have n0_ := Aside0.mk (Kd.R_lower ho0 (below_size (by repeat (first | (with_reducible first | exact HB.out | apply below_alloc | apply pw_below_drewN | apply below_drew1) | exact HB.out)))); have n1_ := Aside0.mk (below_step (by repeat (first | (with_reducible first | exact HB.out | apply below_alloc | apply pw_below_drewN | apply below_drew1) | exact HB.out)) hb); clear HB; have HO106 := n0_; have HB := n1_; clear n0_ n1_; (try clear hb); (try clear hb2); (try clear hk); (try clear hi); (try clear ho0)) | ((with_reducible refine gate_callee (f := 38) rfl ?_); refine goesL_ (some 26) rfl rfl Try.func38 (by kernel_rfl) rfl #[.slice A0 l0.length c0] rfl (by (try simp only [List.map_toArray, List.map_cons, List.map_nil]); first | done | rfl | (simp only [List.length_drop, List.length_take]; rfl)) ?_; (with_reducible refine (graph_Reachable.calls k _ _ l0 t107 t108 _ ?side1 ?side2 A5.out).mono ?_); (case side1 => repeat (first | exact (Kd.C_below HR0.out HB.out) | with_reducible first | refine Kd.C_alloc ?_ _ | refine Kd.C_drewN ?_ _ | refine Kd.C_drew ?_)); (case side2 => exact HC0.out); rintro e w9 ⟨v109, rfl, ho0, hb⟩; refine ⟨_, rfl, ?_⟩; have n0_ := Aside0.mk (Kd.R_below (by (with_reducible repeat (first | apply Kd.R_alloc | apply Kd.R_drewN | apply Kd.R_drew)); exact HO106.out) hb); have n1_ := Aside0.mk (Kd.R_lower ho0 (below_size (by repeat (first | (with_reducible first | exact HB.out | apply below_alloc | apply pw_below_drewN | apply below_drew1) | exact HB.out)))); have n2_ := Aside0.mk (below_step (by repeat (first | (with_reducible first | exact HB.out | apply below_alloc | apply pw_below_drewN | apply below_drew1) | exact HB.out)) hb); clear HO106; clear HB; have HO106 := n0_; have HO110 := n1_; have HB := n2_; clear n0_ n1_ n2_; (try clear hb); (try clear hb2); (try clear hk); (try clear hi); (try clear ho0)) | ((with_reducible refine gate_callee (f := 40) rfl ?_); refine goesL_ (some 31) rfl rfl Try.func40 (by kernel_rfl) rfl #[.slice A0 l0.length c0] rfl (by (try simp only [List.map_toArray, List.map_cons, List.map_nil]); first | done | rfl | (simp only [List.length_drop, List.length_take]; rfl)) ?_; (with_reducible refine (graph_Order.calls k _ _ l0 t111 t112 _ ?side1 ?side2 A6.out).mono ?_); (case side1 => repeat (first | exact (Kd.C_below HR0.out HB.out) | with_reducible first | refine Kd.C_alloc ?_ _ | refine Kd.C_drewN ?_ _ | refine Kd.C_drew ?_)); (case side2 => exact HC0.out); rintro e w10 ⟨v113, rfl, ho0, hb⟩; refine ⟨_, rfl, ?_⟩; have n0_ := Aside0.mk (Kd.R_elder' (by (with_reducible repeat (first | apply Kd.R_alloc | apply Kd.R_drewN | apply Kd.R_drew)); exact HO106.out) (Kd.R_base ho0) hb); have n1_ := Aside0.mk (Kd.R_below (by (with_reducible repeat (first | apply Kd.R_alloc | apply Kd.R_drewN | apply Kd.R_drew)); exact HO110.out) hb); have n2_ := Aside0.mk (Kd.R_lower (Kd.R_new' ho0 (Kd.R_lt (by (with_reducible repeat (first | apply Kd.R_alloc | apply Kd.R_drewN | apply Kd.R_drew)); exact HO106.out))) (below_size (by repeat (first | (with_reducible first | exact HB.out | apply below_alloc | apply pw_below_drewN | apply below_drew1) | exact HB.out)))); have n3_ := Aside0.mk (below_step (by repeat (first | (with_reducible first | exact HB.out | apply below_alloc | apply pw_below_drewN | apply below_drew1) | exact HB.out)) hb); clear HO106; clear HO110; clear HB; have HO106 := n0_; have HO110 := n1_; have HO114 := n2_; have HB := n3_; clear n0_ n1_ n2_ n3_; (try clear hb); (try clear hb2); (try clear hk); (try clear hi); (try clear ho0)))
  (try simp only [Act.put, List.setIfInBounds_toArray, List.set_cons_zero, List.set_cons_succ])
  go_cut [49] (fun vc49 wc => ∃ (kq : Nat) (x49_6 : Bool), vc49 = .bool x49_6 ∧ Aside0 (l7_GraphTree.j0 kq l0 t103 t107 t111 x49_6 = some r) ∧ Aside0 (kq ≤ k) ∧ Aside0 (Kd.R (Kd.int .i64) 3 wc w.heap.size (fun k_ => some k_ ≠ (v113 : Value).ownBlock) v105 t103) ∧ Aside0 (Kd.R Kd.bool 4 wc w.heap.size (fun _ => True) v109 t107) ∧ Aside0 (Kd.R (Kd.int .i64) 3 wc w.heap.size (fun k_ => some k_ ≠ (v105 : Value).ownBlock) v113 t111) ∧ Aside0 (Below w.heap.size w wc))
  case first =>
   have H := HC7.out; clear HC7; by_cases c11 : t104 = 0
   ·rw [if_pos c11] at H; have c11b0 : (t104 == 0) = true := beq_iff_eq.mpr c11
    have c11b1 : (t104 != 0) = false := bne_eq_false_iff_eq.mpr c11
    clear c11; (first | rw [c11b0] | (simp only [i64_w, i32_w]; rw [c11b0]) | skip)
    by_cases c12 : (t103.length : Int) = (l0.length : Int)
    ·rw [if_pos c12] at H; have c12b0 : ((t103.length : Int) == (l0.length : Int)) = true := beq_iff_eq.mpr c12
     have c12b1 : ((t103.length : Int) != (l0.length : Int)) = false := bne_eq_false_iff_eq.mpr c12
     have c12b2 : (t103.length == l0.length) = true := by first | simpa using c12 | (simp at c12 ⊢; omega)
     clear c12; have H' := Aside0.mk H
     clear H; obtain ⟨Ao13, co13, eo13⟩ := Kd.R_slice HO106.out; subst eo13; obtain ⟨Ao14, co14, eo14⟩ := Kd.R_slice HO110.out; subst eo14; go_wp2
     go_meet
     case rel => exact ⟨_, (((t107.length : Int) != (l0.length : Int))), (by first | rfl | (simp; done) | (simp [*]; done)), H', ⟨by first | omega | exact Nat.le_refl _⟩, ⟨by (with_reducible repeat (first | apply Kd.R_alloc | apply Kd.R_drewN | apply Kd.R_drew)); exact Kd.R_mono HO106.out (fun _ hk => hk.2)⟩, ⟨by (with_reducible repeat (first | apply Kd.R_alloc | apply Kd.R_drewN | apply Kd.R_drew)); exact HO110.out⟩, ⟨by (with_reducible repeat (first | apply Kd.R_alloc | apply Kd.R_drewN | apply Kd.R_drew)); exact Kd.R_mono HO114.out (fun _ hk => hk.2)⟩, ⟨by repeat (first | (with_reducible first | exact HB.out | apply below_alloc | apply pw_below_drewN | apply below_drew1) | exact HB.out)⟩⟩
    ·rw [if_neg c12] at H; have c12b0 : ((t103.length : Int) == (l0.length : Int)) = false := beq_eq_false_iff_ne.mpr c12
     have c12b1 : ((t103.length : Int) != (l0.length : Int)) = true := bne_iff_ne.mpr c12
     have c12b2 : (t103.length == l0.length) = false := by first | simpa using c12 | (simp at c12 ⊢; omega)
     have H' := Aside0.mk H
     clear H; obtain ⟨Ao15, co15, eo15⟩ := Kd.R_slice HO106.out; subst eo15; go_wp2
     go_meet
     case rel => exact ⟨_, (true), (by first | rfl | (simp; done) | (simp [*]; done)), H', ⟨by first | omega | exact Nat.le_refl _⟩, ⟨by (with_reducible repeat (first | apply Kd.R_alloc | apply Kd.R_drewN | apply Kd.R_drew)); exact Kd.R_mono HO106.out (fun _ hk => hk.2)⟩, ⟨by (with_reducible repeat (first | apply Kd.R_alloc | apply Kd.R_drewN | apply Kd.R_drew)); exact HO110.out⟩, ⟨by (with_reducible repeat (first | apply Kd.R_alloc | apply Kd.R_drewN | apply Kd.R_drew)); exact Kd.R_mono HO114.out (fun _ hk => hk.2)⟩, ⟨by repeat (first | (with_reducible first | exact HB.out | apply below_alloc | apply pw_below_drewN | apply below_drew1) | exact HB.out)⟩⟩
   ·rw [if_neg c11] at H; have c11b0 : (t104 == 0) = false := beq_eq_false_iff_ne.mpr c11
    have c11b1 : (t104 != 0) = true := bne_iff_ne.mpr c11
    (first | rw [c11b0] | (simp only [i64_w, i32_w]; rw [c11b0]) | skip)
    have H' := Aside0.mk H
    clear H; go_wp2
    go_meet
    case rel => exact ⟨_, (true), (by first | rfl | (simp; done) | (simp [*]; done)), H', ⟨by first | omega | exact Nat.le_refl _⟩, ⟨by (with_reducible repeat (first | apply Kd.R_alloc | apply Kd.R_drewN | apply Kd.R_drew)); exact Kd.R_mono HO106.out (fun _ hk => hk.2)⟩, ⟨by (with_reducible repeat (first | apply Kd.R_alloc | apply Kd.R_drewN | apply Kd.R_drew)); exact HO110.out⟩, ⟨by (with_reducible repeat (first | apply Kd.R_alloc | apply Kd.R_drewN | apply Kd.R_drew)); exact Kd.R_mono HO114.out (fun _ hk => hk.2)⟩, ⟨by repeat (first | (with_reducible first | exact HB.out | apply below_alloc | apply pw_below_drewN | apply below_drew1) | exact HB.out)⟩⟩
  case rest =>
   clear HC7; try clear c1
   try clear c2
   try clear p2
   try clear c3
   try clear c4
   try clear c11
   try clear c11b0
   try clear c11b1
   try clear c12
   try clear c12b0
   try clear c12b1
   try clear c12b2
   obtain ⟨kq, x49_6, rfl, HA, HJ6, HO_3, HO_5, HO_7, HB⟩ := hcut; cases kq with
   | zero => exact absurd HA.out (by simp [l7_GraphTree.j0])
   | succ kj6 =>
    have H := HA.out; clear HA; simp only [l7_GraphTree.j0] at H
    by_cases c16 : x49_6 = true
    ·subst c16; have H1 : (some false) = some r := by rw [if_pos rfl] at H; exact H
     clear H; have H := H1; clear H1; obtain rfl := Option.some.inj H; go_wp2
     go_ret
     exact ⟨by first | rfl | (simp [errW_none, errW_some] <;> rfl) | (simp [*, errW_none, errW_some] <;> rfl), by repeat (first | (with_reducible first | exact HB.out | apply below_alloc | apply pw_below_drewN | apply below_drew1) | exact HB.out)⟩
    ·replace c16 := Bool.eq_false_iff.mpr c16; subst c16; have H1 : (if 0 ≤ (l0.length : Int) then (if ((l0.length : Int) : Int).toNat ≤ 35184372088832 then (l7_GraphTree.l0 kj6 l0 t103 t107 t111 (List.replicate ((l0.length : Int) : Int).toNat 0) 0) else (none)) else (none)) = some r := by rw [if_neg (show ¬ (false = true) by decide)] at H; exact H
     clear H; have H := H1; clear H1; by_cases c17 : 0 ≤ (l0.length : Int)
     ·rw [if_pos c17] at H; have c17b0 := eq_true c17; have c17b1 : decide (0 ≤ (l0.length : Int)) = true := decide_eq_true c17
      clear c17; by_cases c18 : ((l0.length : Int) : Int).toNat ≤ 35184372088832
      ·rw [if_pos c18] at H; have c18b0 := eq_true c18; have c18b1 : decide (((l0.length : Int) : Int).toNat ≤ 35184372088832) = true := decide_eq_true c18
       clear c18; obtain ⟨y115, hy115⟩ : ∃ y_ : List Int, y_ = (List.replicate ((l0.length : Int) : Int).toNat 0) := ⟨_, rfl⟩; replace H : (l7_GraphTree.l0 kj6 l0 t103 t107 t111 y115 0) = some r := by first | (with_reducible first | (rw [hy115]; exact H) | exact H) | (have H2_ := (Option.bind_some _ _).symm.trans H; first | with_reducible exact H2_ | (rw [hy115]; exact H2_)) | (rw [hy115]; exact H) | exact H
       have Ny115 := Aside0.mk hy115; clear hy115; have H' := Aside0.mk H
       clear H; go_wp2_with (first | ((with_reducible refine gate_dst (N := 52) rfl ?_); (try (refine gate_guard (by rfl) ?_; dsimp only)); refine Kd.R_make (Kd.int .i64) _ 3 rfl (N := 52) rfl 33 _ _ rfl (l0.length : Int) rfl rfl Try.underlying33 (.int .i64 0) 8 info3 rfl (by decide) (by omega) 0 (ok := fun _ => True) (okp := fun _ => True) rfl (fun _ hk => hk) trivial (of_decide_eq_true (by with_reducible assumption)) (Nat.le_trans (Nat.mul_le_mul_right _ (of_decide_eq_true (by with_reducible assumption) : (l0.length : Int).toNat ≤ 35184372088832)) (by omega)) (Below.refl _ _) (Nat.le_refl _) ?_; intro v116 w19 ho20 hb hg_ hnew_; clear hg_ hnew_; (first | rw [← Ny115.out] at ho20 | (simp only [Int.reduceToNat] at ho20; rw [← Ny115.out] at ho20)); have n0_ := Aside0.mk (Kd.R_elder' (by (with_reducible repeat (first | apply Kd.R_alloc | apply Kd.R_drewN | apply Kd.R_drew)); exact HO_3.out) (Kd.R_base ho20) hb); have n1_ := Aside0.mk (Kd.R_below (by (with_reducible repeat (first | apply Kd.R_alloc | apply Kd.R_drewN | apply Kd.R_drew)); exact HO_5.out) hb); have n2_ := Aside0.mk (Kd.R_elder' (by (with_reducible repeat (first | apply Kd.R_alloc | apply Kd.R_drewN | apply Kd.R_drew)); exact HO_7.out) (Kd.R_base ho20) hb); have n3_ := Aside0.mk (Kd.R_lower (Kd.R_new' (Kd.R_new' ho20 (Kd.R_lt (by (with_reducible repeat (first | apply Kd.R_alloc | apply Kd.R_drewN | apply Kd.R_drew)); exact HO_3.out))) (Kd.R_lt (by (with_reducible repeat (first | apply Kd.R_alloc | apply Kd.R_drewN | apply Kd.R_drew)); exact HO_7.out))) (below_size (by repeat (first | (with_reducible first | exact HB.out | apply below_alloc | apply pw_below_drewN | apply below_drew1) | exact HB.out)))); have n4_ := Aside0.mk (below_step (by repeat (first | (with_reducible first | exact HB.out | apply below_alloc | apply pw_below_drewN | apply below_drew1) | exact HB.out)) hb); clear HO_3; clear HO_5; clear HO_7; clear HB; have HO_3 := n0_; have HO_5 := n1_; have HO_7 := n2_; have HO117 := n3_; have HB := n4_; clear n0_ n1_ n2_ n3_ n4_; clear hb ho20))
       go_loopg [10] kj6 (fun kq v10 w' => ∃ (x9_2 : List Int) (x10_2 : Int), v10 = .int .i64 x10_2 ∧ Aside0 (l7_GraphTree.l0 kq l0 t103 t107 t111 x9_2 x10_2 = some r) ∧ Aside0 (kq ≤ kj6) ∧ Aside0 (Kd.R (Kd.int .i64) 3 w' w.heap.size (fun k_ => some k_ ≠ (v113 : Value).ownBlock ∧ some k_ ≠ (v116 : Value).ownBlock) v105 t103) ∧ Aside0 (Kd.R Kd.bool 4 w' w.heap.size (fun _ => True) v109 t107) ∧ Aside0 (Kd.R (Kd.int .i64) 3 w' w.heap.size (fun k_ => some k_ ≠ (v105 : Value).ownBlock ∧ some k_ ≠ (v116 : Value).ownBlock) v113 t111) ∧ Aside0 (Kd.R (Kd.int .i64) 3 w' w.heap.size (fun k_ => some k_ ≠ (v105 : Value).ownBlock ∧ some k_ ≠ (v113 : Value).ownBlock) v116 x9_2) ∧ Aside0 (Below w.heap.size w w'))
       case atStart => exact ⟨(y115), (0), (by first | rfl | (simp; done) | (simp [*]; done)), H', ⟨Nat.le_refl _⟩, ⟨by (with_reducible repeat (first | apply Kd.R_alloc | apply Kd.R_drewN | apply Kd.R_drew)); exact HO_3.out⟩, ⟨by (with_reducible repeat (first | apply Kd.R_alloc | apply Kd.R_drewN | apply Kd.R_drew)); exact HO_5.out⟩, ⟨by (with_reducible repeat (first | apply Kd.R_alloc | apply Kd.R_drewN | apply Kd.R_drew)); exact HO_7.out⟩, ⟨by (with_reducible repeat (first | apply Kd.R_alloc | apply Kd.R_drewN | apply Kd.R_drew)); exact Kd.R_mono HO117.out (fun _ hk => ⟨hk.1.2, hk.2⟩)⟩, ⟨by repeat (first | (with_reducible first | exact HB.out | apply below_alloc | apply pw_below_drewN | apply below_drew1) | exact HB.out)⟩⟩
       case round =>
        clear H'; try clear c1
        try clear c2
        try clear p2
        try clear c3
        try clear c4
        try clear c11
        try clear c11b0
        try clear c11b1
        try clear c12
        try clear c12b0
        try clear c12b1
        try clear c12b2
        try clear c16
        try clear c17
        try clear c17b0
        try clear c17b1
        try clear c18
        try clear c18b0
        try clear c18b1
        try clear p2
        obtain ⟨x9_2, x10_2, rfl, HA, HK2, HO_3, HO_5, HO_7, HO_9, HB⟩ := hrel; cases gk with
        | zero => exact absurd HA.out (by simp [l7_GraphTree.l0])
        | succ k2 =>
         have H := HA.out; clear HA; simp only [l7_GraphTree.l0] at H
         by_cases c21 : x10_2 < (t111.length : Int)
         ·rw [if_pos c21] at H; have c21b0 : decide (x10_2 < (t111.length : Int)) = true := decide_eq_true c21
          clear c21; by_cases c22 : 0 ≤ x10_2
          ·rw [if_pos c22] at H; have c22b0 : decide (0 ≤ x10_2) = true := decide_eq_true c22
           clear c22; by_cases c23 : (rd t111 x10_2) < 0
           ·rw [if_pos c23] at H; have c23b0 : decide ((rd t111 x10_2) < 0) = true := decide_eq_true c23
            clear c23; obtain rfl := Option.some.inj H; obtain ⟨Ao24, co24, eo24⟩ := Kd.R_slice HO_7.out; subst eo24; have p118 : 0 ≤ (x10_2 : Int) := of_decide_eq_true (by with_reducible assumption)
            have q118 : x10_2 < (t111.length : Int) := of_decide_eq_true (by with_reducible assumption)
            obtain ⟨ad118, e118, hx118_0⟩ := Kd.at_int (Kd.R_reads' HO_7.out).2.2 x10_2 p118 q118; cases e118; replace p118 := eq_true p118; replace q118 := eq_true q118; go_wp2
            go_ret
            exact ⟨by first | rfl | (simp [errW_none, errW_some] <;> rfl) | (simp [*, errW_none, errW_some] <;> rfl), by repeat (first | (with_reducible first | exact HB.out | apply below_alloc | apply pw_below_drewN | apply below_drew1) | exact HB.out)⟩
           ·rw [if_neg c23] at H; have c23b0 : decide ((rd t111 x10_2) < 0) = false := decide_eq_false c23
            clear c23; by_cases c25 : (rd t111 x10_2) ≥ (l0.length : Int)
            ·rw [if_pos c25] at H; have c25b0 : decide ((l0.length : Int) ≤ (rd t111 x10_2)) = true := decide_eq_true c25
             clear c25; obtain rfl := Option.some.inj H; obtain ⟨Ao26, co26, eo26⟩ := Kd.R_slice HO_7.out; subst eo26; have p118 : 0 ≤ (x10_2 : Int) := of_decide_eq_true (by with_reducible assumption)
             have q118 : x10_2 < (t111.length : Int) := of_decide_eq_true (by with_reducible assumption)
             obtain ⟨ad118, e118, hx118_0⟩ := Kd.at_int (Kd.R_reads' HO_7.out).2.2 x10_2 p118 q118; cases e118; replace p118 := eq_true p118; replace q118 := eq_true q118; have p119 : 0 ≤ (x10_2 : Int) := of_decide_eq_true (by with_reducible assumption)
             have q119 : x10_2 < (t111.length : Int) := of_decide_eq_true (by with_reducible assumption)
             obtain ⟨ad119, e119, hx119_0⟩ := Kd.at_int (Kd.R_reads' HO_7.out).2.2 x10_2 p119 q119; obtain rfl : ad118 = ad119 := (by injection e119)
             replace p119 := eq_true p119; replace q119 := eq_true q119; go_wp2
             go_ret
             exact ⟨by first | rfl | (simp [errW_none, errW_some] <;> rfl) | (simp [*, errW_none, errW_some] <;> rfl), by repeat (first | (with_reducible first | exact HB.out | apply below_alloc | apply pw_below_drewN | apply below_drew1) | exact HB.out)⟩
            ·rw [if_neg c25] at H; have c25b0 : decide ((l0.length : Int) ≤ (rd t111 x10_2)) = false := decide_eq_false c25
             clear c25; by_cases c27 : 0 ≤ (rd t111 x10_2)
             ·rw [if_pos c27] at H; have c27b0 : decide (0 ≤ (rd t111 x10_2)) = true := decide_eq_true c27
              clear c27; by_cases c28 : (rd t111 x10_2) < (x9_2.length : Int)
              ·rw [if_pos c28] at H; have c28b0 : decide ((rd t111 x10_2) < (x9_2.length : Int)) = true := decide_eq_true c28
               clear c28; obtain ⟨y121, hy121⟩ : ∃ y_ : List Int, y_ = (x9_2.set ((rd t111 x10_2) : Int).toNat x10_2) := ⟨_, rfl⟩; replace H : (l7_GraphTree.l0 k2 l0 t103 t107 t111 y121 (wrap64 (x10_2 + 1))) = some r := by first | (with_reducible first | (rw [hy121]; exact H) | exact H) | (have H2_ := (Option.bind_some _ _).symm.trans H; first | with_reducible exact H2_ | (rw [hy121]; exact H2_)) | (rw [hy121]; exact H) | exact H
               have Ny121 := Aside0.mk hy121; clear hy121; have H' := Aside0.mk H
               clear H; obtain ⟨Ao30, co30, eo30⟩ := Kd.R_slice HO_7.out; subst eo30; have p118 : 0 ≤ (x10_2 : Int) := of_decide_eq_true (by with_reducible assumption)
               have q118 : x10_2 < (t111.length : Int) := of_decide_eq_true (by with_reducible assumption)
               obtain ⟨ad118, e118, hx118_0⟩ := Kd.at_int (Kd.R_reads' HO_7.out).2.2 x10_2 p118 q118; cases e118; replace p118 := eq_true p118; replace q118 := eq_true q118; have p119 : 0 ≤ (x10_2 : Int) := of_decide_eq_true (by with_reducible assumption)
               have q119 : x10_2 < (t111.length : Int) := of_decide_eq_true (by with_reducible assumption)
               obtain ⟨ad119, e119, hx119_0⟩ := Kd.at_int (Kd.R_reads' HO_7.out).2.2 x10_2 p119 q119; obtain rfl : ad118 = ad119 := (by injection e119)
               replace p119 := eq_true p119; replace q119 := eq_true q119; have p120 : 0 ≤ (x10_2 : Int) := of_decide_eq_true (by with_reducible assumption)
               have q120 : x10_2 < (t111.length : Int) := of_decide_eq_true (by with_reducible assumption)
               obtain ⟨ad120, e120, hx120_0⟩ := Kd.at_int (Kd.R_reads' HO_7.out).2.2 x10_2 p120 q120; obtain rfl : ad118 = ad120 := (by injection e120)
               replace p120 := eq_true p120; replace q120 := eq_true q120; have p29 : 0 ≤ ((rd t111 x10_2) : Int) := of_decide_eq_true (by with_reducible assumption)
               have q29 : ((rd t111 x10_2) : Int) < ((x9_2.length : Int) : Int) := of_decide_eq_true (by with_reducible assumption)
               obtain ⟨go29, co29, eo29, gb29, gl29, cl29, HG29⟩ := Kd.R_form HO_9.out (by omega)
               (first | cases eo29 | (injection eo29 with ea_ en_ ec_; (first | subst ea_ | (injection ea_ with ea_; subst ea_)); subst ec_; clear en_))
               have GB29 := Aside0.mk gb29; have GG29 := Aside0.mk HG29; clear gb29 gl29 HG29; obtain ⟨hx29_0, hf29_0⟩ := Kd.R_celln 0 HO_9.out ((rd t111 x10_2) : Int) p29 q29; replace p29 := eq_true p29; replace q29 := eq_true q29; have HP31 := Kd.R_putg HO_9.out ((rd t111 x10_2) : Int) x10_2; go_wp2_with (first | ((with_reducible refine gate_store (t := 3) (p := 79) rfl ?_); refine store_event (t := 3) (p := 79) (v := ?vo_w32) (w1 := (wr.setCell ⟨go29, ((rd t111 x10_2) : Int).toNat, none⟩ (.int .i64 x10_2))) ?hg ?ho ?hn ?hr ?_; (case ho => rfl); (case hg => rfl); (case hn => rfl); (case hr => first | (go_simp; done) | (go_simp; rfl)); intro w32 hw; have hg : wr.grownBy w32 (some go29) := (by rw [hw]; exact HP31.2); have hp_ : Kd.R (Kd.int .i64) 3 w32 w.heap.size (fun k_ => some k_ ≠ (v105 : Value).ownBlock ∧ some k_ ≠ (.slice (some ad118) t111.length co30 : Value).ownBlock) (.slice (some ⟨go29, 0, none⟩) x9_2.length co29) y121 := (by rw [hw, Ny121.out]; exact HP31.1); clear HP31; have n0_ := Aside0.mk (Kd.R_after (v := (.slice (some ⟨go29, 0, none⟩) x9_2.length co29)) (v1 := (.slice (some ⟨go29, 0, none⟩) x9_2.length co29)) (ok := (fun k_ => some k_ ≠ (.slice (some ad118) t111.length co30 : Value).ownBlock)) (by (with_reducible repeat (first | apply Kd.R_alloc | apply Kd.R_drewN | apply Kd.R_drew)); exact HO_3.out) hg (.inl rfl)); have n1_ := Aside0.mk (Kd.R_over' (v := (.slice (some ⟨go29, 0, none⟩) x9_2.length co29)) (by (with_reducible repeat (first | apply Kd.R_alloc | apply Kd.R_drewN | apply Kd.R_drew)); exact HO_5.out) (Kd.R_typed HO_9.out) (by decide) hg); have n2_ := Aside0.mk (Kd.R_after (v := (.slice (some ⟨go29, 0, none⟩) x9_2.length co29)) (v1 := (.slice (some ⟨go29, 0, none⟩) x9_2.length co29)) (ok := (fun k_ => some k_ ≠ (v105 : Value).ownBlock)) (by (with_reducible repeat (first | apply Kd.R_alloc | apply Kd.R_drewN | apply Kd.R_drew)); exact HO_7.out) hg (.inl rfl)); have n3_ := Aside0.mk (hp_); have n4_ := Aside0.mk ((by rw [hw]; exact below_set (HB.out) GB29.out : Below w.heap.size w w32)); clear HO_3; clear HO_5; clear HO_7; clear HO_9; clear HB; have HO_3 := n0_; have HO_5 := n1_; have HO_7 := n2_; have HO_9 := n3_; have HB := n4_; clear n0_ n1_ n2_ n3_ n4_; clear hg hw hp_))
               go_roundg k2
               case measure => have := HJ6.out; have := HK2.out; omega
               case rel => exact ⟨(y121), (wrap64 (x10_2 + 1)), (by first | rfl | (simp; done) | (simp [*]; done)), H', ⟨by have := HJ6.out; have := HK2.out; omega⟩, ⟨by (with_reducible repeat (first | apply Kd.R_alloc | apply Kd.R_drewN | apply Kd.R_drew)); exact HO_3.out⟩, ⟨by (with_reducible repeat (first | apply Kd.R_alloc | apply Kd.R_drewN | apply Kd.R_drew)); exact HO_5.out⟩, ⟨by (with_reducible repeat (first | apply Kd.R_alloc | apply Kd.R_drewN | apply Kd.R_drew)); exact HO_7.out⟩, ⟨by (with_reducible repeat (first | apply Kd.R_alloc | apply Kd.R_drewN | apply Kd.R_drew)); exact HO_9.out⟩, ⟨by repeat (first | (with_reducible first | exact HB.out | apply below_alloc | apply pw_below_drewN | apply below_drew1) | exact HB.out)⟩⟩
              ·rw [if_neg c28] at H; exact absurd H (by simp)
             ·rw [if_neg c27] at H; exact absurd H (by simp)
          ·rw [if_neg c22] at H; exact absurd H (by simp)
         ·rw [if_neg c21] at H; have c21b0 : decide (x10_2 < (t111.length : Int)) = false := decide_eq_false c21
          clear c21; have H' := Aside0.mk H
          clear H; obtain ⟨Ao33, co33, eo33⟩ := Kd.R_slice HO_7.out; subst eo33; go_wp2
          go_loopg [11] k2 (fun kq v11 w' => ∃ (x11_3 : Int), v11 = .int .i64 x11_3 ∧ Aside0 (l7_GraphTree.l1 kq l0 t103 t107 x9_2 x11_3 = some r) ∧ Aside0 (kq ≤ k2) ∧ Aside0 (Kd.R (Kd.int .i64) 3 w' w.heap.size (fun k_ => some k_ ≠ (v116 : Value).ownBlock) v105 t103) ∧ Aside0 (Kd.R Kd.bool 4 w' w.heap.size (fun _ => True) v109 t107) ∧ Aside0 (Kd.R (Kd.int .i64) 3 w' w.heap.size (fun k_ => some k_ ≠ (v105 : Value).ownBlock) v116 x9_2) ∧ Aside0 (Below w.heap.size w w'))
          case atStart => exact ⟨(0), (by first | rfl | (simp; done) | (simp [*]; done)), H', ⟨Nat.le_refl _⟩, ⟨by (with_reducible repeat (first | apply Kd.R_alloc | apply Kd.R_drewN | apply Kd.R_drew)); exact Kd.R_mono HO_3.out (fun _ hk => hk.2)⟩, ⟨by (with_reducible repeat (first | apply Kd.R_alloc | apply Kd.R_drewN | apply Kd.R_drew)); exact HO_5.out⟩, ⟨by (with_reducible repeat (first | apply Kd.R_alloc | apply Kd.R_drewN | apply Kd.R_drew)); exact Kd.R_mono HO_9.out (fun _ hk => hk.1)⟩, ⟨by repeat (first | (with_reducible first | exact HB.out | apply below_alloc | apply pw_below_drewN | apply below_drew1) | exact HB.out)⟩⟩
          case round =>
           clear H'; try clear c1
           try clear p1
           try clear q1
           try clear hx1
           try clear c2
           try clear p2
           try clear q2
           try clear hx2
           try clear hf2
           try clear c3
           try clear c4
           try clear p6
           try clear c11
           try clear c11b0
           try clear c11b1
           try clear p11
           try clear q11
           try clear hx11
           try clear c12
           try clear c12b0
           try clear c12b1
           try clear c12b2
           try clear p12
           try clear q12
           try clear hx12
           try clear c16
           try clear c17
           try clear c17b0
           try clear c17b1
           try clear c18
           try clear c18b0
           try clear c18b1
           try clear c21
           try clear c21b0
           try clear c22
           try clear c22b0
           try clear c23
           try clear c23b0
           try clear c25
           try clear c25b0
           try clear c26
           try clear c27
           try clear c27b0
           try clear c28
           try clear c28b0
           try clear c29
           try clear p29
           try clear q29
           try clear hx29
           try clear hf29
           try clear hx118_0
           try clear hx119_0
           try clear hx120_0
           try clear hx29_0
           try clear p118
           try clear p119
           try clear p120
           try clear p2
           try clear p29
           try clear q118
           try clear q119
           try clear q120
           try clear q29
           obtain ⟨x11_3, rfl, HA, HK3, HO_3, HO_5, HO_9, HB⟩ := hrel; cases gk with
           | zero => exact absurd HA.out (by simp [l7_GraphTree.l1])
           | succ k3 =>
            have H := HA.out; clear HA; simp only [l7_GraphTree.l1] at H
            by_cases c34 : x11_3 < (l0.length : Int)
            ·rw [if_pos c34] at H; have c34b0 : decide (x11_3 < (l0.length : Int)) = true := decide_eq_true c34
             clear c34; have HC35 := Aside0.mk H; clear H; go_upto_region 18 with (fail)
             go_cut [109] (fun vc109 wc => ∃ (kq : Nat) (x109_34 : Bool), vc109 = .bool x109_34 ∧ Aside0 (l7_GraphTree.j3 kq l0 t103 t107 x9_2 x11_3 x109_34 = some r) ∧ Aside0 (kq ≤ k3) ∧ Aside0 (Kd.R (Kd.int .i64) 3 wc w.heap.size (fun k_ => some k_ ≠ (v116 : Value).ownBlock) v105 t103) ∧ Aside0 (Kd.R Kd.bool 4 wc w.heap.size (fun _ => True) v109 t107) ∧ Aside0 (Kd.R (Kd.int .i64) 3 wc w.heap.size (fun k_ => some k_ ≠ (v105 : Value).ownBlock) v116 x9_2) ∧ Aside0 (Below w.heap.size w wc))
             case first =>
              have H := HC35.out; clear HC35; by_cases c36 : 0 ≤ x11_3
              ·rw [if_pos c36] at H; have c36b0 : decide (0 ≤ x11_3) = true := decide_eq_true c36
               clear c36; (first | rw [c36b0] | (simp only [i64_w, i32_w]; rw [c36b0]) | skip)
               by_cases c37 : x11_3 < (t107.length : Int)
               ·rw [if_pos c37] at H; have c37b0 : decide (x11_3 < (t107.length : Int)) = true := decide_eq_true c37
                clear c37; by_cases c38 : x11_3 = 0
                ·rw [if_pos c38] at H; have c38b0 : (x11_3 == 0) = true := beq_iff_eq.mpr c38
                 have c38b1 : (x11_3 != 0) = false := bne_eq_false_iff_eq.mpr c38
                 clear c38; by_cases c39 : ((rdOf false t107 x11_3) != true) = true
                 ·rw [if_pos c39] at H; have c39b0 : ((rdOf false t107 x11_3) != true) = true := c39
                  (try (have c39b1 : decide ((rdOf false t107 x11_3) = true) = false := by simpa using c39))
                  (try (have c39b2 : ((rdOf false t107 x11_3) == true) = false := by simpa using c39))
                  (try (have c39b3 : ¬ ((rdOf false t107 x11_3) = true) := by simpa using c39))
                  clear c39; have H' := Aside0.mk H
                  clear H; try go_wp2
                  have n0_ := Aside0.mk (Kd.R_drew HO_3.out); have n1_ := Aside0.mk (Kd.R_drew HO_5.out); have n2_ := Aside0.mk (Kd.R_drew HO_9.out); have n3_ := Aside0.mk (below_drew1 HB.out); clear HO_3; clear HO_5; clear HO_9; clear HB; have HO_3 := n0_; have HO_5 := n1_; have HO_9 := n2_; have HB := n3_; clear n0_ n1_ n2_ n3_; obtain ⟨Ao41, co41, eo41⟩ := Kd.R_slice HO_5.out; (first | subst eo41 | (injection eo41 with f1_ f2_ f3_; have f4_ := f1_.symm; have f5_ := f3_.symm; clear f1_ f2_ f3_; subst f4_; subst f5_))
                  have p122 : 0 ≤ (x11_3 : Int) := of_decide_eq_true (by with_reducible assumption)
                  have q122 : x11_3 < (t107.length : Int) := of_decide_eq_true (by with_reducible assumption)
                  obtain ⟨ad122, e122, hx122_0⟩ := Kd.at_bool (Kd.R_reads' HO_5.out).2.2 x11_3 p122 q122; cases e122; replace p122 := eq_true p122; replace q122 := eq_true q122; as_aux_lemma =>
                   refine start_ (n := 24) (S := fun w' => w'.cell? (ad122.add (x11_3).toNat) = some (.bool (rdOf false t107 x11_3))) (ds := []) b24_0 (by kernel_rfl) rfl rfl (hx122_0) (fun hHeld => ?_); refine with_tabW l7_GraphTree.tab18 l7_GraphTree.bits18 (fun HT_ HW_ => ?_)
                   generalize wr.drew = w40 at HO_3 HO_5 HO_9 HB hx122_0 hHeld ⊢
                   refine pv_ 0 86 b24_1 rfl rfl HT_ ?_
                   refine pv_ 1 87 b24_2 rfl rfl HT_ ?_
                   refine pv_ 2 88 b24_3 rfl rfl HT_ ?_
                   refine pv_ 4 90 b24_4 rfl rfl HT_ ?_
                   refine pv_ 5 91 b24_5 rfl rfl HT_ ?_
                   refine pv_ 6 92 b24_6 rfl rfl HT_ ?_
                   refine pu_ 7 93 b24_7 rfl rfl HT_ ?_
                   refine pu_ 8 94 b24_8 rfl rfl HT_ ?_
                   refine pu_ 9 95 b24_9 rfl rfl HT_ ?_
                   refine pu_ 10 96 b24_10 rfl rfl HT_ ?_
                   refine pu_ 11 97 b24_11 rfl rfl HT_ ?_
                   refine pv_ 12 98 b24_12 rfl rfl HT_ ?_
                   refine tk_ 3 89 b24_13 rfl rfl HT_ HW_ hHeld ?_
                   refine pv_ 13 99 b24_14 rfl rfl HT_ ?_
                   refine pv_ 14 100 b24_15 rfl rfl HT_ ?_
                   refine pu_ 15 101 b24_16 rfl rfl HT_ ?_
                   refine pu_ 16 102 b24_17 rfl rfl HT_ ?_
                   refine pu_ 17 103 b24_18 rfl rfl HT_ ?_
                   refine pu_ 18 104 b24_19 rfl rfl HT_ ?_
                   refine pu_ 19 105 b24_20 rfl rfl HT_ ?_
                   refine pu_ 20 106 b24_21 rfl rfl HT_ ?_
                   refine pu_ 21 107 b24_22 rfl rfl HT_ ?_
                   refine pu_ 22 108 b24_23 rfl rfl HT_ ?_
                   refine pv_ 23 109 b24_24 rfl rfl HT_ ?_
                   refine done_ (done_of HT_.out (by kernel_rfl)) ?_
                   try go_wp2
                   go_meet
                   case rel => exact ⟨_, (true), (by first | rfl | (simp; done) | (simp [*]; done)), H', ⟨by have := HJ6.out; have := HK2.out; have := HK3.out; first | omega | exact Nat.le_refl _⟩, ⟨by (with_reducible repeat (first | apply Kd.R_alloc | apply Kd.R_drewN | apply Kd.R_drew)); exact HO_3.out⟩, ⟨by (with_reducible repeat (first | apply Kd.R_alloc | apply Kd.R_drewN | apply Kd.R_drew)); exact HO_5.out⟩, ⟨by (with_reducible repeat (first | apply Kd.R_alloc | apply Kd.R_drewN | apply Kd.R_drew)); exact HO_9.out⟩, ⟨by repeat (first | (with_reducible first | exact HB.out | apply below_alloc | apply pw_below_drewN | apply below_drew1) | exact HB.out)⟩⟩
                 ·rw [if_neg c39] at H; have c39b0 : ((rdOf false t107 x11_3) != true) = false := by simpa using c39
                  (try (have c39b1 : decide ((rdOf false t107 x11_3) = true) = true := by simpa using c39))
                  (try (have c39b2 : ((rdOf false t107 x11_3) == true) = true := by simpa using c39))
                  clear c39; replace H := Option.bind_eq_some_iff.mp H; obtain ⟨t124, A420, H⟩ := H; replace H : (l7_GraphTree.j3 k3 l0 t103 t107 x9_2 x11_3 ((rdOf false t107 x11_3) != t124)) = some r := H; have A42 := Aside0.mk A420; clear A420; have H' := Aside0.mk H
                  clear H; try go_wp2
                  have n0_ := Aside0.mk (Kd.R_drew HO_3.out); have n1_ := Aside0.mk (Kd.R_drew HO_5.out); have n2_ := Aside0.mk (Kd.R_drew HO_9.out); have n3_ := Aside0.mk (below_drew1 HB.out); clear HO_3; clear HO_5; clear HO_9; clear HB; have HO_3 := n0_; have HO_5 := n1_; have HO_9 := n2_; have HB := n3_; clear n0_ n1_ n2_ n3_; obtain ⟨Ao44, co44, eo44⟩ := Kd.R_slice HO_5.out; (first | subst eo44 | (injection eo44 with f1_ f2_ f3_; have f4_ := f1_.symm; have f5_ := f3_.symm; clear f1_ f2_ f3_; subst f4_; subst f5_))
                  have p122 : 0 ≤ (x11_3 : Int) := of_decide_eq_true (by with_reducible assumption)
                  have q122 : x11_3 < (t107.length : Int) := of_decide_eq_true (by with_reducible assumption)
                  obtain ⟨ad122, e122, hx122_0⟩ := Kd.at_bool (Kd.R_reads' HO_5.out).2.2 x11_3 p122 q122; cases e122; replace p122 := eq_true p122; replace q122 := eq_true q122; have p123 : 0 ≤ (x11_3 : Int) := of_decide_eq_true (by with_reducible assumption)
                  have q123 : x11_3 < (t107.length : Int) := of_decide_eq_true (by with_reducible assumption)
                  obtain ⟨ad123, e123, hx123_0⟩ := Kd.at_bool (Kd.R_reads' HO_5.out).2.2 x11_3 p123 q123; obtain rfl : ad122 = ad123 := (by injection e123)
                  replace p123 := eq_true p123; replace q123 := eq_true q123; obtain ⟨Ao45, co45, eo45⟩ := Kd.R_slice HO_3.out; (first | subst eo45 | (injection eo45 with f1_ f2_ f3_; have f4_ := f1_.symm; have f5_ := f3_.symm; clear f1_ f2_ f3_; subst f4_; subst f5_))
                  as_aux_lemma =>
                   refine start_ (n := 24) (S := fun w' => w'.cell? (ad122.add (x11_3).toNat) = some (.bool (rdOf false t107 x11_3)) ∧ w'.cell? (ad122.add (x11_3).toNat) = some (.bool (rdOf false t107 x11_3))) (ds := []) b24_0 (by kernel_rfl) rfl rfl ⟨hx122_0, hx123_0⟩ (fun hHeld => ?_); refine with_tabW l7_GraphTree.tab18 l7_GraphTree.bits18 (fun HT_ HW_ => ?_)
                   generalize wr.drew = w43 at HO_3 HO_5 HO_9 HB hx122_0 hx123_0 hHeld ⊢
                   refine pv_ 0 86 b24_1 rfl rfl HT_ ?_
                   refine pv_ 1 87 b24_2 rfl rfl HT_ ?_
                   refine pv_ 2 88 b24_3 rfl rfl HT_ ?_
                   refine pv_ 4 90 b24_4 rfl rfl HT_ ?_
                   refine pv_ 5 91 b24_5 rfl rfl HT_ ?_
                   refine pv_ 6 92 b24_6 rfl rfl HT_ ?_
                   refine pu_ 7 93 b24_7 rfl rfl HT_ ?_
                   refine pu_ 8 94 b24_8 rfl rfl HT_ ?_
                   refine pu_ 9 95 b24_9 rfl rfl HT_ ?_
                   refine pu_ 10 96 b24_10 rfl rfl HT_ ?_
                   refine pu_ 11 97 b24_11 rfl rfl HT_ ?_
                   refine pv_ 12 98 b24_12 rfl rfl HT_ ?_
                   refine take_ (i := 3) (N := some 89) (v := ?_) (a' := ?_) b24_13 rfl rfl (take_ofW HT_.out HW_.out (by kernel_rfl)) (fun _ _ _ h => h) (Or.inl ⟨by rfl, ?_⟩) hHeld ?_ ?_
                   rotate_left
                   ·rintro w' ⟨s0, s1⟩
                    go_simp
                    with_reducible rfl
                   rotate_left
                   ·simp only [Act.put, List.setIfInBounds_toArray, List.set_cons_zero, List.set_cons_succ, i64_w, i32_w]
                    rfl
                   refine pv_ 13 99 b24_14 rfl rfl HT_ ?_
                   refine pv_ 14 100 b24_15 rfl rfl HT_ ?_
                   refine pv_ 15 101 b24_16 rfl rfl HT_ ?_
                   refine pv_ 16 102 b24_17 rfl rfl HT_ ?_
                   refine pv_ 17 103 b24_18 rfl rfl HT_ ?_
                   refine pv_ 19 105 b24_25 rfl rfl HT_ ?_
                   refine pv_ 20 106 b24_26 rfl rfl HT_ ?_
                   refine take_ (i := 18) (N := some 104) (v := ?_) (a' := ?_) b24_21 rfl rfl (take_ofW HT_.out HW_.out (by kernel_rfl)) (fun _ _ _ h => h) (Or.inl ⟨by rfl, ?_⟩) hHeld ?_ ?_
                   rotate_left
                   ·rintro w' ⟨s0, s1⟩
                    go_simp
                    with_reducible rfl
                   rotate_left
                   ·simp only [Act.put, List.setIfInBounds_toArray, List.set_cons_zero, List.set_cons_succ, i64_w, i32_w]
                    rfl
                   refine one_ (i := 21) (N := some 107) b24_22 rfl rfl (one_of HT_.out (by kernel_rfl)) (by decide) (fun K hK => ?_)
                   refine goes_ Try.func46 (by kernel_rfl) rfl #[.slice Ao45 t103.length co45, .int .i64 0, .int .i64 x11_3] (by rfl) rfl rfl (by (try simp only [List.map_toArray, List.map_cons, List.map_nil]); first | done | rfl | (simp only [List.length_drop, List.length_take]; rfl)) ?_
                   with_reducible refine (l7_above.calls k3 _ _ t103 0 x11_3 t124 _ ?side1 ?side2 A42.out).mono ?_
                   (case side1 => repeat (first | exact (Kd.R_reads' HO_3.out).2.2 | with_reducible first | refine Kd.C_alloc ?_ _ | refine Kd.C_drewN ?_ _ | refine Kd.C_drew ?_))
                   (case side2 => exact (Kd.R_reads' HO_3.out).2.1)
                   rintro e w' ⟨rfl, ⟨nd, rfl⟩⟩
                   refine ⟨_, rfl, ?_⟩
                   refine hK.out _ _ ⟨hHeld.1, hHeld.2⟩ (fun hHeld => ?_)
                   clear hK K; refine norm_ (a' := ?_) ?_ ?_
                   rotate_left
                   ·show Act.put _ (some 107) _ = _
                    simp only [Act.put, List.setIfInBounds_toArray, List.set_cons_zero, List.set_cons_succ, i64_w, i32_w]
                    rfl
                   refine pv_ 22 108 b24_23 rfl rfl HT_ ?_
                   refine pv_ 23 109 b24_24 rfl rfl HT_ ?_
                   refine done_ (done_of HT_.out (by kernel_rfl)) ?_
                   try go_wp2
                   go_meet
                   case rel => exact ⟨_, (((rdOf false t107 x11_3) != t124)), (by first | rfl | (simp; done) | (simp [*]; done)), H', ⟨by have := HJ6.out; have := HK2.out; have := HK3.out; first | omega | exact Nat.le_refl _⟩, ⟨by (with_reducible repeat (first | apply Kd.R_alloc | apply Kd.R_drewN | apply Kd.R_drew)); exact HO_3.out⟩, ⟨by (with_reducible repeat (first | apply Kd.R_alloc | apply Kd.R_drewN | apply Kd.R_drew)); exact HO_5.out⟩, ⟨by (with_reducible repeat (first | apply Kd.R_alloc | apply Kd.R_drewN | apply Kd.R_drew)); exact HO_9.out⟩, ⟨by repeat (first | (with_reducible first | exact HB.out | apply below_alloc | apply pw_below_drewN | apply below_drew1) | exact HB.out)⟩⟩
                ·rw [if_neg c38] at H; have c38b0 : (x11_3 == 0) = false := beq_eq_false_iff_ne.mpr c38
                 have c38b1 : (x11_3 != 0) = true := bne_iff_ne.mpr c38
                 by_cases c46 : x11_3 < (t103.length : Int)
                 ·rw [if_pos c46] at H; have c46b0 : decide (x11_3 < (t103.length : Int)) = true := decide_eq_true c46
                  clear c46; by_cases c47 : ((rdOf false t107 x11_3) != (decide ((rd t103 x11_3) ≥ 0))) = true
                  ·rw [if_pos c47] at H; have c47b0 : ((rdOf false t107 x11_3) != (decide ((rd t103 x11_3) ≥ 0))) = true := c47
                   (try (have c47b1 : decide ((rdOf false t107 x11_3) = (decide ((rd t103 x11_3) ≥ 0))) = false := by simpa using c47))
                   (try (have c47b2 : ((rdOf false t107 x11_3) == (decide ((rd t103 x11_3) ≥ 0))) = false := by simpa using c47))
                   (try (have c47b3 : ¬ ((rdOf false t107 x11_3) = (decide ((rd t103 x11_3) ≥ 0))) := by simpa using c47))
                   clear c47; have H' := Aside0.mk H
                   clear H; try go_wp2
                   have n0_ := Aside0.mk (Kd.R_drew HO_3.out); have n1_ := Aside0.mk (Kd.R_drew HO_5.out); have n2_ := Aside0.mk (Kd.R_drew HO_9.out); have n3_ := Aside0.mk (below_drew1 HB.out); clear HO_3; clear HO_5; clear HO_9; clear HB; have HO_3 := n0_; have HO_5 := n1_; have HO_9 := n2_; have HB := n3_; clear n0_ n1_ n2_ n3_; obtain ⟨Ao49, co49, eo49⟩ := Kd.R_slice HO_5.out; (first | subst eo49 | (injection eo49 with f1_ f2_ f3_; have f4_ := f1_.symm; have f5_ := f3_.symm; clear f1_ f2_ f3_; subst f4_; subst f5_))
                   have p122 : 0 ≤ (x11_3 : Int) := of_decide_eq_true (by with_reducible assumption)
                   have q122 : x11_3 < (t107.length : Int) := of_decide_eq_true (by with_reducible assumption)
                   obtain ⟨ad122, e122, hx122_0⟩ := Kd.at_bool (Kd.R_reads' HO_5.out).2.2 x11_3 p122 q122; cases e122; replace p122 := eq_true p122; replace q122 := eq_true q122; obtain ⟨Ao50, co50, eo50⟩ := Kd.R_slice HO_3.out; (first | subst eo50 | (injection eo50 with f1_ f2_ f3_; have f4_ := f1_.symm; have f5_ := f3_.symm; clear f1_ f2_ f3_; subst f4_; subst f5_))
                   have p125 : 0 ≤ (x11_3 : Int) := of_decide_eq_true (by with_reducible assumption)
                   have q125 : x11_3 < (t103.length : Int) := of_decide_eq_true (by with_reducible assumption)
                   obtain ⟨ad125, e125, hx125_0⟩ := Kd.at_int (Kd.R_reads' HO_3.out).2.2 x11_3 p125 q125; cases e125; replace p125 := eq_true p125; replace q125 := eq_true q125; as_aux_lemma =>
                    refine start_ (n := 24) (S := fun w' => w'.cell? (ad122.add (x11_3).toNat) = some (.bool (rdOf false t107 x11_3)) ∧ w'.cell? (ad125.add (x11_3).toNat) = some (.int .i64 (rd t103 x11_3))) (ds := []) b24_0 (by kernel_rfl) rfl rfl ⟨hx122_0, hx125_0⟩ (fun hHeld => ?_); refine with_tabW l7_GraphTree.tab18 l7_GraphTree.bits18 (fun HT_ HW_ => ?_)
                    generalize wr.drew = w48 at HO_3 HO_5 HO_9 HB hx122_0 hx125_0 hHeld ⊢
                    refine pv_ 0 86 b24_1 rfl rfl HT_ ?_
                    refine pv_ 1 87 b24_2 rfl rfl HT_ ?_
                    refine pv_ 2 88 b24_3 rfl rfl HT_ ?_
                    refine pv_ 4 90 b24_4 rfl rfl HT_ ?_
                    refine pv_ 5 91 b24_5 rfl rfl HT_ ?_
                    refine pv_ 6 92 b24_6 rfl rfl HT_ ?_
                    refine pv_ 7 93 b24_7 rfl rfl HT_ ?_
                    refine pv_ 8 94 b24_8 rfl rfl HT_ ?_
                    refine pv_ 9 95 b24_9 rfl rfl HT_ ?_
                    refine take_ (i := 3) (N := some 89) (v := ?_) (a' := ?_) b24_27 rfl rfl (take_ofW HT_.out HW_.out (by kernel_rfl)) (fun _ _ _ h => h) (Or.inl ⟨by rfl, ?_⟩) hHeld ?_ ?_
                    rotate_left
                    ·rintro w' ⟨s0, s1⟩
                     go_simp
                     with_reducible rfl
                    rotate_left
                    ·simp only [Act.put, List.setIfInBounds_toArray, List.set_cons_zero, List.set_cons_succ, i64_w, i32_w]
                     rfl
                    refine take_ (i := 10) (N := some 96) (v := ?_) (a' := ?_) b24_28 rfl rfl (take_ofW HT_.out HW_.out (by kernel_rfl)) (fun _ _ _ h => h) (Or.inl ⟨by rfl, ?_⟩) hHeld ?_ ?_
                    rotate_left
                    ·rintro w' ⟨s0, s1⟩
                     go_simp
                     with_reducible rfl
                    rotate_left
                    ·simp only [Act.put, List.setIfInBounds_toArray, List.set_cons_zero, List.set_cons_succ, i64_w, i32_w]
                     rfl
                    refine pv_ 11 97 b24_29 rfl rfl HT_ ?_
                    refine pv_ 12 98 b24_13 rfl rfl HT_ ?_
                    refine pv_ 13 99 b24_14 rfl rfl HT_ ?_
                    refine pv_ 14 100 b24_15 rfl rfl HT_ ?_
                    refine pu_ 15 101 b24_16 rfl rfl HT_ ?_
                    refine pu_ 16 102 b24_17 rfl rfl HT_ ?_
                    refine pu_ 17 103 b24_18 rfl rfl HT_ ?_
                    refine pu_ 18 104 b24_19 rfl rfl HT_ ?_
                    refine pu_ 19 105 b24_20 rfl rfl HT_ ?_
                    refine pu_ 20 106 b24_21 rfl rfl HT_ ?_
                    refine pu_ 21 107 b24_22 rfl rfl HT_ ?_
                    refine pu_ 22 108 b24_23 rfl rfl HT_ ?_
                    refine pv_ 23 109 b24_24 rfl rfl HT_ ?_
                    refine done_ (done_of HT_.out (by kernel_rfl)) ?_
                    try go_wp2
                    go_meet
                    case rel => exact ⟨_, (true), (by first | rfl | (simp; done) | (simp [*]; done)), H', ⟨by have := HJ6.out; have := HK2.out; have := HK3.out; first | omega | exact Nat.le_refl _⟩, ⟨by (with_reducible repeat (first | apply Kd.R_alloc | apply Kd.R_drewN | apply Kd.R_drew)); exact HO_3.out⟩, ⟨by (with_reducible repeat (first | apply Kd.R_alloc | apply Kd.R_drewN | apply Kd.R_drew)); exact HO_5.out⟩, ⟨by (with_reducible repeat (first | apply Kd.R_alloc | apply Kd.R_drewN | apply Kd.R_drew)); exact HO_9.out⟩, ⟨by repeat (first | (with_reducible first | exact HB.out | apply below_alloc | apply pw_below_drewN | apply below_drew1) | exact HB.out)⟩⟩
                  ·rw [if_neg c47] at H; have c47b0 : ((rdOf false t107 x11_3) != (decide ((rd t103 x11_3) ≥ 0))) = false := by simpa using c47
                   (try (have c47b1 : decide ((rdOf false t107 x11_3) = (decide ((rd t103 x11_3) ≥ 0))) = true := by simpa using c47))
                   (try (have c47b2 : ((rdOf false t107 x11_3) == (decide ((rd t103 x11_3) ≥ 0))) = true := by simpa using c47))
                   clear c47; replace H := Option.bind_eq_some_iff.mp H; obtain ⟨t127, A510, H⟩ := H; replace H : (l7_GraphTree.j3 k3 l0 t103 t107 x9_2 x11_3 ((rdOf false t107 x11_3) != t127)) = some r := H; have A51 := Aside0.mk A510; clear A510; have H' := Aside0.mk H
                   clear H; try go_wp2
                   have n0_ := Aside0.mk (Kd.R_drew HO_3.out); have n1_ := Aside0.mk (Kd.R_drew HO_5.out); have n2_ := Aside0.mk (Kd.R_drew HO_9.out); have n3_ := Aside0.mk (below_drew1 HB.out); clear HO_3; clear HO_5; clear HO_9; clear HB; have HO_3 := n0_; have HO_5 := n1_; have HO_9 := n2_; have HB := n3_; clear n0_ n1_ n2_ n3_; obtain ⟨Ao53, co53, eo53⟩ := Kd.R_slice HO_5.out; (first | subst eo53 | (injection eo53 with f1_ f2_ f3_; have f4_ := f1_.symm; have f5_ := f3_.symm; clear f1_ f2_ f3_; subst f4_; subst f5_))
                   have p122 : 0 ≤ (x11_3 : Int) := of_decide_eq_true (by with_reducible assumption)
                   have q122 : x11_3 < (t107.length : Int) := of_decide_eq_true (by with_reducible assumption)
                   obtain ⟨ad122, e122, hx122_0⟩ := Kd.at_bool (Kd.R_reads' HO_5.out).2.2 x11_3 p122 q122; cases e122; replace p122 := eq_true p122; replace q122 := eq_true q122; obtain ⟨Ao54, co54, eo54⟩ := Kd.R_slice HO_3.out; (first | subst eo54 | (injection eo54 with f1_ f2_ f3_; have f4_ := f1_.symm; have f5_ := f3_.symm; clear f1_ f2_ f3_; subst f4_; subst f5_))
                   have p125 : 0 ≤ (x11_3 : Int) := of_decide_eq_true (by with_reducible assumption)
                   have q125 : x11_3 < (t103.length : Int) := of_decide_eq_true (by with_reducible assumption)
                   obtain ⟨ad125, e125, hx125_0⟩ := Kd.at_int (Kd.R_reads' HO_3.out).2.2 x11_3 p125 q125; cases e125; replace p125 := eq_true p125; replace q125 := eq_true q125; have p126 : 0 ≤ (x11_3 : Int) := of_decide_eq_true (by with_reducible assumption)
                   have q126 : x11_3 < (t107.length : Int) := of_decide_eq_true (by with_reducible assumption)
                   obtain ⟨ad126, e126, hx126_0⟩ := Kd.at_bool (Kd.R_reads' HO_5.out).2.2 x11_3 p126 q126; obtain rfl : ad122 = ad126 := (by injection e126)
                   replace p126 := eq_true p126; replace q126 := eq_true q126; as_aux_lemma =>
                    refine start_ (n := 24) (S := fun w' => w'.cell? (ad122.add (x11_3).toNat) = some (.bool (rdOf false t107 x11_3)) ∧ w'.cell? (ad125.add (x11_3).toNat) = some (.int .i64 (rd t103 x11_3)) ∧ w'.cell? (ad122.add (x11_3).toNat) = some (.bool (rdOf false t107 x11_3))) (ds := []) b24_0 (by kernel_rfl) rfl rfl ⟨hx122_0, hx125_0, hx126_0⟩ (fun hHeld => ?_); refine with_tabW l7_GraphTree.tab18 l7_GraphTree.bits18 (fun HT_ HW_ => ?_)
                    generalize wr.drew = w52 at HO_3 HO_5 HO_9 HB hx122_0 hx125_0 hx126_0 hHeld ⊢
                    refine pv_ 0 86 b24_1 rfl rfl HT_ ?_
                    refine pv_ 1 87 b24_2 rfl rfl HT_ ?_
                    refine pv_ 2 88 b24_3 rfl rfl HT_ ?_
                    refine pv_ 4 90 b24_4 rfl rfl HT_ ?_
                    refine pv_ 5 91 b24_5 rfl rfl HT_ ?_
                    refine pv_ 6 92 b24_6 rfl rfl HT_ ?_
                    refine pv_ 7 93 b24_7 rfl rfl HT_ ?_
                    refine pv_ 8 94 b24_8 rfl rfl HT_ ?_
                    refine pv_ 9 95 b24_9 rfl rfl HT_ ?_
                    refine take_ (i := 3) (N := some 89) (v := ?_) (a' := ?_) b24_27 rfl rfl (take_ofW HT_.out HW_.out (by kernel_rfl)) (fun _ _ _ h => h) (Or.inl ⟨by rfl, ?_⟩) hHeld ?_ ?_
                    rotate_left
                    ·rintro w' ⟨s0, s1, s2⟩
                     go_simp
                     with_reducible rfl
                    rotate_left
                    ·simp only [Act.put, List.setIfInBounds_toArray, List.set_cons_zero, List.set_cons_succ, i64_w, i32_w]
                     rfl
                    refine take_ (i := 10) (N := some 96) (v := ?_) (a' := ?_) b24_28 rfl rfl (take_ofW HT_.out HW_.out (by kernel_rfl)) (fun _ _ _ h => h) (Or.inl ⟨by rfl, ?_⟩) hHeld ?_ ?_
                    rotate_left
                    ·rintro w' ⟨s0, s1, s2⟩
                     go_simp
                     with_reducible rfl
                    rotate_left
                    ·simp only [Act.put, List.setIfInBounds_toArray, List.set_cons_zero, List.set_cons_succ, i64_w, i32_w]
                     rfl
                    refine pv_ 11 97 b24_29 rfl rfl HT_ ?_
                    refine pv_ 12 98 b24_13 rfl rfl HT_ ?_
                    refine pv_ 13 99 b24_14 rfl rfl HT_ ?_
                    refine pv_ 14 100 b24_15 rfl rfl HT_ ?_
                    refine pv_ 15 101 b24_16 rfl rfl HT_ ?_
                    refine pv_ 16 102 b24_17 rfl rfl HT_ ?_
                    refine pv_ 17 103 b24_18 rfl rfl HT_ ?_
                    refine pv_ 19 105 b24_25 rfl rfl HT_ ?_
                    refine pv_ 20 106 b24_26 rfl rfl HT_ ?_
                    refine take_ (i := 18) (N := some 104) (v := ?_) (a' := ?_) b24_21 rfl rfl (take_ofW HT_.out HW_.out (by kernel_rfl)) (fun _ _ _ h => h) (Or.inl ⟨by rfl, ?_⟩) hHeld ?_ ?_
                    rotate_left
                    ·rintro w' ⟨s0, s1, s2⟩
                     go_simp
                     with_reducible rfl
                    rotate_left
                    ·simp only [Act.put, List.setIfInBounds_toArray, List.set_cons_zero, List.set_cons_succ, i64_w, i32_w]
                     rfl
                    refine one_ (i := 21) (N := some 107) b24_22 rfl rfl (one_of HT_.out (by kernel_rfl)) (by decide) (fun K hK => ?_)
                    refine goes_ Try.func46 (by kernel_rfl) rfl #[.slice (some ad125) t103.length co54, .int .i64 0, .int .i64 x11_3] (by rfl) rfl rfl (by (try simp only [List.map_toArray, List.map_cons, List.map_nil]); first | done | rfl | (simp only [List.length_drop, List.length_take]; rfl)) ?_
                    with_reducible refine (l7_above.calls k3 _ _ t103 0 x11_3 t127 _ ?side1 ?side2 A51.out).mono ?_
                    (case side1 => repeat (first | exact (Kd.R_reads' HO_3.out).2.2 | with_reducible first | refine Kd.C_alloc ?_ _ | refine Kd.C_drewN ?_ _ | refine Kd.C_drew ?_))
                    (case side2 => exact (Kd.R_reads' HO_3.out).2.1)
                    rintro e w' ⟨rfl, ⟨nd, rfl⟩⟩
                    refine ⟨_, rfl, ?_⟩
                    refine hK.out _ _ ⟨hHeld.1, hHeld.2.1, hHeld.2.2⟩ (fun hHeld => ?_)
                    clear hK K; refine norm_ (a' := ?_) ?_ ?_
                    rotate_left
                    ·show Act.put _ (some 107) _ = _
                     simp only [Act.put, List.setIfInBounds_toArray, List.set_cons_zero, List.set_cons_succ, i64_w, i32_w]
                     rfl
                    refine pv_ 22 108 b24_23 rfl rfl HT_ ?_
                    refine pv_ 23 109 b24_24 rfl rfl HT_ ?_
                    refine done_ (done_of HT_.out (by kernel_rfl)) ?_
                    try go_wp2
                    go_meet
                    case rel => exact ⟨_, (((rdOf false t107 x11_3) != t127)), (by first | rfl | (simp; done) | (simp [*]; done)), H', ⟨by have := HJ6.out; have := HK2.out; have := HK3.out; first | omega | exact Nat.le_refl _⟩, ⟨by (with_reducible repeat (first | apply Kd.R_alloc | apply Kd.R_drewN | apply Kd.R_drew)); exact HO_3.out⟩, ⟨by (with_reducible repeat (first | apply Kd.R_alloc | apply Kd.R_drewN | apply Kd.R_drew)); exact HO_5.out⟩, ⟨by (with_reducible repeat (first | apply Kd.R_alloc | apply Kd.R_drewN | apply Kd.R_drew)); exact HO_9.out⟩, ⟨by repeat (first | (with_reducible first | exact HB.out | apply below_alloc | apply pw_below_drewN | apply below_drew1) | exact HB.out)⟩⟩
                 ·rw [if_neg c46] at H; exact absurd H (by simp)
               ·rw [if_neg c37] at H; exact absurd H (by simp)
              ·rw [if_neg c36] at H; exact absurd H (by simp)
             case rest =>
              clear HC35; try clear p1
              try clear q1
              try clear hx1
              try clear p2
              try clear c3
              try clear c4
              try clear p12
              try clear q12
              try clear hx12
              try clear c36
              try clear c37
              try clear c38
              try clear c38b0
              try clear c38b1
              try clear c46
              try clear c46b0
              try clear c47
              try clear c47b0
              try clear c47b1
              try clear c47b2
              try clear hx122_0
              try clear hx125_0
              try clear hx126_0
              try clear p122
              try clear p125
              try clear p126
              try clear q122
              try clear q125
              try clear q126
              obtain ⟨kq, x109_34, rfl, HA, HJ34, HO_3, HO_5, HO_9, HB⟩ := hcut; cases kq with
              | zero => exact absurd HA.out (by simp [l7_GraphTree.j3])
              | succ kj34 =>
               have H := HA.out; clear HA; simp only [l7_GraphTree.j3] at H
               by_cases c55 : x109_34 = true
               ·subst c55; have H1 : (some false) = some r := by rw [if_pos rfl] at H; exact H
                clear H; have H := H1; clear H1; obtain rfl := Option.some.inj H; go_wp2
                go_ret
                exact ⟨by first | rfl | (simp [errW_none, errW_some] <;> rfl) | (simp [*, errW_none, errW_some] <;> rfl), by repeat (first | (with_reducible first | exact HB.out | apply below_alloc | apply pw_below_drewN | apply below_drew1) | exact HB.out)⟩
               ·replace c55 := Bool.eq_false_iff.mpr c55; subst c55; have H1 : (l7_GraphTree.l2 kj34 l0 t103 t107 x9_2 x11_3 0) = some r := by rw [if_neg (show ¬ (false = true) by decide)] at H; exact H
                clear H; have H := H1; clear H1; have H' := Aside0.mk H
                clear H; go_wp2
                go_loopg [12] kj34 (fun kq v12 w' => ∃ (x12_5 : Int), v12 = .int .i64 x12_5 ∧ Aside0 (l7_GraphTree.l2 kq l0 t103 t107 x9_2 x11_3 x12_5 = some r) ∧ Aside0 (kq ≤ kj34) ∧ Aside0 (Kd.R (Kd.int .i64) 3 w' w.heap.size (fun k_ => some k_ ≠ (v116 : Value).ownBlock) v105 t103) ∧ Aside0 (Kd.R Kd.bool 4 w' w.heap.size (fun _ => True) v109 t107) ∧ Aside0 (Kd.R (Kd.int .i64) 3 w' w.heap.size (fun k_ => some k_ ≠ (v105 : Value).ownBlock) v116 x9_2) ∧ Aside0 (Below w.heap.size w w'))
                case atStart => exact ⟨(0), (by first | rfl | (simp; done) | (simp [*]; done)), H', ⟨Nat.le_refl _⟩, ⟨by (with_reducible repeat (first | apply Kd.R_alloc | apply Kd.R_drewN | apply Kd.R_drew)); exact HO_3.out⟩, ⟨by (with_reducible repeat (first | apply Kd.R_alloc | apply Kd.R_drewN | apply Kd.R_drew)); exact HO_5.out⟩, ⟨by (with_reducible repeat (first | apply Kd.R_alloc | apply Kd.R_drewN | apply Kd.R_drew)); exact HO_9.out⟩, ⟨by repeat (first | (with_reducible first | exact HB.out | apply below_alloc | apply pw_below_drewN | apply below_drew1) | exact HB.out)⟩⟩
                case round =>
                 clear H'; try clear p1
                 try clear q1
                 try clear hx1
                 try clear p2
                 try clear c3
                 try clear c4
                 try clear c5
                 try clear p12
                 try clear q12
                 try clear hx12
                 try clear c36
                 try clear c37
                 try clear c38
                 try clear c38b0
                 try clear c38b1
                 try clear c46
                 try clear c46b0
                 try clear c47
                 try clear c47b0
                 try clear c47b1
                 try clear c47b2
                 try clear c55
                 try clear hx122_0
                 try clear hx125_0
                 try clear hx126_0
                 try clear p1
                 try clear p12
                 try clear p122
                 try clear p125
                 try clear p126
                 try clear p2
                 try clear q1
                 try clear q12
                 try clear q122
                 try clear q125
                 try clear q126
                 obtain ⟨x12_5, rfl, HA, HK5, HO_3, HO_5, HO_9, HB⟩ := hrel; cases gk with
                 | zero => exact absurd HA.out (by simp [l7_GraphTree.l2])
                 | succ k5 =>
                  have H := HA.out; clear HA; simp only [l7_GraphTree.l2] at H
                  by_cases c56 : x12_5 < (l0.length : Int)
                  ·rw [if_pos c56] at H; have c56b0 : decide (x12_5 < (l0.length : Int)) = true := decide_eq_true c56
                   clear c56; replace H := Option.bind_eq_some_iff.mp H; obtain ⟨⟨t128, t129⟩, A570, H⟩ := H; replace H : (if 0 ≤ x11_3 then (if x11_3 < (t107.length : Int) then (if rdOf false t107 x11_3 = true then (if 0 ≤ x12_5 then (if x12_5 < (t107.length : Int) then (if rdOf false t107 x12_5 = true then ((l7_above.f k5 t103 x11_3 x12_5).bind fun t132 => (if (t128 != t132) = true then (l7_GraphTree.j5 k5 l0 t103 t107 x9_2 x11_3 x12_5 true) else (if t128 = true then (if x11_3 = x12_5 then (l7_GraphTree.j5 k5 l0 t103 t107 x9_2 x11_3 x12_5 false) else (if x11_3 < (x9_2.length : Int) then (if x12_5 < (x9_2.length : Int) then (l7_GraphTree.j5 k5 l0 t103 t107 x9_2 x11_3 x12_5 (decide ((rd x9_2 x11_3) ≥ (rd x9_2 x12_5)))) else (none)) else (none))) else (l7_GraphTree.j5 k5 l0 t103 t107 x9_2 x11_3 x12_5 false)))) else (if (t128 != false) = true then (l7_GraphTree.j5 k5 l0 t103 t107 x9_2 x11_3 x12_5 true) else (if t128 = true then (if x11_3 = x12_5 then (l7_GraphTree.j5 k5 l0 t103 t107 x9_2 x11_3 x12_5 false) else (if x11_3 < (x9_2.length : Int) then (if x12_5 < (x9_2.length : Int) then (l7_GraphTree.j5 k5 l0 t103 t107 x9_2 x11_3 x12_5 (decide ((rd x9_2 x11_3) ≥ (rd x9_2 x12_5)))) else (none)) else (none))) else (l7_GraphTree.j5 k5 l0 t103 t107 x9_2 x11_3 x12_5 false)))) else (none)) else (none)) else (if (t128 != false) = true then (l7_GraphTree.j5 k5 l0 t103 t107 x9_2 x11_3 x12_5 true) else (if t128 = true then (if x11_3 = x12_5 then (l7_GraphTree.j5 k5 l0 t103 t107 x9_2 x11_3 x12_5 false) else (if x11_3 < (x9_2.length : Int) then (if 0 ≤ x12_5 then (if x12_5 < (x9_2.length : Int) then (l7_GraphTree.j5 k5 l0 t103 t107 x9_2 x11_3 x12_5 (decide ((rd x9_2 x11_3) ≥ (rd x9_2 x12_5)))) else (none)) else (none)) else (none))) else (l7_GraphTree.j5 k5 l0 t103 t107 x9_2 x11_3 x12_5 false)))) else (none)) else (none)) = some r := H
                   have A57 := Aside0.mk A570; clear A570; have HC58 := Aside0.mk H; clear H; go_upto_region 24 with (first | ((with_reducible refine gate_callee (f := 32) rfl ?_); refine goesL_ (some 120) rfl rfl Try.func32 (by kernel_rfl) rfl #[.slice A0 l0.length c0, .int .i64 x11_3, .int .i64 x12_5] rfl (by (try simp only [List.map_toArray, List.map_cons, List.map_nil]); first | done | rfl | (simp only [List.length_drop, List.length_take]; rfl)) ?_; (with_reducible refine (graph_Dominates.calls k5 _ _ l0 x11_3 x12_5 t128 t129 _ ?side1 ?side2 A57.out).mono ?_); (case side1 => repeat (first | exact (Kd.C_below HR0.out HB.out) | with_reducible first | refine Kd.C_alloc ?_ _ | refine Kd.C_drewN ?_ _ | refine Kd.C_drew ?_)); (case side2 => exact HC0.out); rintro e w59 ⟨rfl, hb⟩; refine ⟨_, rfl, ?_⟩; have n0_ := Aside0.mk (Kd.R_below (by (with_reducible repeat (first | apply Kd.R_alloc | apply Kd.R_drewN | apply Kd.R_drew)); exact HO_3.out) hb); have n1_ := Aside0.mk (Kd.R_below (by (with_reducible repeat (first | apply Kd.R_alloc | apply Kd.R_drewN | apply Kd.R_drew)); exact HO_5.out) hb); have n2_ := Aside0.mk (Kd.R_below (by (with_reducible repeat (first | apply Kd.R_alloc | apply Kd.R_drewN | apply Kd.R_drew)); exact HO_9.out) hb); have n3_ := Aside0.mk (below_step (by repeat (first | (with_reducible first | exact HB.out | apply below_alloc | apply pw_below_drewN | apply below_drew1) | exact HB.out)) hb); clear HO_3; clear HO_5; clear HO_9; clear HB; have HO_3 := n0_; have HO_5 := n1_; have HO_9 := n2_; have HB := n3_; clear n0_ n1_ n2_ n3_; (try clear hb); (try clear hb2); (try clear hk); (try clear hi)))
                   (try simp only [Act.put, List.setIfInBounds_toArray, List.set_cons_zero, List.set_cons_succ])
                   go_cut [159] (fun vc159 wc => ∃ (kq : Nat) (x159_57 : Bool), vc159 = .bool x159_57 ∧ Aside0 (l7_GraphTree.j5 kq l0 t103 t107 x9_2 x11_3 x12_5 x159_57 = some r) ∧ Aside0 (kq ≤ k5) ∧ Aside0 (Kd.R (Kd.int .i64) 3 wc w.heap.size (fun k_ => some k_ ≠ (v116 : Value).ownBlock) v105 t103) ∧ Aside0 (Kd.R Kd.bool 4 wc w.heap.size (fun _ => True) v109 t107) ∧ Aside0 (Kd.R (Kd.int .i64) 3 wc w.heap.size (fun k_ => some k_ ≠ (v105 : Value).ownBlock) v116 x9_2) ∧ Aside0 (Below w.heap.size w wc))
                   case first =>
                    have H := HC58.out; clear HC58; by_cases c60 : 0 ≤ x11_3
                    ·rw [if_pos c60] at H; have c60b0 : decide (0 ≤ x11_3) = true := decide_eq_true c60
                     clear c60; (first | rw [c60b0] | (simp only [i64_w, i32_w]; rw [c60b0]) | skip)
                     by_cases c61 : x11_3 < (t107.length : Int)
                     ·rw [if_pos c61] at H; have c61b0 : decide (x11_3 < (t107.length : Int)) = true := decide_eq_true c61
                      clear c61; obtain ⟨bq62, hbq62⟩ : ∃ b_ : Bool, b_ = (rdOf false t107 x11_3) := ⟨_, rfl⟩; replace H : (if bq62 = true then (if 0 ≤ x12_5 then (if x12_5 < (t107.length : Int) then (if rdOf false t107 x12_5 = true then ((l7_above.f k5 t103 x11_3 x12_5).bind fun t132 => (if (t128 != t132) = true then (l7_GraphTree.j5 k5 l0 t103 t107 x9_2 x11_3 x12_5 true) else (if t128 = true then (if x11_3 = x12_5 then (l7_GraphTree.j5 k5 l0 t103 t107 x9_2 x11_3 x12_5 false) else (if x11_3 < (x9_2.length : Int) then (if x12_5 < (x9_2.length : Int) then (l7_GraphTree.j5 k5 l0 t103 t107 x9_2 x11_3 x12_5 (decide ((rd x9_2 x11_3) ≥ (rd x9_2 x12_5)))) else (none)) else (none))) else (l7_GraphTree.j5 k5 l0 t103 t107 x9_2 x11_3 x12_5 false)))) else (if (t128 != false) = true then (l7_GraphTree.j5 k5 l0 t103 t107 x9_2 x11_3 x12_5 true) else (if t128 = true then (if x11_3 = x12_5 then (l7_GraphTree.j5 k5 l0 t103 t107 x9_2 x11_3 x12_5 false) else (if x11_3 < (x9_2.length : Int) then (if x12_5 < (x9_2.length : Int) then (l7_GraphTree.j5 k5 l0 t103 t107 x9_2 x11_3 x12_5 (decide ((rd x9_2 x11_3) ≥ (rd x9_2 x12_5)))) else (none)) else (none))) else (l7_GraphTree.j5 k5 l0 t103 t107 x9_2 x11_3 x12_5 false)))) else (none)) else (none)) else (if (t128 != false) = true then (l7_GraphTree.j5 k5 l0 t103 t107 x9_2 x11_3 x12_5 true) else (if t128 = true then (if x11_3 = x12_5 then (l7_GraphTree.j5 k5 l0 t103 t107 x9_2 x11_3 x12_5 false) else (if x11_3 < (x9_2.length : Int) then (if 0 ≤ x12_5 then (if x12_5 < (x9_2.length : Int) then (l7_GraphTree.j5 k5 l0 t103 t107 x9_2 x11_3 x12_5 (decide ((rd x9_2 x11_3) ≥ (rd x9_2 x12_5)))) else (none)) else (none)) else (none))) else (l7_GraphTree.j5 k5 l0 t103 t107 x9_2 x11_3 x12_5 false)))) = some r := by rw [← hbq62] at H; exact H
                      have Nbq62 := Aside0.mk hbq62; clear hbq62; by_cases c63 : bq62 = true
                      ·subst c63; have H1 : (if 0 ≤ x12_5 then (if x12_5 < (t107.length : Int) then (if rdOf false t107 x12_5 = true then ((l7_above.f k5 t103 x11_3 x12_5).bind fun t132 => (if (t128 != t132) = true then (l7_GraphTree.j5 k5 l0 t103 t107 x9_2 x11_3 x12_5 true) else (if t128 = true then (if x11_3 = x12_5 then (l7_GraphTree.j5 k5 l0 t103 t107 x9_2 x11_3 x12_5 false) else (if x11_3 < (x9_2.length : Int) then (if x12_5 < (x9_2.length : Int) then (l7_GraphTree.j5 k5 l0 t103 t107 x9_2 x11_3 x12_5 (decide ((rd x9_2 x11_3) ≥ (rd x9_2 x12_5)))) else (none)) else (none))) else (l7_GraphTree.j5 k5 l0 t103 t107 x9_2 x11_3 x12_5 false)))) else (if (t128 != false) = true then (l7_GraphTree.j5 k5 l0 t103 t107 x9_2 x11_3 x12_5 true) else (if t128 = true then (if x11_3 = x12_5 then (l7_GraphTree.j5 k5 l0 t103 t107 x9_2 x11_3 x12_5 false) else (if x11_3 < (x9_2.length : Int) then (if x12_5 < (x9_2.length : Int) then (l7_GraphTree.j5 k5 l0 t103 t107 x9_2 x11_3 x12_5 (decide ((rd x9_2 x11_3) ≥ (rd x9_2 x12_5)))) else (none)) else (none))) else (l7_GraphTree.j5 k5 l0 t103 t107 x9_2 x11_3 x12_5 false)))) else (none)) else (none)) = some r := by rw [if_pos rfl] at H; exact H
                       clear H; have H := H1; clear H1; by_cases c64 : 0 ≤ x12_5
                       ·rw [if_pos c64] at H; have c64b0 : decide (0 ≤ x12_5) = true := decide_eq_true c64
                        clear c64; by_cases c65 : x12_5 < (t107.length : Int)
                        ·rw [if_pos c65] at H; have c65b0 : decide (x12_5 < (t107.length : Int)) = true := decide_eq_true c65
                         clear c65; obtain ⟨bq66, hbq66⟩ : ∃ b_ : Bool, b_ = (rdOf false t107 x12_5) := ⟨_, rfl⟩; replace H : (if bq66 = true then ((l7_above.f k5 t103 x11_3 x12_5).bind fun t132 => (if (t128 != t132) = true then (l7_GraphTree.j5 k5 l0 t103 t107 x9_2 x11_3 x12_5 true) else (if t128 = true then (if x11_3 = x12_5 then (l7_GraphTree.j5 k5 l0 t103 t107 x9_2 x11_3 x12_5 false) else (if x11_3 < (x9_2.length : Int) then (if x12_5 < (x9_2.length : Int) then (l7_GraphTree.j5 k5 l0 t103 t107 x9_2 x11_3 x12_5 (decide ((rd x9_2 x11_3) ≥ (rd x9_2 x12_5)))) else (none)) else (none))) else (l7_GraphTree.j5 k5 l0 t103 t107 x9_2 x11_3 x12_5 false)))) else (if (t128 != false) = true then (l7_GraphTree.j5 k5 l0 t103 t107 x9_2 x11_3 x12_5 true) else (if t128 = true then (if x11_3 = x12_5 then (l7_GraphTree.j5 k5 l0 t103 t107 x9_2 x11_3 x12_5 false) else (if x11_3 < (x9_2.length : Int) then (if x12_5 < (x9_2.length : Int) then (l7_GraphTree.j5 k5 l0 t103 t107 x9_2 x11_3 x12_5 (decide ((rd x9_2 x11_3) ≥ (rd x9_2 x12_5)))) else (none)) else (none))) else (l7_GraphTree.j5 k5 l0 t103 t107 x9_2 x11_3 x12_5 false)))) = some r := by rw [← hbq66] at H; exact H
                         have Nbq66 := Aside0.mk hbq66; clear hbq66; by_cases c67 : bq66 = true
                         ·subst c67; have H1 : ((l7_above.f k5 t103 x11_3 x12_5).bind fun t132 => (if (t128 != t132) = true then (l7_GraphTree.j5 k5 l0 t103 t107 x9_2 x11_3 x12_5 true) else (if t128 = true then (if x11_3 = x12_5 then (l7_GraphTree.j5 k5 l0 t103 t107 x9_2 x11_3 x12_5 false) else (if x11_3 < (x9_2.length : Int) then (if x12_5 < (x9_2.length : Int) then (l7_GraphTree.j5 k5 l0 t103 t107 x9_2 x11_3 x12_5 (decide ((rd x9_2 x11_3) ≥ (rd x9_2 x12_5)))) else (none)) else (none))) else (l7_GraphTree.j5 k5 l0 t103 t107 x9_2 x11_3 x12_5 false)))) = some r := by rw [if_pos rfl] at H; exact H
                          clear H; have H := H1; clear H1; replace H := Option.bind_eq_some_iff.mp H; obtain ⟨t132, A680, H⟩ := H; replace H : (if (t128 != t132) = true then (l7_GraphTree.j5 k5 l0 t103 t107 x9_2 x11_3 x12_5 true) else (if t128 = true then (if x11_3 = x12_5 then (l7_GraphTree.j5 k5 l0 t103 t107 x9_2 x11_3 x12_5 false) else (if x11_3 < (x9_2.length : Int) then (if x12_5 < (x9_2.length : Int) then (l7_GraphTree.j5 k5 l0 t103 t107 x9_2 x11_3 x12_5 (decide ((rd x9_2 x11_3) ≥ (rd x9_2 x12_5)))) else (none)) else (none))) else (l7_GraphTree.j5 k5 l0 t103 t107 x9_2 x11_3 x12_5 false))) = some r := H
                          have A68 := Aside0.mk A680; clear A680; by_cases c69 : (t128 != t132) = true
                          ·rw [if_pos c69] at H; have c69b0 : (t128 != t132) = true := c69
                           (try (have c69b1 : decide (t128 = t132) = false := by simpa using c69))
                           (try (have c69b2 : (t128 == t132) = false := by simpa using c69))
                           (try (have c69b3 : ¬ (t128 = t132) := by simpa using c69))
                           clear c69; have H' := Aside0.mk H
                           clear H; try go_wp2
                           have n0_ := Aside0.mk (Kd.R_drew HO_3.out); have n1_ := Aside0.mk (Kd.R_drew HO_5.out); have n2_ := Aside0.mk (Kd.R_drew HO_9.out); have n3_ := Aside0.mk (below_drew1 HB.out); clear HO_3; clear HO_5; clear HO_9; clear HB; have HO_3 := n0_; have HO_5 := n1_; have HO_9 := n2_; have HB := n3_; clear n0_ n1_ n2_ n3_; obtain ⟨Ao71, co71, eo71⟩ := Kd.R_slice HO_5.out; (first | subst eo71 | (injection eo71 with f1_ f2_ f3_; have f4_ := f1_.symm; have f5_ := f3_.symm; clear f1_ f2_ f3_; subst f4_; subst f5_))
                           have p130 : 0 ≤ (x11_3 : Int) := of_decide_eq_true (by with_reducible assumption)
                           have q130 : x11_3 < (t107.length : Int) := of_decide_eq_true (by with_reducible assumption)
                           obtain ⟨ad130, e130, hx130_0⟩ := Kd.at_bool (Kd.R_reads' HO_5.out).2.2 x11_3 p130 q130; (try rw [← Nbq62.out] at hx130_0)
                           (try rw [← Nbq66.out] at hx130_0)
                           cases e130; replace p130 := eq_true p130; replace q130 := eq_true q130; have p131 : 0 ≤ (x12_5 : Int) := of_decide_eq_true (by with_reducible assumption)
                           have q131 : x12_5 < (t107.length : Int) := of_decide_eq_true (by with_reducible assumption)
                           obtain ⟨ad131, e131, hx131_0⟩ := Kd.at_bool (Kd.R_reads' HO_5.out).2.2 x12_5 p131 q131; (try rw [← Nbq62.out] at hx131_0)
                           (try rw [← Nbq66.out] at hx131_0)
                           obtain rfl : ad130 = ad131 := (by injection e131)
                           replace p131 := eq_true p131; replace q131 := eq_true q131; obtain ⟨Ao72, co72, eo72⟩ := Kd.R_slice HO_3.out; (first | subst eo72 | (injection eo72 with f1_ f2_ f3_; have f4_ := f1_.symm; have f5_ := f3_.symm; clear f1_ f2_ f3_; subst f4_; subst f5_))
                           as_aux_lemma =>
                            refine start_ (n := 37) (S := fun w' => w'.cell? (ad130.add (x11_3).toNat) = some (.bool true) ∧ w'.cell? (ad130.add (x12_5).toNat) = some (.bool true)) (ds := []) b37_30 (by kernel_rfl) rfl rfl ⟨hx130_0, hx131_0⟩ (fun hHeld => ?_); refine with_tabW l7_GraphTree.tab24 l7_GraphTree.bits24 (fun HT_ HW_ => ?_)
                            generalize w59.drew = w70 at HO_3 HO_5 HO_9 HB hx130_0 hx131_0 hHeld ⊢
                            refine pv_ 0 123 b37_31 rfl rfl HT_ ?_
                            refine pv_ 1 124 b37_32 rfl rfl HT_ ?_
                            refine pv_ 2 125 b37_33 rfl rfl HT_ ?_
                            refine pv_ 3 126 b37_34 rfl rfl HT_ ?_
                            refine take_ (i := 4) (N := some 127) (v := ?_) (a' := ?_) b37_35 rfl rfl (take_ofW HT_.out HW_.out (by kernel_rfl)) (fun _ _ _ h => h) (Or.inl ⟨by rfl, ?_⟩) hHeld ?_ ?_
                            rotate_left
                            ·rintro w' ⟨s0, s1⟩
                             go_simp
                             with_reducible rfl
                            rotate_left
                            ·simp only [Act.put, List.setIfInBounds_toArray, List.set_cons_zero, List.set_cons_succ, i64_w, i32_w]
                             rfl
                            refine pv_ 5 128 b37_36 rfl rfl HT_ ?_
                            refine pv_ 6 129 b37_37 rfl rfl HT_ ?_
                            refine pv_ 7 130 b37_38 rfl rfl HT_ ?_
                            refine pv_ 8 131 b37_39 rfl rfl HT_ ?_
                            refine take_ (i := 9) (N := some 132) (v := ?_) (a' := ?_) b37_40 rfl rfl (take_ofW HT_.out HW_.out (by kernel_rfl)) (fun _ _ _ h => h) (Or.inl ⟨by rfl, ?_⟩) hHeld ?_ ?_
                            rotate_left
                            ·rintro w' ⟨s0, s1⟩
                             go_simp
                             with_reducible rfl
                            rotate_left
                            ·simp only [Act.put, List.setIfInBounds_toArray, List.set_cons_zero, List.set_cons_succ, i64_w, i32_w]
                             rfl
                            refine pv_ 10 133 b37_41 rfl rfl HT_ ?_
                            refine pv_ 11 134 b37_42 rfl rfl HT_ ?_
                            refine pv_ 12 135 b37_43 rfl rfl HT_ ?_
                            refine pv_ 13 136 b37_44 rfl rfl HT_ ?_
                            refine pv_ 14 137 b37_45 rfl rfl HT_ ?_
                            refine one_ (i := 15) (N := some 138) b37_46 rfl rfl (one_of HT_.out (by kernel_rfl)) (by decide) (fun K hK => ?_)
                            refine goes_ Try.func46 (by kernel_rfl) rfl #[.slice Ao72 t103.length co72, .int .i64 x11_3, .int .i64 x12_5] (by rfl) rfl rfl (by (try simp only [List.map_toArray, List.map_cons, List.map_nil]); first | done | rfl | (simp only [List.length_drop, List.length_take]; rfl)) ?_
                            with_reducible refine (l7_above.calls k5 _ _ t103 x11_3 x12_5 t132 _ ?side1 ?side2 A68.out).mono ?_
                            (case side1 => repeat (first | exact (Kd.R_reads' HO_3.out).2.2 | with_reducible first | refine Kd.C_alloc ?_ _ | refine Kd.C_drewN ?_ _ | refine Kd.C_drew ?_))
                            (case side2 => exact (Kd.R_reads' HO_3.out).2.1)
                            rintro e w' ⟨rfl, ⟨nd, rfl⟩⟩
                            refine ⟨_, rfl, ?_⟩
                            refine hK.out _ _ ⟨hHeld.1, hHeld.2⟩ (fun hHeld => ?_)
                            clear hK K; refine norm_ (a' := ?_) ?_ ?_
                            rotate_left
                            ·show Act.put _ (some 138) _ = _
                             simp only [Act.put, List.setIfInBounds_toArray, List.set_cons_zero, List.set_cons_succ, i64_w, i32_w]
                             rfl
                            refine pv_ 16 139 b37_47 rfl rfl HT_ ?_
                            refine pv_ 17 140 b37_48 rfl rfl HT_ ?_
                            refine pv_ 18 141 b37_49 rfl rfl HT_ ?_
                            refine pu_ 19 142 b37_50 rfl rfl HT_ ?_
                            refine pu_ 20 143 b37_51 rfl rfl HT_ ?_
                            refine pu_ 21 144 b37_52 rfl rfl HT_ ?_
                            refine pu_ 22 145 b37_53 rfl rfl HT_ ?_
                            refine pu_ 23 146 b37_54 rfl rfl HT_ ?_
                            refine pu_ 24 147 b37_55 rfl rfl HT_ ?_
                            refine pu_ 25 148 b37_56 rfl rfl HT_ ?_
                            refine pu_ 26 149 b37_57 rfl rfl HT_ ?_
                            refine pu_ 27 150 b37_58 rfl rfl HT_ ?_
                            refine pu_ 28 151 b37_59 rfl rfl HT_ ?_
                            refine pu_ 29 152 b37_60 rfl rfl HT_ ?_
                            refine pu_ 30 153 b37_61 rfl rfl HT_ ?_
                            refine pu_ 31 154 b37_62 rfl rfl HT_ ?_
                            refine pu_ 32 155 b37_63 rfl rfl HT_ ?_
                            refine pu_ 33 156 b37_64 rfl rfl HT_ ?_
                            refine pu_ 34 157 b37_65 rfl rfl HT_ ?_
                            refine pu_ 35 158 b37_66 rfl rfl HT_ ?_
                            refine pv_ 36 159 b37_67 rfl rfl HT_ ?_
                            refine done_ (done_of HT_.out (by kernel_rfl)) ?_
                            try go_wp2
                            go_meet
                            case rel => exact ⟨_, (true), (by first | rfl | (simp; done) | (simp [*]; done)), H', ⟨by have := HJ6.out; have := HK2.out; have := HK3.out; have := HJ34.out; have := HK5.out; first | omega | exact Nat.le_refl _⟩, ⟨by (with_reducible repeat (first | apply Kd.R_alloc | apply Kd.R_drewN | apply Kd.R_drew)); exact HO_3.out⟩, ⟨by (with_reducible repeat (first | apply Kd.R_alloc | apply Kd.R_drewN | apply Kd.R_drew)); exact HO_5.out⟩, ⟨by (with_reducible repeat (first | apply Kd.R_alloc | apply Kd.R_drewN | apply Kd.R_drew)); exact HO_9.out⟩, ⟨by repeat (first | (with_reducible first | exact HB.out | apply below_alloc | apply pw_below_drewN | apply below_drew1) | exact HB.out)⟩⟩
                          ·rw [if_neg c69] at H; have c69b0 : (t128 != t132) = false := by simpa using c69
                           (try (have c69b1 : decide (t128 = t132) = true := by simpa using c69))
                           (try (have c69b2 : (t128 == t132) = true := by simpa using c69))
                           clear c69; by_cases c73 : t128 = true
                           ·subst c73; have H1 : (if x11_3 = x12_5 then (l7_GraphTree.j5 k5 l0 t103 t107 x9_2 x11_3 x12_5 false) else (if x11_3 < (x9_2.length : Int) then (if x12_5 < (x9_2.length : Int) then (l7_GraphTree.j5 k5 l0 t103 t107 x9_2 x11_3 x12_5 (decide ((rd x9_2 x11_3) ≥ (rd x9_2 x12_5)))) else (none)) else (none))) = some r := by rw [if_pos rfl] at H; exact H
                            clear H; have H := H1; clear H1; by_cases c74 : x11_3 = x12_5
                            ·rw [if_pos c74] at H; have c74b0 : (x11_3 == x12_5) = true := beq_iff_eq.mpr c74
                             have c74b1 : (x11_3 != x12_5) = false := bne_eq_false_iff_eq.mpr c74
                             clear c74; have H' := Aside0.mk H
                             clear H; try go_wp2
                             have n0_ := Aside0.mk (Kd.R_drew HO_3.out); have n1_ := Aside0.mk (Kd.R_drew HO_5.out); have n2_ := Aside0.mk (Kd.R_drew HO_9.out); have n3_ := Aside0.mk (below_drew1 HB.out); clear HO_3; clear HO_5; clear HO_9; clear HB; have HO_3 := n0_; have HO_5 := n1_; have HO_9 := n2_; have HB := n3_; clear n0_ n1_ n2_ n3_; obtain ⟨Ao76, co76, eo76⟩ := Kd.R_slice HO_5.out; (first | subst eo76 | (injection eo76 with f1_ f2_ f3_; have f4_ := f1_.symm; have f5_ := f3_.symm; clear f1_ f2_ f3_; subst f4_; subst f5_))
                             have p130 : 0 ≤ (x11_3 : Int) := of_decide_eq_true (by with_reducible assumption)
                             have q130 : x11_3 < (t107.length : Int) := of_decide_eq_true (by with_reducible assumption)
                             obtain ⟨ad130, e130, hx130_0⟩ := Kd.at_bool (Kd.R_reads' HO_5.out).2.2 x11_3 p130 q130; (try rw [← Nbq62.out] at hx130_0)
                             (try rw [← Nbq66.out] at hx130_0)
                             cases e130; replace p130 := eq_true p130; replace q130 := eq_true q130; have p131 : 0 ≤ (x12_5 : Int) := of_decide_eq_true (by with_reducible assumption)
                             have q131 : x12_5 < (t107.length : Int) := of_decide_eq_true (by with_reducible assumption)
                             obtain ⟨ad131, e131, hx131_0⟩ := Kd.at_bool (Kd.R_reads' HO_5.out).2.2 x12_5 p131 q131; (try rw [← Nbq62.out] at hx131_0)
                             (try rw [← Nbq66.out] at hx131_0)
                             obtain rfl : ad130 = ad131 := (by injection e131)
                             replace p131 := eq_true p131; replace q131 := eq_true q131; obtain ⟨Ao77, co77, eo77⟩ := Kd.R_slice HO_3.out; (first | subst eo77 | (injection eo77 with f1_ f2_ f3_; have f4_ := f1_.symm; have f5_ := f3_.symm; clear f1_ f2_ f3_; subst f4_; subst f5_))
                             as_aux_lemma =>
                              refine start_ (n := 37) (S := fun w' => w'.cell? (ad130.add (x11_3).toNat) = some (.bool true) ∧ w'.cell? (ad130.add (x12_5).toNat) = some (.bool true)) (ds := []) b37_30 (by kernel_rfl) rfl rfl ⟨hx130_0, hx131_0⟩ (fun hHeld => ?_); refine with_tabW l7_GraphTree.tab24 l7_GraphTree.bits24 (fun HT_ HW_ => ?_)
                              generalize w59.drew = w75 at HO_3 HO_5 HO_9 HB hx130_0 hx131_0 hHeld ⊢
                              refine pv_ 0 123 b37_31 rfl rfl HT_ ?_
                              refine pv_ 1 124 b37_32 rfl rfl HT_ ?_
                              refine pv_ 2 125 b37_33 rfl rfl HT_ ?_
                              refine pv_ 3 126 b37_34 rfl rfl HT_ ?_
                              refine take_ (i := 4) (N := some 127) (v := ?_) (a' := ?_) b37_35 rfl rfl (take_ofW HT_.out HW_.out (by kernel_rfl)) (fun _ _ _ h => h) (Or.inl ⟨by rfl, ?_⟩) hHeld ?_ ?_
                              rotate_left
                              ·rintro w' ⟨s0, s1⟩
                               go_simp
                               with_reducible rfl
                              rotate_left
                              ·simp only [Act.put, List.setIfInBounds_toArray, List.set_cons_zero, List.set_cons_succ, i64_w, i32_w]
                               rfl
                              refine pv_ 5 128 b37_36 rfl rfl HT_ ?_
                              refine pv_ 6 129 b37_37 rfl rfl HT_ ?_
                              refine pv_ 7 130 b37_38 rfl rfl HT_ ?_
                              refine pv_ 8 131 b37_39 rfl rfl HT_ ?_
                              refine take_ (i := 9) (N := some 132) (v := ?_) (a' := ?_) b37_40 rfl rfl (take_ofW HT_.out HW_.out (by kernel_rfl)) (fun _ _ _ h => h) (Or.inl ⟨by rfl, ?_⟩) hHeld ?_ ?_
                              rotate_left
                              ·rintro w' ⟨s0, s1⟩
                               go_simp
                               with_reducible rfl
                              rotate_left
                              ·simp only [Act.put, List.setIfInBounds_toArray, List.set_cons_zero, List.set_cons_succ, i64_w, i32_w]
                               rfl
                              refine pv_ 10 133 b37_41 rfl rfl HT_ ?_
                              refine pv_ 11 134 b37_42 rfl rfl HT_ ?_
                              refine pv_ 12 135 b37_43 rfl rfl HT_ ?_
                              refine pv_ 13 136 b37_44 rfl rfl HT_ ?_
                              refine pv_ 14 137 b37_45 rfl rfl HT_ ?_
                              refine one_ (i := 15) (N := some 138) b37_46 rfl rfl (one_of HT_.out (by kernel_rfl)) (by decide) (fun K hK => ?_)
                              refine goes_ Try.func46 (by kernel_rfl) rfl #[.slice Ao77 t103.length co77, .int .i64 x11_3, .int .i64 x12_5] (by rfl) rfl rfl (by (try simp only [List.map_toArray, List.map_cons, List.map_nil]); first | done | rfl | (simp only [List.length_drop, List.length_take]; rfl)) ?_
                              with_reducible refine (l7_above.calls k5 _ _ t103 x11_3 x12_5 t132 _ ?side1 ?side2 A68.out).mono ?_
                              (case side1 => repeat (first | exact (Kd.R_reads' HO_3.out).2.2 | with_reducible first | refine Kd.C_alloc ?_ _ | refine Kd.C_drewN ?_ _ | refine Kd.C_drew ?_))
                              (case side2 => exact (Kd.R_reads' HO_3.out).2.1)
                              rintro e w' ⟨rfl, ⟨nd, rfl⟩⟩
                              refine ⟨_, rfl, ?_⟩
                              refine hK.out _ _ ⟨hHeld.1, hHeld.2⟩ (fun hHeld => ?_)
                              clear hK K; refine norm_ (a' := ?_) ?_ ?_
                              rotate_left
                              ·show Act.put _ (some 138) _ = _
                               simp only [Act.put, List.setIfInBounds_toArray, List.set_cons_zero, List.set_cons_succ, i64_w, i32_w]
                               rfl
                              refine pv_ 16 139 b37_47 rfl rfl HT_ ?_
                              refine pv_ 17 140 b37_48 rfl rfl HT_ ?_
                              refine pv_ 18 141 b37_49 rfl rfl HT_ ?_
                              refine pv_ 19 142 b37_50 rfl rfl HT_ ?_
                              refine pv_ 20 143 b37_51 rfl rfl HT_ ?_
                              refine pv_ 21 144 b37_52 rfl rfl HT_ ?_
                              refine pv_ 22 145 b37_53 rfl rfl HT_ ?_
                              refine pv_ 23 146 b37_54 rfl rfl HT_ ?_
                              refine pv_ 24 147 b37_55 rfl rfl HT_ ?_
                              refine pv_ 25 148 b37_56 rfl rfl HT_ ?_
                              refine pu_ 26 149 b37_57 rfl rfl HT_ ?_
                              refine pu_ 27 150 b37_58 rfl rfl HT_ ?_
                              refine pu_ 28 151 b37_59 rfl rfl HT_ ?_
                              refine pu_ 29 152 b37_60 rfl rfl HT_ ?_
                              refine pu_ 30 153 b37_61 rfl rfl HT_ ?_
                              refine pu_ 31 154 b37_62 rfl rfl HT_ ?_
                              refine pu_ 32 155 b37_63 rfl rfl HT_ ?_
                              refine pu_ 33 156 b37_64 rfl rfl HT_ ?_
                              refine pu_ 34 157 b37_65 rfl rfl HT_ ?_
                              refine pv_ 35 158 b37_66 rfl rfl HT_ ?_
                              refine pv_ 36 159 b37_67 rfl rfl HT_ ?_
                              refine done_ (done_of HT_.out (by kernel_rfl)) ?_
                              try go_wp2
                              go_meet
                              case rel => exact ⟨_, (false), (by first | rfl | (simp; done) | (simp [*]; done)), H', ⟨by have := HJ6.out; have := HK2.out; have := HK3.out; have := HJ34.out; have := HK5.out; first | omega | exact Nat.le_refl _⟩, ⟨by (with_reducible repeat (first | apply Kd.R_alloc | apply Kd.R_drewN | apply Kd.R_drew)); exact HO_3.out⟩, ⟨by (with_reducible repeat (first | apply Kd.R_alloc | apply Kd.R_drewN | apply Kd.R_drew)); exact HO_5.out⟩, ⟨by (with_reducible repeat (first | apply Kd.R_alloc | apply Kd.R_drewN | apply Kd.R_drew)); exact HO_9.out⟩, ⟨by repeat (first | (with_reducible first | exact HB.out | apply below_alloc | apply pw_below_drewN | apply below_drew1) | exact HB.out)⟩⟩
                            ·rw [if_neg c74] at H; have c74b0 : (x11_3 == x12_5) = false := beq_eq_false_iff_ne.mpr c74
                             have c74b1 : (x11_3 != x12_5) = true := bne_iff_ne.mpr c74
                             by_cases c78 : x11_3 < (x9_2.length : Int)
                             ·rw [if_pos c78] at H; have c78b0 : decide (x11_3 < (x9_2.length : Int)) = true := decide_eq_true c78
                              clear c78; by_cases c79 : x12_5 < (x9_2.length : Int)
                              ·rw [if_pos c79] at H; have c79b0 : decide (x12_5 < (x9_2.length : Int)) = true := decide_eq_true c79
                               clear c79; have H' := Aside0.mk H
                               clear H; try go_wp2
                               have n0_ := Aside0.mk (Kd.R_drew HO_3.out); have n1_ := Aside0.mk (Kd.R_drew HO_5.out); have n2_ := Aside0.mk (Kd.R_drew HO_9.out); have n3_ := Aside0.mk (below_drew1 HB.out); clear HO_3; clear HO_5; clear HO_9; clear HB; have HO_3 := n0_; have HO_5 := n1_; have HO_9 := n2_; have HB := n3_; clear n0_ n1_ n2_ n3_; obtain ⟨Ao81, co81, eo81⟩ := Kd.R_slice HO_5.out; (first | subst eo81 | (injection eo81 with f1_ f2_ f3_; have f4_ := f1_.symm; have f5_ := f3_.symm; clear f1_ f2_ f3_; subst f4_; subst f5_))
                               have p130 : 0 ≤ (x11_3 : Int) := of_decide_eq_true (by with_reducible assumption)
                               have q130 : x11_3 < (t107.length : Int) := of_decide_eq_true (by with_reducible assumption)
                               obtain ⟨ad130, e130, hx130_0⟩ := Kd.at_bool (Kd.R_reads' HO_5.out).2.2 x11_3 p130 q130; (try rw [← Nbq62.out] at hx130_0)
                               (try rw [← Nbq66.out] at hx130_0)
                               cases e130; replace p130 := eq_true p130; replace q130 := eq_true q130; have p131 : 0 ≤ (x12_5 : Int) := of_decide_eq_true (by with_reducible assumption)
                               have q131 : x12_5 < (t107.length : Int) := of_decide_eq_true (by with_reducible assumption)
                               obtain ⟨ad131, e131, hx131_0⟩ := Kd.at_bool (Kd.R_reads' HO_5.out).2.2 x12_5 p131 q131; (try rw [← Nbq62.out] at hx131_0)
                               (try rw [← Nbq66.out] at hx131_0)
                               obtain rfl : ad130 = ad131 := (by injection e131)
                               replace p131 := eq_true p131; replace q131 := eq_true q131; obtain ⟨Ao82, co82, eo82⟩ := Kd.R_slice HO_3.out; (first | subst eo82 | (injection eo82 with f1_ f2_ f3_; have f4_ := f1_.symm; have f5_ := f3_.symm; clear f1_ f2_ f3_; subst f4_; subst f5_))
                               have p133 : 0 ≤ (x11_3 : Int) := of_decide_eq_true (by with_reducible assumption)
                               have q133 : x11_3 < (x9_2.length : Int) := of_decide_eq_true (by with_reducible assumption)
                               obtain ⟨Ao133, co133, eo133⟩ := Kd.R_slice HO_9.out; subst eo133; obtain ⟨ad133, e133, hx133_0⟩ := Kd.at_int (Kd.R_reads' HO_9.out).2.2 x11_3 p133 q133; cases e133; replace p133 := eq_true p133; replace q133 := eq_true q133; have p134 : 0 ≤ (x12_5 : Int) := of_decide_eq_true (by with_reducible assumption)
                               have q134 : x12_5 < (x9_2.length : Int) := of_decide_eq_true (by with_reducible assumption)
                               obtain ⟨ad134, e134, hx134_0⟩ := Kd.at_int (Kd.R_reads' HO_9.out).2.2 x12_5 p134 q134; obtain rfl : ad133 = ad134 := (by injection e134)
                               replace p134 := eq_true p134; replace q134 := eq_true q134; as_aux_lemma =>
                                refine start_ (n := 37) (S := fun w' => w'.cell? (ad130.add (x11_3).toNat) = some (.bool true) ∧ w'.cell? (ad130.add (x12_5).toNat) = some (.bool true) ∧ w'.cell? (ad133.add (x11_3).toNat) = some (.int .i64 (rd x9_2 x11_3)) ∧ w'.cell? (ad133.add (x12_5).toNat) = some (.int .i64 (rd x9_2 x12_5))) (ds := []) b37_30 (by kernel_rfl) rfl rfl ⟨hx130_0, hx131_0, hx133_0, hx134_0⟩ (fun hHeld => ?_); refine with_tabW l7_GraphTree.tab24 l7_GraphTree.bits24 (fun HT_ HW_ => ?_)
                                generalize w59.drew = w80 at HO_3 HO_5 HO_9 HB hx130_0 hx131_0 hx133_0 hx134_0 hHeld ⊢
                                refine pv_ 0 123 b37_31 rfl rfl HT_ ?_
                                refine pv_ 1 124 b37_32 rfl rfl HT_ ?_
                                refine pv_ 2 125 b37_33 rfl rfl HT_ ?_
                                refine pv_ 3 126 b37_34 rfl rfl HT_ ?_
                                refine take_ (i := 4) (N := some 127) (v := ?_) (a' := ?_) b37_35 rfl rfl (take_ofW HT_.out HW_.out (by kernel_rfl)) (fun _ _ _ h => h) (Or.inl ⟨by rfl, ?_⟩) hHeld ?_ ?_
                                rotate_left
                                ·rintro w' ⟨s0, s1, s2, s3⟩
                                 go_simp
                                 with_reducible rfl
                                rotate_left
                                ·simp only [Act.put, List.setIfInBounds_toArray, List.set_cons_zero, List.set_cons_succ, i64_w, i32_w]
                                 rfl
                                refine pv_ 5 128 b37_36 rfl rfl HT_ ?_
                                refine pv_ 6 129 b37_37 rfl rfl HT_ ?_
                                refine pv_ 7 130 b37_38 rfl rfl HT_ ?_
                                refine pv_ 8 131 b37_39 rfl rfl HT_ ?_
                                refine take_ (i := 9) (N := some 132) (v := ?_) (a' := ?_) b37_40 rfl rfl (take_ofW HT_.out HW_.out (by kernel_rfl)) (fun _ _ _ h => h) (Or.inl ⟨by rfl, ?_⟩) hHeld ?_ ?_
                                rotate_left
                                ·rintro w' ⟨s0, s1, s2, s3⟩
                                 go_simp
                                 with_reducible rfl
                                rotate_left
                                ·simp only [Act.put, List.setIfInBounds_toArray, List.set_cons_zero, List.set_cons_succ, i64_w, i32_w]
                                 rfl
                                refine pv_ 10 133 b37_41 rfl rfl HT_ ?_
                                refine pv_ 11 134 b37_42 rfl rfl HT_ ?_
                                refine pv_ 12 135 b37_43 rfl rfl HT_ ?_
                                refine pv_ 13 136 b37_44 rfl rfl HT_ ?_
                                refine pv_ 14 137 b37_45 rfl rfl HT_ ?_
                                refine one_ (i := 15) (N := some 138) b37_46 rfl rfl (one_of HT_.out (by kernel_rfl)) (by decide) (fun K hK => ?_)
                                refine goes_ Try.func46 (by kernel_rfl) rfl #[.slice Ao82 t103.length co82, .int .i64 x11_3, .int .i64 x12_5] (by rfl) rfl rfl (by (try simp only [List.map_toArray, List.map_cons, List.map_nil]); first | done | rfl | (simp only [List.length_drop, List.length_take]; rfl)) ?_
                                with_reducible refine (l7_above.calls k5 _ _ t103 x11_3 x12_5 t132 _ ?side1 ?side2 A68.out).mono ?_
                                (case side1 => repeat (first | exact (Kd.R_reads' HO_3.out).2.2 | with_reducible first | refine Kd.C_alloc ?_ _ | refine Kd.C_drewN ?_ _ | refine Kd.C_drew ?_))
                                (case side2 => exact (Kd.R_reads' HO_3.out).2.1)
                                rintro e w' ⟨rfl, ⟨nd, rfl⟩⟩
                                refine ⟨_, rfl, ?_⟩
                                obtain ⟨Ao83, co83, eo83⟩ := Kd.R_slice HO_9.out; (first | subst eo83 | (injection eo83 with f1_ f2_ f3_; have f4_ := f1_.symm; have f5_ := f3_.symm; clear f1_ f2_ f3_; subst f4_; subst f5_))
                                refine hK.out _ _ ⟨hHeld.1, hHeld.2.1, hHeld.2.2.1, hHeld.2.2.2⟩ (fun hHeld => ?_)
                                clear hK K; refine norm_ (a' := ?_) ?_ ?_
                                rotate_left
                                ·show Act.put _ (some 138) _ = _
                                 simp only [Act.put, List.setIfInBounds_toArray, List.set_cons_zero, List.set_cons_succ, i64_w, i32_w]
                                 rfl
                                refine pv_ 16 139 b37_47 rfl rfl HT_ ?_
                                refine pv_ 17 140 b37_48 rfl rfl HT_ ?_
                                refine pv_ 18 141 b37_49 rfl rfl HT_ ?_
                                refine pv_ 19 142 b37_50 rfl rfl HT_ ?_
                                refine pv_ 20 143 b37_51 rfl rfl HT_ ?_
                                refine pv_ 21 144 b37_52 rfl rfl HT_ ?_
                                refine pv_ 22 145 b37_53 rfl rfl HT_ ?_
                                refine pv_ 23 146 b37_54 rfl rfl HT_ ?_
                                refine pv_ 24 147 b37_55 rfl rfl HT_ ?_
                                refine pv_ 25 148 b37_56 rfl rfl HT_ ?_
                                refine pv_ 26 149 b37_57 rfl rfl HT_ ?_
                                refine pv_ 27 150 b37_58 rfl rfl HT_ ?_
                                refine pv_ 28 151 b37_59 rfl rfl HT_ ?_
                                refine pv_ 30 153 b37_68 rfl rfl HT_ ?_
                                refine pv_ 31 154 b37_69 rfl rfl HT_ ?_
                                refine pv_ 32 155 b37_70 rfl rfl HT_ ?_
                                refine take_ (i := 29) (N := some 152) (v := ?_) (a' := ?_) b37_63 rfl rfl (take_ofW HT_.out HW_.out (by kernel_rfl)) (fun _ _ _ h => h) (Or.inl ⟨by rfl, ?_⟩) hHeld ?_ ?_
                                rotate_left
                                ·rintro w' ⟨s0, s1, s2, s3⟩
                                 go_simp
                                 with_reducible rfl
                                rotate_left
                                ·simp only [Act.put, List.setIfInBounds_toArray, List.set_cons_zero, List.set_cons_succ, i64_w, i32_w]
                                 rfl
                                refine take_ (i := 33) (N := some 156) (v := ?_) (a' := ?_) b37_64 rfl rfl (take_ofW HT_.out HW_.out (by kernel_rfl)) (fun _ _ _ h => h) (Or.inl ⟨by rfl, ?_⟩) hHeld ?_ ?_
                                rotate_left
                                ·rintro w' ⟨s0, s1, s2, s3⟩
                                 go_simp
                                 with_reducible rfl
                                rotate_left
                                ·simp only [Act.put, List.setIfInBounds_toArray, List.set_cons_zero, List.set_cons_succ, i64_w, i32_w]
                                 rfl
                                refine pv_ 34 157 b37_65 rfl rfl HT_ ?_
                                refine pv_ 35 158 b37_66 rfl rfl HT_ ?_
                                refine pv_ 36 159 b37_67 rfl rfl HT_ ?_
                                refine done_ (done_of HT_.out (by kernel_rfl)) ?_
                                try go_wp2
                                go_meet
                                case rel => exact ⟨_, (decide ((rd x9_2 x11_3) ≥ (rd x9_2 x12_5))), (by first | rfl | (simp; done) | (simp [*]; done)), H', ⟨by have := HJ6.out; have := HK2.out; have := HK3.out; have := HJ34.out; have := HK5.out; first | omega | exact Nat.le_refl _⟩, ⟨by (with_reducible repeat (first | apply Kd.R_alloc | apply Kd.R_drewN | apply Kd.R_drew)); exact HO_3.out⟩, ⟨by (with_reducible repeat (first | apply Kd.R_alloc | apply Kd.R_drewN | apply Kd.R_drew)); exact HO_5.out⟩, ⟨by (with_reducible repeat (first | apply Kd.R_alloc | apply Kd.R_drewN | apply Kd.R_drew)); exact HO_9.out⟩, ⟨by repeat (first | (with_reducible first | exact HB.out | apply below_alloc | apply pw_below_drewN | apply below_drew1) | exact HB.out)⟩⟩
                              ·rw [if_neg c79] at H; exact absurd H (by simp)
                             ·rw [if_neg c78] at H; exact absurd H (by simp)
                           ·replace c73 := Bool.eq_false_iff.mpr c73; subst c73; have H1 : (l7_GraphTree.j5 k5 l0 t103 t107 x9_2 x11_3 x12_5 false) = some r := by rw [if_neg (show ¬ (false = true) by decide)] at H; exact H
                            clear H; have H := H1; clear H1; have H' := Aside0.mk H
                            clear H; try go_wp2
                            have n0_ := Aside0.mk (Kd.R_drew HO_3.out); have n1_ := Aside0.mk (Kd.R_drew HO_5.out); have n2_ := Aside0.mk (Kd.R_drew HO_9.out); have n3_ := Aside0.mk (below_drew1 HB.out); clear HO_3; clear HO_5; clear HO_9; clear HB; have HO_3 := n0_; have HO_5 := n1_; have HO_9 := n2_; have HB := n3_; clear n0_ n1_ n2_ n3_; obtain ⟨Ao85, co85, eo85⟩ := Kd.R_slice HO_5.out; (first | subst eo85 | (injection eo85 with f1_ f2_ f3_; have f4_ := f1_.symm; have f5_ := f3_.symm; clear f1_ f2_ f3_; subst f4_; subst f5_))
                            have p130 : 0 ≤ (x11_3 : Int) := of_decide_eq_true (by with_reducible assumption)
                            have q130 : x11_3 < (t107.length : Int) := of_decide_eq_true (by with_reducible assumption)
                            obtain ⟨ad130, e130, hx130_0⟩ := Kd.at_bool (Kd.R_reads' HO_5.out).2.2 x11_3 p130 q130; (try rw [← Nbq62.out] at hx130_0)
                            (try rw [← Nbq66.out] at hx130_0)
                            cases e130; replace p130 := eq_true p130; replace q130 := eq_true q130; have p131 : 0 ≤ (x12_5 : Int) := of_decide_eq_true (by with_reducible assumption)
                            have q131 : x12_5 < (t107.length : Int) := of_decide_eq_true (by with_reducible assumption)
                            obtain ⟨ad131, e131, hx131_0⟩ := Kd.at_bool (Kd.R_reads' HO_5.out).2.2 x12_5 p131 q131; (try rw [← Nbq62.out] at hx131_0)
                            (try rw [← Nbq66.out] at hx131_0)
                            obtain rfl : ad130 = ad131 := (by injection e131)
                            replace p131 := eq_true p131; replace q131 := eq_true q131; obtain ⟨Ao86, co86, eo86⟩ := Kd.R_slice HO_3.out; (first | subst eo86 | (injection eo86 with f1_ f2_ f3_; have f4_ := f1_.symm; have f5_ := f3_.symm; clear f1_ f2_ f3_; subst f4_; subst f5_))
                            as_aux_lemma =>
                             refine start_ (n := 37) (S := fun w' => w'.cell? (ad130.add (x11_3).toNat) = some (.bool true) ∧ w'.cell? (ad130.add (x12_5).toNat) = some (.bool true)) (ds := []) b37_30 (by kernel_rfl) rfl rfl ⟨hx130_0, hx131_0⟩ (fun hHeld => ?_); refine with_tabW l7_GraphTree.tab24 l7_GraphTree.bits24 (fun HT_ HW_ => ?_)
                             generalize w59.drew = w84 at HO_3 HO_5 HO_9 HB hx130_0 hx131_0 hHeld ⊢
                             refine pv_ 0 123 b37_31 rfl rfl HT_ ?_
                             refine pv_ 1 124 b37_32 rfl rfl HT_ ?_
                             refine pv_ 2 125 b37_33 rfl rfl HT_ ?_
                             refine pv_ 3 126 b37_34 rfl rfl HT_ ?_
                             refine take_ (i := 4) (N := some 127) (v := ?_) (a' := ?_) b37_35 rfl rfl (take_ofW HT_.out HW_.out (by kernel_rfl)) (fun _ _ _ h => h) (Or.inl ⟨by rfl, ?_⟩) hHeld ?_ ?_
                             rotate_left
                             ·rintro w' ⟨s0, s1⟩
                              go_simp
                              with_reducible rfl
                             rotate_left
                             ·simp only [Act.put, List.setIfInBounds_toArray, List.set_cons_zero, List.set_cons_succ, i64_w, i32_w]
                              rfl
                             refine pv_ 5 128 b37_36 rfl rfl HT_ ?_
                             refine pv_ 6 129 b37_37 rfl rfl HT_ ?_
                             refine pv_ 7 130 b37_38 rfl rfl HT_ ?_
                             refine pv_ 8 131 b37_39 rfl rfl HT_ ?_
                             refine take_ (i := 9) (N := some 132) (v := ?_) (a' := ?_) b37_40 rfl rfl (take_ofW HT_.out HW_.out (by kernel_rfl)) (fun _ _ _ h => h) (Or.inl ⟨by rfl, ?_⟩) hHeld ?_ ?_
                             rotate_left
                             ·rintro w' ⟨s0, s1⟩
                              go_simp
                              with_reducible rfl
                             rotate_left
                             ·simp only [Act.put, List.setIfInBounds_toArray, List.set_cons_zero, List.set_cons_succ, i64_w, i32_w]
                              rfl
                             refine pv_ 10 133 b37_41 rfl rfl HT_ ?_
                             refine pv_ 11 134 b37_42 rfl rfl HT_ ?_
                             refine pv_ 12 135 b37_43 rfl rfl HT_ ?_
                             refine pv_ 13 136 b37_44 rfl rfl HT_ ?_
                             refine pv_ 14 137 b37_45 rfl rfl HT_ ?_
                             refine one_ (i := 15) (N := some 138) b37_46 rfl rfl (one_of HT_.out (by kernel_rfl)) (by decide) (fun K hK => ?_)
                             refine goes_ Try.func46 (by kernel_rfl) rfl #[.slice Ao86 t103.length co86, .int .i64 x11_3, .int .i64 x12_5] (by rfl) rfl rfl (by (try simp only [List.map_toArray, List.map_cons, List.map_nil]); first | done | rfl | (simp only [List.length_drop, List.length_take]; rfl)) ?_
                             with_reducible refine (l7_above.calls k5 _ _ t103 x11_3 x12_5 t132 _ ?side1 ?side2 A68.out).mono ?_
                             (case side1 => repeat (first | exact (Kd.R_reads' HO_3.out).2.2 | with_reducible first | refine Kd.C_alloc ?_ _ | refine Kd.C_drewN ?_ _ | refine Kd.C_drew ?_))
                             (case side2 => exact (Kd.R_reads' HO_3.out).2.1)
                             rintro e w' ⟨rfl, ⟨nd, rfl⟩⟩
                             refine ⟨_, rfl, ?_⟩
                             refine hK.out _ _ ⟨hHeld.1, hHeld.2⟩ (fun hHeld => ?_)
                             clear hK K; refine norm_ (a' := ?_) ?_ ?_
                             rotate_left
                             ·show Act.put _ (some 138) _ = _
                              simp only [Act.put, List.setIfInBounds_toArray, List.set_cons_zero, List.set_cons_succ, i64_w, i32_w]
                              rfl
                             refine pv_ 16 139 b37_47 rfl rfl HT_ ?_
                             refine pv_ 17 140 b37_48 rfl rfl HT_ ?_
                             refine pv_ 18 141 b37_49 rfl rfl HT_ ?_
                             refine pv_ 19 142 b37_50 rfl rfl HT_ ?_
                             refine pv_ 20 143 b37_51 rfl rfl HT_ ?_
                             refine pu_ 21 144 b37_52 rfl rfl HT_ ?_
                             refine pu_ 22 145 b37_53 rfl rfl HT_ ?_
                             refine pu_ 23 146 b37_54 rfl rfl HT_ ?_
                             refine pv_ 24 147 b37_55 rfl rfl HT_ ?_
                             refine pv_ 25 148 b37_56 rfl rfl HT_ ?_
                             refine pu_ 26 149 b37_57 rfl rfl HT_ ?_
                             refine pu_ 27 150 b37_58 rfl rfl HT_ ?_
                             refine pu_ 28 151 b37_59 rfl rfl HT_ ?_
                             refine pu_ 29 152 b37_60 rfl rfl HT_ ?_
                             refine pu_ 30 153 b37_61 rfl rfl HT_ ?_
                             refine pu_ 31 154 b37_62 rfl rfl HT_ ?_
                             refine pu_ 32 155 b37_63 rfl rfl HT_ ?_
                             refine pu_ 33 156 b37_64 rfl rfl HT_ ?_
                             refine pu_ 34 157 b37_65 rfl rfl HT_ ?_
                             refine pv_ 35 158 b37_66 rfl rfl HT_ ?_
                             refine pv_ 36 159 b37_67 rfl rfl HT_ ?_
                             refine done_ (done_of HT_.out (by kernel_rfl)) ?_
                             try go_wp2
                             go_meet
                             case rel => exact ⟨_, (false), (by first | rfl | (simp; done) | (simp [*]; done)), H', ⟨by have := HJ6.out; have := HK2.out; have := HK3.out; have := HJ34.out; have := HK5.out; first | omega | exact Nat.le_refl _⟩, ⟨by (with_reducible repeat (first | apply Kd.R_alloc | apply Kd.R_drewN | apply Kd.R_drew)); exact HO_3.out⟩, ⟨by (with_reducible repeat (first | apply Kd.R_alloc | apply Kd.R_drewN | apply Kd.R_drew)); exact HO_5.out⟩, ⟨by (with_reducible repeat (first | apply Kd.R_alloc | apply Kd.R_drewN | apply Kd.R_drew)); exact HO_9.out⟩, ⟨by repeat (first | (with_reducible first | exact HB.out | apply below_alloc | apply pw_below_drewN | apply below_drew1) | exact HB.out)⟩⟩
                         ·replace c67 := Bool.eq_false_iff.mpr c67; subst c67; have H1 : (if (t128 != false) = true then (l7_GraphTree.j5 k5 l0 t103 t107 x9_2 x11_3 x12_5 true) else (if t128 = true then (if x11_3 = x12_5 then (l7_GraphTree.j5 k5 l0 t103 t107 x9_2 x11_3 x12_5 false) else (if x11_3 < (x9_2.length : Int) then (if x12_5 < (x9_2.length : Int) then (l7_GraphTree.j5 k5 l0 t103 t107 x9_2 x11_3 x12_5 (decide ((rd x9_2 x11_3) ≥ (rd x9_2 x12_5)))) else (none)) else (none))) else (l7_GraphTree.j5 k5 l0 t103 t107 x9_2 x11_3 x12_5 false))) = some r := by rw [if_neg (show ¬ (false = true) by decide)] at H; exact H
                          clear H; have H := H1; clear H1; by_cases c87 : (t128 != false) = true
                          ·rw [if_pos c87] at H; have c87b0 : (t128 != false) = true := c87
                           (try (have c87b1 : decide (t128 = false) = false := by simpa using c87))
                           (try (have c87b2 : (t128 == false) = false := by simpa using c87))
                           (try (have c87b3 : ¬ (t128 = false) := by simpa using c87))
                           clear c87; have H' := Aside0.mk H
                           clear H; try go_wp2
                           have n0_ := Aside0.mk (Kd.R_drew HO_3.out); have n1_ := Aside0.mk (Kd.R_drew HO_5.out); have n2_ := Aside0.mk (Kd.R_drew HO_9.out); have n3_ := Aside0.mk (below_drew1 HB.out); clear HO_3; clear HO_5; clear HO_9; clear HB; have HO_3 := n0_; have HO_5 := n1_; have HO_9 := n2_; have HB := n3_; clear n0_ n1_ n2_ n3_; obtain ⟨Ao89, co89, eo89⟩ := Kd.R_slice HO_5.out; (first | subst eo89 | (injection eo89 with f1_ f2_ f3_; have f4_ := f1_.symm; have f5_ := f3_.symm; clear f1_ f2_ f3_; subst f4_; subst f5_))
                           have p130 : 0 ≤ (x11_3 : Int) := of_decide_eq_true (by with_reducible assumption)
                           have q130 : x11_3 < (t107.length : Int) := of_decide_eq_true (by with_reducible assumption)
                           obtain ⟨ad130, e130, hx130_0⟩ := Kd.at_bool (Kd.R_reads' HO_5.out).2.2 x11_3 p130 q130; (try rw [← Nbq62.out] at hx130_0)
                           (try rw [← Nbq66.out] at hx130_0)
                           cases e130; replace p130 := eq_true p130; replace q130 := eq_true q130; have p131 : 0 ≤ (x12_5 : Int) := of_decide_eq_true (by with_reducible assumption)
                           have q131 : x12_5 < (t107.length : Int) := of_decide_eq_true (by with_reducible assumption)
                           obtain ⟨ad131, e131, hx131_0⟩ := Kd.at_bool (Kd.R_reads' HO_5.out).2.2 x12_5 p131 q131; (try rw [← Nbq62.out] at hx131_0)
                           (try rw [← Nbq66.out] at hx131_0)
                           obtain rfl : ad130 = ad131 := (by injection e131)
                           replace p131 := eq_true p131; replace q131 := eq_true q131; as_aux_lemma =>
                            refine start_ (n := 37) (S := fun w' => w'.cell? (ad130.add (x11_3).toNat) = some (.bool true) ∧ w'.cell? (ad130.add (x12_5).toNat) = some (.bool false)) (ds := []) b37_30 (by kernel_rfl) rfl rfl ⟨hx130_0, hx131_0⟩ (fun hHeld => ?_); refine with_tabW l7_GraphTree.tab24 l7_GraphTree.bits24 (fun HT_ HW_ => ?_)
                            generalize w59.drew = w88 at HO_3 HO_5 HO_9 HB hx130_0 hx131_0 hHeld ⊢
                            refine pv_ 0 123 b37_31 rfl rfl HT_ ?_
                            refine pv_ 1 124 b37_32 rfl rfl HT_ ?_
                            refine pv_ 2 125 b37_33 rfl rfl HT_ ?_
                            refine pv_ 3 126 b37_34 rfl rfl HT_ ?_
                            refine take_ (i := 4) (N := some 127) (v := ?_) (a' := ?_) b37_35 rfl rfl (take_ofW HT_.out HW_.out (by kernel_rfl)) (fun _ _ _ h => h) (Or.inl ⟨by rfl, ?_⟩) hHeld ?_ ?_
                            rotate_left
                            ·rintro w' ⟨s0, s1⟩
                             go_simp
                             with_reducible rfl
                            rotate_left
                            ·simp only [Act.put, List.setIfInBounds_toArray, List.set_cons_zero, List.set_cons_succ, i64_w, i32_w]
                             rfl
                            refine pv_ 5 128 b37_36 rfl rfl HT_ ?_
                            refine pv_ 6 129 b37_37 rfl rfl HT_ ?_
                            refine pv_ 7 130 b37_38 rfl rfl HT_ ?_
                            refine pv_ 8 131 b37_39 rfl rfl HT_ ?_
                            refine take_ (i := 9) (N := some 132) (v := ?_) (a' := ?_) b37_40 rfl rfl (take_ofW HT_.out HW_.out (by kernel_rfl)) (fun _ _ _ h => h) (Or.inl ⟨by rfl, ?_⟩) hHeld ?_ ?_
                            rotate_left
                            ·rintro w' ⟨s0, s1⟩
                             go_simp
                             with_reducible rfl
                            rotate_left
                            ·simp only [Act.put, List.setIfInBounds_toArray, List.set_cons_zero, List.set_cons_succ, i64_w, i32_w]
                             rfl
                            refine pv_ 10 133 b37_41 rfl rfl HT_ ?_
                            refine pv_ 11 134 b37_42 rfl rfl HT_ ?_
                            refine pu_ 12 135 b37_43 rfl rfl HT_ ?_
                            refine pu_ 13 136 b37_44 rfl rfl HT_ ?_
                            refine pu_ 14 137 b37_45 rfl rfl HT_ ?_
                            refine pu_ 15 138 b37_46 rfl rfl HT_ ?_
                            refine pv_ 16 139 b37_47 rfl rfl HT_ ?_
                            refine pv_ 17 140 b37_48 rfl rfl HT_ ?_
                            refine pv_ 18 141 b37_49 rfl rfl HT_ ?_
                            refine pu_ 19 142 b37_50 rfl rfl HT_ ?_
                            refine pu_ 20 143 b37_51 rfl rfl HT_ ?_
                            refine pu_ 21 144 b37_52 rfl rfl HT_ ?_
                            refine pu_ 22 145 b37_53 rfl rfl HT_ ?_
                            refine pu_ 23 146 b37_54 rfl rfl HT_ ?_
                            refine pu_ 24 147 b37_55 rfl rfl HT_ ?_
                            refine pu_ 25 148 b37_56 rfl rfl HT_ ?_
                            refine pu_ 26 149 b37_57 rfl rfl HT_ ?_
                            refine pu_ 27 150 b37_58 rfl rfl HT_ ?_
                            refine pu_ 28 151 b37_59 rfl rfl HT_ ?_
                            refine pu_ 29 152 b37_60 rfl rfl HT_ ?_
                            refine pu_ 30 153 b37_61 rfl rfl HT_ ?_
                            refine pu_ 31 154 b37_62 rfl rfl HT_ ?_
                            refine pu_ 32 155 b37_63 rfl rfl HT_ ?_
                            refine pu_ 33 156 b37_64 rfl rfl HT_ ?_
                            refine pu_ 34 157 b37_65 rfl rfl HT_ ?_
                            refine pu_ 35 158 b37_66 rfl rfl HT_ ?_
                            refine pv_ 36 159 b37_67 rfl rfl HT_ ?_
                            refine done_ (done_of HT_.out (by kernel_rfl)) ?_
                            try clear c87b0
                            try clear c87b1
                            try clear c87b2
                            try clear c87b3
                            try go_wp2
                            go_meet
                            case rel => exact ⟨_, (true), (by first | rfl | (simp; done) | (simp [*]; done)), H', ⟨by have := HJ6.out; have := HK2.out; have := HK3.out; have := HJ34.out; have := HK5.out; first | omega | exact Nat.le_refl _⟩, ⟨by (with_reducible repeat (first | apply Kd.R_alloc | apply Kd.R_drewN | apply Kd.R_drew)); exact HO_3.out⟩, ⟨by (with_reducible repeat (first | apply Kd.R_alloc | apply Kd.R_drewN | apply Kd.R_drew)); exact HO_5.out⟩, ⟨by (with_reducible repeat (first | apply Kd.R_alloc | apply Kd.R_drewN | apply Kd.R_drew)); exact HO_9.out⟩, ⟨by repeat (first | (with_reducible first | exact HB.out | apply below_alloc | apply pw_below_drewN | apply below_drew1) | exact HB.out)⟩⟩
                          ·rw [if_neg c87] at H; have c87b0 : (t128 != false) = false := by simpa using c87
                           (try (have c87b1 : decide (t128 = false) = true := by simpa using c87))
                           (try (have c87b2 : (t128 == false) = true := by simpa using c87))
                           clear c87; by_cases c90 : t128 = true
                           ·subst c90; have H1 : (if x11_3 = x12_5 then (l7_GraphTree.j5 k5 l0 t103 t107 x9_2 x11_3 x12_5 false) else (if x11_3 < (x9_2.length : Int) then (if x12_5 < (x9_2.length : Int) then (l7_GraphTree.j5 k5 l0 t103 t107 x9_2 x11_3 x12_5 (decide ((rd x9_2 x11_3) ≥ (rd x9_2 x12_5)))) else (none)) else (none))) = some r := by rw [if_pos rfl] at H; exact H
                            clear H; have H := H1; clear H1; by_cases c91 : x11_3 = x12_5
                            ·rw [if_pos c91] at H; have c91b0 : (x11_3 == x12_5) = true := beq_iff_eq.mpr c91
                             have c91b1 : (x11_3 != x12_5) = false := bne_eq_false_iff_eq.mpr c91
                             clear c91; have H' := Aside0.mk H
                             clear H; try go_wp2
                             have n0_ := Aside0.mk (Kd.R_drew HO_3.out); have n1_ := Aside0.mk (Kd.R_drew HO_5.out); have n2_ := Aside0.mk (Kd.R_drew HO_9.out); have n3_ := Aside0.mk (below_drew1 HB.out); clear HO_3; clear HO_5; clear HO_9; clear HB; have HO_3 := n0_; have HO_5 := n1_; have HO_9 := n2_; have HB := n3_; clear n0_ n1_ n2_ n3_; obtain ⟨Ao93, co93, eo93⟩ := Kd.R_slice HO_5.out; (first | subst eo93 | (injection eo93 with f1_ f2_ f3_; have f4_ := f1_.symm; have f5_ := f3_.symm; clear f1_ f2_ f3_; subst f4_; subst f5_))
                             have p130 : 0 ≤ (x11_3 : Int) := of_decide_eq_true (by with_reducible assumption)
                             have q130 : x11_3 < (t107.length : Int) := of_decide_eq_true (by with_reducible assumption)
                             obtain ⟨ad130, e130, hx130_0⟩ := Kd.at_bool (Kd.R_reads' HO_5.out).2.2 x11_3 p130 q130; (try rw [← Nbq62.out] at hx130_0)
                             (try rw [← Nbq66.out] at hx130_0)
                             cases e130; replace p130 := eq_true p130; replace q130 := eq_true q130; have p131 : 0 ≤ (x12_5 : Int) := of_decide_eq_true (by with_reducible assumption)
                             have q131 : x12_5 < (t107.length : Int) := of_decide_eq_true (by with_reducible assumption)
                             obtain ⟨ad131, e131, hx131_0⟩ := Kd.at_bool (Kd.R_reads' HO_5.out).2.2 x12_5 p131 q131; (try rw [← Nbq62.out] at hx131_0)
                             (try rw [← Nbq66.out] at hx131_0)
                             obtain rfl : ad130 = ad131 := (by injection e131)
                             replace p131 := eq_true p131; replace q131 := eq_true q131; as_aux_lemma =>
                              refine start_ (n := 37) (S := fun w' => w'.cell? (ad130.add (x11_3).toNat) = some (.bool true) ∧ w'.cell? (ad130.add (x12_5).toNat) = some (.bool false)) (ds := []) b37_30 (by kernel_rfl) rfl rfl ⟨hx130_0, hx131_0⟩ (fun hHeld => ?_); refine with_tabW l7_GraphTree.tab24 l7_GraphTree.bits24 (fun HT_ HW_ => ?_)
                              generalize w59.drew = w92 at HO_3 HO_5 HO_9 HB hx130_0 hx131_0 hHeld ⊢
                              refine pv_ 0 123 b37_31 rfl rfl HT_ ?_
                              refine pv_ 1 124 b37_32 rfl rfl HT_ ?_
                              refine pv_ 2 125 b37_33 rfl rfl HT_ ?_
                              refine pv_ 3 126 b37_34 rfl rfl HT_ ?_
                              refine take_ (i := 4) (N := some 127) (v := ?_) (a' := ?_) b37_35 rfl rfl (take_ofW HT_.out HW_.out (by kernel_rfl)) (fun _ _ _ h => h) (Or.inl ⟨by rfl, ?_⟩) hHeld ?_ ?_
                              rotate_left
                              ·rintro w' ⟨s0, s1⟩
                               go_simp
                               with_reducible rfl
                              rotate_left
                              ·simp only [Act.put, List.setIfInBounds_toArray, List.set_cons_zero, List.set_cons_succ, i64_w, i32_w]
                               rfl
                              refine pv_ 5 128 b37_36 rfl rfl HT_ ?_
                              refine pv_ 6 129 b37_37 rfl rfl HT_ ?_
                              refine pv_ 7 130 b37_38 rfl rfl HT_ ?_
                              refine pv_ 8 131 b37_39 rfl rfl HT_ ?_
                              refine take_ (i := 9) (N := some 132) (v := ?_) (a' := ?_) b37_40 rfl rfl (take_ofW HT_.out HW_.out (by kernel_rfl)) (fun _ _ _ h => h) (Or.inl ⟨by rfl, ?_⟩) hHeld ?_ ?_
                              rotate_left
                              ·rintro w' ⟨s0, s1⟩
                               go_simp
                               with_reducible rfl
                              rotate_left
                              ·simp only [Act.put, List.setIfInBounds_toArray, List.set_cons_zero, List.set_cons_succ, i64_w, i32_w]
                               rfl
                              refine pv_ 10 133 b37_41 rfl rfl HT_ ?_
                              refine pv_ 11 134 b37_42 rfl rfl HT_ ?_
                              refine pu_ 12 135 b37_43 rfl rfl HT_ ?_
                              refine pu_ 13 136 b37_44 rfl rfl HT_ ?_
                              refine pu_ 14 137 b37_45 rfl rfl HT_ ?_
                              refine pu_ 15 138 b37_46 rfl rfl HT_ ?_
                              refine pv_ 16 139 b37_47 rfl rfl HT_ ?_
                              refine pv_ 17 140 b37_48 rfl rfl HT_ ?_
                              refine pv_ 18 141 b37_49 rfl rfl HT_ ?_
                              refine pv_ 19 142 b37_50 rfl rfl HT_ ?_
                              refine pv_ 20 143 b37_51 rfl rfl HT_ ?_
                              refine pv_ 21 144 b37_52 rfl rfl HT_ ?_
                              refine pv_ 22 145 b37_53 rfl rfl HT_ ?_
                              refine pv_ 23 146 b37_54 rfl rfl HT_ ?_
                              refine pv_ 24 147 b37_55 rfl rfl HT_ ?_
                              refine pv_ 25 148 b37_56 rfl rfl HT_ ?_
                              refine pu_ 26 149 b37_57 rfl rfl HT_ ?_
                              refine pu_ 27 150 b37_58 rfl rfl HT_ ?_
                              refine pu_ 28 151 b37_59 rfl rfl HT_ ?_
                              refine pu_ 29 152 b37_60 rfl rfl HT_ ?_
                              refine pu_ 30 153 b37_61 rfl rfl HT_ ?_
                              refine pu_ 31 154 b37_62 rfl rfl HT_ ?_
                              refine pu_ 32 155 b37_63 rfl rfl HT_ ?_
                              refine pu_ 33 156 b37_64 rfl rfl HT_ ?_
                              refine pu_ 34 157 b37_65 rfl rfl HT_ ?_
                              refine pv_ 35 158 b37_66 rfl rfl HT_ ?_
                              refine pv_ 36 159 b37_67 rfl rfl HT_ ?_
                              refine done_ (done_of HT_.out (by kernel_rfl)) ?_
                              try go_wp2
                              go_meet
                              case rel => exact ⟨_, (false), (by first | rfl | (simp; done) | (simp [*]; done)), H', ⟨by have := HJ6.out; have := HK2.out; have := HK3.out; have := HJ34.out; have := HK5.out; first | omega | exact Nat.le_refl _⟩, ⟨by (with_reducible repeat (first | apply Kd.R_alloc | apply Kd.R_drewN | apply Kd.R_drew)); exact HO_3.out⟩, ⟨by (with_reducible repeat (first | apply Kd.R_alloc | apply Kd.R_drewN | apply Kd.R_drew)); exact HO_5.out⟩, ⟨by (with_reducible repeat (first | apply Kd.R_alloc | apply Kd.R_drewN | apply Kd.R_drew)); exact HO_9.out⟩, ⟨by repeat (first | (with_reducible first | exact HB.out | apply below_alloc | apply pw_below_drewN | apply below_drew1) | exact HB.out)⟩⟩
                            ·rw [if_neg c91] at H; have c91b0 : (x11_3 == x12_5) = false := beq_eq_false_iff_ne.mpr c91
                             have c91b1 : (x11_3 != x12_5) = true := bne_iff_ne.mpr c91
                             by_cases c94 : x11_3 < (x9_2.length : Int)
                             ·rw [if_pos c94] at H; have c94b0 : decide (x11_3 < (x9_2.length : Int)) = true := decide_eq_true c94
                              clear c94; by_cases c95 : x12_5 < (x9_2.length : Int)
                              ·rw [if_pos c95] at H; have c95b0 : decide (x12_5 < (x9_2.length : Int)) = true := decide_eq_true c95
                               clear c95; have H' := Aside0.mk H
                               clear H; try go_wp2
                               have n0_ := Aside0.mk (Kd.R_drew HO_3.out); have n1_ := Aside0.mk (Kd.R_drew HO_5.out); have n2_ := Aside0.mk (Kd.R_drew HO_9.out); have n3_ := Aside0.mk (below_drew1 HB.out); clear HO_3; clear HO_5; clear HO_9; clear HB; have HO_3 := n0_; have HO_5 := n1_; have HO_9 := n2_; have HB := n3_; clear n0_ n1_ n2_ n3_; obtain ⟨Ao97, co97, eo97⟩ := Kd.R_slice HO_5.out; (first | subst eo97 | (injection eo97 with f1_ f2_ f3_; have f4_ := f1_.symm; have f5_ := f3_.symm; clear f1_ f2_ f3_; subst f4_; subst f5_))
                               have p130 : 0 ≤ (x11_3 : Int) := of_decide_eq_true (by with_reducible assumption)
                               have q130 : x11_3 < (t107.length : Int) := of_decide_eq_true (by with_reducible assumption)
                               obtain ⟨ad130, e130, hx130_0⟩ := Kd.at_bool (Kd.R_reads' HO_5.out).2.2 x11_3 p130 q130; (try rw [← Nbq62.out] at hx130_0)
                               (try rw [← Nbq66.out] at hx130_0)
                               cases e130; replace p130 := eq_true p130; replace q130 := eq_true q130; have p131 : 0 ≤ (x12_5 : Int) := of_decide_eq_true (by with_reducible assumption)
                               have q131 : x12_5 < (t107.length : Int) := of_decide_eq_true (by with_reducible assumption)
                               obtain ⟨ad131, e131, hx131_0⟩ := Kd.at_bool (Kd.R_reads' HO_5.out).2.2 x12_5 p131 q131; (try rw [← Nbq62.out] at hx131_0)
                               (try rw [← Nbq66.out] at hx131_0)
                               obtain rfl : ad130 = ad131 := (by injection e131)
                               replace p131 := eq_true p131; replace q131 := eq_true q131; obtain ⟨Ao98, co98, eo98⟩ := Kd.R_slice HO_9.out; (first | subst eo98 | (injection eo98 with f1_ f2_ f3_; have f4_ := f1_.symm; have f5_ := f3_.symm; clear f1_ f2_ f3_; subst f4_; subst f5_))
                               have p135 : 0 ≤ (x11_3 : Int) := of_decide_eq_true (by with_reducible assumption)
                               have q135 : x11_3 < (x9_2.length : Int) := of_decide_eq_true (by with_reducible assumption)
                               obtain ⟨ad135, e135, hx135_0⟩ := Kd.at_int (Kd.R_reads' HO_9.out).2.2 x11_3 p135 q135; cases e135; replace p135 := eq_true p135; replace q135 := eq_true q135; have p136 : 0 ≤ (x12_5 : Int) := of_decide_eq_true (by with_reducible assumption)
                               have q136 : x12_5 < (x9_2.length : Int) := of_decide_eq_true (by with_reducible assumption)
                               obtain ⟨ad136, e136, hx136_0⟩ := Kd.at_int (Kd.R_reads' HO_9.out).2.2 x12_5 p136 q136; obtain rfl : ad135 = ad136 := (by injection e136)
                               replace p136 := eq_true p136; replace q136 := eq_true q136; as_aux_lemma =>
                                refine start_ (n := 37) (S := fun w' => w'.cell? (ad130.add (x11_3).toNat) = some (.bool true) ∧ w'.cell? (ad130.add (x12_5).toNat) = some (.bool false) ∧ w'.cell? (ad135.add (x11_3).toNat) = some (.int .i64 (rd x9_2 x11_3)) ∧ w'.cell? (ad135.add (x12_5).toNat) = some (.int .i64 (rd x9_2 x12_5))) (ds := []) b37_30 (by kernel_rfl) rfl rfl ⟨hx130_0, hx131_0, hx135_0, hx136_0⟩ (fun hHeld => ?_); refine with_tabW l7_GraphTree.tab24 l7_GraphTree.bits24 (fun HT_ HW_ => ?_)
                                generalize w59.drew = w96 at HO_3 HO_5 HO_9 HB hx130_0 hx131_0 hx135_0 hx136_0 hHeld ⊢
                                refine pv_ 0 123 b37_31 rfl rfl HT_ ?_
                                refine pv_ 1 124 b37_32 rfl rfl HT_ ?_
                                refine pv_ 2 125 b37_33 rfl rfl HT_ ?_
                                refine pv_ 3 126 b37_34 rfl rfl HT_ ?_
                                refine take_ (i := 4) (N := some 127) (v := ?_) (a' := ?_) b37_35 rfl rfl (take_ofW HT_.out HW_.out (by kernel_rfl)) (fun _ _ _ h => h) (Or.inl ⟨by rfl, ?_⟩) hHeld ?_ ?_
                                rotate_left
                                ·rintro w' ⟨s0, s1, s2, s3⟩
                                 go_simp
                                 with_reducible rfl
                                rotate_left
                                ·simp only [Act.put, List.setIfInBounds_toArray, List.set_cons_zero, List.set_cons_succ, i64_w, i32_w]
                                 rfl
                                refine pv_ 5 128 b37_36 rfl rfl HT_ ?_
                                refine pv_ 6 129 b37_37 rfl rfl HT_ ?_
                                refine pv_ 7 130 b37_38 rfl rfl HT_ ?_
                                refine pv_ 8 131 b37_39 rfl rfl HT_ ?_
                                refine take_ (i := 9) (N := some 132) (v := ?_) (a' := ?_) b37_40 rfl rfl (take_ofW HT_.out HW_.out (by kernel_rfl)) (fun _ _ _ h => h) (Or.inl ⟨by rfl, ?_⟩) hHeld ?_ ?_
                                rotate_left
                                ·rintro w' ⟨s0, s1, s2, s3⟩
                                 go_simp
                                 with_reducible rfl
                                rotate_left
                                ·simp only [Act.put, List.setIfInBounds_toArray, List.set_cons_zero, List.set_cons_succ, i64_w, i32_w]
                                 rfl
                                refine pv_ 10 133 b37_41 rfl rfl HT_ ?_
                                refine pv_ 11 134 b37_42 rfl rfl HT_ ?_
                                refine pu_ 12 135 b37_43 rfl rfl HT_ ?_
                                refine pu_ 13 136 b37_44 rfl rfl HT_ ?_
                                refine pu_ 14 137 b37_45 rfl rfl HT_ ?_
                                refine pu_ 15 138 b37_46 rfl rfl HT_ ?_
                                refine pv_ 16 139 b37_47 rfl rfl HT_ ?_
                                refine pv_ 17 140 b37_48 rfl rfl HT_ ?_
                                refine pv_ 18 141 b37_49 rfl rfl HT_ ?_
                                refine pv_ 19 142 b37_50 rfl rfl HT_ ?_
                                refine pv_ 20 143 b37_51 rfl rfl HT_ ?_
                                refine pv_ 21 144 b37_52 rfl rfl HT_ ?_
                                refine pv_ 22 145 b37_53 rfl rfl HT_ ?_
                                refine pv_ 23 146 b37_54 rfl rfl HT_ ?_
                                refine pv_ 24 147 b37_55 rfl rfl HT_ ?_
                                refine pv_ 25 148 b37_56 rfl rfl HT_ ?_
                                refine pv_ 26 149 b37_57 rfl rfl HT_ ?_
                                refine pv_ 27 150 b37_58 rfl rfl HT_ ?_
                                refine pv_ 28 151 b37_59 rfl rfl HT_ ?_
                                refine pv_ 30 153 b37_68 rfl rfl HT_ ?_
                                refine pv_ 31 154 b37_69 rfl rfl HT_ ?_
                                refine pv_ 32 155 b37_70 rfl rfl HT_ ?_
                                refine take_ (i := 29) (N := some 152) (v := ?_) (a' := ?_) b37_63 rfl rfl (take_ofW HT_.out HW_.out (by kernel_rfl)) (fun _ _ _ h => h) (Or.inl ⟨by rfl, ?_⟩) hHeld ?_ ?_
                                rotate_left
                                ·rintro w' ⟨s0, s1, s2, s3⟩
                                 go_simp
                                 with_reducible rfl
                                rotate_left
                                ·simp only [Act.put, List.setIfInBounds_toArray, List.set_cons_zero, List.set_cons_succ, i64_w, i32_w]
                                 rfl
                                refine take_ (i := 33) (N := some 156) (v := ?_) (a' := ?_) b37_64 rfl rfl (take_ofW HT_.out HW_.out (by kernel_rfl)) (fun _ _ _ h => h) (Or.inl ⟨by rfl, ?_⟩) hHeld ?_ ?_
                                rotate_left
                                ·rintro w' ⟨s0, s1, s2, s3⟩
                                 go_simp
                                 with_reducible rfl
                                rotate_left
                                ·simp only [Act.put, List.setIfInBounds_toArray, List.set_cons_zero, List.set_cons_succ, i64_w, i32_w]
                                 rfl
                                refine pv_ 34 157 b37_65 rfl rfl HT_ ?_
                                refine pv_ 35 158 b37_66 rfl rfl HT_ ?_
                                refine pv_ 36 159 b37_67 rfl rfl HT_ ?_
                                refine done_ (done_of HT_.out (by kernel_rfl)) ?_
                                try go_wp2
                                go_meet
                                case rel => exact ⟨_, (decide ((rd x9_2 x11_3) ≥ (rd x9_2 x12_5))), (by first | rfl | (simp; done) | (simp [*]; done)), H', ⟨by have := HJ6.out; have := HK2.out; have := HK3.out; have := HJ34.out; have := HK5.out; first | omega | exact Nat.le_refl _⟩, ⟨by (with_reducible repeat (first | apply Kd.R_alloc | apply Kd.R_drewN | apply Kd.R_drew)); exact HO_3.out⟩, ⟨by (with_reducible repeat (first | apply Kd.R_alloc | apply Kd.R_drewN | apply Kd.R_drew)); exact HO_5.out⟩, ⟨by (with_reducible repeat (first | apply Kd.R_alloc | apply Kd.R_drewN | apply Kd.R_drew)); exact HO_9.out⟩, ⟨by repeat (first | (with_reducible first | exact HB.out | apply below_alloc | apply pw_below_drewN | apply below_drew1) | exact HB.out)⟩⟩
                              ·rw [if_neg c95] at H; exact absurd H (by simp)
                             ·rw [if_neg c94] at H; exact absurd H (by simp)
                           ·replace c90 := Bool.eq_false_iff.mpr c90; subst c90; have H1 : (l7_GraphTree.j5 k5 l0 t103 t107 x9_2 x11_3 x12_5 false) = some r := by rw [if_neg (show ¬ (false = true) by decide)] at H; exact H
                            clear H; have H := H1; clear H1; have H' := Aside0.mk H
                            clear H; try go_wp2
                            have n0_ := Aside0.mk (Kd.R_drew HO_3.out); have n1_ := Aside0.mk (Kd.R_drew HO_5.out); have n2_ := Aside0.mk (Kd.R_drew HO_9.out); have n3_ := Aside0.mk (below_drew1 HB.out); clear HO_3; clear HO_5; clear HO_9; clear HB; have HO_3 := n0_; have HO_5 := n1_; have HO_9 := n2_; have HB := n3_; clear n0_ n1_ n2_ n3_; obtain ⟨Ao100, co100, eo100⟩ := Kd.R_slice HO_5.out; (first | subst eo100 | (injection eo100 with f1_ f2_ f3_; have f4_ := f1_.symm; have f5_ := f3_.symm; clear f1_ f2_ f3_; subst f4_; subst f5_))
                            have p130 : 0 ≤ (x11_3 : Int) := of_decide_eq_true (by with_reducible assumption)
                            have q130 : x11_3 < (t107.length : Int) := of_decide_eq_true (by with_reducible assumption)
                            obtain ⟨ad130, e130, hx130_0⟩ := Kd.at_bool (Kd.R_reads' HO_5.out).2.2 x11_3 p130 q130; (try rw [← Nbq62.out] at hx130_0)
                            (try rw [← Nbq66.out] at hx130_0)
                            cases e130; replace p130 := eq_true p130; replace q130 := eq_true q130; have p131 : 0 ≤ (x12_5 : Int) := of_decide_eq_true (by with_reducible assumption)
                            have q131 : x12_5 < (t107.length : Int) := of_decide_eq_true (by with_reducible assumption)
                            obtain ⟨ad131, e131, hx131_0⟩ := Kd.at_bool (Kd.R_reads' HO_5.out).2.2 x12_5 p131 q131; (try rw [← Nbq62.out] at hx131_0)
                            (try rw [← Nbq66.out] at hx131_0)
                            obtain rfl : ad130 = ad131 := (by injection e131)
                            replace p131 := eq_true p131; replace q131 := eq_true q131; as_aux_lemma =>
                             refine start_ (n := 37) (S := fun w' => w'.cell? (ad130.add (x11_3).toNat) = some (.bool true) ∧ w'.cell? (ad130.add (x12_5).toNat) = some (.bool false)) (ds := []) b37_30 (by kernel_rfl) rfl rfl ⟨hx130_0, hx131_0⟩ (fun hHeld => ?_); refine with_tabW l7_GraphTree.tab24 l7_GraphTree.bits24 (fun HT_ HW_ => ?_)
                             generalize w59.drew = w99 at HO_3 HO_5 HO_9 HB hx130_0 hx131_0 hHeld ⊢
                             refine pv_ 0 123 b37_31 rfl rfl HT_ ?_
                             refine pv_ 1 124 b37_32 rfl rfl HT_ ?_
                             refine pv_ 2 125 b37_33 rfl rfl HT_ ?_
                             refine pv_ 3 126 b37_34 rfl rfl HT_ ?_
                             refine take_ (i := 4) (N := some 127) (v := ?_) (a' := ?_) b37_35 rfl rfl (take_ofW HT_.out HW_.out (by kernel_rfl)) (fun _ _ _ h => h) (Or.inl ⟨by rfl, ?_⟩) hHeld ?_ ?_
                             rotate_left
                             ·rintro w' ⟨s0, s1⟩
                              go_simp
                              with_reducible rfl
                             rotate_left
                             ·simp only [Act.put, List.setIfInBounds_toArray, List.set_cons_zero, List.set_cons_succ, i64_w, i32_w]
                              rfl
                             refine pv_ 5 128 b37_36 rfl rfl HT_ ?_
                             refine pv_ 6 129 b37_37 rfl rfl HT_ ?_
                             refine pv_ 7 130 b37_38 rfl rfl HT_ ?_
                             refine pv_ 8 131 b37_39 rfl rfl HT_ ?_
                             refine take_ (i := 9) (N := some 132) (v := ?_) (a' := ?_) b37_40 rfl rfl (take_ofW HT_.out HW_.out (by kernel_rfl)) (fun _ _ _ h => h) (Or.inl ⟨by rfl, ?_⟩) hHeld ?_ ?_
                             rotate_left
                             ·rintro w' ⟨s0, s1⟩
                              go_simp
                              with_reducible rfl
                             rotate_left
                             ·simp only [Act.put, List.setIfInBounds_toArray, List.set_cons_zero, List.set_cons_succ, i64_w, i32_w]
                              rfl
                             refine pv_ 10 133 b37_41 rfl rfl HT_ ?_
                             refine pv_ 11 134 b37_42 rfl rfl HT_ ?_
                             refine pu_ 12 135 b37_43 rfl rfl HT_ ?_
                             refine pu_ 13 136 b37_44 rfl rfl HT_ ?_
                             refine pu_ 14 137 b37_45 rfl rfl HT_ ?_
                             refine pu_ 15 138 b37_46 rfl rfl HT_ ?_
                             refine pv_ 16 139 b37_47 rfl rfl HT_ ?_
                             refine pv_ 17 140 b37_48 rfl rfl HT_ ?_
                             refine pv_ 18 141 b37_49 rfl rfl HT_ ?_
                             refine pv_ 19 142 b37_50 rfl rfl HT_ ?_
                             refine pv_ 20 143 b37_51 rfl rfl HT_ ?_
                             refine pu_ 21 144 b37_52 rfl rfl HT_ ?_
                             refine pu_ 22 145 b37_53 rfl rfl HT_ ?_
                             refine pu_ 23 146 b37_54 rfl rfl HT_ ?_
                             refine pv_ 24 147 b37_55 rfl rfl HT_ ?_
                             refine pv_ 25 148 b37_56 rfl rfl HT_ ?_
                             refine pu_ 26 149 b37_57 rfl rfl HT_ ?_
                             refine pu_ 27 150 b37_58 rfl rfl HT_ ?_
                             refine pu_ 28 151 b37_59 rfl rfl HT_ ?_
                             refine pu_ 29 152 b37_60 rfl rfl HT_ ?_
                             refine pu_ 30 153 b37_61 rfl rfl HT_ ?_
                             refine pu_ 31 154 b37_62 rfl rfl HT_ ?_
                             refine pu_ 32 155 b37_63 rfl rfl HT_ ?_
                             refine pu_ 33 156 b37_64 rfl rfl HT_ ?_
                             refine pu_ 34 157 b37_65 rfl rfl HT_ ?_
                             refine pv_ 35 158 b37_66 rfl rfl HT_ ?_
                             refine pv_ 36 159 b37_67 rfl rfl HT_ ?_
                             refine done_ (done_of HT_.out (by kernel_rfl)) ?_
                             try go_wp2
                             go_meet
                             case rel => exact ⟨_, (false), (by first | rfl | (simp; done) | (simp [*]; done)), H', ⟨by have := HJ6.out; have := HK2.out; have := HK3.out; have := HJ34.out; have := HK5.out; first | omega | exact Nat.le_refl _⟩, ⟨by (with_reducible repeat (first | apply Kd.R_alloc | apply Kd.R_drewN | apply Kd.R_drew)); exact HO_3.out⟩, ⟨by (with_reducible repeat (first | apply Kd.R_alloc | apply Kd.R_drewN | apply Kd.R_drew)); exact HO_5.out⟩, ⟨by (with_reducible repeat (first | apply Kd.R_alloc | apply Kd.R_drewN | apply Kd.R_drew)); exact HO_9.out⟩, ⟨by repeat (first | (with_reducible first | exact HB.out | apply below_alloc | apply pw_below_drewN | apply below_drew1) | exact HB.out)⟩⟩
                        ·rw [if_neg c65] at H; exact absurd H (by simp)
                       ·rw [if_neg c64] at H; exact absurd H (by simp)
                      ·replace c63 := Bool.eq_false_iff.mpr c63; subst c63; have H1 : (if (t128 != false) = true then (l7_GraphTree.j5 k5 l0 t103 t107 x9_2 x11_3 x12_5 true) else (if t128 = true then (if x11_3 = x12_5 then (l7_GraphTree.j5 k5 l0 t103 t107 x9_2 x11_3 x12_5 false) else (if x11_3 < (x9_2.length : Int) then (if 0 ≤ x12_5 then (if x12_5 < (x9_2.length : Int) then (l7_GraphTree.j5 k5 l0 t103 t107 x9_2 x11_3 x12_5 (decide ((rd x9_2 x11_3) ≥ (rd x9_2 x12_5)))) else (none)) else (none)) else (none))) else (l7_GraphTree.j5 k5 l0 t103 t107 x9_2 x11_3 x12_5 false))) = some r := by rw [if_neg (show ¬ (false = true) by decide)] at H; exact H
                       clear H; have H := H1; clear H1; by_cases c101 : (t128 != false) = true
                       ·rw [if_pos c101] at H; have c101b0 : (t128 != false) = true := c101
                        (try (have c101b1 : decide (t128 = false) = false := by simpa using c101))
                        (try (have c101b2 : (t128 == false) = false := by simpa using c101))
                        (try (have c101b3 : ¬ (t128 = false) := by simpa using c101))
                        clear c101; have H' := Aside0.mk H
                        clear H; try go_wp2
                        have n0_ := Aside0.mk (Kd.R_drew HO_3.out); have n1_ := Aside0.mk (Kd.R_drew HO_5.out); have n2_ := Aside0.mk (Kd.R_drew HO_9.out); have n3_ := Aside0.mk (below_drew1 HB.out); clear HO_3; clear HO_5; clear HO_9; clear HB; have HO_3 := n0_; have HO_5 := n1_; have HO_9 := n2_; have HB := n3_; clear n0_ n1_ n2_ n3_; obtain ⟨Ao103, co103, eo103⟩ := Kd.R_slice HO_5.out; (first | subst eo103 | (injection eo103 with f1_ f2_ f3_; have f4_ := f1_.symm; have f5_ := f3_.symm; clear f1_ f2_ f3_; subst f4_; subst f5_))
                        have p130 : 0 ≤ (x11_3 : Int) := of_decide_eq_true (by with_reducible assumption)
                        have q130 : x11_3 < (t107.length : Int) := of_decide_eq_true (by with_reducible assumption)
                        obtain ⟨ad130, e130, hx130_0⟩ := Kd.at_bool (Kd.R_reads' HO_5.out).2.2 x11_3 p130 q130; (try rw [← Nbq62.out] at hx130_0)
                        cases e130; replace p130 := eq_true p130; replace q130 := eq_true q130; as_aux_lemma =>
                         refine start_ (n := 37) (S := fun w' => w'.cell? (ad130.add (x11_3).toNat) = some (.bool false)) (ds := []) b37_30 (by kernel_rfl) rfl rfl (hx130_0) (fun hHeld => ?_); refine with_tabW l7_GraphTree.tab24 l7_GraphTree.bits24 (fun HT_ HW_ => ?_)
                         generalize w59.drew = w102 at HO_3 HO_5 HO_9 HB hx130_0 hHeld ⊢
                         refine pv_ 0 123 b37_31 rfl rfl HT_ ?_
                         refine pv_ 1 124 b37_32 rfl rfl HT_ ?_
                         refine pv_ 2 125 b37_33 rfl rfl HT_ ?_
                         refine pv_ 3 126 b37_34 rfl rfl HT_ ?_
                         refine tk_ 4 127 b37_35 rfl rfl HT_ HW_ hHeld ?_
                         refine pv_ 5 128 b37_36 rfl rfl HT_ ?_
                         refine pu_ 6 129 b37_37 rfl rfl HT_ ?_
                         refine pu_ 7 130 b37_38 rfl rfl HT_ ?_
                         refine pu_ 8 131 b37_39 rfl rfl HT_ ?_
                         refine pu_ 9 132 b37_40 rfl rfl HT_ ?_
                         refine pv_ 10 133 b37_41 rfl rfl HT_ ?_
                         refine pv_ 11 134 b37_42 rfl rfl HT_ ?_
                         refine pu_ 12 135 b37_43 rfl rfl HT_ ?_
                         refine pu_ 13 136 b37_44 rfl rfl HT_ ?_
                         refine pu_ 14 137 b37_45 rfl rfl HT_ ?_
                         refine pu_ 15 138 b37_46 rfl rfl HT_ ?_
                         refine pv_ 16 139 b37_47 rfl rfl HT_ ?_
                         refine pv_ 17 140 b37_48 rfl rfl HT_ ?_
                         refine pv_ 18 141 b37_49 rfl rfl HT_ ?_
                         refine pu_ 19 142 b37_50 rfl rfl HT_ ?_
                         refine pu_ 20 143 b37_51 rfl rfl HT_ ?_
                         refine pu_ 21 144 b37_52 rfl rfl HT_ ?_
                         refine pu_ 22 145 b37_53 rfl rfl HT_ ?_
                         refine pu_ 23 146 b37_54 rfl rfl HT_ ?_
                         refine pu_ 24 147 b37_55 rfl rfl HT_ ?_
                         refine pu_ 25 148 b37_56 rfl rfl HT_ ?_
                         refine pu_ 26 149 b37_57 rfl rfl HT_ ?_
                         refine pu_ 27 150 b37_58 rfl rfl HT_ ?_
                         refine pu_ 28 151 b37_59 rfl rfl HT_ ?_
                         refine pu_ 29 152 b37_60 rfl rfl HT_ ?_
                         refine pu_ 30 153 b37_61 rfl rfl HT_ ?_
                         refine pu_ 31 154 b37_62 rfl rfl HT_ ?_
                         refine pu_ 32 155 b37_63 rfl rfl HT_ ?_
                         refine pu_ 33 156 b37_64 rfl rfl HT_ ?_
                         refine pu_ 34 157 b37_65 rfl rfl HT_ ?_
                         refine pu_ 35 158 b37_66 rfl rfl HT_ ?_
                         refine pv_ 36 159 b37_67 rfl rfl HT_ ?_
                         refine done_ (done_of HT_.out (by kernel_rfl)) ?_
                         try go_wp2
                         go_meet
                         case rel => exact ⟨_, (true), (by first | rfl | (simp; done) | (simp [*]; done)), H', ⟨by have := HJ6.out; have := HK2.out; have := HK3.out; have := HJ34.out; have := HK5.out; first | omega | exact Nat.le_refl _⟩, ⟨by (with_reducible repeat (first | apply Kd.R_alloc | apply Kd.R_drewN | apply Kd.R_drew)); exact HO_3.out⟩, ⟨by (with_reducible repeat (first | apply Kd.R_alloc | apply Kd.R_drewN | apply Kd.R_drew)); exact HO_5.out⟩, ⟨by (with_reducible repeat (first | apply Kd.R_alloc | apply Kd.R_drewN | apply Kd.R_drew)); exact HO_9.out⟩, ⟨by repeat (first | (with_reducible first | exact HB.out | apply below_alloc | apply pw_below_drewN | apply below_drew1) | exact HB.out)⟩⟩
                       ·rw [if_neg c101] at H; have c101b0 : (t128 != false) = false := by simpa using c101
                        (try (have c101b1 : decide (t128 = false) = true := by simpa using c101))
                        (try (have c101b2 : (t128 == false) = true := by simpa using c101))
                        clear c101; by_cases c104 : t128 = true
                        ·subst c104; have H1 : (if x11_3 = x12_5 then (l7_GraphTree.j5 k5 l0 t103 t107 x9_2 x11_3 x12_5 false) else (if x11_3 < (x9_2.length : Int) then (if 0 ≤ x12_5 then (if x12_5 < (x9_2.length : Int) then (l7_GraphTree.j5 k5 l0 t103 t107 x9_2 x11_3 x12_5 (decide ((rd x9_2 x11_3) ≥ (rd x9_2 x12_5)))) else (none)) else (none)) else (none))) = some r := by rw [if_pos rfl] at H; exact H
                         clear H; have H := H1; clear H1; by_cases c105 : x11_3 = x12_5
                         ·rw [if_pos c105] at H; have c105b0 : (x11_3 == x12_5) = true := beq_iff_eq.mpr c105
                          have c105b1 : (x11_3 != x12_5) = false := bne_eq_false_iff_eq.mpr c105
                          clear c105; have H' := Aside0.mk H
                          clear H; try go_wp2
                          have n0_ := Aside0.mk (Kd.R_drew HO_3.out); have n1_ := Aside0.mk (Kd.R_drew HO_5.out); have n2_ := Aside0.mk (Kd.R_drew HO_9.out); have n3_ := Aside0.mk (below_drew1 HB.out); clear HO_3; clear HO_5; clear HO_9; clear HB; have HO_3 := n0_; have HO_5 := n1_; have HO_9 := n2_; have HB := n3_; clear n0_ n1_ n2_ n3_; obtain ⟨Ao107, co107, eo107⟩ := Kd.R_slice HO_5.out; (first | subst eo107 | (injection eo107 with f1_ f2_ f3_; have f4_ := f1_.symm; have f5_ := f3_.symm; clear f1_ f2_ f3_; subst f4_; subst f5_))
                          have p130 : 0 ≤ (x11_3 : Int) := of_decide_eq_true (by with_reducible assumption)
                          have q130 : x11_3 < (t107.length : Int) := of_decide_eq_true (by with_reducible assumption)
                          obtain ⟨ad130, e130, hx130_0⟩ := Kd.at_bool (Kd.R_reads' HO_5.out).2.2 x11_3 p130 q130; (try rw [← Nbq62.out] at hx130_0)
                          cases e130; replace p130 := eq_true p130; replace q130 := eq_true q130; as_aux_lemma =>
                           refine start_ (n := 37) (S := fun w' => w'.cell? (ad130.add (x11_3).toNat) = some (.bool false)) (ds := []) b37_30 (by kernel_rfl) rfl rfl (hx130_0) (fun hHeld => ?_); refine with_tabW l7_GraphTree.tab24 l7_GraphTree.bits24 (fun HT_ HW_ => ?_)
                           generalize w59.drew = w106 at HO_3 HO_5 HO_9 HB hx130_0 hHeld ⊢
                           refine pv_ 0 123 b37_31 rfl rfl HT_ ?_
                           refine pv_ 1 124 b37_32 rfl rfl HT_ ?_
                           refine pv_ 2 125 b37_33 rfl rfl HT_ ?_
                           refine pv_ 3 126 b37_34 rfl rfl HT_ ?_
                           refine tk_ 4 127 b37_35 rfl rfl HT_ HW_ hHeld ?_
                           refine pv_ 5 128 b37_36 rfl rfl HT_ ?_
                           refine pu_ 6 129 b37_37 rfl rfl HT_ ?_
                           refine pu_ 7 130 b37_38 rfl rfl HT_ ?_
                           refine pu_ 8 131 b37_39 rfl rfl HT_ ?_
                           refine pu_ 9 132 b37_40 rfl rfl HT_ ?_
                           refine pv_ 10 133 b37_41 rfl rfl HT_ ?_
                           refine pv_ 11 134 b37_42 rfl rfl HT_ ?_
                           refine pu_ 12 135 b37_43 rfl rfl HT_ ?_
                           refine pu_ 13 136 b37_44 rfl rfl HT_ ?_
                           refine pu_ 14 137 b37_45 rfl rfl HT_ ?_
                           refine pu_ 15 138 b37_46 rfl rfl HT_ ?_
                           refine pv_ 16 139 b37_47 rfl rfl HT_ ?_
                           refine pv_ 17 140 b37_48 rfl rfl HT_ ?_
                           refine pv_ 18 141 b37_49 rfl rfl HT_ ?_
                           refine pv_ 19 142 b37_50 rfl rfl HT_ ?_
                           refine pv_ 20 143 b37_51 rfl rfl HT_ ?_
                           refine pv_ 21 144 b37_52 rfl rfl HT_ ?_
                           refine pv_ 22 145 b37_53 rfl rfl HT_ ?_
                           refine pv_ 23 146 b37_54 rfl rfl HT_ ?_
                           refine pv_ 24 147 b37_55 rfl rfl HT_ ?_
                           refine pv_ 25 148 b37_56 rfl rfl HT_ ?_
                           refine pu_ 26 149 b37_57 rfl rfl HT_ ?_
                           refine pu_ 27 150 b37_58 rfl rfl HT_ ?_
                           refine pu_ 28 151 b37_59 rfl rfl HT_ ?_
                           refine pu_ 29 152 b37_60 rfl rfl HT_ ?_
                           refine pu_ 30 153 b37_61 rfl rfl HT_ ?_
                           refine pu_ 31 154 b37_62 rfl rfl HT_ ?_
                           refine pu_ 32 155 b37_63 rfl rfl HT_ ?_
                           refine pu_ 33 156 b37_64 rfl rfl HT_ ?_
                           refine pu_ 34 157 b37_65 rfl rfl HT_ ?_
                           refine pv_ 35 158 b37_66 rfl rfl HT_ ?_
                           refine pv_ 36 159 b37_67 rfl rfl HT_ ?_
                           refine done_ (done_of HT_.out (by kernel_rfl)) ?_
                           try go_wp2
                           go_meet
                           case rel => exact ⟨_, (false), (by first | rfl | (simp; done) | (simp [*]; done)), H', ⟨by have := HJ6.out; have := HK2.out; have := HK3.out; have := HJ34.out; have := HK5.out; first | omega | exact Nat.le_refl _⟩, ⟨by (with_reducible repeat (first | apply Kd.R_alloc | apply Kd.R_drewN | apply Kd.R_drew)); exact HO_3.out⟩, ⟨by (with_reducible repeat (first | apply Kd.R_alloc | apply Kd.R_drewN | apply Kd.R_drew)); exact HO_5.out⟩, ⟨by (with_reducible repeat (first | apply Kd.R_alloc | apply Kd.R_drewN | apply Kd.R_drew)); exact HO_9.out⟩, ⟨by repeat (first | (with_reducible first | exact HB.out | apply below_alloc | apply pw_below_drewN | apply below_drew1) | exact HB.out)⟩⟩
                         ·rw [if_neg c105] at H; have c105b0 : (x11_3 == x12_5) = false := beq_eq_false_iff_ne.mpr c105
                          have c105b1 : (x11_3 != x12_5) = true := bne_iff_ne.mpr c105
                          by_cases c108 : x11_3 < (x9_2.length : Int)
                          ·rw [if_pos c108] at H; have c108b0 : decide (x11_3 < (x9_2.length : Int)) = true := decide_eq_true c108
                           clear c108; by_cases c109 : 0 ≤ x12_5
                           ·rw [if_pos c109] at H; have c109b0 : decide (0 ≤ x12_5) = true := decide_eq_true c109
                            clear c109; by_cases c110 : x12_5 < (x9_2.length : Int)
                            ·rw [if_pos c110] at H; have c110b0 : decide (x12_5 < (x9_2.length : Int)) = true := decide_eq_true c110
                             clear c110; have H' := Aside0.mk H
                             clear H; try go_wp2
                             have n0_ := Aside0.mk (Kd.R_drew HO_3.out); have n1_ := Aside0.mk (Kd.R_drew HO_5.out); have n2_ := Aside0.mk (Kd.R_drew HO_9.out); have n3_ := Aside0.mk (below_drew1 HB.out); clear HO_3; clear HO_5; clear HO_9; clear HB; have HO_3 := n0_; have HO_5 := n1_; have HO_9 := n2_; have HB := n3_; clear n0_ n1_ n2_ n3_; obtain ⟨Ao112, co112, eo112⟩ := Kd.R_slice HO_5.out; (first | subst eo112 | (injection eo112 with f1_ f2_ f3_; have f4_ := f1_.symm; have f5_ := f3_.symm; clear f1_ f2_ f3_; subst f4_; subst f5_))
                             have p130 : 0 ≤ (x11_3 : Int) := of_decide_eq_true (by with_reducible assumption)
                             have q130 : x11_3 < (t107.length : Int) := of_decide_eq_true (by with_reducible assumption)
                             obtain ⟨ad130, e130, hx130_0⟩ := Kd.at_bool (Kd.R_reads' HO_5.out).2.2 x11_3 p130 q130; (try rw [← Nbq62.out] at hx130_0)
                             cases e130; replace p130 := eq_true p130; replace q130 := eq_true q130; obtain ⟨Ao113, co113, eo113⟩ := Kd.R_slice HO_9.out; (first | subst eo113 | (injection eo113 with f1_ f2_ f3_; have f4_ := f1_.symm; have f5_ := f3_.symm; clear f1_ f2_ f3_; subst f4_; subst f5_))
                             have p137 : 0 ≤ (x11_3 : Int) := of_decide_eq_true (by with_reducible assumption)
                             have q137 : x11_3 < (x9_2.length : Int) := of_decide_eq_true (by with_reducible assumption)
                             obtain ⟨ad137, e137, hx137_0⟩ := Kd.at_int (Kd.R_reads' HO_9.out).2.2 x11_3 p137 q137; cases e137; replace p137 := eq_true p137; replace q137 := eq_true q137; have p138 : 0 ≤ (x12_5 : Int) := of_decide_eq_true (by with_reducible assumption)
                             have q138 : x12_5 < (x9_2.length : Int) := of_decide_eq_true (by with_reducible assumption)
                             obtain ⟨ad138, e138, hx138_0⟩ := Kd.at_int (Kd.R_reads' HO_9.out).2.2 x12_5 p138 q138; obtain rfl : ad137 = ad138 := (by injection e138)
                             replace p138 := eq_true p138; replace q138 := eq_true q138; as_aux_lemma =>
                              refine start_ (n := 37) (S := fun w' => w'.cell? (ad130.add (x11_3).toNat) = some (.bool false) ∧ w'.cell? (ad137.add (x11_3).toNat) = some (.int .i64 (rd x9_2 x11_3)) ∧ w'.cell? (ad137.add (x12_5).toNat) = some (.int .i64 (rd x9_2 x12_5))) (ds := []) b37_30 (by kernel_rfl) rfl rfl ⟨hx130_0, hx137_0, hx138_0⟩ (fun hHeld => ?_); refine with_tabW l7_GraphTree.tab24 l7_GraphTree.bits24 (fun HT_ HW_ => ?_)
                              generalize w59.drew = w111 at HO_3 HO_5 HO_9 HB hx130_0 hx137_0 hx138_0 hHeld ⊢
                              refine pv_ 0 123 b37_31 rfl rfl HT_ ?_
                              refine pv_ 1 124 b37_32 rfl rfl HT_ ?_
                              refine pv_ 2 125 b37_33 rfl rfl HT_ ?_
                              refine pv_ 3 126 b37_34 rfl rfl HT_ ?_
                              refine take_ (i := 4) (N := some 127) (v := ?_) (a' := ?_) b37_35 rfl rfl (take_ofW HT_.out HW_.out (by kernel_rfl)) (fun _ _ _ h => h) (Or.inl ⟨by rfl, ?_⟩) hHeld ?_ ?_
                              rotate_left
                              ·rintro w' ⟨s0, s1, s2⟩
                               go_simp
                               with_reducible rfl
                              rotate_left
                              ·simp only [Act.put, List.setIfInBounds_toArray, List.set_cons_zero, List.set_cons_succ, i64_w, i32_w]
                               rfl
                              refine pv_ 5 128 b37_36 rfl rfl HT_ ?_
                              refine pu_ 6 129 b37_37 rfl rfl HT_ ?_
                              refine pu_ 7 130 b37_38 rfl rfl HT_ ?_
                              refine pu_ 8 131 b37_39 rfl rfl HT_ ?_
                              refine pu_ 9 132 b37_40 rfl rfl HT_ ?_
                              refine pv_ 10 133 b37_41 rfl rfl HT_ ?_
                              refine pv_ 11 134 b37_42 rfl rfl HT_ ?_
                              refine pu_ 12 135 b37_43 rfl rfl HT_ ?_
                              refine pu_ 13 136 b37_44 rfl rfl HT_ ?_
                              refine pu_ 14 137 b37_45 rfl rfl HT_ ?_
                              refine pu_ 15 138 b37_46 rfl rfl HT_ ?_
                              refine pv_ 16 139 b37_47 rfl rfl HT_ ?_
                              refine pv_ 17 140 b37_48 rfl rfl HT_ ?_
                              refine pv_ 18 141 b37_49 rfl rfl HT_ ?_
                              refine pv_ 19 142 b37_50 rfl rfl HT_ ?_
                              refine pv_ 20 143 b37_51 rfl rfl HT_ ?_
                              refine pv_ 21 144 b37_52 rfl rfl HT_ ?_
                              refine pv_ 22 145 b37_53 rfl rfl HT_ ?_
                              refine pv_ 23 146 b37_54 rfl rfl HT_ ?_
                              refine pv_ 24 147 b37_55 rfl rfl HT_ ?_
                              refine pv_ 25 148 b37_56 rfl rfl HT_ ?_
                              refine pv_ 26 149 b37_57 rfl rfl HT_ ?_
                              refine pv_ 27 150 b37_58 rfl rfl HT_ ?_
                              refine pv_ 28 151 b37_59 rfl rfl HT_ ?_
                              refine pv_ 30 153 b37_68 rfl rfl HT_ ?_
                              refine pv_ 31 154 b37_69 rfl rfl HT_ ?_
                              refine pv_ 32 155 b37_70 rfl rfl HT_ ?_
                              refine take_ (i := 29) (N := some 152) (v := ?_) (a' := ?_) b37_63 rfl rfl (take_ofW HT_.out HW_.out (by kernel_rfl)) (fun _ _ _ h => h) (Or.inl ⟨by rfl, ?_⟩) hHeld ?_ ?_
                              rotate_left
                              ·rintro w' ⟨s0, s1, s2⟩
                               go_simp
                               with_reducible rfl
                              rotate_left
                              ·simp only [Act.put, List.setIfInBounds_toArray, List.set_cons_zero, List.set_cons_succ, i64_w, i32_w]
                               rfl
                              refine take_ (i := 33) (N := some 156) (v := ?_) (a' := ?_) b37_64 rfl rfl (take_ofW HT_.out HW_.out (by kernel_rfl)) (fun _ _ _ h => h) (Or.inl ⟨by rfl, ?_⟩) hHeld ?_ ?_
                              rotate_left
                              ·rintro w' ⟨s0, s1, s2⟩
                               go_simp
                               with_reducible rfl
                              rotate_left
                              ·simp only [Act.put, List.setIfInBounds_toArray, List.set_cons_zero, List.set_cons_succ, i64_w, i32_w]
                               rfl
                              refine pv_ 34 157 b37_65 rfl rfl HT_ ?_
                              refine pv_ 35 158 b37_66 rfl rfl HT_ ?_
                              refine pv_ 36 159 b37_67 rfl rfl HT_ ?_
                              refine done_ (done_of HT_.out (by kernel_rfl)) ?_
                              try go_wp2
                              go_meet
                              case rel => exact ⟨_, (decide ((rd x9_2 x11_3) ≥ (rd x9_2 x12_5))), (by first | rfl | (simp; done) | (simp [*]; done)), H', ⟨by have := HJ6.out; have := HK2.out; have := HK3.out; have := HJ34.out; have := HK5.out; first | omega | exact Nat.le_refl _⟩, ⟨by (with_reducible repeat (first | apply Kd.R_alloc | apply Kd.R_drewN | apply Kd.R_drew)); exact HO_3.out⟩, ⟨by (with_reducible repeat (first | apply Kd.R_alloc | apply Kd.R_drewN | apply Kd.R_drew)); exact HO_5.out⟩, ⟨by (with_reducible repeat (first | apply Kd.R_alloc | apply Kd.R_drewN | apply Kd.R_drew)); exact HO_9.out⟩, ⟨by repeat (first | (with_reducible first | exact HB.out | apply below_alloc | apply pw_below_drewN | apply below_drew1) | exact HB.out)⟩⟩
                            ·rw [if_neg c110] at H; exact absurd H (by simp)
                           ·rw [if_neg c109] at H; exact absurd H (by simp)
                          ·rw [if_neg c108] at H; exact absurd H (by simp)
                        ·replace c104 := Bool.eq_false_iff.mpr c104; subst c104; have H1 : (l7_GraphTree.j5 k5 l0 t103 t107 x9_2 x11_3 x12_5 false) = some r := by rw [if_neg (show ¬ (false = true) by decide)] at H; exact H
                         clear H; have H := H1; clear H1; have H' := Aside0.mk H
                         clear H; try go_wp2
                         have n0_ := Aside0.mk (Kd.R_drew HO_3.out); have n1_ := Aside0.mk (Kd.R_drew HO_5.out); have n2_ := Aside0.mk (Kd.R_drew HO_9.out); have n3_ := Aside0.mk (below_drew1 HB.out); clear HO_3; clear HO_5; clear HO_9; clear HB; have HO_3 := n0_; have HO_5 := n1_; have HO_9 := n2_; have HB := n3_; clear n0_ n1_ n2_ n3_; obtain ⟨Ao115, co115, eo115⟩ := Kd.R_slice HO_5.out; (first | subst eo115 | (injection eo115 with f1_ f2_ f3_; have f4_ := f1_.symm; have f5_ := f3_.symm; clear f1_ f2_ f3_; subst f4_; subst f5_))
                         have p130 : 0 ≤ (x11_3 : Int) := of_decide_eq_true (by with_reducible assumption)
                         have q130 : x11_3 < (t107.length : Int) := of_decide_eq_true (by with_reducible assumption)
                         obtain ⟨ad130, e130, hx130_0⟩ := Kd.at_bool (Kd.R_reads' HO_5.out).2.2 x11_3 p130 q130; (try rw [← Nbq62.out] at hx130_0)
                         cases e130; replace p130 := eq_true p130; replace q130 := eq_true q130; as_aux_lemma =>
                          refine start_ (n := 37) (S := fun w' => w'.cell? (ad130.add (x11_3).toNat) = some (.bool false)) (ds := []) b37_30 (by kernel_rfl) rfl rfl (hx130_0) (fun hHeld => ?_); refine with_tabW l7_GraphTree.tab24 l7_GraphTree.bits24 (fun HT_ HW_ => ?_)
                          generalize w59.drew = w114 at HO_3 HO_5 HO_9 HB hx130_0 hHeld ⊢
                          refine pv_ 0 123 b37_31 rfl rfl HT_ ?_
                          refine pv_ 1 124 b37_32 rfl rfl HT_ ?_
                          refine pv_ 2 125 b37_33 rfl rfl HT_ ?_
                          refine pv_ 3 126 b37_34 rfl rfl HT_ ?_
                          refine tk_ 4 127 b37_35 rfl rfl HT_ HW_ hHeld ?_
                          refine pv_ 5 128 b37_36 rfl rfl HT_ ?_
                          refine pu_ 6 129 b37_37 rfl rfl HT_ ?_
                          refine pu_ 7 130 b37_38 rfl rfl HT_ ?_
                          refine pu_ 8 131 b37_39 rfl rfl HT_ ?_
                          refine pu_ 9 132 b37_40 rfl rfl HT_ ?_
                          refine pv_ 10 133 b37_41 rfl rfl HT_ ?_
                          refine pv_ 11 134 b37_42 rfl rfl HT_ ?_
                          refine pu_ 12 135 b37_43 rfl rfl HT_ ?_
                          refine pu_ 13 136 b37_44 rfl rfl HT_ ?_
                          refine pu_ 14 137 b37_45 rfl rfl HT_ ?_
                          refine pu_ 15 138 b37_46 rfl rfl HT_ ?_
                          refine pv_ 16 139 b37_47 rfl rfl HT_ ?_
                          refine pv_ 17 140 b37_48 rfl rfl HT_ ?_
                          refine pv_ 18 141 b37_49 rfl rfl HT_ ?_
                          refine pv_ 19 142 b37_50 rfl rfl HT_ ?_
                          refine pv_ 20 143 b37_51 rfl rfl HT_ ?_
                          refine pu_ 21 144 b37_52 rfl rfl HT_ ?_
                          refine pu_ 22 145 b37_53 rfl rfl HT_ ?_
                          refine pu_ 23 146 b37_54 rfl rfl HT_ ?_
                          refine pv_ 24 147 b37_55 rfl rfl HT_ ?_
                          refine pv_ 25 148 b37_56 rfl rfl HT_ ?_
                          refine pu_ 26 149 b37_57 rfl rfl HT_ ?_
                          refine pu_ 27 150 b37_58 rfl rfl HT_ ?_
                          refine pu_ 28 151 b37_59 rfl rfl HT_ ?_
                          refine pu_ 29 152 b37_60 rfl rfl HT_ ?_
                          refine pu_ 30 153 b37_61 rfl rfl HT_ ?_
                          refine pu_ 31 154 b37_62 rfl rfl HT_ ?_
                          refine pu_ 32 155 b37_63 rfl rfl HT_ ?_
                          refine pu_ 33 156 b37_64 rfl rfl HT_ ?_
                          refine pu_ 34 157 b37_65 rfl rfl HT_ ?_
                          refine pv_ 35 158 b37_66 rfl rfl HT_ ?_
                          refine pv_ 36 159 b37_67 rfl rfl HT_ ?_
                          refine done_ (done_of HT_.out (by kernel_rfl)) ?_
                          try go_wp2
                          go_meet
                          case rel => exact ⟨_, (false), (by first | rfl | (simp; done) | (simp [*]; done)), H', ⟨by have := HJ6.out; have := HK2.out; have := HK3.out; have := HJ34.out; have := HK5.out; first | omega | exact Nat.le_refl _⟩, ⟨by (with_reducible repeat (first | apply Kd.R_alloc | apply Kd.R_drewN | apply Kd.R_drew)); exact HO_3.out⟩, ⟨by (with_reducible repeat (first | apply Kd.R_alloc | apply Kd.R_drewN | apply Kd.R_drew)); exact HO_5.out⟩, ⟨by (with_reducible repeat (first | apply Kd.R_alloc | apply Kd.R_drewN | apply Kd.R_drew)); exact HO_9.out⟩, ⟨by repeat (first | (with_reducible first | exact HB.out | apply below_alloc | apply pw_below_drewN | apply below_drew1) | exact HB.out)⟩⟩
                     ·rw [if_neg c61] at H; exact absurd H (by simp)
                    ·rw [if_neg c60] at H; exact absurd H (by simp)
                   case rest =>
                    clear HC58; try clear c1
                    try clear p1
                    try clear q1
                    try clear hx1
                    try clear p2
                    try clear c6
                    try clear q6
                    try clear c10
                    try clear c11
                    try clear p13
                    try clear q13
                    try clear hx13
                    try clear c60
                    try clear c61
                    try clear q62
                    try clear c104
                    try clear c105
                    try clear c105b0
                    try clear c105b1
                    try clear c108
                    try clear c108b0
                    try clear c109
                    try clear c109b0
                    try clear c110
                    try clear c110b0
                    try clear hx130_0
                    try clear hx137_0
                    try clear hx138_0
                    try clear p130
                    try clear p137
                    try clear p138
                    try clear q130
                    try clear q137
                    try clear q138
                    obtain ⟨kq, x159_57, rfl, HA, HJ57, HO_3, HO_5, HO_9, HB⟩ := hcut; cases kq with
                    | zero => exact absurd HA.out (by simp [l7_GraphTree.j5])
                    | succ kj57 =>
                     have H := HA.out; clear HA; simp only [l7_GraphTree.j5] at H
                     by_cases c116 : x159_57 = true
                     ·subst c116; have H1 : (some false) = some r := by rw [if_pos rfl] at H; exact H
                      clear H; have H := H1; clear H1; obtain rfl := Option.some.inj H; go_wp2
                      go_ret
                      exact ⟨by first | rfl | (simp [errW_none, errW_some] <;> rfl) | (simp [*, errW_none, errW_some] <;> rfl), by repeat (first | (with_reducible first | exact HB.out | apply below_alloc | apply pw_below_drewN | apply below_drew1) | exact HB.out)⟩
                     ·replace c116 := Bool.eq_false_iff.mpr c116; subst c116; have H1 : (l7_GraphTree.l2 kj57 l0 t103 t107 x9_2 x11_3 (wrap64 (x12_5 + 1))) = some r := by rw [if_neg (show ¬ (false = true) by decide)] at H; exact H
                      clear H; have H := H1; clear H1; have H' := Aside0.mk H
                      clear H; go_wp2
                      go_roundg kj57
                      case measure => have := HJ6.out; have := HK2.out; have := HK3.out; have := HJ34.out; have := HK5.out; have := HJ57.out; omega
                      case rel => exact ⟨(wrap64 (x12_5 + 1)), (by first | rfl | (simp; done) | (simp [*]; done)), H', ⟨by have := HJ6.out; have := HK2.out; have := HK3.out; have := HJ34.out; have := HK5.out; have := HJ57.out; omega⟩, ⟨by (with_reducible repeat (first | apply Kd.R_alloc | apply Kd.R_drewN | apply Kd.R_drew)); exact HO_3.out⟩, ⟨by (with_reducible repeat (first | apply Kd.R_alloc | apply Kd.R_drewN | apply Kd.R_drew)); exact HO_5.out⟩, ⟨by (with_reducible repeat (first | apply Kd.R_alloc | apply Kd.R_drewN | apply Kd.R_drew)); exact HO_9.out⟩, ⟨by repeat (first | (with_reducible first | exact HB.out | apply below_alloc | apply pw_below_drewN | apply below_drew1) | exact HB.out)⟩⟩
                  ·rw [if_neg c56] at H; have c56b0 : decide (x12_5 < (l0.length : Int)) = false := decide_eq_false c56
                   clear c56; have H' := Aside0.mk H
                   clear H; go_wp2
                   go_roundg k5
                   case measure => have := HJ6.out; have := HK2.out; have := HK3.out; have := HJ34.out; have := HK5.out; omega
                   case rel => exact ⟨(wrap64 (x11_3 + 1)), (by first | rfl | (simp; done) | (simp [*]; done)), H', ⟨by have := HJ6.out; have := HK2.out; have := HK3.out; have := HJ34.out; have := HK5.out; omega⟩, ⟨by (with_reducible repeat (first | apply Kd.R_alloc | apply Kd.R_drewN | apply Kd.R_drew)); exact HO_3.out⟩, ⟨by (with_reducible repeat (first | apply Kd.R_alloc | apply Kd.R_drewN | apply Kd.R_drew)); exact HO_5.out⟩, ⟨by (with_reducible repeat (first | apply Kd.R_alloc | apply Kd.R_drewN | apply Kd.R_drew)); exact HO_9.out⟩, ⟨by repeat (first | (with_reducible first | exact HB.out | apply below_alloc | apply pw_below_drewN | apply below_drew1) | exact HB.out)⟩⟩
            ·rw [if_neg c34] at H; have c34b0 : decide (x11_3 < (l0.length : Int)) = false := decide_eq_false c34
             clear c34; replace H := Option.bind_eq_some_iff.mp H; obtain ⟨t139, A1170, H⟩ := H; replace H : (some t139) = some r := H; have A117 := Aside0.mk A1170; clear A1170; obtain rfl := Option.some.inj H; go_wp2_with (first | ((with_reducible refine gate_callee (f := 14) rfl ?_); refine goesL_ (some 160) rfl rfl Try.func14 (by kernel_rfl) rfl #[] rfl (by (try simp only [List.map_toArray, List.map_cons, List.map_nil]); first | done | rfl | (simp only [List.length_drop, List.length_take]; rfl)) ?_; (with_reducible refine (l7_awake.calls k3  t139 _ A117.out).mono ?_); rintro e w118 ⟨rfl, hb⟩; refine ⟨_, rfl, ?_⟩; have n0_ := Aside0.mk (Kd.R_below (by (with_reducible repeat (first | apply Kd.R_alloc | apply Kd.R_drewN | apply Kd.R_drew)); exact HO_3.out) hb); have n1_ := Aside0.mk (Kd.R_below (by (with_reducible repeat (first | apply Kd.R_alloc | apply Kd.R_drewN | apply Kd.R_drew)); exact HO_5.out) hb); have n2_ := Aside0.mk (Kd.R_below (by (with_reducible repeat (first | apply Kd.R_alloc | apply Kd.R_drewN | apply Kd.R_drew)); exact HO_9.out) hb); have n3_ := Aside0.mk (below_step (by repeat (first | (with_reducible first | exact HB.out | apply below_alloc | apply pw_below_drewN | apply below_drew1) | exact HB.out)) hb); clear HO_3; clear HO_5; clear HO_9; clear HB; have HO_3 := n0_; have HO_5 := n1_; have HO_9 := n2_; have HB := n3_; clear n0_ n1_ n2_ n3_; (try clear hb); (try clear hb2); (try clear hk); (try clear hi)))
             go_ret
             exact ⟨by first | rfl | (simp [errW_none, errW_some] <;> rfl) | (simp [*, errW_none, errW_some] <;> rfl), by repeat (first | (with_reducible first | exact HB.out | apply below_alloc | apply pw_below_drewN | apply below_drew1) | exact HB.out)⟩
      ·rw [if_neg c18] at H; exact absurd H (by simp)
     ·rw [if_neg c17] at H; exact absurd H (by simp)
 ·replace c3 := Bool.eq_false_iff.mpr c3; subst c3; have H1 : ((l7_awake.f k).bind fun t102 => (some t102)) = some r := by rw [if_neg (show ¬ (false = true) by decide)] at H; exact H
  clear H; have H := H1; clear H1; replace H := Option.bind_eq_some_iff.mp H; obtain ⟨t102, A1190, H⟩ := H; replace H : (some t102) = some r := H; have A119 := Aside0.mk A1190; clear A1190; obtain rfl := Option.some.inj H; go_enter Try.func12, Try.ntmps12
  go_wp2_with (first | ((with_reducible refine gate_callee (f := 26) rfl ?_); refine goesL_ (some 16) rfl rfl Try.func26 (by kernel_rfl) rfl #[.slice A0 l0.length c0] rfl (by (try simp only [List.map_toArray, List.map_cons, List.map_nil]); first | done | rfl | (simp only [List.length_drop, List.length_take]; rfl)) ?_; (with_reducible refine (l7_usable.calls k _ _ l0 false _ ?side1 ?side2 A2.out).mono ?_); (case side1 => repeat (first | exact HR0.out | with_reducible first | refine Kd.C_alloc ?_ _ | refine Kd.C_drewN ?_ _ | refine Kd.C_drew ?_)); (case side2 => exact HC0.out); rintro e w' ⟨rfl, ⟨nd, rfl⟩⟩; refine ⟨_, rfl, ?_⟩) | ((with_reducible refine gate_callee (f := 14) rfl ?_); refine goesL_ (some 18) rfl rfl Try.func14 (by kernel_rfl) rfl #[] rfl (by (try simp only [List.map_toArray, List.map_cons, List.map_nil]); first | done | rfl | (simp only [List.length_drop, List.length_take]; rfl)) ?_; (with_reducible refine (l7_awake.calls k  t102 _ A119.out).mono ?_); rintro e w120 ⟨rfl, hb⟩; refine ⟨_, rfl, ?_⟩; have n0_ := Aside0.mk (below_step (by repeat (first | (with_reducible first | exact HB.out | apply below_alloc | apply pw_below_drewN | apply below_drew1) | exact HB.out)) hb); clear HB; have HB := n0_; clear n0_; (try clear hb); (try clear hb2); (try clear hk); (try clear hi)))
  go_ret
  exact ⟨by first | rfl | (simp [errW_none, errW_some] <;> rfl) | (simp [*, errW_none, errW_some] <;> rfl), by repeat (first | (with_reducible first | exact HB.out | apply below_alloc | apply pw_below_drewN | apply below_drew1) | exact HB.out)⟩
end Go.Proofs.Ytjjedbcgkljdeaa.T
end
section
namespace Go.Proofs.Ytjjedbcgkljdeaa.T
open Go.RowKit Go.Proofs.YtjjedbcgkljdeaaW.PrintWords Go.Proofs.YtjjedbcgkljdeaaW.PrintLast Go.Proofs.YtjjedbcgkljdeaaW.PrintMore Go.Proofs.Ytjjedbcgkljdeaa.A Go.Proofs.Ytjjedbcgkljdeaa.B Go.Proofs.Ytjjedbcgkljdeaa.D Go.Proofs.Ytjjedbcgkljdeaa.M
section
variable {g : List (List Int)} {up dl P : List Int} {there : List Bool}
theorem tree_l0 (n : Nat) (hn : n ≤ 100000) (hgl : g.length = n) (Q : List Int) (hQ : InR n Q) (hnd : Q.Nodup) (hQl : Q.length ≤ n) (r : Bool) (hr : ∀ t : List Int, t.length = n → (∀ j (hj : j < Q.length), rd t Q[j] = (j : Int)) → Evt (fun k => l7_GraphTree.l1 k g dl there t 0) r) :
  ∀ (m i : Nat) (t : List Int), i + m = Q.length → t.length = n → (∀ j (hj : j < Q.length), j < i → rd t Q[j] = (j : Int)) → Evt (fun k => l7_GraphTree.l0 k g dl there Q t (i : Int)) r
 | 0, i, t, hm, ht, h => by
  refine Evt.succ ?_
  simp only [l7_GraphTree.l0]
  exact Evt.neg (by omega) (hr t ht (fun j hj => h j hj (by omega)))
 | m + 1, i, t, hm, ht, h => by
  have hi : i < Q.length := by omega
  have hrd : rd Q (i : Int) = Q[i] := rd_nat _ _ hi
  obtain ⟨q0, q1⟩ := hQ Q[i] (List.getElem_mem hi); have ih := tree_l0 n hn hgl Q hQ hnd hQl r hr m (i + 1) (t.set (Q[i]).toNat (i : Int)) (by omega) (by simp [ht]) (fun j hj hji => by
   rw [rd_set t Q[i] (i : Int) Q[j] q0 (by omega) (hQ Q[j] (List.getElem_mem hj)).1]
   by_cases e : Q[j] = Q[i]
   ·rw [if_pos e, nodup_inj hnd hj hi e]
   ·rw [if_neg e]; refine h j hj ?_
    rcases Nat.lt_or_ge j i with h2 | h2
    ·exact h2
    ·exact absurd (by congr 1; omega) e)
  refine Evt.succ ?_
  simp only [l7_GraphTree.l0, hrd, wrap_succ i (by omega)]
  exact Evt.pos (by omega) (Evt.pos (by omega) (Evt.neg (by omega) (Evt.neg (by omega) (Evt.pos q0 (Evt.pos (by omega) ih)))))
theorem tree_l2 (hv : validB g = true) (h1 : 1 ≤ g.length) (hg : Gr g) (hn : g.length ≤ 40) (hr4 : ∀ r ∈ g, r.length ≤ 4) (w : Wk g 0 up g.length dl) (hP : OrdOf g 0 P) (hPl : P.length ≤ g.length) (hD : ∀ a b, TD g a b ↔ Dom g 0 a b)
  (htl : there.length = g.length) (hth : ∀ x : Int, 0 ≤ x → (rdOf false there x = true ↔ Rch g (fun _ => false) [0] x)) (t : List Int) (ht : t.length = g.length) (hat : ∀ j (hj : j < P.reverse.length), rd t P.reverse[j] = (j : Int)) (a : Nat) (ha : a < g.length) (r : Bool) (hr : Evt (fun k => l7_GraphTree.l1 k g dl there t ((a + 1 : Nat) : Int)) r) :
  ∀ (m b : Nat), b + m = g.length → Evt (fun k => l7_GraphTree.l2 k g dl there t (a : Int) (b : Int)) r
 | 0, b, hm => by
  refine Evt.succ ?_
  simp only [l7_GraphTree.l2, wrap_succ a (by omega)]
  exact Evt.neg (by omega) hr
 | m + 1, b, hm => by
  have ih := tree_l2 hv h1 hg hn hr4 w hP hPl hD htl hth t ht hat a ha r hr m (b + 1) (by omega)
  have fin : Evt (fun k => l7_GraphTree.j5 k g dl there t (a : Int) (b : Int) false) r := by
   refine Evt.succ ?_
   simp only [l7_GraphTree.j5, wrap_succ b (by omega)]
   exact Evt.neg (by simp) ih
  obtain ⟨_, dd⟩ := dominates_ev g hv h1 hg hn hr4 (a : Int) (b : Int); obtain ⟨d, hd1, hd2⟩ := dd ⟨by omega, by omega, by omega, by omega⟩
  have hpl : ∀ x : Int, Rch g (fun _ => false) [0] x → ∃ j, ∃ hj : j < P.length, P[j] = x ∧ rd t x = ((P.length - 1 - j : Nat) : Int) := by
   intro x hx
   obtain ⟨j, hj, e⟩ := List.mem_iff_getElem.1 ((hP.mem x).2 hx); refine ⟨j, hj, e, ?_⟩
   have := hat (P.length - 1 - j) (by simp; omega)
   rw [List.getElem_reverse] at this; have e2 : P[P.length - 1 - (P.length - 1 - j)]'(by omega) = x := by
    rw [← e]; congr 1; omega
   rw [e2] at this; exact this
  -- what is asked where a dominates b
  have late : d = true → (a : Int) ≠ (b : Int) → Evt (fun k => l7_GraphTree.j5 k g dl there t (a : Int) (b : Int) (decide (rd t (a : Int) ≥ rd t (b : Int)))) r := by
   intro hd hne
   have hdm := hd1.1 hd; obtain ⟨j, hj, ej, rj⟩ := hpl _ hdm.2.1; obtain ⟨i, hi, hji, ei⟩ := hP.dom_later (a : Int) P.length j hj (by omega) (by rw [ej]; exact hdm) (by rw [ej]; exact hne)
   obtain ⟨i', hi', ei', ri'⟩ := hpl _ hdm.1; have : i = i' := nodup_inj hP.nodup hi hi' (by rw [ei, ei'])
   subst this; have e : decide (rd t (a : Int) ≥ rd t (b : Int)) = false := decide_eq_false (by rw [rj, ri']; omega)
   rw [e]; exact fin
  have tail : Evt (fun k => (if d = true then (if (a : Int) = (b : Int) then (l7_GraphTree.j5 k g dl there t (a : Int) (b : Int) false) else (if (a : Int) < (t.length : Int) then (if (b : Int) < (t.length : Int) then (l7_GraphTree.j5 k g dl there t (a : Int) (b : Int) (decide (rd t (a : Int) ≥ rd t (b : Int)))) else (none)) else (none))) else (l7_GraphTree.j5 k g dl there t (a : Int) (b : Int) false))) r := by
   by_cases hd : d = true
   ·refine Evt.pos hd ?_
    by_cases e : (a : Int) = (b : Int)
    ·exact Evt.pos e fin
    ·exact Evt.neg e (Evt.pos (by omega) (Evt.pos (by omega) (late hd e)))
   ·exact Evt.neg hd fin
  have tail2 : Evt (fun k => (if d = true then (if (a : Int) = (b : Int) then (l7_GraphTree.j5 k g dl there t (a : Int) (b : Int) false) else (if (a : Int) < (t.length : Int) then (if 0 ≤ (b : Int) then (if (b : Int) < (t.length : Int) then (l7_GraphTree.j5 k g dl there t (a : Int) (b : Int) (decide (rd t (a : Int) ≥ rd t (b : Int)))) else (none)) else (none)) else (none))) else (l7_GraphTree.j5 k g dl there t (a : Int) (b : Int) false))) r := by
   by_cases hd : d = true
   ·refine Evt.pos hd ?_
    by_cases e : (a : Int) = (b : Int)
    ·exact Evt.pos e fin
    ·exact Evt.neg e (Evt.pos (by omega) (Evt.pos (by omega) (Evt.pos (by omega) (late hd e))))
   ·exact Evt.neg hd fin
  refine Evt.succ ?_
  simp only [l7_GraphTree.l2]
  refine Evt.pos (by omega) (Evt.bind hd2 (Evt.pos (by omega) (Evt.pos (by omega) ?_)))
  by_cases ta : rdOf false there (a : Int) = true
  ·refine Evt.pos ta (Evt.pos (by omega) (Evt.pos (by omega) ?_))
   by_cases tb : rdOf false there (b : Int) = true
   ·refine Evt.pos tb ?_
    obtain ⟨v, v1, v2⟩ := above_ev hg h1 (by omega) w hP hPl hD (a : Int) (b : Int) ((hth _ (by omega)).1 tb)
    have e : d = v := by rw [Bool.eq_iff_iff, hd1, v1]
    refine Evt.bind v2 (Evt.neg (by rw [e]; simp) tail)
   ·refine Evt.neg tb ?_
    have e : d = false := Bool.eq_false_iff.2 fun h => tb ((hth _ (by omega)).2 (hd1.1 h).2.1)
    exact Evt.neg (by rw [e]; simp) tail
  ·refine Evt.neg ta ?_
   have e : d = false := Bool.eq_false_iff.2 fun h => ta ((hth _ (by omega)).2 (hd1.1 h).1)
   exact Evt.neg (by rw [e]; simp) tail2
theorem tree_l1 (hv : validB g = true) (h1 : 1 ≤ g.length) (hg : Gr g) (hn : g.length ≤ 40) (hr4 : ∀ r ∈ g, r.length ≤ 4) (w : Wk g 0 up g.length dl) (hP : OrdOf g 0 P) (hPl : P.length ≤ g.length) (hD : ∀ a b, TD g a b ↔ Dom g 0 a b)
  (htl : there.length = g.length) (hth : ∀ x : Int, 0 ≤ x → (rdOf false there x = true ↔ Rch g (fun _ => false) [0] x)) (t : List Int) (ht : t.length = g.length) (hat : ∀ j (hj : j < P.reverse.length), rd t P.reverse[j] = (j : Int)) :
  ∀ (m a : Nat), a + m = g.length → Evt (fun k => l7_GraphTree.l1 k g dl there t (a : Int)) true
 | 0, a, hm => by
  refine Evt.succ ?_
  simp only [l7_GraphTree.l1]
  exact Evt.neg (by omega) (Evt.bind awake_ev (Evt.const true))
 | m + 1, a, hm => by
  have ih := tree_l1 hv h1 hg hn hr4 w hP hPl hD htl hth t ht hat m (a + 1) (by omega)
  have fin : Evt (fun k => l7_GraphTree.j3 k g dl there t (a : Int) false) true := by
   refine Evt.succ ?_
   simp only [l7_GraphTree.j3]
   exact Evt.neg (by simp) (tree_l2 hv h1 hg hn hr4 w hP hPl hD htl hth t ht hat a (by omega) true ih g.length 0 (Nat.zero_add _))
  have hl := w.len; have hin : InR g.length [0] := fun x hx => by obtain rfl := List.mem_singleton.1 hx; omega
  have hrng : ∀ x, Rg g 0 x → 0 ≤ x ∧ x < (g.length : Int) := fun x h => h.range hg hin
  have hroot : Rg g 0 0 := Rch.base (by simp) rfl
  have hd0 : ∀ b, Rg g 0 b → TD g 0 b := fun b hb => (hD _ _).2 ⟨hb, fun hc => by
   have : ∀ y, ¬ Rch g (fun n => n == 0) [0] y := by
    intro y hy
    induction hy with
    | base h hp => obtain rfl := List.mem_singleton.1 h; simp at hp
    | step _ _ _ ih => exact ih
   exact this b hc⟩
  have habove : Evt (fun q => l7_above.f q dl 0 (a : Int)) (rdOf false there (a : Int)) := by
   by_cases hR : Rg g 0 (a : Int)
   ·obtain ⟨v, v1, v2⟩ := above_ev hg h1 (by omega) w hP hPl hD 0 (a : Int) hR
    rw [(hth _ (by omega)).2 hR]
    rw [v1.2 (hd0 _ hR)] at v2; exact v2
   ·have e : rdOf false there (a : Int) = false := Bool.eq_false_iff.2 fun h => hR ((hth _ (by omega)).1 h)
    have := above_none dl 0 (a : Int) (by omega) (by omega) (by omega) (w.no _ (by omega) (by omega) hR)
    rw [decide_eq_false (p := (0 : Int) = (a : Int)) (fun h => hR (h ▸ hroot))] at this
    rw [e]; exact this
  refine Evt.succ ?_
  simp only [l7_GraphTree.l1]
  refine Evt.pos (by omega) (Evt.pos (by omega) (Evt.pos (by omega) ?_))
  by_cases ea : (a : Int) = 0
  ·have e : rdOf false there (a : Int) = true := (hth _ (by omega)).2 (ea ▸ hroot)
   refine Evt.pos ea (Evt.neg (by rw [e]; simp) (Evt.bind habove ?_))
   simpa using fin
  ·refine Evt.neg ea (Evt.pos (by omega) (Evt.neg ?_ (Evt.bind habove ?_)))
   ·have : rdOf false there (a : Int) = decide (rd dl (a : Int) ≥ 0) := by
     by_cases hR : Rg g 0 (a : Int)
     ·rw [(hth _ (by omega)).2 hR]
      rcases w.yes _ (by omega) (by omega) hR with ⟨hne, hd, _⟩ | ⟨_, hno⟩
      ·rw [decide_eq_true (by rw [hd]; exact (hrng _ (w.tree.up_lt _ hR hne).1).1)]
      ·exact absurd (hno 0 (by omega) (by omega) ((w.tree.ch _ _ hR).2 ((hD _ _).1 (hd0 _ hR)))).symm ea
     ·have e : rdOf false there (a : Int) = false := Bool.eq_false_iff.2 fun h => hR ((hth _ (by omega)).1 h)
      rw [e, w.no _ (by omega) (by omega) hR]; rfl
    rw [this]; simp
   ·simpa using fin
end
theorem Pure.GraphTree (g : List (List Int)) (_hm : g.length ≤ maxLen) : ∃ k, l7_GraphTree.f k g = some true := by
 refine Evt.get ?_
 unfold l7_GraphTree.f
 refine Evt.bind (usable_ev g) ?_
 by_cases hu : usableB g = true
 ·obtain ⟨hv, h1, hg, hn, hr⟩ := usableB_true hu; have hr' : ∀ r ∈ g, r.length ≤ 100000 := fun r h => Nat.le_trans (hr r h) (by omega)
  have hve := valid_ev g (by omega) hr'
  rw [hv] at hve; obtain ⟨up, dl, _, hd, w, _, _, _, hD⟩ := dom_ev g hg h1 hn hr; obtain ⟨there, hth1, _, htl, hth⟩ := reached_ev g h1 hg hn hr; obtain ⟨P, hp, hPl, hP, _⟩ := order_spec g 0 hg (by omega) (by omega) (by omega) hr'
  have hl := w.len; have e1 : Evt (fun k => graph_Dominators.f k g) (dl, 0) := by
   unfold graph_Dominators.f
   exact Evt.bind hve (Evt.pos rfl (Evt.bind hd (Evt.const _)))
  have e2 : Evt (fun k => graph_Reachable.f k g) (there, 0) := by
   unfold graph_Reachable.f
   exact Evt.bind hve (Evt.pos rfl (Evt.bind hth1 (Evt.const _)))
  have e3 : Evt (fun k => graph_Order.f k g) (P.reverse, 0) := by
   unfold graph_Order.f
   exact Evt.bind hve (Evt.pos rfl (Evt.bind hp (Evt.bind (rev_ev P (by omega)) (Evt.const _))))
  have hin : InR g.length [0] := fun x hx => by obtain rfl := List.mem_singleton.1 hx; omega
  refine Evt.pos hu (Evt.bind e1 (Evt.bind e2 (Evt.bind e3 (Evt.pos rfl (Evt.pos (by simp only []; omega) (Evt.succ ?_))))))
  simp only [l7_GraphTree.j0]
  refine Evt.neg (by simp [htl]) (Evt.pos (by omega) (Evt.pos (by omega) ?_))
  refine tree_l0 g.length (by omega) rfl P.reverse (fun x hx => ((hP.mem x).1 (List.mem_reverse.1 hx)).range hg hin) (List.pairwise_reverse.2 (hP.nodup.imp fun h => h.symm)) (by simp; omega) true (fun t ht hat => tree_l1 hv h1 hg hn hr w hP hPl hD htl hth t ht hat g.length 0 (Nat.zero_add _)) P.reverse.length 0 _ (Nat.zero_add _) (by simp) (fun j hj h => by omega)
 ·exact Evt.neg hu (Evt.bind awake_ev (Evt.const true))
end Go.Proofs.Ytjjedbcgkljdeaa.T
end
