/-
  NARROWER THAN 'FOR EVERY INPUT', by the rows' own cells (each row's printed sentence says how): CurveConstants: laid · CurveAdds: laid · CurveTimes: laid · CurveGroup: laid · CurveOpposites: laid · CurveBytes: laid · CurveShares: laid.
  DERIVED. THE GIVEN ROWS OF THIS SEAT. 7 by the template 'for every input the law returns true; each argument reads behind the call as it read before'; 0 by the template 'total and deterministic' (their statements: YtbnfanmolphliaaDoorTotals.lean).
  GIVEN WITH THE SEED: the statements are not yours to turn. If you find one false, say at which input.
  Laid BY PROGRAM, IN A SANDBOX (cutbox-rows.mjs): the forced cells as the released guide's own fill.sh prints them over the translation fb6cee7c1b5cbfda… (all of the seat's roots in one cut). By AI agents, Wed Nov 11 2026. No macro, syntax, notation, axiom, sorry.
-/
import Derived.Test.YtbnfanmolphliaaDoorChecked
import GoSem.Claim
import GoSem.ClaimJoined
import GoSem.ClaimMapViews
import Derived.JoinedTies
import Derived.KernelRfl
namespace Go.Proofs.YtbnfanmolphliaaDoor
/- THE CELL 'sum', in the pinned program and in every row, IS THE sha256 OF THE DUMP (.gsa) THAT YtbnfanmolphliaaDoorProg.lean LOADS. Nothing in Lean hashes anything: it is a label: what it is worth is what the hold of that sum in a sandbox is worth. -/
noncomputable def Tryd.pinned : Pinned := { name := "ytbnfanmolphliaadoor", sum := "fb6cee7c1b5cbfda3be060fbd7ac977665fb8e191681e69498d967232c9beca6", checked := Tryd.checked }
namespace Rows
def none {H : Type} : Left H := { results := [], args := [] }

/- WHAT THE LISTED PACKAGE-LEVEL VARIABLES READ AS WHEN THE CALL BEGINS. Each datum BY PROGRAM (the guide's laid-datum.mjs) off the statement by which the dump's own 'gosem.cut.vars' lays the variable. In a bare row this is a premise. The card (YtbnfanmolphliaaDoorCards.lean) ties it to the program's text. -/
def laid_tollgate_curve_prime {H : Type} : DataW H := .agg [.lit (.int .u64 18446744073709551615), .lit (.int .u64 4294967295), .lit (.int .u64 0), .lit (.int .u64 18446744069414584321)]
def laid_tollgate_curve_order {H : Type} : DataW H := .agg [.lit (.int .u64 17562291160714782033), .lit (.int .u64 13611842547513532036), .lit (.int .u64 18446744073709551615), .lit (.int .u64 18446744069414584320)]
def laid_tollgate_curve_coeff {H : Type} : DataW H := .agg [.lit (.int .u64 4309448131093880907), .lit (.int .u64 7285987128567378166), .lit (.int .u64 12964664127075681980), .lit (.int .u64 6540974713487397863)]
def laid_tollgate_curve_baseX {H : Type} : DataW H := .agg [.lit (.int .u64 17627433388654248598), .lit (.int .u64 8575836109218198432), .lit (.int .u64 17923454489921339634), .lit (.int .u64 7716867327612699207)]
def laid_tollgate_curve_baseY {H : Type} : DataW H := .agg [.lit (.int .u64 14678990851816772085), .lit (.int .u64 3156516839386865358), .lit (.int .u64 10297457778147434006), .lit (.int .u64 5756518291402817435)]

/-- 'tollgatelaw07.CurveConstants': WHATEVER THE INPUT: true; the input reads as it did. -/
def curveConstantsSpec : ChangeSpec := { name := "curveConstants", fn := fun _ => fun
  | [d1, d2] => { results := [.lit (.bool true)], args := [d1, d2] }
  | _ => none }
def curveConstantsRow : OpenClaim := { program := "ytbnfanmolphliaadoor", sum := "fb6cee7c1b5cbfda3be060fbd7ac977665fb8e191681e69498d967232c9beca6", func := "tollgate/tollgatelaw07.CurveConstants", spec := "curveConstants", inPlace := ["math/bits.Sub64", "math/bits.Add64"], named := ["tollgate/curve.baseX", "tollgate/curve.baseY", "tollgate/curve.prime", "tollgate/curve.coeff", "tollgate/curve.order"], apart := false, laid := [("tollgate/curve.prime", laid_tollgate_curve_prime), ("tollgate/curve.order", laid_tollgate_curve_order), ("tollgate/curve.coeff", laid_tollgate_curve_coeff), ("tollgate/curve.baseX", laid_tollgate_curve_baseX), ("tollgate/curve.baseY", laid_tollgate_curve_baseY)] }
def CurveConstantsSaid : Prop := curveConstantsRow.holds Tryd.pinned (OpenSpec.ofChange curveConstantsSpec)

/-- ITS FALSE NEIGHBOUR: 'it returns false'. Refute it at one input. -/
def curveConstantsWrong : ChangeSpec := { name := "curveConstants", fn := fun _ => fun
  | [d1, d2] => { results := [.lit (.bool false)], args := [d1, d2] }
  | _ => none }
def CurveConstantsWrongFalsely : Prop := curveConstantsRow.holds Tryd.pinned (OpenSpec.ofChange curveConstantsWrong)

/-- 'tollgatelaw07.CurveAdds': WHATEVER THE INPUT: true; the input reads as it did. -/
def curveAddsSpec : ChangeSpec := { name := "curveAdds", fn := fun _ => fun
  | [d1, d2, d3] => { results := [.lit (.bool true)], args := [d1, d2, d3] }
  | _ => none }
def curveAddsRow : OpenClaim := { program := "ytbnfanmolphliaadoor", sum := "fb6cee7c1b5cbfda3be060fbd7ac977665fb8e191681e69498d967232c9beca6", func := "tollgate/tollgatelaw07.CurveAdds", spec := "curveAdds", inPlace := ["math/bits.Sub64", "math/bits.Add64"], named := ["tollgate/curve.baseX", "tollgate/curve.baseY", "tollgate/curve.prime", "tollgate/curve.coeff", "tollgate/curve.order"], apart := false, laid := [("tollgate/curve.prime", laid_tollgate_curve_prime), ("tollgate/curve.order", laid_tollgate_curve_order), ("tollgate/curve.coeff", laid_tollgate_curve_coeff), ("tollgate/curve.baseX", laid_tollgate_curve_baseX), ("tollgate/curve.baseY", laid_tollgate_curve_baseY)] }
def CurveAddsSaid : Prop := curveAddsRow.holds Tryd.pinned (OpenSpec.ofChange curveAddsSpec)

/-- ITS FALSE NEIGHBOUR: 'it returns false'. Refute it at one input. -/
def curveAddsWrong : ChangeSpec := { name := "curveAdds", fn := fun _ => fun
  | [d1, d2, d3] => { results := [.lit (.bool false)], args := [d1, d2, d3] }
  | _ => none }
def CurveAddsWrongFalsely : Prop := curveAddsRow.holds Tryd.pinned (OpenSpec.ofChange curveAddsWrong)

/-- 'tollgatelaw07.CurveTimes': WHATEVER THE INPUT: true; the input reads as it did. -/
def curveTimesSpec : ChangeSpec := { name := "curveTimes", fn := fun _ => fun
  | [d1, d2] => { results := [.lit (.bool true)], args := [d1, d2] }
  | _ => none }
def curveTimesRow : OpenClaim := { program := "ytbnfanmolphliaadoor", sum := "fb6cee7c1b5cbfda3be060fbd7ac977665fb8e191681e69498d967232c9beca6", func := "tollgate/tollgatelaw07.CurveTimes", spec := "curveTimes", inPlace := ["math/bits.Sub64", "math/bits.Add64"], named := ["tollgate/curve.baseX", "tollgate/curve.baseY", "tollgate/curve.prime", "tollgate/curve.coeff", "tollgate/curve.order"], apart := false, laid := [("tollgate/curve.prime", laid_tollgate_curve_prime), ("tollgate/curve.order", laid_tollgate_curve_order), ("tollgate/curve.coeff", laid_tollgate_curve_coeff), ("tollgate/curve.baseX", laid_tollgate_curve_baseX), ("tollgate/curve.baseY", laid_tollgate_curve_baseY)] }
def CurveTimesSaid : Prop := curveTimesRow.holds Tryd.pinned (OpenSpec.ofChange curveTimesSpec)

/-- ITS FALSE NEIGHBOUR: 'it returns false'. Refute it at one input. -/
def curveTimesWrong : ChangeSpec := { name := "curveTimes", fn := fun _ => fun
  | [d1, d2] => { results := [.lit (.bool false)], args := [d1, d2] }
  | _ => none }
def CurveTimesWrongFalsely : Prop := curveTimesRow.holds Tryd.pinned (OpenSpec.ofChange curveTimesWrong)

/-- 'tollgatelaw07.CurveGroup': WHATEVER THE INPUT: true; the input reads as it did. -/
def curveGroupSpec : ChangeSpec := { name := "curveGroup", fn := fun _ => fun
  | [d1, d2, d3] => { results := [.lit (.bool true)], args := [d1, d2, d3] }
  | _ => none }
def curveGroupRow : OpenClaim := { program := "ytbnfanmolphliaadoor", sum := "fb6cee7c1b5cbfda3be060fbd7ac977665fb8e191681e69498d967232c9beca6", func := "tollgate/tollgatelaw07.CurveGroup", spec := "curveGroup", inPlace := ["math/bits.Sub64", "math/bits.Add64"], named := ["tollgate/curve.baseX", "tollgate/curve.baseY", "tollgate/curve.prime", "tollgate/curve.coeff", "tollgate/curve.order"], apart := false, laid := [("tollgate/curve.prime", laid_tollgate_curve_prime), ("tollgate/curve.order", laid_tollgate_curve_order), ("tollgate/curve.coeff", laid_tollgate_curve_coeff), ("tollgate/curve.baseX", laid_tollgate_curve_baseX), ("tollgate/curve.baseY", laid_tollgate_curve_baseY)] }
def CurveGroupSaid : Prop := curveGroupRow.holds Tryd.pinned (OpenSpec.ofChange curveGroupSpec)

/-- ITS FALSE NEIGHBOUR: 'it returns false'. Refute it at one input. -/
def curveGroupWrong : ChangeSpec := { name := "curveGroup", fn := fun _ => fun
  | [d1, d2, d3] => { results := [.lit (.bool false)], args := [d1, d2, d3] }
  | _ => none }
def CurveGroupWrongFalsely : Prop := curveGroupRow.holds Tryd.pinned (OpenSpec.ofChange curveGroupWrong)

/-- 'tollgatelaw07.CurveOpposites': WHATEVER THE INPUT: true; the input reads as it did. -/
def curveOppositesSpec : ChangeSpec := { name := "curveOpposites", fn := fun _ => fun
  | [d] => { results := [.lit (.bool true)], args := [d] }
  | _ => none }
def curveOppositesRow : OpenClaim := { program := "ytbnfanmolphliaadoor", sum := "fb6cee7c1b5cbfda3be060fbd7ac977665fb8e191681e69498d967232c9beca6", func := "tollgate/tollgatelaw07.CurveOpposites", spec := "curveOpposites", inPlace := ["math/bits.Sub64", "math/bits.Add64"], named := ["tollgate/curve.baseX", "tollgate/curve.baseY", "tollgate/curve.prime", "tollgate/curve.coeff", "tollgate/curve.order"], apart := false, laid := [("tollgate/curve.prime", laid_tollgate_curve_prime), ("tollgate/curve.order", laid_tollgate_curve_order), ("tollgate/curve.coeff", laid_tollgate_curve_coeff), ("tollgate/curve.baseX", laid_tollgate_curve_baseX), ("tollgate/curve.baseY", laid_tollgate_curve_baseY)] }
def CurveOppositesSaid : Prop := curveOppositesRow.holds Tryd.pinned (OpenSpec.ofChange curveOppositesSpec)

/-- ITS FALSE NEIGHBOUR: 'it returns false'. Refute it at one input. -/
def curveOppositesWrong : ChangeSpec := { name := "curveOpposites", fn := fun _ => fun
  | [d] => { results := [.lit (.bool false)], args := [d] }
  | _ => none }
def CurveOppositesWrongFalsely : Prop := curveOppositesRow.holds Tryd.pinned (OpenSpec.ofChange curveOppositesWrong)

/-- 'tollgatelaw07.CurveBytes': WHATEVER THE INPUT: true; the input reads as it did. -/
def curveBytesSpec : ChangeSpec := { name := "curveBytes", fn := fun _ => fun
  | [d1, d2, d3] => { results := [.lit (.bool true)], args := [d1, d2, d3] }
  | _ => none }
def curveBytesRow : OpenClaim := { program := "ytbnfanmolphliaadoor", sum := "fb6cee7c1b5cbfda3be060fbd7ac977665fb8e191681e69498d967232c9beca6", func := "tollgate/tollgatelaw07.CurveBytes", spec := "curveBytes", inPlace := ["math/bits.Sub64", "math/bits.Add64"], named := ["tollgate/curve.baseX", "tollgate/curve.baseY", "tollgate/curve.prime", "tollgate/curve.coeff", "tollgate/curve.order"], apart := false, laid := [("tollgate/curve.prime", laid_tollgate_curve_prime), ("tollgate/curve.order", laid_tollgate_curve_order), ("tollgate/curve.coeff", laid_tollgate_curve_coeff), ("tollgate/curve.baseX", laid_tollgate_curve_baseX), ("tollgate/curve.baseY", laid_tollgate_curve_baseY)] }
def CurveBytesSaid : Prop := curveBytesRow.holds Tryd.pinned (OpenSpec.ofChange curveBytesSpec)

/-- ITS FALSE NEIGHBOUR: 'it returns false'. Refute it at one input. -/
def curveBytesWrong : ChangeSpec := { name := "curveBytes", fn := fun _ => fun
  | [d1, d2, d3] => { results := [.lit (.bool false)], args := [d1, d2, d3] }
  | _ => none }
def CurveBytesWrongFalsely : Prop := curveBytesRow.holds Tryd.pinned (OpenSpec.ofChange curveBytesWrong)

/-- 'tollgatelaw07.CurveShares': WHATEVER THE INPUT: true; the input reads as it did. -/
def curveSharesSpec : ChangeSpec := { name := "curveShares", fn := fun _ => fun
  | [d1, d2, d3] => { results := [.lit (.bool true)], args := [d1, d2, d3] }
  | _ => none }
def curveSharesRow : OpenClaim := { program := "ytbnfanmolphliaadoor", sum := "fb6cee7c1b5cbfda3be060fbd7ac977665fb8e191681e69498d967232c9beca6", func := "tollgate/tollgatelaw07.CurveShares", spec := "curveShares", inPlace := ["math/bits.Sub64", "math/bits.Add64"], named := ["tollgate/curve.order", "tollgate/curve.baseX", "tollgate/curve.baseY", "tollgate/curve.prime", "tollgate/curve.coeff"], apart := false, laid := [("tollgate/curve.prime", laid_tollgate_curve_prime), ("tollgate/curve.order", laid_tollgate_curve_order), ("tollgate/curve.coeff", laid_tollgate_curve_coeff), ("tollgate/curve.baseX", laid_tollgate_curve_baseX), ("tollgate/curve.baseY", laid_tollgate_curve_baseY)] }
def CurveSharesSaid : Prop := curveSharesRow.holds Tryd.pinned (OpenSpec.ofChange curveSharesSpec)

/-- ITS FALSE NEIGHBOUR: 'it returns false'. Refute it at one input. -/
def curveSharesWrong : ChangeSpec := { name := "curveShares", fn := fun _ => fun
  | [d1, d2, d3] => { results := [.lit (.bool false)], args := [d1, d2, d3] }
  | _ => none }
def CurveSharesWrongFalsely : Prop := curveSharesRow.holds Tryd.pinned (OpenSpec.ofChange curveSharesWrong)

/- THE SECOND FORM. 'bulk': how many values and letters a reading holds, each counted each time it is reached (what is shared counts as often as it is met; a slice's spare places count too). A statement '..UptoSaid' is the law's where the arguments, and the package variables that the reading takes, are together of bulk at most 1048576: NARROWER than '..Said'. Prove '..Said' where nothing that the law and all that it calls make is longer than what came in: it says more and counts as full. Else prove '..UptoSaid'. A law counts once. -/
mutual
def uptoBulk {H : Type} : DataW H → Nat
  | .lit (.string bytes) => bytes.length + 1
  | .lit _ => 1
  | .nil => 1
  | .ptr d => uptoBulk d + 1
  | .slice elems spare => uptoBulkAll elems + uptoBulkAll spare + 1
  | .agg parts => uptoBulkAll parts + 1
  | .iface _ d => uptoBulk d + 1
  | .map entries => uptoBulkEntries entries + 1
  | .held _ => 1
def uptoBulkAll {H : Type} : List (DataW H) → Nat
  | [] => 0
  | d :: r => uptoBulk d + uptoBulkAll r
def uptoBulkEntries {H : Type} : List (Lit × DataW H) → Nat
  | [] => 0
  | x :: r => uptoBulkEntry x + uptoBulkEntries r
def uptoBulkEntry {H : Type} : Lit × DataW H → Nat
  | (.string bytes, d) => bytes.length + uptoBulk d + 1
  | (_, d) => uptoBulk d + 1
 end
def uptoSmall : (H : Type) → List (DataW H) → Bool := fun _ ds => decide (uptoBulkAll ds ≤ 1048576)
def OpenSpec.upto (s : _root_.Go.ChangeSpec) : _root_.Go.OpenSpec := { _root_.Go.OpenSpec.ofChange s with cond := some uptoSmall }

/-- 'tollgatelaw07.CurveConstants', WHERE WHAT IT READS IS OF BULK AT MOST 1048576: true; the input reads as it did. -/
def curveConstantsUptoRow : OpenClaim := { program := "ytbnfanmolphliaadoor", sum := "fb6cee7c1b5cbfda3be060fbd7ac977665fb8e191681e69498d967232c9beca6", func := "tollgate/tollgatelaw07.CurveConstants", spec := "curveConstants", inPlace := ["math/bits.Sub64", "math/bits.Add64"], named := ["tollgate/curve.baseX", "tollgate/curve.baseY", "tollgate/curve.prime", "tollgate/curve.coeff", "tollgate/curve.order"], apart := false, laid := [("tollgate/curve.prime", laid_tollgate_curve_prime), ("tollgate/curve.order", laid_tollgate_curve_order), ("tollgate/curve.coeff", laid_tollgate_curve_coeff), ("tollgate/curve.baseX", laid_tollgate_curve_baseX), ("tollgate/curve.baseY", laid_tollgate_curve_baseY)], narrowed := true }
def CurveConstantsUptoSaid : Prop := curveConstantsUptoRow.holds Tryd.pinned (OpenSpec.upto curveConstantsSpec)

/-- 'tollgatelaw07.CurveAdds', WHERE WHAT IT READS IS OF BULK AT MOST 1048576: true; the input reads as it did. -/
def curveAddsUptoRow : OpenClaim := { program := "ytbnfanmolphliaadoor", sum := "fb6cee7c1b5cbfda3be060fbd7ac977665fb8e191681e69498d967232c9beca6", func := "tollgate/tollgatelaw07.CurveAdds", spec := "curveAdds", inPlace := ["math/bits.Sub64", "math/bits.Add64"], named := ["tollgate/curve.baseX", "tollgate/curve.baseY", "tollgate/curve.prime", "tollgate/curve.coeff", "tollgate/curve.order"], apart := false, laid := [("tollgate/curve.prime", laid_tollgate_curve_prime), ("tollgate/curve.order", laid_tollgate_curve_order), ("tollgate/curve.coeff", laid_tollgate_curve_coeff), ("tollgate/curve.baseX", laid_tollgate_curve_baseX), ("tollgate/curve.baseY", laid_tollgate_curve_baseY)], narrowed := true }
def CurveAddsUptoSaid : Prop := curveAddsUptoRow.holds Tryd.pinned (OpenSpec.upto curveAddsSpec)

/-- 'tollgatelaw07.CurveTimes', WHERE WHAT IT READS IS OF BULK AT MOST 1048576: true; the input reads as it did. -/
def curveTimesUptoRow : OpenClaim := { program := "ytbnfanmolphliaadoor", sum := "fb6cee7c1b5cbfda3be060fbd7ac977665fb8e191681e69498d967232c9beca6", func := "tollgate/tollgatelaw07.CurveTimes", spec := "curveTimes", inPlace := ["math/bits.Sub64", "math/bits.Add64"], named := ["tollgate/curve.baseX", "tollgate/curve.baseY", "tollgate/curve.prime", "tollgate/curve.coeff", "tollgate/curve.order"], apart := false, laid := [("tollgate/curve.prime", laid_tollgate_curve_prime), ("tollgate/curve.order", laid_tollgate_curve_order), ("tollgate/curve.coeff", laid_tollgate_curve_coeff), ("tollgate/curve.baseX", laid_tollgate_curve_baseX), ("tollgate/curve.baseY", laid_tollgate_curve_baseY)], narrowed := true }
def CurveTimesUptoSaid : Prop := curveTimesUptoRow.holds Tryd.pinned (OpenSpec.upto curveTimesSpec)

/-- 'tollgatelaw07.CurveGroup', WHERE WHAT IT READS IS OF BULK AT MOST 1048576: true; the input reads as it did. -/
def curveGroupUptoRow : OpenClaim := { program := "ytbnfanmolphliaadoor", sum := "fb6cee7c1b5cbfda3be060fbd7ac977665fb8e191681e69498d967232c9beca6", func := "tollgate/tollgatelaw07.CurveGroup", spec := "curveGroup", inPlace := ["math/bits.Sub64", "math/bits.Add64"], named := ["tollgate/curve.baseX", "tollgate/curve.baseY", "tollgate/curve.prime", "tollgate/curve.coeff", "tollgate/curve.order"], apart := false, laid := [("tollgate/curve.prime", laid_tollgate_curve_prime), ("tollgate/curve.order", laid_tollgate_curve_order), ("tollgate/curve.coeff", laid_tollgate_curve_coeff), ("tollgate/curve.baseX", laid_tollgate_curve_baseX), ("tollgate/curve.baseY", laid_tollgate_curve_baseY)], narrowed := true }
def CurveGroupUptoSaid : Prop := curveGroupUptoRow.holds Tryd.pinned (OpenSpec.upto curveGroupSpec)

/-- 'tollgatelaw07.CurveOpposites', WHERE WHAT IT READS IS OF BULK AT MOST 1048576: true; the input reads as it did. -/
def curveOppositesUptoRow : OpenClaim := { program := "ytbnfanmolphliaadoor", sum := "fb6cee7c1b5cbfda3be060fbd7ac977665fb8e191681e69498d967232c9beca6", func := "tollgate/tollgatelaw07.CurveOpposites", spec := "curveOpposites", inPlace := ["math/bits.Sub64", "math/bits.Add64"], named := ["tollgate/curve.baseX", "tollgate/curve.baseY", "tollgate/curve.prime", "tollgate/curve.coeff", "tollgate/curve.order"], apart := false, laid := [("tollgate/curve.prime", laid_tollgate_curve_prime), ("tollgate/curve.order", laid_tollgate_curve_order), ("tollgate/curve.coeff", laid_tollgate_curve_coeff), ("tollgate/curve.baseX", laid_tollgate_curve_baseX), ("tollgate/curve.baseY", laid_tollgate_curve_baseY)], narrowed := true }
def CurveOppositesUptoSaid : Prop := curveOppositesUptoRow.holds Tryd.pinned (OpenSpec.upto curveOppositesSpec)

/-- 'tollgatelaw07.CurveBytes', WHERE WHAT IT READS IS OF BULK AT MOST 1048576: true; the input reads as it did. -/
def curveBytesUptoRow : OpenClaim := { program := "ytbnfanmolphliaadoor", sum := "fb6cee7c1b5cbfda3be060fbd7ac977665fb8e191681e69498d967232c9beca6", func := "tollgate/tollgatelaw07.CurveBytes", spec := "curveBytes", inPlace := ["math/bits.Sub64", "math/bits.Add64"], named := ["tollgate/curve.baseX", "tollgate/curve.baseY", "tollgate/curve.prime", "tollgate/curve.coeff", "tollgate/curve.order"], apart := false, laid := [("tollgate/curve.prime", laid_tollgate_curve_prime), ("tollgate/curve.order", laid_tollgate_curve_order), ("tollgate/curve.coeff", laid_tollgate_curve_coeff), ("tollgate/curve.baseX", laid_tollgate_curve_baseX), ("tollgate/curve.baseY", laid_tollgate_curve_baseY)], narrowed := true }
def CurveBytesUptoSaid : Prop := curveBytesUptoRow.holds Tryd.pinned (OpenSpec.upto curveBytesSpec)

/-- 'tollgatelaw07.CurveShares', WHERE WHAT IT READS IS OF BULK AT MOST 1048576: true; the input reads as it did. -/
def curveSharesUptoRow : OpenClaim := { program := "ytbnfanmolphliaadoor", sum := "fb6cee7c1b5cbfda3be060fbd7ac977665fb8e191681e69498d967232c9beca6", func := "tollgate/tollgatelaw07.CurveShares", spec := "curveShares", inPlace := ["math/bits.Sub64", "math/bits.Add64"], named := ["tollgate/curve.order", "tollgate/curve.baseX", "tollgate/curve.baseY", "tollgate/curve.prime", "tollgate/curve.coeff"], apart := false, laid := [("tollgate/curve.prime", laid_tollgate_curve_prime), ("tollgate/curve.order", laid_tollgate_curve_order), ("tollgate/curve.coeff", laid_tollgate_curve_coeff), ("tollgate/curve.baseX", laid_tollgate_curve_baseX), ("tollgate/curve.baseY", laid_tollgate_curve_baseY)], narrowed := true }
def CurveSharesUptoSaid : Prop := curveSharesUptoRow.holds Tryd.pinned (OpenSpec.upto curveSharesSpec)

end Rows
end Go.Proofs.YtbnfanmolphliaaDoor
