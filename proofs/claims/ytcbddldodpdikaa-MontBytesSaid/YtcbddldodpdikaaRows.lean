/-
  No cell of these rows narrows 'for every input' (looked for: loops, veiled, ifaces, maps, wideKeys, modest, calm, conditions, laid).
  DERIVED. THE GIVEN ROWS OF THIS SEAT. 6 by the template 'for every input the law returns true; each argument reads behind the call as it read before'; 0 by the template 'total and deterministic' (their statements: YtcbddldodpdikaaTotals.lean).
  GIVEN WITH THE SEED: the statements are not yours to turn. If you find one false, say at which input.
  Laid BY PROGRAM, IN A SANDBOX (cutbox-rows.mjs): the forced cells as the released guide's own fill.sh prints them over the translation 44337d56b6050a5e… (all of the seat's roots in one cut). By AI agents, Wed Nov 11 2026. No macro, syntax, notation, axiom, sorry.
-/
import Derived.Test.YtcbddldodpdikaaChecked
import GoSem.Claim
import GoSem.ClaimJoined
import GoSem.ClaimMapViews
import Derived.JoinedTies
import Derived.KernelRfl
namespace Go.Proofs.Ytcbddldodpdikaa
/- THE CELL 'sum', in the pinned program and in every row, IS THE sha256 OF THE DUMP (.gsa) THAT YtcbddldodpdikaaProg.lean LOADS. Nothing in Lean hashes anything: it is a label: what it is worth is what the hold of that sum in a sandbox is worth. -/
noncomputable def Try.pinned : Pinned := { name := "ytcbddldodpdikaa", sum := "44337d56b6050a5e16ed2fcd03f4766ae7ce3699000b32ac867214b26cdf3c2d", checked := Try.checked }
namespace Rows
def none {H : Type} : Left H := { results := [], args := [] }

/-- 'tollgatelaw06.MontMuls': WHATEVER THE INPUT: true; the input reads as it did. -/
def montMulsSpec : ChangeSpec := { name := "montMuls", fn := fun _ => fun
  | [d1, d2, d3] => { results := [.lit (.bool true)], args := [d1, d2, d3] }
  | _ => none }
def montMulsRow : OpenClaim := { program := "ytcbddldodpdikaa", sum := "44337d56b6050a5e16ed2fcd03f4766ae7ce3699000b32ac867214b26cdf3c2d", func := "tollgate/tollgatelaw06.MontMuls", spec := "montMuls", inPlace := ["math/bits.Sub64", "math/bits.Add64"], apart := false }
def MontMulsSaid : Prop := montMulsRow.holds Try.pinned (OpenSpec.ofChange montMulsSpec)

/-- ITS FALSE NEIGHBOUR: 'it returns false'. Refute it at one input. -/
def montMulsWrong : ChangeSpec := { name := "montMuls", fn := fun _ => fun
  | [d1, d2, d3] => { results := [.lit (.bool false)], args := [d1, d2, d3] }
  | _ => none }
def MontMulsWrongFalsely : Prop := montMulsRow.holds Try.pinned (OpenSpec.ofChange montMulsWrong)

/-- 'tollgatelaw06.MontChains': WHATEVER THE INPUT: true; the input reads as it did. -/
def montChainsSpec : ChangeSpec := { name := "montChains", fn := fun _ => fun
  | [d1, d2, d3] => { results := [.lit (.bool true)], args := [d1, d2, d3] }
  | _ => none }
def montChainsRow : OpenClaim := { program := "ytcbddldodpdikaa", sum := "44337d56b6050a5e16ed2fcd03f4766ae7ce3699000b32ac867214b26cdf3c2d", func := "tollgate/tollgatelaw06.MontChains", spec := "montChains", inPlace := ["math/bits.Sub64", "math/bits.Add64"], apart := false }
def MontChainsSaid : Prop := montChainsRow.holds Try.pinned (OpenSpec.ofChange montChainsSpec)

/-- ITS FALSE NEIGHBOUR: 'it returns false'. Refute it at one input. -/
def montChainsWrong : ChangeSpec := { name := "montChains", fn := fun _ => fun
  | [d1, d2, d3] => { results := [.lit (.bool false)], args := [d1, d2, d3] }
  | _ => none }
def MontChainsWrongFalsely : Prop := montChainsRow.holds Try.pinned (OpenSpec.ofChange montChainsWrong)

/-- 'tollgatelaw06.MontSums': WHATEVER THE INPUT: true; the input reads as it did. -/
def montSumsSpec : ChangeSpec := { name := "montSums", fn := fun _ => fun
  | [d1, d2, d3] => { results := [.lit (.bool true)], args := [d1, d2, d3] }
  | _ => none }
def montSumsRow : OpenClaim := { program := "ytcbddldodpdikaa", sum := "44337d56b6050a5e16ed2fcd03f4766ae7ce3699000b32ac867214b26cdf3c2d", func := "tollgate/tollgatelaw06.MontSums", spec := "montSums", inPlace := ["math/bits.Sub64", "math/bits.Add64"], apart := false }
def MontSumsSaid : Prop := montSumsRow.holds Try.pinned (OpenSpec.ofChange montSumsSpec)

/-- ITS FALSE NEIGHBOUR: 'it returns false'. Refute it at one input. -/
def montSumsWrong : ChangeSpec := { name := "montSums", fn := fun _ => fun
  | [d1, d2, d3] => { results := [.lit (.bool false)], args := [d1, d2, d3] }
  | _ => none }
def MontSumsWrongFalsely : Prop := montSumsRow.holds Try.pinned (OpenSpec.ofChange montSumsWrong)

/-- 'tollgatelaw06.MontLaws': WHATEVER THE INPUT: true; the input reads as it did. -/
def montLawsSpec : ChangeSpec := { name := "montLaws", fn := fun _ => fun
  | [d1, d2, d3] => { results := [.lit (.bool true)], args := [d1, d2, d3] }
  | _ => none }
def montLawsRow : OpenClaim := { program := "ytcbddldodpdikaa", sum := "44337d56b6050a5e16ed2fcd03f4766ae7ce3699000b32ac867214b26cdf3c2d", func := "tollgate/tollgatelaw06.MontLaws", spec := "montLaws", inPlace := ["math/bits.Sub64", "math/bits.Add64"], apart := false }
def MontLawsSaid : Prop := montLawsRow.holds Try.pinned (OpenSpec.ofChange montLawsSpec)

/-- ITS FALSE NEIGHBOUR: 'it returns false'. Refute it at one input. -/
def montLawsWrong : ChangeSpec := { name := "montLaws", fn := fun _ => fun
  | [d1, d2, d3] => { results := [.lit (.bool false)], args := [d1, d2, d3] }
  | _ => none }
def MontLawsWrongFalsely : Prop := montLawsRow.holds Try.pinned (OpenSpec.ofChange montLawsWrong)

/-- 'tollgatelaw06.MontBytes': WHATEVER THE INPUT: true; the input reads as it did. -/
def montBytesSpec : ChangeSpec := { name := "montBytes", fn := fun _ => fun
  | [d1, d2, d3] => { results := [.lit (.bool true)], args := [d1, d2, d3] }
  | _ => none }
def montBytesRow : OpenClaim := { program := "ytcbddldodpdikaa", sum := "44337d56b6050a5e16ed2fcd03f4766ae7ce3699000b32ac867214b26cdf3c2d", func := "tollgate/tollgatelaw06.MontBytes", spec := "montBytes", inPlace := ["math/bits.Sub64", "math/bits.Add64"], apart := false }
def MontBytesSaid : Prop := montBytesRow.holds Try.pinned (OpenSpec.ofChange montBytesSpec)

/-- ITS FALSE NEIGHBOUR: 'it returns false'. Refute it at one input. -/
def montBytesWrong : ChangeSpec := { name := "montBytes", fn := fun _ => fun
  | [d1, d2, d3] => { results := [.lit (.bool false)], args := [d1, d2, d3] }
  | _ => none }
def MontBytesWrongFalsely : Prop := montBytesRow.holds Try.pinned (OpenSpec.ofChange montBytesWrong)

/-- 'tollgatelaw06.MontPows': WHATEVER THE INPUT: true; the input reads as it did. -/
def montPowsSpec : ChangeSpec := { name := "montPows", fn := fun _ => fun
  | [d1, d2, d3] => { results := [.lit (.bool true)], args := [d1, d2, d3] }
  | _ => none }
def montPowsRow : OpenClaim := { program := "ytcbddldodpdikaa", sum := "44337d56b6050a5e16ed2fcd03f4766ae7ce3699000b32ac867214b26cdf3c2d", func := "tollgate/tollgatelaw06.MontPows", spec := "montPows", inPlace := ["math/bits.Sub64", "math/bits.Add64"], apart := false }
def MontPowsSaid : Prop := montPowsRow.holds Try.pinned (OpenSpec.ofChange montPowsSpec)

/-- ITS FALSE NEIGHBOUR: 'it returns false'. Refute it at one input. -/
def montPowsWrong : ChangeSpec := { name := "montPows", fn := fun _ => fun
  | [d1, d2, d3] => { results := [.lit (.bool false)], args := [d1, d2, d3] }
  | _ => none }
def MontPowsWrongFalsely : Prop := montPowsRow.holds Try.pinned (OpenSpec.ofChange montPowsWrong)

/- THE SECOND FORM. 'bulk': how many values and letters a reading holds, each counted each time it is reached (what is shared counts as often as it is met; a slice's spare places count too). A statement '..UptoSaid' is the law's where the arguments, and the package variables that the reading takes, are together of bulk at most 1048576: NARROWER than '..Said'. Prove '..Said' where nothing that the law and all that it calls make is longer than what came in: it says more and counts as full. Else prove '..UptoSaid'. A law counts once. -/
mutual
def uptoBulk {H : Type} : DataW H → Nat
  | .lit (.string bytes) => bytes.length + 1
  | .lit _ => 1
  | .nil => 1
  | .ptr d => uptoBulk d + 1
  | .slice elems spare => uptoBulkAll elems + uptoBulkAll spare + 1
  | .agg parts => uptoBulkAll parts + 1
  | .iface _ d => uptoBulk d + 1
  | .map entries => uptoBulkEntries entries + 1
  | .held _ => 1
def uptoBulkAll {H : Type} : List (DataW H) → Nat
  | [] => 0
  | d :: r => uptoBulk d + uptoBulkAll r
def uptoBulkEntries {H : Type} : List (Lit × DataW H) → Nat
  | [] => 0
  | x :: r => uptoBulkEntry x + uptoBulkEntries r
def uptoBulkEntry {H : Type} : Lit × DataW H → Nat
  | (.string bytes, d) => bytes.length + uptoBulk d + 1
  | (_, d) => uptoBulk d + 1
 end
def uptoSmall : (H : Type) → List (DataW H) → Bool := fun _ ds => decide (uptoBulkAll ds ≤ 1048576)
def OpenSpec.upto (s : _root_.Go.ChangeSpec) : _root_.Go.OpenSpec := { _root_.Go.OpenSpec.ofChange s with cond := some uptoSmall }

/-- 'tollgatelaw06.MontMuls', WHERE WHAT IT READS IS OF BULK AT MOST 1048576: true; the input reads as it did. -/
def montMulsUptoRow : OpenClaim := { program := "ytcbddldodpdikaa", sum := "44337d56b6050a5e16ed2fcd03f4766ae7ce3699000b32ac867214b26cdf3c2d", func := "tollgate/tollgatelaw06.MontMuls", spec := "montMuls", inPlace := ["math/bits.Sub64", "math/bits.Add64"], apart := false, narrowed := true }
def MontMulsUptoSaid : Prop := montMulsUptoRow.holds Try.pinned (OpenSpec.upto montMulsSpec)

/-- 'tollgatelaw06.MontChains', WHERE WHAT IT READS IS OF BULK AT MOST 1048576: true; the input reads as it did. -/
def montChainsUptoRow : OpenClaim := { program := "ytcbddldodpdikaa", sum := "44337d56b6050a5e16ed2fcd03f4766ae7ce3699000b32ac867214b26cdf3c2d", func := "tollgate/tollgatelaw06.MontChains", spec := "montChains", inPlace := ["math/bits.Sub64", "math/bits.Add64"], apart := false, narrowed := true }
def MontChainsUptoSaid : Prop := montChainsUptoRow.holds Try.pinned (OpenSpec.upto montChainsSpec)

/-- 'tollgatelaw06.MontSums', WHERE WHAT IT READS IS OF BULK AT MOST 1048576: true; the input reads as it did. -/
def montSumsUptoRow : OpenClaim := { program := "ytcbddldodpdikaa", sum := "44337d56b6050a5e16ed2fcd03f4766ae7ce3699000b32ac867214b26cdf3c2d", func := "tollgate/tollgatelaw06.MontSums", spec := "montSums", inPlace := ["math/bits.Sub64", "math/bits.Add64"], apart := false, narrowed := true }
def MontSumsUptoSaid : Prop := montSumsUptoRow.holds Try.pinned (OpenSpec.upto montSumsSpec)

/-- 'tollgatelaw06.MontLaws', WHERE WHAT IT READS IS OF BULK AT MOST 1048576: true; the input reads as it did. -/
def montLawsUptoRow : OpenClaim := { program := "ytcbddldodpdikaa", sum := "44337d56b6050a5e16ed2fcd03f4766ae7ce3699000b32ac867214b26cdf3c2d", func := "tollgate/tollgatelaw06.MontLaws", spec := "montLaws", inPlace := ["math/bits.Sub64", "math/bits.Add64"], apart := false, narrowed := true }
def MontLawsUptoSaid : Prop := montLawsUptoRow.holds Try.pinned (OpenSpec.upto montLawsSpec)

/-- 'tollgatelaw06.MontBytes', WHERE WHAT IT READS IS OF BULK AT MOST 1048576: true; the input reads as it did. -/
def montBytesUptoRow : OpenClaim := { program := "ytcbddldodpdikaa", sum := "44337d56b6050a5e16ed2fcd03f4766ae7ce3699000b32ac867214b26cdf3c2d", func := "tollgate/tollgatelaw06.MontBytes", spec := "montBytes", inPlace := ["math/bits.Sub64", "math/bits.Add64"], apart := false, narrowed := true }
def MontBytesUptoSaid : Prop := montBytesUptoRow.holds Try.pinned (OpenSpec.upto montBytesSpec)

/-- 'tollgatelaw06.MontPows', WHERE WHAT IT READS IS OF BULK AT MOST 1048576: true; the input reads as it did. -/
def montPowsUptoRow : OpenClaim := { program := "ytcbddldodpdikaa", sum := "44337d56b6050a5e16ed2fcd03f4766ae7ce3699000b32ac867214b26cdf3c2d", func := "tollgate/tollgatelaw06.MontPows", spec := "montPows", inPlace := ["math/bits.Sub64", "math/bits.Add64"], apart := false, narrowed := true }
def MontPowsUptoSaid : Prop := montPowsUptoRow.holds Try.pinned (OpenSpec.upto montPowsSpec)

end Rows
end Go.Proofs.Ytcbddldodpdikaa
