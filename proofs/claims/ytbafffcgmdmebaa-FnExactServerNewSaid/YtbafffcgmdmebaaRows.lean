/-
  No cell of these rows narrows 'for every input' (looked for: loops, veiled, ifaces, maps, wideKeys, modest, calm, conditions, laid).
  DERIVED. THE GIVEN ROWS OF THIS SEAT. 4 by the template 'for every input the law returns true; each argument reads behind the call as it read before'; 0 by the template 'total and deterministic' (their statements: YtbafffcgmdmebaaTotals.lean).
  GIVEN WITH THE SEED: the statements are not yours to turn. If you find one false, say at which input.
  Laid BY PROGRAM, IN A SANDBOX (cutbox-rows.mjs): the forced cells as the released guide's own fill.sh prints them over the translation 71941c2343070584… (all of the seat's roots in one cut). By AI agents, Wed Nov 11 2026. No macro, syntax, notation, axiom, sorry.
-/
import Derived.Test.YtbafffcgmdmebaaChecked
import GoSem.Claim
import GoSem.ClaimJoined
import GoSem.ClaimMapViews
import Derived.JoinedTies
import Derived.KernelRfl
namespace Go.Proofs.Ytbafffcgmdmebaa
/- THE CELL 'sum', in the pinned program and in every row, IS THE sha256 OF THE DUMP (.gsa) THAT YtbafffcgmdmebaaProg.lean LOADS. Nothing in Lean hashes anything: it is a label: what it is worth is what the hold of that sum in a sandbox is worth. -/
noncomputable def Try.pinned : Pinned := { name := "ytbafffcgmdmebaa", sum := "71941c234307058489b038411360d262d847483716bdf202a209d213fb5be82d", checked := Try.checked }
namespace Rows
def none {H : Type} : Left H := { results := [], args := [] }

/-- 'laws.FnExactConstants': WHATEVER THE INPUT: true; the input reads as it did. -/
def fnExactConstantsSpec : ChangeSpec := { name := "fnExactConstants", fn := fun _ => fun
  | [] => { results := [.lit (.bool true)], args := [] }
  | _ => none }
def fnExactConstantsRow : OpenClaim := { program := "ytbafffcgmdmebaa", sum := "71941c234307058489b038411360d262d847483716bdf202a209d213fb5be82d", func := "loop.example/plashet/laws.FnExactConstants", spec := "fnExactConstants", apart := false }
def FnExactConstantsSaid : Prop := fnExactConstantsRow.holds Try.pinned (OpenSpec.ofChange fnExactConstantsSpec)

/-- ITS FALSE NEIGHBOUR: 'it returns false'. Refute it at one input. -/
def fnExactConstantsWrong : ChangeSpec := { name := "fnExactConstants", fn := fun _ => fun
  | [] => { results := [.lit (.bool false)], args := [] }
  | _ => none }
def FnExactConstantsWrongFalsely : Prop := fnExactConstantsRow.holds Try.pinned (OpenSpec.ofChange fnExactConstantsWrong)

/-- 'laws.FnExactRowMade': WHATEVER THE INPUT: true; the input reads as it did. -/
def fnExactRowMadeSpec : ChangeSpec := { name := "fnExactRowMade", fn := fun _ => fun
  | [d1, d2] => { results := [.lit (.bool true)], args := [d1, d2] }
  | _ => none }
def fnExactRowMadeRow : OpenClaim := { program := "ytbafffcgmdmebaa", sum := "71941c234307058489b038411360d262d847483716bdf202a209d213fb5be82d", func := "loop.example/plashet/laws.FnExactRowMade", spec := "fnExactRowMade", apart := false }
def FnExactRowMadeSaid : Prop := fnExactRowMadeRow.holds Try.pinned (OpenSpec.ofChange fnExactRowMadeSpec)

/-- ITS FALSE NEIGHBOUR: 'it returns false'. Refute it at one input. -/
def fnExactRowMadeWrong : ChangeSpec := { name := "fnExactRowMade", fn := fun _ => fun
  | [d1, d2] => { results := [.lit (.bool false)], args := [d1, d2] }
  | _ => none }
def FnExactRowMadeWrongFalsely : Prop := fnExactRowMadeRow.holds Try.pinned (OpenSpec.ofChange fnExactRowMadeWrong)

/-- 'laws.FnExactTreeNew': WHATEVER THE INPUT: true; the input reads as it did. -/
def fnExactTreeNewSpec : ChangeSpec := { name := "fnExactTreeNew", fn := fun _ => fun
  | [] => { results := [.lit (.bool true)], args := [] }
  | _ => none }
def fnExactTreeNewRow : OpenClaim := { program := "ytbafffcgmdmebaa", sum := "71941c234307058489b038411360d262d847483716bdf202a209d213fb5be82d", func := "loop.example/plashet/laws.FnExactTreeNew", spec := "fnExactTreeNew", apart := false }
def FnExactTreeNewSaid : Prop := fnExactTreeNewRow.holds Try.pinned (OpenSpec.ofChange fnExactTreeNewSpec)

/-- ITS FALSE NEIGHBOUR: 'it returns false'. Refute it at one input. -/
def fnExactTreeNewWrong : ChangeSpec := { name := "fnExactTreeNew", fn := fun _ => fun
  | [] => { results := [.lit (.bool false)], args := [] }
  | _ => none }
def FnExactTreeNewWrongFalsely : Prop := fnExactTreeNewRow.holds Try.pinned (OpenSpec.ofChange fnExactTreeNewWrong)

/-- 'laws.FnExactServerNew': WHATEVER THE INPUT: true; the input reads as it did. -/
def fnExactServerNewSpec : ChangeSpec := { name := "fnExactServerNew", fn := fun _ => fun
  | [] => { results := [.lit (.bool true)], args := [] }
  | _ => none }
def fnExactServerNewRow : OpenClaim := { program := "ytbafffcgmdmebaa", sum := "71941c234307058489b038411360d262d847483716bdf202a209d213fb5be82d", func := "loop.example/plashet/laws.FnExactServerNew", spec := "fnExactServerNew", apart := false }
def FnExactServerNewSaid : Prop := fnExactServerNewRow.holds Try.pinned (OpenSpec.ofChange fnExactServerNewSpec)

/-- ITS FALSE NEIGHBOUR: 'it returns false'. Refute it at one input. -/
def fnExactServerNewWrong : ChangeSpec := { name := "fnExactServerNew", fn := fun _ => fun
  | [] => { results := [.lit (.bool false)], args := [] }
  | _ => none }
def FnExactServerNewWrongFalsely : Prop := fnExactServerNewRow.holds Try.pinned (OpenSpec.ofChange fnExactServerNewWrong)

/- THE SECOND FORM. 'bulk': how many values and letters a reading holds, each counted each time it is reached (what is shared counts as often as it is met; a slice's spare places count too). A statement '..UptoSaid' is the law's where the arguments, and the package variables that the reading takes, are together of bulk at most 1048576: NARROWER than '..Said'. Prove '..Said' where nothing that the law and all that it calls make is longer than what came in: it says more and counts as full. Else prove '..UptoSaid'. A law counts once. -/
mutual
def uptoBulk {H : Type} : DataW H → Nat
  | .lit (.string bytes) => bytes.length + 1
  | .lit _ => 1
  | .nil => 1
  | .ptr d => uptoBulk d + 1
  | .slice elems spare => uptoBulkAll elems + uptoBulkAll spare + 1
  | .agg parts => uptoBulkAll parts + 1
  | .iface _ d => uptoBulk d + 1
  | .map entries => uptoBulkEntries entries + 1
  | .held _ => 1
def uptoBulkAll {H : Type} : List (DataW H) → Nat
  | [] => 0
  | d :: r => uptoBulk d + uptoBulkAll r
def uptoBulkEntries {H : Type} : List (Lit × DataW H) → Nat
  | [] => 0
  | x :: r => uptoBulkEntry x + uptoBulkEntries r
def uptoBulkEntry {H : Type} : Lit × DataW H → Nat
  | (.string bytes, d) => bytes.length + uptoBulk d + 1
  | (_, d) => uptoBulk d + 1
 end
def uptoSmall : (H : Type) → List (DataW H) → Bool := fun _ ds => decide (uptoBulkAll ds ≤ 1048576)
def OpenSpec.upto (s : _root_.Go.ChangeSpec) : _root_.Go.OpenSpec := { _root_.Go.OpenSpec.ofChange s with cond := some uptoSmall }

/-- 'laws.FnExactConstants', WHERE WHAT IT READS IS OF BULK AT MOST 1048576: true; the input reads as it did. -/
def fnExactConstantsUptoRow : OpenClaim := { program := "ytbafffcgmdmebaa", sum := "71941c234307058489b038411360d262d847483716bdf202a209d213fb5be82d", func := "loop.example/plashet/laws.FnExactConstants", spec := "fnExactConstants", apart := false, narrowed := true }
def FnExactConstantsUptoSaid : Prop := fnExactConstantsUptoRow.holds Try.pinned (OpenSpec.upto fnExactConstantsSpec)

/-- 'laws.FnExactRowMade', WHERE WHAT IT READS IS OF BULK AT MOST 1048576: true; the input reads as it did. -/
def fnExactRowMadeUptoRow : OpenClaim := { program := "ytbafffcgmdmebaa", sum := "71941c234307058489b038411360d262d847483716bdf202a209d213fb5be82d", func := "loop.example/plashet/laws.FnExactRowMade", spec := "fnExactRowMade", apart := false, narrowed := true }
def FnExactRowMadeUptoSaid : Prop := fnExactRowMadeUptoRow.holds Try.pinned (OpenSpec.upto fnExactRowMadeSpec)

/-- 'laws.FnExactTreeNew', WHERE WHAT IT READS IS OF BULK AT MOST 1048576: true; the input reads as it did. -/
def fnExactTreeNewUptoRow : OpenClaim := { program := "ytbafffcgmdmebaa", sum := "71941c234307058489b038411360d262d847483716bdf202a209d213fb5be82d", func := "loop.example/plashet/laws.FnExactTreeNew", spec := "fnExactTreeNew", apart := false, narrowed := true }
def FnExactTreeNewUptoSaid : Prop := fnExactTreeNewUptoRow.holds Try.pinned (OpenSpec.upto fnExactTreeNewSpec)

/-- 'laws.FnExactServerNew', WHERE WHAT IT READS IS OF BULK AT MOST 1048576: true; the input reads as it did. -/
def fnExactServerNewUptoRow : OpenClaim := { program := "ytbafffcgmdmebaa", sum := "71941c234307058489b038411360d262d847483716bdf202a209d213fb5be82d", func := "loop.example/plashet/laws.FnExactServerNew", spec := "fnExactServerNew", apart := false, narrowed := true }
def FnExactServerNewUptoSaid : Prop := fnExactServerNewUptoRow.holds Try.pinned (OpenSpec.upto fnExactServerNewSpec)

end Rows
end Go.Proofs.Ytbafffcgmdmebaa
