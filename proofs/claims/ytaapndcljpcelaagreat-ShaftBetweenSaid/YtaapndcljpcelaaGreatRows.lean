/-
  No cell of these rows narrows 'for every input' (looked for: loops, veiled, ifaces, maps, wideKeys, modest, calm, conditions, laid).
  DERIVED. THE GIVEN ROWS OF THIS SEAT. 13 by the template 'for every input the law returns true; each argument reads behind the call as it read before'; 0 by the template 'total and deterministic' (their statements: YtaapndcljpcelaaGreatTotals.lean).
  GIVEN WITH THE SEED: the statements are not yours to turn. If you find one false, say at which input.
  Laid BY PROGRAM, IN A SANDBOX (cutbox-rows.mjs): the forced cells as the released guide's own fill.sh prints them over the translation 3bb4015412d90404… (all of the seat's roots in one cut). By AI agents, Wed Nov 11 2026. No macro, syntax, notation, axiom, sorry.
-/
import Derived.Test.YtaapndcljpcelaaGreatChecked
import GoSem.Claim
import GoSem.ClaimJoined
import GoSem.ClaimMapViews
import Derived.JoinedTies
import Derived.KernelRfl
namespace Go.Proofs.YtaapndcljpcelaaGreat
/- THE CELL 'sum', in the pinned program and in every row, IS THE sha256 OF THE DUMP (.gsa) THAT YtaapndcljpcelaaGreatProg.lean LOADS. Nothing in Lean hashes anything: it is a label: what it is worth is what the hold of that sum in a sandbox is worth. -/
noncomputable def Tryz.pinned : Pinned := { name := "ytaapndcljpcelaagreat", sum := "3bb4015412d90404275fae0dc2877c7b8bbb04e570f42060da1ea70415c7269f", checked := Tryz.checked }
namespace Rows
def none {H : Type} : Left H := { results := [], args := [] }

/-- 'calxlaw01.ShaftEnds': WHATEVER THE INPUT: true; the input reads as it did. -/
def shaftEndsSpec : ChangeSpec := { name := "shaftEnds", fn := fun _ => fun
  | [d1, d2, d3, d4] => { results := [.lit (.bool true)], args := [d1, d2, d3, d4] }
  | _ => none }
def shaftEndsRow : OpenClaim := { program := "ytaapndcljpcelaagreat", sum := "3bb4015412d90404275fae0dc2877c7b8bbb04e570f42060da1ea70415c7269f", func := "calx/calxlaw01.ShaftEnds", spec := "shaftEnds", unfollowed := true, recurses := true, apart := false }
def ShaftEndsSaid : Prop := shaftEndsRow.holds Tryz.pinned (OpenSpec.ofChange shaftEndsSpec)

/-- ITS FALSE NEIGHBOUR: 'it returns false'. Refute it at one input. -/
def shaftEndsWrong : ChangeSpec := { name := "shaftEnds", fn := fun _ => fun
  | [d1, d2, d3, d4] => { results := [.lit (.bool false)], args := [d1, d2, d3, d4] }
  | _ => none }
def ShaftEndsWrongFalsely : Prop := shaftEndsRow.holds Tryz.pinned (OpenSpec.ofChange shaftEndsWrong)

/-- 'calxlaw01.ShaftBetween': WHATEVER THE INPUT: true; the input reads as it did. -/
def shaftBetweenSpec : ChangeSpec := { name := "shaftBetween", fn := fun _ => fun
  | [d1, d2, d3] => { results := [.lit (.bool true)], args := [d1, d2, d3] }
  | _ => none }
def shaftBetweenRow : OpenClaim := { program := "ytaapndcljpcelaagreat", sum := "3bb4015412d90404275fae0dc2877c7b8bbb04e570f42060da1ea70415c7269f", func := "calx/calxlaw01.ShaftBetween", spec := "shaftBetween", unfollowed := true, recurses := true, apart := false }
def ShaftBetweenSaid : Prop := shaftBetweenRow.holds Tryz.pinned (OpenSpec.ofChange shaftBetweenSpec)

/-- ITS FALSE NEIGHBOUR: 'it returns false'. Refute it at one input. -/
def shaftBetweenWrong : ChangeSpec := { name := "shaftBetween", fn := fun _ => fun
  | [d1, d2, d3] => { results := [.lit (.bool false)], args := [d1, d2, d3] }
  | _ => none }
def ShaftBetweenWrongFalsely : Prop := shaftBetweenRow.holds Tryz.pinned (OpenSpec.ofChange shaftBetweenWrong)

/-- 'calxlaw01.ShaftShares': WHATEVER THE INPUT: true; the input reads as it did. -/
def shaftSharesSpec : ChangeSpec := { name := "shaftShares", fn := fun _ => fun
  | [d1, d2] => { results := [.lit (.bool true)], args := [d1, d2] }
  | _ => none }
def shaftSharesRow : OpenClaim := { program := "ytaapndcljpcelaagreat", sum := "3bb4015412d90404275fae0dc2877c7b8bbb04e570f42060da1ea70415c7269f", func := "calx/calxlaw01.ShaftShares", spec := "shaftShares", unfollowed := true, recurses := true, apart := false }
def ShaftSharesSaid : Prop := shaftSharesRow.holds Tryz.pinned (OpenSpec.ofChange shaftSharesSpec)

/-- ITS FALSE NEIGHBOUR: 'it returns false'. Refute it at one input. -/
def shaftSharesWrong : ChangeSpec := { name := "shaftShares", fn := fun _ => fun
  | [d1, d2] => { results := [.lit (.bool false)], args := [d1, d2] }
  | _ => none }
def ShaftSharesWrongFalsely : Prop := shaftSharesRow.holds Tryz.pinned (OpenSpec.ofChange shaftSharesWrong)

/-- 'calxlaw01.ShaftTakes': WHATEVER THE INPUT: true; the input reads as it did. -/
def shaftTakesSpec : ChangeSpec := { name := "shaftTakes", fn := fun _ => fun
  | [d1, d2, d3] => { results := [.lit (.bool true)], args := [d1, d2, d3] }
  | _ => none }
def shaftTakesRow : OpenClaim := { program := "ytaapndcljpcelaagreat", sum := "3bb4015412d90404275fae0dc2877c7b8bbb04e570f42060da1ea70415c7269f", func := "calx/calxlaw01.ShaftTakes", spec := "shaftTakes", unfollowed := true, recurses := true, apart := false }
def ShaftTakesSaid : Prop := shaftTakesRow.holds Tryz.pinned (OpenSpec.ofChange shaftTakesSpec)

/-- ITS FALSE NEIGHBOUR: 'it returns false'. Refute it at one input. -/
def shaftTakesWrong : ChangeSpec := { name := "shaftTakes", fn := fun _ => fun
  | [d1, d2, d3] => { results := [.lit (.bool false)], args := [d1, d2, d3] }
  | _ => none }
def ShaftTakesWrongFalsely : Prop := shaftTakesRow.holds Tryz.pinned (OpenSpec.ofChange shaftTakesWrong)

/-- 'calxlaw01.ShaftPairs': WHATEVER THE INPUT: true; the input reads as it did. -/
def shaftPairsSpec : ChangeSpec := { name := "shaftPairs", fn := fun _ => fun
  | [d1, d2, d3] => { results := [.lit (.bool true)], args := [d1, d2, d3] }
  | _ => none }
def shaftPairsRow : OpenClaim := { program := "ytaapndcljpcelaagreat", sum := "3bb4015412d90404275fae0dc2877c7b8bbb04e570f42060da1ea70415c7269f", func := "calx/calxlaw01.ShaftPairs", spec := "shaftPairs", unfollowed := true, recurses := true, apart := false }
def ShaftPairsSaid : Prop := shaftPairsRow.holds Tryz.pinned (OpenSpec.ofChange shaftPairsSpec)

/-- ITS FALSE NEIGHBOUR: 'it returns false'. Refute it at one input. -/
def shaftPairsWrong : ChangeSpec := { name := "shaftPairs", fn := fun _ => fun
  | [d1, d2, d3] => { results := [.lit (.bool false)], args := [d1, d2, d3] }
  | _ => none }
def ShaftPairsWrongFalsely : Prop := shaftPairsRow.holds Tryz.pinned (OpenSpec.ofChange shaftPairsWrong)

/-- 'calxlaw01.ShaftFewer': WHATEVER THE INPUT: true; the input reads as it did. -/
def shaftFewerSpec : ChangeSpec := { name := "shaftFewer", fn := fun _ => fun
  | [d1, d2, d3, d4] => { results := [.lit (.bool true)], args := [d1, d2, d3, d4] }
  | _ => none }
def shaftFewerRow : OpenClaim := { program := "ytaapndcljpcelaagreat", sum := "3bb4015412d90404275fae0dc2877c7b8bbb04e570f42060da1ea70415c7269f", func := "calx/calxlaw01.ShaftFewer", spec := "shaftFewer", unfollowed := true, recurses := true, apart := false }
def ShaftFewerSaid : Prop := shaftFewerRow.holds Tryz.pinned (OpenSpec.ofChange shaftFewerSpec)

/-- ITS FALSE NEIGHBOUR: 'it returns false'. Refute it at one input. -/
def shaftFewerWrong : ChangeSpec := { name := "shaftFewer", fn := fun _ => fun
  | [d1, d2, d3, d4] => { results := [.lit (.bool false)], args := [d1, d2, d3, d4] }
  | _ => none }
def ShaftFewerWrongFalsely : Prop := shaftFewerRow.holds Tryz.pinned (OpenSpec.ofChange shaftFewerWrong)

/-- 'calxlaw01.ShaftTriangles': WHATEVER THE INPUT: true; the input reads as it did. -/
def shaftTrianglesSpec : ChangeSpec := { name := "shaftTriangles", fn := fun _ => fun
  | [d1, d2, d3, d4] => { results := [.lit (.bool true)], args := [d1, d2, d3, d4] }
  | _ => none }
def shaftTrianglesRow : OpenClaim := { program := "ytaapndcljpcelaagreat", sum := "3bb4015412d90404275fae0dc2877c7b8bbb04e570f42060da1ea70415c7269f", func := "calx/calxlaw01.ShaftTriangles", spec := "shaftTriangles", unfollowed := true, recurses := true, apart := false }
def ShaftTrianglesSaid : Prop := shaftTrianglesRow.holds Tryz.pinned (OpenSpec.ofChange shaftTrianglesSpec)

/-- ITS FALSE NEIGHBOUR: 'it returns false'. Refute it at one input. -/
def shaftTrianglesWrong : ChangeSpec := { name := "shaftTriangles", fn := fun _ => fun
  | [d1, d2, d3, d4] => { results := [.lit (.bool false)], args := [d1, d2, d3, d4] }
  | _ => none }
def ShaftTrianglesWrongFalsely : Prop := shaftTrianglesRow.holds Tryz.pinned (OpenSpec.ofChange shaftTrianglesWrong)

/-- 'calxlaw01.ShaftFinds': WHATEVER THE INPUT: true; the input reads as it did. -/
def shaftFindsSpec : ChangeSpec := { name := "shaftFinds", fn := fun _ => fun
  | [d1, d2] => { results := [.lit (.bool true)], args := [d1, d2] }
  | _ => none }
def shaftFindsRow : OpenClaim := { program := "ytaapndcljpcelaagreat", sum := "3bb4015412d90404275fae0dc2877c7b8bbb04e570f42060da1ea70415c7269f", func := "calx/calxlaw01.ShaftFinds", spec := "shaftFinds", unfollowed := true, recurses := true, apart := false }
def ShaftFindsSaid : Prop := shaftFindsRow.holds Tryz.pinned (OpenSpec.ofChange shaftFindsSpec)

/-- ITS FALSE NEIGHBOUR: 'it returns false'. Refute it at one input. -/
def shaftFindsWrong : ChangeSpec := { name := "shaftFinds", fn := fun _ => fun
  | [d1, d2] => { results := [.lit (.bool false)], args := [d1, d2] }
  | _ => none }
def ShaftFindsWrongFalsely : Prop := shaftFindsRow.holds Tryz.pinned (OpenSpec.ofChange shaftFindsWrong)

/-- 'calxlaw01.ShaftTies': WHATEVER THE INPUT: true; the input reads as it did. -/
def shaftTiesSpec : ChangeSpec := { name := "shaftTies", fn := fun _ => fun
  | [d1, d2] => { results := [.lit (.bool true)], args := [d1, d2] }
  | _ => none }
def shaftTiesRow : OpenClaim := { program := "ytaapndcljpcelaagreat", sum := "3bb4015412d90404275fae0dc2877c7b8bbb04e570f42060da1ea70415c7269f", func := "calx/calxlaw01.ShaftTies", spec := "shaftTies", unfollowed := true, recurses := true, apart := false }
def ShaftTiesSaid : Prop := shaftTiesRow.holds Tryz.pinned (OpenSpec.ofChange shaftTiesSpec)

/-- ITS FALSE NEIGHBOUR: 'it returns false'. Refute it at one input. -/
def shaftTiesWrong : ChangeSpec := { name := "shaftTies", fn := fun _ => fun
  | [d1, d2] => { results := [.lit (.bool false)], args := [d1, d2] }
  | _ => none }
def ShaftTiesWrongFalsely : Prop := shaftTiesRow.holds Tryz.pinned (OpenSpec.ofChange shaftTiesWrong)

/-- 'calxlaw01.ShaftTrue': WHATEVER THE INPUT: true; the input reads as it did. -/
def shaftTrueSpec : ChangeSpec := { name := "shaftTrue", fn := fun _ => fun
  | [d1, d2, d3, d4, d5] => { results := [.lit (.bool true)], args := [d1, d2, d3, d4, d5] }
  | _ => none }
def shaftTrueRow : OpenClaim := { program := "ytaapndcljpcelaagreat", sum := "3bb4015412d90404275fae0dc2877c7b8bbb04e570f42060da1ea70415c7269f", func := "calx/calxlaw01.ShaftTrue", spec := "shaftTrue", unfollowed := true, recurses := true, apart := false }
def ShaftTrueSaid : Prop := shaftTrueRow.holds Tryz.pinned (OpenSpec.ofChange shaftTrueSpec)

/-- ITS FALSE NEIGHBOUR: 'it returns false'. Refute it at one input. -/
def shaftTrueWrong : ChangeSpec := { name := "shaftTrue", fn := fun _ => fun
  | [d1, d2, d3, d4, d5] => { results := [.lit (.bool false)], args := [d1, d2, d3, d4, d5] }
  | _ => none }
def ShaftTrueWrongFalsely : Prop := shaftTrueRow.holds Tryz.pinned (OpenSpec.ofChange shaftTrueWrong)

/-- 'calxlaw01.ShaftMore': WHATEVER THE INPUT: true; the input reads as it did. -/
def shaftMoreSpec : ChangeSpec := { name := "shaftMore", fn := fun _ => fun
  | [d1, d2, d3, d4] => { results := [.lit (.bool true)], args := [d1, d2, d3, d4] }
  | _ => none }
def shaftMoreRow : OpenClaim := { program := "ytaapndcljpcelaagreat", sum := "3bb4015412d90404275fae0dc2877c7b8bbb04e570f42060da1ea70415c7269f", func := "calx/calxlaw01.ShaftMore", spec := "shaftMore", unfollowed := true, recurses := true, apart := false }
def ShaftMoreSaid : Prop := shaftMoreRow.holds Tryz.pinned (OpenSpec.ofChange shaftMoreSpec)

/-- ITS FALSE NEIGHBOUR: 'it returns false'. Refute it at one input. -/
def shaftMoreWrong : ChangeSpec := { name := "shaftMore", fn := fun _ => fun
  | [d1, d2, d3, d4] => { results := [.lit (.bool false)], args := [d1, d2, d3, d4] }
  | _ => none }
def ShaftMoreWrongFalsely : Prop := shaftMoreRow.holds Tryz.pinned (OpenSpec.ofChange shaftMoreWrong)

/-- 'calxlaw01.ShaftAbove': WHATEVER THE INPUT: true; the input reads as it did. -/
def shaftAboveSpec : ChangeSpec := { name := "shaftAbove", fn := fun _ => fun
  | [d1, d2, d3, d4, d5, d6] => { results := [.lit (.bool true)], args := [d1, d2, d3, d4, d5, d6] }
  | _ => none }
def shaftAboveRow : OpenClaim := { program := "ytaapndcljpcelaagreat", sum := "3bb4015412d90404275fae0dc2877c7b8bbb04e570f42060da1ea70415c7269f", func := "calx/calxlaw01.ShaftAbove", spec := "shaftAbove", unfollowed := true, recurses := true, apart := false }
def ShaftAboveSaid : Prop := shaftAboveRow.holds Tryz.pinned (OpenSpec.ofChange shaftAboveSpec)

/-- ITS FALSE NEIGHBOUR: 'it returns false'. Refute it at one input. -/
def shaftAboveWrong : ChangeSpec := { name := "shaftAbove", fn := fun _ => fun
  | [d1, d2, d3, d4, d5, d6] => { results := [.lit (.bool false)], args := [d1, d2, d3, d4, d5, d6] }
  | _ => none }
def ShaftAboveWrongFalsely : Prop := shaftAboveRow.holds Tryz.pinned (OpenSpec.ofChange shaftAboveWrong)

/-- 'calxlaw01.ShaftProves': WHATEVER THE INPUT: true; the input reads as it did. -/
def shaftProvesSpec : ChangeSpec := { name := "shaftProves", fn := fun _ => fun
  | [d1, d2, d3, d4, d5, d6] => { results := [.lit (.bool true)], args := [d1, d2, d3, d4, d5, d6] }
  | _ => none }
def shaftProvesRow : OpenClaim := { program := "ytaapndcljpcelaagreat", sum := "3bb4015412d90404275fae0dc2877c7b8bbb04e570f42060da1ea70415c7269f", func := "calx/calxlaw01.ShaftProves", spec := "shaftProves", unfollowed := true, recurses := true, apart := false }
def ShaftProvesSaid : Prop := shaftProvesRow.holds Tryz.pinned (OpenSpec.ofChange shaftProvesSpec)

/-- ITS FALSE NEIGHBOUR: 'it returns false'. Refute it at one input. -/
def shaftProvesWrong : ChangeSpec := { name := "shaftProves", fn := fun _ => fun
  | [d1, d2, d3, d4, d5, d6] => { results := [.lit (.bool false)], args := [d1, d2, d3, d4, d5, d6] }
  | _ => none }
def ShaftProvesWrongFalsely : Prop := shaftProvesRow.holds Tryz.pinned (OpenSpec.ofChange shaftProvesWrong)

/- THE SECOND FORM. 'bulk': how many values and letters a reading holds, each counted each time it is reached (what is shared counts as often as it is met; a slice's spare places count too). A statement '..UptoSaid' is the law's where the arguments, and the package variables that the reading takes, are together of bulk at most 1048576: NARROWER than '..Said'. Prove '..Said' where nothing that the law and all that it calls make is longer than what came in: it says more and counts as full. Else prove '..UptoSaid'. A law counts once. -/
mutual
def uptoBulk {H : Type} : DataW H → Nat
  | .lit (.string bytes) => bytes.length + 1
  | .lit _ => 1
  | .nil => 1
  | .ptr d => uptoBulk d + 1
  | .slice elems spare => uptoBulkAll elems + uptoBulkAll spare + 1
  | .agg parts => uptoBulkAll parts + 1
  | .iface _ d => uptoBulk d + 1
  | .map entries => uptoBulkEntries entries + 1
  | .held _ => 1
def uptoBulkAll {H : Type} : List (DataW H) → Nat
  | [] => 0
  | d :: r => uptoBulk d + uptoBulkAll r
def uptoBulkEntries {H : Type} : List (Lit × DataW H) → Nat
  | [] => 0
  | x :: r => uptoBulkEntry x + uptoBulkEntries r
def uptoBulkEntry {H : Type} : Lit × DataW H → Nat
  | (.string bytes, d) => bytes.length + uptoBulk d + 1
  | (_, d) => uptoBulk d + 1
 end
def uptoSmall : (H : Type) → List (DataW H) → Bool := fun _ ds => decide (uptoBulkAll ds ≤ 1048576)
def OpenSpec.upto (s : _root_.Go.ChangeSpec) : _root_.Go.OpenSpec := { _root_.Go.OpenSpec.ofChange s with cond := some uptoSmall }

/-- 'calxlaw01.ShaftEnds', WHERE WHAT IT READS IS OF BULK AT MOST 1048576: true; the input reads as it did. -/
def shaftEndsUptoRow : OpenClaim := { program := "ytaapndcljpcelaagreat", sum := "3bb4015412d90404275fae0dc2877c7b8bbb04e570f42060da1ea70415c7269f", func := "calx/calxlaw01.ShaftEnds", spec := "shaftEnds", unfollowed := true, recurses := true, apart := false, narrowed := true }
def ShaftEndsUptoSaid : Prop := shaftEndsUptoRow.holds Tryz.pinned (OpenSpec.upto shaftEndsSpec)

/-- 'calxlaw01.ShaftBetween', WHERE WHAT IT READS IS OF BULK AT MOST 1048576: true; the input reads as it did. -/
def shaftBetweenUptoRow : OpenClaim := { program := "ytaapndcljpcelaagreat", sum := "3bb4015412d90404275fae0dc2877c7b8bbb04e570f42060da1ea70415c7269f", func := "calx/calxlaw01.ShaftBetween", spec := "shaftBetween", unfollowed := true, recurses := true, apart := false, narrowed := true }
def ShaftBetweenUptoSaid : Prop := shaftBetweenUptoRow.holds Tryz.pinned (OpenSpec.upto shaftBetweenSpec)

/-- 'calxlaw01.ShaftShares', WHERE WHAT IT READS IS OF BULK AT MOST 1048576: true; the input reads as it did. -/
def shaftSharesUptoRow : OpenClaim := { program := "ytaapndcljpcelaagreat", sum := "3bb4015412d90404275fae0dc2877c7b8bbb04e570f42060da1ea70415c7269f", func := "calx/calxlaw01.ShaftShares", spec := "shaftShares", unfollowed := true, recurses := true, apart := false, narrowed := true }
def ShaftSharesUptoSaid : Prop := shaftSharesUptoRow.holds Tryz.pinned (OpenSpec.upto shaftSharesSpec)

/-- 'calxlaw01.ShaftTakes', WHERE WHAT IT READS IS OF BULK AT MOST 1048576: true; the input reads as it did. -/
def shaftTakesUptoRow : OpenClaim := { program := "ytaapndcljpcelaagreat", sum := "3bb4015412d90404275fae0dc2877c7b8bbb04e570f42060da1ea70415c7269f", func := "calx/calxlaw01.ShaftTakes", spec := "shaftTakes", unfollowed := true, recurses := true, apart := false, narrowed := true }
def ShaftTakesUptoSaid : Prop := shaftTakesUptoRow.holds Tryz.pinned (OpenSpec.upto shaftTakesSpec)

/-- 'calxlaw01.ShaftPairs', WHERE WHAT IT READS IS OF BULK AT MOST 1048576: true; the input reads as it did. -/
def shaftPairsUptoRow : OpenClaim := { program := "ytaapndcljpcelaagreat", sum := "3bb4015412d90404275fae0dc2877c7b8bbb04e570f42060da1ea70415c7269f", func := "calx/calxlaw01.ShaftPairs", spec := "shaftPairs", unfollowed := true, recurses := true, apart := false, narrowed := true }
def ShaftPairsUptoSaid : Prop := shaftPairsUptoRow.holds Tryz.pinned (OpenSpec.upto shaftPairsSpec)

/-- 'calxlaw01.ShaftFewer', WHERE WHAT IT READS IS OF BULK AT MOST 1048576: true; the input reads as it did. -/
def shaftFewerUptoRow : OpenClaim := { program := "ytaapndcljpcelaagreat", sum := "3bb4015412d90404275fae0dc2877c7b8bbb04e570f42060da1ea70415c7269f", func := "calx/calxlaw01.ShaftFewer", spec := "shaftFewer", unfollowed := true, recurses := true, apart := false, narrowed := true }
def ShaftFewerUptoSaid : Prop := shaftFewerUptoRow.holds Tryz.pinned (OpenSpec.upto shaftFewerSpec)

/-- 'calxlaw01.ShaftTriangles', WHERE WHAT IT READS IS OF BULK AT MOST 1048576: true; the input reads as it did. -/
def shaftTrianglesUptoRow : OpenClaim := { program := "ytaapndcljpcelaagreat", sum := "3bb4015412d90404275fae0dc2877c7b8bbb04e570f42060da1ea70415c7269f", func := "calx/calxlaw01.ShaftTriangles", spec := "shaftTriangles", unfollowed := true, recurses := true, apart := false, narrowed := true }
def ShaftTrianglesUptoSaid : Prop := shaftTrianglesUptoRow.holds Tryz.pinned (OpenSpec.upto shaftTrianglesSpec)

/-- 'calxlaw01.ShaftFinds', WHERE WHAT IT READS IS OF BULK AT MOST 1048576: true; the input reads as it did. -/
def shaftFindsUptoRow : OpenClaim := { program := "ytaapndcljpcelaagreat", sum := "3bb4015412d90404275fae0dc2877c7b8bbb04e570f42060da1ea70415c7269f", func := "calx/calxlaw01.ShaftFinds", spec := "shaftFinds", unfollowed := true, recurses := true, apart := false, narrowed := true }
def ShaftFindsUptoSaid : Prop := shaftFindsUptoRow.holds Tryz.pinned (OpenSpec.upto shaftFindsSpec)

/-- 'calxlaw01.ShaftTies', WHERE WHAT IT READS IS OF BULK AT MOST 1048576: true; the input reads as it did. -/
def shaftTiesUptoRow : OpenClaim := { program := "ytaapndcljpcelaagreat", sum := "3bb4015412d90404275fae0dc2877c7b8bbb04e570f42060da1ea70415c7269f", func := "calx/calxlaw01.ShaftTies", spec := "shaftTies", unfollowed := true, recurses := true, apart := false, narrowed := true }
def ShaftTiesUptoSaid : Prop := shaftTiesUptoRow.holds Tryz.pinned (OpenSpec.upto shaftTiesSpec)

/-- 'calxlaw01.ShaftTrue', WHERE WHAT IT READS IS OF BULK AT MOST 1048576: true; the input reads as it did. -/
def shaftTrueUptoRow : OpenClaim := { program := "ytaapndcljpcelaagreat", sum := "3bb4015412d90404275fae0dc2877c7b8bbb04e570f42060da1ea70415c7269f", func := "calx/calxlaw01.ShaftTrue", spec := "shaftTrue", unfollowed := true, recurses := true, apart := false, narrowed := true }
def ShaftTrueUptoSaid : Prop := shaftTrueUptoRow.holds Tryz.pinned (OpenSpec.upto shaftTrueSpec)

/-- 'calxlaw01.ShaftMore', WHERE WHAT IT READS IS OF BULK AT MOST 1048576: true; the input reads as it did. -/
def shaftMoreUptoRow : OpenClaim := { program := "ytaapndcljpcelaagreat", sum := "3bb4015412d90404275fae0dc2877c7b8bbb04e570f42060da1ea70415c7269f", func := "calx/calxlaw01.ShaftMore", spec := "shaftMore", unfollowed := true, recurses := true, apart := false, narrowed := true }
def ShaftMoreUptoSaid : Prop := shaftMoreUptoRow.holds Tryz.pinned (OpenSpec.upto shaftMoreSpec)

/-- 'calxlaw01.ShaftAbove', WHERE WHAT IT READS IS OF BULK AT MOST 1048576: true; the input reads as it did. -/
def shaftAboveUptoRow : OpenClaim := { program := "ytaapndcljpcelaagreat", sum := "3bb4015412d90404275fae0dc2877c7b8bbb04e570f42060da1ea70415c7269f", func := "calx/calxlaw01.ShaftAbove", spec := "shaftAbove", unfollowed := true, recurses := true, apart := false, narrowed := true }
def ShaftAboveUptoSaid : Prop := shaftAboveUptoRow.holds Tryz.pinned (OpenSpec.upto shaftAboveSpec)

/-- 'calxlaw01.ShaftProves', WHERE WHAT IT READS IS OF BULK AT MOST 1048576: true; the input reads as it did. -/
def shaftProvesUptoRow : OpenClaim := { program := "ytaapndcljpcelaagreat", sum := "3bb4015412d90404275fae0dc2877c7b8bbb04e570f42060da1ea70415c7269f", func := "calx/calxlaw01.ShaftProves", spec := "shaftProves", unfollowed := true, recurses := true, apart := false, narrowed := true }
def ShaftProvesUptoSaid : Prop := shaftProvesUptoRow.holds Tryz.pinned (OpenSpec.upto shaftProvesSpec)

end Rows
end Go.Proofs.YtaapndcljpcelaaGreat
