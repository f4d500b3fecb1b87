/-
  NARROWER THAN 'FOR EVERY INPUT', by the rows' own cells (each row's printed sentence says how): StackArrives: laid · StackLines: laid · StackPicks: laid · StackShifts: laid · StackTogether: laid · StackLike: laid · StackMoved: laid · StackEchoes: laid · StackBack: laid · StackHonest: laid · StackNames: laid · StackLies: laid.
  DERIVED. THE GIVEN ROWS OF THIS SEAT. 12 by the template 'for every input the law returns true; each argument reads behind the call as it read before'; 0 by the template 'total and deterministic' (their statements: YtobpnmljijeadaaDoorTotals.lean).
  GIVEN WITH THE SEED: the statements are not yours to turn. If you find one false, say at which input.
  Laid BY PROGRAM, IN A SANDBOX (cutbox-rows.mjs): the forced cells as the released guide's own fill.sh prints them over the translation 4982bc4e1007a124… (all of the seat's roots in one cut). By AI agents, Wed Nov 11 2026. No macro, syntax, notation, axiom, sorry.
-/
import Derived.Test.YtobpnmljijeadaaDoorChecked
import GoSem.Claim
import GoSem.ClaimJoined
import GoSem.ClaimMapViews
import Derived.JoinedTies
import Derived.KernelRfl
namespace Go.Proofs.YtobpnmljijeadaaDoor
/- THE CELL 'sum', in the pinned program and in every row, IS THE sha256 OF THE DUMP (.gsa) THAT YtobpnmljijeadaaDoorProg.lean LOADS. Nothing in Lean hashes anything: it is a label: what it is worth is what the hold of that sum in a sandbox is worth. -/
noncomputable def Tryd.pinned : Pinned := { name := "ytobpnmljijeadaadoor", sum := "4982bc4e1007a124afe434818fc6737200cd0051604e7f205f66c234747b2db1", checked := Tryd.checked }
namespace Rows
def none {H : Type} : Left H := { results := [], args := [] }

/- WHAT THE LISTED PACKAGE-LEVEL VARIABLES READ AS WHEN THE CALL BEGINS. Each datum BY PROGRAM (the guide's laid-datum.mjs) off the statement by which the dump's own 'gosem.cut.vars' lays the variable. In a bare row this is a premise. The card (YtobpnmljijeadaaDoorCards.lean) ties it to the program's text. -/
def laid_paravane_stack_nothing {H : Type} : DataW H := .agg [.lit (.int .i64 0), .lit (.int .i64 1)]

/-- 'paravanelaw09.StackArrives': WHATEVER THE INPUT: true; the input reads as it did. -/
def stackArrivesSpec : ChangeSpec := { name := "stackArrives", fn := fun _ => fun
  | [d1, d2] => { results := [.lit (.bool true)], args := [d1, d2] }
  | _ => none }
def stackArrivesRow : OpenClaim := { program := "ytobpnmljijeadaadoor", sum := "4982bc4e1007a124afe434818fc6737200cd0051604e7f205f66c234747b2db1", func := "paravane/paravanelaw09.StackArrives", spec := "stackArrives", unfollowed := true, recurses := true, named := ["paravane/stack.nothing"], apart := false, laid := [("paravane/stack.nothing", laid_paravane_stack_nothing)] }
def StackArrivesSaid : Prop := stackArrivesRow.holds Tryd.pinned (OpenSpec.ofChange stackArrivesSpec)

/-- ITS FALSE NEIGHBOUR: 'it returns false'. Refute it at one input. -/
def stackArrivesWrong : ChangeSpec := { name := "stackArrives", fn := fun _ => fun
  | [d1, d2] => { results := [.lit (.bool false)], args := [d1, d2] }
  | _ => none }
def StackArrivesWrongFalsely : Prop := stackArrivesRow.holds Tryd.pinned (OpenSpec.ofChange stackArrivesWrong)

/-- 'paravanelaw09.StackLines': WHATEVER THE INPUT: true; the input reads as it did. -/
def stackLinesSpec : ChangeSpec := { name := "stackLines", fn := fun _ => fun
  | [d1, d2, d3] => { results := [.lit (.bool true)], args := [d1, d2, d3] }
  | _ => none }
def stackLinesRow : OpenClaim := { program := "ytobpnmljijeadaadoor", sum := "4982bc4e1007a124afe434818fc6737200cd0051604e7f205f66c234747b2db1", func := "paravane/paravanelaw09.StackLines", spec := "stackLines", unfollowed := true, recurses := true, named := ["paravane/stack.nothing"], apart := false, laid := [("paravane/stack.nothing", laid_paravane_stack_nothing)] }
def StackLinesSaid : Prop := stackLinesRow.holds Tryd.pinned (OpenSpec.ofChange stackLinesSpec)

/-- ITS FALSE NEIGHBOUR: 'it returns false'. Refute it at one input. -/
def stackLinesWrong : ChangeSpec := { name := "stackLines", fn := fun _ => fun
  | [d1, d2, d3] => { results := [.lit (.bool false)], args := [d1, d2, d3] }
  | _ => none }
def StackLinesWrongFalsely : Prop := stackLinesRow.holds Tryd.pinned (OpenSpec.ofChange stackLinesWrong)

/-- 'paravanelaw09.StackPicks': WHATEVER THE INPUT: true; the input reads as it did. -/
def stackPicksSpec : ChangeSpec := { name := "stackPicks", fn := fun _ => fun
  | [d1, d2, d3] => { results := [.lit (.bool true)], args := [d1, d2, d3] }
  | _ => none }
def stackPicksRow : OpenClaim := { program := "ytobpnmljijeadaadoor", sum := "4982bc4e1007a124afe434818fc6737200cd0051604e7f205f66c234747b2db1", func := "paravane/paravanelaw09.StackPicks", spec := "stackPicks", unfollowed := true, recurses := true, named := ["paravane/stack.nothing"], apart := false, laid := [("paravane/stack.nothing", laid_paravane_stack_nothing)] }
def StackPicksSaid : Prop := stackPicksRow.holds Tryd.pinned (OpenSpec.ofChange stackPicksSpec)

/-- ITS FALSE NEIGHBOUR: 'it returns false'. Refute it at one input. -/
def stackPicksWrong : ChangeSpec := { name := "stackPicks", fn := fun _ => fun
  | [d1, d2, d3] => { results := [.lit (.bool false)], args := [d1, d2, d3] }
  | _ => none }
def StackPicksWrongFalsely : Prop := stackPicksRow.holds Tryd.pinned (OpenSpec.ofChange stackPicksWrong)

/-- 'paravanelaw09.StackShifts': WHATEVER THE INPUT: true; the input reads as it did. -/
def stackShiftsSpec : ChangeSpec := { name := "stackShifts", fn := fun _ => fun
  | [d1, d2, d3] => { results := [.lit (.bool true)], args := [d1, d2, d3] }
  | _ => none }
def stackShiftsRow : OpenClaim := { program := "ytobpnmljijeadaadoor", sum := "4982bc4e1007a124afe434818fc6737200cd0051604e7f205f66c234747b2db1", func := "paravane/paravanelaw09.StackShifts", spec := "stackShifts", unfollowed := true, recurses := true, named := ["paravane/stack.nothing"], apart := false, laid := [("paravane/stack.nothing", laid_paravane_stack_nothing)] }
def StackShiftsSaid : Prop := stackShiftsRow.holds Tryd.pinned (OpenSpec.ofChange stackShiftsSpec)

/-- ITS FALSE NEIGHBOUR: 'it returns false'. Refute it at one input. -/
def stackShiftsWrong : ChangeSpec := { name := "stackShifts", fn := fun _ => fun
  | [d1, d2, d3] => { results := [.lit (.bool false)], args := [d1, d2, d3] }
  | _ => none }
def StackShiftsWrongFalsely : Prop := stackShiftsRow.holds Tryd.pinned (OpenSpec.ofChange stackShiftsWrong)

/-- 'paravanelaw09.StackTogether': WHATEVER THE INPUT: true; the input reads as it did. -/
def stackTogetherSpec : ChangeSpec := { name := "stackTogether", fn := fun _ => fun
  | [d1, d2, d3] => { results := [.lit (.bool true)], args := [d1, d2, d3] }
  | _ => none }
def stackTogetherRow : OpenClaim := { program := "ytobpnmljijeadaadoor", sum := "4982bc4e1007a124afe434818fc6737200cd0051604e7f205f66c234747b2db1", func := "paravane/paravanelaw09.StackTogether", spec := "stackTogether", unfollowed := true, recurses := true, named := ["paravane/stack.nothing"], apart := false, laid := [("paravane/stack.nothing", laid_paravane_stack_nothing)] }
def StackTogetherSaid : Prop := stackTogetherRow.holds Tryd.pinned (OpenSpec.ofChange stackTogetherSpec)

/-- ITS FALSE NEIGHBOUR: 'it returns false'. Refute it at one input. -/
def stackTogetherWrong : ChangeSpec := { name := "stackTogether", fn := fun _ => fun
  | [d1, d2, d3] => { results := [.lit (.bool false)], args := [d1, d2, d3] }
  | _ => none }
def StackTogetherWrongFalsely : Prop := stackTogetherRow.holds Tryd.pinned (OpenSpec.ofChange stackTogetherWrong)

/-- 'paravanelaw09.StackLike': WHATEVER THE INPUT: true; the input reads as it did. -/
def stackLikeSpec : ChangeSpec := { name := "stackLike", fn := fun _ => fun
  | [d1, d2, d3] => { results := [.lit (.bool true)], args := [d1, d2, d3] }
  | _ => none }
def stackLikeRow : OpenClaim := { program := "ytobpnmljijeadaadoor", sum := "4982bc4e1007a124afe434818fc6737200cd0051604e7f205f66c234747b2db1", func := "paravane/paravanelaw09.StackLike", spec := "stackLike", unfollowed := true, recurses := true, named := ["paravane/stack.nothing"], apart := false, laid := [("paravane/stack.nothing", laid_paravane_stack_nothing)] }
def StackLikeSaid : Prop := stackLikeRow.holds Tryd.pinned (OpenSpec.ofChange stackLikeSpec)

/-- ITS FALSE NEIGHBOUR: 'it returns false'. Refute it at one input. -/
def stackLikeWrong : ChangeSpec := { name := "stackLike", fn := fun _ => fun
  | [d1, d2, d3] => { results := [.lit (.bool false)], args := [d1, d2, d3] }
  | _ => none }
def StackLikeWrongFalsely : Prop := stackLikeRow.holds Tryd.pinned (OpenSpec.ofChange stackLikeWrong)

/-- 'paravanelaw09.StackMoved': WHATEVER THE INPUT: true; the input reads as it did. -/
def stackMovedSpec : ChangeSpec := { name := "stackMoved", fn := fun _ => fun
  | [d1, d2] => { results := [.lit (.bool true)], args := [d1, d2] }
  | _ => none }
def stackMovedRow : OpenClaim := { program := "ytobpnmljijeadaadoor", sum := "4982bc4e1007a124afe434818fc6737200cd0051604e7f205f66c234747b2db1", func := "paravane/paravanelaw09.StackMoved", spec := "stackMoved", unfollowed := true, recurses := true, named := ["paravane/stack.nothing"], apart := false, laid := [("paravane/stack.nothing", laid_paravane_stack_nothing)] }
def StackMovedSaid : Prop := stackMovedRow.holds Tryd.pinned (OpenSpec.ofChange stackMovedSpec)

/-- ITS FALSE NEIGHBOUR: 'it returns false'. Refute it at one input. -/
def stackMovedWrong : ChangeSpec := { name := "stackMoved", fn := fun _ => fun
  | [d1, d2] => { results := [.lit (.bool false)], args := [d1, d2] }
  | _ => none }
def StackMovedWrongFalsely : Prop := stackMovedRow.holds Tryd.pinned (OpenSpec.ofChange stackMovedWrong)

/-- 'paravanelaw09.StackEchoes': WHATEVER THE INPUT: true; the input reads as it did. -/
def stackEchoesSpec : ChangeSpec := { name := "stackEchoes", fn := fun _ => fun
  | [d1, d2, d3] => { results := [.lit (.bool true)], args := [d1, d2, d3] }
  | _ => none }
def stackEchoesRow : OpenClaim := { program := "ytobpnmljijeadaadoor", sum := "4982bc4e1007a124afe434818fc6737200cd0051604e7f205f66c234747b2db1", func := "paravane/paravanelaw09.StackEchoes", spec := "stackEchoes", unfollowed := true, recurses := true, named := ["paravane/stack.nothing"], apart := false, laid := [("paravane/stack.nothing", laid_paravane_stack_nothing)] }
def StackEchoesSaid : Prop := stackEchoesRow.holds Tryd.pinned (OpenSpec.ofChange stackEchoesSpec)

/-- ITS FALSE NEIGHBOUR: 'it returns false'. Refute it at one input. -/
def stackEchoesWrong : ChangeSpec := { name := "stackEchoes", fn := fun _ => fun
  | [d1, d2, d3] => { results := [.lit (.bool false)], args := [d1, d2, d3] }
  | _ => none }
def StackEchoesWrongFalsely : Prop := stackEchoesRow.holds Tryd.pinned (OpenSpec.ofChange stackEchoesWrong)

/-- 'paravanelaw09.StackBack': WHATEVER THE INPUT: true; the input reads as it did. -/
def stackBackSpec : ChangeSpec := { name := "stackBack", fn := fun _ => fun
  | [d1, d2, d3] => { results := [.lit (.bool true)], args := [d1, d2, d3] }
  | _ => none }
def stackBackRow : OpenClaim := { program := "ytobpnmljijeadaadoor", sum := "4982bc4e1007a124afe434818fc6737200cd0051604e7f205f66c234747b2db1", func := "paravane/paravanelaw09.StackBack", spec := "stackBack", unfollowed := true, recurses := true, named := ["paravane/stack.nothing"], apart := false, laid := [("paravane/stack.nothing", laid_paravane_stack_nothing)] }
def StackBackSaid : Prop := stackBackRow.holds Tryd.pinned (OpenSpec.ofChange stackBackSpec)

/-- ITS FALSE NEIGHBOUR: 'it returns false'. Refute it at one input. -/
def stackBackWrong : ChangeSpec := { name := "stackBack", fn := fun _ => fun
  | [d1, d2, d3] => { results := [.lit (.bool false)], args := [d1, d2, d3] }
  | _ => none }
def StackBackWrongFalsely : Prop := stackBackRow.holds Tryd.pinned (OpenSpec.ofChange stackBackWrong)

/-- 'paravanelaw09.StackHonest': WHATEVER THE INPUT: true; the input reads as it did. -/
def stackHonestSpec : ChangeSpec := { name := "stackHonest", fn := fun _ => fun
  | [d1, d2] => { results := [.lit (.bool true)], args := [d1, d2] }
  | _ => none }
def stackHonestRow : OpenClaim := { program := "ytobpnmljijeadaadoor", sum := "4982bc4e1007a124afe434818fc6737200cd0051604e7f205f66c234747b2db1", func := "paravane/paravanelaw09.StackHonest", spec := "stackHonest", unfollowed := true, recurses := true, named := ["paravane/stack.nothing"], apart := false, laid := [("paravane/stack.nothing", laid_paravane_stack_nothing)] }
def StackHonestSaid : Prop := stackHonestRow.holds Tryd.pinned (OpenSpec.ofChange stackHonestSpec)

/-- ITS FALSE NEIGHBOUR: 'it returns false'. Refute it at one input. -/
def stackHonestWrong : ChangeSpec := { name := "stackHonest", fn := fun _ => fun
  | [d1, d2] => { results := [.lit (.bool false)], args := [d1, d2] }
  | _ => none }
def StackHonestWrongFalsely : Prop := stackHonestRow.holds Tryd.pinned (OpenSpec.ofChange stackHonestWrong)

/-- 'paravanelaw09.StackNames': WHATEVER THE INPUT: true; the input reads as it did. -/
def stackNamesSpec : ChangeSpec := { name := "stackNames", fn := fun _ => fun
  | [d1, d2, d3] => { results := [.lit (.bool true)], args := [d1, d2, d3] }
  | _ => none }
def stackNamesRow : OpenClaim := { program := "ytobpnmljijeadaadoor", sum := "4982bc4e1007a124afe434818fc6737200cd0051604e7f205f66c234747b2db1", func := "paravane/paravanelaw09.StackNames", spec := "stackNames", unfollowed := true, recurses := true, named := ["paravane/stack.nothing"], apart := false, laid := [("paravane/stack.nothing", laid_paravane_stack_nothing)] }
def StackNamesSaid : Prop := stackNamesRow.holds Tryd.pinned (OpenSpec.ofChange stackNamesSpec)

/-- ITS FALSE NEIGHBOUR: 'it returns false'. Refute it at one input. -/
def stackNamesWrong : ChangeSpec := { name := "stackNames", fn := fun _ => fun
  | [d1, d2, d3] => { results := [.lit (.bool false)], args := [d1, d2, d3] }
  | _ => none }
def StackNamesWrongFalsely : Prop := stackNamesRow.holds Tryd.pinned (OpenSpec.ofChange stackNamesWrong)

/-- 'paravanelaw09.StackLies': WHATEVER THE INPUT: true; the input reads as it did. -/
def stackLiesSpec : ChangeSpec := { name := "stackLies", fn := fun _ => fun
  | [d1, d2, d3, d4] => { results := [.lit (.bool true)], args := [d1, d2, d3, d4] }
  | _ => none }
def stackLiesRow : OpenClaim := { program := "ytobpnmljijeadaadoor", sum := "4982bc4e1007a124afe434818fc6737200cd0051604e7f205f66c234747b2db1", func := "paravane/paravanelaw09.StackLies", spec := "stackLies", unfollowed := true, recurses := true, named := ["paravane/stack.nothing"], apart := false, laid := [("paravane/stack.nothing", laid_paravane_stack_nothing)] }
def StackLiesSaid : Prop := stackLiesRow.holds Tryd.pinned (OpenSpec.ofChange stackLiesSpec)

/-- ITS FALSE NEIGHBOUR: 'it returns false'. Refute it at one input. -/
def stackLiesWrong : ChangeSpec := { name := "stackLies", fn := fun _ => fun
  | [d1, d2, d3, d4] => { results := [.lit (.bool false)], args := [d1, d2, d3, d4] }
  | _ => none }
def StackLiesWrongFalsely : Prop := stackLiesRow.holds Tryd.pinned (OpenSpec.ofChange stackLiesWrong)

/- THE SECOND FORM. 'bulk': how many values and letters a reading holds, each counted each time it is reached (what is shared counts as often as it is met; a slice's spare places count too). A statement '..UptoSaid' is the law's where the arguments, and the package variables that the reading takes, are together of bulk at most 1048576: NARROWER than '..Said'. Prove '..Said' where nothing that the law and all that it calls make is longer than what came in: it says more and counts as full. Else prove '..UptoSaid'. A law counts once. -/
mutual
def uptoBulk {H : Type} : DataW H → Nat
  | .lit (.string bytes) => bytes.length + 1
  | .lit _ => 1
  | .nil => 1
  | .ptr d => uptoBulk d + 1
  | .slice elems spare => uptoBulkAll elems + uptoBulkAll spare + 1
  | .agg parts => uptoBulkAll parts + 1
  | .iface _ d => uptoBulk d + 1
  | .map entries => uptoBulkEntries entries + 1
  | .held _ => 1
def uptoBulkAll {H : Type} : List (DataW H) → Nat
  | [] => 0
  | d :: r => uptoBulk d + uptoBulkAll r
def uptoBulkEntries {H : Type} : List (Lit × DataW H) → Nat
  | [] => 0
  | x :: r => uptoBulkEntry x + uptoBulkEntries r
def uptoBulkEntry {H : Type} : Lit × DataW H → Nat
  | (.string bytes, d) => bytes.length + uptoBulk d + 1
  | (_, d) => uptoBulk d + 1
 end
def uptoSmall : (H : Type) → List (DataW H) → Bool := fun _ ds => decide (uptoBulkAll ds ≤ 1048576)
def OpenSpec.upto (s : _root_.Go.ChangeSpec) : _root_.Go.OpenSpec := { _root_.Go.OpenSpec.ofChange s with cond := some uptoSmall }

/-- 'paravanelaw09.StackArrives', WHERE WHAT IT READS IS OF BULK AT MOST 1048576: true; the input reads as it did. -/
def stackArrivesUptoRow : OpenClaim := { program := "ytobpnmljijeadaadoor", sum := "4982bc4e1007a124afe434818fc6737200cd0051604e7f205f66c234747b2db1", func := "paravane/paravanelaw09.StackArrives", spec := "stackArrives", unfollowed := true, recurses := true, named := ["paravane/stack.nothing"], apart := false, laid := [("paravane/stack.nothing", laid_paravane_stack_nothing)], narrowed := true }
def StackArrivesUptoSaid : Prop := stackArrivesUptoRow.holds Tryd.pinned (OpenSpec.upto stackArrivesSpec)

/-- 'paravanelaw09.StackLines', WHERE WHAT IT READS IS OF BULK AT MOST 1048576: true; the input reads as it did. -/
def stackLinesUptoRow : OpenClaim := { program := "ytobpnmljijeadaadoor", sum := "4982bc4e1007a124afe434818fc6737200cd0051604e7f205f66c234747b2db1", func := "paravane/paravanelaw09.StackLines", spec := "stackLines", unfollowed := true, recurses := true, named := ["paravane/stack.nothing"], apart := false, laid := [("paravane/stack.nothing", laid_paravane_stack_nothing)], narrowed := true }
def StackLinesUptoSaid : Prop := stackLinesUptoRow.holds Tryd.pinned (OpenSpec.upto stackLinesSpec)

/-- 'paravanelaw09.StackPicks', WHERE WHAT IT READS IS OF BULK AT MOST 1048576: true; the input reads as it did. -/
def stackPicksUptoRow : OpenClaim := { program := "ytobpnmljijeadaadoor", sum := "4982bc4e1007a124afe434818fc6737200cd0051604e7f205f66c234747b2db1", func := "paravane/paravanelaw09.StackPicks", spec := "stackPicks", unfollowed := true, recurses := true, named := ["paravane/stack.nothing"], apart := false, laid := [("paravane/stack.nothing", laid_paravane_stack_nothing)], narrowed := true }
def StackPicksUptoSaid : Prop := stackPicksUptoRow.holds Tryd.pinned (OpenSpec.upto stackPicksSpec)

/-- 'paravanelaw09.StackShifts', WHERE WHAT IT READS IS OF BULK AT MOST 1048576: true; the input reads as it did. -/
def stackShiftsUptoRow : OpenClaim := { program := "ytobpnmljijeadaadoor", sum := "4982bc4e1007a124afe434818fc6737200cd0051604e7f205f66c234747b2db1", func := "paravane/paravanelaw09.StackShifts", spec := "stackShifts", unfollowed := true, recurses := true, named := ["paravane/stack.nothing"], apart := false, laid := [("paravane/stack.nothing", laid_paravane_stack_nothing)], narrowed := true }
def StackShiftsUptoSaid : Prop := stackShiftsUptoRow.holds Tryd.pinned (OpenSpec.upto stackShiftsSpec)

/-- 'paravanelaw09.StackTogether', WHERE WHAT IT READS IS OF BULK AT MOST 1048576: true; the input reads as it did. -/
def stackTogetherUptoRow : OpenClaim := { program := "ytobpnmljijeadaadoor", sum := "4982bc4e1007a124afe434818fc6737200cd0051604e7f205f66c234747b2db1", func := "paravane/paravanelaw09.StackTogether", spec := "stackTogether", unfollowed := true, recurses := true, named := ["paravane/stack.nothing"], apart := false, laid := [("paravane/stack.nothing", laid_paravane_stack_nothing)], narrowed := true }
def StackTogetherUptoSaid : Prop := stackTogetherUptoRow.holds Tryd.pinned (OpenSpec.upto stackTogetherSpec)

/-- 'paravanelaw09.StackLike', WHERE WHAT IT READS IS OF BULK AT MOST 1048576: true; the input reads as it did. -/
def stackLikeUptoRow : OpenClaim := { program := "ytobpnmljijeadaadoor", sum := "4982bc4e1007a124afe434818fc6737200cd0051604e7f205f66c234747b2db1", func := "paravane/paravanelaw09.StackLike", spec := "stackLike", unfollowed := true, recurses := true, named := ["paravane/stack.nothing"], apart := false, laid := [("paravane/stack.nothing", laid_paravane_stack_nothing)], narrowed := true }
def StackLikeUptoSaid : Prop := stackLikeUptoRow.holds Tryd.pinned (OpenSpec.upto stackLikeSpec)

/-- 'paravanelaw09.StackMoved', WHERE WHAT IT READS IS OF BULK AT MOST 1048576: true; the input reads as it did. -/
def stackMovedUptoRow : OpenClaim := { program := "ytobpnmljijeadaadoor", sum := "4982bc4e1007a124afe434818fc6737200cd0051604e7f205f66c234747b2db1", func := "paravane/paravanelaw09.StackMoved", spec := "stackMoved", unfollowed := true, recurses := true, named := ["paravane/stack.nothing"], apart := false, laid := [("paravane/stack.nothing", laid_paravane_stack_nothing)], narrowed := true }
def StackMovedUptoSaid : Prop := stackMovedUptoRow.holds Tryd.pinned (OpenSpec.upto stackMovedSpec)

/-- 'paravanelaw09.StackEchoes', WHERE WHAT IT READS IS OF BULK AT MOST 1048576: true; the input reads as it did. -/
def stackEchoesUptoRow : OpenClaim := { program := "ytobpnmljijeadaadoor", sum := "4982bc4e1007a124afe434818fc6737200cd0051604e7f205f66c234747b2db1", func := "paravane/paravanelaw09.StackEchoes", spec := "stackEchoes", unfollowed := true, recurses := true, named := ["paravane/stack.nothing"], apart := false, laid := [("paravane/stack.nothing", laid_paravane_stack_nothing)], narrowed := true }
def StackEchoesUptoSaid : Prop := stackEchoesUptoRow.holds Tryd.pinned (OpenSpec.upto stackEchoesSpec)

/-- 'paravanelaw09.StackBack', WHERE WHAT IT READS IS OF BULK AT MOST 1048576: true; the input reads as it did. -/
def stackBackUptoRow : OpenClaim := { program := "ytobpnmljijeadaadoor", sum := "4982bc4e1007a124afe434818fc6737200cd0051604e7f205f66c234747b2db1", func := "paravane/paravanelaw09.StackBack", spec := "stackBack", unfollowed := true, recurses := true, named := ["paravane/stack.nothing"], apart := false, laid := [("paravane/stack.nothing", laid_paravane_stack_nothing)], narrowed := true }
def StackBackUptoSaid : Prop := stackBackUptoRow.holds Tryd.pinned (OpenSpec.upto stackBackSpec)

/-- 'paravanelaw09.StackHonest', WHERE WHAT IT READS IS OF BULK AT MOST 1048576: true; the input reads as it did. -/
def stackHonestUptoRow : OpenClaim := { program := "ytobpnmljijeadaadoor", sum := "4982bc4e1007a124afe434818fc6737200cd0051604e7f205f66c234747b2db1", func := "paravane/paravanelaw09.StackHonest", spec := "stackHonest", unfollowed := true, recurses := true, named := ["paravane/stack.nothing"], apart := false, laid := [("paravane/stack.nothing", laid_paravane_stack_nothing)], narrowed := true }
def StackHonestUptoSaid : Prop := stackHonestUptoRow.holds Tryd.pinned (OpenSpec.upto stackHonestSpec)

/-- 'paravanelaw09.StackNames', WHERE WHAT IT READS IS OF BULK AT MOST 1048576: true; the input reads as it did. -/
def stackNamesUptoRow : OpenClaim := { program := "ytobpnmljijeadaadoor", sum := "4982bc4e1007a124afe434818fc6737200cd0051604e7f205f66c234747b2db1", func := "paravane/paravanelaw09.StackNames", spec := "stackNames", unfollowed := true, recurses := true, named := ["paravane/stack.nothing"], apart := false, laid := [("paravane/stack.nothing", laid_paravane_stack_nothing)], narrowed := true }
def StackNamesUptoSaid : Prop := stackNamesUptoRow.holds Tryd.pinned (OpenSpec.upto stackNamesSpec)

/-- 'paravanelaw09.StackLies', WHERE WHAT IT READS IS OF BULK AT MOST 1048576: true; the input reads as it did. -/
def stackLiesUptoRow : OpenClaim := { program := "ytobpnmljijeadaadoor", sum := "4982bc4e1007a124afe434818fc6737200cd0051604e7f205f66c234747b2db1", func := "paravane/paravanelaw09.StackLies", spec := "stackLies", unfollowed := true, recurses := true, named := ["paravane/stack.nothing"], apart := false, laid := [("paravane/stack.nothing", laid_paravane_stack_nothing)], narrowed := true }
def StackLiesUptoSaid : Prop := stackLiesUptoRow.holds Tryd.pinned (OpenSpec.upto stackLiesSpec)

end Rows
end Go.Proofs.YtobpnmljijeadaaDoor
