/-
  No cell of these rows narrows 'for every input' (looked for: loops, veiled, ifaces, maps, wideKeys, modest, calm, conditions, laid).
  DERIVED. THE GIVEN ROWS OF THIS SEAT. 10 by the template 'for every input the law returns true; each argument reads behind the call as it read before'; 0 by the template 'total and deterministic' (their statements: YtjmeignhhheckaaTotals.lean).
  GIVEN WITH THE SEED: the statements are not yours to turn. If you find one false, say at which input.
  Laid BY PROGRAM, IN A SANDBOX (cutbox-rows.mjs): the forced cells as the released guide's own fill.sh prints them over the translation 2e17fc13856cddcd… (all of the seat's roots in one cut). By AI agents, Wed Nov 11 2026. No macro, syntax, notation, axiom, sorry.
-/
import Derived.Test.YtjmeignhhheckaaChecked
import GoSem.Claim
import GoSem.ClaimJoined
import GoSem.ClaimMapViews
import Derived.JoinedTies
import Derived.KernelRfl
namespace Go.Proofs.Ytjmeignhhheckaa
/- THE CELL 'sum', in the pinned program and in every row, IS THE sha256 OF THE DUMP (.gsa) THAT YtjmeignhhheckaaProg.lean LOADS. Nothing in Lean hashes anything: it is a label: what it is worth is what the hold of that sum in a sandbox is worth. -/
noncomputable def Try.pinned : Pinned := { name := "ytjmeignhhheckaa", sum := "2e17fc13856cddcd942e1d8e146004a3b55b91b1596e5483298e5a6828b74f47", checked := Try.checked }
namespace Rows
def none {H : Type} : Left H := { results := [], args := [] }

/-- 'turnstilelaw13.LiveSteps': WHATEVER THE INPUT: true; the input reads as it did. -/
def liveStepsSpec : ChangeSpec := { name := "liveSteps", fn := fun _ => fun
  | [d1, d2] => { results := [.lit (.bool true)], args := [d1, d2] }
  | _ => none }
def liveStepsRow : OpenClaim := { program := "ytjmeignhhheckaa", sum := "2e17fc13856cddcd942e1d8e146004a3b55b91b1596e5483298e5a6828b74f47", func := "turnstile/turnstilelaw13.LiveSteps", spec := "liveSteps", unfollowed := true, recurses := true, plainKeys := false, apart := false }
def LiveStepsSaid : Prop := liveStepsRow.holds Try.pinned (OpenSpec.ofChange liveStepsSpec)

/-- ITS FALSE NEIGHBOUR: 'it returns false'. Refute it at one input. -/
def liveStepsWrong : ChangeSpec := { name := "liveSteps", fn := fun _ => fun
  | [d1, d2] => { results := [.lit (.bool false)], args := [d1, d2] }
  | _ => none }
def LiveStepsWrongFalsely : Prop := liveStepsRow.holds Try.pinned (OpenSpec.ofChange liveStepsWrong)

/-- 'turnstilelaw13.LiveAsked': WHATEVER THE INPUT: true; the input reads as it did. -/
def liveAskedSpec : ChangeSpec := { name := "liveAsked", fn := fun _ => fun
  | [d1, d2] => { results := [.lit (.bool true)], args := [d1, d2] }
  | _ => none }
def liveAskedRow : OpenClaim := { program := "ytjmeignhhheckaa", sum := "2e17fc13856cddcd942e1d8e146004a3b55b91b1596e5483298e5a6828b74f47", func := "turnstile/turnstilelaw13.LiveAsked", spec := "liveAsked", unfollowed := true, recurses := true, plainKeys := false, apart := false }
def LiveAskedSaid : Prop := liveAskedRow.holds Try.pinned (OpenSpec.ofChange liveAskedSpec)

/-- ITS FALSE NEIGHBOUR: 'it returns false'. Refute it at one input. -/
def liveAskedWrong : ChangeSpec := { name := "liveAsked", fn := fun _ => fun
  | [d1, d2] => { results := [.lit (.bool false)], args := [d1, d2] }
  | _ => none }
def LiveAskedWrongFalsely : Prop := liveAskedRow.holds Try.pinned (OpenSpec.ofChange liveAskedWrong)

/-- 'turnstilelaw10.WalkGoes': WHATEVER THE INPUT: true; the input reads as it did. -/
def walkGoesSpec : ChangeSpec := { name := "walkGoes", fn := fun _ => fun
  | [d1, d2, d3, d4] => { results := [.lit (.bool true)], args := [d1, d2, d3, d4] }
  | _ => none }
def walkGoesRow : OpenClaim := { program := "ytjmeignhhheckaa", sum := "2e17fc13856cddcd942e1d8e146004a3b55b91b1596e5483298e5a6828b74f47", func := "turnstile/turnstilelaw10.WalkGoes", spec := "walkGoes", unfollowed := true, recurses := true, plainKeys := false, apart := false }
def WalkGoesSaid : Prop := walkGoesRow.holds Try.pinned (OpenSpec.ofChange walkGoesSpec)

/-- ITS FALSE NEIGHBOUR: 'it returns false'. Refute it at one input. -/
def walkGoesWrong : ChangeSpec := { name := "walkGoes", fn := fun _ => fun
  | [d1, d2, d3, d4] => { results := [.lit (.bool false)], args := [d1, d2, d3, d4] }
  | _ => none }
def WalkGoesWrongFalsely : Prop := walkGoesRow.holds Try.pinned (OpenSpec.ofChange walkGoesWrong)

/-- 'turnstilelaw10.WalkPlain': WHATEVER THE INPUT: true; the input reads as it did. -/
def walkPlainSpec : ChangeSpec := { name := "walkPlain", fn := fun _ => fun
  | [d1, d2, d3] => { results := [.lit (.bool true)], args := [d1, d2, d3] }
  | _ => none }
def walkPlainRow : OpenClaim := { program := "ytjmeignhhheckaa", sum := "2e17fc13856cddcd942e1d8e146004a3b55b91b1596e5483298e5a6828b74f47", func := "turnstile/turnstilelaw10.WalkPlain", spec := "walkPlain", unfollowed := true, recurses := true, plainKeys := false, apart := false }
def WalkPlainSaid : Prop := walkPlainRow.holds Try.pinned (OpenSpec.ofChange walkPlainSpec)

/-- ITS FALSE NEIGHBOUR: 'it returns false'. Refute it at one input. -/
def walkPlainWrong : ChangeSpec := { name := "walkPlain", fn := fun _ => fun
  | [d1, d2, d3] => { results := [.lit (.bool false)], args := [d1, d2, d3] }
  | _ => none }
def WalkPlainWrongFalsely : Prop := walkPlainRow.holds Try.pinned (OpenSpec.ofChange walkPlainWrong)

/-- 'turnstilelaw10.WalkNames': WHATEVER THE INPUT: true; the input reads as it did. -/
def walkNamesSpec : ChangeSpec := { name := "walkNames", fn := fun _ => fun
  | [] => { results := [.lit (.bool true)], args := [] }
  | _ => none }
def walkNamesRow : OpenClaim := { program := "ytjmeignhhheckaa", sum := "2e17fc13856cddcd942e1d8e146004a3b55b91b1596e5483298e5a6828b74f47", func := "turnstile/turnstilelaw10.WalkNames", spec := "walkNames", unfollowed := true, recurses := true, plainKeys := false, apart := false }
def WalkNamesSaid : Prop := walkNamesRow.holds Try.pinned (OpenSpec.ofChange walkNamesSpec)

/-- ITS FALSE NEIGHBOUR: 'it returns false'. Refute it at one input. -/
def walkNamesWrong : ChangeSpec := { name := "walkNames", fn := fun _ => fun
  | [] => { results := [.lit (.bool false)], args := [] }
  | _ => none }
def WalkNamesWrongFalsely : Prop := walkNamesRow.holds Try.pinned (OpenSpec.ofChange walkNamesWrong)

/-- 'turnstilelaw15.EscapeNames': WHATEVER THE INPUT: true; the input reads as it did. -/
def escapeNamesSpec : ChangeSpec := { name := "escapeNames", fn := fun _ => fun
  | [] => { results := [.lit (.bool true)], args := [] }
  | _ => none }
def escapeNamesRow : OpenClaim := { program := "ytjmeignhhheckaa", sum := "2e17fc13856cddcd942e1d8e146004a3b55b91b1596e5483298e5a6828b74f47", func := "turnstile/turnstilelaw15.EscapeNames", spec := "escapeNames", unfollowed := true, recurses := true, plainKeys := false, apart := false }
def EscapeNamesSaid : Prop := escapeNamesRow.holds Try.pinned (OpenSpec.ofChange escapeNamesSpec)

/-- ITS FALSE NEIGHBOUR: 'it returns false'. Refute it at one input. -/
def escapeNamesWrong : ChangeSpec := { name := "escapeNames", fn := fun _ => fun
  | [] => { results := [.lit (.bool false)], args := [] }
  | _ => none }
def EscapeNamesWrongFalsely : Prop := escapeNamesRow.holds Try.pinned (OpenSpec.ofChange escapeNamesWrong)

/-- 'turnstilelaw16.ElideTwice': WHATEVER THE INPUT: true; the input reads as it did. -/
def elideTwiceSpec : ChangeSpec := { name := "elideTwice", fn := fun _ => fun
  | [d] => { results := [.lit (.bool true)], args := [d] }
  | _ => none }
def elideTwiceRow : OpenClaim := { program := "ytjmeignhhheckaa", sum := "2e17fc13856cddcd942e1d8e146004a3b55b91b1596e5483298e5a6828b74f47", func := "turnstile/turnstilelaw16.ElideTwice", spec := "elideTwice", unfollowed := true, recurses := true, plainKeys := false, apart := false }
def ElideTwiceSaid : Prop := elideTwiceRow.holds Try.pinned (OpenSpec.ofChange elideTwiceSpec)

/-- ITS FALSE NEIGHBOUR: 'it returns false'. Refute it at one input. -/
def elideTwiceWrong : ChangeSpec := { name := "elideTwice", fn := fun _ => fun
  | [d] => { results := [.lit (.bool false)], args := [d] }
  | _ => none }
def ElideTwiceWrongFalsely : Prop := elideTwiceRow.holds Try.pinned (OpenSpec.ofChange elideTwiceWrong)

/-- 'turnstilelaw16.ElideNames': WHATEVER THE INPUT: true; the input reads as it did. -/
def elideNamesSpec : ChangeSpec := { name := "elideNames", fn := fun _ => fun
  | [] => { results := [.lit (.bool true)], args := [] }
  | _ => none }
def elideNamesRow : OpenClaim := { program := "ytjmeignhhheckaa", sum := "2e17fc13856cddcd942e1d8e146004a3b55b91b1596e5483298e5a6828b74f47", func := "turnstile/turnstilelaw16.ElideNames", spec := "elideNames", unfollowed := true, recurses := true, plainKeys := false, apart := false }
def ElideNamesSaid : Prop := elideNamesRow.holds Try.pinned (OpenSpec.ofChange elideNamesSpec)

/-- ITS FALSE NEIGHBOUR: 'it returns false'. Refute it at one input. -/
def elideNamesWrong : ChangeSpec := { name := "elideNames", fn := fun _ => fun
  | [] => { results := [.lit (.bool false)], args := [] }
  | _ => none }
def ElideNamesWrongFalsely : Prop := elideNamesRow.holds Try.pinned (OpenSpec.ofChange elideNamesWrong)

/-- 'turnstilelaw12.FlowDoms': WHATEVER THE INPUT: true; the input reads as it did. -/
def flowDomsSpec : ChangeSpec := { name := "flowDoms", fn := fun _ => fun
  | [d] => { results := [.lit (.bool true)], args := [d] }
  | _ => none }
def flowDomsRow : OpenClaim := { program := "ytjmeignhhheckaa", sum := "2e17fc13856cddcd942e1d8e146004a3b55b91b1596e5483298e5a6828b74f47", func := "turnstile/turnstilelaw12.FlowDoms", spec := "flowDoms", unfollowed := true, recurses := true, plainKeys := false, apart := false }
def FlowDomsSaid : Prop := flowDomsRow.holds Try.pinned (OpenSpec.ofChange flowDomsSpec)

/-- ITS FALSE NEIGHBOUR: 'it returns false'. Refute it at one input. -/
def flowDomsWrong : ChangeSpec := { name := "flowDoms", fn := fun _ => fun
  | [d] => { results := [.lit (.bool false)], args := [d] }
  | _ => none }
def FlowDomsWrongFalsely : Prop := flowDomsRow.holds Try.pinned (OpenSpec.ofChange flowDomsWrong)

/-- 'turnstilelaw12.FlowWays': WHATEVER THE INPUT: true; the input reads as it did. -/
def flowWaysSpec : ChangeSpec := { name := "flowWays", fn := fun _ => fun
  | [d1, d2] => { results := [.lit (.bool true)], args := [d1, d2] }
  | _ => none }
def flowWaysRow : OpenClaim := { program := "ytjmeignhhheckaa", sum := "2e17fc13856cddcd942e1d8e146004a3b55b91b1596e5483298e5a6828b74f47", func := "turnstile/turnstilelaw12.FlowWays", spec := "flowWays", unfollowed := true, recurses := true, plainKeys := false, apart := false }
def FlowWaysSaid : Prop := flowWaysRow.holds Try.pinned (OpenSpec.ofChange flowWaysSpec)

/-- ITS FALSE NEIGHBOUR: 'it returns false'. Refute it at one input. -/
def flowWaysWrong : ChangeSpec := { name := "flowWays", fn := fun _ => fun
  | [d1, d2] => { results := [.lit (.bool false)], args := [d1, d2] }
  | _ => none }
def FlowWaysWrongFalsely : Prop := flowWaysRow.holds Try.pinned (OpenSpec.ofChange flowWaysWrong)

/- THE SECOND FORM. 'bulk': how many values and letters a reading holds, each counted each time it is reached (what is shared counts as often as it is met; a slice's spare places count too). A statement '..UptoSaid' is the law's where the arguments, and the package variables that the reading takes, are together of bulk at most 1048576: NARROWER than '..Said'. Prove '..Said' where nothing that the law and all that it calls make is longer than what came in: it says more and counts as full. Else prove '..UptoSaid'. A law counts once. -/
mutual
def uptoBulk {H : Type} : DataW H → Nat
  | .lit (.string bytes) => bytes.length + 1
  | .lit _ => 1
  | .nil => 1
  | .ptr d => uptoBulk d + 1
  | .slice elems spare => uptoBulkAll elems + uptoBulkAll spare + 1
  | .agg parts => uptoBulkAll parts + 1
  | .iface _ d => uptoBulk d + 1
  | .map entries => uptoBulkEntries entries + 1
  | .held _ => 1
def uptoBulkAll {H : Type} : List (DataW H) → Nat
  | [] => 0
  | d :: r => uptoBulk d + uptoBulkAll r
def uptoBulkEntries {H : Type} : List (Lit × DataW H) → Nat
  | [] => 0
  | x :: r => uptoBulkEntry x + uptoBulkEntries r
def uptoBulkEntry {H : Type} : Lit × DataW H → Nat
  | (.string bytes, d) => bytes.length + uptoBulk d + 1
  | (_, d) => uptoBulk d + 1
 end
def uptoSmall : (H : Type) → List (DataW H) → Bool := fun _ ds => decide (uptoBulkAll ds ≤ 1048576)
def OpenSpec.upto (s : _root_.Go.ChangeSpec) : _root_.Go.OpenSpec := { _root_.Go.OpenSpec.ofChange s with cond := some uptoSmall }

/-- 'turnstilelaw13.LiveSteps', WHERE WHAT IT READS IS OF BULK AT MOST 1048576: true; the input reads as it did. -/
def liveStepsUptoRow : OpenClaim := { program := "ytjmeignhhheckaa", sum := "2e17fc13856cddcd942e1d8e146004a3b55b91b1596e5483298e5a6828b74f47", func := "turnstile/turnstilelaw13.LiveSteps", spec := "liveSteps", unfollowed := true, recurses := true, plainKeys := false, apart := false, narrowed := true }
def LiveStepsUptoSaid : Prop := liveStepsUptoRow.holds Try.pinned (OpenSpec.upto liveStepsSpec)

/-- 'turnstilelaw13.LiveAsked', WHERE WHAT IT READS IS OF BULK AT MOST 1048576: true; the input reads as it did. -/
def liveAskedUptoRow : OpenClaim := { program := "ytjmeignhhheckaa", sum := "2e17fc13856cddcd942e1d8e146004a3b55b91b1596e5483298e5a6828b74f47", func := "turnstile/turnstilelaw13.LiveAsked", spec := "liveAsked", unfollowed := true, recurses := true, plainKeys := false, apart := false, narrowed := true }
def LiveAskedUptoSaid : Prop := liveAskedUptoRow.holds Try.pinned (OpenSpec.upto liveAskedSpec)

/-- 'turnstilelaw10.WalkGoes', WHERE WHAT IT READS IS OF BULK AT MOST 1048576: true; the input reads as it did. -/
def walkGoesUptoRow : OpenClaim := { program := "ytjmeignhhheckaa", sum := "2e17fc13856cddcd942e1d8e146004a3b55b91b1596e5483298e5a6828b74f47", func := "turnstile/turnstilelaw10.WalkGoes", spec := "walkGoes", unfollowed := true, recurses := true, plainKeys := false, apart := false, narrowed := true }
def WalkGoesUptoSaid : Prop := walkGoesUptoRow.holds Try.pinned (OpenSpec.upto walkGoesSpec)

/-- 'turnstilelaw10.WalkPlain', WHERE WHAT IT READS IS OF BULK AT MOST 1048576: true; the input reads as it did. -/
def walkPlainUptoRow : OpenClaim := { program := "ytjmeignhhheckaa", sum := "2e17fc13856cddcd942e1d8e146004a3b55b91b1596e5483298e5a6828b74f47", func := "turnstile/turnstilelaw10.WalkPlain", spec := "walkPlain", unfollowed := true, recurses := true, plainKeys := false, apart := false, narrowed := true }
def WalkPlainUptoSaid : Prop := walkPlainUptoRow.holds Try.pinned (OpenSpec.upto walkPlainSpec)

/-- 'turnstilelaw10.WalkNames', WHERE WHAT IT READS IS OF BULK AT MOST 1048576: true; the input reads as it did. -/
def walkNamesUptoRow : OpenClaim := { program := "ytjmeignhhheckaa", sum := "2e17fc13856cddcd942e1d8e146004a3b55b91b1596e5483298e5a6828b74f47", func := "turnstile/turnstilelaw10.WalkNames", spec := "walkNames", unfollowed := true, recurses := true, plainKeys := false, apart := false, narrowed := true }
def WalkNamesUptoSaid : Prop := walkNamesUptoRow.holds Try.pinned (OpenSpec.upto walkNamesSpec)

/-- 'turnstilelaw15.EscapeNames', WHERE WHAT IT READS IS OF BULK AT MOST 1048576: true; the input reads as it did. -/
def escapeNamesUptoRow : OpenClaim := { program := "ytjmeignhhheckaa", sum := "2e17fc13856cddcd942e1d8e146004a3b55b91b1596e5483298e5a6828b74f47", func := "turnstile/turnstilelaw15.EscapeNames", spec := "escapeNames", unfollowed := true, recurses := true, plainKeys := false, apart := false, narrowed := true }
def EscapeNamesUptoSaid : Prop := escapeNamesUptoRow.holds Try.pinned (OpenSpec.upto escapeNamesSpec)

/-- 'turnstilelaw16.ElideTwice', WHERE WHAT IT READS IS OF BULK AT MOST 1048576: true; the input reads as it did. -/
def elideTwiceUptoRow : OpenClaim := { program := "ytjmeignhhheckaa", sum := "2e17fc13856cddcd942e1d8e146004a3b55b91b1596e5483298e5a6828b74f47", func := "turnstile/turnstilelaw16.ElideTwice", spec := "elideTwice", unfollowed := true, recurses := true, plainKeys := false, apart := false, narrowed := true }
def ElideTwiceUptoSaid : Prop := elideTwiceUptoRow.holds Try.pinned (OpenSpec.upto elideTwiceSpec)

/-- 'turnstilelaw16.ElideNames', WHERE WHAT IT READS IS OF BULK AT MOST 1048576: true; the input reads as it did. -/
def elideNamesUptoRow : OpenClaim := { program := "ytjmeignhhheckaa", sum := "2e17fc13856cddcd942e1d8e146004a3b55b91b1596e5483298e5a6828b74f47", func := "turnstile/turnstilelaw16.ElideNames", spec := "elideNames", unfollowed := true, recurses := true, plainKeys := false, apart := false, narrowed := true }
def ElideNamesUptoSaid : Prop := elideNamesUptoRow.holds Try.pinned (OpenSpec.upto elideNamesSpec)

/-- 'turnstilelaw12.FlowDoms', WHERE WHAT IT READS IS OF BULK AT MOST 1048576: true; the input reads as it did. -/
def flowDomsUptoRow : OpenClaim := { program := "ytjmeignhhheckaa", sum := "2e17fc13856cddcd942e1d8e146004a3b55b91b1596e5483298e5a6828b74f47", func := "turnstile/turnstilelaw12.FlowDoms", spec := "flowDoms", unfollowed := true, recurses := true, plainKeys := false, apart := false, narrowed := true }
def FlowDomsUptoSaid : Prop := flowDomsUptoRow.holds Try.pinned (OpenSpec.upto flowDomsSpec)

/-- 'turnstilelaw12.FlowWays', WHERE WHAT IT READS IS OF BULK AT MOST 1048576: true; the input reads as it did. -/
def flowWaysUptoRow : OpenClaim := { program := "ytjmeignhhheckaa", sum := "2e17fc13856cddcd942e1d8e146004a3b55b91b1596e5483298e5a6828b74f47", func := "turnstile/turnstilelaw12.FlowWays", spec := "flowWays", unfollowed := true, recurses := true, plainKeys := false, apart := false, narrowed := true }
def FlowWaysUptoSaid : Prop := flowWaysUptoRow.holds Try.pinned (OpenSpec.upto flowWaysSpec)

end Rows
end Go.Proofs.Ytjmeignhhheckaa
