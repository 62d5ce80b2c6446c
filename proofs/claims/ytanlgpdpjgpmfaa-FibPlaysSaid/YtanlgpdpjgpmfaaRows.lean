/-
  No cell of these rows narrows 'for every input' (looked for: loops, veiled, ifaces, maps, wideKeys, modest, calm, conditions, laid).
  DERIVED. THE GIVEN ROWS OF THIS SEAT. 7 by the template 'for every input the law returns true; each argument reads behind the call as it read before'; 0 by the template 'total and deterministic' (their statements: YtanlgpdpjgpmfaaTotals.lean).
  GIVEN WITH THE SEED: the statements are not yours to turn. If you find one false, say at which input.
  Laid BY PROGRAM, IN A SANDBOX (cutbox-rows.mjs): the forced cells as the released guide's own fill.sh prints them over the translation 8c94f7e02950d108… (all of the seat's roots in one cut). By AI agents, Wed Nov 11 2026. No macro, syntax, notation, axiom, sorry.
-/
import Derived.Test.YtanlgpdpjgpmfaaChecked
import GoSem.Claim
import GoSem.ClaimJoined
import GoSem.ClaimMapViews
import Derived.JoinedTies
import Derived.KernelRfl
namespace Go.Proofs.Ytanlgpdpjgpmfaa
/- THE CELL 'sum', in the pinned program and in every row, IS THE sha256 OF THE DUMP (.gsa) THAT YtanlgpdpjgpmfaaProg.lean LOADS. Nothing in Lean hashes anything: it is a label: what it is worth is what the hold of that sum in a sandbox is worth. -/
noncomputable def Try.pinned : Pinned := { name := "ytanlgpdpjgpmfaa", sum := "8c94f7e02950d108376cd98543f2d748ffd7aa1e79b7b284fb7fcbe7896c5d4c", checked := Try.checked }
namespace Rows
def none {H : Type} : Left H := { results := [], args := [] }

/-- 'culvertlaw19.FibExpands': WHATEVER THE INPUT: true; the input reads as it did. -/
def fibExpandsSpec : ChangeSpec := { name := "fibExpands", fn := fun _ => fun
  | [d] => { results := [.lit (.bool true)], args := [d] }
  | _ => none }
def fibExpandsRow : OpenClaim := { program := "ytanlgpdpjgpmfaa", sum := "8c94f7e02950d108376cd98543f2d748ffd7aa1e79b7b284fb7fcbe7896c5d4c", func := "culvert/culvertlaw19.FibExpands", spec := "fibExpands", inPlace := ["internal/bytealg.Compare"], unfollowed := true, recurses := true, plainKeys := false, apart := false }
def FibExpandsSaid : Prop := fibExpandsRow.holds Try.pinned (OpenSpec.ofChange fibExpandsSpec)

/-- ITS FALSE NEIGHBOUR: 'it returns false'. Refute it at one input. -/
def fibExpandsWrong : ChangeSpec := { name := "fibExpands", fn := fun _ => fun
  | [d] => { results := [.lit (.bool false)], args := [d] }
  | _ => none }
def FibExpandsWrongFalsely : Prop := fibExpandsRow.holds Try.pinned (OpenSpec.ofChange fibExpandsWrong)

/-- 'culvertlaw19.FibPlays': WHATEVER THE INPUT: true; the input reads as it did. -/
def fibPlaysSpec : ChangeSpec := { name := "fibPlays", fn := fun _ => fun
  | [d] => { results := [.lit (.bool true)], args := [d] }
  | _ => none }
def fibPlaysRow : OpenClaim := { program := "ytanlgpdpjgpmfaa", sum := "8c94f7e02950d108376cd98543f2d748ffd7aa1e79b7b284fb7fcbe7896c5d4c", func := "culvert/culvertlaw19.FibPlays", spec := "fibPlays", inPlace := ["internal/bytealg.Compare"], unfollowed := true, recurses := true, plainKeys := false, apart := false }
def FibPlaysSaid : Prop := fibPlaysRow.holds Try.pinned (OpenSpec.ofChange fibPlaysSpec)

/-- ITS FALSE NEIGHBOUR: 'it returns false'. Refute it at one input. -/
def fibPlaysWrong : ChangeSpec := { name := "fibPlays", fn := fun _ => fun
  | [d] => { results := [.lit (.bool false)], args := [d] }
  | _ => none }
def FibPlaysWrongFalsely : Prop := fibPlaysRow.holds Try.pinned (OpenSpec.ofChange fibPlaysWrong)

/-- 'culvertlaw19.FibEnds': WHATEVER THE INPUT: true; the input reads as it did. -/
def fibEndsSpec : ChangeSpec := { name := "fibEnds", fn := fun _ => fun
  | [d1, d2] => { results := [.lit (.bool true)], args := [d1, d2] }
  | _ => none }
def fibEndsRow : OpenClaim := { program := "ytanlgpdpjgpmfaa", sum := "8c94f7e02950d108376cd98543f2d748ffd7aa1e79b7b284fb7fcbe7896c5d4c", func := "culvert/culvertlaw19.FibEnds", spec := "fibEnds", inPlace := ["internal/bytealg.Compare"], unfollowed := true, recurses := true, plainKeys := false, apart := false }
def FibEndsSaid : Prop := fibEndsRow.holds Try.pinned (OpenSpec.ofChange fibEndsSpec)

/-- ITS FALSE NEIGHBOUR: 'it returns false'. Refute it at one input. -/
def fibEndsWrong : ChangeSpec := { name := "fibEnds", fn := fun _ => fun
  | [d1, d2] => { results := [.lit (.bool false)], args := [d1, d2] }
  | _ => none }
def FibEndsWrongFalsely : Prop := fibEndsRow.holds Try.pinned (OpenSpec.ofChange fibEndsWrong)

/-- 'culvertlaw19.FibNil': WHATEVER THE INPUT: true; the input reads as it did. -/
def fibNilSpec : ChangeSpec := { name := "fibNil", fn := fun _ => fun
  | [d] => { results := [.lit (.bool true)], args := [d] }
  | _ => none }
def fibNilRow : OpenClaim := { program := "ytanlgpdpjgpmfaa", sum := "8c94f7e02950d108376cd98543f2d748ffd7aa1e79b7b284fb7fcbe7896c5d4c", func := "culvert/culvertlaw19.FibNil", spec := "fibNil", inPlace := ["internal/bytealg.Compare"], unfollowed := true, recurses := true, plainKeys := false, apart := false }
def FibNilSaid : Prop := fibNilRow.holds Try.pinned (OpenSpec.ofChange fibNilSpec)

/-- ITS FALSE NEIGHBOUR: 'it returns false'. Refute it at one input. -/
def fibNilWrong : ChangeSpec := { name := "fibNil", fn := fun _ => fun
  | [d] => { results := [.lit (.bool false)], args := [d] }
  | _ => none }
def FibNilWrongFalsely : Prop := fibNilRow.holds Try.pinned (OpenSpec.ofChange fibNilWrong)

/-- 'culvertlaw19.FibSteps': WHATEVER THE INPUT: true; the input reads as it did. -/
def fibStepsSpec : ChangeSpec := { name := "fibSteps", fn := fun _ => fun
  | [d] => { results := [.lit (.bool true)], args := [d] }
  | _ => none }
def fibStepsRow : OpenClaim := { program := "ytanlgpdpjgpmfaa", sum := "8c94f7e02950d108376cd98543f2d748ffd7aa1e79b7b284fb7fcbe7896c5d4c", func := "culvert/culvertlaw19.FibSteps", spec := "fibSteps", inPlace := ["internal/bytealg.Compare"], unfollowed := true, recurses := true, plainKeys := false, apart := false }
def FibStepsSaid : Prop := fibStepsRow.holds Try.pinned (OpenSpec.ofChange fibStepsSpec)

/-- ITS FALSE NEIGHBOUR: 'it returns false'. Refute it at one input. -/
def fibStepsWrong : ChangeSpec := { name := "fibSteps", fn := fun _ => fun
  | [d] => { results := [.lit (.bool false)], args := [d] }
  | _ => none }
def FibStepsWrongFalsely : Prop := fibStepsRow.holds Try.pinned (OpenSpec.ofChange fibStepsWrong)

/-- 'culvertlaw19.FibPlain': WHATEVER THE INPUT: true; the input reads as it did. -/
def fibPlainSpec : ChangeSpec := { name := "fibPlain", fn := fun _ => fun
  | [d] => { results := [.lit (.bool true)], args := [d] }
  | _ => none }
def fibPlainRow : OpenClaim := { program := "ytanlgpdpjgpmfaa", sum := "8c94f7e02950d108376cd98543f2d748ffd7aa1e79b7b284fb7fcbe7896c5d4c", func := "culvert/culvertlaw19.FibPlain", spec := "fibPlain", inPlace := ["internal/bytealg.Compare"], unfollowed := true, recurses := true, plainKeys := false, apart := false }
def FibPlainSaid : Prop := fibPlainRow.holds Try.pinned (OpenSpec.ofChange fibPlainSpec)

/-- ITS FALSE NEIGHBOUR: 'it returns false'. Refute it at one input. -/
def fibPlainWrong : ChangeSpec := { name := "fibPlain", fn := fun _ => fun
  | [d] => { results := [.lit (.bool false)], args := [d] }
  | _ => none }
def FibPlainWrongFalsely : Prop := fibPlainRow.holds Try.pinned (OpenSpec.ofChange fibPlainWrong)

/-- 'culvertlaw19.FibMeans': WHATEVER THE INPUT: true; the input reads as it did. -/
def fibMeansSpec : ChangeSpec := { name := "fibMeans", fn := fun _ => fun
  | [d1, d2, d3] => { results := [.lit (.bool true)], args := [d1, d2, d3] }
  | _ => none }
def fibMeansRow : OpenClaim := { program := "ytanlgpdpjgpmfaa", sum := "8c94f7e02950d108376cd98543f2d748ffd7aa1e79b7b284fb7fcbe7896c5d4c", func := "culvert/culvertlaw19.FibMeans", spec := "fibMeans", inPlace := ["internal/bytealg.Compare"], unfollowed := true, recurses := true, plainKeys := false, apart := false }
def FibMeansSaid : Prop := fibMeansRow.holds Try.pinned (OpenSpec.ofChange fibMeansSpec)

/-- ITS FALSE NEIGHBOUR: 'it returns false'. Refute it at one input. -/
def fibMeansWrong : ChangeSpec := { name := "fibMeans", fn := fun _ => fun
  | [d1, d2, d3] => { results := [.lit (.bool false)], args := [d1, d2, d3] }
  | _ => none }
def FibMeansWrongFalsely : Prop := fibMeansRow.holds Try.pinned (OpenSpec.ofChange fibMeansWrong)

/- THE SECOND FORM. 'bulk': how many values and letters a reading holds, each counted each time it is reached (what is shared counts as often as it is met; a slice's spare places count too). A statement '..UptoSaid' is the law's where the arguments, and the package variables that the reading takes, are together of bulk at most 1048576: NARROWER than '..Said'. Prove '..Said' where nothing that the law and all that it calls make is longer than what came in: it says more and counts as full. Else prove '..UptoSaid'. A law counts once. -/
mutual
def uptoBulk {H : Type} : DataW H → Nat
  | .lit (.string bytes) => bytes.length + 1
  | .lit _ => 1
  | .nil => 1
  | .ptr d => uptoBulk d + 1
  | .slice elems spare => uptoBulkAll elems + uptoBulkAll spare + 1
  | .agg parts => uptoBulkAll parts + 1
  | .iface _ d => uptoBulk d + 1
  | .map entries => uptoBulkEntries entries + 1
  | .held _ => 1
def uptoBulkAll {H : Type} : List (DataW H) → Nat
  | [] => 0
  | d :: r => uptoBulk d + uptoBulkAll r
def uptoBulkEntries {H : Type} : List (Lit × DataW H) → Nat
  | [] => 0
  | x :: r => uptoBulkEntry x + uptoBulkEntries r
def uptoBulkEntry {H : Type} : Lit × DataW H → Nat
  | (.string bytes, d) => bytes.length + uptoBulk d + 1
  | (_, d) => uptoBulk d + 1
 end
def uptoSmall : (H : Type) → List (DataW H) → Bool := fun _ ds => decide (uptoBulkAll ds ≤ 1048576)
def OpenSpec.upto (s : _root_.Go.ChangeSpec) : _root_.Go.OpenSpec := { _root_.Go.OpenSpec.ofChange s with cond := some uptoSmall }

/-- 'culvertlaw19.FibExpands', WHERE WHAT IT READS IS OF BULK AT MOST 1048576: true; the input reads as it did. -/
def fibExpandsUptoRow : OpenClaim := { program := "ytanlgpdpjgpmfaa", sum := "8c94f7e02950d108376cd98543f2d748ffd7aa1e79b7b284fb7fcbe7896c5d4c", func := "culvert/culvertlaw19.FibExpands", spec := "fibExpands", inPlace := ["internal/bytealg.Compare"], unfollowed := true, recurses := true, plainKeys := false, apart := false, narrowed := true }
def FibExpandsUptoSaid : Prop := fibExpandsUptoRow.holds Try.pinned (OpenSpec.upto fibExpandsSpec)

/-- 'culvertlaw19.FibPlays', WHERE WHAT IT READS IS OF BULK AT MOST 1048576: true; the input reads as it did. -/
def fibPlaysUptoRow : OpenClaim := { program := "ytanlgpdpjgpmfaa", sum := "8c94f7e02950d108376cd98543f2d748ffd7aa1e79b7b284fb7fcbe7896c5d4c", func := "culvert/culvertlaw19.FibPlays", spec := "fibPlays", inPlace := ["internal/bytealg.Compare"], unfollowed := true, recurses := true, plainKeys := false, apart := false, narrowed := true }
def FibPlaysUptoSaid : Prop := fibPlaysUptoRow.holds Try.pinned (OpenSpec.upto fibPlaysSpec)

/-- 'culvertlaw19.FibEnds', WHERE WHAT IT READS IS OF BULK AT MOST 1048576: true; the input reads as it did. -/
def fibEndsUptoRow : OpenClaim := { program := "ytanlgpdpjgpmfaa", sum := "8c94f7e02950d108376cd98543f2d748ffd7aa1e79b7b284fb7fcbe7896c5d4c", func := "culvert/culvertlaw19.FibEnds", spec := "fibEnds", inPlace := ["internal/bytealg.Compare"], unfollowed := true, recurses := true, plainKeys := false, apart := false, narrowed := true }
def FibEndsUptoSaid : Prop := fibEndsUptoRow.holds Try.pinned (OpenSpec.upto fibEndsSpec)

/-- 'culvertlaw19.FibNil', WHERE WHAT IT READS IS OF BULK AT MOST 1048576: true; the input reads as it did. -/
def fibNilUptoRow : OpenClaim := { program := "ytanlgpdpjgpmfaa", sum := "8c94f7e02950d108376cd98543f2d748ffd7aa1e79b7b284fb7fcbe7896c5d4c", func := "culvert/culvertlaw19.FibNil", spec := "fibNil", inPlace := ["internal/bytealg.Compare"], unfollowed := true, recurses := true, plainKeys := false, apart := false, narrowed := true }
def FibNilUptoSaid : Prop := fibNilUptoRow.holds Try.pinned (OpenSpec.upto fibNilSpec)

/-- 'culvertlaw19.FibSteps', WHERE WHAT IT READS IS OF BULK AT MOST 1048576: true; the input reads as it did. -/
def fibStepsUptoRow : OpenClaim := { program := "ytanlgpdpjgpmfaa", sum := "8c94f7e02950d108376cd98543f2d748ffd7aa1e79b7b284fb7fcbe7896c5d4c", func := "culvert/culvertlaw19.FibSteps", spec := "fibSteps", inPlace := ["internal/bytealg.Compare"], unfollowed := true, recurses := true, plainKeys := false, apart := false, narrowed := true }
def FibStepsUptoSaid : Prop := fibStepsUptoRow.holds Try.pinned (OpenSpec.upto fibStepsSpec)

/-- 'culvertlaw19.FibPlain', WHERE WHAT IT READS IS OF BULK AT MOST 1048576: true; the input reads as it did. -/
def fibPlainUptoRow : OpenClaim := { program := "ytanlgpdpjgpmfaa", sum := "8c94f7e02950d108376cd98543f2d748ffd7aa1e79b7b284fb7fcbe7896c5d4c", func := "culvert/culvertlaw19.FibPlain", spec := "fibPlain", inPlace := ["internal/bytealg.Compare"], unfollowed := true, recurses := true, plainKeys := false, apart := false, narrowed := true }
def FibPlainUptoSaid : Prop := fibPlainUptoRow.holds Try.pinned (OpenSpec.upto fibPlainSpec)

/-- 'culvertlaw19.FibMeans', WHERE WHAT IT READS IS OF BULK AT MOST 1048576: true; the input reads as it did. -/
def fibMeansUptoRow : OpenClaim := { program := "ytanlgpdpjgpmfaa", sum := "8c94f7e02950d108376cd98543f2d748ffd7aa1e79b7b284fb7fcbe7896c5d4c", func := "culvert/culvertlaw19.FibMeans", spec := "fibMeans", inPlace := ["internal/bytealg.Compare"], unfollowed := true, recurses := true, plainKeys := false, apart := false, narrowed := true }
def FibMeansUptoSaid : Prop := fibMeansUptoRow.holds Try.pinned (OpenSpec.upto fibMeansSpec)

end Rows
end Go.Proofs.Ytanlgpdpjgpmfaa
