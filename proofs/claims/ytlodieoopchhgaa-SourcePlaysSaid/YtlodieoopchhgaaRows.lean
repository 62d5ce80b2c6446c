/-
  No cell of these rows narrows 'for every input' (looked for: loops, veiled, ifaces, maps, wideKeys, modest, calm, conditions, laid).
  DERIVED. THE GIVEN ROWS OF THIS SEAT. 5 by the template 'for every input the law returns true; each argument reads behind the call as it read before'; 0 by the template 'total and deterministic' (their statements: YtlodieoopchhgaaTotals.lean).
  GIVEN WITH THE SEED: the statements are not yours to turn. If you find one false, say at which input.
  Laid BY PROGRAM, IN A SANDBOX (cutbox-rows.mjs): the forced cells as the released guide's own fill.sh prints them over the translation ff81d823f9976ea5… (all of the seat's roots in one cut). By AI agents, Wed Nov 11 2026. No macro, syntax, notation, axiom, sorry.
-/
import Derived.Test.YtlodieoopchhgaaChecked
import GoSem.Claim
import GoSem.ClaimJoined
import GoSem.ClaimMapViews
import Derived.JoinedTies
import Derived.KernelRfl
namespace Go.Proofs.Ytlodieoopchhgaa
/- THE CELL 'sum', in the pinned program and in every row, IS THE sha256 OF THE DUMP (.gsa) THAT YtlodieoopchhgaaProg.lean LOADS. Nothing in Lean hashes anything: it is a label: what it is worth is what the hold of that sum in a sandbox is worth. -/
noncomputable def Try.pinned : Pinned := { name := "ytlodieoopchhgaa", sum := "ff81d823f9976ea5c87647659f8f8d6faf7bc594c4c999f9de3b86dd44118026", checked := Try.checked }
namespace Rows
def none {H : Type} : Left H := { results := [], args := [] }

/-- 'culvertlaw15.SourceKeeps': WHATEVER THE INPUT: true; the input reads as it did. -/
def sourceKeepsSpec : ChangeSpec := { name := "sourceKeeps", fn := fun _ => fun
  | [d1, d2, d3, d4, d5] => { results := [.lit (.bool true)], args := [d1, d2, d3, d4, d5] }
  | _ => none }
def sourceKeepsRow : OpenClaim := { program := "ytlodieoopchhgaa", sum := "ff81d823f9976ea5c87647659f8f8d6faf7bc594c4c999f9de3b86dd44118026", func := "culvert/culvertlaw15.SourceKeeps", spec := "sourceKeeps", inPlace := ["internal/bytealg.Compare"], unfollowed := true, recurses := true, plainKeys := false, apart := false }
def SourceKeepsSaid : Prop := sourceKeepsRow.holds Try.pinned (OpenSpec.ofChange sourceKeepsSpec)

/-- ITS FALSE NEIGHBOUR: 'it returns false'. Refute it at one input. -/
def sourceKeepsWrong : ChangeSpec := { name := "sourceKeeps", fn := fun _ => fun
  | [d1, d2, d3, d4, d5] => { results := [.lit (.bool false)], args := [d1, d2, d3, d4, d5] }
  | _ => none }
def SourceKeepsWrongFalsely : Prop := sourceKeepsRow.holds Try.pinned (OpenSpec.ofChange sourceKeepsWrong)

/-- 'culvertlaw15.SourceAlone': WHATEVER THE INPUT: true; the input reads as it did. -/
def sourceAloneSpec : ChangeSpec := { name := "sourceAlone", fn := fun _ => fun
  | [d1, d2, d3, d4] => { results := [.lit (.bool true)], args := [d1, d2, d3, d4] }
  | _ => none }
def sourceAloneRow : OpenClaim := { program := "ytlodieoopchhgaa", sum := "ff81d823f9976ea5c87647659f8f8d6faf7bc594c4c999f9de3b86dd44118026", func := "culvert/culvertlaw15.SourceAlone", spec := "sourceAlone", inPlace := ["internal/bytealg.Compare"], unfollowed := true, recurses := true, plainKeys := false, apart := false }
def SourceAloneSaid : Prop := sourceAloneRow.holds Try.pinned (OpenSpec.ofChange sourceAloneSpec)

/-- ITS FALSE NEIGHBOUR: 'it returns false'. Refute it at one input. -/
def sourceAloneWrong : ChangeSpec := { name := "sourceAlone", fn := fun _ => fun
  | [d1, d2, d3, d4] => { results := [.lit (.bool false)], args := [d1, d2, d3, d4] }
  | _ => none }
def SourceAloneWrongFalsely : Prop := sourceAloneRow.holds Try.pinned (OpenSpec.ofChange sourceAloneWrong)

/-- 'culvertlaw15.SourceForgets': WHATEVER THE INPUT: true; the input reads as it did. -/
def sourceForgetsSpec : ChangeSpec := { name := "sourceForgets", fn := fun _ => fun
  | [d1, d2, d3, d4] => { results := [.lit (.bool true)], args := [d1, d2, d3, d4] }
  | _ => none }
def sourceForgetsRow : OpenClaim := { program := "ytlodieoopchhgaa", sum := "ff81d823f9976ea5c87647659f8f8d6faf7bc594c4c999f9de3b86dd44118026", func := "culvert/culvertlaw15.SourceForgets", spec := "sourceForgets", inPlace := ["internal/bytealg.Compare"], unfollowed := true, recurses := true, plainKeys := false, apart := false }
def SourceForgetsSaid : Prop := sourceForgetsRow.holds Try.pinned (OpenSpec.ofChange sourceForgetsSpec)

/-- ITS FALSE NEIGHBOUR: 'it returns false'. Refute it at one input. -/
def sourceForgetsWrong : ChangeSpec := { name := "sourceForgets", fn := fun _ => fun
  | [d1, d2, d3, d4] => { results := [.lit (.bool false)], args := [d1, d2, d3, d4] }
  | _ => none }
def SourceForgetsWrongFalsely : Prop := sourceForgetsRow.holds Try.pinned (OpenSpec.ofChange sourceForgetsWrong)

/-- 'culvertlaw15.SourcePlays': WHATEVER THE INPUT: true; the input reads as it did. -/
def sourcePlaysSpec : ChangeSpec := { name := "sourcePlays", fn := fun _ => fun
  | [d1, d2] => { results := [.lit (.bool true)], args := [d1, d2] }
  | _ => none }
def sourcePlaysRow : OpenClaim := { program := "ytlodieoopchhgaa", sum := "ff81d823f9976ea5c87647659f8f8d6faf7bc594c4c999f9de3b86dd44118026", func := "culvert/culvertlaw15.SourcePlays", spec := "sourcePlays", inPlace := ["internal/bytealg.Compare"], unfollowed := true, recurses := true, plainKeys := false, apart := false }
def SourcePlaysSaid : Prop := sourcePlaysRow.holds Try.pinned (OpenSpec.ofChange sourcePlaysSpec)

/-- ITS FALSE NEIGHBOUR: 'it returns false'. Refute it at one input. -/
def sourcePlaysWrong : ChangeSpec := { name := "sourcePlays", fn := fun _ => fun
  | [d1, d2] => { results := [.lit (.bool false)], args := [d1, d2] }
  | _ => none }
def SourcePlaysWrongFalsely : Prop := sourcePlaysRow.holds Try.pinned (OpenSpec.ofChange sourcePlaysWrong)

/-- 'culvertlaw15.SourceNil': WHATEVER THE INPUT: true; the input reads as it did. -/
def sourceNilSpec : ChangeSpec := { name := "sourceNil", fn := fun _ => fun
  | [d1, d2, d3] => { results := [.lit (.bool true)], args := [d1, d2, d3] }
  | _ => none }
def sourceNilRow : OpenClaim := { program := "ytlodieoopchhgaa", sum := "ff81d823f9976ea5c87647659f8f8d6faf7bc594c4c999f9de3b86dd44118026", func := "culvert/culvertlaw15.SourceNil", spec := "sourceNil", inPlace := ["internal/bytealg.Compare"], unfollowed := true, recurses := true, plainKeys := false, apart := false }
def SourceNilSaid : Prop := sourceNilRow.holds Try.pinned (OpenSpec.ofChange sourceNilSpec)

/-- ITS FALSE NEIGHBOUR: 'it returns false'. Refute it at one input. -/
def sourceNilWrong : ChangeSpec := { name := "sourceNil", fn := fun _ => fun
  | [d1, d2, d3] => { results := [.lit (.bool false)], args := [d1, d2, d3] }
  | _ => none }
def SourceNilWrongFalsely : Prop := sourceNilRow.holds Try.pinned (OpenSpec.ofChange sourceNilWrong)

/- THE SECOND FORM. 'bulk': how many values and letters a reading holds, each counted each time it is reached (what is shared counts as often as it is met; a slice's spare places count too). A statement '..UptoSaid' is the law's where the arguments, and the package variables that the reading takes, are together of bulk at most 1048576: NARROWER than '..Said'. Prove '..Said' where nothing that the law and all that it calls make is longer than what came in: it says more and counts as full. Else prove '..UptoSaid'. A law counts once. -/
mutual
def uptoBulk {H : Type} : DataW H → Nat
  | .lit (.string bytes) => bytes.length + 1
  | .lit _ => 1
  | .nil => 1
  | .ptr d => uptoBulk d + 1
  | .slice elems spare => uptoBulkAll elems + uptoBulkAll spare + 1
  | .agg parts => uptoBulkAll parts + 1
  | .iface _ d => uptoBulk d + 1
  | .map entries => uptoBulkEntries entries + 1
  | .held _ => 1
def uptoBulkAll {H : Type} : List (DataW H) → Nat
  | [] => 0
  | d :: r => uptoBulk d + uptoBulkAll r
def uptoBulkEntries {H : Type} : List (Lit × DataW H) → Nat
  | [] => 0
  | x :: r => uptoBulkEntry x + uptoBulkEntries r
def uptoBulkEntry {H : Type} : Lit × DataW H → Nat
  | (.string bytes, d) => bytes.length + uptoBulk d + 1
  | (_, d) => uptoBulk d + 1
 end
def uptoSmall : (H : Type) → List (DataW H) → Bool := fun _ ds => decide (uptoBulkAll ds ≤ 1048576)
def OpenSpec.upto (s : _root_.Go.ChangeSpec) : _root_.Go.OpenSpec := { _root_.Go.OpenSpec.ofChange s with cond := some uptoSmall }

/-- 'culvertlaw15.SourceKeeps', WHERE WHAT IT READS IS OF BULK AT MOST 1048576: true; the input reads as it did. -/
def sourceKeepsUptoRow : OpenClaim := { program := "ytlodieoopchhgaa", sum := "ff81d823f9976ea5c87647659f8f8d6faf7bc594c4c999f9de3b86dd44118026", func := "culvert/culvertlaw15.SourceKeeps", spec := "sourceKeeps", inPlace := ["internal/bytealg.Compare"], unfollowed := true, recurses := true, plainKeys := false, apart := false, narrowed := true }
def SourceKeepsUptoSaid : Prop := sourceKeepsUptoRow.holds Try.pinned (OpenSpec.upto sourceKeepsSpec)

/-- 'culvertlaw15.SourceAlone', WHERE WHAT IT READS IS OF BULK AT MOST 1048576: true; the input reads as it did. -/
def sourceAloneUptoRow : OpenClaim := { program := "ytlodieoopchhgaa", sum := "ff81d823f9976ea5c87647659f8f8d6faf7bc594c4c999f9de3b86dd44118026", func := "culvert/culvertlaw15.SourceAlone", spec := "sourceAlone", inPlace := ["internal/bytealg.Compare"], unfollowed := true, recurses := true, plainKeys := false, apart := false, narrowed := true }
def SourceAloneUptoSaid : Prop := sourceAloneUptoRow.holds Try.pinned (OpenSpec.upto sourceAloneSpec)

/-- 'culvertlaw15.SourceForgets', WHERE WHAT IT READS IS OF BULK AT MOST 1048576: true; the input reads as it did. -/
def sourceForgetsUptoRow : OpenClaim := { program := "ytlodieoopchhgaa", sum := "ff81d823f9976ea5c87647659f8f8d6faf7bc594c4c999f9de3b86dd44118026", func := "culvert/culvertlaw15.SourceForgets", spec := "sourceForgets", inPlace := ["internal/bytealg.Compare"], unfollowed := true, recurses := true, plainKeys := false, apart := false, narrowed := true }
def SourceForgetsUptoSaid : Prop := sourceForgetsUptoRow.holds Try.pinned (OpenSpec.upto sourceForgetsSpec)

/-- 'culvertlaw15.SourcePlays', WHERE WHAT IT READS IS OF BULK AT MOST 1048576: true; the input reads as it did. -/
def sourcePlaysUptoRow : OpenClaim := { program := "ytlodieoopchhgaa", sum := "ff81d823f9976ea5c87647659f8f8d6faf7bc594c4c999f9de3b86dd44118026", func := "culvert/culvertlaw15.SourcePlays", spec := "sourcePlays", inPlace := ["internal/bytealg.Compare"], unfollowed := true, recurses := true, plainKeys := false, apart := false, narrowed := true }
def SourcePlaysUptoSaid : Prop := sourcePlaysUptoRow.holds Try.pinned (OpenSpec.upto sourcePlaysSpec)

/-- 'culvertlaw15.SourceNil', WHERE WHAT IT READS IS OF BULK AT MOST 1048576: true; the input reads as it did. -/
def sourceNilUptoRow : OpenClaim := { program := "ytlodieoopchhgaa", sum := "ff81d823f9976ea5c87647659f8f8d6faf7bc594c4c999f9de3b86dd44118026", func := "culvert/culvertlaw15.SourceNil", spec := "sourceNil", inPlace := ["internal/bytealg.Compare"], unfollowed := true, recurses := true, plainKeys := false, apart := false, narrowed := true }
def SourceNilUptoSaid : Prop := sourceNilUptoRow.holds Try.pinned (OpenSpec.upto sourceNilSpec)

end Rows
end Go.Proofs.Ytlodieoopchhgaa
