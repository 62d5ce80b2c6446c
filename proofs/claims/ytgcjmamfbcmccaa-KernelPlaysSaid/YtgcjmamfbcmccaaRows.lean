/-
  No cell of these rows narrows 'for every input' (looked for: loops, veiled, ifaces, maps, wideKeys, modest, calm, conditions, laid).
  DERIVED. THE GIVEN ROWS OF THIS SEAT. 5 by the template 'for every input the law returns true; each argument reads behind the call as it read before'; 0 by the template 'total and deterministic' (their statements: YtgcjmamfbcmccaaTotals.lean).
  GIVEN WITH THE SEED: the statements are not yours to turn. If you find one false, say at which input.
  Laid BY PROGRAM, IN A SANDBOX (cutbox-rows.mjs): the forced cells as the released guide's own fill.sh prints them over the translation b8129ef7ffbf56c9… (all of the seat's roots in one cut). By AI agents, Wed Nov 11 2026. No macro, syntax, notation, axiom, sorry.
-/
import Derived.Test.YtgcjmamfbcmccaaChecked
import GoSem.Claim
import GoSem.ClaimJoined
import GoSem.ClaimMapViews
import Derived.JoinedTies
import Derived.KernelRfl
namespace Go.Proofs.Ytgcjmamfbcmccaa
/- THE CELL 'sum', in the pinned program and in every row, IS THE sha256 OF THE DUMP (.gsa) THAT YtgcjmamfbcmccaaProg.lean LOADS. Nothing in Lean hashes anything: it is a label: what it is worth is what the hold of that sum in a sandbox is worth. -/
noncomputable def Try.pinned : Pinned := { name := "ytgcjmamfbcmccaa", sum := "b8129ef7ffbf56c9ca88e310e60d430f828d60e6401e0a6ffd4274353ffd79f3", checked := Try.checked }
namespace Rows
def none {H : Type} : Left H := { results := [], args := [] }

/-- 'culvertlaw20.KernelFails': WHATEVER THE INPUT: true; the input reads as it did. -/
def kernelFailsSpec : ChangeSpec := { name := "kernelFails", fn := fun _ => fun
  | [d1, d2] => { results := [.lit (.bool true)], args := [d1, d2] }
  | _ => none }
def kernelFailsRow : OpenClaim := { program := "ytgcjmamfbcmccaa", sum := "b8129ef7ffbf56c9ca88e310e60d430f828d60e6401e0a6ffd4274353ffd79f3", func := "culvert/culvertlaw20.KernelFails", spec := "kernelFails", inPlace := ["internal/bytealg.Compare"], unfollowed := true, recurses := true, plainKeys := false, apart := false }
def KernelFailsSaid : Prop := kernelFailsRow.holds Try.pinned (OpenSpec.ofChange kernelFailsSpec)

/-- ITS FALSE NEIGHBOUR: 'it returns false'. Refute it at one input. -/
def kernelFailsWrong : ChangeSpec := { name := "kernelFails", fn := fun _ => fun
  | [d1, d2] => { results := [.lit (.bool false)], args := [d1, d2] }
  | _ => none }
def KernelFailsWrongFalsely : Prop := kernelFailsRow.holds Try.pinned (OpenSpec.ofChange kernelFailsWrong)

/-- 'culvertlaw20.KernelBack': WHATEVER THE INPUT: true; the input reads as it did. -/
def kernelBackSpec : ChangeSpec := { name := "kernelBack", fn := fun _ => fun
  | [d1, d2] => { results := [.lit (.bool true)], args := [d1, d2] }
  | _ => none }
def kernelBackRow : OpenClaim := { program := "ytgcjmamfbcmccaa", sum := "b8129ef7ffbf56c9ca88e310e60d430f828d60e6401e0a6ffd4274353ffd79f3", func := "culvert/culvertlaw20.KernelBack", spec := "kernelBack", inPlace := ["internal/bytealg.Compare"], unfollowed := true, recurses := true, plainKeys := false, apart := false }
def KernelBackSaid : Prop := kernelBackRow.holds Try.pinned (OpenSpec.ofChange kernelBackSpec)

/-- ITS FALSE NEIGHBOUR: 'it returns false'. Refute it at one input. -/
def kernelBackWrong : ChangeSpec := { name := "kernelBack", fn := fun _ => fun
  | [d1, d2] => { results := [.lit (.bool false)], args := [d1, d2] }
  | _ => none }
def KernelBackWrongFalsely : Prop := kernelBackRow.holds Try.pinned (OpenSpec.ofChange kernelBackWrong)

/-- 'culvertlaw20.KernelLongest': WHATEVER THE INPUT: true; the input reads as it did. -/
def kernelLongestSpec : ChangeSpec := { name := "kernelLongest", fn := fun _ => fun
  | [d1, d2, d3] => { results := [.lit (.bool true)], args := [d1, d2, d3] }
  | _ => none }
def kernelLongestRow : OpenClaim := { program := "ytgcjmamfbcmccaa", sum := "b8129ef7ffbf56c9ca88e310e60d430f828d60e6401e0a6ffd4274353ffd79f3", func := "culvert/culvertlaw20.KernelLongest", spec := "kernelLongest", inPlace := ["internal/bytealg.Compare"], unfollowed := true, recurses := true, plainKeys := false, apart := false }
def KernelLongestSaid : Prop := kernelLongestRow.holds Try.pinned (OpenSpec.ofChange kernelLongestSpec)

/-- ITS FALSE NEIGHBOUR: 'it returns false'. Refute it at one input. -/
def kernelLongestWrong : ChangeSpec := { name := "kernelLongest", fn := fun _ => fun
  | [d1, d2, d3] => { results := [.lit (.bool false)], args := [d1, d2, d3] }
  | _ => none }
def KernelLongestWrongFalsely : Prop := kernelLongestRow.holds Try.pinned (OpenSpec.ofChange kernelLongestWrong)

/-- 'culvertlaw20.KernelPlays': WHATEVER THE INPUT: true; the input reads as it did. -/
def kernelPlaysSpec : ChangeSpec := { name := "kernelPlays", fn := fun _ => fun
  | [d] => { results := [.lit (.bool true)], args := [d] }
  | _ => none }
def kernelPlaysRow : OpenClaim := { program := "ytgcjmamfbcmccaa", sum := "b8129ef7ffbf56c9ca88e310e60d430f828d60e6401e0a6ffd4274353ffd79f3", func := "culvert/culvertlaw20.KernelPlays", spec := "kernelPlays", inPlace := ["internal/bytealg.Compare", "maps.clone"], unfollowed := true, recurses := true, plainKeys := false, apart := false }
def KernelPlaysSaid : Prop := kernelPlaysRow.holds Try.pinned (OpenSpec.ofChange kernelPlaysSpec)

/-- ITS FALSE NEIGHBOUR: 'it returns false'. Refute it at one input. -/
def kernelPlaysWrong : ChangeSpec := { name := "kernelPlays", fn := fun _ => fun
  | [d] => { results := [.lit (.bool false)], args := [d] }
  | _ => none }
def KernelPlaysWrongFalsely : Prop := kernelPlaysRow.holds Try.pinned (OpenSpec.ofChange kernelPlaysWrong)

/-- 'culvertlaw20.KernelNil': WHATEVER THE INPUT: true; the input reads as it did. -/
def kernelNilSpec : ChangeSpec := { name := "kernelNil", fn := fun _ => fun
  | [d1, d2] => { results := [.lit (.bool true)], args := [d1, d2] }
  | _ => none }
def kernelNilRow : OpenClaim := { program := "ytgcjmamfbcmccaa", sum := "b8129ef7ffbf56c9ca88e310e60d430f828d60e6401e0a6ffd4274353ffd79f3", func := "culvert/culvertlaw20.KernelNil", spec := "kernelNil", inPlace := ["internal/bytealg.Compare", "maps.clone"], unfollowed := true, recurses := true, plainKeys := false, apart := false }
def KernelNilSaid : Prop := kernelNilRow.holds Try.pinned (OpenSpec.ofChange kernelNilSpec)

/-- ITS FALSE NEIGHBOUR: 'it returns false'. Refute it at one input. -/
def kernelNilWrong : ChangeSpec := { name := "kernelNil", fn := fun _ => fun
  | [d1, d2] => { results := [.lit (.bool false)], args := [d1, d2] }
  | _ => none }
def KernelNilWrongFalsely : Prop := kernelNilRow.holds Try.pinned (OpenSpec.ofChange kernelNilWrong)

/- THE SECOND FORM. 'bulk': how many values and letters a reading holds, each counted each time it is reached (what is shared counts as often as it is met; a slice's spare places count too). A statement '..UptoSaid' is the law's where the arguments, and the package variables that the reading takes, are together of bulk at most 1048576: NARROWER than '..Said'. Prove '..Said' where nothing that the law and all that it calls make is longer than what came in: it says more and counts as full. Else prove '..UptoSaid'. A law counts once. -/
mutual
def uptoBulk {H : Type} : DataW H → Nat
  | .lit (.string bytes) => bytes.length + 1
  | .lit _ => 1
  | .nil => 1
  | .ptr d => uptoBulk d + 1
  | .slice elems spare => uptoBulkAll elems + uptoBulkAll spare + 1
  | .agg parts => uptoBulkAll parts + 1
  | .iface _ d => uptoBulk d + 1
  | .map entries => uptoBulkEntries entries + 1
  | .held _ => 1
def uptoBulkAll {H : Type} : List (DataW H) → Nat
  | [] => 0
  | d :: r => uptoBulk d + uptoBulkAll r
def uptoBulkEntries {H : Type} : List (Lit × DataW H) → Nat
  | [] => 0
  | x :: r => uptoBulkEntry x + uptoBulkEntries r
def uptoBulkEntry {H : Type} : Lit × DataW H → Nat
  | (.string bytes, d) => bytes.length + uptoBulk d + 1
  | (_, d) => uptoBulk d + 1
 end
def uptoSmall : (H : Type) → List (DataW H) → Bool := fun _ ds => decide (uptoBulkAll ds ≤ 1048576)
def OpenSpec.upto (s : _root_.Go.ChangeSpec) : _root_.Go.OpenSpec := { _root_.Go.OpenSpec.ofChange s with cond := some uptoSmall }

/-- 'culvertlaw20.KernelFails', WHERE WHAT IT READS IS OF BULK AT MOST 1048576: true; the input reads as it did. -/
def kernelFailsUptoRow : OpenClaim := { program := "ytgcjmamfbcmccaa", sum := "b8129ef7ffbf56c9ca88e310e60d430f828d60e6401e0a6ffd4274353ffd79f3", func := "culvert/culvertlaw20.KernelFails", spec := "kernelFails", inPlace := ["internal/bytealg.Compare"], unfollowed := true, recurses := true, plainKeys := false, apart := false, narrowed := true }
def KernelFailsUptoSaid : Prop := kernelFailsUptoRow.holds Try.pinned (OpenSpec.upto kernelFailsSpec)

/-- 'culvertlaw20.KernelBack', WHERE WHAT IT READS IS OF BULK AT MOST 1048576: true; the input reads as it did. -/
def kernelBackUptoRow : OpenClaim := { program := "ytgcjmamfbcmccaa", sum := "b8129ef7ffbf56c9ca88e310e60d430f828d60e6401e0a6ffd4274353ffd79f3", func := "culvert/culvertlaw20.KernelBack", spec := "kernelBack", inPlace := ["internal/bytealg.Compare"], unfollowed := true, recurses := true, plainKeys := false, apart := false, narrowed := true }
def KernelBackUptoSaid : Prop := kernelBackUptoRow.holds Try.pinned (OpenSpec.upto kernelBackSpec)

/-- 'culvertlaw20.KernelLongest', WHERE WHAT IT READS IS OF BULK AT MOST 1048576: true; the input reads as it did. -/
def kernelLongestUptoRow : OpenClaim := { program := "ytgcjmamfbcmccaa", sum := "b8129ef7ffbf56c9ca88e310e60d430f828d60e6401e0a6ffd4274353ffd79f3", func := "culvert/culvertlaw20.KernelLongest", spec := "kernelLongest", inPlace := ["internal/bytealg.Compare"], unfollowed := true, recurses := true, plainKeys := false, apart := false, narrowed := true }
def KernelLongestUptoSaid : Prop := kernelLongestUptoRow.holds Try.pinned (OpenSpec.upto kernelLongestSpec)

/-- 'culvertlaw20.KernelPlays', WHERE WHAT IT READS IS OF BULK AT MOST 1048576: true; the input reads as it did. -/
def kernelPlaysUptoRow : OpenClaim := { program := "ytgcjmamfbcmccaa", sum := "b8129ef7ffbf56c9ca88e310e60d430f828d60e6401e0a6ffd4274353ffd79f3", func := "culvert/culvertlaw20.KernelPlays", spec := "kernelPlays", inPlace := ["internal/bytealg.Compare", "maps.clone"], unfollowed := true, recurses := true, plainKeys := false, apart := false, narrowed := true }
def KernelPlaysUptoSaid : Prop := kernelPlaysUptoRow.holds Try.pinned (OpenSpec.upto kernelPlaysSpec)

/-- 'culvertlaw20.KernelNil', WHERE WHAT IT READS IS OF BULK AT MOST 1048576: true; the input reads as it did. -/
def kernelNilUptoRow : OpenClaim := { program := "ytgcjmamfbcmccaa", sum := "b8129ef7ffbf56c9ca88e310e60d430f828d60e6401e0a6ffd4274353ffd79f3", func := "culvert/culvertlaw20.KernelNil", spec := "kernelNil", inPlace := ["internal/bytealg.Compare", "maps.clone"], unfollowed := true, recurses := true, plainKeys := false, apart := false, narrowed := true }
def KernelNilUptoSaid : Prop := kernelNilUptoRow.holds Try.pinned (OpenSpec.upto kernelNilSpec)

end Rows
end Go.Proofs.Ytgcjmamfbcmccaa
