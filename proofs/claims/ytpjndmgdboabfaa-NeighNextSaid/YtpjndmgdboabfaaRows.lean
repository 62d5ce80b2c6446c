/-
  No cell of these rows narrows 'for every input' (looked for: loops, veiled, ifaces, maps, wideKeys, modest, calm, conditions, laid).
  DERIVED. THE GIVEN ROWS OF THIS SEAT. 5 by the template 'for every input the law returns true; each argument reads behind the call as it read before'; 0 by the template 'total and deterministic' (their statements: YtpjndmgdboabfaaTotals.lean).
  GIVEN WITH THE SEED: the statements are not yours to turn. If you find one false, say at which input.
  Laid BY PROGRAM, IN A SANDBOX (cutbox-rows.mjs): the forced cells as the released guide's own fill.sh prints them over the translation 9e621ee3ebcdbd3d… (all of the seat's roots in one cut). By AI agents, Wed Nov 11 2026. No macro, syntax, notation, axiom, sorry.
-/
import Derived.Test.YtpjndmgdboabfaaChecked
import GoSem.Claim
import GoSem.ClaimJoined
import GoSem.ClaimMapViews
import Derived.JoinedTies
import Derived.KernelRfl
namespace Go.Proofs.Ytpjndmgdboabfaa
/- THE CELL 'sum', in the pinned program and in every row, IS THE sha256 OF THE DUMP (.gsa) THAT YtpjndmgdboabfaaProg.lean LOADS. Nothing in Lean hashes anything: it is a label: what it is worth is what the hold of that sum in a sandbox is worth. -/
noncomputable def Try.pinned : Pinned := { name := "ytpjndmgdboabfaa", sum := "9e621ee3ebcdbd3d3391e62fee128dde824d9d883a40639c4eee99f1636215c4", checked := Try.checked }
namespace Rows
def none {H : Type} : Left H := { results := [], args := [] }

/-- 'culvertlaw13.NeighSilent': WHATEVER THE INPUT: true; the input reads as it did. -/
def neighSilentSpec : ChangeSpec := { name := "neighSilent", fn := fun _ => fun
  | [d1, d2, d3] => { results := [.lit (.bool true)], args := [d1, d2, d3] }
  | _ => none }
def neighSilentRow : OpenClaim := { program := "ytpjndmgdboabfaa", sum := "9e621ee3ebcdbd3d3391e62fee128dde824d9d883a40639c4eee99f1636215c4", func := "culvert/culvertlaw13.NeighSilent", spec := "neighSilent", inPlace := ["internal/bytealg.Compare"], unfollowed := true, recurses := true, plainKeys := false, apart := false }
def NeighSilentSaid : Prop := neighSilentRow.holds Try.pinned (OpenSpec.ofChange neighSilentSpec)

/-- ITS FALSE NEIGHBOUR: 'it returns false'. Refute it at one input. -/
def neighSilentWrong : ChangeSpec := { name := "neighSilent", fn := fun _ => fun
  | [d1, d2, d3] => { results := [.lit (.bool false)], args := [d1, d2, d3] }
  | _ => none }
def NeighSilentWrongFalsely : Prop := neighSilentRow.holds Try.pinned (OpenSpec.ofChange neighSilentWrong)

/-- 'culvertlaw13.NeighUnheard': WHATEVER THE INPUT: true; the input reads as it did. -/
def neighUnheardSpec : ChangeSpec := { name := "neighUnheard", fn := fun _ => fun
  | [d1, d2, d3, d4] => { results := [.lit (.bool true)], args := [d1, d2, d3, d4] }
  | _ => none }
def neighUnheardRow : OpenClaim := { program := "ytpjndmgdboabfaa", sum := "9e621ee3ebcdbd3d3391e62fee128dde824d9d883a40639c4eee99f1636215c4", func := "culvert/culvertlaw13.NeighUnheard", spec := "neighUnheard", inPlace := ["internal/bytealg.Compare"], unfollowed := true, recurses := true, plainKeys := false, apart := false }
def NeighUnheardSaid : Prop := neighUnheardRow.holds Try.pinned (OpenSpec.ofChange neighUnheardSpec)

/-- ITS FALSE NEIGHBOUR: 'it returns false'. Refute it at one input. -/
def neighUnheardWrong : ChangeSpec := { name := "neighUnheard", fn := fun _ => fun
  | [d1, d2, d3, d4] => { results := [.lit (.bool false)], args := [d1, d2, d3, d4] }
  | _ => none }
def NeighUnheardWrongFalsely : Prop := neighUnheardRow.holds Try.pinned (OpenSpec.ofChange neighUnheardWrong)

/-- 'culvertlaw13.NeighNext': WHATEVER THE INPUT: true; the input reads as it did. -/
def neighNextSpec : ChangeSpec := { name := "neighNext", fn := fun _ => fun
  | [d1, d2] => { results := [.lit (.bool true)], args := [d1, d2] }
  | _ => none }
def neighNextRow : OpenClaim := { program := "ytpjndmgdboabfaa", sum := "9e621ee3ebcdbd3d3391e62fee128dde824d9d883a40639c4eee99f1636215c4", func := "culvert/culvertlaw13.NeighNext", spec := "neighNext", inPlace := ["internal/bytealg.Compare"], unfollowed := true, recurses := true, plainKeys := false, apart := false }
def NeighNextSaid : Prop := neighNextRow.holds Try.pinned (OpenSpec.ofChange neighNextSpec)

/-- ITS FALSE NEIGHBOUR: 'it returns false'. Refute it at one input. -/
def neighNextWrong : ChangeSpec := { name := "neighNext", fn := fun _ => fun
  | [d1, d2] => { results := [.lit (.bool false)], args := [d1, d2] }
  | _ => none }
def NeighNextWrongFalsely : Prop := neighNextRow.holds Try.pinned (OpenSpec.ofChange neighNextWrong)

/-- 'culvertlaw13.NeighDrops': WHATEVER THE INPUT: true; the input reads as it did. -/
def neighDropsSpec : ChangeSpec := { name := "neighDrops", fn := fun _ => fun
  | [d1, d2, d3] => { results := [.lit (.bool true)], args := [d1, d2, d3] }
  | _ => none }
def neighDropsRow : OpenClaim := { program := "ytpjndmgdboabfaa", sum := "9e621ee3ebcdbd3d3391e62fee128dde824d9d883a40639c4eee99f1636215c4", func := "culvert/culvertlaw13.NeighDrops", spec := "neighDrops", inPlace := ["internal/bytealg.Compare"], unfollowed := true, recurses := true, plainKeys := false, apart := false }
def NeighDropsSaid : Prop := neighDropsRow.holds Try.pinned (OpenSpec.ofChange neighDropsSpec)

/-- ITS FALSE NEIGHBOUR: 'it returns false'. Refute it at one input. -/
def neighDropsWrong : ChangeSpec := { name := "neighDrops", fn := fun _ => fun
  | [d1, d2, d3] => { results := [.lit (.bool false)], args := [d1, d2, d3] }
  | _ => none }
def NeighDropsWrongFalsely : Prop := neighDropsRow.holds Try.pinned (OpenSpec.ofChange neighDropsWrong)

/-- 'culvertlaw13.NeighNil': WHATEVER THE INPUT: true; the input reads as it did. -/
def neighNilSpec : ChangeSpec := { name := "neighNil", fn := fun _ => fun
  | [d1, d2, d3] => { results := [.lit (.bool true)], args := [d1, d2, d3] }
  | _ => none }
def neighNilRow : OpenClaim := { program := "ytpjndmgdboabfaa", sum := "9e621ee3ebcdbd3d3391e62fee128dde824d9d883a40639c4eee99f1636215c4", func := "culvert/culvertlaw13.NeighNil", spec := "neighNil", inPlace := ["internal/bytealg.Compare"], unfollowed := true, recurses := true, plainKeys := false, apart := false }
def NeighNilSaid : Prop := neighNilRow.holds Try.pinned (OpenSpec.ofChange neighNilSpec)

/-- ITS FALSE NEIGHBOUR: 'it returns false'. Refute it at one input. -/
def neighNilWrong : ChangeSpec := { name := "neighNil", fn := fun _ => fun
  | [d1, d2, d3] => { results := [.lit (.bool false)], args := [d1, d2, d3] }
  | _ => none }
def NeighNilWrongFalsely : Prop := neighNilRow.holds Try.pinned (OpenSpec.ofChange neighNilWrong)

/- THE SECOND FORM. 'bulk': how many values and letters a reading holds, each counted each time it is reached (what is shared counts as often as it is met; a slice's spare places count too). A statement '..UptoSaid' is the law's where the arguments, and the package variables that the reading takes, are together of bulk at most 1048576: NARROWER than '..Said'. Prove '..Said' where nothing that the law and all that it calls make is longer than what came in: it says more and counts as full. Else prove '..UptoSaid'. A law counts once. -/
mutual
def uptoBulk {H : Type} : DataW H → Nat
  | .lit (.string bytes) => bytes.length + 1
  | .lit _ => 1
  | .nil => 1
  | .ptr d => uptoBulk d + 1
  | .slice elems spare => uptoBulkAll elems + uptoBulkAll spare + 1
  | .agg parts => uptoBulkAll parts + 1
  | .iface _ d => uptoBulk d + 1
  | .map entries => uptoBulkEntries entries + 1
  | .held _ => 1
def uptoBulkAll {H : Type} : List (DataW H) → Nat
  | [] => 0
  | d :: r => uptoBulk d + uptoBulkAll r
def uptoBulkEntries {H : Type} : List (Lit × DataW H) → Nat
  | [] => 0
  | x :: r => uptoBulkEntry x + uptoBulkEntries r
def uptoBulkEntry {H : Type} : Lit × DataW H → Nat
  | (.string bytes, d) => bytes.length + uptoBulk d + 1
  | (_, d) => uptoBulk d + 1
 end
def uptoSmall : (H : Type) → List (DataW H) → Bool := fun _ ds => decide (uptoBulkAll ds ≤ 1048576)
def OpenSpec.upto (s : _root_.Go.ChangeSpec) : _root_.Go.OpenSpec := { _root_.Go.OpenSpec.ofChange s with cond := some uptoSmall }

/-- 'culvertlaw13.NeighSilent', WHERE WHAT IT READS IS OF BULK AT MOST 1048576: true; the input reads as it did. -/
def neighSilentUptoRow : OpenClaim := { program := "ytpjndmgdboabfaa", sum := "9e621ee3ebcdbd3d3391e62fee128dde824d9d883a40639c4eee99f1636215c4", func := "culvert/culvertlaw13.NeighSilent", spec := "neighSilent", inPlace := ["internal/bytealg.Compare"], unfollowed := true, recurses := true, plainKeys := false, apart := false, narrowed := true }
def NeighSilentUptoSaid : Prop := neighSilentUptoRow.holds Try.pinned (OpenSpec.upto neighSilentSpec)

/-- 'culvertlaw13.NeighUnheard', WHERE WHAT IT READS IS OF BULK AT MOST 1048576: true; the input reads as it did. -/
def neighUnheardUptoRow : OpenClaim := { program := "ytpjndmgdboabfaa", sum := "9e621ee3ebcdbd3d3391e62fee128dde824d9d883a40639c4eee99f1636215c4", func := "culvert/culvertlaw13.NeighUnheard", spec := "neighUnheard", inPlace := ["internal/bytealg.Compare"], unfollowed := true, recurses := true, plainKeys := false, apart := false, narrowed := true }
def NeighUnheardUptoSaid : Prop := neighUnheardUptoRow.holds Try.pinned (OpenSpec.upto neighUnheardSpec)

/-- 'culvertlaw13.NeighNext', WHERE WHAT IT READS IS OF BULK AT MOST 1048576: true; the input reads as it did. -/
def neighNextUptoRow : OpenClaim := { program := "ytpjndmgdboabfaa", sum := "9e621ee3ebcdbd3d3391e62fee128dde824d9d883a40639c4eee99f1636215c4", func := "culvert/culvertlaw13.NeighNext", spec := "neighNext", inPlace := ["internal/bytealg.Compare"], unfollowed := true, recurses := true, plainKeys := false, apart := false, narrowed := true }
def NeighNextUptoSaid : Prop := neighNextUptoRow.holds Try.pinned (OpenSpec.upto neighNextSpec)

/-- 'culvertlaw13.NeighDrops', WHERE WHAT IT READS IS OF BULK AT MOST 1048576: true; the input reads as it did. -/
def neighDropsUptoRow : OpenClaim := { program := "ytpjndmgdboabfaa", sum := "9e621ee3ebcdbd3d3391e62fee128dde824d9d883a40639c4eee99f1636215c4", func := "culvert/culvertlaw13.NeighDrops", spec := "neighDrops", inPlace := ["internal/bytealg.Compare"], unfollowed := true, recurses := true, plainKeys := false, apart := false, narrowed := true }
def NeighDropsUptoSaid : Prop := neighDropsUptoRow.holds Try.pinned (OpenSpec.upto neighDropsSpec)

/-- 'culvertlaw13.NeighNil', WHERE WHAT IT READS IS OF BULK AT MOST 1048576: true; the input reads as it did. -/
def neighNilUptoRow : OpenClaim := { program := "ytpjndmgdboabfaa", sum := "9e621ee3ebcdbd3d3391e62fee128dde824d9d883a40639c4eee99f1636215c4", func := "culvert/culvertlaw13.NeighNil", spec := "neighNil", inPlace := ["internal/bytealg.Compare"], unfollowed := true, recurses := true, plainKeys := false, apart := false, narrowed := true }
def NeighNilUptoSaid : Prop := neighNilUptoRow.holds Try.pinned (OpenSpec.upto neighNilSpec)

end Rows
end Go.Proofs.Ytpjndmgdboabfaa
