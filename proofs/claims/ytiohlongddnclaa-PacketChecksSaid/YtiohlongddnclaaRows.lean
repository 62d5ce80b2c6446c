/-
  No cell of these rows narrows 'for every input' (looked for: loops, veiled, ifaces, maps, wideKeys, modest, calm, conditions, laid).
  DERIVED. THE GIVEN ROWS OF THIS SEAT. 4 by the template 'for every input the law returns true; each argument reads behind the call as it read before'; 0 by the template 'total and deterministic' (their statements: YtiohlongddnclaaTotals.lean).
  GIVEN WITH THE SEED: the statements are not yours to turn. If you find one false, say at which input.
  Laid BY PROGRAM, IN A SANDBOX (cutbox-rows.mjs): the forced cells as the released guide's own fill.sh prints them over the translation a37567427ced8b17… (all of the seat's roots in one cut). By AI agents, Wed Nov 11 2026. No macro, syntax, notation, axiom, sorry.
-/
import Derived.Test.YtiohlongddnclaaChecked
import GoSem.Claim
import GoSem.ClaimJoined
import GoSem.ClaimMapViews
import Derived.JoinedTies
import Derived.KernelRfl
namespace Go.Proofs.Ytiohlongddnclaa
/- THE CELL 'sum', in the pinned program and in every row, IS THE sha256 OF THE DUMP (.gsa) THAT YtiohlongddnclaaProg.lean LOADS. Nothing in Lean hashes anything: it is a label: what it is worth is what the hold of that sum in a sandbox is worth. -/
noncomputable def Try.pinned : Pinned := { name := "ytiohlongddnclaa", sum := "a37567427ced8b172792e82143d37e93a1287c6b0f2c65be90b3d6db1c5c4ce8", checked := Try.checked }
namespace Rows
def none {H : Type} : Left H := { results := [], args := [] }

/-- 'culvertlaw06.PacketEnds': WHATEVER THE INPUT: true; the input reads as it did. -/
def packetEndsSpec : ChangeSpec := { name := "packetEnds", fn := fun _ => fun
  | [d1, d2, d3] => { results := [.lit (.bool true)], args := [d1, d2, d3] }
  | _ => none }
def packetEndsRow : OpenClaim := { program := "ytiohlongddnclaa", sum := "a37567427ced8b172792e82143d37e93a1287c6b0f2c65be90b3d6db1c5c4ce8", func := "culvert/culvertlaw06.PacketEnds", spec := "packetEnds", apart := false }
def PacketEndsSaid : Prop := packetEndsRow.holds Try.pinned (OpenSpec.ofChange packetEndsSpec)

/-- ITS FALSE NEIGHBOUR: 'it returns false'. Refute it at one input. -/
def packetEndsWrong : ChangeSpec := { name := "packetEnds", fn := fun _ => fun
  | [d1, d2, d3] => { results := [.lit (.bool false)], args := [d1, d2, d3] }
  | _ => none }
def PacketEndsWrongFalsely : Prop := packetEndsRow.holds Try.pinned (OpenSpec.ofChange packetEndsWrong)

/-- 'culvertlaw06.PacketPads': WHATEVER THE INPUT: true; the input reads as it did. -/
def packetPadsSpec : ChangeSpec := { name := "packetPads", fn := fun _ => fun
  | [d1, d2, d3, d4, d5] => { results := [.lit (.bool true)], args := [d1, d2, d3, d4, d5] }
  | _ => none }
def packetPadsRow : OpenClaim := { program := "ytiohlongddnclaa", sum := "a37567427ced8b172792e82143d37e93a1287c6b0f2c65be90b3d6db1c5c4ce8", func := "culvert/culvertlaw06.PacketPads", spec := "packetPads", apart := false }
def PacketPadsSaid : Prop := packetPadsRow.holds Try.pinned (OpenSpec.ofChange packetPadsSpec)

/-- ITS FALSE NEIGHBOUR: 'it returns false'. Refute it at one input. -/
def packetPadsWrong : ChangeSpec := { name := "packetPads", fn := fun _ => fun
  | [d1, d2, d3, d4, d5] => { results := [.lit (.bool false)], args := [d1, d2, d3, d4, d5] }
  | _ => none }
def PacketPadsWrongFalsely : Prop := packetPadsRow.holds Try.pinned (OpenSpec.ofChange packetPadsWrong)

/-- 'culvertlaw06.PacketGoes': WHATEVER THE INPUT: true; the input reads as it did. -/
def packetGoesSpec : ChangeSpec := { name := "packetGoes", fn := fun _ => fun
  | [d1, d2, d3] => { results := [.lit (.bool true)], args := [d1, d2, d3] }
  | _ => none }
def packetGoesRow : OpenClaim := { program := "ytiohlongddnclaa", sum := "a37567427ced8b172792e82143d37e93a1287c6b0f2c65be90b3d6db1c5c4ce8", func := "culvert/culvertlaw06.PacketGoes", spec := "packetGoes", apart := false }
def PacketGoesSaid : Prop := packetGoesRow.holds Try.pinned (OpenSpec.ofChange packetGoesSpec)

/-- ITS FALSE NEIGHBOUR: 'it returns false'. Refute it at one input. -/
def packetGoesWrong : ChangeSpec := { name := "packetGoes", fn := fun _ => fun
  | [d1, d2, d3] => { results := [.lit (.bool false)], args := [d1, d2, d3] }
  | _ => none }
def PacketGoesWrongFalsely : Prop := packetGoesRow.holds Try.pinned (OpenSpec.ofChange packetGoesWrong)

/-- 'culvertlaw06.PacketChecks': WHATEVER THE INPUT: true; the input reads as it did. -/
def packetChecksSpec : ChangeSpec := { name := "packetChecks", fn := fun _ => fun
  | [d1, d2] => { results := [.lit (.bool true)], args := [d1, d2] }
  | _ => none }
def packetChecksRow : OpenClaim := { program := "ytiohlongddnclaa", sum := "a37567427ced8b172792e82143d37e93a1287c6b0f2c65be90b3d6db1c5c4ce8", func := "culvert/culvertlaw06.PacketChecks", spec := "packetChecks", apart := false }
def PacketChecksSaid : Prop := packetChecksRow.holds Try.pinned (OpenSpec.ofChange packetChecksSpec)

/-- ITS FALSE NEIGHBOUR: 'it returns false'. Refute it at one input. -/
def packetChecksWrong : ChangeSpec := { name := "packetChecks", fn := fun _ => fun
  | [d1, d2] => { results := [.lit (.bool false)], args := [d1, d2] }
  | _ => none }
def PacketChecksWrongFalsely : Prop := packetChecksRow.holds Try.pinned (OpenSpec.ofChange packetChecksWrong)

/- THE SECOND FORM. 'bulk': how many values and letters a reading holds, each counted each time it is reached (what is shared counts as often as it is met; a slice's spare places count too). A statement '..UptoSaid' is the law's where the arguments, and the package variables that the reading takes, are together of bulk at most 1048576: NARROWER than '..Said'. Prove '..Said' where nothing that the law and all that it calls make is longer than what came in: it says more and counts as full. Else prove '..UptoSaid'. A law counts once. -/
mutual
def uptoBulk {H : Type} : DataW H → Nat
  | .lit (.string bytes) => bytes.length + 1
  | .lit _ => 1
  | .nil => 1
  | .ptr d => uptoBulk d + 1
  | .slice elems spare => uptoBulkAll elems + uptoBulkAll spare + 1
  | .agg parts => uptoBulkAll parts + 1
  | .iface _ d => uptoBulk d + 1
  | .map entries => uptoBulkEntries entries + 1
  | .held _ => 1
def uptoBulkAll {H : Type} : List (DataW H) → Nat
  | [] => 0
  | d :: r => uptoBulk d + uptoBulkAll r
def uptoBulkEntries {H : Type} : List (Lit × DataW H) → Nat
  | [] => 0
  | x :: r => uptoBulkEntry x + uptoBulkEntries r
def uptoBulkEntry {H : Type} : Lit × DataW H → Nat
  | (.string bytes, d) => bytes.length + uptoBulk d + 1
  | (_, d) => uptoBulk d + 1
 end
def uptoSmall : (H : Type) → List (DataW H) → Bool := fun _ ds => decide (uptoBulkAll ds ≤ 1048576)
def OpenSpec.upto (s : _root_.Go.ChangeSpec) : _root_.Go.OpenSpec := { _root_.Go.OpenSpec.ofChange s with cond := some uptoSmall }

/-- 'culvertlaw06.PacketEnds', WHERE WHAT IT READS IS OF BULK AT MOST 1048576: true; the input reads as it did. -/
def packetEndsUptoRow : OpenClaim := { program := "ytiohlongddnclaa", sum := "a37567427ced8b172792e82143d37e93a1287c6b0f2c65be90b3d6db1c5c4ce8", func := "culvert/culvertlaw06.PacketEnds", spec := "packetEnds", apart := false, narrowed := true }
def PacketEndsUptoSaid : Prop := packetEndsUptoRow.holds Try.pinned (OpenSpec.upto packetEndsSpec)

/-- 'culvertlaw06.PacketPads', WHERE WHAT IT READS IS OF BULK AT MOST 1048576: true; the input reads as it did. -/
def packetPadsUptoRow : OpenClaim := { program := "ytiohlongddnclaa", sum := "a37567427ced8b172792e82143d37e93a1287c6b0f2c65be90b3d6db1c5c4ce8", func := "culvert/culvertlaw06.PacketPads", spec := "packetPads", apart := false, narrowed := true }
def PacketPadsUptoSaid : Prop := packetPadsUptoRow.holds Try.pinned (OpenSpec.upto packetPadsSpec)

/-- 'culvertlaw06.PacketGoes', WHERE WHAT IT READS IS OF BULK AT MOST 1048576: true; the input reads as it did. -/
def packetGoesUptoRow : OpenClaim := { program := "ytiohlongddnclaa", sum := "a37567427ced8b172792e82143d37e93a1287c6b0f2c65be90b3d6db1c5c4ce8", func := "culvert/culvertlaw06.PacketGoes", spec := "packetGoes", apart := false, narrowed := true }
def PacketGoesUptoSaid : Prop := packetGoesUptoRow.holds Try.pinned (OpenSpec.upto packetGoesSpec)

/-- 'culvertlaw06.PacketChecks', WHERE WHAT IT READS IS OF BULK AT MOST 1048576: true; the input reads as it did. -/
def packetChecksUptoRow : OpenClaim := { program := "ytiohlongddnclaa", sum := "a37567427ced8b172792e82143d37e93a1287c6b0f2c65be90b3d6db1c5c4ce8", func := "culvert/culvertlaw06.PacketChecks", spec := "packetChecks", apart := false, narrowed := true }
def PacketChecksUptoSaid : Prop := packetChecksUptoRow.holds Try.pinned (OpenSpec.upto packetChecksSpec)

end Rows
end Go.Proofs.Ytiohlongddnclaa
