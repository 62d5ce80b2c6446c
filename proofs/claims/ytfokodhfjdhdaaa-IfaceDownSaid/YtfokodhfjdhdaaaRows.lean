/-
  No cell of these rows narrows 'for every input' (looked for: loops, veiled, ifaces, maps, wideKeys, modest, calm, conditions, laid).
  DERIVED. THE GIVEN ROWS OF THIS SEAT. 3 by the template 'for every input the law returns true; each argument reads behind the call as it read before'; 0 by the template 'total and deterministic' (their statements: YtfokodhfjdhdaaaTotals.lean).
  GIVEN WITH THE SEED: the statements are not yours to turn. If you find one false, say at which input.
  Laid BY PROGRAM, IN A SANDBOX (cutbox-rows.mjs): the forced cells as the released guide's own fill.sh prints them over the translation 1811128c2b0bf24d… (all of the seat's roots in one cut). By AI agents, Wed Nov 11 2026. No macro, syntax, notation, axiom, sorry.
-/
import Derived.Test.YtfokodhfjdhdaaaChecked
import GoSem.Claim
import GoSem.ClaimJoined
import GoSem.ClaimMapViews
import Derived.JoinedTies
import Derived.KernelRfl
namespace Go.Proofs.Ytfokodhfjdhdaaa
/- THE CELL 'sum', in the pinned program and in every row, IS THE sha256 OF THE DUMP (.gsa) THAT YtfokodhfjdhdaaaProg.lean LOADS. Nothing in Lean hashes anything: it is a label: what it is worth is what the hold of that sum in a sandbox is worth. -/
noncomputable def Try.pinned : Pinned := { name := "ytfokodhfjdhdaaa", sum := "1811128c2b0bf24dc96bd0afd33aaf2145aa132e264b2e4170dff5ce1a6f1466", checked := Try.checked }
namespace Rows
def none {H : Type} : Left H := { results := [], args := [] }

/-- 'culvertlaw14.IfaceDown': WHATEVER THE INPUT: true; the input reads as it did. -/
def ifaceDownSpec : ChangeSpec := { name := "ifaceDown", fn := fun _ => fun
  | [d1, d2, d3, d4] => { results := [.lit (.bool true)], args := [d1, d2, d3, d4] }
  | _ => none }
def ifaceDownRow : OpenClaim := { program := "ytfokodhfjdhdaaa", sum := "1811128c2b0bf24dc96bd0afd33aaf2145aa132e264b2e4170dff5ce1a6f1466", func := "culvert/culvertlaw14.IfaceDown", spec := "ifaceDown", inPlace := ["internal/bytealg.Compare"], unfollowed := true, recurses := true, plainKeys := false, apart := false }
def IfaceDownSaid : Prop := ifaceDownRow.holds Try.pinned (OpenSpec.ofChange ifaceDownSpec)

/-- ITS FALSE NEIGHBOUR: 'it returns false'. Refute it at one input. -/
def ifaceDownWrong : ChangeSpec := { name := "ifaceDown", fn := fun _ => fun
  | [d1, d2, d3, d4] => { results := [.lit (.bool false)], args := [d1, d2, d3, d4] }
  | _ => none }
def IfaceDownWrongFalsely : Prop := ifaceDownRow.holds Try.pinned (OpenSpec.ofChange ifaceDownWrong)

/-- 'culvertlaw14.IfaceHellos': WHATEVER THE INPUT: true; the input reads as it did. -/
def ifaceHellosSpec : ChangeSpec := { name := "ifaceHellos", fn := fun _ => fun
  | [d1, d2] => { results := [.lit (.bool true)], args := [d1, d2] }
  | _ => none }
def ifaceHellosRow : OpenClaim := { program := "ytfokodhfjdhdaaa", sum := "1811128c2b0bf24dc96bd0afd33aaf2145aa132e264b2e4170dff5ce1a6f1466", func := "culvert/culvertlaw14.IfaceHellos", spec := "ifaceHellos", inPlace := ["internal/bytealg.Compare"], unfollowed := true, recurses := true, plainKeys := false, apart := false }
def IfaceHellosSaid : Prop := ifaceHellosRow.holds Try.pinned (OpenSpec.ofChange ifaceHellosSpec)

/-- ITS FALSE NEIGHBOUR: 'it returns false'. Refute it at one input. -/
def ifaceHellosWrong : ChangeSpec := { name := "ifaceHellos", fn := fun _ => fun
  | [d1, d2] => { results := [.lit (.bool false)], args := [d1, d2] }
  | _ => none }
def IfaceHellosWrongFalsely : Prop := ifaceHellosRow.holds Try.pinned (OpenSpec.ofChange ifaceHellosWrong)

/-- 'culvertlaw14.IfaceNil': WHATEVER THE INPUT: true; the input reads as it did. -/
def ifaceNilSpec : ChangeSpec := { name := "ifaceNil", fn := fun _ => fun
  | [d1, d2] => { results := [.lit (.bool true)], args := [d1, d2] }
  | _ => none }
def ifaceNilRow : OpenClaim := { program := "ytfokodhfjdhdaaa", sum := "1811128c2b0bf24dc96bd0afd33aaf2145aa132e264b2e4170dff5ce1a6f1466", func := "culvert/culvertlaw14.IfaceNil", spec := "ifaceNil", inPlace := ["internal/bytealg.Compare"], unfollowed := true, recurses := true, plainKeys := false, apart := false }
def IfaceNilSaid : Prop := ifaceNilRow.holds Try.pinned (OpenSpec.ofChange ifaceNilSpec)

/-- ITS FALSE NEIGHBOUR: 'it returns false'. Refute it at one input. -/
def ifaceNilWrong : ChangeSpec := { name := "ifaceNil", fn := fun _ => fun
  | [d1, d2] => { results := [.lit (.bool false)], args := [d1, d2] }
  | _ => none }
def IfaceNilWrongFalsely : Prop := ifaceNilRow.holds Try.pinned (OpenSpec.ofChange ifaceNilWrong)

/- THE SECOND FORM. 'bulk': how many values and letters a reading holds, each counted each time it is reached (what is shared counts as often as it is met; a slice's spare places count too). A statement '..UptoSaid' is the law's where the arguments, and the package variables that the reading takes, are together of bulk at most 1048576: NARROWER than '..Said'. Prove '..Said' where nothing that the law and all that it calls make is longer than what came in: it says more and counts as full. Else prove '..UptoSaid'. A law counts once. -/
mutual
def uptoBulk {H : Type} : DataW H → Nat
  | .lit (.string bytes) => bytes.length + 1
  | .lit _ => 1
  | .nil => 1
  | .ptr d => uptoBulk d + 1
  | .slice elems spare => uptoBulkAll elems + uptoBulkAll spare + 1
  | .agg parts => uptoBulkAll parts + 1
  | .iface _ d => uptoBulk d + 1
  | .map entries => uptoBulkEntries entries + 1
  | .held _ => 1
def uptoBulkAll {H : Type} : List (DataW H) → Nat
  | [] => 0
  | d :: r => uptoBulk d + uptoBulkAll r
def uptoBulkEntries {H : Type} : List (Lit × DataW H) → Nat
  | [] => 0
  | x :: r => uptoBulkEntry x + uptoBulkEntries r
def uptoBulkEntry {H : Type} : Lit × DataW H → Nat
  | (.string bytes, d) => bytes.length + uptoBulk d + 1
  | (_, d) => uptoBulk d + 1
 end
def uptoSmall : (H : Type) → List (DataW H) → Bool := fun _ ds => decide (uptoBulkAll ds ≤ 1048576)
def OpenSpec.upto (s : _root_.Go.ChangeSpec) : _root_.Go.OpenSpec := { _root_.Go.OpenSpec.ofChange s with cond := some uptoSmall }

/-- 'culvertlaw14.IfaceDown', WHERE WHAT IT READS IS OF BULK AT MOST 1048576: true; the input reads as it did. -/
def ifaceDownUptoRow : OpenClaim := { program := "ytfokodhfjdhdaaa", sum := "1811128c2b0bf24dc96bd0afd33aaf2145aa132e264b2e4170dff5ce1a6f1466", func := "culvert/culvertlaw14.IfaceDown", spec := "ifaceDown", inPlace := ["internal/bytealg.Compare"], unfollowed := true, recurses := true, plainKeys := false, apart := false, narrowed := true }
def IfaceDownUptoSaid : Prop := ifaceDownUptoRow.holds Try.pinned (OpenSpec.upto ifaceDownSpec)

/-- 'culvertlaw14.IfaceHellos', WHERE WHAT IT READS IS OF BULK AT MOST 1048576: true; the input reads as it did. -/
def ifaceHellosUptoRow : OpenClaim := { program := "ytfokodhfjdhdaaa", sum := "1811128c2b0bf24dc96bd0afd33aaf2145aa132e264b2e4170dff5ce1a6f1466", func := "culvert/culvertlaw14.IfaceHellos", spec := "ifaceHellos", inPlace := ["internal/bytealg.Compare"], unfollowed := true, recurses := true, plainKeys := false, apart := false, narrowed := true }
def IfaceHellosUptoSaid : Prop := ifaceHellosUptoRow.holds Try.pinned (OpenSpec.upto ifaceHellosSpec)

/-- 'culvertlaw14.IfaceNil', WHERE WHAT IT READS IS OF BULK AT MOST 1048576: true; the input reads as it did. -/
def ifaceNilUptoRow : OpenClaim := { program := "ytfokodhfjdhdaaa", sum := "1811128c2b0bf24dc96bd0afd33aaf2145aa132e264b2e4170dff5ce1a6f1466", func := "culvert/culvertlaw14.IfaceNil", spec := "ifaceNil", inPlace := ["internal/bytealg.Compare"], unfollowed := true, recurses := true, plainKeys := false, apart := false, narrowed := true }
def IfaceNilUptoSaid : Prop := ifaceNilUptoRow.holds Try.pinned (OpenSpec.upto ifaceNilSpec)

end Rows
end Go.Proofs.Ytfokodhfjdhdaaa
