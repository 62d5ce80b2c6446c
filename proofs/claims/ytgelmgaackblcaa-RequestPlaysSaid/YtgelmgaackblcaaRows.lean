/-
  No cell of these rows narrows 'for every input' (looked for: loops, veiled, ifaces, maps, wideKeys, modest, calm, conditions, laid).
  DERIVED. THE GIVEN ROWS OF THIS SEAT. 5 by the template 'for every input the law returns true; each argument reads behind the call as it read before'; 0 by the template 'total and deterministic' (their statements: YtgelmgaackblcaaTotals.lean).
  GIVEN WITH THE SEED: the statements are not yours to turn. If you find one false, say at which input.
  Laid BY PROGRAM, IN A SANDBOX (cutbox-rows.mjs): the forced cells as the released guide's own fill.sh prints them over the translation 135c2a923ea09509… (all of the seat's roots in one cut). By AI agents, Wed Nov 11 2026. No macro, syntax, notation, axiom, sorry.
-/
import Derived.Test.YtgelmgaackblcaaChecked
import GoSem.Claim
import GoSem.ClaimJoined
import GoSem.ClaimMapViews
import Derived.JoinedTies
import Derived.KernelRfl
namespace Go.Proofs.Ytgelmgaackblcaa
/- THE CELL 'sum', in the pinned program and in every row, IS THE sha256 OF THE DUMP (.gsa) THAT YtgelmgaackblcaaProg.lean LOADS. Nothing in Lean hashes anything: it is a label: what it is worth is what the hold of that sum in a sandbox is worth. -/
noncomputable def Try.pinned : Pinned := { name := "ytgelmgaackblcaa", sum := "135c2a923ea09509b4b4f159c73e46196fb5bf0842e6a8f88f1d1be501fe2459", checked := Try.checked }
namespace Rows
def none {H : Type} : Left H := { results := [], args := [] }

/-- 'culvertlaw18.RequestEnds': WHATEVER THE INPUT: true; the input reads as it did. -/
def requestEndsSpec : ChangeSpec := { name := "requestEnds", fn := fun _ => fun
  | [d1, d2, d3, d4, d5] => { results := [.lit (.bool true)], args := [d1, d2, d3, d4, d5] }
  | _ => none }
def requestEndsRow : OpenClaim := { program := "ytgelmgaackblcaa", sum := "135c2a923ea09509b4b4f159c73e46196fb5bf0842e6a8f88f1d1be501fe2459", func := "culvert/culvertlaw18.RequestEnds", spec := "requestEnds", inPlace := ["internal/bytealg.Compare"], unfollowed := true, recurses := true, plainKeys := false, apart := false }
def RequestEndsSaid : Prop := requestEndsRow.holds Try.pinned (OpenSpec.ofChange requestEndsSpec)

/-- ITS FALSE NEIGHBOUR: 'it returns false'. Refute it at one input. -/
def requestEndsWrong : ChangeSpec := { name := "requestEnds", fn := fun _ => fun
  | [d1, d2, d3, d4, d5] => { results := [.lit (.bool false)], args := [d1, d2, d3, d4, d5] }
  | _ => none }
def RequestEndsWrongFalsely : Prop := requestEndsRow.holds Try.pinned (OpenSpec.ofChange requestEndsWrong)

/-- 'culvertlaw18.RequestOwn': WHATEVER THE INPUT: true; the input reads as it did. -/
def requestOwnSpec : ChangeSpec := { name := "requestOwn", fn := fun _ => fun
  | [d1, d2] => { results := [.lit (.bool true)], args := [d1, d2] }
  | _ => none }
def requestOwnRow : OpenClaim := { program := "ytgelmgaackblcaa", sum := "135c2a923ea09509b4b4f159c73e46196fb5bf0842e6a8f88f1d1be501fe2459", func := "culvert/culvertlaw18.RequestOwn", spec := "requestOwn", inPlace := ["internal/bytealg.Compare"], unfollowed := true, recurses := true, plainKeys := false, apart := false }
def RequestOwnSaid : Prop := requestOwnRow.holds Try.pinned (OpenSpec.ofChange requestOwnSpec)

/-- ITS FALSE NEIGHBOUR: 'it returns false'. Refute it at one input. -/
def requestOwnWrong : ChangeSpec := { name := "requestOwn", fn := fun _ => fun
  | [d1, d2] => { results := [.lit (.bool false)], args := [d1, d2] }
  | _ => none }
def RequestOwnWrongFalsely : Prop := requestOwnRow.holds Try.pinned (OpenSpec.ofChange requestOwnWrong)

/-- 'culvertlaw18.RequestOnce': WHATEVER THE INPUT: true; the input reads as it did. -/
def requestOnceSpec : ChangeSpec := { name := "requestOnce", fn := fun _ => fun
  | [d1, d2, d3, d4] => { results := [.lit (.bool true)], args := [d1, d2, d3, d4] }
  | _ => none }
def requestOnceRow : OpenClaim := { program := "ytgelmgaackblcaa", sum := "135c2a923ea09509b4b4f159c73e46196fb5bf0842e6a8f88f1d1be501fe2459", func := "culvert/culvertlaw18.RequestOnce", spec := "requestOnce", inPlace := ["internal/bytealg.Compare"], unfollowed := true, recurses := true, plainKeys := false, apart := false }
def RequestOnceSaid : Prop := requestOnceRow.holds Try.pinned (OpenSpec.ofChange requestOnceSpec)

/-- ITS FALSE NEIGHBOUR: 'it returns false'. Refute it at one input. -/
def requestOnceWrong : ChangeSpec := { name := "requestOnce", fn := fun _ => fun
  | [d1, d2, d3, d4] => { results := [.lit (.bool false)], args := [d1, d2, d3, d4] }
  | _ => none }
def RequestOnceWrongFalsely : Prop := requestOnceRow.holds Try.pinned (OpenSpec.ofChange requestOnceWrong)

/-- 'culvertlaw18.RequestPlays': WHATEVER THE INPUT: true; the input reads as it did. -/
def requestPlaysSpec : ChangeSpec := { name := "requestPlays", fn := fun _ => fun
  | [d1, d2, d3, d4] => { results := [.lit (.bool true)], args := [d1, d2, d3, d4] }
  | _ => none }
def requestPlaysRow : OpenClaim := { program := "ytgelmgaackblcaa", sum := "135c2a923ea09509b4b4f159c73e46196fb5bf0842e6a8f88f1d1be501fe2459", func := "culvert/culvertlaw18.RequestPlays", spec := "requestPlays", inPlace := ["internal/bytealg.Compare"], unfollowed := true, recurses := true, plainKeys := false, apart := false }
def RequestPlaysSaid : Prop := requestPlaysRow.holds Try.pinned (OpenSpec.ofChange requestPlaysSpec)

/-- ITS FALSE NEIGHBOUR: 'it returns false'. Refute it at one input. -/
def requestPlaysWrong : ChangeSpec := { name := "requestPlays", fn := fun _ => fun
  | [d1, d2, d3, d4] => { results := [.lit (.bool false)], args := [d1, d2, d3, d4] }
  | _ => none }
def RequestPlaysWrongFalsely : Prop := requestPlaysRow.holds Try.pinned (OpenSpec.ofChange requestPlaysWrong)

/-- 'culvertlaw18.RequestNil': WHATEVER THE INPUT: true; the input reads as it did. -/
def requestNilSpec : ChangeSpec := { name := "requestNil", fn := fun _ => fun
  | [d1, d2, d3] => { results := [.lit (.bool true)], args := [d1, d2, d3] }
  | _ => none }
def requestNilRow : OpenClaim := { program := "ytgelmgaackblcaa", sum := "135c2a923ea09509b4b4f159c73e46196fb5bf0842e6a8f88f1d1be501fe2459", func := "culvert/culvertlaw18.RequestNil", spec := "requestNil", inPlace := ["internal/bytealg.Compare"], unfollowed := true, recurses := true, plainKeys := false, apart := false }
def RequestNilSaid : Prop := requestNilRow.holds Try.pinned (OpenSpec.ofChange requestNilSpec)

/-- ITS FALSE NEIGHBOUR: 'it returns false'. Refute it at one input. -/
def requestNilWrong : ChangeSpec := { name := "requestNil", fn := fun _ => fun
  | [d1, d2, d3] => { results := [.lit (.bool false)], args := [d1, d2, d3] }
  | _ => none }
def RequestNilWrongFalsely : Prop := requestNilRow.holds Try.pinned (OpenSpec.ofChange requestNilWrong)

/- THE SECOND FORM. 'bulk': how many values and letters a reading holds, each counted each time it is reached (what is shared counts as often as it is met; a slice's spare places count too). A statement '..UptoSaid' is the law's where the arguments, and the package variables that the reading takes, are together of bulk at most 1048576: NARROWER than '..Said'. Prove '..Said' where nothing that the law and all that it calls make is longer than what came in: it says more and counts as full. Else prove '..UptoSaid'. A law counts once. -/
mutual
def uptoBulk {H : Type} : DataW H → Nat
  | .lit (.string bytes) => bytes.length + 1
  | .lit _ => 1
  | .nil => 1
  | .ptr d => uptoBulk d + 1
  | .slice elems spare => uptoBulkAll elems + uptoBulkAll spare + 1
  | .agg parts => uptoBulkAll parts + 1
  | .iface _ d => uptoBulk d + 1
  | .map entries => uptoBulkEntries entries + 1
  | .held _ => 1
def uptoBulkAll {H : Type} : List (DataW H) → Nat
  | [] => 0
  | d :: r => uptoBulk d + uptoBulkAll r
def uptoBulkEntries {H : Type} : List (Lit × DataW H) → Nat
  | [] => 0
  | x :: r => uptoBulkEntry x + uptoBulkEntries r
def uptoBulkEntry {H : Type} : Lit × DataW H → Nat
  | (.string bytes, d) => bytes.length + uptoBulk d + 1
  | (_, d) => uptoBulk d + 1
 end
def uptoSmall : (H : Type) → List (DataW H) → Bool := fun _ ds => decide (uptoBulkAll ds ≤ 1048576)
def OpenSpec.upto (s : _root_.Go.ChangeSpec) : _root_.Go.OpenSpec := { _root_.Go.OpenSpec.ofChange s with cond := some uptoSmall }

/-- 'culvertlaw18.RequestEnds', WHERE WHAT IT READS IS OF BULK AT MOST 1048576: true; the input reads as it did. -/
def requestEndsUptoRow : OpenClaim := { program := "ytgelmgaackblcaa", sum := "135c2a923ea09509b4b4f159c73e46196fb5bf0842e6a8f88f1d1be501fe2459", func := "culvert/culvertlaw18.RequestEnds", spec := "requestEnds", inPlace := ["internal/bytealg.Compare"], unfollowed := true, recurses := true, plainKeys := false, apart := false, narrowed := true }
def RequestEndsUptoSaid : Prop := requestEndsUptoRow.holds Try.pinned (OpenSpec.upto requestEndsSpec)

/-- 'culvertlaw18.RequestOwn', WHERE WHAT IT READS IS OF BULK AT MOST 1048576: true; the input reads as it did. -/
def requestOwnUptoRow : OpenClaim := { program := "ytgelmgaackblcaa", sum := "135c2a923ea09509b4b4f159c73e46196fb5bf0842e6a8f88f1d1be501fe2459", func := "culvert/culvertlaw18.RequestOwn", spec := "requestOwn", inPlace := ["internal/bytealg.Compare"], unfollowed := true, recurses := true, plainKeys := false, apart := false, narrowed := true }
def RequestOwnUptoSaid : Prop := requestOwnUptoRow.holds Try.pinned (OpenSpec.upto requestOwnSpec)

/-- 'culvertlaw18.RequestOnce', WHERE WHAT IT READS IS OF BULK AT MOST 1048576: true; the input reads as it did. -/
def requestOnceUptoRow : OpenClaim := { program := "ytgelmgaackblcaa", sum := "135c2a923ea09509b4b4f159c73e46196fb5bf0842e6a8f88f1d1be501fe2459", func := "culvert/culvertlaw18.RequestOnce", spec := "requestOnce", inPlace := ["internal/bytealg.Compare"], unfollowed := true, recurses := true, plainKeys := false, apart := false, narrowed := true }
def RequestOnceUptoSaid : Prop := requestOnceUptoRow.holds Try.pinned (OpenSpec.upto requestOnceSpec)

/-- 'culvertlaw18.RequestPlays', WHERE WHAT IT READS IS OF BULK AT MOST 1048576: true; the input reads as it did. -/
def requestPlaysUptoRow : OpenClaim := { program := "ytgelmgaackblcaa", sum := "135c2a923ea09509b4b4f159c73e46196fb5bf0842e6a8f88f1d1be501fe2459", func := "culvert/culvertlaw18.RequestPlays", spec := "requestPlays", inPlace := ["internal/bytealg.Compare"], unfollowed := true, recurses := true, plainKeys := false, apart := false, narrowed := true }
def RequestPlaysUptoSaid : Prop := requestPlaysUptoRow.holds Try.pinned (OpenSpec.upto requestPlaysSpec)

/-- 'culvertlaw18.RequestNil', WHERE WHAT IT READS IS OF BULK AT MOST 1048576: true; the input reads as it did. -/
def requestNilUptoRow : OpenClaim := { program := "ytgelmgaackblcaa", sum := "135c2a923ea09509b4b4f159c73e46196fb5bf0842e6a8f88f1d1be501fe2459", func := "culvert/culvertlaw18.RequestNil", spec := "requestNil", inPlace := ["internal/bytealg.Compare"], unfollowed := true, recurses := true, plainKeys := false, apart := false, narrowed := true }
def RequestNilUptoSaid : Prop := requestNilUptoRow.holds Try.pinned (OpenSpec.upto requestNilSpec)

end Rows
end Go.Proofs.Ytgelmgaackblcaa
