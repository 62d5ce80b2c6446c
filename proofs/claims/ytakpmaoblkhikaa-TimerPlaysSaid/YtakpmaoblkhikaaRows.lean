/-
  No cell of these rows narrows 'for every input' (looked for: loops, veiled, ifaces, maps, wideKeys, modest, calm, conditions, laid).
  DERIVED. THE GIVEN ROWS OF THIS SEAT. 6 by the template 'for every input the law returns true; each argument reads behind the call as it read before'; 0 by the template 'total and deterministic' (their statements: YtakpmaoblkhikaaTotals.lean).
  GIVEN WITH THE SEED: the statements are not yours to turn. If you find one false, say at which input.
  Laid BY PROGRAM, IN A SANDBOX (cutbox-rows.mjs): the forced cells as the released guide's own fill.sh prints them over the translation 6b4877e7066ef76f… (all of the seat's roots in one cut). By AI agents, Wed Nov 11 2026. No macro, syntax, notation, axiom, sorry.
-/
import Derived.Test.YtakpmaoblkhikaaChecked
import GoSem.Claim
import GoSem.ClaimJoined
import GoSem.ClaimMapViews
import Derived.JoinedTies
import Derived.KernelRfl
namespace Go.Proofs.Ytakpmaoblkhikaa
/- THE CELL 'sum', in the pinned program and in every row, IS THE sha256 OF THE DUMP (.gsa) THAT YtakpmaoblkhikaaProg.lean LOADS. Nothing in Lean hashes anything: it is a label: what it is worth is what the hold of that sum in a sandbox is worth. -/
noncomputable def Try.pinned : Pinned := { name := "ytakpmaoblkhikaa", sum := "6b4877e7066ef76ffe14e13e6e85f8ef67f6e3e3ea5b1e5ba0ae7b27085d5c2f", checked := Try.checked }
namespace Rows
def none {H : Type} : Left H := { results := [], args := [] }

/-- 'culvertlaw04.TimerMany': WHATEVER THE INPUT: true; the input reads as it did. -/
def timerManySpec : ChangeSpec := { name := "timerMany", fn := fun _ => fun
  | [d1, d2] => { results := [.lit (.bool true)], args := [d1, d2] }
  | _ => none }
def timerManyRow : OpenClaim := { program := "ytakpmaoblkhikaa", sum := "6b4877e7066ef76ffe14e13e6e85f8ef67f6e3e3ea5b1e5ba0ae7b27085d5c2f", func := "culvert/culvertlaw04.TimerMany", spec := "timerMany", unfollowed := true, recurses := true, apart := false }
def TimerManySaid : Prop := timerManyRow.holds Try.pinned (OpenSpec.ofChange timerManySpec)

/-- ITS FALSE NEIGHBOUR: 'it returns false'. Refute it at one input. -/
def timerManyWrong : ChangeSpec := { name := "timerMany", fn := fun _ => fun
  | [d1, d2] => { results := [.lit (.bool false)], args := [d1, d2] }
  | _ => none }
def TimerManyWrongFalsely : Prop := timerManyRow.holds Try.pinned (OpenSpec.ofChange timerManyWrong)

/-- 'culvertlaw04.TimerCancels': WHATEVER THE INPUT: true; the input reads as it did. -/
def timerCancelsSpec : ChangeSpec := { name := "timerCancels", fn := fun _ => fun
  | [d1, d2] => { results := [.lit (.bool true)], args := [d1, d2] }
  | _ => none }
def timerCancelsRow : OpenClaim := { program := "ytakpmaoblkhikaa", sum := "6b4877e7066ef76ffe14e13e6e85f8ef67f6e3e3ea5b1e5ba0ae7b27085d5c2f", func := "culvert/culvertlaw04.TimerCancels", spec := "timerCancels", unfollowed := true, recurses := true, apart := false }
def TimerCancelsSaid : Prop := timerCancelsRow.holds Try.pinned (OpenSpec.ofChange timerCancelsSpec)

/-- ITS FALSE NEIGHBOUR: 'it returns false'. Refute it at one input. -/
def timerCancelsWrong : ChangeSpec := { name := "timerCancels", fn := fun _ => fun
  | [d1, d2] => { results := [.lit (.bool false)], args := [d1, d2] }
  | _ => none }
def TimerCancelsWrongFalsely : Prop := timerCancelsRow.holds Try.pinned (OpenSpec.ofChange timerCancelsWrong)

/-- 'culvertlaw04.TimerOrder': WHATEVER THE INPUT: true; the input reads as it did. -/
def timerOrderSpec : ChangeSpec := { name := "timerOrder", fn := fun _ => fun
  | [d1, d2, d3, d4] => { results := [.lit (.bool true)], args := [d1, d2, d3, d4] }
  | _ => none }
def timerOrderRow : OpenClaim := { program := "ytakpmaoblkhikaa", sum := "6b4877e7066ef76ffe14e13e6e85f8ef67f6e3e3ea5b1e5ba0ae7b27085d5c2f", func := "culvert/culvertlaw04.TimerOrder", spec := "timerOrder", unfollowed := true, recurses := true, apart := false }
def TimerOrderSaid : Prop := timerOrderRow.holds Try.pinned (OpenSpec.ofChange timerOrderSpec)

/-- ITS FALSE NEIGHBOUR: 'it returns false'. Refute it at one input. -/
def timerOrderWrong : ChangeSpec := { name := "timerOrder", fn := fun _ => fun
  | [d1, d2, d3, d4] => { results := [.lit (.bool false)], args := [d1, d2, d3, d4] }
  | _ => none }
def TimerOrderWrongFalsely : Prop := timerOrderRow.holds Try.pinned (OpenSpec.ofChange timerOrderWrong)

/-- 'culvertlaw04.TimerApart': WHATEVER THE INPUT: true; the input reads as it did. -/
def timerApartSpec : ChangeSpec := { name := "timerApart", fn := fun _ => fun
  | [d1, d2] => { results := [.lit (.bool true)], args := [d1, d2] }
  | _ => none }
def timerApartRow : OpenClaim := { program := "ytakpmaoblkhikaa", sum := "6b4877e7066ef76ffe14e13e6e85f8ef67f6e3e3ea5b1e5ba0ae7b27085d5c2f", func := "culvert/culvertlaw04.TimerApart", spec := "timerApart", unfollowed := true, recurses := true, apart := false }
def TimerApartSaid : Prop := timerApartRow.holds Try.pinned (OpenSpec.ofChange timerApartSpec)

/-- ITS FALSE NEIGHBOUR: 'it returns false'. Refute it at one input. -/
def timerApartWrong : ChangeSpec := { name := "timerApart", fn := fun _ => fun
  | [d1, d2] => { results := [.lit (.bool false)], args := [d1, d2] }
  | _ => none }
def TimerApartWrongFalsely : Prop := timerApartRow.holds Try.pinned (OpenSpec.ofChange timerApartWrong)

/-- 'culvertlaw04.TimerPlays': WHATEVER THE INPUT: true; the input reads as it did. -/
def timerPlaysSpec : ChangeSpec := { name := "timerPlays", fn := fun _ => fun
  | [d] => { results := [.lit (.bool true)], args := [d] }
  | _ => none }
def timerPlaysRow : OpenClaim := { program := "ytakpmaoblkhikaa", sum := "6b4877e7066ef76ffe14e13e6e85f8ef67f6e3e3ea5b1e5ba0ae7b27085d5c2f", func := "culvert/culvertlaw04.TimerPlays", spec := "timerPlays", unfollowed := true, recurses := true, apart := false }
def TimerPlaysSaid : Prop := timerPlaysRow.holds Try.pinned (OpenSpec.ofChange timerPlaysSpec)

/-- ITS FALSE NEIGHBOUR: 'it returns false'. Refute it at one input. -/
def timerPlaysWrong : ChangeSpec := { name := "timerPlays", fn := fun _ => fun
  | [d] => { results := [.lit (.bool false)], args := [d] }
  | _ => none }
def TimerPlaysWrongFalsely : Prop := timerPlaysRow.holds Try.pinned (OpenSpec.ofChange timerPlaysWrong)

/-- 'culvertlaw04.TimerNil': WHATEVER THE INPUT: true; the input reads as it did. -/
def timerNilSpec : ChangeSpec := { name := "timerNil", fn := fun _ => fun
  | [d1, d2] => { results := [.lit (.bool true)], args := [d1, d2] }
  | _ => none }
def timerNilRow : OpenClaim := { program := "ytakpmaoblkhikaa", sum := "6b4877e7066ef76ffe14e13e6e85f8ef67f6e3e3ea5b1e5ba0ae7b27085d5c2f", func := "culvert/culvertlaw04.TimerNil", spec := "timerNil", unfollowed := true, recurses := true, apart := false }
def TimerNilSaid : Prop := timerNilRow.holds Try.pinned (OpenSpec.ofChange timerNilSpec)

/-- ITS FALSE NEIGHBOUR: 'it returns false'. Refute it at one input. -/
def timerNilWrong : ChangeSpec := { name := "timerNil", fn := fun _ => fun
  | [d1, d2] => { results := [.lit (.bool false)], args := [d1, d2] }
  | _ => none }
def TimerNilWrongFalsely : Prop := timerNilRow.holds Try.pinned (OpenSpec.ofChange timerNilWrong)

/- THE SECOND FORM. 'bulk': how many values and letters a reading holds, each counted each time it is reached (what is shared counts as often as it is met; a slice's spare places count too). A statement '..UptoSaid' is the law's where the arguments, and the package variables that the reading takes, are together of bulk at most 1048576: NARROWER than '..Said'. Prove '..Said' where nothing that the law and all that it calls make is longer than what came in: it says more and counts as full. Else prove '..UptoSaid'. A law counts once. -/
mutual
def uptoBulk {H : Type} : DataW H → Nat
  | .lit (.string bytes) => bytes.length + 1
  | .lit _ => 1
  | .nil => 1
  | .ptr d => uptoBulk d + 1
  | .slice elems spare => uptoBulkAll elems + uptoBulkAll spare + 1
  | .agg parts => uptoBulkAll parts + 1
  | .iface _ d => uptoBulk d + 1
  | .map entries => uptoBulkEntries entries + 1
  | .held _ => 1
def uptoBulkAll {H : Type} : List (DataW H) → Nat
  | [] => 0
  | d :: r => uptoBulk d + uptoBulkAll r
def uptoBulkEntries {H : Type} : List (Lit × DataW H) → Nat
  | [] => 0
  | x :: r => uptoBulkEntry x + uptoBulkEntries r
def uptoBulkEntry {H : Type} : Lit × DataW H → Nat
  | (.string bytes, d) => bytes.length + uptoBulk d + 1
  | (_, d) => uptoBulk d + 1
 end
def uptoSmall : (H : Type) → List (DataW H) → Bool := fun _ ds => decide (uptoBulkAll ds ≤ 1048576)
def OpenSpec.upto (s : _root_.Go.ChangeSpec) : _root_.Go.OpenSpec := { _root_.Go.OpenSpec.ofChange s with cond := some uptoSmall }

/-- 'culvertlaw04.TimerMany', WHERE WHAT IT READS IS OF BULK AT MOST 1048576: true; the input reads as it did. -/
def timerManyUptoRow : OpenClaim := { program := "ytakpmaoblkhikaa", sum := "6b4877e7066ef76ffe14e13e6e85f8ef67f6e3e3ea5b1e5ba0ae7b27085d5c2f", func := "culvert/culvertlaw04.TimerMany", spec := "timerMany", unfollowed := true, recurses := true, apart := false, narrowed := true }
def TimerManyUptoSaid : Prop := timerManyUptoRow.holds Try.pinned (OpenSpec.upto timerManySpec)

/-- 'culvertlaw04.TimerCancels', WHERE WHAT IT READS IS OF BULK AT MOST 1048576: true; the input reads as it did. -/
def timerCancelsUptoRow : OpenClaim := { program := "ytakpmaoblkhikaa", sum := "6b4877e7066ef76ffe14e13e6e85f8ef67f6e3e3ea5b1e5ba0ae7b27085d5c2f", func := "culvert/culvertlaw04.TimerCancels", spec := "timerCancels", unfollowed := true, recurses := true, apart := false, narrowed := true }
def TimerCancelsUptoSaid : Prop := timerCancelsUptoRow.holds Try.pinned (OpenSpec.upto timerCancelsSpec)

/-- 'culvertlaw04.TimerOrder', WHERE WHAT IT READS IS OF BULK AT MOST 1048576: true; the input reads as it did. -/
def timerOrderUptoRow : OpenClaim := { program := "ytakpmaoblkhikaa", sum := "6b4877e7066ef76ffe14e13e6e85f8ef67f6e3e3ea5b1e5ba0ae7b27085d5c2f", func := "culvert/culvertlaw04.TimerOrder", spec := "timerOrder", unfollowed := true, recurses := true, apart := false, narrowed := true }
def TimerOrderUptoSaid : Prop := timerOrderUptoRow.holds Try.pinned (OpenSpec.upto timerOrderSpec)

/-- 'culvertlaw04.TimerApart', WHERE WHAT IT READS IS OF BULK AT MOST 1048576: true; the input reads as it did. -/
def timerApartUptoRow : OpenClaim := { program := "ytakpmaoblkhikaa", sum := "6b4877e7066ef76ffe14e13e6e85f8ef67f6e3e3ea5b1e5ba0ae7b27085d5c2f", func := "culvert/culvertlaw04.TimerApart", spec := "timerApart", unfollowed := true, recurses := true, apart := false, narrowed := true }
def TimerApartUptoSaid : Prop := timerApartUptoRow.holds Try.pinned (OpenSpec.upto timerApartSpec)

/-- 'culvertlaw04.TimerPlays', WHERE WHAT IT READS IS OF BULK AT MOST 1048576: true; the input reads as it did. -/
def timerPlaysUptoRow : OpenClaim := { program := "ytakpmaoblkhikaa", sum := "6b4877e7066ef76ffe14e13e6e85f8ef67f6e3e3ea5b1e5ba0ae7b27085d5c2f", func := "culvert/culvertlaw04.TimerPlays", spec := "timerPlays", unfollowed := true, recurses := true, apart := false, narrowed := true }
def TimerPlaysUptoSaid : Prop := timerPlaysUptoRow.holds Try.pinned (OpenSpec.upto timerPlaysSpec)

/-- 'culvertlaw04.TimerNil', WHERE WHAT IT READS IS OF BULK AT MOST 1048576: true; the input reads as it did. -/
def timerNilUptoRow : OpenClaim := { program := "ytakpmaoblkhikaa", sum := "6b4877e7066ef76ffe14e13e6e85f8ef67f6e3e3ea5b1e5ba0ae7b27085d5c2f", func := "culvert/culvertlaw04.TimerNil", spec := "timerNil", unfollowed := true, recurses := true, apart := false, narrowed := true }
def TimerNilUptoSaid : Prop := timerNilUptoRow.holds Try.pinned (OpenSpec.upto timerNilSpec)

end Rows
end Go.Proofs.Ytakpmaoblkhikaa
