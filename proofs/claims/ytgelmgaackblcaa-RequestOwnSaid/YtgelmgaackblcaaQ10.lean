/- Q10: a part of the proof that a law of this package holds for every input; no condition. -/
import Derived.Test.YtgelmgaackblcaaQ9
import Derived.Test.YtgelmgaackblcaaB15
import Derived.Test.YtgelmgaackblcaaRows
namespace Go.Proofs.Ytgelmgaackblcaa
open Go.Proofs Slb Go.ChangeShapes Go.WideShapes Go.ChangeAt Go.RowKit
set_option maxRecDepth 100000
theorem Try.own : ownKnob Try.prog.godebug = none := by kernel_rfl
theorem Try.laidOut : laidOutB Try.prog = true := by kernel_rfl
theorem te31 : TE Try.prog 31 { n : Int // 0 ≤ n ∧ n ≤ 65535 } (fun n => [.int .u16 n.val]) := TE.intW (by decide) (by decide) Try.underlying31

theorem requestOwn_lifted (os : Os) (started : os.Started) (H : Type) (enc : TypeId × Value → H) :
    ReturnsInHanded {} Try.checked os 4 .any (Rows.requestOwnSpec.pre6 enc Try.prog Try.f4 Rows.requestOwnRow.domain false) (Rows.requestOwnSpec.post enc Try.prog Try.f4 false true false false) := by
  refine returnsInHanded_of_change (C := Try.checked) Try.own started (by kernel_rfl) Try.func4
    (ChangeSpec.witness6 (enc := enc) (C := Try.checked) false ⟨#[], #[.int .u16 0, .slice none 0 0], []⟩ 8 (by kernel_rfl) (by kernel_rfl) (by kernel_rfl) (by kernel_rfl)) ?_
  intro W base args ds gs before hval0 hW hcnd _
  have hval : ∀ (j : Nat) t v, Try.f4.params[j]? = some t → args[j]? = some v → Value.okWide Try.prog W .any base t v := hval0
  have hW' := hW
  obtain ⟨p, q, hA0, hV, rfl, hfz, hnd⟩ := hW
  have hA : DataW.TrodAll enc Try.prog W 0 (fun _ => true) true Try.f4.params.toList args.toList ds p := hA0
  rw [Try.params4] at hA hval
  obtain ⟨v0, vs0, d0, ds0, p0, q0, e0, rfl, rfl, h0, r0⟩ := trodAll_cons hA
  obtain ⟨v1, vs1, d1, ds1, p1, q1, e1, rfl, rfl, h1, r1⟩ := trodAll_cons r0
  obtain ⟨e2, rfl, rfl⟩ := trodAll_nil r1
  rw [e2] at e1
  rw [e1] at e0
  obtain rfl : args = #[v0, v1] := Array.ext' (by simpa using e0)
  obtain ⟨rfl, rfl⟩ := trodVars_none hV
  obtain ⟨x0, rfl, rfl, rfl, w0⟩ := open_int Try.underlying31 (hval 0 31 v0 rfl rfl) h0
  obtain ⟨a1, x1, c1, rfl, hl1, ha1, w1⟩ := sl_argW (enc := fun n => [Value.int .u16 n]) Try.underlying49 te31 (by kernel_rfl) (by decide) (fun _ => rfl) (hval 1 49 v1 rfl rfl) h1
  refine (law_own (frAll W) x0 (by simp [Lit.wf, IntKind.min, IntKind.max, IntKind.signed, IntKind.bits] at w0; omega) (by simp [Lit.wf, IntKind.min, IntKind.max, IntKind.signed, IntKind.bits] at w0; omega) (Nat.le_trans hl1 (by decide)) ha1 W (sat_frAll W)).mono ?_
  rintro e W' ⟨v, S, rfl, ⟨rfl, rfl⟩, s⟩
  exact ⟨_, rfl, post_law Try.laidOut (bt := 4) hW' rfl rfl rfl rfl rfl Try.underlying4 (by rw [Try.params4]; decide +kernel) (below_of_sat s)⟩
theorem requestOwn_holds : Rows.RequestOwnSaid :=
  OpenClaim.holds_of_wide 4 Try.f4 rfl rfl rfl rfl rfl rfl rfl ⟨rfl, rfl, rfl, rfl, rfl⟩ rfl rfl rfl rfl rfl (by kernel_rfl) Try.func4 (by kernel_rfl)
    (of_decide_eq_true (by kernel_rfl)) (by unfold Func.isWrapper; first | (rw [if_pos (by decide +kernel)]; kernel_rfl) | (rw [if_neg (by decide +kernel)]; exact ⟨rfl, rfl⟩))
    (fun os started H enc _ => requestOwn_lifted os started H enc)
end Go.Proofs.Ytgelmgaackblcaa
