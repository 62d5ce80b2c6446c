/- P24: a part of the proof that a law of this package holds for every input; no condition. -/
import Derived.Test.YtiohlongddnclaaM2
import Derived.Test.YtiohlongddnclaaP20
import Derived.ChangeMaps5
import Derived.Test.YtiohlongddnclaaRows
namespace Go.Proofs.Ytiohlongddnclaa
open Go.Proofs Slb Go.ChangeShapes Go.WideShapes Go.ChangeAt Go.RowKit
set_option maxRecDepth 100000
theorem Try.own : ownKnob Try.prog.godebug = none := by kernel_rfl
theorem Try.laidOut : laidOutB Try.prog = true := by kernel_rfl
theorem te23 : TE Try.prog 23 (Bs 16) Bs.enc := TE.bytes Try.underlying23 Try.underlying5 (by kernel_rfl) (by kernel_rfl)
theorem te5 : TE Try.prog 5 { n : Int // 0 ≤ n ∧ n ≤ 255 } (fun n => [.int .u8 n.val]) := TE.intW (by decide) (by decide) Try.underlying5
theorem byte1 : Try.prog.bytesOf 5 = 1 := by kernel_rfl

theorem packetPads_lifted (os : Os) (started : os.Started) (H : Type) (enc : TypeId × Value → H) :
    ReturnsInHanded {} Try.checked os 4 .any (Rows.packetPadsSpec.pre6 enc Try.prog Try.f4 Rows.packetPadsRow.domain false) (Rows.packetPadsSpec.post enc Try.prog Try.f4 false true false false) := by
  refine returnsInHanded_of_change (C := Try.checked) Try.own started Kr Try.func4
    (ChangeSpec.witness6 (enc := enc) (C := Try.checked) false ⟨#[], #[.agg (Bs.zero 16).enc.toArray, .slice none 0 0, .int .i64 0, .int .u8 0, .slice none 0 0], []⟩ 8 Kr Kr Kr Kr) ?_
  intro W base args ds gs before hval0 hW hcnd _
  have hval : ∀ (j : Nat) t v, Try.f4.params[j]? = some t → args[j]? = some v → Value.okWide Try.prog W .any base t v := hval0
  have hW' := hW
  obtain ⟨p, q, hA0, hV, rfl, hfz, hnd⟩ := hW
  have hA : DataW.TrodAll enc Try.prog W 0 (fun _ => true) true Try.f4.params.toList args.toList ds p := hA0
  rw [Try.params4] at hA hval
  obtain ⟨v0, vs0, d0, ds0, p0, q0, e0, rfl, rfl, h0, r0⟩ := trodAll_cons hA
  obtain ⟨v1, vs1, d1, ds1, p1, q1, e1, rfl, rfl, h1, r1⟩ := trodAll_cons r0
  obtain ⟨v2, vs2, d2, ds2, p2, q2, e2, rfl, rfl, h2, r2⟩ := trodAll_cons r1
  obtain ⟨v3, vs3, d3, ds3, p3, q3, e3, rfl, rfl, h3, r3⟩ := trodAll_cons r2
  obtain ⟨v4, vs4, d4, ds4, p4, q4, e4, rfl, rfl, h4, r4⟩ := trodAll_cons r3
  obtain ⟨e5, rfl, rfl⟩ := trodAll_nil r4
  rw [e5] at e4
  rw [e4] at e3
  rw [e3] at e2
  rw [e2] at e1
  rw [e1] at e0
  obtain rfl : args = #[v0, v1, v2, v3, v4] := Array.ext' (by simpa using e0)
  obtain ⟨rfl, rfl⟩ := trodVars_none hV
  obtain ⟨x0, rfl⟩ := val_agg te23 Kr (hval 0 23 v0 rfl rfl) h0
  obtain ⟨a1, x1, c1, rfl, hl1, ha1, w1⟩ := sl_argW (enc := fun n => [Value.int .u8 n]) Try.underlying24 te5 Kr (by decide) (fun _ => rfl) (hval 1 24 v1 rfl rfl) h1
  obtain ⟨x2, rfl, rfl, rfl, w2⟩ := open_int Try.underlying3 (hval 2 3 v2 rfl rfl) h2
  obtain ⟨x3, rfl, rfl, rfl, w3⟩ := open_int Try.underlying5 (hval 3 5 v3 rfl rfl) h3
  obtain ⟨a4, x4, c4, rfl, hl4, ha4, w4⟩ := sl_argW (enc := fun n => [Value.int .u8 n]) Try.underlying24 te5 Kr (by decide) (fun _ => rfl) (hval 4 24 v4 rfl rfl) h4
  obtain ⟨y1, hy1, hb1⟩ := bytes_arg ha1 w1
  obtain ⟨y2, hy2, hb2⟩ := bytes_arg ha4 w4
  have w3b : 0 ≤ x3 ∧ x3 ≤ 255 := by simp only [Lit.wf, Bool.and_eq_true, decide_eq_true_eq] at w3; exact w3
  refine (padsN (frAll W) hy1 hy2 (show x3 = ((UInt8.ofNat x3.toNat).toNat : Int) by simp; omega) (law_pads (frAll W) x0 hb1 hb2 x2 (UInt8.ofNat x3.toNat)) W (sat_frAll W)).mono ?_
  rintro e W' ⟨v, S, rfl, ⟨rfl, rfl⟩, s⟩
  exact ⟨_, rfl, post_law Try.laidOut (bt := 4) hW' rfl rfl rfl rfl rfl Try.underlying4 (by rw [Try.params4]; decide +kernel) (below_of_sat s)⟩
theorem packetPads_holds : Rows.PacketPadsSaid :=
  OpenClaim.holds_of_wide 4 Try.f4 rfl rfl rfl rfl rfl rfl rfl ⟨rfl, rfl, rfl, rfl, rfl⟩ rfl rfl rfl rfl rfl Kr Try.func4 Kr
    (of_decide_eq_true Kr) (by unfold Func.isWrapper; first | (rw [if_pos (by decide +kernel)]; kernel_rfl) | (rw [if_neg (by decide +kernel)]; exact ⟨rfl, rfl⟩))
    (fun os started H enc _ => packetPads_lifted os started H enc)
end Go.Proofs.Ytiohlongddnclaa
