/- P25: a part of the proof that a law of this package holds for every input; no condition. -/
import Derived.Test.YtiohlongddnclaaM2
import Derived.Test.YtiohlongddnclaaP22
import Derived.ChangeMaps5
import Derived.Test.YtiohlongddnclaaRows
namespace Go.Proofs.Ytiohlongddnclaa
open Go.Proofs Slb Go.ChangeShapes Go.WideShapes Go.ChangeAt Go.RowKit
set_option maxRecDepth 100000
theorem Try.own : ownKnob Try.prog.godebug = none := by kernel_rfl
theorem Try.laidOut : laidOutB Try.prog = true := by kernel_rfl
theorem te23 : TE Try.prog 23 (Bs 16) Bs.enc := TE.bytes Try.underlying23 Try.underlying5 (by kernel_rfl) (by kernel_rfl)
theorem te5 : TE Try.prog 5 { n : Int // 0 ≤ n ∧ n ≤ 255 } (fun n => [.int .u8 n.val]) := TE.intW (by decide) (by decide) Try.underlying5
theorem byte1 : Try.prog.bytesOf 5 = 1 := by kernel_rfl

theorem packetEnds_lifted (os : Os) (started : os.Started) (H : Type) (enc : TypeId × Value → H) :
    ReturnsInHanded {} Try.checked os 3 .any (Rows.packetEndsSpec.pre6 enc Try.prog Try.f3 Rows.packetEndsRow.domain false) (Rows.packetEndsSpec.post enc Try.prog Try.f3 false true false false) := by
  refine returnsInHanded_of_change_sized (C := Try.checked) Try.own started Kr Try.func3
    (ChangeSpec.witness6 (enc := enc) (C := Try.checked) false ⟨#[], #[.agg (Bs.zero 16).enc.toArray, .slice none 0 0, .slice none 0 0], []⟩ 8 Kr Kr Kr Kr) ?_
  intro W base args ds gs before hval0 hW hcnd hsz0 _
  have hval : ∀ (j : Nat) t v, Try.f3.params[j]? = some t → args[j]? = some v → Value.okWide Try.prog W .any base t v := hval0
  have hW' := hW
  obtain ⟨p, q, hA0, hV, rfl, hfz, hnd⟩ := hW
  have hA : DataW.TrodAll enc Try.prog W 0 (fun _ => true) true Try.f3.params.toList args.toList ds p := hA0
  rw [Try.params3] at hA hval
  rw [Try.params3] at hsz0
  obtain ⟨v0, vs0, d0, ds0, p0, q0, e0, rfl, rfl, h0, r0⟩ := trodAll_cons hA
  obtain ⟨v1, vs1, d1, ds1, p1, q1, e1, rfl, rfl, h1, r1⟩ := trodAll_cons r0
  obtain ⟨v2, vs2, d2, ds2, p2, q2, e2, rfl, rfl, h2, r2⟩ := trodAll_cons r1
  obtain ⟨e3, rfl, rfl⟩ := trodAll_nil r2
  rw [e3] at e2
  rw [e2] at e1
  rw [e1] at e0
  obtain rfl : args = #[v0, v1, v2] := Array.ext' (by simpa using e0)
  obtain ⟨rfl, rfl⟩ := trodVars_none hV
  obtain ⟨x0, rfl⟩ := val_agg te23 Kr (hval 0 23 v0 rfl rfl) h0
  obtain ⟨a1, x1, c1, rfl, hl1, ha1, w1⟩ := sl_argW (enc := fun n => [Value.int .u8 n]) Try.underlying24 te5 Kr (by decide) (fun _ => rfl) (hval 1 24 v1 rfl rfl) h1
  obtain ⟨a2, x2, c2, rfl, hl2, ha2, w2⟩ := sl_argW (enc := fun n => [Value.int .u8 n]) Try.underlying24 te5 Kr (by decide) (fun _ => rfl) (hval 2 24 v2 rfl rfl) h2
  have hz1 : x1.length * Try.prog.bytesOf 5 ≤ reachBytes := by
    rcases wt_slice Try.underlying24 h1 with h9 | ⟨k, hk, hle⟩
    · rw [h9]; simp
    · exact Nat.le_trans hle (of_decide_eq_true (List.all_eq_true.1 hsz0 k (DataW.weights_mem_each (j := 1) rfl rfl k hk)))
  have hz2 : x2.length * Try.prog.bytesOf 5 ≤ reachBytes := by
    rcases wt_slice Try.underlying24 h2 with h9 | ⟨k, hk, hle⟩
    · rw [h9]; simp
    · exact Nat.le_trans hle (of_decide_eq_true (List.all_eq_true.1 hsz0 k (DataW.weights_mem_each (j := 2) rfl rfl k hk)))
  obtain ⟨y1, hy1, hb1⟩ := bytes_arg ha1 w1
  obtain ⟨y2, hy2, hb2⟩ := bytes_arg ha2 w2
  have hsum : y1.length + y2.length ≤ 9223372036854775807 := by rw [byte1] at hz1 hz2; have := reach_le; omega
  refine (goesN (frAll W) hy1 hy2 (law_ends (frAll W) x0 hb1 hb2 hsum) W (sat_frAll W)).mono ?_
  rintro e W' ⟨v, S, rfl, ⟨rfl, rfl⟩, s⟩
  exact ⟨_, rfl, post_law Try.laidOut (bt := 4) hW' rfl rfl rfl rfl rfl Try.underlying4 (by rw [Try.params3]; decide +kernel) (below_of_sat s)⟩
theorem packetEnds_holds : Rows.PacketEndsSaid :=
  OpenClaim.holds_of_wide 3 Try.f3 rfl rfl rfl rfl rfl rfl rfl ⟨rfl, rfl, rfl, rfl, rfl⟩ rfl rfl rfl rfl rfl Kr Try.func3 Kr
    (of_decide_eq_true Kr) (by unfold Func.isWrapper; first | (rw [if_pos (by decide +kernel)]; kernel_rfl) | (rw [if_neg (by decide +kernel)]; exact ⟨rfl, rfl⟩))
    (fun os started H enc _ => packetEnds_lifted os started H enc)
end Go.Proofs.Ytiohlongddnclaa
