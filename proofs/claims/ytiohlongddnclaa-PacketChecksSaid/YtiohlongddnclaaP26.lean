/- P26: a part of the proof that a law of this package holds for every input; no condition. -/
import Derived.Test.YtiohlongddnclaaM2
import Derived.Test.YtiohlongddnclaaP27
import Derived.ChangeMaps5
import Derived.Test.YtiohlongddnclaaRows
namespace Go.Proofs.Ytiohlongddnclaa
open Go.Proofs Slb Go.ChangeShapes Go.WideShapes Go.ChangeAt Go.RowKit
set_option maxRecDepth 100000
theorem Try.own : ownKnob Try.prog.godebug = none := by kernel_rfl
theorem Try.laidOut : laidOutB Try.prog = true := by kernel_rfl
theorem te5 : TE Try.prog 5 { n : Int // 0 ≤ n ∧ n ≤ 255 } (fun n => [.int .u8 n.val]) := TE.intW (by decide) (by decide) Try.underlying5
theorem te32 : TE Try.prog 32 { n : Int // 0 ≤ n ∧ n ≤ 65535 } (fun n => [.int .u16 n.val]) := TE.intW (by decide) (by decide) Try.underlying32
theorem te4 : TE Try.prog 4 Bool (fun n => [.bool n]) := TE.bool Try.underlying4
theorem te34 : TE Try.prog 34 (Bs 8) Bs.enc := TE.bytes Try.underlying34 Try.underlying5 (by kernel_rfl) (by kernel_rfl)
theorem te23 : TE Try.prog 23 (Bs 16) Bs.enc := TE.bytes Try.underlying23 Try.underlying5 (by kernel_rfl) (by kernel_rfl)
theorem te3i : TE Try.prog 3 I64 (fun n => [I64.v n]) := TE.i64 Try.underlying3
theorem te36 : TE Try.prog 36 { x : Prefix // x.WF } (fun x => x.val.enc) := fun e w base sp held fuel cs y h => by
  obtain ⟨xs, n, _, _, hl, hx, hf⟩ := DataW.trod_struct Try.underlying36 h
  obtain ⟨x0, e0⟩ := te23 e w base sp held n _ _ ((hf 0 _ rfl).trans (List.getElem?_eq_getElem (by rw [hx]; decide)))
  obtain ⟨x1, e1⟩ := te3i e w base sp held n _ _ ((hf 1 _ rfl).trans (List.getElem?_eq_getElem (by rw [hx]; decide)))
  exact ⟨⟨⟨x0, x1⟩, ⟨trivial, trivial⟩⟩, Pieces.eq (off := 0) (l := [(16, Bs.enc x0), (1, [I64.v x1])]) ⟨TE.piece (t := 23) Kr e0, ⟨TE.piece (t := 3) Kr e1, hl.trans Kr⟩⟩⟩
theorem te38 : TE Try.prog 38 { x : Pair // x.WF } (fun x => x.val.enc) := fun e w base sp held fuel cs y h => by
  obtain ⟨xs, n, _, _, hl, hx, hf⟩ := DataW.trod_struct Try.underlying38 h
  obtain ⟨⟨x0, w0⟩, e0⟩ := te36 e w base sp held n _ _ ((hf 0 _ rfl).trans (List.getElem?_eq_getElem (by rw [hx]; decide)))
  obtain ⟨⟨x1, w1⟩, e1⟩ := te36 e w base sp held n _ _ ((hf 1 _ rfl).trans (List.getElem?_eq_getElem (by rw [hx]; decide)))
  exact ⟨⟨⟨x0, x1⟩, ⟨w0, w1⟩⟩, Pieces.eq (off := 0) (l := [(17, Prefix.enc x0), (17, Prefix.enc x1)]) ⟨TE.piece (t := 36) Kr e0, ⟨TE.piece (t := 36) Kr e1, hl.trans Kr⟩⟩⟩
theorem te76 : TE Try.prog 76 { n : Int // 0 ≤ n ∧ n ≤ 4294967295 } (fun n => [.int .u32 n.val]) := TE.intW (by decide) (by decide) Try.underlying76
theorem te39 (W : World) : TEW Try.prog W 39 { s : Slc // SlIn (frAll W) 1 (fun n => [Value.int .u32 n]) (fun n => 0 ≤ n ∧ n ≤ 4294967295) s } (fun s => [Slc.v s.val]) := TEW.slice (z := 1) (enc := (fun n => [Value.int .u32 n])) Try.underlying39 (te76.at W) (by kernel_rfl) (by decide) (fun _ => rfl)
theorem te41 (W : World) : TEW Try.prog W 41 { x : Tlv // ok41 (frAll W) x } (fun x => x.val.enc) := fun e base sp held fuel cs y h => by
  obtain ⟨xs, n, _, _, hl, hx, hf⟩ := DataW.trod_struct Try.underlying41 h
  obtain ⟨⟨x0, w0⟩, e0⟩ := te5 e W base sp held n _ _ ((hf 0 _ rfl).trans (List.getElem?_eq_getElem (by rw [hx]; decide)))
  obtain ⟨⟨x1, w1⟩, e1⟩ := te32 e W base sp held n _ _ ((hf 1 _ rfl).trans (List.getElem?_eq_getElem (by rw [hx]; decide)))
  obtain ⟨⟨x2, w2⟩, e2⟩ := te32 e W base sp held n _ _ ((hf 2 _ rfl).trans (List.getElem?_eq_getElem (by rw [hx]; decide)))
  obtain ⟨⟨x3, w3⟩, e3⟩ := te32 e W base sp held n _ _ ((hf 3 _ rfl).trans (List.getElem?_eq_getElem (by rw [hx]; decide)))
  obtain ⟨⟨x4, w4⟩, e4⟩ := te32 e W base sp held n _ _ ((hf 4 _ rfl).trans (List.getElem?_eq_getElem (by rw [hx]; decide)))
  obtain ⟨⟨x5, w5⟩, e5⟩ := te32 e W base sp held n _ _ ((hf 5 _ rfl).trans (List.getElem?_eq_getElem (by rw [hx]; decide)))
  obtain ⟨⟨x6, w6⟩, e6⟩ := te5 e W base sp held n _ _ ((hf 6 _ rfl).trans (List.getElem?_eq_getElem (by rw [hx]; decide)))
  obtain ⟨x7, e7⟩ := te4 e W base sp held n _ _ ((hf 7 _ rfl).trans (List.getElem?_eq_getElem (by rw [hx]; decide)))
  obtain ⟨x8, e8⟩ := te4 e W base sp held n _ _ ((hf 8 _ rfl).trans (List.getElem?_eq_getElem (by rw [hx]; decide)))
  obtain ⟨x9, e9⟩ := te34 e W base sp held n _ _ ((hf 9 _ rfl).trans (List.getElem?_eq_getElem (by rw [hx]; decide)))
  obtain ⟨x10, e10⟩ := te23 e W base sp held n _ _ ((hf 10 _ rfl).trans (List.getElem?_eq_getElem (by rw [hx]; decide)))
  obtain ⟨⟨x11, w11⟩, e11⟩ := te38 e W base sp held n _ _ ((hf 11 _ rfl).trans (List.getElem?_eq_getElem (by rw [hx]; decide)))
  obtain ⟨⟨x12, w12⟩, e12⟩ := te39 W e base sp held n _ _ ((hf 12 _ rfl).trans (List.getElem?_eq_getElem (by rw [hx]; decide)))
  exact ⟨⟨⟨x0, x1, x2, x3, x4, x5, x6, x7, x8, x9, x10, x11, x12⟩, ⟨w0, w1, w2, w3, w4, w5, w6, trivial, trivial, trivial, trivial, w11, trivial⟩, w12⟩, Pieces.eq (off := 0) (l := [(1, [.int .u8 x0]), (1, [.int .u16 x1]), (1, [.int .u16 x2]), (1, [.int .u16 x3]), (1, [.int .u16 x4]), (1, [.int .u16 x5]), (1, [.int .u8 x6]), (1, [.bool x7]), (1, [.bool x8]), (8, Bs.enc x9), (16, Bs.enc x10), (34, Pair.enc x11), (1, [Slc.v x12])]) ⟨TE.piece (t := 5) Kr e0, ⟨TE.piece (t := 32) Kr e1, ⟨TE.piece (t := 32) Kr e2, ⟨TE.piece (t := 32) Kr e3, ⟨TE.piece (t := 32) Kr e4, ⟨TE.piece (t := 32) Kr e5, ⟨TE.piece (t := 5) Kr e6, ⟨TE.piece (t := 4) Kr e7, ⟨TE.piece (t := 4) Kr e8, ⟨TE.piece (t := 34) Kr e9, ⟨TE.piece (t := 23) Kr e10, ⟨TE.piece (t := 38) Kr e11, ⟨TE.piece (t := 39) Kr e12, hl.trans Kr⟩⟩⟩⟩⟩⟩⟩⟩⟩⟩⟩⟩⟩⟩
theorem byte1 : Try.prog.bytesOf 5 = 1 := by kernel_rfl

theorem packetChecks_lifted (os : Os) (started : os.Started) (H : Type) (enc : TypeId × Value → H) :
    ReturnsInHanded {} Try.checked os 6 .any (Rows.packetChecksSpec.pre6 enc Try.prog Try.f6 Rows.packetChecksRow.domain false) (Rows.packetChecksSpec.post enc Try.prog Try.f6 false true false false) := by
  refine returnsInHanded_of_change_sized (C := Try.checked) Try.own started Kr Try.func6
    (ChangeSpec.witness6 (enc := enc) (C := Try.checked) false ⟨#[], #[.agg Tlv.zero.enc.toArray, .agg Tlv.zero.enc.toArray], []⟩ 8 Kr Kr Kr Kr) ?_
  intro W base args ds gs before hval0 hW hcnd hsz0 _
  have hval : ∀ (j : Nat) t v, Try.f6.params[j]? = some t → args[j]? = some v → Value.okWide Try.prog W .any base t v := hval0
  have hW' := hW
  obtain ⟨p, q, hA0, hV, rfl, hfz, hnd⟩ := hW
  have hA : DataW.TrodAll enc Try.prog W 0 (fun _ => true) true Try.f6.params.toList args.toList ds p := hA0
  rw [Try.params6] at hA hval
  rw [Try.params6] at hsz0
  obtain ⟨v0, vs0, d0, ds0, p0, q0, e0, rfl, rfl, h0, r0⟩ := trodAll_cons hA
  obtain ⟨v1, vs1, d1, ds1, p1, q1, e1, rfl, rfl, h1, r1⟩ := trodAll_cons r0
  obtain ⟨e2, rfl, rfl⟩ := trodAll_nil r1
  rw [e2] at e1
  rw [e1] at e0
  obtain rfl : args = #[v0, v1] := Array.ext' (by simpa using e0)
  obtain ⟨rfl, rfl⟩ := trodVars_none hV
  obtain ⟨⟨x0, w0⟩, rfl⟩ := val_aggW (te41 W) Kr (hval 0 41 v0 rfl rfl) h0
  obtain ⟨⟨x1, w1⟩, rfl⟩ := val_aggW (te41 W) Kr (hval 1 41 v1 rfl rfl) h1
  have hz0_12 : x0.stamps.n * Try.prog.bytesOf 76 ≤ reachBytes := by
    rcases wt_field (i := 12) Try.underlying41 rfl Try.underlying39 (a := x0.stamps.a) (n := x0.stamps.n) (c := x0.stamps.c) h0 Kr rfl (Tlv.sub_stamps x0) with h9 | ⟨k, hk, hle⟩
    · rw [h9]; simp
    · exact Nat.le_trans hle (of_decide_eq_true (List.all_eq_true.1 hsz0 k (DataW.weights_mem_each (j := 0) rfl rfl k hk)))
  have hz1_12 : x1.stamps.n * Try.prog.bytesOf 76 ≤ reachBytes := by
    rcases wt_field (i := 12) Try.underlying41 rfl Try.underlying39 (a := x1.stamps.a) (n := x1.stamps.n) (c := x1.stamps.c) h1 Kr rfl (Tlv.sub_stamps x1) with h9 | ⟨k, hk, hle⟩
    · rw [h9]; simp
    · exact Nat.le_trans hle (of_decide_eq_true (List.all_eq_true.1 hsz0 k (DataW.weights_mem_each (j := 1) rfl rfl k hk)))
  have k0 := w0.2
  have k1 := w1.2
  obtain ⟨xs0, e0, l0, g0, _⟩ := k0
  obtain ⟨xs1, e1, l1, g1, _⟩ := k1
  have t0 : tlvS ⟨x0, x0.stamps.a, x0.stamps.c, xs0⟩ = x0 := by show ({ x0 with stamps := ⟨x0.stamps.a, xs0.length, x0.stamps.c⟩ } : Tlv) = x0; rw [← e0]
  have t1 : tlvS ⟨x1, x1.stamps.a, x1.stamps.c, xs1⟩ = x1 := by show ({ x1 with stamps := ⟨x1.stamps.a, xs1.length, x1.stamps.c⟩ } : Tlv) = x1; rw [← e1]
  have hsum : xs0.length + xs1.length ≤ 9223372036854775807 := by rw [show Try.prog.bytesOf 76 = 4 by kernel_rfl, e0] at hz0_12; rw [show Try.prog.bytesOf 76 = 4 by kernel_rfl, e1] at hz1_12; have := reach_le; omega
  have hlaw := law_checks (frAll W) ⟨x0, x0.stamps.a, x0.stamps.c, xs0⟩ ⟨x1, x1.stamps.a, x1.stamps.c, xs1⟩ g0 g1 hsum
  rw [t0, t1] at hlaw
  refine (hlaw W (sat_frAll W)).mono ?_
  rintro e W' ⟨v, S, rfl, ⟨rfl, rfl⟩, s⟩
  exact ⟨_, rfl, post_law Try.laidOut (bt := 4) hW' rfl rfl rfl rfl rfl Try.underlying4 (by rw [Try.params6]; decide +kernel) (below_of_sat s)⟩
theorem packetChecks_holds : Rows.PacketChecksSaid :=
  OpenClaim.holds_of_wide 6 Try.f6 rfl rfl rfl rfl rfl rfl rfl ⟨rfl, rfl, rfl, rfl, rfl⟩ rfl rfl rfl rfl rfl Kr Try.func6 Kr
    (of_decide_eq_true Kr) (by unfold Func.isWrapper; first | (rw [if_pos (by decide +kernel)]; kernel_rfl) | (rw [if_neg (by decide +kernel)]; exact ⟨rfl, rfl⟩))
    (fun os started H enc _ => packetChecks_lifted os started H enc)
end Go.Proofs.Ytiohlongddnclaa
