/- K21: a part of the proof that a law of this package holds for every input; no condition. -/
import Derived.Test.YtgcjmamfbcmccaaK20
import Derived.Test.YtgcjmamfbcmccaaB32
import Derived.Test.YtgcjmamfbcmccaaRows
namespace Go.Proofs.Ytgcjmamfbcmccaa
open Go.Proofs Slb Go.ChangeShapes Go.WideShapes Go.ChangeAt Go.RowKit
set_option maxRecDepth 100000
theorem Try.own : ownKnob Try.prog.godebug = none := by kernel_rfl
theorem Try.laidOut : laidOutB Try.prog = true := by kernel_rfl
theorem te3 : TE Try.prog 3 { n : Int // -9223372036854775808 ≤ n ∧ n ≤ 9223372036854775807 } (fun n => [.int .i64 n.val]) := TE.intW (by decide) (by decide) Try.underlying3
theorem te30 : TE Try.prog 30 (Bs 16) Bs.enc := TE.bytes Try.underlying30 Try.underlying5 (by kernel_rfl) (by kernel_rfl)
theorem te3i : TE Try.prog 3 I64 (fun n => [I64.v n]) := TE.i64 Try.underlying3
theorem te33 : TE Try.prog 33 { x : Prefix // x.WF } (fun x => x.val.enc) := fun e w base sp held fuel cs y h => by
  obtain ⟨xs, n, _, _, hl, hx, hf⟩ := DataW.trod_struct Try.underlying33 h
  obtain ⟨x0, e0⟩ := te30 e w base sp held n _ _ ((hf 0 _ rfl).trans (List.getElem?_eq_getElem (by rw [hx]; decide)))
  obtain ⟨x1, e1⟩ := te3i e w base sp held n _ _ ((hf 1 _ rfl).trans (List.getElem?_eq_getElem (by rw [hx]; decide)))
  exact ⟨⟨⟨x0, x1⟩, ⟨trivial, trivial⟩⟩, Pieces.eq (off := 0) (l := [(16, Bs.enc x0), (1, [I64.v x1])]) ⟨TE.piece (t := 30) (by kernel_rfl) e0, ⟨TE.piece (t := 3) (by kernel_rfl) e1, hl.trans (by kernel_rfl)⟩⟩⟩
theorem te36 : TE Try.prog 36 { x : Pair // x.WF } (fun x => x.val.enc) := fun e w base sp held fuel cs y h => by
  obtain ⟨xs, n, _, _, hl, hx, hf⟩ := DataW.trod_struct Try.underlying36 h
  obtain ⟨⟨x0, w0⟩, e0⟩ := te33 e w base sp held n _ _ ((hf 0 _ rfl).trans (List.getElem?_eq_getElem (by rw [hx]; decide)))
  obtain ⟨⟨x1, w1⟩, e1⟩ := te33 e w base sp held n _ _ ((hf 1 _ rfl).trans (List.getElem?_eq_getElem (by rw [hx]; decide)))
  exact ⟨⟨⟨x0, x1⟩, ⟨w0, w1⟩⟩, Pieces.eq (off := 0) (l := [(17, Prefix.enc x0), (17, Prefix.enc x1)]) ⟨TE.piece (t := 33) (by kernel_rfl) e0, ⟨TE.piece (t := 33) (by kernel_rfl) e1, hl.trans (by kernel_rfl)⟩⟩⟩
theorem te38 : TE Try.prog 38 { x : Entry // x.WF } (fun x => x.val.enc) := fun e w base sp held fuel cs y h => by
  obtain ⟨xs, n, _, _, hl, hx, hf⟩ := DataW.trod_struct Try.underlying38 h
  obtain ⟨⟨x0, w0⟩, e0⟩ := te36 e w base sp held n _ _ ((hf 0 _ rfl).trans (List.getElem?_eq_getElem (by rw [hx]; decide)))
  obtain ⟨x1, e1⟩ := te3i e w base sp held n _ _ ((hf 1 _ rfl).trans (List.getElem?_eq_getElem (by rw [hx]; decide)))
  obtain ⟨x2, e2⟩ := te30 e w base sp held n _ _ ((hf 2 _ rfl).trans (List.getElem?_eq_getElem (by rw [hx]; decide)))
  exact ⟨⟨⟨x0, x1, x2⟩, ⟨w0, trivial, trivial⟩⟩, Pieces.eq (off := 0) (l := [(34, Pair.enc x0), (1, [I64.v x1]), (16, Bs.enc x2)]) ⟨TE.piece (t := 36) (by kernel_rfl) e0, ⟨TE.piece (t := 3) (by kernel_rfl) e1, ⟨TE.piece (t := 30) (by kernel_rfl) e2, hl.trans (by kernel_rfl)⟩⟩⟩⟩
theorem te42 : TE Try.prog 42 { x : Slb.Op // x.WF } (fun x => x.val.enc) := fun e w base sp held fuel cs y h => by
  obtain ⟨xs, n, _, _, hl, hx, hf⟩ := DataW.trod_struct Try.underlying42 h
  obtain ⟨⟨x0, w0⟩, e0⟩ := te3 e w base sp held n _ _ ((hf 0 _ rfl).trans (List.getElem?_eq_getElem (by rw [hx]; decide)))
  obtain ⟨⟨x1, w1⟩, e1⟩ := te38 e w base sp held n _ _ ((hf 1 _ rfl).trans (List.getElem?_eq_getElem (by rw [hx]; decide)))
  exact ⟨⟨⟨x0, x1⟩, ⟨w0, w1⟩⟩, Pieces.eq (off := 0) (l := [(1, [.int .i64 x0]), (51, Entry.enc x1)]) ⟨TE.piece (t := 3) (by kernel_rfl) e0, ⟨TE.piece (t := 38) (by kernel_rfl) e1, hl.trans (by kernel_rfl)⟩⟩⟩
theorem te57 : TE Try.prog 57 { x : Law20Act // x.WF } (fun x => x.val.enc) := fun e w base sp held fuel cs y h => by
  obtain ⟨xs, n, _, _, hl, hx, hf⟩ := DataW.trod_struct Try.underlying57 h
  obtain ⟨⟨x0, w0⟩, e0⟩ := te3 e w base sp held n _ _ ((hf 0 _ rfl).trans (List.getElem?_eq_getElem (by rw [hx]; decide)))
  obtain ⟨⟨x1, w1⟩, e1⟩ := te42 e w base sp held n _ _ ((hf 1 _ rfl).trans (List.getElem?_eq_getElem (by rw [hx]; decide)))
  obtain ⟨⟨x2, w2⟩, e2⟩ := te3 e w base sp held n _ _ ((hf 2 _ rfl).trans (List.getElem?_eq_getElem (by rw [hx]; decide)))
  obtain ⟨x3, e3⟩ := te30 e w base sp held n _ _ ((hf 3 _ rfl).trans (List.getElem?_eq_getElem (by rw [hx]; decide)))
  obtain ⟨x4, e4⟩ := te30 e w base sp held n _ _ ((hf 4 _ rfl).trans (List.getElem?_eq_getElem (by rw [hx]; decide)))
  exact ⟨⟨⟨x0, x1, x2, x3, x4⟩, ⟨w0, w1, w2, trivial, trivial⟩⟩, Pieces.eq (off := 0) (l := [(1, [.int .i64 x0]), (52, Slb.Op.enc x1), (1, [.int .i64 x2]), (16, Bs.enc x3), (16, Bs.enc x4)]) ⟨TE.piece (t := 3) (by kernel_rfl) e0, ⟨TE.piece (t := 42) (by kernel_rfl) e1, ⟨TE.piece (t := 3) (by kernel_rfl) e2, ⟨TE.piece (t := 30) (by kernel_rfl) e3, ⟨TE.piece (t := 30) (by kernel_rfl) e4, hl.trans (by kernel_rfl)⟩⟩⟩⟩⟩⟩

theorem kernelPlays_lifted (os : Os) (started : os.Started) (H : Type) (enc : TypeId × Value → H) :
    ReturnsInHanded {} Try.checked os 6 .any (Rows.kernelPlaysSpec.pre6 enc Try.prog Try.f6 Rows.kernelPlaysRow.domain false) (Rows.kernelPlaysSpec.post enc Try.prog Try.f6 false true false false) := by
  refine returnsInHanded_of_change (C := Try.checked) Try.own started (by kernel_rfl) Try.func6
    (ChangeSpec.witness6 (enc := enc) (C := Try.checked) false ⟨#[], #[.slice none 0 0], []⟩ 8 (by kernel_rfl) (by kernel_rfl) (by kernel_rfl) (by kernel_rfl)) ?_
  intro W base args ds gs before hval0 hW hcnd _
  have hval : ∀ (j : Nat) t v, Try.f6.params[j]? = some t → args[j]? = some v → Value.okWide Try.prog W .any base t v := hval0
  have hW' := hW
  obtain ⟨p, q, hA0, hV, rfl, hfz, hnd⟩ := hW
  have hA : DataW.TrodAll enc Try.prog W 0 (fun _ => true) true Try.f6.params.toList args.toList ds p := hA0
  rw [Try.params6] at hA hval
  obtain ⟨v0, vs0, d0, ds0, p0, q0, e0, rfl, rfl, h0, r0⟩ := trodAll_cons hA
  obtain ⟨e1, rfl, rfl⟩ := trodAll_nil r0
  rw [e1] at e0
  obtain rfl : args = #[v0] := Array.ext' (by simpa using e0)
  obtain ⟨rfl, rfl⟩ := trodVars_none hV
  obtain ⟨a0, x0, c0, rfl, hl0, ha0, w0⟩ := sl_argW Try.underlying52 te57 (by kernel_rfl) (by decide) Law20Act.enc_len (hval 0 52 v0 rfl rfl) h0
  refine (law_plays (frAll W) (Nat.le_trans hl0 (by decide)) ha0 w0 W (sat_frAll W)).mono ?_
  rintro e W' ⟨v, S, rfl, ⟨rfl, rfl⟩, s⟩
  exact ⟨_, rfl, post_law Try.laidOut (bt := 4) hW' rfl rfl rfl rfl rfl Try.underlying4 (by rw [Try.params6]; decide +kernel) (below_of_sat s)⟩
theorem kernelPlays_holds : Rows.KernelPlaysSaid :=
  OpenClaim.holds_of_wide 6 Try.f6 rfl rfl rfl rfl rfl rfl rfl ⟨rfl, rfl, rfl, rfl, rfl⟩ rfl rfl rfl rfl rfl (by kernel_rfl) Try.func6 (by kernel_rfl)
    (of_decide_eq_true (by kernel_rfl)) (by unfold Func.isWrapper; first | (rw [if_pos (by decide +kernel)]; kernel_rfl) | (rw [if_neg (by decide +kernel)]; exact ⟨rfl, rfl⟩))
    (fun os started H enc _ => kernelPlays_lifted os started H enc)
end Go.Proofs.Ytgcjmamfbcmccaa
