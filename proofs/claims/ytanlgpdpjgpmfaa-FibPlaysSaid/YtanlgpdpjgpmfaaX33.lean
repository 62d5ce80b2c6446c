/- X33: a part of the proof that a law of this package holds for every input; no condition. -/
import Derived.Test.YtanlgpdpjgpmfaaX32
import Derived.Test.YtanlgpdpjgpmfaaM2
import Derived.Test.YtanlgpdpjgpmfaaRows
namespace Go.Proofs.Ytanlgpdpjgpmfaa
open Go.Proofs Slb Go.ChangeShapes Go.WideShapes Go.ChangeAt Go.RowKit
set_option maxRecDepth 100000
theorem Try.own : ownKnob Try.prog.godebug = none := by kernel_rfl
theorem Try.laidOut : laidOutB Try.prog = true := by kernel_rfl
theorem te3 : TE Try.prog 3 { n : Int // -9223372036854775808 ≤ n ∧ n ≤ 9223372036854775807 } (fun n => [.int .i64 n.val]) := TE.intW (by decide) (by decide) Try.underlying3
theorem te35 : TE Try.prog 35 (Bs 16) Bs.enc := TE.bytes Try.underlying35 Try.underlying5 (by kernel_rfl) (by kernel_rfl)
theorem te3i : TE Try.prog 3 I64 (fun n => [I64.v n]) := TE.i64 Try.underlying3
theorem te37 : TE Try.prog 37 { x : Prefix // x.WF } (fun x => x.val.enc) := fun e w base sp held fuel cs y h => by
  obtain ⟨xs, n, _, _, hl, hx, hf⟩ := DataW.trod_struct Try.underlying37 h
  obtain ⟨x0, e0⟩ := te35 e w base sp held n _ _ ((hf 0 _ rfl).trans (List.getElem?_eq_getElem (by rw [hx]; decide)))
  obtain ⟨x1, e1⟩ := te3i e w base sp held n _ _ ((hf 1 _ rfl).trans (List.getElem?_eq_getElem (by rw [hx]; decide)))
  exact ⟨⟨⟨x0, x1⟩, ⟨trivial, trivial⟩⟩, Pieces.eq (off := 0) (l := [(16, Bs.enc x0), (1, [I64.v x1])]) ⟨TE.piece (t := 35) (by kernel_rfl) e0, ⟨TE.piece (t := 3) (by kernel_rfl) e1, hl.trans (by kernel_rfl)⟩⟩⟩
theorem te39 : TE Try.prog 39 { x : Pair // x.WF } (fun x => x.val.enc) := fun e w base sp held fuel cs y h => by
  obtain ⟨xs, n, _, _, hl, hx, hf⟩ := DataW.trod_struct Try.underlying39 h
  obtain ⟨⟨x0, w0⟩, e0⟩ := te37 e w base sp held n _ _ ((hf 0 _ rfl).trans (List.getElem?_eq_getElem (by rw [hx]; decide)))
  obtain ⟨⟨x1, w1⟩, e1⟩ := te37 e w base sp held n _ _ ((hf 1 _ rfl).trans (List.getElem?_eq_getElem (by rw [hx]; decide)))
  exact ⟨⟨⟨x0, x1⟩, ⟨w0, w1⟩⟩, Pieces.eq (off := 0) (l := [(17, Prefix.enc x0), (17, Prefix.enc x1)]) ⟨TE.piece (t := 37) (by kernel_rfl) e0, ⟨TE.piece (t := 37) (by kernel_rfl) e1, hl.trans (by kernel_rfl)⟩⟩⟩
theorem te41 : TE Try.prog 41 { x : Entry // x.WF } (fun x => x.val.enc) := fun e w base sp held fuel cs y h => by
  obtain ⟨xs, n, _, _, hl, hx, hf⟩ := DataW.trod_struct Try.underlying41 h
  obtain ⟨⟨x0, w0⟩, e0⟩ := te39 e w base sp held n _ _ ((hf 0 _ rfl).trans (List.getElem?_eq_getElem (by rw [hx]; decide)))
  obtain ⟨x1, e1⟩ := te3i e w base sp held n _ _ ((hf 1 _ rfl).trans (List.getElem?_eq_getElem (by rw [hx]; decide)))
  obtain ⟨x2, e2⟩ := te35 e w base sp held n _ _ ((hf 2 _ rfl).trans (List.getElem?_eq_getElem (by rw [hx]; decide)))
  exact ⟨⟨⟨x0, x1, x2⟩, ⟨w0, trivial, trivial⟩⟩, Pieces.eq (off := 0) (l := [(34, Pair.enc x0), (1, [I64.v x1]), (16, Bs.enc x2)]) ⟨TE.piece (t := 39) (by kernel_rfl) e0, ⟨TE.piece (t := 3) (by kernel_rfl) e1, ⟨TE.piece (t := 35) (by kernel_rfl) e2, hl.trans (by kernel_rfl)⟩⟩⟩⟩
theorem te22 (W : World) : TEW Try.prog W 22 { s : Slc // SlIn (frAll W) 51 Entry.enc (fun x => x.WF) s } (fun s => [Slc.v s.val]) := TEW.slice Try.underlying22 (te41.at W) (by kernel_rfl) (by decide) Entry.enc_len
theorem te4 : TE Try.prog 4 Bool (fun n => [.bool n]) := TE.bool Try.underlying4
theorem te47 (W : World) : TEW Try.prog W 47 { x : Law19Act // ok47 (frAll W) x } (fun x => x.val.enc) := fun e base sp held fuel cs y h => by
  obtain ⟨xs, n, _, _, hl, hx, hf⟩ := DataW.trod_struct Try.underlying47 h
  obtain ⟨⟨x0, w0⟩, e0⟩ := te3 e W base sp held n _ _ ((hf 0 _ rfl).trans (List.getElem?_eq_getElem (by rw [hx]; decide)))
  obtain ⟨⟨x1, w1⟩, e1⟩ := te3 e W base sp held n _ _ ((hf 1 _ rfl).trans (List.getElem?_eq_getElem (by rw [hx]; decide)))
  obtain ⟨⟨x2, w2⟩, e2⟩ := te22 W e base sp held n _ _ ((hf 2 _ rfl).trans (List.getElem?_eq_getElem (by rw [hx]; decide)))
  obtain ⟨x3, e3⟩ := te4 e W base sp held n _ _ ((hf 3 _ rfl).trans (List.getElem?_eq_getElem (by rw [hx]; decide)))
  exact ⟨⟨⟨x0, x1, x2, x3⟩, ⟨w0, w1, trivial, trivial⟩, w2⟩, Pieces.eq (off := 0) (l := [(1, [.int .i64 x0]), (1, [.int .i64 x1]), (1, [Slc.v x2]), (1, [.bool x3])]) ⟨TE.piece (t := 3) (by kernel_rfl) e0, ⟨TE.piece (t := 3) (by kernel_rfl) e1, ⟨TE.piece (t := 22) (by kernel_rfl) e2, ⟨TE.piece (t := 4) (by kernel_rfl) e3, hl.trans (by kernel_rfl)⟩⟩⟩⟩⟩

theorem fibPlays_lifted (os : Os) (started : os.Started) (H : Type) (enc : TypeId × Value → H) :
    ReturnsInHanded {} Try.checked os 4 .any (Rows.fibPlaysSpec.pre6 enc Try.prog Try.f4 Rows.fibPlaysRow.domain false) (Rows.fibPlaysSpec.post enc Try.prog Try.f4 false true false false) := by
  refine returnsInHanded_of_change (C := Try.checked) Try.own started (by kernel_rfl) Try.func4
    (ChangeSpec.witness6 (enc := enc) (C := Try.checked) false ⟨#[], #[.slice none 0 0], []⟩ 8 (by kernel_rfl) (by kernel_rfl) (by kernel_rfl) (by kernel_rfl)) ?_
  intro W base args ds gs before hval0 hW hcnd _
  have hval : ∀ (j : Nat) t v, Try.f4.params[j]? = some t → args[j]? = some v → Value.okWide Try.prog W .any base t v := hval0
  have hW' := hW
  obtain ⟨p, q, hA0, hV, rfl, hfz, hnd⟩ := hW
  have hA : DataW.TrodAll enc Try.prog W 0 (fun _ => true) true Try.f4.params.toList args.toList ds p := hA0
  rw [Try.params4] at hA hval
  obtain ⟨v0, vs0, d0, ds0, p0, q0, e0, rfl, rfl, h0, r0⟩ := trodAll_cons hA
  obtain ⟨e1, rfl, rfl⟩ := trodAll_nil r0
  rw [e1] at e0
  obtain rfl : args = #[v0] := Array.ext' (by simpa using e0)
  obtain ⟨rfl, rfl⟩ := trodVars_none hV
  obtain ⟨a0, x0, c0, rfl, hl0, ha0, w0⟩ := sl_argT (enc := Law19Act.enc) (p := (ok47 (frAll W))) Try.underlying28 (te47 W) (by kernel_rfl) (by decide) Law19Act.enc_len (hval 0 28 v0 rfl rfl) h0
  refine (law_plays (frAll W) (Nat.le_trans hl0 (by decide)) ha0 w0 W (sat_frAll W)).mono ?_
  rintro e W' ⟨v, S, rfl, ⟨rfl, rfl⟩, s⟩
  exact ⟨_, rfl, post_law Try.laidOut (bt := 4) hW' rfl rfl rfl rfl rfl Try.underlying4 (by rw [Try.params4]; decide +kernel) (below_of_sat s)⟩
theorem fibPlays_holds : Rows.FibPlaysSaid :=
  OpenClaim.holds_of_wide 4 Try.f4 rfl rfl rfl rfl rfl rfl rfl ⟨rfl, rfl, rfl, rfl, rfl⟩ rfl rfl rfl rfl rfl (by kernel_rfl) Try.func4 (by kernel_rfl)
    (of_decide_eq_true (by kernel_rfl)) (by unfold Func.isWrapper; first | (rw [if_pos (by decide +kernel)]; kernel_rfl) | (rw [if_neg (by decide +kernel)]; exact ⟨rfl, rfl⟩))
    (fun os started H enc _ => fibPlays_lifted os started H enc)
end Go.Proofs.Ytanlgpdpjgpmfaa
