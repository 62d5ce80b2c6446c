/- R26: a part of the proof that a law of this package holds for every input; no condition. -/
import Derived.Test.YtfjmefldilponaaR25
import Derived.Test.YtfjmefldilponaaB15
import Derived.Test.YtfjmefldilponaaRows
namespace Go.Proofs.Ytfjmefldilponaa
open Go.Proofs Slb Go.ChangeShapes Go.WideShapes Go.ChangeAt Go.RowKit
set_option maxRecDepth 100000
theorem Try.own : ownKnob Try.prog.godebug = none := by kernel_rfl
theorem Try.laidOut : laidOutB Try.prog = true := by kernel_rfl
theorem te3 : TE Try.prog 3 { n : Int // -9223372036854775808 ≤ n ∧ n ≤ 9223372036854775807 } (fun n => [.int .i64 n.val]) := TE.intW (by decide) (by decide) Try.underlying3
theorem te28 : TE Try.prog 28 (Bs 16) Bs.enc := TE.bytes Try.underlying28 Try.underlying5 (by kernel_rfl) (by kernel_rfl)
theorem te3i : TE Try.prog 3 I64 (fun n => [I64.v n]) := TE.i64 Try.underlying3
theorem te30 : TE Try.prog 30 { x : Prefix // x.WF } (fun x => x.val.enc) := fun e w base sp held fuel cs y h => by
  obtain ⟨xs, n, _, _, hl, hx, hf⟩ := DataW.trod_struct Try.underlying30 h
  obtain ⟨x0, e0⟩ := te28 e w base sp held n _ _ ((hf 0 _ rfl).trans (List.getElem?_eq_getElem (by rw [hx]; decide)))
  obtain ⟨x1, e1⟩ := te3i e w base sp held n _ _ ((hf 1 _ rfl).trans (List.getElem?_eq_getElem (by rw [hx]; decide)))
  exact ⟨⟨⟨x0, x1⟩, ⟨trivial, trivial⟩⟩, Pieces.eq (off := 0) (l := [(16, Bs.enc x0), (1, [I64.v x1])]) ⟨TE.piece (t := 28) (by kernel_rfl) e0, ⟨TE.piece (t := 3) (by kernel_rfl) e1, hl.trans (by kernel_rfl)⟩⟩⟩
theorem te32 : TE Try.prog 32 { x : Pair // x.WF } (fun x => x.val.enc) := fun e w base sp held fuel cs y h => by
  obtain ⟨xs, n, _, _, hl, hx, hf⟩ := DataW.trod_struct Try.underlying32 h
  obtain ⟨⟨x0, w0⟩, e0⟩ := te30 e w base sp held n _ _ ((hf 0 _ rfl).trans (List.getElem?_eq_getElem (by rw [hx]; decide)))
  obtain ⟨⟨x1, w1⟩, e1⟩ := te30 e w base sp held n _ _ ((hf 1 _ rfl).trans (List.getElem?_eq_getElem (by rw [hx]; decide)))
  exact ⟨⟨⟨x0, x1⟩, ⟨w0, w1⟩⟩, Pieces.eq (off := 0) (l := [(17, Prefix.enc x0), (17, Prefix.enc x1)]) ⟨TE.piece (t := 30) (by kernel_rfl) e0, ⟨TE.piece (t := 30) (by kernel_rfl) e1, hl.trans (by kernel_rfl)⟩⟩⟩
theorem te34 : TE Try.prog 34 (Bs 8) Bs.enc := TE.bytes Try.underlying34 Try.underlying5 (by kernel_rfl) (by kernel_rfl)
theorem te35 : TE Try.prog 35 { n : Int // 0 ≤ n ∧ n ≤ 65535 } (fun n => [.int .u16 n.val]) := TE.intW (by decide) (by decide) Try.underlying35
theorem te4 : TE Try.prog 4 Bool (fun n => [.bool n]) := TE.bool Try.underlying4
theorem te37 : TE Try.prog 37 { x : Route // x.WF } (fun x => x.val.enc) := fun e w base sp held fuel cs y h => by
  obtain ⟨xs, n, _, _, hl, hx, hf⟩ := DataW.trod_struct Try.underlying37 h
  obtain ⟨⟨x0, w0⟩, e0⟩ := te32 e w base sp held n _ _ ((hf 0 _ rfl).trans (List.getElem?_eq_getElem (by rw [hx]; decide)))
  obtain ⟨x1, e1⟩ := te3i e w base sp held n _ _ ((hf 1 _ rfl).trans (List.getElem?_eq_getElem (by rw [hx]; decide)))
  obtain ⟨x2, e2⟩ := te28 e w base sp held n _ _ ((hf 2 _ rfl).trans (List.getElem?_eq_getElem (by rw [hx]; decide)))
  obtain ⟨x3, e3⟩ := te34 e w base sp held n _ _ ((hf 3 _ rfl).trans (List.getElem?_eq_getElem (by rw [hx]; decide)))
  obtain ⟨⟨x4, w4⟩, e4⟩ := te35 e w base sp held n _ _ ((hf 4 _ rfl).trans (List.getElem?_eq_getElem (by rw [hx]; decide)))
  obtain ⟨⟨x5, w5⟩, e5⟩ := te35 e w base sp held n _ _ ((hf 5 _ rfl).trans (List.getElem?_eq_getElem (by rw [hx]; decide)))
  obtain ⟨⟨x6, w6⟩, e6⟩ := te35 e w base sp held n _ _ ((hf 6 _ rfl).trans (List.getElem?_eq_getElem (by rw [hx]; decide)))
  obtain ⟨x7, e7⟩ := te28 e w base sp held n _ _ ((hf 7 _ rfl).trans (List.getElem?_eq_getElem (by rw [hx]; decide)))
  obtain ⟨⟨x8, w8⟩, e8⟩ := te3 e w base sp held n _ _ ((hf 8 _ rfl).trans (List.getElem?_eq_getElem (by rw [hx]; decide)))
  obtain ⟨⟨x9, w9⟩, e9⟩ := te3 e w base sp held n _ _ ((hf 9 _ rfl).trans (List.getElem?_eq_getElem (by rw [hx]; decide)))
  obtain ⟨x10, e10⟩ := te4 e w base sp held n _ _ ((hf 10 _ rfl).trans (List.getElem?_eq_getElem (by rw [hx]; decide)))
  exact ⟨⟨⟨x0, x1, x2, x3, x4, x5, x6, x7, x8, x9, x10⟩, ⟨w0, trivial, trivial, trivial, w4, w5, w6, trivial, w8, w9, trivial⟩⟩, Pieces.eq (off := 0) (l := [(34, Pair.enc x0), (1, [I64.v x1]), (16, Bs.enc x2), (8, Bs.enc x3), (1, [.int .u16 x4]), (1, [.int .u16 x5]), (1, [.int .u16 x6]), (16, Bs.enc x7), (1, [.int .i64 x8]), (1, [.int .i64 x9]), (1, [.bool x10])]) ⟨TE.piece (t := 32) (by kernel_rfl) e0, ⟨TE.piece (t := 3) (by kernel_rfl) e1, ⟨TE.piece (t := 28) (by kernel_rfl) e2, ⟨TE.piece (t := 34) (by kernel_rfl) e3, ⟨TE.piece (t := 35) (by kernel_rfl) e4, ⟨TE.piece (t := 35) (by kernel_rfl) e5, ⟨TE.piece (t := 35) (by kernel_rfl) e6, ⟨TE.piece (t := 28) (by kernel_rfl) e7, ⟨TE.piece (t := 3) (by kernel_rfl) e8, ⟨TE.piece (t := 3) (by kernel_rfl) e9, ⟨TE.piece (t := 4) (by kernel_rfl) e10, hl.trans (by kernel_rfl)⟩⟩⟩⟩⟩⟩⟩⟩⟩⟩⟩⟩
theorem te39 : TE Try.prog 39 { x : Law16Act // x.WF } (fun x => x.val.enc) := fun e w base sp held fuel cs y h => by
  obtain ⟨xs, n, _, _, hl, hx, hf⟩ := DataW.trod_struct Try.underlying39 h
  obtain ⟨⟨x0, w0⟩, e0⟩ := te3 e w base sp held n _ _ ((hf 0 _ rfl).trans (List.getElem?_eq_getElem (by rw [hx]; decide)))
  obtain ⟨⟨x1, w1⟩, e1⟩ := te3 e w base sp held n _ _ ((hf 1 _ rfl).trans (List.getElem?_eq_getElem (by rw [hx]; decide)))
  obtain ⟨⟨x2, w2⟩, e2⟩ := te37 e w base sp held n _ _ ((hf 2 _ rfl).trans (List.getElem?_eq_getElem (by rw [hx]; decide)))
  obtain ⟨x3, e3⟩ := te4 e w base sp held n _ _ ((hf 3 _ rfl).trans (List.getElem?_eq_getElem (by rw [hx]; decide)))
  exact ⟨⟨⟨x0, x1, x2, x3⟩, ⟨w0, w1, w2, trivial⟩⟩, Pieces.eq (off := 0) (l := [(1, [.int .i64 x0]), (1, [.int .i64 x1]), (81, Route.enc x2), (1, [.bool x3])]) ⟨TE.piece (t := 3) (by kernel_rfl) e0, ⟨TE.piece (t := 3) (by kernel_rfl) e1, ⟨TE.piece (t := 37) (by kernel_rfl) e2, ⟨TE.piece (t := 4) (by kernel_rfl) e3, hl.trans (by kernel_rfl)⟩⟩⟩⟩⟩

theorem routePlays_lifted (os : Os) (started : os.Started) (H : Type) (enc : TypeId × Value → H) :
    ReturnsInHanded {} Try.checked os 7 .any (Rows.routePlaysSpec.pre6 enc Try.prog Try.f7 Rows.routePlaysRow.domain false) (Rows.routePlaysSpec.post enc Try.prog Try.f7 false true false false) := by
  refine returnsInHanded_of_change (C := Try.checked) Try.own started (by kernel_rfl) Try.func7
    (ChangeSpec.witness6 (enc := enc) (C := Try.checked) false ⟨#[], #[.int .i64 0, .slice none 0 0], []⟩ 8 (by kernel_rfl) (by kernel_rfl) (by kernel_rfl) (by kernel_rfl)) ?_
  intro W base args ds gs before hval0 hW hcnd _
  have hval : ∀ (j : Nat) t v, Try.f7.params[j]? = some t → args[j]? = some v → Value.okWide Try.prog W .any base t v := hval0
  have hW' := hW
  obtain ⟨p, q, hA0, hV, rfl, hfz, hnd⟩ := hW
  have hA : DataW.TrodAll enc Try.prog W 0 (fun _ => true) true Try.f7.params.toList args.toList ds p := hA0
  rw [Try.params7] at hA hval
  obtain ⟨v0, vs0, d0, ds0, p0, q0, e0, rfl, rfl, h0, r0⟩ := trodAll_cons hA
  obtain ⟨v1, vs1, d1, ds1, p1, q1, e1, rfl, rfl, h1, r1⟩ := trodAll_cons r0
  obtain ⟨e2, rfl, rfl⟩ := trodAll_nil r1
  rw [e2] at e1
  rw [e1] at e0
  obtain rfl : args = #[v0, v1] := Array.ext' (by simpa using e0)
  obtain ⟨rfl, rfl⟩ := trodVars_none hV
  obtain ⟨x0, rfl, rfl, rfl, w0⟩ := open_int Try.underlying3 (hval 0 3 v0 rfl rfl) h0
  obtain ⟨a1, x1, c1, rfl, hl1, ha1, w1⟩ := sl_argW Try.underlying22 te39 (by kernel_rfl) (by decide) Law16Act.enc_len (hval 1 22 v1 rfl rfl) h1
  refine (law_plays (frAll W) x0 (Nat.le_trans hl1 (by decide)) ha1 W (sat_frAll W)).mono ?_
  rintro e W' ⟨v, S, rfl, ⟨rfl, rfl⟩, s⟩
  exact ⟨_, rfl, post_law Try.laidOut (bt := 4) hW' rfl rfl rfl rfl rfl Try.underlying4 (by rw [Try.params7]; decide +kernel) (below_of_sat s)⟩
theorem routePlays_holds : Rows.RoutePlaysSaid :=
  OpenClaim.holds_of_wide 7 Try.f7 rfl rfl rfl rfl rfl rfl rfl ⟨rfl, rfl, rfl, rfl, rfl⟩ rfl rfl rfl rfl rfl (by kernel_rfl) Try.func7 (by kernel_rfl)
    (of_decide_eq_true (by kernel_rfl)) (by unfold Func.isWrapper; first | (rw [if_pos (by decide +kernel)]; kernel_rfl) | (rw [if_neg (by decide +kernel)]; exact ⟨rfl, rfl⟩))
    (fun os started H enc _ => routePlays_lifted os started H enc)
end Go.Proofs.Ytfjmefldilponaa
