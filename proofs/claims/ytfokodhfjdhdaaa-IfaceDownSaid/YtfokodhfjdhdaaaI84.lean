/- I84: a part of the proof that a law of this package holds for every input; no condition. -/
import Derived.Test.YtfokodhfjdhdaaaM2
import Derived.Test.YtfokodhfjdhdaaaI83
import Derived.ChangeMaps5
import Derived.Test.YtfokodhfjdhdaaaRows
namespace Go.Proofs.Ytfokodhfjdhdaaa
open Go.Proofs Slb Go.ChangeShapes Go.WideShapes Go.ChangeAt Go.RowKit
set_option maxRecDepth 100000
theorem Try.own : ownKnob Try.prog.godebug = none := by kernel_rfl
theorem Try.laidOut : laidOutB Try.prog = true := by kernel_rfl
theorem te9 : TE Try.prog 9 ByteArray (fun s => [.string s]) := TE.str Try.underlying9
theorem te9w : TE Try.prog 9 { s : ByteArray // s.size ≤ maxLen } (fun s => [.string s.val]) := fun e w base sp held fuel cs y h => by
  obtain ⟨n, h1, _, h2⟩ := DataW.trod_string Try.underlying9 h
  exact ⟨⟨n, h2⟩, h1⟩
theorem te3 : TE Try.prog 3 { n : Int // -9223372036854775808 ≤ n ∧ n ≤ 9223372036854775807 } (fun n => [.int .i64 n.val]) := TE.intW (by decide) (by decide) Try.underlying3
theorem te23 : TE Try.prog 23 (Bs 16) Bs.enc := TE.bytes Try.underlying23 Try.underlying5 (by kernel_rfl) (by kernel_rfl)
theorem te4 : TE Try.prog 4 Bool (fun n => [.bool n]) := TE.bool Try.underlying4
theorem te25 : TE Try.prog 25 { x : Rtt // x.WF } (fun x => x.val.enc) := fun e w base sp held fuel cs y h => by
  obtain ⟨xs, n, _, _, hl, hx, hf⟩ := DataW.trod_struct Try.underlying25 h
  obtain ⟨x0, e0⟩ := te4 e w base sp held n _ _ ((hf 0 _ rfl).trans (List.getElem?_eq_getElem (by rw [hx]; decide)))
  obtain ⟨⟨x1, w1⟩, e1⟩ := te3 e w base sp held n _ _ ((hf 1 _ rfl).trans (List.getElem?_eq_getElem (by rw [hx]; decide)))
  obtain ⟨⟨x2, w2⟩, e2⟩ := te3 e w base sp held n _ _ ((hf 2 _ rfl).trans (List.getElem?_eq_getElem (by rw [hx]; decide)))
  obtain ⟨⟨x3, w3⟩, e3⟩ := te3 e w base sp held n _ _ ((hf 3 _ rfl).trans (List.getElem?_eq_getElem (by rw [hx]; decide)))
  obtain ⟨⟨x4, w4⟩, e4⟩ := te3 e w base sp held n _ _ ((hf 4 _ rfl).trans (List.getElem?_eq_getElem (by rw [hx]; decide)))
  exact ⟨⟨⟨x0, x1, x2, x3, x4⟩, ⟨trivial, w1, w2, w3, w4⟩⟩, Pieces.eq (off := 0) (l := [(1, [.bool x0]), (1, [.int .i64 x1]), (1, [.int .i64 x2]), (1, [.int .i64 x3]), (1, [.int .i64 x4])]) ⟨TE.piece (t := 4) Kr e0, ⟨TE.piece (t := 3) Kr e1, ⟨TE.piece (t := 3) Kr e2, ⟨TE.piece (t := 3) Kr e3, ⟨TE.piece (t := 3) Kr e4, hl.trans Kr⟩⟩⟩⟩⟩⟩
theorem te27 : TE Try.prog 27 { x : IfConf // x.WF } (fun x => x.val.enc) := fun e w base sp held fuel cs y h => by
  obtain ⟨xs, n, _, _, hl, hx, hf⟩ := DataW.trod_struct Try.underlying27 h
  obtain ⟨x0, e0⟩ := te9 e w base sp held n _ _ ((hf 0 _ rfl).trans (List.getElem?_eq_getElem (by rw [hx]; decide)))
  obtain ⟨⟨x1, w1⟩, e1⟩ := te3 e w base sp held n _ _ ((hf 1 _ rfl).trans (List.getElem?_eq_getElem (by rw [hx]; decide)))
  obtain ⟨⟨x2, w2⟩, e2⟩ := te3 e w base sp held n _ _ ((hf 2 _ rfl).trans (List.getElem?_eq_getElem (by rw [hx]; decide)))
  obtain ⟨⟨x3, w3⟩, e3⟩ := te3 e w base sp held n _ _ ((hf 3 _ rfl).trans (List.getElem?_eq_getElem (by rw [hx]; decide)))
  obtain ⟨⟨x4, w4⟩, e4⟩ := te3 e w base sp held n _ _ ((hf 4 _ rfl).trans (List.getElem?_eq_getElem (by rw [hx]; decide)))
  obtain ⟨⟨x5, w5⟩, e5⟩ := te3 e w base sp held n _ _ ((hf 5 _ rfl).trans (List.getElem?_eq_getElem (by rw [hx]; decide)))
  obtain ⟨x6, e6⟩ := te23 e w base sp held n _ _ ((hf 6 _ rfl).trans (List.getElem?_eq_getElem (by rw [hx]; decide)))
  obtain ⟨x7, e7⟩ := te23 e w base sp held n _ _ ((hf 7 _ rfl).trans (List.getElem?_eq_getElem (by rw [hx]; decide)))
  obtain ⟨⟨x8, w8⟩, e8⟩ := te25 e w base sp held n _ _ ((hf 8 _ rfl).trans (List.getElem?_eq_getElem (by rw [hx]; decide)))
  exact ⟨⟨⟨x0, x1, x2, x3, x4, x5, x6, x7, x8⟩, ⟨trivial, w1, w2, w3, w4, w5, trivial, trivial, w8⟩⟩, Pieces.eq (off := 0) (l := [(1, [.string x0]), (1, [.int .i64 x1]), (1, [.int .i64 x2]), (1, [.int .i64 x3]), (1, [.int .i64 x4]), (1, [.int .i64 x5]), (16, Bs.enc x6), (16, Bs.enc x7), (5, Rtt.enc x8)]) ⟨TE.piece (t := 9) Kr e0, ⟨TE.piece (t := 3) Kr e1, ⟨TE.piece (t := 3) Kr e2, ⟨TE.piece (t := 3) Kr e3, ⟨TE.piece (t := 3) Kr e4, ⟨TE.piece (t := 3) Kr e5, ⟨TE.piece (t := 23) Kr e6, ⟨TE.piece (t := 23) Kr e7, ⟨TE.piece (t := 25) Kr e8, hl.trans Kr⟩⟩⟩⟩⟩⟩⟩⟩⟩⟩

theorem ifaceDown_lifted (os : Os) (started : os.Started) (H : Type) (enc : TypeId × Value → H) :
    ReturnsInHanded {} Try.checked os 3 .any (Rows.ifaceDownSpec.pre6 enc Try.prog Try.f3 Rows.ifaceDownRow.domain false) (Rows.ifaceDownSpec.post enc Try.prog Try.f3 false true false false) := by
  refine returnsInHanded_of_change (C := Try.checked) Try.own started Kr Try.func3
    (ChangeSpec.witness6 (enc := enc) (C := Try.checked) false ⟨#[], #[.agg IfConf.zero.enc.toArray, .agg IfConf.zero.enc.toArray, .agg (Bs.zero 16).enc.toArray, .int .i64 0], []⟩ 8 Kr Kr Kr Kr) ?_
  intro W base args ds gs before hval0 hW hcnd _
  have hval : ∀ (j : Nat) t v, Try.f3.params[j]? = some t → args[j]? = some v → Value.okWide Try.prog W .any base t v := hval0
  have hW' := hW
  obtain ⟨p, q, hA0, hV, rfl, hfz, hnd⟩ := hW
  have hA : DataW.TrodAll enc Try.prog W 0 (fun _ => true) true Try.f3.params.toList args.toList ds p := hA0
  rw [Try.params3] at hA hval
  obtain ⟨v0, vs0, d0, ds0, p0, q0, e0, rfl, rfl, h0, r0⟩ := trodAll_cons hA
  obtain ⟨v1, vs1, d1, ds1, p1, q1, e1, rfl, rfl, h1, r1⟩ := trodAll_cons r0
  obtain ⟨v2, vs2, d2, ds2, p2, q2, e2, rfl, rfl, h2, r2⟩ := trodAll_cons r1
  obtain ⟨v3, vs3, d3, ds3, p3, q3, e3, rfl, rfl, h3, r3⟩ := trodAll_cons r2
  obtain ⟨e4, rfl, rfl⟩ := trodAll_nil r3
  rw [e4] at e3
  rw [e3] at e2
  rw [e2] at e1
  rw [e1] at e0
  obtain rfl : args = #[v0, v1, v2, v3] := Array.ext' (by simpa using e0)
  obtain ⟨rfl, rfl⟩ := trodVars_none hV
  obtain ⟨⟨x0, w0⟩, rfl⟩ := val_agg te27 Kr (hval 0 27 v0 rfl rfl) h0
  obtain ⟨⟨x1, w1⟩, rfl⟩ := val_agg te27 Kr (hval 1 27 v1 rfl rfl) h1
  obtain ⟨x2, rfl⟩ := val_agg te23 Kr (hval 2 23 v2 rfl rfl) h2
  obtain ⟨x3, rfl, rfl, rfl, w3⟩ := open_int Try.underlying3 (hval 3 3 v3 rfl rfl) h3
  have hlaw := law_down (frAll W) x0 x1 x2 x3
  refine (hlaw W (sat_frAll W)).mono ?_
  rintro e W' ⟨v, S, rfl, ⟨rfl, rfl⟩, s⟩
  exact ⟨_, rfl, post_law Try.laidOut (bt := 4) hW' rfl rfl rfl rfl rfl Try.underlying4 (by rw [Try.params3]; decide +kernel) (below_of_sat s)⟩
theorem ifaceDown_holds : Rows.IfaceDownSaid :=
  OpenClaim.holds_of_wide 3 Try.f3 rfl rfl rfl rfl rfl rfl rfl ⟨rfl, rfl, rfl, rfl, rfl⟩ rfl rfl rfl rfl rfl Kr Try.func3 Kr
    (of_decide_eq_true Kr) (by unfold Func.isWrapper; first | (rw [if_pos (by decide +kernel)]; kernel_rfl) | (rw [if_neg (by decide +kernel)]; exact ⟨rfl, rfl⟩))
    (fun os started H enc _ => ifaceDown_lifted os started H enc)
end Go.Proofs.Ytfokodhfjdhdaaa
