/- A15: a part of the proof that a law of this package holds for every input; no condition. -/
import Derived.Test.YtjieokfcpbillaaA14
import Derived.Test.YtjieokfcpbillaaB32
import Derived.Test.YtjieokfcpbillaaRows
namespace Go.Proofs.Ytjieokfcpbillaa
open Go.Proofs Slb Go.ChangeShapes Go.WideShapes Go.ChangeAt Go.RowKit
set_option maxRecDepth 100000
theorem Try.own : ownKnob Try.prog.godebug = none := by kernel_rfl
theorem Try.laidOut : laidOutB Try.prog = true := by kernel_rfl
theorem te9 : TE Try.prog 9 ByteArray (fun s => [.string s]) := TE.str Try.underlying9
theorem te3 : TE Try.prog 3 { n : Int // -9223372036854775808 ≤ n ∧ n ≤ 9223372036854775807 } (fun n => [.int .i64 n.val]) := TE.intW (by decide) (by decide) Try.underlying3
theorem te23 : TE Try.prog 23 (Bs 16) Bs.enc := TE.bytes Try.underlying23 Try.underlying5 (by kernel_rfl) (by kernel_rfl)
theorem te4 : TE Try.prog 4 Bool (fun n => [.bool n]) := TE.bool Try.underlying4
theorem te25 : TE Try.prog 25 { x : Rtt // x.WF } (fun x => x.val.enc) := fun e w base sp held fuel cs y h => by
  obtain ⟨xs, n, _, _, hl, hx, hf⟩ := DataW.trod_struct Try.underlying25 h
  obtain ⟨x0, e0⟩ := te4 e w base sp held n _ _ ((hf 0 _ rfl).trans (List.getElem?_eq_getElem (by rw [hx]; decide)))
  obtain ⟨⟨x1, w1⟩, e1⟩ := te3 e w base sp held n _ _ ((hf 1 _ rfl).trans (List.getElem?_eq_getElem (by rw [hx]; decide)))
  obtain ⟨⟨x2, w2⟩, e2⟩ := te3 e w base sp held n _ _ ((hf 2 _ rfl).trans (List.getElem?_eq_getElem (by rw [hx]; decide)))
  obtain ⟨⟨x3, w3⟩, e3⟩ := te3 e w base sp held n _ _ ((hf 3 _ rfl).trans (List.getElem?_eq_getElem (by rw [hx]; decide)))
  obtain ⟨⟨x4, w4⟩, e4⟩ := te3 e w base sp held n _ _ ((hf 4 _ rfl).trans (List.getElem?_eq_getElem (by rw [hx]; decide)))
  exact ⟨⟨⟨x0, x1, x2, x3, x4⟩, ⟨trivial, w1, w2, w3, w4⟩⟩, Pieces.eq (off := 0) (l := [(1, [.bool x0]), (1, [.int .i64 x1]), (1, [.int .i64 x2]), (1, [.int .i64 x3]), (1, [.int .i64 x4])]) ⟨TE.piece (t := 4) (by kernel_rfl) e0, ⟨TE.piece (t := 3) (by kernel_rfl) e1, ⟨TE.piece (t := 3) (by kernel_rfl) e2, ⟨TE.piece (t := 3) (by kernel_rfl) e3, ⟨TE.piece (t := 3) (by kernel_rfl) e4, hl.trans (by kernel_rfl)⟩⟩⟩⟩⟩⟩
theorem te27 : TE Try.prog 27 { x : IfConf // x.WF } (fun x => x.val.enc) := fun e w base sp held fuel cs y h => by
  obtain ⟨xs, n, _, _, hl, hx, hf⟩ := DataW.trod_struct Try.underlying27 h
  obtain ⟨x0, e0⟩ := te9 e w base sp held n _ _ ((hf 0 _ rfl).trans (List.getElem?_eq_getElem (by rw [hx]; decide)))
  obtain ⟨⟨x1, w1⟩, e1⟩ := te3 e w base sp held n _ _ ((hf 1 _ rfl).trans (List.getElem?_eq_getElem (by rw [hx]; decide)))
  obtain ⟨⟨x2, w2⟩, e2⟩ := te3 e w base sp held n _ _ ((hf 2 _ rfl).trans (List.getElem?_eq_getElem (by rw [hx]; decide)))
  obtain ⟨⟨x3, w3⟩, e3⟩ := te3 e w base sp held n _ _ ((hf 3 _ rfl).trans (List.getElem?_eq_getElem (by rw [hx]; decide)))
  obtain ⟨⟨x4, w4⟩, e4⟩ := te3 e w base sp held n _ _ ((hf 4 _ rfl).trans (List.getElem?_eq_getElem (by rw [hx]; decide)))
  obtain ⟨⟨x5, w5⟩, e5⟩ := te3 e w base sp held n _ _ ((hf 5 _ rfl).trans (List.getElem?_eq_getElem (by rw [hx]; decide)))
  obtain ⟨x6, e6⟩ := te23 e w base sp held n _ _ ((hf 6 _ rfl).trans (List.getElem?_eq_getElem (by rw [hx]; decide)))
  obtain ⟨x7, e7⟩ := te23 e w base sp held n _ _ ((hf 7 _ rfl).trans (List.getElem?_eq_getElem (by rw [hx]; decide)))
  obtain ⟨⟨x8, w8⟩, e8⟩ := te25 e w base sp held n _ _ ((hf 8 _ rfl).trans (List.getElem?_eq_getElem (by rw [hx]; decide)))
  exact ⟨⟨⟨x0, x1, x2, x3, x4, x5, x6, x7, x8⟩, ⟨trivial, w1, w2, w3, w4, w5, trivial, trivial, w8⟩⟩, Pieces.eq (off := 0) (l := [(1, [.string x0]), (1, [.int .i64 x1]), (1, [.int .i64 x2]), (1, [.int .i64 x3]), (1, [.int .i64 x4]), (1, [.int .i64 x5]), (16, Bs.enc x6), (16, Bs.enc x7), (5, Rtt.enc x8)]) ⟨TE.piece (t := 9) (by kernel_rfl) e0, ⟨TE.piece (t := 3) (by kernel_rfl) e1, ⟨TE.piece (t := 3) (by kernel_rfl) e2, ⟨TE.piece (t := 3) (by kernel_rfl) e3, ⟨TE.piece (t := 3) (by kernel_rfl) e4, ⟨TE.piece (t := 3) (by kernel_rfl) e5, ⟨TE.piece (t := 23) (by kernel_rfl) e6, ⟨TE.piece (t := 23) (by kernel_rfl) e7, ⟨TE.piece (t := 25) (by kernel_rfl) e8, hl.trans (by kernel_rfl)⟩⟩⟩⟩⟩⟩⟩⟩⟩⟩
theorem te3i : TE Try.prog 3 I64 (fun n => [I64.v n]) := TE.i64 Try.underlying3
theorem te43 : TE Try.prog 43 { x : Prefix // x.WF } (fun x => x.val.enc) := fun e w base sp held fuel cs y h => by
  obtain ⟨xs, n, _, _, hl, hx, hf⟩ := DataW.trod_struct Try.underlying43 h
  obtain ⟨x0, e0⟩ := te23 e w base sp held n _ _ ((hf 0 _ rfl).trans (List.getElem?_eq_getElem (by rw [hx]; decide)))
  obtain ⟨x1, e1⟩ := te3i e w base sp held n _ _ ((hf 1 _ rfl).trans (List.getElem?_eq_getElem (by rw [hx]; decide)))
  exact ⟨⟨⟨x0, x1⟩, ⟨trivial, trivial⟩⟩, Pieces.eq (off := 0) (l := [(16, Bs.enc x0), (1, [I64.v x1])]) ⟨TE.piece (t := 23) (by kernel_rfl) e0, ⟨TE.piece (t := 3) (by kernel_rfl) e1, hl.trans (by kernel_rfl)⟩⟩⟩
theorem te45 : TE Try.prog 45 { x : Pair // x.WF } (fun x => x.val.enc) := fun e w base sp held fuel cs y h => by
  obtain ⟨xs, n, _, _, hl, hx, hf⟩ := DataW.trod_struct Try.underlying45 h
  obtain ⟨⟨x0, w0⟩, e0⟩ := te43 e w base sp held n _ _ ((hf 0 _ rfl).trans (List.getElem?_eq_getElem (by rw [hx]; decide)))
  obtain ⟨⟨x1, w1⟩, e1⟩ := te43 e w base sp held n _ _ ((hf 1 _ rfl).trans (List.getElem?_eq_getElem (by rw [hx]; decide)))
  exact ⟨⟨⟨x0, x1⟩, ⟨w0, w1⟩⟩, Pieces.eq (off := 0) (l := [(17, Prefix.enc x0), (17, Prefix.enc x1)]) ⟨TE.piece (t := 43) (by kernel_rfl) e0, ⟨TE.piece (t := 43) (by kernel_rfl) e1, hl.trans (by kernel_rfl)⟩⟩⟩
theorem te48 : TE Try.prog 48 (Bs 8) Bs.enc := TE.bytes Try.underlying48 Try.underlying5 (by kernel_rfl) (by kernel_rfl)
theorem te46 : TE Try.prog 46 { n : Int // 0 ≤ n ∧ n ≤ 65535 } (fun n => [.int .u16 n.val]) := TE.intW (by decide) (by decide) Try.underlying46
theorem te60 : TE Try.prog 60 { x : Offer // x.WF } (fun x => x.val.enc) := fun e w base sp held fuel cs y h => by
  obtain ⟨xs, n, _, _, hl, hx, hf⟩ := DataW.trod_struct Try.underlying60 h
  obtain ⟨⟨x0, w0⟩, e0⟩ := te45 e w base sp held n _ _ ((hf 0 _ rfl).trans (List.getElem?_eq_getElem (by rw [hx]; decide)))
  obtain ⟨x1, e1⟩ := te48 e w base sp held n _ _ ((hf 1 _ rfl).trans (List.getElem?_eq_getElem (by rw [hx]; decide)))
  obtain ⟨⟨x2, w2⟩, e2⟩ := te46 e w base sp held n _ _ ((hf 2 _ rfl).trans (List.getElem?_eq_getElem (by rw [hx]; decide)))
  obtain ⟨⟨x3, w3⟩, e3⟩ := te46 e w base sp held n _ _ ((hf 3 _ rfl).trans (List.getElem?_eq_getElem (by rw [hx]; decide)))
  exact ⟨⟨⟨x0, x1, x2, x3⟩, ⟨w0, trivial, w2, w3⟩⟩, Pieces.eq (off := 0) (l := [(34, Pair.enc x0), (8, Bs.enc x1), (1, [.int .u16 x2]), (1, [.int .u16 x3])]) ⟨TE.piece (t := 45) (by kernel_rfl) e0, ⟨TE.piece (t := 48) (by kernel_rfl) e1, ⟨TE.piece (t := 46) (by kernel_rfl) e2, ⟨TE.piece (t := 46) (by kernel_rfl) e3, hl.trans (by kernel_rfl)⟩⟩⟩⟩⟩
theorem te39 (W : World) : TEW Try.prog W 39 { s : Slc // SlIn (frAll W) 44 Offer.enc (fun x => x.WF) s } (fun s => [Slc.v s.val]) := TEW.slice Try.underlying39 (te60.at W) (by kernel_rfl) (by decide) Offer.enc_len
theorem te41 (W : World) : TEW Try.prog W 41 { x : Law21Act // ok41 (frAll W) x } (fun x => x.val.enc) := fun e base sp held fuel cs y h => by
  obtain ⟨xs, n, _, _, hl, hx, hf⟩ := DataW.trod_struct Try.underlying41 h
  obtain ⟨⟨x0, w0⟩, e0⟩ := te3 e W base sp held n _ _ ((hf 0 _ rfl).trans (List.getElem?_eq_getElem (by rw [hx]; decide)))
  obtain ⟨⟨x1, w1⟩, e1⟩ := te3 e W base sp held n _ _ ((hf 1 _ rfl).trans (List.getElem?_eq_getElem (by rw [hx]; decide)))
  obtain ⟨⟨x2, w2⟩, e2⟩ := te39 W e base sp held n _ _ ((hf 2 _ rfl).trans (List.getElem?_eq_getElem (by rw [hx]; decide)))
  exact ⟨⟨⟨x0, x1, x2⟩, ⟨w0, w1, trivial⟩, w2⟩, Pieces.eq (off := 0) (l := [(1, [.int .i64 x0]), (1, [.int .i64 x1]), (1, [Slc.v x2])]) ⟨TE.piece (t := 3) (by kernel_rfl) e0, ⟨TE.piece (t := 3) (by kernel_rfl) e1, ⟨TE.piece (t := 39) (by kernel_rfl) e2, hl.trans (by kernel_rfl)⟩⟩⟩⟩

theorem announceUpdates_lifted (os : Os) (started : os.Started) (H : Type) (enc : TypeId × Value → H) :
    ReturnsInHanded {} Try.checked os 4 .any (Rows.announceUpdatesSpec.pre6 enc Try.prog Try.f4 Rows.announceUpdatesRow.domain false) (Rows.announceUpdatesSpec.post enc Try.prog Try.f4 false true false false) := by
  refine returnsInHanded_of_change (C := Try.checked) Try.own started (by kernel_rfl) Try.func4
    (ChangeSpec.witness6 (enc := enc) (C := Try.checked) false ⟨#[], #[.agg IfConf.zero.enc.toArray, .slice none 0 0], []⟩ 8 (by kernel_rfl) (by kernel_rfl) (by kernel_rfl) (by kernel_rfl)) ?_
  intro W base args ds gs before hval0 hW hcnd _
  have hval : ∀ (j : Nat) t v, Try.f4.params[j]? = some t → args[j]? = some v → Value.okWide Try.prog W .any base t v := hval0
  have hW' := hW
  obtain ⟨p, q, hA0, hV, rfl, hfz, hnd⟩ := hW
  have hA : DataW.TrodAll enc Try.prog W 0 (fun _ => true) true Try.f4.params.toList args.toList ds p := hA0
  rw [Try.params4] at hA hval
  obtain ⟨v0, vs0, d0, ds0, p0, q0, e0, rfl, rfl, h0, r0⟩ := trodAll_cons hA
  obtain ⟨v1, vs1, d1, ds1, p1, q1, e1, rfl, rfl, h1, r1⟩ := trodAll_cons r0
  obtain ⟨e2, rfl, rfl⟩ := trodAll_nil r1
  rw [e2] at e1
  rw [e1] at e0
  obtain rfl : args = #[v0, v1] := Array.ext' (by simpa using e0)
  obtain ⟨rfl, rfl⟩ := trodVars_none hV
  obtain ⟨⟨x0, w0⟩, rfl⟩ := val_agg te27 (by kernel_rfl) (hval 0 27 v0 rfl rfl) h0
  obtain ⟨a1, x1, c1, rfl, hl1, ha1, w1⟩ := sl_argT (enc := Law21Act.enc) (p := (ok41 (frAll W))) Try.underlying28 (te41 W) (by kernel_rfl) (by decide) Law21Act.enc_len (hval 1 28 v1 rfl rfl) h1
  refine (law_upd (frAll W) x0 (Nat.le_trans hl1 (by decide)) ha1 w1 W (sat_frAll W)).mono ?_
  rintro e W' ⟨v, S, rfl, ⟨rfl, rfl⟩, s⟩
  exact ⟨_, rfl, post_law Try.laidOut (bt := 4) hW' rfl rfl rfl rfl rfl Try.underlying4 (by rw [Try.params4]; decide +kernel) (below_of_sat s)⟩
theorem announceUpdates_holds : Rows.AnnounceUpdatesSaid :=
  OpenClaim.holds_of_wide 4 Try.f4 rfl rfl rfl rfl rfl rfl rfl ⟨rfl, rfl, rfl, rfl, rfl⟩ rfl rfl rfl rfl rfl (by kernel_rfl) Try.func4 (by kernel_rfl)
    (of_decide_eq_true (by kernel_rfl)) (by unfold Func.isWrapper; first | (rw [if_pos (by decide +kernel)]; kernel_rfl) | (rw [if_neg (by decide +kernel)]; exact ⟨rfl, rfl⟩))
    (fun os started H enc _ => announceUpdates_lifted os started H enc)
end Go.Proofs.Ytjieokfcpbillaa
