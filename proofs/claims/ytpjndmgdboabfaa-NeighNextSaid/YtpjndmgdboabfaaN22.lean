/- N22: a part of the proof that a law of this package holds for every input; no condition. -/
import Derived.Test.YtpjndmgdboabfaaN21
import Derived.Test.YtpjndmgdboabfaaM2
import Derived.Test.YtpjndmgdboabfaaRows
namespace Go.Proofs.Ytpjndmgdboabfaa
open Go.Proofs Slb Go.ChangeShapes Go.WideShapes Go.ChangeAt Go.RowKit
set_option maxRecDepth 100000
theorem Try.own : ownKnob Try.prog.godebug = none := by kernel_rfl
theorem Try.laidOut : laidOutB Try.prog = true := by kernel_rfl
theorem te9 : TE Try.prog 9 ByteArray (fun s => [.string s]) := TE.str Try.underlying9
theorem te3 : TE Try.prog 3 { n : Int // -9223372036854775808 ≤ n ∧ n ≤ 9223372036854775807 } (fun n => [.int .i64 n.val]) := TE.intW (by decide) (by decide) Try.underlying3
theorem te29 : TE Try.prog 29 (Bs 16) Bs.enc := TE.bytes Try.underlying29 Try.underlying5 (by kernel_rfl) (by kernel_rfl)
theorem te4 : TE Try.prog 4 Bool (fun n => [.bool n]) := TE.bool Try.underlying4
theorem te58 : TE Try.prog 58 { x : Rtt // x.WF } (fun x => x.val.enc) := fun e w base sp held fuel cs y h => by
  obtain ⟨xs, n, _, _, hl, hx, hf⟩ := DataW.trod_struct Try.underlying58 h
  obtain ⟨x0, e0⟩ := te4 e w base sp held n _ _ ((hf 0 _ rfl).trans (List.getElem?_eq_getElem (by rw [hx]; decide)))
  obtain ⟨⟨x1, w1⟩, e1⟩ := te3 e w base sp held n _ _ ((hf 1 _ rfl).trans (List.getElem?_eq_getElem (by rw [hx]; decide)))
  obtain ⟨⟨x2, w2⟩, e2⟩ := te3 e w base sp held n _ _ ((hf 2 _ rfl).trans (List.getElem?_eq_getElem (by rw [hx]; decide)))
  obtain ⟨⟨x3, w3⟩, e3⟩ := te3 e w base sp held n _ _ ((hf 3 _ rfl).trans (List.getElem?_eq_getElem (by rw [hx]; decide)))
  obtain ⟨⟨x4, w4⟩, e4⟩ := te3 e w base sp held n _ _ ((hf 4 _ rfl).trans (List.getElem?_eq_getElem (by rw [hx]; decide)))
  exact ⟨⟨⟨x0, x1, x2, x3, x4⟩, ⟨trivial, w1, w2, w3, w4⟩⟩, Pieces.eq (off := 0) (l := [(1, [.bool x0]), (1, [.int .i64 x1]), (1, [.int .i64 x2]), (1, [.int .i64 x3]), (1, [.int .i64 x4])]) ⟨TE.piece (t := 4) (by kernel_rfl) e0, ⟨TE.piece (t := 3) (by kernel_rfl) e1, ⟨TE.piece (t := 3) (by kernel_rfl) e2, ⟨TE.piece (t := 3) (by kernel_rfl) e3, ⟨TE.piece (t := 3) (by kernel_rfl) e4, hl.trans (by kernel_rfl)⟩⟩⟩⟩⟩⟩
theorem te60 : TE Try.prog 60 { x : IfConf // x.WF } (fun x => x.val.enc) := fun e w base sp held fuel cs y h => by
  obtain ⟨xs, n, _, _, hl, hx, hf⟩ := DataW.trod_struct Try.underlying60 h
  obtain ⟨x0, e0⟩ := te9 e w base sp held n _ _ ((hf 0 _ rfl).trans (List.getElem?_eq_getElem (by rw [hx]; decide)))
  obtain ⟨⟨x1, w1⟩, e1⟩ := te3 e w base sp held n _ _ ((hf 1 _ rfl).trans (List.getElem?_eq_getElem (by rw [hx]; decide)))
  obtain ⟨⟨x2, w2⟩, e2⟩ := te3 e w base sp held n _ _ ((hf 2 _ rfl).trans (List.getElem?_eq_getElem (by rw [hx]; decide)))
  obtain ⟨⟨x3, w3⟩, e3⟩ := te3 e w base sp held n _ _ ((hf 3 _ rfl).trans (List.getElem?_eq_getElem (by rw [hx]; decide)))
  obtain ⟨⟨x4, w4⟩, e4⟩ := te3 e w base sp held n _ _ ((hf 4 _ rfl).trans (List.getElem?_eq_getElem (by rw [hx]; decide)))
  obtain ⟨⟨x5, w5⟩, e5⟩ := te3 e w base sp held n _ _ ((hf 5 _ rfl).trans (List.getElem?_eq_getElem (by rw [hx]; decide)))
  obtain ⟨x6, e6⟩ := te29 e w base sp held n _ _ ((hf 6 _ rfl).trans (List.getElem?_eq_getElem (by rw [hx]; decide)))
  obtain ⟨x7, e7⟩ := te29 e w base sp held n _ _ ((hf 7 _ rfl).trans (List.getElem?_eq_getElem (by rw [hx]; decide)))
  obtain ⟨⟨x8, w8⟩, e8⟩ := te58 e w base sp held n _ _ ((hf 8 _ rfl).trans (List.getElem?_eq_getElem (by rw [hx]; decide)))
  exact ⟨⟨⟨x0, x1, x2, x3, x4, x5, x6, x7, x8⟩, ⟨trivial, w1, w2, w3, w4, w5, trivial, trivial, w8⟩⟩, Pieces.eq (off := 0) (l := [(1, [.string x0]), (1, [.int .i64 x1]), (1, [.int .i64 x2]), (1, [.int .i64 x3]), (1, [.int .i64 x4]), (1, [.int .i64 x5]), (16, Bs.enc x6), (16, Bs.enc x7), (5, Rtt.enc x8)]) ⟨TE.piece (t := 9) (by kernel_rfl) e0, ⟨TE.piece (t := 3) (by kernel_rfl) e1, ⟨TE.piece (t := 3) (by kernel_rfl) e2, ⟨TE.piece (t := 3) (by kernel_rfl) e3, ⟨TE.piece (t := 3) (by kernel_rfl) e4, ⟨TE.piece (t := 3) (by kernel_rfl) e5, ⟨TE.piece (t := 29) (by kernel_rfl) e6, ⟨TE.piece (t := 29) (by kernel_rfl) e7, ⟨TE.piece (t := 58) (by kernel_rfl) e8, hl.trans (by kernel_rfl)⟩⟩⟩⟩⟩⟩⟩⟩⟩⟩
theorem te3i : TE Try.prog 3 I64 (fun n => [I64.v n]) := TE.i64 Try.underlying3
theorem te5 : TE Try.prog 5 { n : Int // 0 ≤ n ∧ n ≤ 255 } (fun n => [.int .u8 n.val]) := TE.intW (by decide) (by decide) Try.underlying5
theorem te30 : TE Try.prog 30 { n : Int // 0 ≤ n ∧ n ≤ 65535 } (fun n => [.int .u16 n.val]) := TE.intW (by decide) (by decide) Try.underlying30
theorem te32 : TE Try.prog 32 (Bs 8) Bs.enc := TE.bytes Try.underlying32 Try.underlying5 (by kernel_rfl) (by kernel_rfl)
theorem te34 : TE Try.prog 34 { x : Prefix // x.WF } (fun x => x.val.enc) := fun e w base sp held fuel cs y h => by
  obtain ⟨xs, n, _, _, hl, hx, hf⟩ := DataW.trod_struct Try.underlying34 h
  obtain ⟨x0, e0⟩ := te29 e w base sp held n _ _ ((hf 0 _ rfl).trans (List.getElem?_eq_getElem (by rw [hx]; decide)))
  obtain ⟨x1, e1⟩ := te3i e w base sp held n _ _ ((hf 1 _ rfl).trans (List.getElem?_eq_getElem (by rw [hx]; decide)))
  exact ⟨⟨⟨x0, x1⟩, ⟨trivial, trivial⟩⟩, Pieces.eq (off := 0) (l := [(16, Bs.enc x0), (1, [I64.v x1])]) ⟨TE.piece (t := 29) (by kernel_rfl) e0, ⟨TE.piece (t := 3) (by kernel_rfl) e1, hl.trans (by kernel_rfl)⟩⟩⟩
theorem te36 : TE Try.prog 36 { x : Pair // x.WF } (fun x => x.val.enc) := fun e w base sp held fuel cs y h => by
  obtain ⟨xs, n, _, _, hl, hx, hf⟩ := DataW.trod_struct Try.underlying36 h
  obtain ⟨⟨x0, w0⟩, e0⟩ := te34 e w base sp held n _ _ ((hf 0 _ rfl).trans (List.getElem?_eq_getElem (by rw [hx]; decide)))
  obtain ⟨⟨x1, w1⟩, e1⟩ := te34 e w base sp held n _ _ ((hf 1 _ rfl).trans (List.getElem?_eq_getElem (by rw [hx]; decide)))
  exact ⟨⟨⟨x0, x1⟩, ⟨w0, w1⟩⟩, Pieces.eq (off := 0) (l := [(17, Prefix.enc x0), (17, Prefix.enc x1)]) ⟨TE.piece (t := 34) (by kernel_rfl) e0, ⟨TE.piece (t := 34) (by kernel_rfl) e1, hl.trans (by kernel_rfl)⟩⟩⟩
theorem te52 : TE Try.prog 52 { n : Int // 0 ≤ n ∧ n ≤ 4294967295 } (fun n => [.int .u32 n.val]) := TE.intW (by decide) (by decide) Try.underlying52
theorem te37 (W : World) : TEW Try.prog W 37 { s : Slc // SlIn (frAll W) 1 (fun n => [Value.int .u32 n]) (fun n => 0 ≤ n ∧ n ≤ 4294967295) s } (fun s => [Slc.v s.val]) := TEW.slice (z := 1) (enc := (fun n => [Value.int .u32 n])) Try.underlying37 (te52.at W) (by kernel_rfl) (by decide) (fun _ => rfl)
theorem te39 (W : World) : TEW Try.prog W 39 { x : Tlv // ok39 (frAll W) x } (fun x => x.val.enc) := fun e base sp held fuel cs y h => by
  obtain ⟨xs, n, _, _, hl, hx, hf⟩ := DataW.trod_struct Try.underlying39 h
  obtain ⟨⟨x0, w0⟩, e0⟩ := te5 e W base sp held n _ _ ((hf 0 _ rfl).trans (List.getElem?_eq_getElem (by rw [hx]; decide)))
  obtain ⟨⟨x1, w1⟩, e1⟩ := te30 e W base sp held n _ _ ((hf 1 _ rfl).trans (List.getElem?_eq_getElem (by rw [hx]; decide)))
  obtain ⟨⟨x2, w2⟩, e2⟩ := te30 e W base sp held n _ _ ((hf 2 _ rfl).trans (List.getElem?_eq_getElem (by rw [hx]; decide)))
  obtain ⟨⟨x3, w3⟩, e3⟩ := te30 e W base sp held n _ _ ((hf 3 _ rfl).trans (List.getElem?_eq_getElem (by rw [hx]; decide)))
  obtain ⟨⟨x4, w4⟩, e4⟩ := te30 e W base sp held n _ _ ((hf 4 _ rfl).trans (List.getElem?_eq_getElem (by rw [hx]; decide)))
  obtain ⟨⟨x5, w5⟩, e5⟩ := te30 e W base sp held n _ _ ((hf 5 _ rfl).trans (List.getElem?_eq_getElem (by rw [hx]; decide)))
  obtain ⟨⟨x6, w6⟩, e6⟩ := te5 e W base sp held n _ _ ((hf 6 _ rfl).trans (List.getElem?_eq_getElem (by rw [hx]; decide)))
  obtain ⟨x7, e7⟩ := te4 e W base sp held n _ _ ((hf 7 _ rfl).trans (List.getElem?_eq_getElem (by rw [hx]; decide)))
  obtain ⟨x8, e8⟩ := te4 e W base sp held n _ _ ((hf 8 _ rfl).trans (List.getElem?_eq_getElem (by rw [hx]; decide)))
  obtain ⟨x9, e9⟩ := te32 e W base sp held n _ _ ((hf 9 _ rfl).trans (List.getElem?_eq_getElem (by rw [hx]; decide)))
  obtain ⟨x10, e10⟩ := te29 e W base sp held n _ _ ((hf 10 _ rfl).trans (List.getElem?_eq_getElem (by rw [hx]; decide)))
  obtain ⟨⟨x11, w11⟩, e11⟩ := te36 e W base sp held n _ _ ((hf 11 _ rfl).trans (List.getElem?_eq_getElem (by rw [hx]; decide)))
  obtain ⟨⟨x12, w12⟩, e12⟩ := te37 W e base sp held n _ _ ((hf 12 _ rfl).trans (List.getElem?_eq_getElem (by rw [hx]; decide)))
  exact ⟨⟨⟨x0, x1, x2, x3, x4, x5, x6, x7, x8, x9, x10, x11, x12⟩, ⟨w0, w1, w2, w3, w4, w5, w6, trivial, trivial, trivial, trivial, w11, trivial⟩, w12⟩, Pieces.eq (off := 0) (l := [(1, [.int .u8 x0]), (1, [.int .u16 x1]), (1, [.int .u16 x2]), (1, [.int .u16 x3]), (1, [.int .u16 x4]), (1, [.int .u16 x5]), (1, [.int .u8 x6]), (1, [.bool x7]), (1, [.bool x8]), (8, Bs.enc x9), (16, Bs.enc x10), (34, Pair.enc x11), (1, [Slc.v x12])]) ⟨TE.piece (t := 5) (by kernel_rfl) e0, ⟨TE.piece (t := 30) (by kernel_rfl) e1, ⟨TE.piece (t := 30) (by kernel_rfl) e2, ⟨TE.piece (t := 30) (by kernel_rfl) e3, ⟨TE.piece (t := 30) (by kernel_rfl) e4, ⟨TE.piece (t := 30) (by kernel_rfl) e5, ⟨TE.piece (t := 5) (by kernel_rfl) e6, ⟨TE.piece (t := 4) (by kernel_rfl) e7, ⟨TE.piece (t := 4) (by kernel_rfl) e8, ⟨TE.piece (t := 32) (by kernel_rfl) e9, ⟨TE.piece (t := 29) (by kernel_rfl) e10, ⟨TE.piece (t := 36) (by kernel_rfl) e11, ⟨TE.piece (t := 37) (by kernel_rfl) e12, hl.trans (by kernel_rfl)⟩⟩⟩⟩⟩⟩⟩⟩⟩⟩⟩⟩⟩⟩
theorem te41 (W : World) : TEW Try.prog W 41 { x : Law13Act // ok41 (frAll W) x } (fun x => x.val.enc) := fun e base sp held fuel cs y h => by
  obtain ⟨xs, n, _, _, hl, hx, hf⟩ := DataW.trod_struct Try.underlying41 h
  obtain ⟨⟨x0, w0⟩, e0⟩ := te3 e W base sp held n _ _ ((hf 0 _ rfl).trans (List.getElem?_eq_getElem (by rw [hx]; decide)))
  obtain ⟨⟨x1, w1⟩, e1⟩ := te3 e W base sp held n _ _ ((hf 1 _ rfl).trans (List.getElem?_eq_getElem (by rw [hx]; decide)))
  obtain ⟨x2, e2⟩ := te3i e W base sp held n _ _ ((hf 2 _ rfl).trans (List.getElem?_eq_getElem (by rw [hx]; decide)))
  obtain ⟨x3, e3⟩ := te29 e W base sp held n _ _ ((hf 3 _ rfl).trans (List.getElem?_eq_getElem (by rw [hx]; decide)))
  obtain ⟨⟨x4, w4⟩, e4⟩ := te39 W e base sp held n _ _ ((hf 4 _ rfl).trans (List.getElem?_eq_getElem (by rw [hx]; decide)))
  exact ⟨⟨⟨x0, x1, x2, x3, x4⟩, ⟨w0, w1, trivial, trivial, w4.1⟩, w4⟩, Pieces.eq (off := 0) (l := [(1, [.int .i64 x0]), (1, [.int .i64 x1]), (1, [I64.v x2]), (16, Bs.enc x3), (68, Tlv.enc x4)]) ⟨TE.piece (t := 3) (by kernel_rfl) e0, ⟨TE.piece (t := 3) (by kernel_rfl) e1, ⟨TE.piece (t := 3) (by kernel_rfl) e2, ⟨TE.piece (t := 29) (by kernel_rfl) e3, ⟨TE.piece (t := 39) (by kernel_rfl) e4, hl.trans (by kernel_rfl)⟩⟩⟩⟩⟩⟩

theorem neighNext_lifted (os : Os) (started : os.Started) (H : Type) (enc : TypeId × Value → H) :
    ReturnsInHanded {} Try.checked os 5 .any (Rows.neighNextSpec.pre6 enc Try.prog Try.f5 Rows.neighNextRow.domain false) (Rows.neighNextSpec.post enc Try.prog Try.f5 false true false false) := by
  refine returnsInHanded_of_change (C := Try.checked) Try.own started (by kernel_rfl) Try.func5
    (ChangeSpec.witness6 (enc := enc) (C := Try.checked) false ⟨#[], #[.slice none 0 0, .slice none 0 0], []⟩ 8 (by kernel_rfl) (by kernel_rfl) (by kernel_rfl) (by kernel_rfl)) ?_
  intro W base args ds gs before hval0 hW hcnd _
  have hval : ∀ (j : Nat) t v, Try.f5.params[j]? = some t → args[j]? = some v → Value.okWide Try.prog W .any base t v := hval0
  have hW' := hW
  obtain ⟨p, q, hA0, hV, rfl, hfz, hnd⟩ := hW
  have hA : DataW.TrodAll enc Try.prog W 0 (fun _ => true) true Try.f5.params.toList args.toList ds p := hA0
  rw [Try.params5] at hA hval
  obtain ⟨v0, vs0, d0, ds0, p0, q0, e0, rfl, rfl, h0, r0⟩ := trodAll_cons hA
  obtain ⟨v1, vs1, d1, ds1, p1, q1, e1, rfl, rfl, h1, r1⟩ := trodAll_cons r0
  obtain ⟨e2, rfl, rfl⟩ := trodAll_nil r1
  rw [e2] at e1
  rw [e1] at e0
  obtain rfl : args = #[v0, v1] := Array.ext' (by simpa using e0)
  obtain ⟨rfl, rfl⟩ := trodVars_none hV
  obtain ⟨a0, x0, c0, rfl, hl0, ha0, w0⟩ := sl_argW Try.underlying22 te60 (by kernel_rfl) (by decide) IfConf.enc_len (hval 0 22 v0 rfl rfl) h0
  have hcap0 := sl_cap Try.underlying22 (hval 0 22 _ rfl rfl)
  obtain ⟨a1, x1, c1, rfl, hl1, ha1, w1⟩ := sl_argT (enc := Law13Act.enc) (p := (ok41 (frAll W))) Try.underlying23 (te41 W) (by kernel_rfl) (by decide) Law13Act.enc_len (hval 1 23 v1 rfl rfl) h1
  have hcap1 := sl_cap Try.underlying23 (hval 1 23 _ rfl rfl)
  refine (law_next (frAll W) (Nat.le_trans hl0 (by decide)) ha0 hcap0 (Nat.le_trans hl1 (by decide)) ha1 w1 W (sat_frAll W)).mono ?_
  rintro e W' ⟨v, S, rfl, ⟨rfl, rfl⟩, s⟩
  exact ⟨_, rfl, post_law Try.laidOut (bt := 4) hW' rfl rfl rfl rfl rfl Try.underlying4 (by rw [Try.params5]; decide +kernel) (below_of_sat s)⟩
theorem neighNext_holds : Rows.NeighNextSaid :=
  OpenClaim.holds_of_wide 5 Try.f5 rfl rfl rfl rfl rfl rfl rfl ⟨rfl, rfl, rfl, rfl, rfl⟩ rfl rfl rfl rfl rfl (by kernel_rfl) Try.func5 (by kernel_rfl)
    (of_decide_eq_true (by kernel_rfl)) (by unfold Func.isWrapper; first | (rw [if_pos (by decide +kernel)]; kernel_rfl) | (rw [if_neg (by decide +kernel)]; exact ⟨rfl, rfl⟩))
    (fun os started H enc _ => neighNext_lifted os started H enc)
end Go.Proofs.Ytpjndmgdboabfaa
