/- R74: a part of the proof that a law of this package holds for every input; no condition. -/
import Derived.Test.YtmolpkkkndopcaaGreatM2
import Derived.Test.YtmolpkkkndopcaaGreatR75
import Derived.ChangeMaps5
import Derived.Test.YtmolpkkkndopcaaGreatRows
namespace Go.Proofs.YtmolpkkkndopcaaGreat
open Go.Proofs Slb Go.ChangeShapes Go.WideShapes Go.ChangeAt Go.RowKit
set_option maxRecDepth 100000
theorem Tryz.own : ownKnob Tryz.prog.godebug = none := by kernel_rfl
theorem Tryz.laidOut : laidOutB Tryz.prog = true := by kernel_rfl
theorem te23 : TE Tryz.prog 23 (Bs 16) Bs.enc := TE.bytes Tryz.underlying23 Tryz.underlying5 (by kernel_rfl) (by kernel_rfl)
theorem te5 : TE Tryz.prog 5 { n : Int // 0 ≤ n ∧ n ≤ 255 } (fun n => [.int .u8 n.val]) := TE.intW (by decide) (by decide) Tryz.underlying5
theorem te36 : TE Tryz.prog 36 { n : Int // 0 ≤ n ∧ n ≤ 65535 } (fun n => [.int .u16 n.val]) := TE.intW (by decide) (by decide) Tryz.underlying36
theorem te4 : TE Tryz.prog 4 Bool (fun n => [.bool n]) := TE.bool Tryz.underlying4
theorem te38 : TE Tryz.prog 38 (Bs 8) Bs.enc := TE.bytes Tryz.underlying38 Tryz.underlying5 (by kernel_rfl) (by kernel_rfl)
theorem te3i : TE Tryz.prog 3 I64 (fun n => [I64.v n]) := TE.i64 Tryz.underlying3
theorem te40 : TE Tryz.prog 40 { x : Prefix // x.WF } (fun x => x.val.enc) := fun e w base sp held fuel cs y h => by
  obtain ⟨xs, n, _, _, hl, hx, hf⟩ := DataW.trod_struct Tryz.underlying40 h
  obtain ⟨x0, e0⟩ := te23 e w base sp held n _ _ ((hf 0 _ rfl).trans (List.getElem?_eq_getElem (by rw [hx]; decide)))
  obtain ⟨x1, e1⟩ := te3i e w base sp held n _ _ ((hf 1 _ rfl).trans (List.getElem?_eq_getElem (by rw [hx]; decide)))
  exact ⟨⟨⟨x0, x1⟩, ⟨trivial, trivial⟩⟩, Pieces.eq (off := 0) (l := [(16, Bs.enc x0), (1, [I64.v x1])]) ⟨TE.piece (t := 23) Kr e0, ⟨TE.piece (t := 3) Kr e1, hl.trans Kr⟩⟩⟩
theorem te42 : TE Tryz.prog 42 { x : Pair // x.WF } (fun x => x.val.enc) := fun e w base sp held fuel cs y h => by
  obtain ⟨xs, n, _, _, hl, hx, hf⟩ := DataW.trod_struct Tryz.underlying42 h
  obtain ⟨⟨x0, w0⟩, e0⟩ := te40 e w base sp held n _ _ ((hf 0 _ rfl).trans (List.getElem?_eq_getElem (by rw [hx]; decide)))
  obtain ⟨⟨x1, w1⟩, e1⟩ := te40 e w base sp held n _ _ ((hf 1 _ rfl).trans (List.getElem?_eq_getElem (by rw [hx]; decide)))
  exact ⟨⟨⟨x0, x1⟩, ⟨w0, w1⟩⟩, Pieces.eq (off := 0) (l := [(17, Prefix.enc x0), (17, Prefix.enc x1)]) ⟨TE.piece (t := 40) Kr e0, ⟨TE.piece (t := 40) Kr e1, hl.trans Kr⟩⟩⟩
theorem te121 : TE Tryz.prog 121 { n : Int // 0 ≤ n ∧ n ≤ 4294967295 } (fun n => [.int .u32 n.val]) := TE.intW (by decide) (by decide) Tryz.underlying121
theorem te43 (W : World) : TEW Tryz.prog W 43 { s : Slc // SlIn (frAll W) 1 (fun n => [Value.int .u32 n]) (fun n => 0 ≤ n ∧ n ≤ 4294967295) s } (fun s => [Slc.v s.val]) := TEW.slice (z := 1) (enc := (fun n => [Value.int .u32 n])) Tryz.underlying43 (te121.at W) (by kernel_rfl) (by decide) (fun _ => rfl)
theorem te45 (W : World) : TEW Tryz.prog W 45 { x : Tlv // ok45 (frAll W) x } (fun x => x.val.enc) := fun e base sp held fuel cs y h => by
  obtain ⟨xs, n, _, _, hl, hx, hf⟩ := DataW.trod_struct Tryz.underlying45 h
  obtain ⟨⟨x0, w0⟩, e0⟩ := te5 e W base sp held n _ _ ((hf 0 _ rfl).trans (List.getElem?_eq_getElem (by rw [hx]; decide)))
  obtain ⟨⟨x1, w1⟩, e1⟩ := te36 e W base sp held n _ _ ((hf 1 _ rfl).trans (List.getElem?_eq_getElem (by rw [hx]; decide)))
  obtain ⟨⟨x2, w2⟩, e2⟩ := te36 e W base sp held n _ _ ((hf 2 _ rfl).trans (List.getElem?_eq_getElem (by rw [hx]; decide)))
  obtain ⟨⟨x3, w3⟩, e3⟩ := te36 e W base sp held n _ _ ((hf 3 _ rfl).trans (List.getElem?_eq_getElem (by rw [hx]; decide)))
  obtain ⟨⟨x4, w4⟩, e4⟩ := te36 e W base sp held n _ _ ((hf 4 _ rfl).trans (List.getElem?_eq_getElem (by rw [hx]; decide)))
  obtain ⟨⟨x5, w5⟩, e5⟩ := te36 e W base sp held n _ _ ((hf 5 _ rfl).trans (List.getElem?_eq_getElem (by rw [hx]; decide)))
  obtain ⟨⟨x6, w6⟩, e6⟩ := te5 e W base sp held n _ _ ((hf 6 _ rfl).trans (List.getElem?_eq_getElem (by rw [hx]; decide)))
  obtain ⟨x7, e7⟩ := te4 e W base sp held n _ _ ((hf 7 _ rfl).trans (List.getElem?_eq_getElem (by rw [hx]; decide)))
  obtain ⟨x8, e8⟩ := te4 e W base sp held n _ _ ((hf 8 _ rfl).trans (List.getElem?_eq_getElem (by rw [hx]; decide)))
  obtain ⟨x9, e9⟩ := te38 e W base sp held n _ _ ((hf 9 _ rfl).trans (List.getElem?_eq_getElem (by rw [hx]; decide)))
  obtain ⟨x10, e10⟩ := te23 e W base sp held n _ _ ((hf 10 _ rfl).trans (List.getElem?_eq_getElem (by rw [hx]; decide)))
  obtain ⟨⟨x11, w11⟩, e11⟩ := te42 e W base sp held n _ _ ((hf 11 _ rfl).trans (List.getElem?_eq_getElem (by rw [hx]; decide)))
  obtain ⟨⟨x12, w12⟩, e12⟩ := te43 W e base sp held n _ _ ((hf 12 _ rfl).trans (List.getElem?_eq_getElem (by rw [hx]; decide)))
  exact ⟨⟨⟨x0, x1, x2, x3, x4, x5, x6, x7, x8, x9, x10, x11, x12⟩, ⟨w0, w1, w2, w3, w4, w5, w6, trivial, trivial, trivial, trivial, w11, trivial⟩, w12⟩, Pieces.eq (off := 0) (l := [(1, [.int .u8 x0]), (1, [.int .u16 x1]), (1, [.int .u16 x2]), (1, [.int .u16 x3]), (1, [.int .u16 x4]), (1, [.int .u16 x5]), (1, [.int .u8 x6]), (1, [.bool x7]), (1, [.bool x8]), (8, Bs.enc x9), (16, Bs.enc x10), (34, Pair.enc x11), (1, [Slc.v x12])]) ⟨TE.piece (t := 5) Kr e0, ⟨TE.piece (t := 36) Kr e1, ⟨TE.piece (t := 36) Kr e2, ⟨TE.piece (t := 36) Kr e3, ⟨TE.piece (t := 36) Kr e4, ⟨TE.piece (t := 36) Kr e5, ⟨TE.piece (t := 5) Kr e6, ⟨TE.piece (t := 4) Kr e7, ⟨TE.piece (t := 4) Kr e8, ⟨TE.piece (t := 38) Kr e9, ⟨TE.piece (t := 23) Kr e10, ⟨TE.piece (t := 42) Kr e11, ⟨TE.piece (t := 43) Kr e12, hl.trans Kr⟩⟩⟩⟩⟩⟩⟩⟩⟩⟩⟩⟩⟩⟩
theorem te24 (W : World) : TEW Tryz.prog W 24 { s : Slc // SlIn (frAll W) 68 Tlv.enc (ok45 (frAll W)) s } (fun s => [Slc.v s.val]) := TEW.slice (z := 68) (enc := Tlv.enc) Tryz.underlying24 (te45 W) (by kernel_rfl) (by decide) Tlv.enc_len

theorem packBuffers_lifted (os : Os) (started : os.Started) (H : Type) (enc : TypeId × Value → H) :
    ReturnsInHanded {} Tryz.checked os 4 .any (Rows.packBuffersSpec.pre6 enc Tryz.prog Tryz.f4 Rows.packBuffersRow.domain false) (Rows.packBuffersSpec.post enc Tryz.prog Tryz.f4 false true false false) := by
  refine returnsInHanded_of_change (C := Tryz.checked) Tryz.own started Kr Tryz.func4
    (ChangeSpec.witness6 (enc := enc) (C := Tryz.checked) false ⟨#[], #[.agg (Bs.zero 16).enc.toArray, .int .i64 0, .slice none 0 0, .slice none 0 0], []⟩ 8 Kr Kr Kr Kr) ?_
  intro W base args ds gs before hval0 hW hcnd _
  have hval : ∀ (j : Nat) t v, Tryz.f4.params[j]? = some t → args[j]? = some v → Value.okWide Tryz.prog W .any base t v := hval0
  have hW' := hW
  obtain ⟨p, q, hA0, hV, rfl, hfz, hnd⟩ := hW
  have hA : DataW.TrodAll enc Tryz.prog W 0 (fun _ => true) true Tryz.f4.params.toList args.toList ds p := hA0
  rw [Tryz.params4] at hA hval
  obtain ⟨v0, vs0, d0, ds0, p0, q0, e0, rfl, rfl, h0, r0⟩ := trodAll_cons hA
  obtain ⟨v1, vs1, d1, ds1, p1, q1, e1, rfl, rfl, h1, r1⟩ := trodAll_cons r0
  obtain ⟨v2, vs2, d2, ds2, p2, q2, e2, rfl, rfl, h2, r2⟩ := trodAll_cons r1
  obtain ⟨v3, vs3, d3, ds3, p3, q3, e3, rfl, rfl, h3, r3⟩ := trodAll_cons r2
  obtain ⟨e4, rfl, rfl⟩ := trodAll_nil r3
  rw [e4] at e3
  rw [e3] at e2
  rw [e2] at e1
  rw [e1] at e0
  obtain rfl : args = #[v0, v1, v2, v3] := Array.ext' (by simpa using e0)
  obtain ⟨rfl, rfl⟩ := trodVars_none hV
  obtain ⟨x0, rfl⟩ := val_agg te23 Kr (hval 0 23 v0 rfl rfl) h0
  obtain ⟨x1, rfl, rfl, rfl, w1⟩ := open_int Tryz.underlying3 (hval 1 3 v1 rfl rfl) h1
  obtain ⟨a2, x2, c2, rfl, hl2, ha2, w2⟩ := sl_argT (enc := (fun s : Slc => [Slc.v s])) (p := (SlIn (frAll W) 68 Tlv.enc (ok45 (frAll W)))) Tryz.underlying49 (te24 W) Kr (by decide) (fun _ => rfl) (hval 2 49 v2 rfl rfl) h2
  obtain ⟨a3, x3, c3, rfl, hl3, ha3⟩ := sl_arg (enc := fun n => [Value.bool n]) Tryz.underlying50 te4 Kr (by decide) (fun _ => rfl) (hval 3 50 v3 rfl rfl) h3
  obtain ⟨ys, rfl, hall⟩ := tlss_of x2 w2
  have hl4 : ys.length ≤ 9223372036854775807 := by rw [List.length_map] at hl2; exact hl2
  have hlaw := law_buffers (frAll W) x0 x1 (c2 := c2) (c3 := c3) (tlss_arg ha2) hall hl4 (fs := x3) ha3 hl3
  rw [show ys.length = (ys.map tlsS).length from (List.length_map _).symm] at hlaw
  refine (hlaw W (sat_frAll W)).mono ?_
  rintro e W' ⟨v, S, rfl, ⟨rfl, rfl⟩, s⟩
  exact ⟨_, rfl, post_law Tryz.laidOut (bt := 4) hW' rfl rfl rfl rfl rfl Tryz.underlying4 (by rw [Tryz.params4]; decide +kernel) (below_of_sat s)⟩
theorem packBuffers_holds : Rows.PackBuffersSaid :=
  OpenClaim.holds_of_wide 4 Tryz.f4 rfl rfl rfl rfl rfl rfl rfl ⟨rfl, rfl, rfl, rfl, rfl⟩ rfl rfl rfl rfl rfl Kr Tryz.func4 Kr
    (of_decide_eq_true Kr) (by unfold Func.isWrapper; first | (rw [if_pos (by decide +kernel)]; kernel_rfl) | (rw [if_neg (by decide +kernel)]; exact ⟨rfl, rfl⟩))
    (fun os started H enc _ => packBuffers_lifted os started H enc)
end Go.Proofs.YtmolpkkkndopcaaGreat
