/- J90: a part of the proof that a law of this package holds for every input; no condition. -/
import Derived.Test.YtfokodhfjdhdaaaGreatM2
import Derived.Test.YtfokodhfjdhdaaaGreatJ89
import Derived.ChangeMaps5
import Derived.Test.YtfokodhfjdhdaaaGreatRows
namespace Go.Proofs.YtfokodhfjdhdaaaGreat
open Go.Proofs Slb Go.ChangeShapes Go.WideShapes Go.ChangeAt Go.RowKit
set_option maxRecDepth 100000
theorem Tryz.own : ownKnob Tryz.prog.godebug = none := by kernel_rfl
theorem Tryz.laidOut : laidOutB Tryz.prog = true := by kernel_rfl
theorem te9 : TE Tryz.prog 9 ByteArray (fun s => [.string s]) := TE.str Tryz.underlying9
theorem te9w : TE Tryz.prog 9 { s : ByteArray // s.size ≤ maxLen } (fun s => [.string s.val]) := fun e w base sp held fuel cs y h => by
 obtain ⟨n, h1, _, h2⟩ := DataW.trod_string Tryz.underlying9 h
 exact ⟨⟨n, h2⟩, h1⟩
theorem te3 : TE Tryz.prog 3 { n : Int // -9223372036854775808 ≤ n ∧ n ≤ 9223372036854775807 } (fun n => [.int .i64 n.val]) := TE.intW (by decide) (by decide) Tryz.underlying3
theorem te32 : TE Tryz.prog 32 (Bs 16) Bs.enc := TE.bytes Tryz.underlying32 Tryz.underlying5 (by kernel_rfl) (by kernel_rfl)
theorem te4 : TE Tryz.prog 4 Bool (fun n => [.bool n]) := TE.bool Tryz.underlying4
theorem te63 : TE Tryz.prog 63 { x : Rtt // x.WF } (fun x => x.val.enc) := fun e w base sp held fuel cs y h => by
 obtain ⟨xs, n, _, _, hl, hx, hf⟩ := DataW.trod_struct Tryz.underlying63 h
 obtain ⟨x0, e0⟩ := te4 e w base sp held n _ _ ((hf 0 _ rfl).trans (List.getElem?_eq_getElem (by rw [hx]; decide)))
 obtain ⟨⟨x1, w1⟩, e1⟩ := te3 e w base sp held n _ _ ((hf 1 _ rfl).trans (List.getElem?_eq_getElem (by rw [hx]; decide)))
 obtain ⟨⟨x2, w2⟩, e2⟩ := te3 e w base sp held n _ _ ((hf 2 _ rfl).trans (List.getElem?_eq_getElem (by rw [hx]; decide)))
 obtain ⟨⟨x3, w3⟩, e3⟩ := te3 e w base sp held n _ _ ((hf 3 _ rfl).trans (List.getElem?_eq_getElem (by rw [hx]; decide)))
 obtain ⟨⟨x4, w4⟩, e4⟩ := te3 e w base sp held n _ _ ((hf 4 _ rfl).trans (List.getElem?_eq_getElem (by rw [hx]; decide)))
 exact ⟨⟨⟨x0, x1, x2, x3, x4⟩, ⟨trivial, w1, w2, w3, w4⟩⟩, Pieces.eq (off := 0) (l := [(1, [.bool x0]), (1, [.int .i64 x1]), (1, [.int .i64 x2]), (1, [.int .i64 x3]), (1, [.int .i64 x4])]) ⟨TE.piece (t := 4) Kr e0, ⟨TE.piece (t := 3) Kr e1, ⟨TE.piece (t := 3) Kr e2, ⟨TE.piece (t := 3) Kr e3, ⟨TE.piece (t := 3) Kr e4, hl.trans Kr⟩⟩⟩⟩⟩⟩
theorem te65 : TE Tryz.prog 65 { x : IfConf // x.WF } (fun x => x.val.enc) := fun e w base sp held fuel cs y h => by
 obtain ⟨xs, n, _, _, hl, hx, hf⟩ := DataW.trod_struct Tryz.underlying65 h
 obtain ⟨x0, e0⟩ := te9 e w base sp held n _ _ ((hf 0 _ rfl).trans (List.getElem?_eq_getElem (by rw [hx]; decide)))
 obtain ⟨⟨x1, w1⟩, e1⟩ := te3 e w base sp held n _ _ ((hf 1 _ rfl).trans (List.getElem?_eq_getElem (by rw [hx]; decide)))
 obtain ⟨⟨x2, w2⟩, e2⟩ := te3 e w base sp held n _ _ ((hf 2 _ rfl).trans (List.getElem?_eq_getElem (by rw [hx]; decide)))
 obtain ⟨⟨x3, w3⟩, e3⟩ := te3 e w base sp held n _ _ ((hf 3 _ rfl).trans (List.getElem?_eq_getElem (by rw [hx]; decide)))
 obtain ⟨⟨x4, w4⟩, e4⟩ := te3 e w base sp held n _ _ ((hf 4 _ rfl).trans (List.getElem?_eq_getElem (by rw [hx]; decide)))
 obtain ⟨⟨x5, w5⟩, e5⟩ := te3 e w base sp held n _ _ ((hf 5 _ rfl).trans (List.getElem?_eq_getElem (by rw [hx]; decide)))
 obtain ⟨x6, e6⟩ := te32 e w base sp held n _ _ ((hf 6 _ rfl).trans (List.getElem?_eq_getElem (by rw [hx]; decide)))
 obtain ⟨x7, e7⟩ := te32 e w base sp held n _ _ ((hf 7 _ rfl).trans (List.getElem?_eq_getElem (by rw [hx]; decide)))
 obtain ⟨⟨x8, w8⟩, e8⟩ := te63 e w base sp held n _ _ ((hf 8 _ rfl).trans (List.getElem?_eq_getElem (by rw [hx]; decide)))
 exact ⟨⟨⟨x0, x1, x2, x3, x4, x5, x6, x7, x8⟩, ⟨trivial, w1, w2, w3, w4, w5, trivial, trivial, w8⟩⟩, Pieces.eq (off := 0) (l := [(1, [.string x0]), (1, [.int .i64 x1]), (1, [.int .i64 x2]), (1, [.int .i64 x3]), (1, [.int .i64 x4]), (1, [.int .i64 x5]), (16, Bs.enc x6), (16, Bs.enc x7), (5, Rtt.enc x8)]) ⟨TE.piece (t := 9) Kr e0, ⟨TE.piece (t := 3) Kr e1, ⟨TE.piece (t := 3) Kr e2, ⟨TE.piece (t := 3) Kr e3, ⟨TE.piece (t := 3) Kr e4, ⟨TE.piece (t := 3) Kr e5, ⟨TE.piece (t := 32) Kr e6, ⟨TE.piece (t := 32) Kr e7, ⟨TE.piece (t := 63) Kr e8, hl.trans Kr⟩⟩⟩⟩⟩⟩⟩⟩⟩⟩
theorem te5 : TE Tryz.prog 5 { n : Int // 0 ≤ n ∧ n ≤ 255 } (fun n => [.int .u8 n.val]) := TE.intW (by decide) (by decide) Tryz.underlying5
theorem te40 : TE Tryz.prog 40 { n : Int // 0 ≤ n ∧ n ≤ 65535 } (fun n => [.int .u16 n.val]) := TE.intW (by decide) (by decide) Tryz.underlying40
theorem te42 : TE Tryz.prog 42 (Bs 8) Bs.enc := TE.bytes Tryz.underlying42 Tryz.underlying5 (by kernel_rfl) (by kernel_rfl)
theorem te3i : TE Tryz.prog 3 I64 (fun n => [I64.v n]) := TE.i64 Tryz.underlying3
theorem te44 : TE Tryz.prog 44 { x : Prefix // x.WF } (fun x => x.val.enc) := fun e w base sp held fuel cs y h => by
 obtain ⟨xs, n, _, _, hl, hx, hf⟩ := DataW.trod_struct Tryz.underlying44 h
 obtain ⟨x0, e0⟩ := te32 e w base sp held n _ _ ((hf 0 _ rfl).trans (List.getElem?_eq_getElem (by rw [hx]; decide)))
 obtain ⟨x1, e1⟩ := te3i e w base sp held n _ _ ((hf 1 _ rfl).trans (List.getElem?_eq_getElem (by rw [hx]; decide)))
 exact ⟨⟨⟨x0, x1⟩, ⟨trivial, trivial⟩⟩, Pieces.eq (off := 0) (l := [(16, Bs.enc x0), (1, [I64.v x1])]) ⟨TE.piece (t := 32) Kr e0, ⟨TE.piece (t := 3) Kr e1, hl.trans Kr⟩⟩⟩
theorem te46 : TE Tryz.prog 46 { x : Pair // x.WF } (fun x => x.val.enc) := fun e w base sp held fuel cs y h => by
 obtain ⟨xs, n, _, _, hl, hx, hf⟩ := DataW.trod_struct Tryz.underlying46 h
 obtain ⟨⟨x0, w0⟩, e0⟩ := te44 e w base sp held n _ _ ((hf 0 _ rfl).trans (List.getElem?_eq_getElem (by rw [hx]; decide)))
 obtain ⟨⟨x1, w1⟩, e1⟩ := te44 e w base sp held n _ _ ((hf 1 _ rfl).trans (List.getElem?_eq_getElem (by rw [hx]; decide)))
 exact ⟨⟨⟨x0, x1⟩, ⟨w0, w1⟩⟩, Pieces.eq (off := 0) (l := [(17, Prefix.enc x0), (17, Prefix.enc x1)]) ⟨TE.piece (t := 44) Kr e0, ⟨TE.piece (t := 44) Kr e1, hl.trans Kr⟩⟩⟩
theorem te101 : TE Tryz.prog 101 { n : Int // 0 ≤ n ∧ n ≤ 4294967295 } (fun n => [.int .u32 n.val]) := TE.intW (by decide) (by decide) Tryz.underlying101
theorem te47 (W : World) : TEW Tryz.prog W 47 { s : Slc // SlIn (frAll W) 1 (fun n => [Value.int .u32 n]) (fun n => 0 ≤ n ∧ n ≤ 4294967295) s } (fun s => [Slc.v s.val]) := TEW.slice (z := 1) (enc := (fun n => [Value.int .u32 n])) Tryz.underlying47 (te101.at W) (by kernel_rfl) (by decide) (fun _ => rfl)
theorem te49 (W : World) : TEW Tryz.prog W 49 { x : Tlv // ok49 (frAll W) x } (fun x => x.val.enc) := fun e base sp held fuel cs y h => by
 obtain ⟨xs, n, _, _, hl, hx, hf⟩ := DataW.trod_struct Tryz.underlying49 h
 obtain ⟨⟨x0, w0⟩, e0⟩ := te5 e W base sp held n _ _ ((hf 0 _ rfl).trans (List.getElem?_eq_getElem (by rw [hx]; decide)))
 obtain ⟨⟨x1, w1⟩, e1⟩ := te40 e W base sp held n _ _ ((hf 1 _ rfl).trans (List.getElem?_eq_getElem (by rw [hx]; decide)))
 obtain ⟨⟨x2, w2⟩, e2⟩ := te40 e W base sp held n _ _ ((hf 2 _ rfl).trans (List.getElem?_eq_getElem (by rw [hx]; decide)))
 obtain ⟨⟨x3, w3⟩, e3⟩ := te40 e W base sp held n _ _ ((hf 3 _ rfl).trans (List.getElem?_eq_getElem (by rw [hx]; decide)))
 obtain ⟨⟨x4, w4⟩, e4⟩ := te40 e W base sp held n _ _ ((hf 4 _ rfl).trans (List.getElem?_eq_getElem (by rw [hx]; decide)))
 obtain ⟨⟨x5, w5⟩, e5⟩ := te40 e W base sp held n _ _ ((hf 5 _ rfl).trans (List.getElem?_eq_getElem (by rw [hx]; decide)))
 obtain ⟨⟨x6, w6⟩, e6⟩ := te5 e W base sp held n _ _ ((hf 6 _ rfl).trans (List.getElem?_eq_getElem (by rw [hx]; decide)))
 obtain ⟨x7, e7⟩ := te4 e W base sp held n _ _ ((hf 7 _ rfl).trans (List.getElem?_eq_getElem (by rw [hx]; decide)))
 obtain ⟨x8, e8⟩ := te4 e W base sp held n _ _ ((hf 8 _ rfl).trans (List.getElem?_eq_getElem (by rw [hx]; decide)))
 obtain ⟨x9, e9⟩ := te42 e W base sp held n _ _ ((hf 9 _ rfl).trans (List.getElem?_eq_getElem (by rw [hx]; decide)))
 obtain ⟨x10, e10⟩ := te32 e W base sp held n _ _ ((hf 10 _ rfl).trans (List.getElem?_eq_getElem (by rw [hx]; decide)))
 obtain ⟨⟨x11, w11⟩, e11⟩ := te46 e W base sp held n _ _ ((hf 11 _ rfl).trans (List.getElem?_eq_getElem (by rw [hx]; decide)))
 obtain ⟨⟨x12, w12⟩, e12⟩ := te47 W e base sp held n _ _ ((hf 12 _ rfl).trans (List.getElem?_eq_getElem (by rw [hx]; decide)))
 exact ⟨⟨⟨x0, x1, x2, x3, x4, x5, x6, x7, x8, x9, x10, x11, x12⟩, ⟨w0, w1, w2, w3, w4, w5, w6, trivial, trivial, trivial, trivial, w11, trivial⟩, w12⟩, Pieces.eq (off := 0) (l := [(1, [.int .u8 x0]), (1, [.int .u16 x1]), (1, [.int .u16 x2]), (1, [.int .u16 x3]), (1, [.int .u16 x4]), (1, [.int .u16 x5]), (1, [.int .u8 x6]), (1, [.bool x7]), (1, [.bool x8]), (8, Bs.enc x9), (16, Bs.enc x10), (34, Pair.enc x11), (1, [Slc.v x12])]) ⟨TE.piece (t := 5) Kr e0, ⟨TE.piece (t := 40) Kr e1, ⟨TE.piece (t := 40) Kr e2, ⟨TE.piece (t := 40) Kr e3, ⟨TE.piece (t := 40) Kr e4, ⟨TE.piece (t := 40) Kr e5, ⟨TE.piece (t := 5) Kr e6, ⟨TE.piece (t := 4) Kr e7, ⟨TE.piece (t := 4) Kr e8, ⟨TE.piece (t := 42) Kr e9, ⟨TE.piece (t := 32) Kr e10, ⟨TE.piece (t := 46) Kr e11, ⟨TE.piece (t := 47) Kr e12, hl.trans Kr⟩⟩⟩⟩⟩⟩⟩⟩⟩⟩⟩⟩⟩⟩
theorem te33 (W : World) : TEW Tryz.prog W 33 { s : Slc // SlIn (frAll W) 68 Tlv.enc (ok49 (frAll W)) s } (fun s => [Slc.v s.val]) := TEW.slice (z := 68) (enc := Tlv.enc) Tryz.underlying33 (te49 W) (by kernel_rfl) (by decide) Tlv.enc_len
theorem te35 (W : World) : TEW Tryz.prog W 35 { x : Law14Act // ok35 (frAll W) x } (fun x => x.val.enc) := fun e base sp held fuel cs y h => by
 obtain ⟨xs, n, _, _, hl, hx, hf⟩ := DataW.trod_struct Tryz.underlying35 h
 obtain ⟨⟨x0, w0⟩, e0⟩ := te3 e W base sp held n _ _ ((hf 0 _ rfl).trans (List.getElem?_eq_getElem (by rw [hx]; decide)))
 obtain ⟨⟨x1, w1⟩, e1⟩ := te3 e W base sp held n _ _ ((hf 1 _ rfl).trans (List.getElem?_eq_getElem (by rw [hx]; decide)))
 obtain ⟨⟨x2, w2⟩, e2⟩ := te3 e W base sp held n _ _ ((hf 2 _ rfl).trans (List.getElem?_eq_getElem (by rw [hx]; decide)))
 obtain ⟨x3, e3⟩ := te32 e W base sp held n _ _ ((hf 3 _ rfl).trans (List.getElem?_eq_getElem (by rw [hx]; decide)))
 obtain ⟨⟨x4, w4⟩, e4⟩ := te33 W e base sp held n _ _ ((hf 4 _ rfl).trans (List.getElem?_eq_getElem (by rw [hx]; decide)))
 exact ⟨⟨⟨x0, x1, x2, x3, x4⟩, ⟨w0, w1, w2, trivial, trivial⟩, w4⟩, Pieces.eq (off := 0) (l := [(1, [.int .i64 x0]), (1, [.int .i64 x1]), (1, [.int .i64 x2]), (16, Bs.enc x3), (1, [Slc.v x4])]) ⟨TE.piece (t := 3) Kr e0, ⟨TE.piece (t := 3) Kr e1, ⟨TE.piece (t := 3) Kr e2, ⟨TE.piece (t := 32) Kr e3, ⟨TE.piece (t := 33) Kr e4, hl.trans Kr⟩⟩⟩⟩⟩⟩

theorem ifaceKeeps_lifted (os : Os) (started : os.Started) (H : Type) (enc : TypeId × Value → H) :
   ReturnsInHanded {} Tryz.checked os 4 .any (Rows.ifaceKeepsSpec.pre6 enc Tryz.prog Tryz.f4 Rows.ifaceKeepsRow.domain false) (Rows.ifaceKeepsSpec.post enc Tryz.prog Tryz.f4 false true false false) := by
 refine returnsInHanded_of_change (C := Tryz.checked) Tryz.own started Kr Tryz.func4
   (ChangeSpec.witness6 (enc := enc) (C := Tryz.checked) false ⟨#[], #[.agg IfConf.zero.enc.toArray, .slice none 0 0], []⟩ 8 Kr Kr Kr Kr) ?_
 intro W base args ds gs before hval0 hW hcnd _
 have hval : ∀ (j : Nat) t v, Tryz.f4.params[j]? = some t → args[j]? = some v → Value.okWide Tryz.prog W .any base t v := hval0
 have hW' := hW
 obtain ⟨p, q, hA0, hV, rfl, hfz, hnd⟩ := hW
 have hA : DataW.TrodAll enc Tryz.prog W 0 (fun _ => true) true Tryz.f4.params.toList args.toList ds p := hA0
 rw [Tryz.params4] at hA hval
 obtain ⟨v0, vs0, d0, ds0, p0, q0, e0, rfl, rfl, h0, r0⟩ := trodAll_cons hA
 obtain ⟨v1, vs1, d1, ds1, p1, q1, e1, rfl, rfl, h1, r1⟩ := trodAll_cons r0
 obtain ⟨e2, rfl, rfl⟩ := trodAll_nil r1
 rw [e2] at e1
 rw [e1] at e0
 obtain rfl : args = #[v0, v1] := Array.ext' (by simpa using e0)
 obtain ⟨rfl, rfl⟩ := trodVars_none hV
 obtain ⟨⟨x0, w0⟩, rfl⟩ := val_agg te65 Kr (hval 0 65 v0 rfl rfl) h0
 obtain ⟨a1, x1, c1, rfl, hl1, ha1, w1⟩ := sl_argT (enc := Law14Act.enc) (p := (ok35 (frAll W))) Tryz.underlying23 (te35 W) Kr (by decide) Law14Act.enc_len (hval 1 23 v1 rfl rfl) h1
 obtain ⟨ys, rfl, hall⟩ := acts_of x1 w1
 have hl4 : ys.length ≤ 9223372036854775807 := by rw [List.length_map] at hl1; exact hl1
 have hlaw := law_keeps (frAll W) x0 (c := c1) (acts_arg ha1) hall hl4
 rw [show ys.length = (ys.map actS).length from (List.length_map _).symm] at hlaw
 refine (hlaw W (sat_frAll W)).mono ?_
 rintro e W' ⟨v, S, rfl, ⟨rfl, rfl⟩, s⟩
 exact ⟨_, rfl, post_law Tryz.laidOut (bt := 4) hW' rfl rfl rfl rfl rfl Tryz.underlying4 (by rw [Tryz.params4]; decide +kernel) (below_of_sat s)⟩
theorem ifaceKeeps_holds : Rows.IfaceKeepsSaid :=
 OpenClaim.holds_of_wide 4 Tryz.f4 rfl rfl rfl rfl rfl rfl rfl ⟨rfl, rfl, rfl, rfl, rfl⟩ rfl rfl rfl rfl rfl Kr Tryz.func4 Kr
   (of_decide_eq_true Kr) (by unfold Func.isWrapper; first | (rw [if_pos (by decide +kernel)]; kernel_rfl) | (rw [if_neg (by decide +kernel)]; exact ⟨rfl, rfl⟩))
   (fun os started H enc _ => ifaceKeeps_lifted os started H enc)
end Go.Proofs.YtfokodhfjdhdaaaGreat
