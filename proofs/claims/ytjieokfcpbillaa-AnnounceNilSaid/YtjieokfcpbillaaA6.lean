/- A6: a part of the proof that a law of this package holds for every input; no condition. -/
import Derived.Test.YtjieokfcpbillaaA5
import Derived.Test.YtjieokfcpbillaaB32
import Derived.Test.YtjieokfcpbillaaRows
namespace Go.Proofs.Ytjieokfcpbillaa
open Go.Proofs Slb Go.ChangeShapes Go.WideShapes Go.ChangeAt Go.RowKit
set_option maxRecDepth 100000
theorem Try.own : ownKnob Try.prog.godebug = none := by kernel_rfl
theorem Try.laidOut : laidOutB Try.prog = true := by kernel_rfl
theorem te23 : TE Try.prog 23 (Bs 16) Bs.enc := TE.bytes Try.underlying23 Try.underlying5 (by kernel_rfl) (by kernel_rfl)
theorem te3i : TE Try.prog 3 I64 (fun n => [I64.v n]) := TE.i64 Try.underlying3
theorem te43 : TE Try.prog 43 { x : Prefix // x.WF } (fun x => x.val.enc) := fun e w base sp held fuel cs y h => by
  obtain ⟨xs, n, _, _, hl, hx, hf⟩ := DataW.trod_struct Try.underlying43 h
  obtain ⟨x0, e0⟩ := te23 e w base sp held n _ _ ((hf 0 _ rfl).trans (List.getElem?_eq_getElem (by rw [hx]; decide)))
  obtain ⟨x1, e1⟩ := te3i e w base sp held n _ _ ((hf 1 _ rfl).trans (List.getElem?_eq_getElem (by rw [hx]; decide)))
  exact ⟨⟨⟨x0, x1⟩, ⟨trivial, trivial⟩⟩, Pieces.eq (off := 0) (l := [(16, Bs.enc x0), (1, [I64.v x1])]) ⟨TE.piece (t := 23) (by kernel_rfl) e0, ⟨TE.piece (t := 3) (by kernel_rfl) e1, hl.trans (by kernel_rfl)⟩⟩⟩
theorem te45 : TE Try.prog 45 { x : Pair // x.WF } (fun x => x.val.enc) := fun e w base sp held fuel cs y h => by
  obtain ⟨xs, n, _, _, hl, hx, hf⟩ := DataW.trod_struct Try.underlying45 h
  obtain ⟨⟨x0, w0⟩, e0⟩ := te43 e w base sp held n _ _ ((hf 0 _ rfl).trans (List.getElem?_eq_getElem (by rw [hx]; decide)))
  obtain ⟨⟨x1, w1⟩, e1⟩ := te43 e w base sp held n _ _ ((hf 1 _ rfl).trans (List.getElem?_eq_getElem (by rw [hx]; decide)))
  exact ⟨⟨⟨x0, x1⟩, ⟨w0, w1⟩⟩, Pieces.eq (off := 0) (l := [(17, Prefix.enc x0), (17, Prefix.enc x1)]) ⟨TE.piece (t := 43) (by kernel_rfl) e0, ⟨TE.piece (t := 43) (by kernel_rfl) e1, hl.trans (by kernel_rfl)⟩⟩⟩
theorem te48 : TE Try.prog 48 (Bs 8) Bs.enc := TE.bytes Try.underlying48 Try.underlying5 (by kernel_rfl) (by kernel_rfl)
theorem te46 : TE Try.prog 46 { n : Int // 0 ≤ n ∧ n ≤ 65535 } (fun n => [.int .u16 n.val]) := TE.intW (by decide) (by decide) Try.underlying46
theorem te60 : TE Try.prog 60 { x : Offer // x.WF } (fun x => x.val.enc) := fun e w base sp held fuel cs y h => by
  obtain ⟨xs, n, _, _, hl, hx, hf⟩ := DataW.trod_struct Try.underlying60 h
  obtain ⟨⟨x0, w0⟩, e0⟩ := te45 e w base sp held n _ _ ((hf 0 _ rfl).trans (List.getElem?_eq_getElem (by rw [hx]; decide)))
  obtain ⟨x1, e1⟩ := te48 e w base sp held n _ _ ((hf 1 _ rfl).trans (List.getElem?_eq_getElem (by rw [hx]; decide)))
  obtain ⟨⟨x2, w2⟩, e2⟩ := te46 e w base sp held n _ _ ((hf 2 _ rfl).trans (List.getElem?_eq_getElem (by rw [hx]; decide)))
  obtain ⟨⟨x3, w3⟩, e3⟩ := te46 e w base sp held n _ _ ((hf 3 _ rfl).trans (List.getElem?_eq_getElem (by rw [hx]; decide)))
  exact ⟨⟨⟨x0, x1, x2, x3⟩, ⟨w0, trivial, w2, w3⟩⟩, Pieces.eq (off := 0) (l := [(34, Pair.enc x0), (8, Bs.enc x1), (1, [.int .u16 x2]), (1, [.int .u16 x3])]) ⟨TE.piece (t := 45) (by kernel_rfl) e0, ⟨TE.piece (t := 48) (by kernel_rfl) e1, ⟨TE.piece (t := 46) (by kernel_rfl) e2, ⟨TE.piece (t := 46) (by kernel_rfl) e3, hl.trans (by kernel_rfl)⟩⟩⟩⟩⟩

theorem announceNil_lifted (os : Os) (started : os.Started) (H : Type) (enc : TypeId × Value → H) :
    ReturnsInHanded {} Try.checked os 5 .any (Rows.announceNilSpec.pre6 enc Try.prog Try.f5 Rows.announceNilRow.domain false) (Rows.announceNilSpec.post enc Try.prog Try.f5 false true false false) := by
  refine returnsInHanded_of_change (C := Try.checked) Try.own started (by kernel_rfl) Try.func5
    (ChangeSpec.witness6 (enc := enc) (C := Try.checked) false ⟨#[], #[.int .i64 0, .agg Offer.zero.enc.toArray], []⟩ 8 (by kernel_rfl) (by kernel_rfl) (by kernel_rfl) (by kernel_rfl)) ?_
  intro W base args ds gs before hval0 hW hcnd _
  have hval : ∀ (j : Nat) t v, Try.f5.params[j]? = some t → args[j]? = some v → Value.okWide Try.prog W .any base t v := hval0
  have hW' := hW
  obtain ⟨p, q, hA0, hV, rfl, hfz, hnd⟩ := hW
  have hA : DataW.TrodAll enc Try.prog W 0 (fun _ => true) true Try.f5.params.toList args.toList ds p := hA0
  rw [Try.params5] at hA hval
  obtain ⟨v0, vs0, d0, ds0, p0, q0, e0, rfl, rfl, h0, r0⟩ := trodAll_cons hA
  obtain ⟨v1, vs1, d1, ds1, p1, q1, e1, rfl, rfl, h1, r1⟩ := trodAll_cons r0
  obtain ⟨e2, rfl, rfl⟩ := trodAll_nil r1
  rw [e2] at e1
  rw [e1] at e0
  obtain rfl : args = #[v0, v1] := Array.ext' (by simpa using e0)
  obtain ⟨rfl, rfl⟩ := trodVars_none hV
  obtain ⟨x0, rfl, rfl, rfl, w0⟩ := open_int Try.underlying3 (hval 0 3 v0 rfl rfl) h0
  obtain ⟨⟨x1, w1⟩, rfl⟩ := val_agg te60 (by kernel_rfl) (hval 1 60 v1 rfl rfl) h1
  refine (law_nil (frAll W) x0 x1 W (sat_frAll W)).mono ?_
  rintro e W' ⟨v, S, rfl, ⟨rfl, rfl⟩, s⟩
  exact ⟨_, rfl, post_law Try.laidOut (bt := 4) hW' rfl rfl rfl rfl rfl Try.underlying4 (by rw [Try.params5]; decide +kernel) (below_of_sat s)⟩
theorem announceNil_holds : Rows.AnnounceNilSaid :=
  OpenClaim.holds_of_wide 5 Try.f5 rfl rfl rfl rfl rfl rfl rfl ⟨rfl, rfl, rfl, rfl, rfl⟩ rfl rfl rfl rfl rfl (by kernel_rfl) Try.func5 (by kernel_rfl)
    (of_decide_eq_true (by kernel_rfl)) (by unfold Func.isWrapper; first | (rw [if_pos (by decide +kernel)]; kernel_rfl) | (rw [if_neg (by decide +kernel)]; exact ⟨rfl, rfl⟩))
    (fun os started H enc _ => announceNil_lifted os started H enc)
end Go.Proofs.Ytjieokfcpbillaa
