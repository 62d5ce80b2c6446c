/- X28: a part of the proof that a law of this package holds for every input; no condition. -/
import Derived.Test.YtanlgpdpjgpmfaaX26
import Derived.Test.YtanlgpdpjgpmfaaX18
import Derived.Test.YtanlgpdpjgpmfaaM2
namespace Slb
open Go Go.Proofs
set_option maxRecDepth 20000
def untilL (Fs : List Ref19Wait) (p : Pair) : Option Int := (Fs.find? fun x => decide (x.p = p)).map (·.until_)
theorem untilL_none {Fs : List Ref19Wait} {p : Pair} (h : ∀ x ∈ Fs, x.p ≠ p) : untilL Fs p = none := by
  unfold untilL
  rw [List.find?_eq_none.2 fun x hx => by simpa using h x hx]
  rfl
theorem untilL_some {Fs : List Ref19Wait} {p : Pair} {i : Nat} {x : Ref19Wait} (hi : Fs[i]? = some x) (hx : x.p = p) (h : ∀ y ∈ Fs.take i, y.p ≠ p) : untilL Fs p = some x.until_ := by
  unfold untilL
  have hlt : i < Fs.length := (List.getElem?_eq_some_iff.1 hi).1
  have he : Fs[i] = x := (List.getElem?_eq_some_iff.1 hi).2
  have hF : Fs = Fs.take i ++ x :: Fs.drop (i + 1) := by rw [← he, ← List.drop_eq_getElem_cons hlt, List.take_append_drop]
  rw [hF, List.find?_append, List.find?_eq_none.2 fun y hy => by simpa using h y hy]
  simp [hx]
theorem take_not {α : Type} {L : List α} {i : Nat} {x : α} {q : α → Prop} (h : ∀ y ∈ L.take i, q y) (hi : L[i]? = some x) (hx : q x) : ∀ y ∈ L.take (i + 1), q y := fun y hy => by
  rw [take_succ_get hi] at hy
  rcases List.mem_append.1 hy with hy | hy
  · exact h y hy
  · simp at hy; subst hy; exact hx

theorem until_spec (F : Fr) {b : Nat} {hS wS : Slc} {af : Option Addr} {cf : Nat} {Fs : List Ref19Wait} {way : Op} {busy : Bool} (hf : SlH af cf Fs) (hl : Fs.length ≤ 1000000) (p : Pair) : Spec Try.prog 47 #[.pointer (some ⟨b, 0, none⟩), .agg (Pair.enc p).toArray] [blk b (Ref19Fib.enc ⟨hS, wS, ⟨af, Fs.length, cf⟩, way, busy⟩) 45, slA 86 35 Ref19Wait.enc (.slice af Fs.length cf) Fs] F (fun v S => v = .tuple #[.int .i64 ((untilL Fs p).getD 0), .bool (untilL Fs p).isSome] ∧ S = [blk b (Ref19Fib.enc ⟨hS, wS, ⟨af, Fs.length, cf⟩, way, busy⟩) 45, slA 86 35 Ref19Wait.enc (.slice af Fs.length cf) Fs]) := by
 refine Spec.intro (N := 34) (args := [.pointer (some ⟨b, 0, none⟩), .agg (Pair.enc p).toArray]) Try.func47 rfl rfl (by simp) ?_
 refine Run.seq fun k1 hk1 => ?_
 refine Run.region ?_
 show Sq _ _ _ [0, 1, 2] _ _ _ _
 refine Sq.eff (i := 0) rfl (Want.none rfl) rfl (ltN rfl) (EF.boxA rfl rfl) ?_
 rintro _ _ ⟨b3, rfl, rfl⟩
 refine Sq.quiet (i := 1) rfl (Want.none rfl) rfl (ltN rfl) (QP.assign rfl rfl).read ?_
 refine Sq.quiet (i := 2) rfl (Want.none rfl) rfl (ltN rfl) (QP.assign rfl rfl).read ?_
 refine Sq.nil ?_
 refine hk1 _ _ ?_
 refine Run.seq fun k2 hk2 => ?_
 refine Run.seq fun k3 hk3 => ?_
 refine Run.region ?_
 show Sq _ _ _ [0] _ _ _ _
 refine Sq.quiet (i := 0) rfl (Want.none rfl) rfl (ltN rfl) (QP.assign rfl rfl).read ?_
 refine Sq.nil ?_
 refine hk3 _ _ ?_
 refine Run.block ?_
 refine Run.loop1 (fun (i : Nat) => i ≤ Fs.length ∧ ∀ y ∈ Fs.take i, y.p ≠ p) (fun i => .cons 0 (.pointer (some ⟨b, 0, none⟩)) (.cons 3 (.pointer (some ⟨b3, 0, none⟩)) (.cons 6 (.int .i64 i) (.nil)))) (fun i => [blk b (Ref19Fib.enc ⟨hS, wS, ⟨af, Fs.length, cf⟩, way, busy⟩) 45, slA 86 35 Ref19Wait.enc (.slice af Fs.length cf) Fs, blk b3 (Pair.enc p) 39]) (fun i => Fs.length - i) (0) (⟨Nat.zero_le _, by simp⟩) ?_ ?_
 ·exact fun _ j => J.envJ (J.keep (.cons (by repeat constructor) (.cons (by repeat constructor) (.cons (by repeat constructor) Takes.nil))) j) ⟨rfl, rfl, rfl, trivial⟩
 rintro i ⟨hile, hno⟩ kl4 hl4
 refine Run.seq fun k5 hk5 => ?_
 refine Run.seq fun k6 hk6 => ?_
 refine Run.region ?_
 show Sq _ _ _ [0, 1, 2, 3, 4, 5, 6] _ _ _ _
 refine Sq.quiet (i := 0) rfl (Want.none rfl) rfl (ltN rfl) (QP.move rfl rfl).read ?_
 refine Sq.quiet (i := 1) rfl (Want.none rfl) rfl (ltN rfl) (QP.move rfl rfl).read ?_
 refine Sq.quiet (i := 2) rfl (Want.none rfl) rfl (ltN rfl) (QP.nilCheck rfl rfl).read ?_
 refine Sq.quiet (i := 3) rfl (Want.none rfl) rfl (ltN rfl) (QP.fieldAddr rfl rfl f45_2).read ?_
 refine Sq.quiet (i := 4) rfl (Want.none rfl) rfl (ltN rfl) (QR.load1 (v := .slice _ Fs.length _) rfl rfl g33 (Ref19Fib.sub_f _)) ?_
 refine Sq.quiet (i := 5) rfl (Want.none rfl) rfl (ltN rfl) (QP.len rfl rfl rfl Try.underlying33).read ?_
 refine Sq.quiet (i := 6) rfl (Want.none rfl) rfl (ltN rfl) (QP.lss rfl rfl rfl).read ?_
 refine J.caseD (fun c13 => ?_) (fun c13 => ?_)
 ·skip
  refine Sq.nil ?_
  refine hk6 _ _ ?_
  refine Run.cond_t rfl ?_
  refine Run.skip ?_
  refine hk5 _ _ ?_
  refine Run.seq fun k7 hk7 => ?_
  refine Run.block ?_
  refine Run.seq fun k8 hk8 => ?_
  refine Run.regionD (M := [0, 1, 3, 7, 0, 31, 63, 127, 0, 511]) (q := 1023) (r := 392) (by kernel_rfl) ?_
  obtain ⟨x, hi⟩ : ∃ x, Fs[i]? = some x := ⟨_, List.getElem?_eq_getElem (by omega)⟩
  obtain ⟨b0, o0, rfl⟩ := hf.get (by omega)
  refine Dw.pure (i := 0) rfl (by kernel_rfl) (Want.none rfl) rfl (ltN rfl) (QP.move rfl rfl) ?_
  refine Dw.pure (i := 1) rfl (by kernel_rfl) (Want.none rfl) rfl (ltN rfl) (QP.nilCheck rfl rfl) ?_
  refine Dw.pure (i := 2) rfl (by kernel_rfl) (Want.none rfl) rfl (ltN rfl) (QP.fieldAddr rfl rfl f45_2) ?_
  refine Dw.read (i := 3) rfl (by kernel_rfl) (Want.none rfl) rfl (ltN rfl) (QR.load1 (v := .slice _ Fs.length _) rfl rfl g33 (Ref19Fib.sub_f _)) ?_
  refine Dw.pure (i := 4) rfl (by kernel_rfl) (Want.none rfl) rfl (ltN rfl) (QP.move rfl rfl) ?_
  refine Dw.pure (i := 5) rfl (by kernel_rfl) (Want.none rfl) rfl (ltN rfl) (QP.indexAddr rfl rfl rfl Try.underlying33 z86 (by first | omega | (simp <;> omega)) (by first | omega | (simp <;> omega))) ?_
  refine Dw.pure (i := 6) rfl (by kernel_rfl) (Want.none rfl) rfl (ltN rfl) (QP.fieldAddr rfl rfl f86_0) ?_
  refine Dw.read (i := 7) rfl (by kernel_rfl) (Want.none rfl) rfl (ltN rfl) (QR.loadSlF rfl rfl g39 Ref19Wait.enc_len (SlAt.own Ref19Wait.enc_len (by repeat constructor)) hi (Ref19Wait.sub_p _)) ?_
  refine Dw.read (i := 8) rfl (by kernel_rfl) (Want.none rfl) rfl (ltN rfl) (QR.load rfl rfl g39 (Pair.enc_sub _)) ?_
  refine Dw.pure (i := 9) rfl (by kernel_rfl) (Want.none rfl) rfl (ltN rfl) (QP.eql_agg eq39 rfl rfl rfl) ?_
  refine J.caseD (fun c25 => ?_) (fun c25 => ?_)
  ·skip
   refine Dw.nil (by kernel_rfl) ?_
   refine hk8 _ _ ?_
   refine Run.cond_t rfl ?_
   refine Run.seq fun k9 hk9 => ?_
   refine Run.region ?_
   show Sq _ _ _ [0, 1, 2, 3, 4, 5, 6, 7, 8, 9] _ _ _ _
   refine Sq.quiet (i := 0) rfl (Want.none rfl) rfl (ltN rfl) (QP.move rfl rfl).read ?_
   refine Sq.quiet (i := 1) rfl (Want.none rfl) rfl (ltN rfl) (QP.nilCheck rfl rfl).read ?_
   refine Sq.quiet (i := 2) rfl (Want.none rfl) rfl (ltN rfl) (QP.fieldAddr rfl rfl f45_2).read ?_
   refine Sq.quiet (i := 3) rfl (Want.none rfl) rfl (ltN rfl) (QR.load1 (v := .slice _ Fs.length _) rfl rfl g33 (Ref19Fib.sub_f _)) ?_
   refine Sq.quiet (i := 4) rfl (Want.none rfl) rfl (ltN rfl) (QP.move rfl rfl).read ?_
   refine Sq.quiet (i := 5) rfl (Want.none rfl) rfl (ltN rfl) (QP.indexAddr rfl rfl rfl Try.underlying33 z86 (by first | omega | (simp <;> omega)) (by first | omega | (simp <;> omega))).read ?_
   refine Sq.quiet (i := 6) rfl (Want.none rfl) rfl (ltN rfl) (QP.fieldAddr rfl rfl f86_1).read ?_
   refine Sq.quiet (i := 7) rfl (Want.none rfl) rfl (ltN rfl) (QR.loadSlF1 rfl rfl g3 Ref19Wait.enc_len (SlAt.own Ref19Wait.enc_len (by repeat constructor)) hi (Ref19Wait.sub_until_ _)) ?_
   refine Sq.quiet (i := 8) rfl (Want.none rfl) rfl (ltN rfl) (QP.assign rfl rfl).read ?_
   refine Sq.quiet (i := 9) rfl (Want.none rfl) rfl (ltN rfl) (QP.assign rfl rfl).read ?_
   refine Sq.nil ?_
   refine hk9 _ _ ?_
   refine Run.ret ?_
   exact J.ends (res_tmp2 rfl rfl rfl) (.cons (by repeat constructor) (.cons (by repeat constructor) Takes.nil)) ⟨by rw [untilL_some hi c25 hno]; rfl, rfl⟩
  ·skip
   refine Dw.nil (by kernel_rfl) ?_
   refine hk8 _ _ ?_
   refine Run.cond_f rfl ?_
   refine Run.skip ?_
   refine hk7 _ _ ?_
   refine Run.region ?_
   show Sq _ _ _ [0, 1, 2] _ _ _ _
   refine Sq.quiet (i := 0) rfl (Want.none rfl) rfl (ltN rfl) (QP.move rfl rfl).read ?_
   refine Sq.quiet (i := 1) rfl (Want.none rfl) rfl (ltN rfl) (QP.add64 rfl rfl rfl (by first | omega | (simp <;> omega)) (by first | omega | (simp <;> omega))).read ?_
   refine Sq.quiet (i := 2) rfl (Want.none rfl) rfl (ltN rfl) (QP.assign rfl rfl).read ?_
   refine Sq.nil ?_
   exact J.envJ (J.keep (.cons (by repeat constructor) (.cons (by repeat constructor) (.cons (by repeat constructor) Takes.nil))) (hl4 (i + 1) (⟨by omega, take_not hno hi c25⟩) (by omega))) ⟨rfl, rfl, rfl, trivial⟩
 ·skip
  refine Sq.nil ?_
  refine hk6 _ _ ?_
  refine Run.cond_f rfl ?_
  refine Run.exit rfl ?_
  refine hk2 _ _ ?_
  refine Run.seq fun k10 hk10 => ?_
  refine Run.region ?_
  show Sq _ _ _ [0, 1] _ _ _ _
  refine Sq.quiet (i := 0) rfl (Want.none rfl) rfl (ltN rfl) (QP.assign rfl rfl).read ?_
  refine Sq.quiet (i := 1) rfl (Want.none rfl) rfl (ltN rfl) (QP.assign rfl rfl).read ?_
  refine Sq.nil ?_
  refine hk10 _ _ ?_
  refine Run.ret ?_
  exact J.ends (res_tmp2 rfl rfl rfl) (.cons (by repeat constructor) (.cons (by repeat constructor) Takes.nil)) ⟨by rw [untilL_none (by rw [List.take_of_length_le (by omega)] at hno; exact hno)]; rfl, rfl⟩

theorem rtodo_spec (F : Fr) {b : Nat} {ah aw : Option Addr} {ch cw : Nat} {fS : Slc} {LH LW : List Entry} {way : Op} {busy : Bool} {H Wt : TabE} (hoH : OrdE H LH) (hoW : OrdE Wt LW) (hhh : SlH ah ch LH) (hhw : SlH aw cw LW) (hlH : LH.length ≤ 100000) (hlW : LW.length ≤ 600000)  : Spec Try.prog 46 #[.pointer (some ⟨b, 0, none⟩)] [blk b (Ref19Fib.enc ⟨⟨ah, LH.length, ch⟩, ⟨aw, LW.length, cw⟩, fS, way, busy⟩) 45, slA 41 51 Entry.enc (.slice ah LH.length ch) LH, slA 41 51 Entry.enc (.slice aw LW.length cw) LW] F (fun v S => S = [blk b (Ref19Fib.enc ⟨⟨ah, LH.length, ch⟩, ⟨aw, LW.length, cw⟩, fS, way, busy⟩) 45, slA 41 51 Entry.enc (.slice ah LH.length ch) LH, slA 41 51 Entry.enc (.slice aw LW.length cw) LW, slA 43 52 Op.enc v (todoL H Wt LH LW)]) := by
 refine Spec.intro (N := 105) (args := [.pointer (some ⟨b, 0, none⟩)]) Try.func46 rfl rfl (by simp) ?_
 refine Run.seq fun k1 hk1 => ?_
 refine Run.region ?_
 show Sq _ _ _ [0] _ _ _ _
 refine Sq.quiet (i := 0) rfl (Want.none rfl) rfl (ltN rfl) (QP.assign rfl rfl).read ?_
 refine Sq.nil ?_
 refine hk1 _ _ ?_
 refine Run.seq fun k2 hk2 => ?_
 refine Run.region ?_
 show Sq _ _ _ [0] _ _ _ _
 refine J.addSl 43 52 Op.enc ?_
 refine Sq.quiet (i := 0) rfl (Want.none rfl) rfl (ltN rfl) (QP.assign rfl rfl).read ?_
 refine Sq.nil ?_
 refine hk2 _ _ ?_
 refine Run.seq fun k3 hk3 => ?_
 refine Run.seq fun k4 hk4 => ?_
 refine Run.region ?_
 show Sq _ _ _ [0] _ _ _ _
 refine Sq.quiet (i := 0) rfl (Want.none rfl) rfl (ltN rfl) (QP.assign rfl rfl).read ?_
 refine Sq.nil ?_
 refine hk4 _ _ ?_
 refine Run.block ?_
 refine Run.loop2 (fun (i : Nat) (vo : Value) => i ≤ LH.length) (fun i vo => .cons 0 (.pointer (some ⟨b, 0, none⟩)) (.cons 3 (vo) (.cons 4 (.int .i64 i) (.nil)))) (fun i vo => [blk b (Ref19Fib.enc ⟨⟨ah, LH.length, ch⟩, ⟨aw, LW.length, cw⟩, fS, way, busy⟩) 45, slA 41 51 Entry.enc (.slice ah LH.length ch) LH, slA 41 51 Entry.enc (.slice aw LW.length cw) LW, slA 43 52 Op.enc vo (remL Wt (LH.take i))]) (fun i vo => LH.length - i) (0) (.slice none 0 0) (Nat.zero_le _) ?_ ?_
 ·exact fun _ j => J.envJ (J.keep (.cons (by repeat constructor) (.cons (by repeat constructor) (.cons (by repeat constructor) (.cons (by repeat constructor) Takes.nil)))) j) ⟨rfl, rfl, rfl, trivial⟩
 rintro i vo hile kl5 hl5
 refine Run.seq fun k6 hk6 => ?_
 refine Run.seq fun k7 hk7 => ?_
 refine Run.region ?_
 show Sq _ _ _ [0, 1, 2, 3, 4, 5, 6] _ _ _ _
 refine Sq.quiet (i := 0) rfl (Want.none rfl) rfl (ltN rfl) (QP.move rfl rfl).read ?_
 refine Sq.quiet (i := 1) rfl (Want.none rfl) rfl (ltN rfl) (QP.move rfl rfl).read ?_
 refine Sq.quiet (i := 2) rfl (Want.none rfl) rfl (ltN rfl) (QP.nilCheck rfl rfl).read ?_
 refine Sq.quiet (i := 3) rfl (Want.none rfl) rfl (ltN rfl) (QP.fieldAddr rfl rfl f45_0).read ?_
 refine Sq.quiet (i := 4) rfl (Want.none rfl) rfl (ltN rfl) (QR.load1 (v := .slice _ LH.length _) rfl rfl g22 (Ref19Fib.sub_h _)) ?_
 refine Sq.quiet (i := 5) rfl (Want.none rfl) rfl (ltN rfl) (QP.len rfl rfl rfl Try.underlying22).read ?_
 refine Sq.quiet (i := 6) rfl (Want.none rfl) rfl (ltN rfl) (QP.lss rfl rfl rfl).read ?_
 refine J.caseD (fun c13 => ?_) (fun c13 => ?_)
 ·skip
  refine Sq.nil ?_
  refine hk7 _ _ ?_
  refine Run.cond_t rfl ?_
  refine Run.skip ?_
  refine hk6 _ _ ?_
  refine Run.seq fun k8 hk8 => ?_
  refine Run.block ?_
  refine Run.seq fun k9 hk9 => ?_
  refine Run.regionD (M := [0, 1, 3, 7, 0, 16, 48, 112, 0, 496, 1008, 2032, 4095, 8191]) (q := 12287) (r := 2184) (by kernel_rfl) ?_
  obtain ⟨x, hi⟩ : ∃ x, LH[i]? = some x := ⟨_, List.getElem?_eq_getElem (by omega)⟩
  obtain ⟨b0, o0, rfl⟩ := hhh.get (by omega)
  have hsu := remL_succ (Wt := Wt) hi
  have hrl := remL_len Wt (LH.take i)
  have htl : (LH.take i).length ≤ 100000 := by rw [List.length_take]; omega
  refine Dw.pure (i := 0) rfl (by kernel_rfl) (Want.none rfl) rfl (ltN rfl) (QP.move rfl rfl) ?_
  refine Dw.pure (i := 1) rfl (by kernel_rfl) (Want.none rfl) rfl (ltN rfl) (QP.nilCheck rfl rfl) ?_
  refine Dw.pure (i := 2) rfl (by kernel_rfl) (Want.none rfl) rfl (ltN rfl) (QP.fieldAddr rfl rfl f45_1) ?_
  refine Dw.read (i := 3) rfl (by kernel_rfl) (Want.none rfl) rfl (ltN rfl) (QR.load1 (v := .slice _ LW.length _) rfl rfl g22 (Ref19Fib.sub_w _)) ?_
  refine Dw.pure (i := 4) rfl (by kernel_rfl) (Want.none rfl) rfl (ltN rfl) (QP.move rfl rfl) ?_
  refine Dw.pure (i := 5) rfl (by kernel_rfl) (Want.none rfl) rfl (ltN rfl) (QP.nilCheck rfl rfl) ?_
  refine Dw.pure (i := 6) rfl (by kernel_rfl) (Want.none rfl) rfl (ltN rfl) (QP.fieldAddr rfl rfl f45_0) ?_
  refine Dw.read (i := 7) rfl (by kernel_rfl) (Want.none rfl) rfl (ltN rfl) (QR.load1 (v := .slice _ LH.length _) rfl rfl g22 (Ref19Fib.sub_h _)) ?_
  refine Dw.pure (i := 8) rfl (by kernel_rfl) (Want.none rfl) rfl (ltN rfl) (QP.move rfl rfl) ?_
  refine Dw.pure (i := 9) rfl (by kernel_rfl) (Want.none rfl) rfl (ltN rfl) (QP.indexAddr rfl rfl rfl Try.underlying22 z41 (by first | omega | (simp <;> omega)) (by first | omega | (simp <;> omega))) ?_
  refine Dw.pure (i := 10) rfl (by kernel_rfl) (Want.none rfl) rfl (ltN rfl) (QP.fieldAddr rfl rfl f41_0) ?_
  refine Dw.read (i := 11) rfl (by kernel_rfl) (Want.none rfl) rfl (ltN rfl) (QR.loadSlF rfl rfl g39 Entry.enc_len (SlAt.own Entry.enc_len (by repeat constructor)) hi (Entry.sub_pair _)) ?_
  refine Dw.eff (i := 12) (by kernel_rfl) (by kernel_rfl) ?_
  refine One.mk (o := _) (l := []) rfl (by kernel_rfl) (Want.none rfl) rfl (ltN rfl) (EF.call rfl ce29 rfl (.cons (by repeat constructor) Takes.nil) (fun F' hle hr => find_spec F' (by omega) hhw _)) (by kernel_rfl) ?_
  rintro _ _ ⟨_, ⟨rfl, n28, rfl, hf28⟩, rfl⟩
  refine ⟨fun _ h => (by cases h), ?_⟩
  refine J.app ?_
  refine Dw.pure (i := 13) rfl (by kernel_rfl) (Want.none rfl) rfl (ltN rfl) (QP.lss rfl rfl rfl) ?_
  refine J.caseD (fun c29 => ?_) (fun c29 => ?_)
  ·skip
   refine Dw.nil (by kernel_rfl) ?_
   refine hk9 _ _ ?_
   refine Run.cond_t rfl ?_
   refine Run.region ?_
   show Sq _ _ _ [0, 1, 2, 3, 4, 5, 6, 7, 8, 9, 10, 11] _ _ _ _
   refine Sq.quiet (i := 0) rfl (Want.none rfl) rfl (ltN rfl) (QP.move rfl rfl).read ?_
   refine Sq.quiet (i := 1) rfl (Want.none rfl) rfl (ltN rfl) (QP.move rfl rfl).read ?_
   refine Sq.quiet (i := 2) rfl (Want.none rfl) rfl (ltN rfl) (QP.nilCheck rfl rfl).read ?_
   refine Sq.quiet (i := 3) rfl (Want.none rfl) rfl (ltN rfl) (QP.fieldAddr rfl rfl f45_0).read ?_
   refine Sq.quiet (i := 4) rfl (Want.none rfl) rfl (ltN rfl) (QR.load1 (v := .slice _ LH.length _) rfl rfl g22 (Ref19Fib.sub_h _)) ?_
   refine Sq.quiet (i := 5) rfl (Want.none rfl) rfl (ltN rfl) (QP.move rfl rfl).read ?_
   refine Sq.quiet (i := 6) rfl (Want.none rfl) rfl (ltN rfl) (QP.indexAddr rfl rfl rfl Try.underlying22 z41 (by first | omega | (simp <;> omega)) (by first | omega | (simp <;> omega))).read ?_
   refine Sq.quiet (i := 7) rfl (Want.none rfl) rfl (ltN rfl) (QR.loadSl rfl rfl g41 Entry.enc_len (SlAt.own Entry.enc_len (by repeat constructor)) hi) ?_
   refine Sq.quiet (i := 8) rfl (Want.none rfl) rfl (ltN rfl) (QP.build (l := Op.enc ⟨(3), (x)⟩) rfl st43 rfl (by exact ⟨rfl, ⟨(congrArg some (Entry.enc_len _).symm), trivial⟩⟩) rfl).read ?_
   refine Sq.eff (i := 9) rfl (Want.none rfl) rfl (ltN rfl) (EF.buildSlice1 rfl Try.underlying82 z43 zero43 (by simp [Value.cells, Op.enc_len]) (by decide) rfl rfl (Op.enc_len _) (by decide)) ?_
   rintro _ _ ⟨b39, rfl, rfl⟩
   refine Sq.eff (i := 10) rfl (Want.none rfl) rfl (ltN rfl) (EF.append1 (xs := (remL Wt (LH.take i))) (s := (⟨(3), (x)⟩ : Op)) el43 Op.enc_len Op.enc_cell rfl rfl rfl Try.underlying82 Try.underlying82 rfl rfl (by repeat constructor) (by repeat constructor) (by first | omega | (simp <;> omega))) ?_
   rintro sl40 _ rfl
   refine Sq.quiet (i := 11) rfl (Want.none rfl) rfl (ltN rfl) (QP.assign rfl rfl).read ?_
   refine Sq.nil ?_
   refine hk8 _ _ ?_
   refine Run.region ?_
   show Sq _ _ _ [0, 1, 2] _ _ _ _
   have hnn : (alook Wt x.pair).isSome = false := by rw [(find_iff hoW hf28).1 c29]; rfl
   rw [hnn] at hsu
   simp only [Bool.false_eq_true, if_false] at hsu
   refine J.slEq (v := sl40) (by repeat constructor) hsu.symm ?_
   refine Sq.quiet (i := 0) rfl (Want.none rfl) rfl (ltN rfl) (QP.move rfl rfl).read ?_
   refine Sq.quiet (i := 1) rfl (Want.none rfl) rfl (ltN rfl) (QP.add64 rfl rfl rfl (by first | omega | (simp <;> omega)) (by first | omega | (simp <;> omega))).read ?_
   refine Sq.quiet (i := 2) rfl (Want.none rfl) rfl (ltN rfl) (QP.assign rfl rfl).read ?_
   refine Sq.nil ?_
   exact J.envJ (J.keep (.cons (by repeat constructor) (.cons (by repeat constructor) (.cons (by repeat constructor) (.cons (by repeat constructor) Takes.nil)))) (hl5 (i + 1) (sl40) (by omega) (by omega))) ⟨rfl, rfl, rfl, trivial⟩
  ·skip
   refine Dw.nil (by kernel_rfl) ?_
   refine hk9 _ _ ?_
   refine Run.cond_f rfl ?_
   refine Run.skip ?_
   refine hk8 _ _ ?_
   refine Run.region ?_
   show Sq _ _ _ [0, 1, 2] _ _ _ _
   have hnn : (alook Wt x.pair).isSome = true := by cases hq : alook Wt x.pair with | none => exact absurd ((find_iff hoW hf28).2 hq) c29 | some _ => rfl
   rw [hnn] at hsu
   simp only [if_true, List.append_nil] at hsu
   refine J.slEq (v := vo) (by repeat constructor) hsu.symm ?_
   refine Sq.quiet (i := 0) rfl (Want.none rfl) rfl (ltN rfl) (QP.move rfl rfl).read ?_
   refine Sq.quiet (i := 1) rfl (Want.none rfl) rfl (ltN rfl) (QP.add64 rfl rfl rfl (by first | omega | (simp <;> omega)) (by first | omega | (simp <;> omega))).read ?_
   refine Sq.quiet (i := 2) rfl (Want.none rfl) rfl (ltN rfl) (QP.assign rfl rfl).read ?_
   refine Sq.nil ?_
   exact J.envJ (J.keep (.cons (by repeat constructor) (.cons (by repeat constructor) (.cons (by repeat constructor) (.cons (by repeat constructor) Takes.nil)))) (hl5 (i + 1) (vo) (by omega) (by omega))) ⟨rfl, rfl, rfl, trivial⟩
 ·skip
  refine Sq.nil ?_
  refine hk7 _ _ ?_
  refine Run.cond_f rfl ?_
  refine Run.exit rfl ?_
  refine hk3 _ _ ?_
  refine Run.seq fun k10 hk10 => ?_
  refine Run.seq fun k11 hk11 => ?_
  refine Run.region ?_
  show Sq _ _ _ [0] _ _ _ _
  have hty : LH.take i = LH := List.take_of_length_le (by omega)
  rw [hty]
  have hrl := remL_len Wt LH
  refine J.slEq (v := vo) (by repeat constructor) (show remL Wt LH = remL Wt LH ++ (LW.take 0).filterMap (addO H) by simp) ?_
  refine Sq.quiet (i := 0) rfl (Want.none rfl) rfl (ltN rfl) (QP.assign rfl rfl).read ?_
  refine Sq.nil ?_
  refine hk11 _ _ ?_
  refine Run.block ?_
  refine Run.loop2 (fun (j : Nat) (vo : Value) => j ≤ LW.length) (fun j vo => .cons 0 (.pointer (some ⟨b, 0, none⟩)) (.cons 3 (vo) (.cons 5 (.int .i64 j) (.nil)))) (fun j vo => [blk b (Ref19Fib.enc ⟨⟨ah, LH.length, ch⟩, ⟨aw, LW.length, cw⟩, fS, way, busy⟩) 45, slA 41 51 Entry.enc (.slice ah LH.length ch) LH, slA 41 51 Entry.enc (.slice aw LW.length cw) LW, slA 43 52 Op.enc vo (remL Wt LH ++ (LW.take j).filterMap (addO H))]) (fun j vo => LW.length - j) (0) (vo) (Nat.zero_le _) ?_ ?_
  ·exact fun _ j => J.envJ (J.keep (.cons (by repeat constructor) (.cons (by repeat constructor) (.cons (by repeat constructor) (.cons (by repeat constructor) Takes.nil)))) j) ⟨rfl, rfl, rfl, trivial⟩
  rintro j vo hile2 kl12 hl12
  refine Run.seq fun k13 hk13 => ?_
  refine Run.seq fun k14 hk14 => ?_
  refine Run.region ?_
  show Sq _ _ _ [0, 1, 2, 3, 4, 5, 6] _ _ _ _
  refine Sq.quiet (i := 0) rfl (Want.none rfl) rfl (ltN rfl) (QP.move rfl rfl).read ?_
  refine Sq.quiet (i := 1) rfl (Want.none rfl) rfl (ltN rfl) (QP.move rfl rfl).read ?_
  refine Sq.quiet (i := 2) rfl (Want.none rfl) rfl (ltN rfl) (QP.nilCheck rfl rfl).read ?_
  refine Sq.quiet (i := 3) rfl (Want.none rfl) rfl (ltN rfl) (QP.fieldAddr rfl rfl f45_1).read ?_
  refine Sq.quiet (i := 4) rfl (Want.none rfl) rfl (ltN rfl) (QR.load1 (v := .slice _ LW.length _) rfl rfl g22 (Ref19Fib.sub_w _)) ?_
  refine Sq.quiet (i := 5) rfl (Want.none rfl) rfl (ltN rfl) (QP.len rfl rfl rfl Try.underlying22).read ?_
  refine Sq.quiet (i := 6) rfl (Want.none rfl) rfl (ltN rfl) (QP.lss rfl rfl rfl).read ?_
  refine J.caseD (fun c47 => ?_) (fun c47 => ?_)
  ·skip
   refine Sq.nil ?_
   refine hk14 _ _ ?_
   refine Run.cond_t rfl ?_
   refine Run.skip ?_
   refine hk13 _ _ ?_
   refine Run.seq fun k15 hk15 => ?_
   refine Run.block ?_
   refine Run.seq fun k16 hk16 => ?_
   refine Run.regionD (M := [0, 1, 3, 7, 0, 16, 48, 112, 0, 496, 1008, 2032, 4095, 8191]) (q := 4095) (r := 2184) (by kernel_rfl) ?_
   obtain ⟨e, hj⟩ : ∃ e, LW[j]? = some e := ⟨_, List.getElem?_eq_getElem (by omega)⟩
   obtain ⟨b0, o0, rfl⟩ := hhw.get (by omega)
   have hsu := addL_succ (H := H) hj
   have htl : (LW.take j).length ≤ 600000 := by rw [List.length_take]; omega
   have hfl := List.length_filterMap_le (addO H) (LW.take j)
   have hvl : (remL Wt LH ++ (LW.take j).filterMap (addO H)).length ≤ 900000 := by rw [List.length_append]; omega
   refine Dw.pure (i := 0) rfl (by kernel_rfl) (Want.none rfl) rfl (ltN rfl) (QP.move rfl rfl) ?_
   refine Dw.pure (i := 1) rfl (by kernel_rfl) (Want.none rfl) rfl (ltN rfl) (QP.nilCheck rfl rfl) ?_
   refine Dw.pure (i := 2) rfl (by kernel_rfl) (Want.none rfl) rfl (ltN rfl) (QP.fieldAddr rfl rfl f45_0) ?_
   refine Dw.read (i := 3) rfl (by kernel_rfl) (Want.none rfl) rfl (ltN rfl) (QR.load1 (v := .slice _ LH.length _) rfl rfl g22 (Ref19Fib.sub_h _)) ?_
   refine Dw.pure (i := 4) rfl (by kernel_rfl) (Want.none rfl) rfl (ltN rfl) (QP.move rfl rfl) ?_
   refine Dw.pure (i := 5) rfl (by kernel_rfl) (Want.none rfl) rfl (ltN rfl) (QP.nilCheck rfl rfl) ?_
   refine Dw.pure (i := 6) rfl (by kernel_rfl) (Want.none rfl) rfl (ltN rfl) (QP.fieldAddr rfl rfl f45_1) ?_
   refine Dw.read (i := 7) rfl (by kernel_rfl) (Want.none rfl) rfl (ltN rfl) (QR.load1 (v := .slice _ LW.length _) rfl rfl g22 (Ref19Fib.sub_w _)) ?_
   refine Dw.pure (i := 8) rfl (by kernel_rfl) (Want.none rfl) rfl (ltN rfl) (QP.move rfl rfl) ?_
   refine Dw.pure (i := 9) rfl (by kernel_rfl) (Want.none rfl) rfl (ltN rfl) (QP.indexAddr rfl rfl rfl Try.underlying22 z41 (by first | omega | (simp <;> omega)) (by first | omega | (simp <;> omega))) ?_
   refine Dw.pure (i := 10) rfl (by kernel_rfl) (Want.none rfl) rfl (ltN rfl) (QP.fieldAddr rfl rfl f41_0) ?_
   refine Dw.read (i := 11) rfl (by kernel_rfl) (Want.none rfl) rfl (ltN rfl) (QR.loadSlF rfl rfl g39 Entry.enc_len (SlAt.own Entry.enc_len (by repeat constructor)) hj (Entry.sub_pair _)) ?_
   refine Dw.eff (i := 12) (by kernel_rfl) (by kernel_rfl) ?_
   refine One.mk (o := _) (l := []) rfl (by kernel_rfl) (Want.none rfl) rfl (ltN rfl) (EF.call rfl ce29 rfl (.cons (by repeat constructor) Takes.nil) (fun F' hle hr => find_spec F' (by omega) hhh _)) (by kernel_rfl) ?_
   rintro _ _ ⟨_, ⟨rfl, n62, rfl, hf62⟩, rfl⟩
   refine ⟨fun _ h => (by cases h), ?_⟩
   refine J.app ?_
   refine Dw.eff (i := 13) (by kernel_rfl) (by kernel_rfl) ?_
   refine One.mk (o := _) (l := []) rfl (by kernel_rfl) (Want.none rfl) rfl (ltN rfl) ((QP.assign rfl rfl).eff) (by kernel_rfl) ?_
   rintro _ _ ⟨rfl, rfl⟩
   refine ⟨fun _ h => (by cases h), ?_⟩
   refine Dw.nil (by kernel_rfl) ?_
   refine hk16 _ _ ?_
   refine Run.block ?_
   refine Run.seq fun k17 hk17 => ?_
   refine Run.region ?_
   show Sq _ _ _ [0, 1, 2] _ _ _ _
   refine Sq.quiet (i := 0) rfl (Want.none rfl) rfl (ltN rfl) (QP.move rfl rfl).read ?_
   refine Sq.quiet (i := 1) rfl (Want.none rfl) rfl (ltN rfl) (QP.lss rfl rfl rfl).read ?_
   refine J.caseD (fun c65 => ?_) (fun c65 => ?_)
   ·skip
    refine Sq.quiet (i := 2) rfl (Want.none rfl) rfl (ltN rfl) (QP.assign rfl rfl).read ?_
    refine Sq.nil ?_
    refine hk17 _ _ ?_
    refine Run.cond_t rfl ?_
    refine Run.region ?_
    show Sq _ _ _ [0, 1, 2, 3, 4, 5, 6, 7, 8, 9, 10, 11] _ _ _ _
    refine Sq.quiet (i := 0) rfl (Want.none rfl) rfl (ltN rfl) (QP.move rfl rfl).read ?_
    refine Sq.quiet (i := 1) rfl (Want.none rfl) rfl (ltN rfl) (QP.move rfl rfl).read ?_
    refine Sq.quiet (i := 2) rfl (Want.none rfl) rfl (ltN rfl) (QP.nilCheck rfl rfl).read ?_
    refine Sq.quiet (i := 3) rfl (Want.none rfl) rfl (ltN rfl) (QP.fieldAddr rfl rfl f45_1).read ?_
    refine Sq.quiet (i := 4) rfl (Want.none rfl) rfl (ltN rfl) (QR.load1 (v := .slice _ LW.length _) rfl rfl g22 (Ref19Fib.sub_w _)) ?_
    refine Sq.quiet (i := 5) rfl (Want.none rfl) rfl (ltN rfl) (QP.move rfl rfl).read ?_
    refine Sq.quiet (i := 6) rfl (Want.none rfl) rfl (ltN rfl) (QP.indexAddr rfl rfl rfl Try.underlying22 z41 (by first | omega | (simp <;> omega)) (by first | omega | (simp <;> omega))).read ?_
    refine Sq.quiet (i := 7) rfl (Want.none rfl) rfl (ltN rfl) (QR.loadSl rfl rfl g41 Entry.enc_len (SlAt.own Entry.enc_len (by repeat constructor)) hj) ?_
    refine Sq.quiet (i := 8) rfl (Want.none rfl) rfl (ltN rfl) (QP.build (l := Op.enc ⟨(1), (e)⟩) rfl st43 rfl (by exact ⟨rfl, ⟨(congrArg some (Entry.enc_len _).symm), trivial⟩⟩) rfl).read ?_
    refine Sq.eff (i := 9) rfl (Want.none rfl) rfl (ltN rfl) (EF.buildSlice1 rfl Try.underlying82 z43 zero43 (by simp [Value.cells, Op.enc_len]) (by decide) rfl rfl (Op.enc_len _) (by decide)) ?_
    rintro _ _ ⟨b75, rfl, rfl⟩
    refine Sq.eff (i := 10) rfl (Want.none rfl) rfl (ltN rfl) (EF.append1 (xs := (remL Wt LH ++ (LW.take j).filterMap (addO H))) (s := (⟨(1), (e)⟩ : Op)) el43 Op.enc_len Op.enc_cell rfl rfl rfl Try.underlying82 Try.underlying82 rfl rfl (by repeat constructor) (by repeat constructor) (by first | omega | (simp <;> omega))) ?_
    rintro sl76 _ rfl
    refine Sq.quiet (i := 11) rfl (Want.none rfl) rfl (ltN rfl) (QP.assign rfl rfl).read ?_
    refine Sq.nil ?_
    refine hk15 _ _ ?_
    refine Run.region ?_
    show Sq _ _ _ [0, 1, 2] _ _ _ _
    have hao : addO H e = some ⟨1, e⟩ := by unfold addO; rw [(find_iff hoH hf62).1 c65]; rfl
    rw [hao] at hsu
    simp only [Option.toList_some, Option.toList_none, List.append_nil] at hsu
    have hsu2 : (remL Wt LH ++ (LW.take j).filterMap (addO H)) ++ [⟨1, e⟩] = remL Wt LH ++ (LW.take (j + 1)).filterMap (addO H) := by rw [hsu]; rw [List.append_assoc]
    refine J.slEq (v := sl76) (by repeat constructor) hsu2 ?_
    refine Sq.quiet (i := 0) rfl (Want.none rfl) rfl (ltN rfl) (QP.move rfl rfl).read ?_
    refine Sq.quiet (i := 1) rfl (Want.none rfl) rfl (ltN rfl) (QP.add64 rfl rfl rfl (by first | omega | (simp <;> omega)) (by first | omega | (simp <;> omega))).read ?_
    refine Sq.quiet (i := 2) rfl (Want.none rfl) rfl (ltN rfl) (QP.assign rfl rfl).read ?_
    refine Sq.nil ?_
    exact J.envJ (J.keep (.cons (by repeat constructor) (.cons (by repeat constructor) (.cons (by repeat constructor) (.cons (by repeat constructor) Takes.nil)))) (hl12 (j + 1) (sl76) (by omega) (by omega))) ⟨rfl, rfl, rfl, trivial⟩
   ·skip
    refine Sq.quiet (i := 2) rfl (Want.none rfl) rfl (ltN rfl) (QP.assign rfl rfl).read ?_
    refine Sq.nil ?_
    refine hk17 _ _ ?_
    refine Run.cond_f rfl ?_
    refine Run.seq fun k18 hk18 => ?_
    refine Run.regionD (M := [0, 1, 3, 7, 0, 31, 63, 0, 128, 384, 896, 0, 3968, 8064, 16383, 32767]) (q := 32767) (r := 9288) (by kernel_rfl) ?_
    obtain ⟨kz, z, rfl, hkz, hze⟩ : ∃ (kz : Nat) (z : Entry), n62 = (kz : Int) ∧ LH[kz]? = some z ∧ z.pair = e.pair := by
      rcases hf62 with ⟨h1, _⟩ | h1
      · omega
      · exact h1
    have hkl := (List.getElem?_eq_some_iff.1 hkz).1
    obtain ⟨b2, o2, rfl⟩ := hhh.get (by omega)
    have hlz : alook H e.pair = some z := by rw [← hze]; exact hoH.mem.1 (List.mem_of_getElem? hkz)
    refine Dw.pure (i := 0) rfl (by kernel_rfl) (Want.none rfl) rfl (ltN rfl) (QP.move rfl rfl) ?_
    refine Dw.pure (i := 1) rfl (by kernel_rfl) (Want.none rfl) rfl (ltN rfl) (QP.nilCheck rfl rfl) ?_
    refine Dw.pure (i := 2) rfl (by kernel_rfl) (Want.none rfl) rfl (ltN rfl) (QP.fieldAddr rfl rfl f45_0) ?_
    refine Dw.read (i := 3) rfl (by kernel_rfl) (Want.none rfl) rfl (ltN rfl) (QR.load1 (v := .slice _ LH.length _) rfl rfl g22 (Ref19Fib.sub_h _)) ?_
    refine Dw.pure (i := 4) rfl (by kernel_rfl) (Want.none rfl) rfl (ltN rfl) (QP.move rfl rfl) ?_
    refine Dw.pure (i := 5) rfl (by kernel_rfl) (Want.none rfl) rfl (ltN rfl) (QP.indexAddr rfl rfl rfl Try.underlying22 z41 (by first | omega | (simp <;> omega)) (by first | omega | (simp <;> omega))) ?_
    refine Dw.read (i := 6) rfl (by kernel_rfl) (Want.none rfl) rfl (ltN rfl) (QR.loadSl rfl rfl g41 Entry.enc_len (SlAt.own Entry.enc_len (by repeat constructor)) hkz) ?_
    refine Dw.pure (i := 7) rfl (by kernel_rfl) (Want.none rfl) rfl (ltN rfl) (QP.move rfl rfl) ?_
    refine Dw.pure (i := 8) rfl (by kernel_rfl) (Want.none rfl) rfl (ltN rfl) (QP.nilCheck rfl rfl) ?_
    refine Dw.pure (i := 9) rfl (by kernel_rfl) (Want.none rfl) rfl (ltN rfl) (QP.fieldAddr rfl rfl f45_1) ?_
    refine Dw.read (i := 10) rfl (by kernel_rfl) (Want.none rfl) rfl (ltN rfl) (QR.load1 (v := .slice _ LW.length _) rfl rfl g22 (Ref19Fib.sub_w _)) ?_
    refine Dw.pure (i := 11) rfl (by kernel_rfl) (Want.none rfl) rfl (ltN rfl) (QP.move rfl rfl) ?_
    refine Dw.pure (i := 12) rfl (by kernel_rfl) (Want.none rfl) rfl (ltN rfl) (QP.indexAddr rfl rfl rfl Try.underlying22 z41 (by first | omega | (simp <;> omega)) (by first | omega | (simp <;> omega))) ?_
    refine Dw.read (i := 13) rfl (by kernel_rfl) (Want.none rfl) rfl (ltN rfl) (QR.loadSl rfl rfl g41 Entry.enc_len (SlAt.own Entry.enc_len (by repeat constructor)) hj) ?_
    refine Dw.pure (i := 14) rfl (by kernel_rfl) (Want.none rfl) rfl (ltN rfl) (QP.neq_agg eq41 rfl rfl rfl) ?_
    refine J.caseD (fun c92 => ?_) (fun c92 => ?_)
    ·skip
     refine Dw.eff (i := 15) (by kernel_rfl) (by kernel_rfl) ?_
     refine One.mk (o := _) (l := []) rfl (by kernel_rfl) (Want.none rfl) rfl (ltN rfl) ((QP.assign rfl rfl).eff) (by kernel_rfl) ?_
     rintro _ _ ⟨rfl, rfl⟩
     refine ⟨fun _ h => (by cases h), ?_⟩
     refine Dw.nil (by kernel_rfl) ?_
     refine hk18 _ _ ?_
     refine Run.cond_t rfl ?_
     refine Run.region ?_
     show Sq _ _ _ [0, 1, 2, 3, 4, 5, 6, 7, 8, 9, 10, 11] _ _ _ _
     refine Sq.quiet (i := 0) rfl (Want.none rfl) rfl (ltN rfl) (QP.move rfl rfl).read ?_
     refine Sq.quiet (i := 1) rfl (Want.none rfl) rfl (ltN rfl) (QP.move rfl rfl).read ?_
     refine Sq.quiet (i := 2) rfl (Want.none rfl) rfl (ltN rfl) (QP.nilCheck rfl rfl).read ?_
     refine Sq.quiet (i := 3) rfl (Want.none rfl) rfl (ltN rfl) (QP.fieldAddr rfl rfl f45_1).read ?_
     refine Sq.quiet (i := 4) rfl (Want.none rfl) rfl (ltN rfl) (QR.load1 (v := .slice _ LW.length _) rfl rfl g22 (Ref19Fib.sub_w _)) ?_
     refine Sq.quiet (i := 5) rfl (Want.none rfl) rfl (ltN rfl) (QP.move rfl rfl).read ?_
     refine Sq.quiet (i := 6) rfl (Want.none rfl) rfl (ltN rfl) (QP.indexAddr rfl rfl rfl Try.underlying22 z41 (by first | omega | (simp <;> omega)) (by first | omega | (simp <;> omega))).read ?_
     refine Sq.quiet (i := 7) rfl (Want.none rfl) rfl (ltN rfl) (QR.loadSl rfl rfl g41 Entry.enc_len (SlAt.own Entry.enc_len (by repeat constructor)) hj) ?_
     refine Sq.quiet (i := 8) rfl (Want.none rfl) rfl (ltN rfl) (QP.build (l := Op.enc ⟨(2), (e)⟩) rfl st43 rfl (by exact ⟨rfl, ⟨(congrArg some (Entry.enc_len _).symm), trivial⟩⟩) rfl).read ?_
     refine Sq.eff (i := 9) rfl (Want.none rfl) rfl (ltN rfl) (EF.buildSlice1 rfl Try.underlying82 z43 zero43 (by simp [Value.cells, Op.enc_len]) (by decide) rfl rfl (Op.enc_len _) (by decide)) ?_
     rintro _ _ ⟨b102, rfl, rfl⟩
     refine Sq.eff (i := 10) rfl (Want.none rfl) rfl (ltN rfl) (EF.append1 (xs := (remL Wt LH ++ (LW.take j).filterMap (addO H))) (s := (⟨(2), (e)⟩ : Op)) el43 Op.enc_len Op.enc_cell rfl rfl rfl Try.underlying82 Try.underlying82 rfl rfl (by repeat constructor) (by repeat constructor) (by first | omega | (simp <;> omega))) ?_
     rintro sl103 _ rfl
     refine Sq.quiet (i := 11) rfl (Want.none rfl) rfl (ltN rfl) (QP.assign rfl rfl).read ?_
     refine Sq.nil ?_
     refine hk15 _ _ ?_
     refine Run.region ?_
     show Sq _ _ _ [0, 1, 2] _ _ _ _
     have hao : addO H e = some ⟨2, e⟩ := by unfold addO; rw [hlz]; simp only [Option.isSome_some, if_true, Option.getD_some]; rw [if_pos c92]
     rw [hao] at hsu
     simp only [Option.toList_some, Option.toList_none, List.append_nil] at hsu
     have hsu2 : (remL Wt LH ++ (LW.take j).filterMap (addO H)) ++ [⟨2, e⟩] = remL Wt LH ++ (LW.take (j + 1)).filterMap (addO H) := by rw [hsu]; rw [List.append_assoc]
     refine J.slEq (v := sl103) (by repeat constructor) hsu2 ?_
     refine Sq.quiet (i := 0) rfl (Want.none rfl) rfl (ltN rfl) (QP.move rfl rfl).read ?_
     refine Sq.quiet (i := 1) rfl (Want.none rfl) rfl (ltN rfl) (QP.add64 rfl rfl rfl (by first | omega | (simp <;> omega)) (by first | omega | (simp <;> omega))).read ?_
     refine Sq.quiet (i := 2) rfl (Want.none rfl) rfl (ltN rfl) (QP.assign rfl rfl).read ?_
     refine Sq.nil ?_
     exact J.envJ (J.keep (.cons (by repeat constructor) (.cons (by repeat constructor) (.cons (by repeat constructor) (.cons (by repeat constructor) Takes.nil)))) (hl12 (j + 1) (sl103) (by omega) (by omega))) ⟨rfl, rfl, rfl, trivial⟩
    ·skip
     refine Dw.eff (i := 15) (by kernel_rfl) (by kernel_rfl) ?_
     refine One.mk (o := _) (l := []) rfl (by kernel_rfl) (Want.none rfl) rfl (ltN rfl) ((QP.assign rfl rfl).eff) (by kernel_rfl) ?_
     rintro _ _ ⟨rfl, rfl⟩
     refine ⟨fun _ h => (by cases h), ?_⟩
     refine Dw.nil (by kernel_rfl) ?_
     refine hk18 _ _ ?_
     refine Run.cond_f rfl ?_
     refine Run.skip ?_
     refine hk15 _ _ ?_
     refine Run.region ?_
     show Sq _ _ _ [0, 1, 2] _ _ _ _
     have hao : addO H e = none := by unfold addO; rw [hlz]; simp only [Option.isSome_some, if_true, Option.getD_some]; rw [if_neg c92]
     rw [hao] at hsu
     simp only [Option.toList_some, Option.toList_none, List.append_nil] at hsu
     have hsu2 : (remL Wt LH ++ (LW.take j).filterMap (addO H)) = remL Wt LH ++ (LW.take (j + 1)).filterMap (addO H) := by rw [hsu]; skip
     refine J.slEq (v := vo) (by repeat constructor) hsu2 ?_
     refine Sq.quiet (i := 0) rfl (Want.none rfl) rfl (ltN rfl) (QP.move rfl rfl).read ?_
     refine Sq.quiet (i := 1) rfl (Want.none rfl) rfl (ltN rfl) (QP.add64 rfl rfl rfl (by first | omega | (simp <;> omega)) (by first | omega | (simp <;> omega))).read ?_
     refine Sq.quiet (i := 2) rfl (Want.none rfl) rfl (ltN rfl) (QP.assign rfl rfl).read ?_
     refine Sq.nil ?_
     exact J.envJ (J.keep (.cons (by repeat constructor) (.cons (by repeat constructor) (.cons (by repeat constructor) (.cons (by repeat constructor) Takes.nil)))) (hl12 (j + 1) (vo) (by omega) (by omega))) ⟨rfl, rfl, rfl, trivial⟩
  ·skip
   refine Sq.nil ?_
   refine hk14 _ _ ?_
   refine Run.cond_f rfl ?_
   refine Run.exit rfl ?_
   refine hk10 _ _ ?_
   refine Run.seq fun k19 hk19 => ?_
   refine Run.region ?_
   show Sq _ _ _ [0, 1] _ _ _ _
   refine Sq.quiet (i := 0) rfl (Want.none rfl) rfl (ltN rfl) (QP.move rfl rfl).read ?_
   refine Sq.quiet (i := 1) rfl (Want.none rfl) rfl (ltN rfl) (QP.assign rfl rfl).read ?_
   refine Sq.nil ?_
   refine hk19 _ _ ?_
   refine Run.ret ?_
   have hty2 : LW.take j = LW := List.take_of_length_le (by omega)
   rw [hty2]
   exact J.ends (res_tmp rfl rfl) (.cons (by repeat constructor) (.cons (by repeat constructor) (.cons (by repeat constructor) (.cons (by repeat constructor) Takes.nil)))) rfl
end Slb
