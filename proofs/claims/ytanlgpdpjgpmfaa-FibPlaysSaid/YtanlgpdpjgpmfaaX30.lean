/- X30: a part of the proof that a law of this package holds for every input; no condition. -/
import Derived.Test.YtanlgpdpjgpmfaaX29
namespace Slb
open Go Go.Proofs
set_option maxRecDepth 20000
theorem rreply_none (F : Fr) {b : Nat} {hS wS fS : Slc} {way : Op} (now : Int) (ok : Bool)  : Spec Try.prog 22 #[.pointer (some ⟨b, 0, none⟩), .int .i64 now, .bool ok] [blk b (Ref19Fib.enc ⟨hS, wS, fS, way, false⟩) 45] F (fun v S => v = .int .i64 7 ∧ S = [blk b (Ref19Fib.enc ⟨hS, wS, fS, way, false⟩) 45]) := by
 refine Spec.intro (N := 119) (args := [.pointer (some ⟨b, 0, none⟩), .int .i64 now, .bool ok]) Try.func22 rfl rfl (by simp) ?_
 refine Run.seq fun k1 hk1 => ?_
 refine Run.region ?_
 show Sq _ _ _ [0] _ _ _ _
 refine Sq.quiet (i := 0) rfl (Want.none rfl) rfl (ltN rfl) (QP.assign rfl rfl).read ?_
 refine Sq.nil ?_
 refine hk1 _ _ ?_
 refine Run.seq fun k2 hk2 => ?_
 refine Run.seq fun k3 hk3 => ?_
 refine Run.region ?_
 show Sq _ _ _ [0, 1, 2, 3, 4] _ _ _ _
 refine Sq.quiet (i := 0) rfl (Want.none rfl) rfl (ltN rfl) (QP.move rfl rfl).read ?_
 refine Sq.quiet (i := 1) rfl (Want.none rfl) rfl (ltN rfl) (QP.nilCheck rfl rfl).read ?_
 refine Sq.quiet (i := 2) rfl (Want.none rfl) rfl (ltN rfl) (QP.fieldAddr rfl rfl f45_4).read ?_
 refine Sq.quiet (i := 3) rfl (Want.none rfl) rfl (ltN rfl) (QR.load1 rfl rfl g4 (Ref19Fib.sub_busy _)) ?_
 refine J.boolF (rfl) ?_
 refine Sq.quiet (i := 4) rfl (Want.none rfl) rfl (ltN rfl) (QP.not rfl rfl).read ?_
 refine Sq.nil ?_
 refine hk3 _ _ ?_
 refine Run.cond_t rfl ?_
 refine Run.seq fun k4 hk4 => ?_
 refine Run.region ?_
 show Sq _ _ _ [0] _ _ _ _
 refine Sq.quiet (i := 0) rfl (Want.none rfl) rfl (ltN rfl) (QP.assign rfl rfl).read ?_
 refine Sq.nil ?_
 refine hk4 _ _ ?_
 refine Run.ret ?_
 exact J.ends (res_tmp rfl rfl) (.cons (by repeat constructor) Takes.nil) ⟨rfl, rfl⟩

def notP (p : Pair) (x : Ref19Wait) : Bool := decide (x.p ≠ p)
def replyFs (Fs : List Ref19Wait) (now : Int) (p : Pair) (ok : Bool) : List Ref19Wait := if ok then Fs.filter (notP p) else Fs.filter (notP p) ++ [⟨p, now + 1000⟩]
theorem filter_succR (q : Ref19Wait → Bool) {L : List Ref19Wait} {i : Nat} {x : Ref19Wait} (h : L[i]? = some x) : (L.take (i + 1)).filter q = (L.take i).filter q ++ if q x then [x] else [] := by
  rw [take_succ_get h, List.filter_append]
  congr 1
  cases hq : q x <;> simp [hq]

theorem rreply_spec (F : Fr) {b : Nat} {ah af : Option Addr} {ch cf : Nat} {wS : Slc} {LH : List Entry} {Fs : List Ref19Wait} {way : Op} {H : TabE} (hoH : OrdE H LH) (hhh : SlH ah ch LH) (hhf : SlH af cf Fs) (hlH : LH.length ≤ 100000) (hFl : Fs.length ≤ 1000000) (hdk : way.kind = 3 → (alook H way.entry.pair).isSome = true) (now : Int) (hn : -4611686018427387904 ≤ now ∧ now ≤ 4611686018427387904) (ok : Bool)  : Spec Try.prog 22 #[.pointer (some ⟨b, 0, none⟩), .int .i64 now, .bool ok] [blk b (Ref19Fib.enc ⟨⟨ah, LH.length, ch⟩, wS, ⟨af, Fs.length, cf⟩, way, true⟩) 45, slA 41 51 Entry.enc (.slice ah LH.length ch) LH, slA 86 35 Ref19Wait.enc (.slice af Fs.length cf) Fs] F (fun v S => ∃ ah2 ch2, ∃ LH2 : List Entry, ∃ af2 cf2, ∃ Fs2 : List Ref19Wait, v = .int .i64 0 ∧ SlH ah2 ch2 LH2 ∧ SlH af2 cf2 Fs2 ∧ OrdE (replyH H way ok) LH2 ∧ Fs2 = replyFs Fs now way.entry.pair ok ∧ S = [blk b (Ref19Fib.enc ⟨⟨ah2, LH2.length, ch2⟩, wS, ⟨af2, Fs2.length, cf2⟩, way, false⟩) 45, slA 41 51 Entry.enc (.slice ah2 LH2.length ch2) LH2, slA 86 35 Ref19Wait.enc (.slice af2 Fs2.length cf2) Fs2]) := by
 refine Spec.intro (N := 119) (args := [.pointer (some ⟨b, 0, none⟩), .int .i64 now, .bool ok]) Try.func22 rfl rfl (by simp) ?_
 refine Run.seq fun k1 hk1 => ?_
 refine Run.region ?_
 show Sq _ _ _ [0] _ _ _ _
 refine Sq.quiet (i := 0) rfl (Want.none rfl) rfl (ltN rfl) (QP.assign rfl rfl).read ?_
 refine Sq.nil ?_
 refine hk1 _ _ ?_
 refine Run.seq fun k2 hk2 => ?_
 refine Run.seq fun k3 hk3 => ?_
 refine Run.region ?_
 show Sq _ _ _ [0, 1, 2, 3, 4] _ _ _ _
 refine Sq.quiet (i := 0) rfl (Want.none rfl) rfl (ltN rfl) (QP.move rfl rfl).read ?_
 refine Sq.quiet (i := 1) rfl (Want.none rfl) rfl (ltN rfl) (QP.nilCheck rfl rfl).read ?_
 refine Sq.quiet (i := 2) rfl (Want.none rfl) rfl (ltN rfl) (QP.fieldAddr rfl rfl f45_4).read ?_
 refine Sq.quiet (i := 3) rfl (Want.none rfl) rfl (ltN rfl) (QR.load1 rfl rfl g4 (Ref19Fib.sub_busy _)) ?_
 refine J.boolT (rfl) ?_
 refine Sq.quiet (i := 4) rfl (Want.none rfl) rfl (ltN rfl) (QP.not rfl rfl).read ?_
 refine Sq.nil ?_
 refine hk3 _ _ ?_
 refine Run.cond_f rfl ?_
 refine Run.skip ?_
 refine hk2 _ _ ?_
 refine Run.seq fun k4 hk4 => ?_
 refine Run.region ?_
 show Sq _ _ _ [0, 1, 2, 3] _ _ _ _
 refine Sq.quiet (i := 0) rfl (Want.none rfl) rfl (ltN rfl) (QP.move rfl rfl).read ?_
 refine Sq.quiet (i := 1) rfl (Want.none rfl) rfl (ltN rfl) (QP.nilCheck rfl rfl).read ?_
 refine Sq.quiet (i := 2) rfl (Want.none rfl) rfl (ltN rfl) (QP.fieldAddr rfl rfl f45_4).read ?_
 refine Sq.act (i := 3) rfl (Want.none rfl) rfl (EF.store rfl rfl rfl z4 (Ref19Fib.set_busy _ _) (cell_one rfl)) ?_
 rintro _ _ rfl
 refine Sq.nil ?_
 refine hk4 _ _ ?_
 refine Run.seq fun k5 hk5 => ?_
 refine Run.region ?_
 show Sq _ _ _ [0, 1, 2, 3, 4, 5, 6, 7] _ _ _ _
 refine Sq.quiet (i := 0) rfl (Want.none rfl) rfl (ltN rfl) (QP.move rfl rfl).read ?_
 refine Sq.quiet (i := 1) rfl (Want.none rfl) rfl (ltN rfl) (QP.nilCheck rfl rfl).read ?_
 refine Sq.quiet (i := 2) rfl (Want.none rfl) rfl (ltN rfl) (QP.fieldAddr rfl rfl f45_3).read ?_
 refine Sq.quiet (i := 3) rfl (Want.none rfl) rfl (ltN rfl) (QP.fieldAddr rfl rfl f43_1).read ?_
 refine Sq.quiet (i := 4) rfl (Want.none rfl) rfl (ltN rfl) (QP.fieldAddr rfl rfl f41_0).read ?_
 refine Sq.quiet (i := 5) rfl (Want.none rfl) rfl (ltN rfl) (QR.load rfl rfl g39 (((Ref19Fib.sub_way _).trans (Op.sub_entry _)).trans (Entry.sub_pair _))) ?_
 refine Sq.eff (i := 6) rfl (Want.none rfl) rfl (ltN rfl) (EF.allocA (l := Pair.enc Pair.zero) rfl zero39) ?_
 rintro _ _ ⟨b7, rfl, rfl⟩
 refine Sq.act (i := 7) rfl (Want.none rfl) rfl (EF.storeA rfl rfl rfl z39 (SetL.all (Pair.enc_len _) (Pair.enc_len _)) (Pair.enc_cell _)) ?_
 rintro _ _ rfl
 refine Sq.nil ?_
 refine hk5 _ _ ?_
 refine Run.seq fun k6 hk6 => ?_
 refine Run.region ?_
 show Sq _ _ _ [0] _ _ _ _
 have hcle := hhh.le
 refine J.addSl 86 35 Ref19Wait.enc ?_
 refine Sq.quiet (i := 0) rfl (Want.none rfl) rfl (ltN rfl) (QP.assign rfl rfl).read ?_
 refine Sq.nil ?_
 refine hk6 _ _ ?_
 refine Run.seq fun k7 hk7 => ?_
 refine Run.seq fun k8 hk8 => ?_
 refine Run.region ?_
 show Sq _ _ _ [0] _ _ _ _
 refine Sq.quiet (i := 0) rfl (Want.none rfl) rfl (ltN rfl) (QP.assign rfl rfl).read ?_
 refine Sq.nil ?_
 refine hk8 _ _ ?_
 refine Run.block ?_
 refine Run.loop2 (fun (i : Nat) (vk : Value) => i ≤ Fs.length) (fun i vk => .cons 0 (.pointer (some ⟨b, 0, none⟩)) (.cons 1 (.int .i64 now) (.cons 2 (.bool ok) (.cons 7 (.pointer (some ⟨b7, 0, none⟩)) (.cons 8 (vk) (.cons 9 (.int .i64 i) (.nil))))))) (fun i vk => [blk b (Ref19Fib.enc ⟨⟨ah, LH.length, ch⟩, wS, ⟨af, Fs.length, cf⟩, way, false⟩) 45, slA 41 51 Entry.enc (.slice ah LH.length ch) LH, slA 86 35 Ref19Wait.enc (.slice af Fs.length cf) Fs, blk b7 (Pair.enc way.entry.pair) 39, slA 86 35 Ref19Wait.enc vk ((Fs.take i).filter (notP way.entry.pair))]) (fun i vk => Fs.length - i) (0) (.slice none 0 0) (Nat.zero_le _) ?_ ?_
 ·exact fun _ j => J.envJ (J.keep (.cons (by repeat constructor) (.cons (by repeat constructor) (.cons (by repeat constructor) (.cons (by repeat constructor) (.cons (by repeat constructor) Takes.nil))))) j) ⟨rfl, rfl, rfl, rfl, rfl, rfl, trivial⟩
 rintro i vk hile kl9 hl9
 refine Run.seq fun k10 hk10 => ?_
 refine Run.seq fun k11 hk11 => ?_
 refine Run.region ?_
 show Sq _ _ _ [0, 1, 2, 3, 4, 5, 6] _ _ _ _
 refine Sq.quiet (i := 0) rfl (Want.none rfl) rfl (ltN rfl) (QP.move rfl rfl).read ?_
 refine Sq.quiet (i := 1) rfl (Want.none rfl) rfl (ltN rfl) (QP.move rfl rfl).read ?_
 refine Sq.quiet (i := 2) rfl (Want.none rfl) rfl (ltN rfl) (QP.nilCheck rfl rfl).read ?_
 refine Sq.quiet (i := 3) rfl (Want.none rfl) rfl (ltN rfl) (QP.fieldAddr rfl rfl f45_2).read ?_
 refine Sq.quiet (i := 4) rfl (Want.none rfl) rfl (ltN rfl) (QR.load1 (v := .slice _ Fs.length _) rfl rfl g33 (Ref19Fib.sub_f _)) ?_
 refine Sq.quiet (i := 5) rfl (Want.none rfl) rfl (ltN rfl) (QP.len rfl rfl rfl Try.underlying33).read ?_
 refine Sq.quiet (i := 6) rfl (Want.none rfl) rfl (ltN rfl) (QP.lss rfl rfl rfl).read ?_
 refine J.caseD (fun c31 => ?_) (fun c31 => ?_)
 ·skip
  refine Sq.nil ?_
  refine hk11 _ _ ?_
  refine Run.cond_t rfl ?_
  refine Run.skip ?_
  refine hk10 _ _ ?_
  refine Run.seq fun k12 hk12 => ?_
  refine Run.block ?_
  refine Run.seq fun k13 hk13 => ?_
  refine Run.regionD (M := [0, 1, 3, 7, 0, 31, 63, 127, 0, 511]) (q := 1023) (r := 392) (by kernel_rfl) ?_
  obtain ⟨x, hi⟩ : ∃ x, Fs[i]? = some x := ⟨_, List.getElem?_eq_getElem (by omega)⟩
  obtain ⟨b0, o0, rfl⟩ := hhf.get (by omega)
  have hsu := filter_succR (notP way.entry.pair) hi
  have hkl := List.length_filter_le (notP way.entry.pair) (Fs.take i)
  have htl := List.length_take_le i Fs
  refine Dw.pure (i := 0) rfl (by kernel_rfl) (Want.none rfl) rfl (ltN rfl) (QP.move rfl rfl) ?_
  refine Dw.pure (i := 1) rfl (by kernel_rfl) (Want.none rfl) rfl (ltN rfl) (QP.nilCheck rfl rfl) ?_
  refine Dw.pure (i := 2) rfl (by kernel_rfl) (Want.none rfl) rfl (ltN rfl) (QP.fieldAddr rfl rfl f45_2) ?_
  refine Dw.read (i := 3) rfl (by kernel_rfl) (Want.none rfl) rfl (ltN rfl) (QR.load1 (v := .slice _ Fs.length _) rfl rfl g33 (Ref19Fib.sub_f _)) ?_
  refine Dw.pure (i := 4) rfl (by kernel_rfl) (Want.none rfl) rfl (ltN rfl) (QP.move rfl rfl) ?_
  refine Dw.pure (i := 5) rfl (by kernel_rfl) (Want.none rfl) rfl (ltN rfl) (QP.indexAddr rfl rfl rfl Try.underlying33 z86 (by first | omega | (simp <;> omega)) (by first | omega | (simp <;> omega))) ?_
  refine Dw.pure (i := 6) rfl (by kernel_rfl) (Want.none rfl) rfl (ltN rfl) (QP.fieldAddr rfl rfl f86_0) ?_
  refine Dw.read (i := 7) rfl (by kernel_rfl) (Want.none rfl) rfl (ltN rfl) (QR.loadSlF rfl rfl g39 Ref19Wait.enc_len (SlAt.own Ref19Wait.enc_len (by repeat constructor)) hi (Ref19Wait.sub_p _)) ?_
  refine Dw.read (i := 8) rfl (by kernel_rfl) (Want.none rfl) rfl (ltN rfl) (QR.load rfl rfl g39 (Pair.enc_sub _)) ?_
  refine Dw.pure (i := 9) rfl (by kernel_rfl) (Want.none rfl) rfl (ltN rfl) (QP.neq_agg eq39 rfl rfl rfl) ?_
  refine J.caseD (fun c43 => ?_) (fun c43 => ?_)
  ·skip
   refine Dw.nil (by kernel_rfl) ?_
   refine hk13 _ _ ?_
   refine Run.cond_t rfl ?_
   refine Run.region ?_
   show Sq _ _ _ [0, 1, 2, 3, 4, 5, 6, 7, 8, 9, 10] _ _ _ _
   refine Sq.quiet (i := 0) rfl (Want.none rfl) rfl (ltN rfl) (QP.move rfl rfl).read ?_
   refine Sq.quiet (i := 1) rfl (Want.none rfl) rfl (ltN rfl) (QP.move rfl rfl).read ?_
   refine Sq.quiet (i := 2) rfl (Want.none rfl) rfl (ltN rfl) (QP.nilCheck rfl rfl).read ?_
   refine Sq.quiet (i := 3) rfl (Want.none rfl) rfl (ltN rfl) (QP.fieldAddr rfl rfl f45_2).read ?_
   refine Sq.quiet (i := 4) rfl (Want.none rfl) rfl (ltN rfl) (QR.load1 (v := .slice _ Fs.length _) rfl rfl g33 (Ref19Fib.sub_f _)) ?_
   refine Sq.quiet (i := 5) rfl (Want.none rfl) rfl (ltN rfl) (QP.move rfl rfl).read ?_
   refine Sq.quiet (i := 6) rfl (Want.none rfl) rfl (ltN rfl) (QP.indexAddr rfl rfl rfl Try.underlying33 z86 (by first | omega | (simp <;> omega)) (by first | omega | (simp <;> omega))).read ?_
   refine Sq.quiet (i := 7) rfl (Want.none rfl) rfl (ltN rfl) (QR.loadSl rfl rfl g86 Ref19Wait.enc_len (SlAt.own Ref19Wait.enc_len (by repeat constructor)) hi) ?_
   refine Sq.eff (i := 8) rfl (Want.none rfl) rfl (ltN rfl) (EF.buildSlice1 rfl Try.underlying33 z86 zero86 (by simp [Value.cells, Ref19Wait.enc_len]) (by decide) rfl rfl (Ref19Wait.enc_len _) (by decide)) ?_
   rintro _ _ ⟨b52, rfl, rfl⟩
   refine Sq.eff (i := 9) rfl (Want.none rfl) rfl (ltN rfl) (EF.append1 (xs := ((Fs.take i).filter (notP way.entry.pair))) (s := x) el86 Ref19Wait.enc_len Ref19Wait.enc_cell rfl rfl rfl Try.underlying33 Try.underlying33 rfl rfl (by repeat constructor) (by repeat constructor) (by first | omega | (simp <;> omega))) ?_
   rintro sl53 _ rfl
   refine Sq.quiet (i := 10) rfl (Want.none rfl) rfl (ltN rfl) (QP.assign rfl rfl).read ?_
   refine Sq.nil ?_
   refine hk12 _ _ ?_
   refine Run.region ?_
   show Sq _ _ _ [0, 1, 2] _ _ _ _
   rw [show notP way.entry.pair x = true by unfold notP; exact decide_eq_true c43] at hsu
   simp only [if_true, Bool.false_eq_true, if_false, List.append_nil] at hsu
   refine J.slEq (v := sl53) (by repeat constructor) hsu.symm ?_
   refine Sq.quiet (i := 0) rfl (Want.none rfl) rfl (ltN rfl) (QP.move rfl rfl).read ?_
   refine Sq.quiet (i := 1) rfl (Want.none rfl) rfl (ltN rfl) (QP.add64 rfl rfl rfl (by first | omega | (simp <;> omega)) (by first | omega | (simp <;> omega))).read ?_
   refine Sq.quiet (i := 2) rfl (Want.none rfl) rfl (ltN rfl) (QP.assign rfl rfl).read ?_
   refine Sq.nil ?_
   exact J.envJ (J.keep (.cons (by repeat constructor) (.cons (by repeat constructor) (.cons (by repeat constructor) (.cons (by repeat constructor) (.cons (by repeat constructor) Takes.nil))))) (hl9 (i + 1) (sl53) (by omega) (by omega))) ⟨rfl, rfl, rfl, rfl, rfl, rfl, trivial⟩
  ·skip
   refine Dw.nil (by kernel_rfl) ?_
   refine hk13 _ _ ?_
   refine Run.cond_f rfl ?_
   refine Run.skip ?_
   refine hk12 _ _ ?_
   refine Run.region ?_
   show Sq _ _ _ [0, 1, 2] _ _ _ _
   rw [show notP way.entry.pair x = false by unfold notP; exact decide_eq_false c43] at hsu
   simp only [if_true, Bool.false_eq_true, if_false, List.append_nil] at hsu
   refine J.slEq (v := vk) (by repeat constructor) hsu.symm ?_
   refine Sq.quiet (i := 0) rfl (Want.none rfl) rfl (ltN rfl) (QP.move rfl rfl).read ?_
   refine Sq.quiet (i := 1) rfl (Want.none rfl) rfl (ltN rfl) (QP.add64 rfl rfl rfl (by first | omega | (simp <;> omega)) (by first | omega | (simp <;> omega))).read ?_
   refine Sq.quiet (i := 2) rfl (Want.none rfl) rfl (ltN rfl) (QP.assign rfl rfl).read ?_
   refine Sq.nil ?_
   exact J.envJ (J.keep (.cons (by repeat constructor) (.cons (by repeat constructor) (.cons (by repeat constructor) (.cons (by repeat constructor) (.cons (by repeat constructor) Takes.nil))))) (hl9 (i + 1) (vk) (by omega) (by omega))) ⟨rfl, rfl, rfl, rfl, rfl, rfl, trivial⟩
 ·skip
  refine Sq.nil ?_
  refine hk11 _ _ ?_
  refine Run.cond_f rfl ?_
  refine Run.exit rfl ?_
  refine hk7 _ _ ?_
  refine Run.seq fun k14 hk14 => ?_
  refine Run.region ?_
  show Sq _ _ _ [0, 1, 2, 3, 4] _ _ _ _
  have hty : Fs.take i = Fs := List.take_of_length_le (by omega)
  rw [hty]
  have hKl := List.length_filter_le (notP way.entry.pair) Fs
  generalize hK : Fs.filter (notP way.entry.pair) = K at hKl ⊢
  refine Sq.slCase (v := vk) (xs := K) (by repeat constructor) (fun ak ck hvk hhk => ?_)
  subst hvk
  refine Sq.quiet (i := 0) rfl (Want.none rfl) rfl (ltN rfl) (QP.move rfl rfl).read ?_
  refine Sq.quiet (i := 1) rfl (Want.none rfl) rfl (ltN rfl) (QP.move rfl rfl).read ?_
  refine Sq.quiet (i := 2) rfl (Want.none rfl) rfl (ltN rfl) (QP.nilCheck rfl rfl).read ?_
  refine Sq.quiet (i := 3) rfl (Want.none rfl) rfl (ltN rfl) (QP.fieldAddr rfl rfl f45_2).read ?_
  refine Sq.act (i := 4) rfl (Want.none rfl) rfl (EF.store rfl rfl rfl z33 (Ref19Fib.set_f _ ⟨ak, _, ck⟩) (cell_one rfl)) ?_
  rintro _ _ rfl
  refine Sq.nil ?_
  refine hk14 _ _ ?_
  refine Run.seq fun k15 hk15 => ?_
  refine Run.block ?_
  refine Run.seq fun k16 hk16 => ?_
  refine Run.region ?_
  show Sq _ _ _ [0, 1, 2] _ _ _ _
  refine Sq.quiet (i := 0) rfl (Want.none rfl) rfl (ltN rfl) (QP.move rfl rfl).read ?_
  refine J.caseB (fun c72 => ?_) (fun c72 => ?_)
  ·skip
   refine Sq.quiet (i := 1) rfl (Want.none rfl) rfl (ltN rfl) (QP.not rfl rfl).read ?_
   refine Sq.quiet (i := 2) rfl (Want.none rfl) rfl (ltN rfl) (QP.assign rfl rfl).read ?_
   refine Sq.nil ?_
   refine hk16 _ _ ?_
   refine Run.cond_f rfl ?_
   refine Run.seq fun k17 hk17 => ?_
   refine Run.region ?_
   show Sq _ _ _ [0, 1, 2, 3, 4, 5, 6] _ _ _ _
   refine Sq.quiet (i := 0) rfl (Want.none rfl) rfl (ltN rfl) (QP.move rfl rfl).read ?_
   refine Sq.quiet (i := 1) rfl (Want.none rfl) rfl (ltN rfl) (QP.nilCheck rfl rfl).read ?_
   refine Sq.quiet (i := 2) rfl (Want.none rfl) rfl (ltN rfl) (QP.fieldAddr rfl rfl f45_3).read ?_
   refine Sq.quiet (i := 3) rfl (Want.none rfl) rfl (ltN rfl) (QP.fieldAddr rfl rfl f43_0).read ?_
   refine Sq.quiet (i := 4) rfl (Want.none rfl) rfl (ltN rfl) (QR.load1 rfl rfl g3 ((Ref19Fib.sub_way _).trans (Op.sub_kind _))) ?_
   refine Sq.quiet (i := 5) rfl (Want.none rfl) rfl (ltN rfl) (QP.eql rfl rfl rfl).read ?_
   refine J.caseD (fun c93 => ?_) (fun c93 => ?_)
   ·skip
    refine Sq.quiet (i := 6) rfl (Want.none rfl) rfl (ltN rfl) (QP.assign rfl rfl).read ?_
    refine Sq.nil ?_
    refine hk17 _ _ ?_
    refine Run.cond_t rfl ?_
    refine Run.seq fun k18 hk18 => ?_
    refine Run.regionD (M := [0, 1, 3, 7, 0, 31, 63]) (q := 31) (r := 24) (by kernel_rfl) ?_
    refine Dw.pure (i := 0) rfl (by kernel_rfl) (Want.none rfl) rfl (ltN rfl) (QP.move rfl rfl) ?_
    refine Dw.pure (i := 1) rfl (by kernel_rfl) (Want.none rfl) rfl (ltN rfl) (QP.nilCheck rfl rfl) ?_
    refine Dw.pure (i := 2) rfl (by kernel_rfl) (Want.none rfl) rfl (ltN rfl) (QP.fieldAddr rfl rfl f45_0) ?_
    refine Dw.read (i := 3) rfl (by kernel_rfl) (Want.none rfl) rfl (ltN rfl) (QR.load1 (v := .slice _ LH.length _) rfl rfl g22 (Ref19Fib.sub_h _)) ?_
    refine Dw.read (i := 4) rfl (by kernel_rfl) (Want.none rfl) rfl (ltN rfl) (QR.load rfl rfl g39 (Pair.enc_sub _)) ?_
    refine Dw.eff (i := 5) (by kernel_rfl) (by kernel_rfl) ?_
    refine One.mk (o := _) (l := []) rfl (by kernel_rfl) (Want.none rfl) rfl (ltN rfl) (EF.call rfl ce29 rfl (.cons (by repeat constructor) Takes.nil) (fun F' hle hr => find_spec F' (by omega) hhh _)) (by kernel_rfl) ?_
    rintro _ _ ⟨_, ⟨rfl, n99, rfl, hf99⟩, rfl⟩
    refine ⟨fun _ h => (by cases h), ?_⟩
    refine J.app ?_
    refine Dw.eff (i := 6) (by kernel_rfl) (by kernel_rfl) ?_
    refine One.mk (o := _) (l := []) rfl (by kernel_rfl) (Want.none rfl) rfl (ltN rfl) ((QP.assign rfl rfl).eff) (by kernel_rfl) ?_
    rintro _ _ ⟨rfl, rfl⟩
    refine ⟨fun _ h => (by cases h), ?_⟩
    refine Dw.nil (by kernel_rfl) ?_
    refine hk18 _ _ ?_
    refine Run.regionD (M := [0, 0, 0, 4, 12, 28, 0, 124, 254, 0, 512, 1536, 3584, 0, 8192, 32256, 65534, 131071, 262143, 524287]) (q := 458493) (r := 4128) (by kernel_rfl) ?_
    obtain ⟨ix, y, rfl, hiy, hpy⟩ : ∃ (ix : Nat) (y : Entry), n99 = (ix : Int) ∧ LH[ix]? = some y ∧ y.pair = way.entry.pair := by
      rcases hf99 with ⟨h1, h2⟩ | h1
      · have h3 := hdk c93; rw [hoH.look_none.2 h2] at h3; cases h3
      · exact h1
    have hixl : ix < LH.length := (List.getElem?_eq_some_iff.1 hiy).1
    have hdelo : OrdE (replyH H way ok) (([] ++ ((LH.take ix).drop 0)) ++ ((LH.take LH.length).drop (ix + 1))) := by
      have h := hoH.del keyCmpE hiy
      rw [List.eraseIdx_eq_take_drop_succ, hpy] at h
      rw [show replyH H way ok = adel H way.entry.pair by unfold replyH; rw [if_pos (show ok = true by simpa using c72), if_pos c93]]
      simpa using h
    refine Dw.pure (i := 0) rfl (by kernel_rfl) (Want.none rfl) rfl (ltN rfl) (QP.move rfl rfl) ?_
    refine Dw.pure (i := 2) rfl (by kernel_rfl) (Want.none rfl) rfl (ltN rfl) (QP.move rfl rfl) ?_
    refine Dw.pure (i := 3) rfl (by kernel_rfl) (Want.none rfl) rfl (ltN rfl) (QP.nilCheck rfl rfl) ?_
    refine Dw.pure (i := 4) rfl (by kernel_rfl) (Want.none rfl) rfl (ltN rfl) (QP.fieldAddr rfl rfl f45_0) ?_
    refine Dw.read (i := 5) rfl (by kernel_rfl) (Want.none rfl) rfl (ltN rfl) (QR.load1 (v := .slice _ LH.length _) rfl rfl g22 (Ref19Fib.sub_h _)) ?_
    refine Dw.pure (i := 6) rfl (by kernel_rfl) (Want.none rfl) rfl (ltN rfl) (QP.move rfl rfl) ?_
    refine Dw.pure (i := 7) rfl (by kernel_rfl) (Want.none rfl) rfl (ltN rfl) (QP.sliceHi rfl rfl rfl Try.underlying22 z41 (by first | omega | (simp <;> omega)) (by first | omega | (simp <;> omega))) ?_
    refine Dw.pure (i := 9) rfl (by kernel_rfl) (Want.none rfl) rfl (ltN rfl) (QP.move rfl rfl) ?_
    refine Dw.pure (i := 10) rfl (by kernel_rfl) (Want.none rfl) rfl (ltN rfl) (QP.nilCheck rfl rfl) ?_
    refine Dw.pure (i := 11) rfl (by kernel_rfl) (Want.none rfl) rfl (ltN rfl) (QP.fieldAddr rfl rfl f45_0) ?_
    refine Dw.read (i := 12) rfl (by kernel_rfl) (Want.none rfl) rfl (ltN rfl) (QR.load1 (v := .slice _ LH.length _) rfl rfl g22 (Ref19Fib.sub_h _)) ?_
    refine Dw.pure (i := 13) rfl (by kernel_rfl) (Want.none rfl) rfl (ltN rfl) (QP.move rfl rfl) ?_
    refine Dw.pure (i := 14) rfl (by kernel_rfl) (Want.none rfl) rfl (ltN rfl) (QP.add64 rfl rfl rfl (by first | omega | (simp <;> omega)) (by first | omega | (simp <;> omega))) ?_
    refine Dw.pure (i := 15) rfl (by kernel_rfl) (Want.none rfl) rfl (ltN rfl) (QP.sliceLo rfl rfl rfl Try.underlying22 z41 (by first | omega | (simp <;> omega)) (by first | omega | (simp <;> omega))) ?_
    refine Dw.eff (i := 1) (by kernel_rfl) (by kernel_rfl) ?_
    refine One.mk (o := _) (l := [12, 5]) rfl (by kernel_rfl) (Want.none rfl) rfl (ltN rfl) (EF.buildSlice0 (enc := Entry.enc) rfl Try.underlying22 z41 zero41 (by simp [Value.cells, Entry.enc_len]) (by decide)) (by kernel_rfl) ?_
    rintro _ _ ⟨b101, rfl, rfl⟩
    refine ⟨?_, ?_⟩
    ·rw [List.forall_mem_cons, List.forall_mem_cons]
     refine ⟨?_, ?_, fun _ h => (by cases h)⟩
     ·exact Look.mk rfl rfl rfl (QR.load1 (v := .slice _ LH.length _) rfl rfl g22 (Ref19Fib.sub_h _))
     ·exact Look.mk rfl rfl rfl (QR.load1 (v := .slice _ LH.length _) rfl rfl g22 (Ref19Fib.sub_h _))
    refine ?_
    refine Dw.eff (i := 8) (by kernel_rfl) (by kernel_rfl) ?_
    refine One.mk (o := _) (l := [12]) rfl (by kernel_rfl) (Want.none rfl) rfl (ltN rfl) (EF.append (xs := []) (ys := ((LH.take ix).drop 0)) el41 Entry.enc_len Entry.enc_cell rfl rfl rfl Try.underlying22 Try.underlying22 rfl rfl (by repeat constructor) (RowsAt.cutOwn (i := 0) (j := ix) Entry.enc_len hhh (by repeat constructor) (by omega) (by omega)) (by first | omega | (simp <;> omega))) (by kernel_rfl) ?_
    rintro sl108 _ rfl
    refine ⟨?_, ?_⟩
    ·rw [List.forall_mem_cons]
     refine ⟨?_, fun _ h => (by cases h)⟩
     ·exact Look.mk rfl rfl rfl (QR.load1 (v := .slice _ LH.length _) rfl rfl g22 (Ref19Fib.sub_h _))
    refine ?_
    refine Dw.slCase (v := sl108) (xs := _) (by repeat constructor) (fun a108 c108 hv108 hh108 => ?_)
    subst hv108
    refine Dw.eff (i := 16) (by kernel_rfl) (by kernel_rfl) ?_
    refine One.mk (o := _) (l := []) rfl (by kernel_rfl) (Want.none rfl) rfl (ltN rfl) (EF.append (xs := _) (ys := ((LH.take LH.length).drop (ix + 1))) el41 Entry.enc_len Entry.enc_cell rfl rfl rfl Try.underlying22 Try.underlying22 rfl rfl (by repeat constructor) (RowsAt.cutOwn (i := ix + 1) (j := LH.length) Entry.enc_len hhh (by repeat constructor) (by omega) (by omega)) (by first | omega | (simp <;> omega))) (by kernel_rfl) ?_
    rintro sl116 _ rfl
    refine ⟨fun _ h => (by cases h), ?_⟩
    refine Dw.slCase (v := sl116) (xs := _) (by repeat constructor) (fun a116 c116 hv116 hh116 => ?_)
    subst hv116
    refine Dw.pure (i := 17) rfl (by kernel_rfl) (Want.none rfl) rfl (ltN rfl) (QP.nilCheck rfl rfl) ?_
    refine Dw.pure (i := 18) rfl (by kernel_rfl) (Want.none rfl) rfl (ltN rfl) (QP.fieldAddr rfl rfl f45_0) ?_
    refine Dw.eff (i := 19) (by kernel_rfl) (by kernel_rfl) ?_
    refine One.act (o := _) (l := []) rfl (by kernel_rfl) (Want.none rfl) rfl (EF.store rfl rfl rfl z22 (Ref19Fib.set_h _ ⟨a116, _, c116⟩) (cell_one rfl)) (by kernel_rfl) ?_
    rintro _ _ rfl
    refine ⟨fun _ h => (by cases h), ?_⟩
    refine Dw.nil (by kernel_rfl) ?_
    refine hk15 _ _ ?_
    refine Run.seq fun k19 hk19 => ?_
    refine Run.region ?_
    show Sq _ _ _ [0] _ _ _ _
    refine Sq.quiet (i := 0) rfl (Want.none rfl) rfl (ltN rfl) (QP.assign rfl rfl).read ?_
    refine Sq.nil ?_
    refine hk19 _ _ ?_
    refine Run.ret ?_
    exact J.ends (res_tmp rfl rfl) (.cons (by repeat constructor) (.cons (by repeat constructor) (.cons (by repeat constructor) Takes.nil))) ⟨_, _, _, _, _, _, rfl, hh116, hhk, hdelo, (by unfold replyFs; rw [show ok = true by simpa using c72, hK]; rfl), rfl⟩
   ·skip
    refine Sq.quiet (i := 6) rfl (Want.none rfl) rfl (ltN rfl) (QP.assign rfl rfl).read ?_
    refine Sq.nil ?_
    refine hk17 _ _ ?_
    refine Run.cond_f rfl ?_
    refine Run.regionD (M := [0, 0, 2, 6, 14, 0, 32, 96, 224, 480, 1022, 2047, 4095, 8191]) (q := 7167) (r := 528) (by kernel_rfl) ?_
    refine Dw.pure (i := 0) rfl (by kernel_rfl) (Want.none rfl) rfl (ltN rfl) (QP.move rfl rfl) ?_
    refine Dw.pure (i := 1) rfl (by kernel_rfl) (Want.none rfl) rfl (ltN rfl) (QP.move rfl rfl) ?_
    refine Dw.pure (i := 2) rfl (by kernel_rfl) (Want.none rfl) rfl (ltN rfl) (QP.nilCheck rfl rfl) ?_
    refine Dw.pure (i := 3) rfl (by kernel_rfl) (Want.none rfl) rfl (ltN rfl) (QP.fieldAddr rfl rfl f45_0) ?_
    refine Dw.read (i := 4) rfl (by kernel_rfl) (Want.none rfl) rfl (ltN rfl) (QR.load1 (v := .slice _ LH.length _) rfl rfl g22 (Ref19Fib.sub_h _)) ?_
    refine Dw.pure (i := 5) rfl (by kernel_rfl) (Want.none rfl) rfl (ltN rfl) (QP.move rfl rfl) ?_
    refine Dw.pure (i := 6) rfl (by kernel_rfl) (Want.none rfl) rfl (ltN rfl) (QP.nilCheck rfl rfl) ?_
    refine Dw.pure (i := 7) rfl (by kernel_rfl) (Want.none rfl) rfl (ltN rfl) (QP.fieldAddr rfl rfl f45_3) ?_
    refine Dw.pure (i := 8) rfl (by kernel_rfl) (Want.none rfl) rfl (ltN rfl) (QP.fieldAddr rfl rfl f43_1) ?_
    refine Dw.read (i := 9) rfl (by kernel_rfl) (Want.none rfl) rfl (ltN rfl) (QR.load rfl rfl g41 ((Ref19Fib.sub_way _).trans (Op.sub_entry _))) ?_
    refine Dw.eff (i := 10) (by kernel_rfl) (by kernel_rfl) ?_
    refine One.mk (o := _) (l := []) rfl (by kernel_rfl) (Want.none rfl) rfl (ltN rfl) (EF.call rfl ce30 rfl (.cons (by repeat constructor) Takes.nil) (fun F' hle hr => put_spec F' hhh (by omega) hoH.sort way.entry)) (by kernel_rfl) ?_
    rintro v68 _ ⟨_, ⟨L2, hput, rfl⟩, rfl⟩
    refine ⟨fun _ h => (by cases h), ?_⟩
    refine J.app ?_
    refine Dw.slCase (v := v68) (xs := L2) (by repeat constructor) (fun a68 c68 hv68 hh68 => ?_)
    subst hv68
    have hputo : OrdE (replyH H way ok) L2 := by rw [show replyH H way ok = aset H way.entry.pair way.entry by unfold replyH; rw [if_pos (show ok = true by simpa using c72), if_neg c93]]; exact hput.ord hoH
    refine Dw.pure (i := 11) rfl (by kernel_rfl) (Want.none rfl) rfl (ltN rfl) (QP.nilCheck rfl rfl) ?_
    refine Dw.pure (i := 12) rfl (by kernel_rfl) (Want.none rfl) rfl (ltN rfl) (QP.fieldAddr rfl rfl f45_0) ?_
    refine Dw.eff (i := 13) (by kernel_rfl) (by kernel_rfl) ?_
    refine One.act (o := _) (l := []) rfl (by kernel_rfl) (Want.none rfl) rfl (EF.store rfl rfl rfl z22 (Ref19Fib.set_h _ ⟨a68, L2.length, c68⟩) (cell_one rfl)) (by kernel_rfl) ?_
    rintro _ _ rfl
    refine ⟨fun _ h => (by cases h), ?_⟩
    refine Dw.nil (by kernel_rfl) ?_
    refine hk15 _ _ ?_
    refine Run.seq fun k20 hk20 => ?_
    refine Run.region ?_
    show Sq _ _ _ [0] _ _ _ _
    refine Sq.quiet (i := 0) rfl (Want.none rfl) rfl (ltN rfl) (QP.assign rfl rfl).read ?_
    refine Sq.nil ?_
    refine hk20 _ _ ?_
    refine Run.ret ?_
    exact J.ends (res_tmp rfl rfl) (.cons (by repeat constructor) (.cons (by repeat constructor) (.cons (by repeat constructor) Takes.nil))) ⟨_, _, _, _, _, _, rfl, hh68, hhk, hputo, (by unfold replyFs; rw [show ok = true by simpa using c72, hK]; rfl), rfl⟩
  ·skip
   refine Sq.quiet (i := 1) rfl (Want.none rfl) rfl (ltN rfl) (QP.not rfl rfl).read ?_
   refine Sq.quiet (i := 2) rfl (Want.none rfl) rfl (ltN rfl) (QP.assign rfl rfl).read ?_
   refine Sq.nil ?_
   refine hk16 _ _ ?_
   refine Run.cond_t rfl ?_
   refine Run.regionD (M := [0, 0, 2, 6, 14, 0, 0, 64, 224, 480, 1022, 2047, 4095, 8191]) (q := 6655) (r := 48) (by kernel_rfl) ?_
   refine Dw.pure (i := 0) rfl (by kernel_rfl) (Want.none rfl) rfl (ltN rfl) (QP.move rfl rfl) ?_
   refine Dw.pure (i := 1) rfl (by kernel_rfl) (Want.none rfl) rfl (ltN rfl) (QP.move rfl rfl) ?_
   refine Dw.pure (i := 2) rfl (by kernel_rfl) (Want.none rfl) rfl (ltN rfl) (QP.nilCheck rfl rfl) ?_
   refine Dw.pure (i := 3) rfl (by kernel_rfl) (Want.none rfl) rfl (ltN rfl) (QP.fieldAddr rfl rfl f45_2) ?_
   refine Dw.read (i := 4) rfl (by kernel_rfl) (Want.none rfl) rfl (ltN rfl) (QR.load1 (v := .slice _ K.length _) rfl rfl g33 (Ref19Fib.sub_f _)) ?_
   refine Dw.read (i := 5) rfl (by kernel_rfl) (Want.none rfl) rfl (ltN rfl) (QR.load rfl rfl g39 (Pair.enc_sub _)) ?_
   refine Dw.pure (i := 6) rfl (by kernel_rfl) (Want.none rfl) rfl (ltN rfl) (QP.move rfl rfl) ?_
   refine Dw.pure (i := 7) rfl (by kernel_rfl) (Want.none rfl) rfl (ltN rfl) (QP.add64 rfl rfl rfl (by first | omega | (simp <;> omega)) (by first | omega | (simp <;> omega))) ?_
   refine Dw.pure (i := 8) rfl (by kernel_rfl) (Want.none rfl) rfl (ltN rfl) (QP.build (l := Ref19Wait.enc ⟨(way.entry.pair), _⟩) rfl st86 rfl (by exact ⟨(congrArg some (Pair.enc_len _).symm), ⟨rfl, trivial⟩⟩) rfl) ?_
   refine Dw.eff (i := 9) (by kernel_rfl) (by kernel_rfl) ?_
   refine One.mk (o := _) (l := [4]) rfl (by kernel_rfl) (Want.none rfl) rfl (ltN rfl) (EF.buildSlice1 rfl Try.underlying33 z86 zero86 (by simp [Value.cells, Ref19Wait.enc_len]) (by decide) rfl rfl (Ref19Wait.enc_len _) (by decide)) (by kernel_rfl) ?_
   rintro _ _ ⟨b83, rfl, rfl⟩
   refine ⟨?_, ?_⟩
   ·rw [List.forall_mem_cons]
    refine ⟨?_, fun _ h => (by cases h)⟩
    ·exact Look.mk rfl rfl rfl (QR.load1 (v := .slice _ K.length _) rfl rfl g33 (Ref19Fib.sub_f _))
   refine ?_
   refine Dw.eff (i := 10) (by kernel_rfl) (by kernel_rfl) ?_
   refine One.mk (o := _) (l := []) rfl (by kernel_rfl) (Want.none rfl) rfl (ltN rfl) (EF.append1 (xs := K) (s := _) el86 Ref19Wait.enc_len Ref19Wait.enc_cell rfl rfl rfl Try.underlying33 Try.underlying33 rfl rfl (by repeat constructor) (by repeat constructor) (by first | omega | (simp <;> omega))) (by kernel_rfl) ?_
   rintro sl84 _ rfl
   refine ⟨fun _ h => (by cases h), ?_⟩
   refine Dw.slCase (v := sl84) (xs := _) (by repeat constructor) (fun a84 c84 hv84 hh84 => ?_)
   subst hv84
   refine Dw.pure (i := 11) rfl (by kernel_rfl) (Want.none rfl) rfl (ltN rfl) (QP.nilCheck rfl rfl) ?_
   refine Dw.pure (i := 12) rfl (by kernel_rfl) (Want.none rfl) rfl (ltN rfl) (QP.fieldAddr rfl rfl f45_2) ?_
   refine Dw.eff (i := 13) (by kernel_rfl) (by kernel_rfl) ?_
   refine One.act (o := _) (l := []) rfl (by kernel_rfl) (Want.none rfl) rfl (EF.store rfl rfl rfl z33 (Ref19Fib.set_f _ ⟨a84, _, c84⟩) (cell_one rfl)) (by kernel_rfl) ?_
   rintro _ _ rfl
   refine ⟨fun _ h => (by cases h), ?_⟩
   refine Dw.nil (by kernel_rfl) ?_
   refine hk15 _ _ ?_
   refine Run.seq fun k21 hk21 => ?_
   refine Run.region ?_
   show Sq _ _ _ [0] _ _ _ _
   refine Sq.quiet (i := 0) rfl (Want.none rfl) rfl (ltN rfl) (QP.assign rfl rfl).read ?_
   refine Sq.nil ?_
   refine hk21 _ _ ?_
   refine Run.ret ?_
   exact J.ends (res_tmp rfl rfl) (.cons (by repeat constructor) (.cons (by repeat constructor) (.cons (by repeat constructor) Takes.nil))) ⟨_, _, _, _, _, _, rfl, hhh, hh84, (by rw [show ok = false by simpa using c72]; exact hoH), (by unfold replyFs; rw [show ok = false by simpa using c72, hK]; rfl), rfl⟩
end Slb
