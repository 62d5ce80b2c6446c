/- C7: a part of the proof that a law of this package holds for every input; no condition. -/
import Derived.Test.YtpjndmgdboabfaaF7
namespace Slb
open Go Go.Proofs
set_option maxRecDepth 20000
theorem or_spec (F : Fr) (xs : List Int) {b off c : Nat} (hn : xs.length ≤ 4294967296) (hs : ∀ S, SlAt S F b off 1 (fun x => [Value.int .i64 x]) xs) : Spec Try.prog 30 #[.slice (some ⟨b, off, none⟩) xs.length c] [] F (fun v S => v = .int .i64 (orF xs) ∧ S = []) := by
 refine Spec.intro (N := 18) (args := [.slice (some ⟨b, off, none⟩) xs.length c]) Try.func30 rfl rfl (by simp) ?_
 refine Run.seq fun k1 hk1 => ?_
 refine Run.region ?_
 show Sq _ _ _ [0] _ _ _ _
 refine Sq.quiet (i := 0) rfl (Want.none rfl) rfl (ltN rfl) (QP.assign rfl rfl).read ?_
 refine Sq.nil ?_
 refine hk1 _ _ ?_
 refine Run.seq fun k2 hk2 => ?_
 refine Run.region ?_
 show Sq _ _ _ [0] _ _ _ _
 refine Sq.quiet (i := 0) rfl (Want.none rfl) rfl (ltN rfl) (QP.assign rfl rfl).read ?_
 refine Sq.nil ?_
 refine hk2 _ _ ?_
 refine Run.seq fun k3 hk3 => ?_
 refine Run.seq fun k4 hk4 => ?_
 refine Run.region ?_
 show Sq _ _ _ [0, 1, 2] _ _ _ _
 refine Sq.quiet (i := 0) rfl (Want.none rfl) rfl (ltN rfl) (QP.move rfl rfl).read ?_
 refine Sq.quiet (i := 1) rfl (Want.none rfl) rfl (ltN rfl) (QP.len rfl rfl rfl Try.underlying98).read ?_
 refine Sq.quiet (i := 2) rfl (Want.none rfl) rfl (ltN rfl) (QP.move rfl rfl).read ?_
 refine Sq.nil ?_
 refine hk4 _ _ ?_
 refine Run.block ?_
 refine Run.loop1 (fun (i : Nat) => i ≤ xs.length ∧ orF xs = orF (xs.drop i)) (fun i => .cons 2 (.int .i64 0) (.cons 3 (.int .i64 0) (.cons 6 (.slice (some ⟨b, off, none⟩) xs.length c) (.cons 7 (.int .i64 xs.length) (.cons 8 (.int .i64 i) (.nil)))))) (fun i => []) (fun i => xs.length - i) (0) (⟨by omega, rfl⟩) ?_ ?_
 ·exact fun _ j => J.envJ (J.keep Takes.nil j) ⟨rfl, rfl, rfl, rfl, rfl, trivial⟩
 rintro i ⟨hi0, hor⟩ kl5 hl5
 refine Run.seq fun k6 hk6 => ?_
 refine Run.region ?_
 show Sq _ _ _ [0] _ _ _ _
 refine Sq.quiet (i := 0) rfl (Want.none rfl) rfl (ltN rfl) (QP.lss rfl rfl rfl).read ?_
 refine J.caseD (fun c9 => ?_) (fun c9 => ?_)
 ·skip
  refine Sq.nil ?_
  refine hk6 _ _ ?_
  refine Run.seq fun k7 hk7 => ?_
  refine Run.cond_t rfl ?_
  refine Run.skip ?_
  refine hk7 _ _ ?_
  refine Run.seq fun k8 hk8 => ?_
  refine Run.block ?_
  refine Run.seq fun k9 hk9 => ?_
  refine Run.region ?_
  show Sq _ _ _ [0, 1, 2] _ _ _ _
  have hlt : i < xs.length := by simpa using c9
  obtain ⟨y, hi⟩ : ∃ y, xs[i]? = some y := ⟨_, List.getElem?_eq_getElem hlt⟩
  have hd : xs.drop i = y :: xs.drop (i + 1) := by rw [List.drop_eq_getElem_cons hlt]; simp [List.getElem?_eq_getElem hlt] at hi; rw [hi]
  refine Sq.quiet (i := 0) rfl (Want.none rfl) rfl (ltN rfl) (QP.indexAddr rfl rfl rfl Try.underlying98 z3 (by omega) (by omega)).read ?_
  refine Sq.quiet (i := 1) rfl (Want.none rfl) rfl (ltN rfl) (QR.loadSl1 (ev := .int .i64) rfl rfl g3 (hs _) hi) ?_
  refine Sq.quiet (i := 2) rfl (Want.none rfl) rfl (ltN rfl) (QP.assign rfl rfl).read ?_
  refine Sq.nil ?_
  refine hk9 _ _ ?_
  refine Run.seq fun k10 hk10 => ?_
  refine Run.region ?_
  show Sq _ _ _ [0, 1, 2] _ _ _ _
  refine Sq.quiet (i := 0) rfl (Want.none rfl) rfl (ltN rfl) (QP.move rfl rfl).read ?_
  refine Sq.quiet (i := 1) rfl (Want.none rfl) rfl (ltN rfl) (QP.move rfl rfl).read ?_
  refine Sq.quiet (i := 2) rfl (Want.none rfl) rfl (ltN rfl) (QP.neq rfl rfl rfl).read ?_
  refine J.caseD (fun c14 => ?_) (fun c14 => ?_)
  ·skip
   refine Sq.nil ?_
   refine hk10 _ _ ?_
   refine Run.cond_t rfl ?_
   refine Run.seq fun k11 hk11 => ?_
   refine Run.region ?_
   show Sq _ _ _ [0, 1] _ _ _ _
   refine Sq.quiet (i := 0) rfl (Want.none rfl) rfl (ltN rfl) (QP.move rfl rfl).read ?_
   refine Sq.quiet (i := 1) rfl (Want.none rfl) rfl (ltN rfl) (QP.assign rfl rfl).read ?_
   refine Sq.nil ?_
   refine hk11 _ _ ?_
   refine Run.ret ?_
   exact J.ends (res_tmp rfl rfl) Takes.nil ⟨by rw [hor, hd]; simp_all [orF], rfl⟩
  ·skip
   refine Sq.nil ?_
   refine hk10 _ _ ?_
   refine Run.cond_f rfl ?_
   refine Run.skip ?_
   refine hk8 _ _ ?_
   refine Run.region ?_
   show Sq _ _ _ [0, 1] _ _ _ _
   refine Sq.quiet (i := 0) rfl (Want.none rfl) rfl (ltN rfl) (QP.add64 rfl rfl rfl (by omega) (by omega)).read ?_
   refine Sq.quiet (i := 1) rfl (Want.none rfl) rfl (ltN rfl) (QP.move rfl rfl).read ?_
   refine Sq.nil ?_
   exact J.envJ (J.keep Takes.nil (hl5 (i + 1) (⟨by omega, by rw [hor, hd]; simp_all [orF]⟩) (by omega))) ⟨rfl, rfl, rfl, rfl, rfl, trivial⟩
 ·skip
  refine Sq.nil ?_
  refine hk6 _ _ ?_
  refine Run.seq fun k12 hk12 => ?_
  refine Run.cond_f rfl ?_
  refine Run.exit rfl ?_
  refine hk3 _ _ ?_
  refine Run.seq fun k13 hk13 => ?_
  refine Run.region ?_
  show Sq _ _ _ [0, 1] _ _ _ _
  refine Sq.quiet (i := 0) rfl (Want.none rfl) rfl (ltN rfl) (QP.move rfl rfl).read ?_
  refine Sq.quiet (i := 1) rfl (Want.none rfl) rfl (ltN rfl) (QP.assign rfl rfl).read ?_
  refine Sq.nil ?_
  refine hk13 _ _ ?_
  refine Run.ret ?_
  exact J.ends (res_tmp rfl rfl) Takes.nil ⟨by rw [hor, List.drop_eq_nil_of_le (by omega)]; rfl, rfl⟩

theorem bytesCompare_spec (F : Fr) (x y : List UInt8) {u v : Value} (ha : BytesAt [] F u x) (hb : BytesAt [] F v y) : Spec Try.prog 51 #[u, v] [] F (fun v S => v = .int .i64 (Lib.compareBytes x y) ∧ S = []) := by
 refine Spec.intro (N := 8) (args := [u, v]) Try.func51 rfl rfl (by simp) ?_
 refine Run.seq fun k1 hk1 => ?_
 refine Run.region ?_
 show Sq _ _ _ [0] _ _ _ _
 refine Sq.quiet (i := 0) rfl (Want.none rfl) rfl (ltN rfl) (QP.assign rfl rfl).read ?_
 refine Sq.nil ?_
 refine hk1 _ _ ?_
 refine Run.seq fun k2 hk2 => ?_
 refine Run.region ?_
 show Sq _ _ _ [0, 1, 2, 3] _ _ _ _
 refine Sq.quiet (i := 0) rfl (Want.none rfl) rfl (ltN rfl) (QP.move rfl rfl).read ?_
 refine Sq.quiet (i := 1) rfl (Want.none rfl) rfl (ltN rfl) (QP.move rfl rfl).read ?_
 refine Sq.quiet (i := 2) rfl (Want.none rfl) rfl (ltN rfl) (QR.compare rfl cmpRow rfl rfl ha hb) ?_
 refine Sq.quiet (i := 3) rfl (Want.none rfl) rfl (ltN rfl) (QP.assign rfl rfl).read ?_
 refine Sq.nil ?_
 refine hk2 _ _ ?_
 refine Run.ret ?_
 exact J.ends (res_tmp rfl rfl) Takes.nil ⟨rfl, rfl⟩

theorem addrCompare_spec (F : Fr) (x y : Bs 16) : Spec Try.prog 32 #[.agg (Bs.enc (x : Bs 16)).toArray, .agg (Bs.enc (y : Bs 16)).toArray] [] F (fun v S => v = .int .i64 (Lib.compareBytes x.l y.l) ∧ S = []) := by
 refine Spec.intro (N := 8) (args := [.agg (Bs.enc (x : Bs 16)).toArray, .agg (Bs.enc (y : Bs 16)).toArray]) Try.func32 rfl rfl (by simp) ?_
 refine Run.seq fun k1 hk1 => ?_
 refine Run.region ?_
 show Sq _ _ _ [0, 1, 2] _ _ _ _
 refine Sq.eff (i := 0) rfl (Want.none rfl) rfl (ltN rfl) (EF.boxA rfl rfl) ?_
 rintro _ _ ⟨b2, rfl, rfl⟩
 refine Sq.eff (i := 1) rfl (Want.none rfl) rfl (ltN rfl) (EF.boxA rfl rfl) ?_
 rintro _ _ ⟨b3, rfl, rfl⟩
 refine Sq.quiet (i := 2) rfl (Want.none rfl) rfl (ltN rfl) (QP.assign rfl rfl).read ?_
 refine Sq.nil ?_
 refine hk1 _ _ ?_
 refine Run.seq fun k2 hk2 => ?_
 refine Run.regionD (M := [0, 0, 3, 7]) (q := 3) (r := 0) (by kernel_rfl) ?_
 refine Dw.pure (i := 0) rfl (by kernel_rfl) (Want.none rfl) rfl (ltN rfl) (QP.sliceArr rfl rfl Try.underlying29 z5) ?_
 refine Dw.pure (i := 1) rfl (by kernel_rfl) (Want.none rfl) rfl (ltN rfl) (QP.sliceArr rfl rfl Try.underlying29 z5) ?_
 refine Dw.eff (i := 2) (by kernel_rfl) (by kernel_rfl) ?_
 refine One.mk (o := _) (l := []) rfl (by kernel_rfl) (Want.none rfl) rfl (ltN rfl) (EF.call rfl ce51 rfl Takes.nil (fun F' hle hr => bytesCompare_spec F' (x).l (y).l (BytesAt.bs (hr _ _ (by repeat constructor)) (Bs.sub _)) (BytesAt.bs (hr _ _ (by repeat constructor)) (Bs.sub _)))) (by kernel_rfl) ?_
 rintro _ _ ⟨_, ⟨rfl, rfl⟩, rfl⟩
 refine ⟨fun _ h => (by cases h), ?_⟩
 refine J.app ?_
 refine Dw.eff (i := 3) (by kernel_rfl) (by kernel_rfl) ?_
 refine One.mk (o := _) (l := []) rfl (by kernel_rfl) (Want.none rfl) rfl (ltN rfl) ((QP.assign rfl rfl).eff) (by kernel_rfl) ?_
 rintro _ _ ⟨rfl, rfl⟩
 refine ⟨fun _ h => (by cases h), ?_⟩
 refine Dw.nil (by kernel_rfl) ?_
 refine hk2 _ _ ?_
 refine Run.ret ?_
 exact J.ends (res_tmp rfl rfl) Takes.nil ⟨rfl, rfl⟩

theorem isNaN_spec (F : Fr) (a : Int) : Spec Try.prog 50 #[.int .i64 a] [] F (fun v S => v = .bool false ∧ S = []) := by
 refine Spec.intro (N := 6) (args := [.int .i64 a]) Try.func50 rfl rfl (by simp) ?_
 refine Run.seq fun k1 hk1 => ?_
 refine Run.region ?_
 show Sq _ _ _ [0] _ _ _ _
 refine Sq.quiet (i := 0) rfl (Want.none rfl) rfl (ltN rfl) (QP.assign rfl rfl).read ?_
 refine Sq.nil ?_
 refine hk1 _ _ ?_
 refine Run.seq fun k2 hk2 => ?_
 refine Run.region ?_
 show Sq _ _ _ [0, 1, 2, 3] _ _ _ _
 refine Sq.quiet (i := 0) rfl (Want.none rfl) rfl (ltN rfl) (QP.move rfl rfl).read ?_
 refine Sq.quiet (i := 1) rfl (Want.none rfl) rfl (ltN rfl) (QP.move rfl rfl).read ?_
 refine Sq.quiet (i := 2) rfl (Want.none rfl) rfl (ltN rfl) (QP.neq rfl rfl rfl).read ?_
 refine Sq.quiet (i := 3) rfl (Want.none rfl) rfl (ltN rfl) (QP.assign rfl rfl).read ?_
 refine Sq.nil ?_
 refine hk2 _ _ ?_
 refine Run.ret ?_
 exact J.ends (res_tmp rfl rfl) Takes.nil ⟨by simp, rfl⟩

theorem cmpCompare_spec (F : Fr) (a b : Int) : Spec Try.prog 31 #[.int .i64 a, .int .i64 b] [] F (fun v S => v = .int .i64 (cmpF a b) ∧ S = []) := by
 refine Spec.intro (N := 20) (args := [.int .i64 a, .int .i64 b]) Try.func31 rfl rfl (by simp) ?_
 refine Run.seq fun k1 hk1 => ?_
 refine Run.region ?_
 show Sq _ _ _ [0] _ _ _ _
 refine Sq.quiet (i := 0) rfl (Want.none rfl) rfl (ltN rfl) (QP.assign rfl rfl).read ?_
 refine Sq.nil ?_
 refine hk1 _ _ ?_
 refine Run.seq fun k2 hk2 => ?_
 refine Run.region ?_
 show Sq _ _ _ [0, 1, 2] _ _ _ _
 refine Sq.quiet (i := 0) rfl (Want.none rfl) rfl (ltN rfl) (QP.move rfl rfl).read ?_
 refine Sq.eff (i := 1) rfl (Want.none rfl) rfl (ltN rfl) (EF.call rfl ce50 rfl Takes.nil (fun F' hle hr => isNaN_spec F' _)) ?_
 rintro _ _ ⟨_, ⟨rfl, rfl⟩, rfl⟩
 refine J.app ?_
 refine Sq.quiet (i := 2) rfl (Want.none rfl) rfl (ltN rfl) (QP.assign rfl rfl).read ?_
 refine Sq.nil ?_
 refine hk2 _ _ ?_
 refine Run.seq fun k3 hk3 => ?_
 refine Run.region ?_
 show Sq _ _ _ [0, 1, 2] _ _ _ _
 refine Sq.quiet (i := 0) rfl (Want.none rfl) rfl (ltN rfl) (QP.move rfl rfl).read ?_
 refine Sq.eff (i := 1) rfl (Want.none rfl) rfl (ltN rfl) (EF.call rfl ce50 rfl Takes.nil (fun F' hle hr => isNaN_spec F' _)) ?_
 rintro _ _ ⟨_, ⟨rfl, rfl⟩, rfl⟩
 refine J.app ?_
 refine Sq.quiet (i := 2) rfl (Want.none rfl) rfl (ltN rfl) (QP.assign rfl rfl).read ?_
 refine Sq.nil ?_
 refine hk3 _ _ ?_
 refine Run.seq fun k4 hk4 => ?_
 refine Run.seq fun k5 hk5 => ?_
 refine Run.region ?_
 show Sq _ _ _ [0] _ _ _ _
 refine Sq.quiet (i := 0) rfl (Want.none rfl) rfl (ltN rfl) (QP.move rfl rfl).read ?_
 refine Sq.nil ?_
 refine hk5 _ _ ?_
 refine Run.cond_f rfl ?_
 refine Run.skip ?_
 refine hk4 _ _ ?_
 refine Run.seq fun k6 hk6 => ?_
 refine Run.seq fun k7 hk7 => ?_
 refine Run.region ?_
 show Sq _ _ _ [0] _ _ _ _
 refine Sq.quiet (i := 0) rfl (Want.none rfl) rfl (ltN rfl) (QP.move rfl rfl).read ?_
 refine Sq.nil ?_
 refine hk7 _ _ ?_
 refine Run.cond_f rfl ?_
 refine Run.skip ?_
 refine hk6 _ _ ?_
 refine Run.seq fun k8 hk8 => ?_
 refine Run.seq fun k9 hk9 => ?_
 refine Run.region ?_
 show Sq _ _ _ [0, 1, 2] _ _ _ _
 refine Sq.quiet (i := 0) rfl (Want.none rfl) rfl (ltN rfl) (QP.move rfl rfl).read ?_
 refine Sq.quiet (i := 1) rfl (Want.none rfl) rfl (ltN rfl) (QP.move rfl rfl).read ?_
 refine Sq.quiet (i := 2) rfl (Want.none rfl) rfl (ltN rfl) (QP.lss rfl rfl rfl).read ?_
 refine J.caseD (fun c16 => ?_) (fun c16 => ?_)
 ·skip
  refine Sq.nil ?_
  refine hk9 _ _ ?_
  refine Run.cond_t rfl ?_
  refine Run.seq fun k10 hk10 => ?_
  refine Run.region ?_
  show Sq _ _ _ [0] _ _ _ _
  refine Sq.quiet (i := 0) rfl (Want.none rfl) rfl (ltN rfl) (QP.assign rfl rfl).read ?_
  refine Sq.nil ?_
  refine hk10 _ _ ?_
  refine Run.ret ?_
  exact J.ends (res_tmp rfl rfl) Takes.nil ⟨by simp_all [cmpF], rfl⟩
 ·skip
  refine Sq.nil ?_
  refine hk9 _ _ ?_
  refine Run.cond_f rfl ?_
  refine Run.skip ?_
  refine hk8 _ _ ?_
  refine Run.seq fun k11 hk11 => ?_
  refine Run.seq fun k12 hk12 => ?_
  refine Run.region ?_
  show Sq _ _ _ [0, 1, 2] _ _ _ _
  refine Sq.quiet (i := 0) rfl (Want.none rfl) rfl (ltN rfl) (QP.move rfl rfl).read ?_
  refine Sq.quiet (i := 1) rfl (Want.none rfl) rfl (ltN rfl) (QP.move rfl rfl).read ?_
  refine Sq.quiet (i := 2) rfl (Want.none rfl) rfl (ltN rfl) (QP.gtr rfl rfl rfl).read ?_
  refine J.caseD (fun c19 => ?_) (fun c19 => ?_)
  ·skip
   refine Sq.nil ?_
   refine hk12 _ _ ?_
   refine Run.cond_t rfl ?_
   refine Run.seq fun k13 hk13 => ?_
   refine Run.region ?_
   show Sq _ _ _ [0] _ _ _ _
   refine Sq.quiet (i := 0) rfl (Want.none rfl) rfl (ltN rfl) (QP.assign rfl rfl).read ?_
   refine Sq.nil ?_
   refine hk13 _ _ ?_
   refine Run.ret ?_
   exact J.ends (res_tmp rfl rfl) Takes.nil ⟨by simp only [cmpF]; rw [if_neg (by assumption), if_pos (by assumption)], rfl⟩
  ·skip
   refine Sq.nil ?_
   refine hk12 _ _ ?_
   refine Run.cond_f rfl ?_
   refine Run.skip ?_
   refine hk11 _ _ ?_
   refine Run.seq fun k14 hk14 => ?_
   refine Run.region ?_
   show Sq _ _ _ [0] _ _ _ _
   refine Sq.quiet (i := 0) rfl (Want.none rfl) rfl (ltN rfl) (QP.assign rfl rfl).read ?_
   refine Sq.nil ?_
   refine hk14 _ _ ?_
   refine Run.ret ?_
   exact J.ends (res_tmp rfl rfl) Takes.nil ⟨by simp only [cmpF]; rw [if_neg (by assumption), if_neg (by assumption)], rfl⟩

def cmpPrefix (x y : Prefix) : Int := orF [Lib.compareBytes x.a.l y.a.l, cmpF x.len.val y.len.val]
def cmpPair (x y : Pair) : Int := orF [cmpPrefix x.dst y.dst, cmpPrefix x.src y.src]

theorem totPrefix : TotCmp cmpPrefix := TotCmp.lex (TotCmp.bytes 16) TotCmp.int Prefix.a (fun x => x.len.val) (fun x y h1 h2 => by obtain ⟨a, b⟩ := x; obtain ⟨c, d⟩ := y; simp only at h1 h2; subst h1; obtain rfl := Subtype.ext h2; rfl) (fun _ _ => rfl)
theorem totPair : TotCmp cmpPair := TotCmp.lex totPrefix totPrefix Pair.dst Pair.src (fun x y h1 h2 => by obtain ⟨a, b⟩ := x; obtain ⟨c, d⟩ := y; simp only at h1 h2; subst h1; subst h2; rfl) (fun _ _ => rfl)
/-- Two sources of one pair and one router stand alike. -/
theorem totKey : TotCmp (fun (x y : Pair × Bs 8) => orF [cmpPair x.1 y.1, Lib.compareBytes x.2.l y.2.l]) := TotCmp.lex totPair (TotCmp.bytes 8) Prod.fst Prod.snd (fun _ _ h1 h2 => Prod.ext h1 h2) (fun _ _ => rfl)
end Slb
