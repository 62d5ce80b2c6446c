/- C13: a part of the proof that a law of this package holds for every input; no condition. -/
import Derived.Test.YtfokodhfjdhdaaaGreatF13
namespace Slb
open Go Go.Proofs
set_option maxRecDepth 20000
theorem bytesCompare_spec (F : Fr) (x y : List UInt8) {u v : Value} (ha : BytesAt [] F u x) (hb : BytesAt [] F v y) : Spec Tryz.prog 65 #[u, v] [] F (fun v S => v = .int .i64 (Lib.compareBytes x y) ∧ S = []) := by
 refine Spec.intro (N := 8) (args := [u, v]) Tryz.func65 rfl rfl (by simp) ?_
 refine Run.seq fun k1 hk1 => ?_
 refine Run.region ?_
 show Sq _ _ _ [0] _ _ _ _
 refine Sq.quiet (i := 0) rfl (Want.none rfl) rfl (ltN rfl) (QP.assign rfl rfl).read ?_
 refine Sq.nil ?_
 refine hk1 _ _ ?_
 refine Run.seq fun k2 hk2 => ?_
 refine Run.region ?_
 show Sq _ _ _ [0, 1, 2, 3] _ _ _ _
 refine Sq.quiet (i := 0) rfl (Want.none rfl) rfl (ltN rfl) (QP.move rfl rfl).read ?_
 refine Sq.quiet (i := 1) rfl (Want.none rfl) rfl (ltN rfl) (QP.move rfl rfl).read ?_
 refine Sq.quiet (i := 2) rfl (Want.none rfl) rfl (ltN rfl) (QR.compare rfl cmpRow rfl rfl ha hb) ?_
 refine Sq.quiet (i := 3) rfl (Want.none rfl) rfl (ltN rfl) (QP.assign rfl rfl).read ?_
 refine Sq.nil ?_
 refine hk2 _ _ ?_
 refine Run.ret ?_
 exact J.ends (res_tmp rfl rfl) Takes.nil ⟨rfl, rfl⟩

theorem addrCompare_spec (F : Fr) (x y : Bs 16) : Spec Tryz.prog 42 #[.agg (Bs.enc (x : Bs 16)).toArray, .agg (Bs.enc (y : Bs 16)).toArray] [] F (fun v S => v = .int .i64 (Lib.compareBytes x.l y.l) ∧ S = []) := by
 refine Spec.intro (N := 8) (args := [.agg (Bs.enc (x : Bs 16)).toArray, .agg (Bs.enc (y : Bs 16)).toArray]) Tryz.func42 rfl rfl (by simp) ?_
 refine Run.seq fun k1 hk1 => ?_
 refine Run.region ?_
 show Sq _ _ _ [0, 1, 2] _ _ _ _
 refine Sq.eff (i := 0) rfl (Want.none rfl) rfl (ltN rfl) (EF.boxA rfl rfl) ?_
 rintro _ _ ⟨b2, rfl, rfl⟩
 refine Sq.eff (i := 1) rfl (Want.none rfl) rfl (ltN rfl) (EF.boxA rfl rfl) ?_
 rintro _ _ ⟨b3, rfl, rfl⟩
 refine Sq.quiet (i := 2) rfl (Want.none rfl) rfl (ltN rfl) (QP.assign rfl rfl).read ?_
 refine Sq.nil ?_
 refine hk1 _ _ ?_
 refine Run.seq fun k2 hk2 => ?_
 refine Run.regionD (M := [0, 0, 3, 7]) (q := 3) (r := 0) (by kernel_rfl) ?_
 refine Dw.pure (i := 0) rfl (by kernel_rfl) (Want.none rfl) rfl (ltN rfl) (QP.sliceArr rfl rfl Tryz.underlying32 z5) ?_
 refine Dw.pure (i := 1) rfl (by kernel_rfl) (Want.none rfl) rfl (ltN rfl) (QP.sliceArr rfl rfl Tryz.underlying32 z5) ?_
 refine Dw.eff (i := 2) (by kernel_rfl) (by kernel_rfl) ?_
 refine One.mk (o := _) (l := []) rfl (by kernel_rfl) (Want.none rfl) rfl (ltN rfl) (EF.call rfl ce65 rfl Takes.nil (fun F' hle hr => bytesCompare_spec F' (x).l (y).l (BytesAt.bs (hr _ _ (by repeat constructor)) (Bs.sub _)) (BytesAt.bs (hr _ _ (by repeat constructor)) (Bs.sub _)))) (by kernel_rfl) ?_
 rintro _ _ ⟨_, ⟨rfl, rfl⟩, rfl⟩
 refine ⟨fun _ h => (by cases h), ?_⟩
 refine J.app ?_
 refine Dw.eff (i := 3) (by kernel_rfl) (by kernel_rfl) ?_
 refine One.mk (o := _) (l := []) rfl (by kernel_rfl) (Want.none rfl) rfl (ltN rfl) ((QP.assign rfl rfl).eff) (by kernel_rfl) ?_
 rintro _ _ ⟨rfl, rfl⟩
 refine ⟨fun _ h => (by cases h), ?_⟩
 refine Dw.nil (by kernel_rfl) ?_
 refine hk2 _ _ ?_
 refine Run.ret ?_
 exact J.ends (res_tmp rfl rfl) Takes.nil ⟨rfl, rfl⟩

def cmpPrefix (x y : Prefix) : Int := orF [Lib.compareBytes x.a.l y.a.l, cmpF x.len.val y.len.val]
def cmpPair (x y : Pair) : Int := orF [cmpPrefix x.dst y.dst, cmpPrefix x.src y.src]

end Slb
