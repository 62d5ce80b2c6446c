/- R2: a part of the proof that a law of this package holds for every input; no condition. -/
import Derived.Test.YtfjmefldilponaaR1
namespace Slb
open Go Go.Proofs
set_option maxRecDepth 20000
theorem getQ_nil (F : Fr) (p : Pair) (j : I64) (fr : Bs 16) : Spec Try.prog 20 #[.pointer none, .agg (Pair.enc p).toArray, .int .i64 (j : I64).val, .agg (Bs.enc (fr : Bs 16)).toArray] [] F (fun v S => v = .tuple #[.agg Route.zero.enc.toArray, .bool false] ∧ S = []) := by
 refine Spec.intro (N := 36) (args := [.pointer none, .agg (Pair.enc p).toArray, .int .i64 (j : I64).val, .agg (Bs.enc (fr : Bs 16)).toArray]) Try.func20 rfl rfl (by simp) ?_
 refine Run.seq fun k1 hk1 => ?_
 refine Run.region ?_
 show Sq _ _ _ [0, 1, 2, 3] _ _ _ _
 refine Sq.eff (i := 0) rfl (Want.none rfl) rfl (ltN rfl) (EF.boxA rfl rfl) ?_
 rintro _ _ ⟨b5, rfl, rfl⟩
 refine Sq.eff (i := 1) rfl (Want.none rfl) rfl (ltN rfl) (EF.boxA rfl rfl) ?_
 rintro _ _ ⟨b7, rfl, rfl⟩
 refine Sq.eff (i := 2) rfl (Want.none rfl) rfl (ltN rfl) (EF.allocA (l := Route.enc Route.zero) rfl zero37) ?_
 rintro _ _ ⟨b8, rfl, rfl⟩
 refine Sq.quiet (i := 3) rfl (Want.none rfl) rfl (ltN rfl) (QP.assign rfl rfl).read ?_
 refine Sq.nil ?_
 refine hk1 _ _ ?_
 refine Run.seq fun k2 hk2 => ?_
 refine Run.seq fun k3 hk3 => ?_
 refine Run.regionD (M := [0, 1, 3, 7, 15, 31, 63, 7, 7, 7, 903, 2047, 4095, 8191]) (q := 16383) (r := 2752) (by kernel_rfl) ?_
 refine Dw.pure (i := 0) rfl (by kernel_rfl) (Want.none rfl) rfl (ltN rfl) (QP.move rfl rfl) ?_
 refine Dw.pure (i := 1) rfl (by kernel_rfl) (Want.none rfl) rfl (ltN rfl) (QP.ptr_eq_nil rfl rfl rfl Try.underlying25) ?_
 refine Dw.pure (i := 2) rfl (by kernel_rfl) (Want.none rfl) rfl (ltN rfl) (QP.move rfl rfl) ?_
 refine Dw.skip (i := 3) rfl (by kernel_rfl) (Want.no rfl rfl rfl rfl) rfl (ltN rfl) ?_
 refine Dw.skip (i := 4) rfl (by kernel_rfl) (Want.no rfl rfl rfl rfl) rfl (ltN rfl) ?_
 refine Dw.skip (i := 5) rfl (by kernel_rfl) (Want.no rfl rfl rfl rfl) rfl (ltN rfl) ?_
 refine Dw.skip (i := 6) rfl (by kernel_rfl) (Want.no rfl rfl rfl rfl) rfl (ltN rfl) ?_
 refine Dw.skip (i := 7) rfl (by kernel_rfl) (Want.no rfl rfl rfl rfl) rfl (ltN rfl) ?_
 refine Dw.skip (i := 8) rfl (by kernel_rfl) (Want.no rfl rfl rfl rfl) rfl (ltN rfl) ?_
 refine Dw.skip (i := 9) rfl (by kernel_rfl) (Want.no rfl rfl rfl rfl) rfl (ltN rfl) ?_
 refine Dw.skip (i := 10) rfl (by kernel_rfl) (Want.no rfl rfl rfl rfl) rfl (ltN rfl) ?_
 refine Dw.skip (i := 11) rfl (by kernel_rfl) (Want.no rfl rfl rfl rfl) rfl (ltN rfl) ?_
 refine Dw.skip (i := 12) rfl (by kernel_rfl) (Want.no rfl rfl rfl rfl) rfl (ltN rfl) ?_
 refine Dw.pure (i := 13) rfl (by kernel_rfl) (Want.none rfl) rfl (ltN rfl) (QP.pick_t rfl rfl rfl) ?_
 refine Dw.nil (by kernel_rfl) ?_
 refine hk3 _ _ ?_
 refine Run.cond_t rfl ?_
 refine Run.seq fun k4 hk4 => ?_
 refine Run.region ?_
 show Sq _ _ _ [0, 1, 2] _ _ _ _
 refine Sq.quiet (i := 0) rfl (Want.none rfl) rfl (ltN rfl) (QP.build (l := Route.enc Route.zero) rfl st37 rfl (by exact trivial) rfl).read ?_
 refine Sq.act (i := 1) rfl (Want.none rfl) rfl (EF.storeA rfl rfl rfl z37 (SetL.all (Route.enc_len _) (Route.enc_len _)) (Route.enc_cell _)) ?_
 rintro _ _ rfl
 refine Sq.quiet (i := 2) rfl (Want.none rfl) rfl (ltN rfl) (QP.assign rfl rfl).read ?_
 refine Sq.nil ?_
 refine hk4 _ _ ?_
 refine Run.ret ?_
 exact J.ends (res_cell2 rfl rfl g37 (Route.enc_sub _) rfl) Takes.nil ⟨rfl, rfl⟩

theorem getQ_none (F : Fr) {b r : Nat} {most : Int} {E : EntR} (hf : InR F b r most E)(p : Pair) (j : I64) (fr : Bs 16) (h0 : alook E ⟨p, j, fr⟩ = none) : Spec Try.prog 20 #[.pointer (some ⟨b, 0, none⟩), .agg (Pair.enc p).toArray, .int .i64 (j : I64).val, .agg (Bs.enc (fr : Bs 16)).toArray] [mapR r (ptrs E)] F (fun v S => v = .tuple #[.agg Route.zero.enc.toArray, .bool false] ∧ S = [mapR r (ptrs E)]) := by
 have hl : alook (ptrs E) ⟨p, j, fr⟩ = none := by rw [alook_ptrs, h0]; rfl
 refine Spec.intro (N := 36) (args := [.pointer (some ⟨b, 0, none⟩), .agg (Pair.enc p).toArray, .int .i64 (j : I64).val, .agg (Bs.enc (fr : Bs 16)).toArray]) Try.func20 rfl rfl (by simp) ?_
 refine Run.seq fun k1 hk1 => ?_
 refine Run.region ?_
 show Sq _ _ _ [0, 1, 2, 3] _ _ _ _
 refine Sq.eff (i := 0) rfl (Want.none rfl) rfl (ltN rfl) (EF.boxA rfl rfl) ?_
 rintro _ _ ⟨b5, rfl, rfl⟩
 refine Sq.eff (i := 1) rfl (Want.none rfl) rfl (ltN rfl) (EF.boxA rfl rfl) ?_
 rintro _ _ ⟨b7, rfl, rfl⟩
 refine Sq.eff (i := 2) rfl (Want.none rfl) rfl (ltN rfl) (EF.allocA (l := Route.enc Route.zero) rfl zero37) ?_
 rintro _ _ ⟨b8, rfl, rfl⟩
 refine Sq.quiet (i := 3) rfl (Want.none rfl) rfl (ltN rfl) (QP.assign rfl rfl).read ?_
 refine Sq.nil ?_
 refine hk1 _ _ ?_
 refine Run.seq fun k2 hk2 => ?_
 refine Run.seq fun k3 hk3 => ?_
 refine Run.regionD (M := [0, 1, 3, 7, 15, 31, 63, 7, 7, 7, 903, 2047, 4095, 8191]) (q := 16383) (r := 2752) (by kernel_rfl) ?_
 refine Dw.pure (i := 0) rfl (by kernel_rfl) (Want.none rfl) rfl (ltN rfl) (QP.move rfl rfl) ?_
 refine Dw.pure (i := 1) rfl (by kernel_rfl) (Want.none rfl) rfl (ltN rfl) (QP.ptr_eq_nil rfl rfl rfl Try.underlying25) ?_
 refine Dw.pure (i := 2) rfl (by kernel_rfl) (Want.none rfl) rfl (ltN rfl) (QP.move rfl rfl) ?_
 refine Dw.pure (i := 3) rfl (by kernel_rfl) (Want.yes rfl rfl rfl rfl) rfl (ltN rfl) (QP.move rfl rfl) ?_
 refine Dw.pure (i := 4) rfl (by kernel_rfl) (Want.yes rfl rfl rfl rfl) rfl (ltN rfl) (QP.nilCheck rfl rfl) ?_
 refine Dw.pure (i := 5) rfl (by kernel_rfl) (Want.yes rfl rfl rfl rfl) rfl (ltN rfl) (QP.fieldAddr rfl rfl f76_1) ?_
 refine Dw.read (i := 6) rfl (by kernel_rfl) (Want.yes rfl rfl rfl rfl) rfl (ltN rfl) (QR.load1F rfl rfl g74 hf.tb (RouteTable.sub_m _)) ?_
 refine Dw.read (i := 7) rfl (by kernel_rfl) (Want.yes rfl rfl rfl rfl) rfl (ltN rfl) (QR.load rfl rfl g32 (Pair.enc_sub _)) ?_
 refine Dw.pure (i := 8) rfl (by kernel_rfl) (Want.yes rfl rfl rfl rfl) rfl (ltN rfl) (QP.move rfl rfl) ?_
 refine Dw.read (i := 9) rfl (by kernel_rfl) (Want.yes rfl rfl rfl rfl) rfl (ltN rfl) (QR.load rfl rfl g28 (Bs.sub _)) ?_
 refine Dw.pure (i := 10) rfl (by kernel_rfl) (Want.yes rfl rfl rfl rfl) rfl (ltN rfl) (QP.build (l := RouteKey.enc ⟨(p), j, (fr)⟩) rfl st79 rfl (by exact ⟨(congrArg some (Pair.enc_len _).symm), ⟨rfl, ⟨(congrArg some (Bs.len _).symm), trivial⟩⟩⟩) rfl) ?_
 refine Dw.read (i := 11) rfl (by kernel_rfl) (Want.yes rfl rfl rfl rfl) rfl (ltN rfl) (QR.lookupNone key79 rfl rfl rfl Try.underlying74 zero77 hl) ?_
 refine Dw.pure (i := 12) rfl (by kernel_rfl) (Want.yes rfl rfl rfl rfl) rfl (ltN rfl) (QP.ptr_eq_nil rfl rfl rfl Try.underlying77) ?_
 refine Dw.pure (i := 13) rfl (by kernel_rfl) (Want.none rfl) rfl (ltN rfl) (QP.pick_f rfl rfl rfl) ?_
 refine Dw.nil (by kernel_rfl) ?_
 refine hk3 _ _ ?_
 refine Run.cond_t rfl ?_
 refine Run.seq fun k4 hk4 => ?_
 refine Run.region ?_
 show Sq _ _ _ [0, 1, 2] _ _ _ _
 refine Sq.quiet (i := 0) rfl (Want.none rfl) rfl (ltN rfl) (QP.build (l := Route.enc Route.zero) rfl st37 rfl (by exact trivial) rfl).read ?_
 refine Sq.act (i := 1) rfl (Want.none rfl) rfl (EF.storeA rfl rfl rfl z37 (SetL.all (Route.enc_len _) (Route.enc_len _)) (Route.enc_cell _)) ?_
 rintro _ _ rfl
 refine Sq.quiet (i := 2) rfl (Want.none rfl) rfl (ltN rfl) (QP.assign rfl rfl).read ?_
 refine Sq.nil ?_
 refine hk4 _ _ ?_
 refine Run.ret ?_
 exact J.ends (res_cell2 rfl rfl g37 (Route.enc_sub _) rfl) (.cons (by repeat constructor) Takes.nil) ⟨rfl, rfl⟩

theorem getQ_some (F : Fr) {b r : Nat} {most : Int} {E : EntR} (hf : InR F b r most E)(p : Pair) (j : I64) (fr : Bs 16) {c : Nat} {s : Route} (h0 : alook E ⟨p, j, fr⟩ = some (c, s)) : Spec Try.prog 20 #[.pointer (some ⟨b, 0, none⟩), .agg (Pair.enc p).toArray, .int .i64 (j : I64).val, .agg (Bs.enc (fr : Bs 16)).toArray] [mapR r (ptrs E)] F (fun v S => v = .tuple #[.agg s.enc.toArray, .bool true] ∧ S = [mapR r (ptrs E)]) := by
 have hl : alook (ptrs E) ⟨p, j, fr⟩ = some c := by rw [alook_ptrs, h0]; rfl
 have hrow := hf.row _ (alook_some h0)
 refine Spec.intro (N := 36) (args := [.pointer (some ⟨b, 0, none⟩), .agg (Pair.enc p).toArray, .int .i64 (j : I64).val, .agg (Bs.enc (fr : Bs 16)).toArray]) Try.func20 rfl rfl (by simp) ?_
 refine Run.seq fun k1 hk1 => ?_
 refine Run.region ?_
 show Sq _ _ _ [0, 1, 2, 3] _ _ _ _
 refine Sq.eff (i := 0) rfl (Want.none rfl) rfl (ltN rfl) (EF.boxA rfl rfl) ?_
 rintro _ _ ⟨b5, rfl, rfl⟩
 refine Sq.eff (i := 1) rfl (Want.none rfl) rfl (ltN rfl) (EF.boxA rfl rfl) ?_
 rintro _ _ ⟨b7, rfl, rfl⟩
 refine Sq.eff (i := 2) rfl (Want.none rfl) rfl (ltN rfl) (EF.allocA (l := Route.enc Route.zero) rfl zero37) ?_
 rintro _ _ ⟨b8, rfl, rfl⟩
 refine Sq.quiet (i := 3) rfl (Want.none rfl) rfl (ltN rfl) (QP.assign rfl rfl).read ?_
 refine Sq.nil ?_
 refine hk1 _ _ ?_
 refine Run.seq fun k2 hk2 => ?_
 refine Run.seq fun k3 hk3 => ?_
 refine Run.regionD (M := [0, 1, 3, 7, 15, 31, 63, 7, 7, 7, 903, 2047, 4095, 8191]) (q := 16383) (r := 2752) (by kernel_rfl) ?_
 refine Dw.pure (i := 0) rfl (by kernel_rfl) (Want.none rfl) rfl (ltN rfl) (QP.move rfl rfl) ?_
 refine Dw.pure (i := 1) rfl (by kernel_rfl) (Want.none rfl) rfl (ltN rfl) (QP.ptr_eq_nil rfl rfl rfl Try.underlying25) ?_
 refine Dw.pure (i := 2) rfl (by kernel_rfl) (Want.none rfl) rfl (ltN rfl) (QP.move rfl rfl) ?_
 refine Dw.pure (i := 3) rfl (by kernel_rfl) (Want.yes rfl rfl rfl rfl) rfl (ltN rfl) (QP.move rfl rfl) ?_
 refine Dw.pure (i := 4) rfl (by kernel_rfl) (Want.yes rfl rfl rfl rfl) rfl (ltN rfl) (QP.nilCheck rfl rfl) ?_
 refine Dw.pure (i := 5) rfl (by kernel_rfl) (Want.yes rfl rfl rfl rfl) rfl (ltN rfl) (QP.fieldAddr rfl rfl f76_1) ?_
 refine Dw.read (i := 6) rfl (by kernel_rfl) (Want.yes rfl rfl rfl rfl) rfl (ltN rfl) (QR.load1F rfl rfl g74 hf.tb (RouteTable.sub_m _)) ?_
 refine Dw.read (i := 7) rfl (by kernel_rfl) (Want.yes rfl rfl rfl rfl) rfl (ltN rfl) (QR.load rfl rfl g32 (Pair.enc_sub _)) ?_
 refine Dw.pure (i := 8) rfl (by kernel_rfl) (Want.yes rfl rfl rfl rfl) rfl (ltN rfl) (QP.move rfl rfl) ?_
 refine Dw.read (i := 9) rfl (by kernel_rfl) (Want.yes rfl rfl rfl rfl) rfl (ltN rfl) (QR.load rfl rfl g28 (Bs.sub _)) ?_
 refine Dw.pure (i := 10) rfl (by kernel_rfl) (Want.yes rfl rfl rfl rfl) rfl (ltN rfl) (QP.build (l := RouteKey.enc ⟨(p), j, (fr)⟩) rfl st79 rfl (by exact ⟨(congrArg some (Pair.enc_len _).symm), ⟨rfl, ⟨(congrArg some (Bs.len _).symm), trivial⟩⟩⟩) rfl) ?_
 refine Dw.read (i := 11) rfl (by kernel_rfl) (Want.yes rfl rfl rfl rfl) rfl (ltN rfl) (QR.lookupSome key79 rfl rfl rfl Try.underlying74 zero77 hl) ?_
 refine Dw.pure (i := 12) rfl (by kernel_rfl) (Want.yes rfl rfl rfl rfl) rfl (ltN rfl) (QP.ptr_eq_nil rfl rfl rfl Try.underlying77) ?_
 refine Dw.pure (i := 13) rfl (by kernel_rfl) (Want.none rfl) rfl (ltN rfl) (QP.pick_f rfl rfl rfl) ?_
 refine Dw.nil (by kernel_rfl) ?_
 refine hk3 _ _ ?_
 refine Run.cond_f rfl ?_
 refine Run.skip ?_
 refine hk2 _ _ ?_
 refine Run.seq fun k4 hk4 => ?_
 refine Run.regionD (M := [0, 1, 3, 7, 0, 0, 0, 112, 255, 511, 1023, 2047, 4095]) (q := 2047) (r := 1368) (by kernel_rfl) ?_
 refine Dw.pure (i := 0) rfl (by kernel_rfl) (Want.none rfl) rfl (ltN rfl) (QP.move rfl rfl) ?_
 refine Dw.pure (i := 1) rfl (by kernel_rfl) (Want.none rfl) rfl (ltN rfl) (QP.nilCheck rfl rfl) ?_
 refine Dw.pure (i := 2) rfl (by kernel_rfl) (Want.none rfl) rfl (ltN rfl) (QP.fieldAddr rfl rfl f76_1) ?_
 refine Dw.read (i := 3) rfl (by kernel_rfl) (Want.none rfl) rfl (ltN rfl) (QR.load1F rfl rfl g74 hf.tb (RouteTable.sub_m _)) ?_
 refine Dw.read (i := 4) rfl (by kernel_rfl) (Want.none rfl) rfl (ltN rfl) (QR.load rfl rfl g32 (Pair.enc_sub _)) ?_
 refine Dw.pure (i := 5) rfl (by kernel_rfl) (Want.none rfl) rfl (ltN rfl) (QP.move rfl rfl) ?_
 refine Dw.read (i := 6) rfl (by kernel_rfl) (Want.none rfl) rfl (ltN rfl) (QR.load rfl rfl g28 (Bs.sub _)) ?_
 refine Dw.pure (i := 7) rfl (by kernel_rfl) (Want.none rfl) rfl (ltN rfl) (QP.build (l := RouteKey.enc ⟨(p), j, (fr)⟩) rfl st79 rfl (by exact ⟨(congrArg some (Pair.enc_len _).symm), ⟨rfl, ⟨(congrArg some (Bs.len _).symm), trivial⟩⟩⟩) rfl) ?_
 refine Dw.read (i := 8) rfl (by kernel_rfl) (Want.none rfl) rfl (ltN rfl) (QR.lookupSome key79 rfl rfl rfl Try.underlying74 zero77 hl) ?_
 refine Dw.pure (i := 9) rfl (by kernel_rfl) (Want.none rfl) rfl (ltN rfl) (QP.nilCheck rfl rfl) ?_
 refine Dw.read (i := 10) rfl (by kernel_rfl) (Want.none rfl) rfl (ltN rfl) (QR.loadF rfl rfl g37 hrow (Route.enc_sub _)) ?_
 refine Dw.eff (i := 11) (by kernel_rfl) (by kernel_rfl) ?_
 refine One.act (o := _) (l := []) rfl (by kernel_rfl) (Want.none rfl) rfl (EF.storeA rfl rfl rfl z37 (SetL.all (Route.enc_len _) (Route.enc_len _)) (Route.enc_cell _)) (by kernel_rfl) ?_
 rintro _ _ rfl
 refine ⟨fun _ h => (by cases h), ?_⟩
 refine Dw.eff (i := 12) (by kernel_rfl) (by kernel_rfl) ?_
 refine One.mk (o := _) (l := []) rfl (by kernel_rfl) (Want.none rfl) rfl (ltN rfl) ((QP.assign rfl rfl).eff) (by kernel_rfl) ?_
 rintro _ _ ⟨rfl, rfl⟩
 refine ⟨fun _ h => (by cases h), ?_⟩
 refine Dw.nil (by kernel_rfl) ?_
 refine hk4 _ _ ?_
 refine Run.ret ?_
 exact J.ends (res_cell2 rfl rfl g37 (Route.enc_sub _) rfl) (.cons (by repeat constructor) Takes.nil) ⟨rfl, rfl⟩

theorem tellQ_nil (F : Fr) (now : Int) (x : Route) (ok : Bool) : Spec Try.prog 12 #[.pointer none, .int .i64 now, .agg (Route.enc x).toArray, .bool ok] [] F (fun v S => v = .tuple #[.int .i64 0, .int .i64 7] ∧ S = []) := by
 refine Spec.intro (N := 141) (args := [.pointer none, .int .i64 now, .agg (Route.enc x).toArray, .bool ok]) Try.func12 rfl rfl (by simp) ?_
 refine Run.seq fun k1 hk1 => ?_
 refine Run.region ?_
 show Sq _ _ _ [0, 1, 2] _ _ _ _
 refine Sq.eff (i := 0) rfl (Want.none rfl) rfl (ltN rfl) (EF.boxA rfl rfl) ?_
 rintro _ _ ⟨b6, rfl, rfl⟩
 refine Sq.quiet (i := 1) rfl (Want.none rfl) rfl (ltN rfl) (QP.assign rfl rfl).read ?_
 refine Sq.quiet (i := 2) rfl (Want.none rfl) rfl (ltN rfl) (QP.assign rfl rfl).read ?_
 refine Sq.nil ?_
 refine hk1 _ _ ?_
 refine Run.seq fun k2 hk2 => ?_
 refine Run.block ?_
 refine Run.seq fun k3 hk3 => ?_
 refine Run.region ?_
 show Sq _ _ _ [0, 1, 2] _ _ _ _
 refine Sq.quiet (i := 0) rfl (Want.none rfl) rfl (ltN rfl) (QP.move rfl rfl).read ?_
 refine Sq.quiet (i := 1) rfl (Want.none rfl) rfl (ltN rfl) (QP.ptr_eq_nil rfl rfl rfl Try.underlying25).read ?_
 refine Sq.quiet (i := 2) rfl (Want.none rfl) rfl (ltN rfl) (QP.assign rfl rfl).read ?_
 refine Sq.nil ?_
 refine hk3 _ _ ?_
 refine Run.cond_t rfl ?_
 refine Run.seq fun k4 hk4 => ?_
 refine Run.region ?_
 show Sq _ _ _ [0, 1] _ _ _ _
 refine Sq.quiet (i := 0) rfl (Want.none rfl) rfl (ltN rfl) (QP.assign rfl rfl).read ?_
 refine Sq.quiet (i := 1) rfl (Want.none rfl) rfl (ltN rfl) (QP.assign rfl rfl).read ?_
 refine Sq.nil ?_
 refine hk4 _ _ ?_
 refine Run.ret ?_
 exact J.ends (res_tmp2 rfl rfl rfl) Takes.nil ⟨rfl, rfl⟩

/-- What is told of a route that is not there yet: what is answered; is it put in? -/
def tellNew (n : Nat) (most : Int) (x : Route) (ok : Bool) : Int × Int × Bool :=
  if x.hold < 1 ∨ 2147483648 < x.hold then (0, 2, false) else if x.ref = 65535 ∨ ok = false then (3, 0, false) else if (n : Int) ≥ most then (0, 6, false) else (1, 0, true)
def newR (now : Int) (x : Route) : Route := { x with metric := 65535, until_ := now + x.hold, selected := false }
/-- What is told of a route that is there. -/
def tellOld (now : Int) (s x : Route) (ok : Bool) : Int × Int × Route :=
  if x.hold < 1 ∨ 2147483648 < x.hold then (0, 2, s) else if s.selected = true ∧ ok = false ∧ s.id_ = x.id_ then (3, 0, s) else
    (2, 0, if x.ref = 65535 then { s with ref := x.ref, until_ := now + s.hold } else { s with ref := x.ref, id_ := x.id_, seqno := x.seqno, hop := x.hop, hold := x.hold, until_ := now + x.hold })

theorem tellQ_none (F : Fr) {b r : Nat} {most : Int} {E : EntR} (hf : InR F b r most E)(now : Int) (hn0 : 0 ≤ now) (hn1 : now ≤ 2305843009213693952) (x : Route) (ok : Bool) (h0 : alook E (keyR x) = none) : Spec Try.prog 12 #[.pointer (some ⟨b, 0, none⟩), .int .i64 now, .agg (Route.enc x).toArray, .bool ok] [mapR r (ptrs E)] F (fun v S => ∃ a e t, v = .tuple #[.int .i64 a, .int .i64 e] ∧ tellNew (ptrs E).length most x ok = (a, e, t) ∧ ((t = false ∧ S = [mapR r (ptrs E)]) ∨ (t = true ∧ ∃ c, S = [mapR r (aset (ptrs E) (keyR x) c), blk c (Route.enc (newR now x)) 37]))) := by
 have hl : alook (ptrs E) (keyR x) = none := by rw [alook_ptrs, h0]; rfl
 refine Spec.intro (N := 141) (args := [.pointer (some ⟨b, 0, none⟩), .int .i64 now, .agg (Route.enc x).toArray, .bool ok]) Try.func12 rfl rfl (by simp) ?_
 refine Run.seq fun k1 hk1 => ?_
 refine Run.region ?_
 show Sq _ _ _ [0, 1, 2] _ _ _ _
 refine Sq.eff (i := 0) rfl (Want.none rfl) rfl (ltN rfl) (EF.boxA rfl rfl) ?_
 rintro _ _ ⟨b6, rfl, rfl⟩
 refine Sq.quiet (i := 1) rfl (Want.none rfl) rfl (ltN rfl) (QP.assign rfl rfl).read ?_
 refine Sq.quiet (i := 2) rfl (Want.none rfl) rfl (ltN rfl) (QP.assign rfl rfl).read ?_
 refine Sq.nil ?_
 refine hk1 _ _ ?_
 refine Run.seq fun k2 hk2 => ?_
 refine Run.block ?_
 refine Run.seq fun k3 hk3 => ?_
 refine Run.region ?_
 show Sq _ _ _ [0, 1, 2] _ _ _ _
 refine Sq.quiet (i := 0) rfl (Want.none rfl) rfl (ltN rfl) (QP.move rfl rfl).read ?_
 refine Sq.quiet (i := 1) rfl (Want.none rfl) rfl (ltN rfl) (QP.ptr_eq_nil rfl rfl rfl Try.underlying25).read ?_
 refine Sq.quiet (i := 2) rfl (Want.none rfl) rfl (ltN rfl) (QP.assign rfl rfl).read ?_
 refine Sq.nil ?_
 refine hk3 _ _ ?_
 refine Run.cond_f rfl ?_
 refine Run.seq fun k4 hk4 => ?_
 refine Run.region ?_
 show Sq _ _ _ [0, 1, 2, 3, 4, 5, 6, 7, 8] _ _ _ _
 refine Sq.quiet (i := 0) rfl (Want.none rfl) rfl (ltN rfl) (QP.fieldAddr rfl rfl f37_9).read ?_
 refine Sq.quiet (i := 1) rfl (Want.none rfl) rfl (ltN rfl) (QR.load1 rfl rfl g3 (Route.sub_hold _)) ?_
 refine Sq.quiet (i := 2) rfl (Want.none rfl) rfl (ltN rfl) (QP.lss rfl rfl rfl).read ?_
 refine J.caseD (fun c17 => ?_) (fun c17 => ?_)
 ·skip
  refine Sq.quiet (i := 3) rfl (Want.none rfl) rfl (ltN rfl) (QP.move rfl rfl).read ?_
  refine Sq.skip (i := 4) rfl (Want.no rfl rfl rfl rfl) rfl (ltN rfl) ?_
  refine Sq.skip (i := 5) rfl (Want.no rfl rfl rfl rfl) rfl (ltN rfl) ?_
  refine Sq.skip (i := 6) rfl (Want.no rfl rfl rfl rfl) rfl (ltN rfl) ?_
  refine Sq.quiet (i := 7) rfl (Want.none rfl) rfl (ltN rfl) (QP.pick_t rfl rfl rfl).read ?_
  refine Sq.quiet (i := 8) rfl (Want.none rfl) rfl (ltN rfl) (QP.assign rfl rfl).read ?_
  refine Sq.nil ?_
  refine hk4 _ _ ?_
  refine Run.cond_t rfl ?_
  refine Run.seq fun k5 hk5 => ?_
  refine Run.region ?_
  show Sq _ _ _ [0, 1] _ _ _ _
  refine Sq.quiet (i := 0) rfl (Want.none rfl) rfl (ltN rfl) (QP.assign rfl rfl).read ?_
  refine Sq.quiet (i := 1) rfl (Want.none rfl) rfl (ltN rfl) (QP.assign rfl rfl).read ?_
  refine Sq.nil ?_
  refine hk5 _ _ ?_
  refine Run.ret ?_
  exact J.ends (res_tmp2 rfl rfl rfl) (.cons (by repeat constructor) Takes.nil) ⟨_, _, false, rfl, by unfold tellNew; rw [if_pos (by omega)], .inl ⟨rfl, rfl⟩⟩
 ·skip
  refine Sq.quiet (i := 3) rfl (Want.none rfl) rfl (ltN rfl) (QP.move rfl rfl).read ?_
  refine Sq.quiet (i := 4) rfl (Want.yes rfl rfl rfl rfl) rfl (ltN rfl) (QP.fieldAddr rfl rfl f37_9).read ?_
  refine Sq.quiet (i := 5) rfl (Want.yes rfl rfl rfl rfl) rfl (ltN rfl) (QR.load1 rfl rfl g3 (Route.sub_hold _)) ?_
  refine Sq.quiet (i := 6) rfl (Want.yes rfl rfl rfl rfl) rfl (ltN rfl) (QP.gtr rfl rfl rfl).read ?_
  refine J.caseD (fun c21 => ?_) (fun c21 => ?_)
  ·skip
   refine Sq.quiet (i := 7) rfl (Want.none rfl) rfl (ltN rfl) (QP.pick_f rfl rfl rfl).read ?_
   refine Sq.quiet (i := 8) rfl (Want.none rfl) rfl (ltN rfl) (QP.assign rfl rfl).read ?_
   refine Sq.nil ?_
   refine hk4 _ _ ?_
   refine Run.cond_t rfl ?_
   refine Run.seq fun k6 hk6 => ?_
   refine Run.region ?_
   show Sq _ _ _ [0, 1] _ _ _ _
   refine Sq.quiet (i := 0) rfl (Want.none rfl) rfl (ltN rfl) (QP.assign rfl rfl).read ?_
   refine Sq.quiet (i := 1) rfl (Want.none rfl) rfl (ltN rfl) (QP.assign rfl rfl).read ?_
   refine Sq.nil ?_
   refine hk6 _ _ ?_
   refine Run.ret ?_
   exact J.ends (res_tmp2 rfl rfl rfl) (.cons (by repeat constructor) Takes.nil) ⟨_, _, false, rfl, by unfold tellNew; rw [if_pos (by omega)], .inl ⟨rfl, rfl⟩⟩
  ·skip
   refine Sq.quiet (i := 7) rfl (Want.none rfl) rfl (ltN rfl) (QP.pick_f rfl rfl rfl).read ?_
   refine Sq.quiet (i := 8) rfl (Want.none rfl) rfl (ltN rfl) (QP.assign rfl rfl).read ?_
   refine Sq.nil ?_
   refine hk4 _ _ ?_
   refine Run.cond_f rfl ?_
   refine Run.skip ?_
   refine hk2 _ _ ?_
   refine Run.seq fun k7 hk7 => ?_
   refine Run.regionD (M := [0, 1, 3, 7, 0, 16, 0, 64, 0, 256, 1008, 2047, 4095]) (q := 4095) (r := 2728) (by kernel_rfl) ?_
   refine Dw.pure (i := 0) rfl (by kernel_rfl) (Want.none rfl) rfl (ltN rfl) (QP.move rfl rfl) ?_
   refine Dw.pure (i := 1) rfl (by kernel_rfl) (Want.none rfl) rfl (ltN rfl) (QP.nilCheck rfl rfl) ?_
   refine Dw.pure (i := 2) rfl (by kernel_rfl) (Want.none rfl) rfl (ltN rfl) (QP.fieldAddr rfl rfl f76_1) ?_
   refine Dw.read (i := 3) rfl (by kernel_rfl) (Want.none rfl) rfl (ltN rfl) (QR.load1F rfl rfl g74 hf.tb (RouteTable.sub_m _)) ?_
   refine Dw.pure (i := 4) rfl (by kernel_rfl) (Want.none rfl) rfl (ltN rfl) (QP.fieldAddr rfl rfl f37_0) ?_
   refine Dw.read (i := 5) rfl (by kernel_rfl) (Want.none rfl) rfl (ltN rfl) (QR.load rfl rfl g32 (Route.sub_pair _)) ?_
   refine Dw.pure (i := 6) rfl (by kernel_rfl) (Want.none rfl) rfl (ltN rfl) (QP.fieldAddr rfl rfl f37_1) ?_
   refine Dw.read (i := 7) rfl (by kernel_rfl) (Want.none rfl) rfl (ltN rfl) (QR.load1 rfl rfl g3 (Route.sub_if_ _)) ?_
   refine Dw.pure (i := 8) rfl (by kernel_rfl) (Want.none rfl) rfl (ltN rfl) (QP.fieldAddr rfl rfl f37_2) ?_
   refine Dw.read (i := 9) rfl (by kernel_rfl) (Want.none rfl) rfl (ltN rfl) (QR.load rfl rfl g28 (Route.sub_from_ _)) ?_
   refine Dw.pure (i := 10) rfl (by kernel_rfl) (Want.none rfl) rfl (ltN rfl) (QP.build (l := RouteKey.enc ⟨((x).pair), _, ((x).from_)⟩) rfl st79 rfl (by exact ⟨(congrArg some (Pair.enc_len _).symm), ⟨rfl, ⟨(congrArg some (Bs.len _).symm), trivial⟩⟩⟩) rfl) ?_
   refine Dw.read (i := 11) rfl (by kernel_rfl) (Want.none rfl) rfl (ltN rfl) (QR.lookupNone key79 rfl rfl rfl Try.underlying74 zero77 hl) ?_
   refine Dw.eff (i := 12) (by kernel_rfl) (by kernel_rfl) ?_
   refine One.mk (o := _) (l := []) rfl (by kernel_rfl) (Want.none rfl) rfl (ltN rfl) ((QP.assign rfl rfl).eff) (by kernel_rfl) ?_
   rintro _ _ ⟨rfl, rfl⟩
   refine ⟨fun _ h => (by cases h), ?_⟩
   refine Dw.nil (by kernel_rfl) ?_
   refine hk7 _ _ ?_
   refine Run.seq fun k8 hk8 => ?_
   refine Run.block ?_
   refine Run.seq fun k9 hk9 => ?_
   refine Run.seq fun k10 hk10 => ?_
   refine Run.region ?_
   show Sq _ _ _ [0, 1, 2, 3, 4, 5, 6, 7, 8, 9, 10, 11] _ _ _ _
   refine Sq.quiet (i := 0) rfl (Want.none rfl) rfl (ltN rfl) (QP.move rfl rfl).read ?_
   refine Sq.quiet (i := 1) rfl (Want.none rfl) rfl (ltN rfl) (QP.ptr_eq_nil rfl rfl rfl Try.underlying77).read ?_
   refine Sq.quiet (i := 2) rfl (Want.none rfl) rfl (ltN rfl) (QP.move rfl rfl).read ?_
   refine Sq.quiet (i := 3) rfl (Want.yes rfl rfl rfl rfl) rfl (ltN rfl) (QP.fieldAddr rfl rfl f37_5).read ?_
   refine Sq.quiet (i := 4) rfl (Want.yes rfl rfl rfl rfl) rfl (ltN rfl) (QR.load1 rfl rfl g35 (Route.sub_ref _)) ?_
   refine Sq.quiet (i := 5) rfl (Want.yes rfl rfl rfl rfl) rfl (ltN rfl) (QP.eql rfl rfl rfl).read ?_
   refine J.caseD (fun c41 => ?_) (fun c41 => ?_)
   ·skip
    refine Sq.quiet (i := 6) rfl (Want.yes rfl rfl rfl rfl) rfl (ltN rfl) (QP.move rfl rfl).read ?_
    refine Sq.skip (i := 7) rfl (Want.no rfl rfl rfl rfl) rfl (ltN rfl) ?_
    refine Sq.skip (i := 8) rfl (Want.no rfl rfl rfl rfl) rfl (ltN rfl) ?_
    refine Sq.quiet (i := 9) rfl (Want.yes rfl rfl rfl rfl) rfl (ltN rfl) (QP.pick_t rfl rfl rfl).read ?_
    refine Sq.quiet (i := 10) rfl (Want.none rfl) rfl (ltN rfl) (QP.pick_t rfl rfl rfl).read ?_
    refine Sq.quiet (i := 11) rfl (Want.none rfl) rfl (ltN rfl) (QP.assign rfl rfl).read ?_
    refine Sq.nil ?_
    refine hk10 _ _ ?_
    refine Run.cond_t rfl ?_
    refine Run.skip ?_
    refine hk9 _ _ ?_
    refine Run.cond_t rfl ?_
    refine Run.seq fun k11 hk11 => ?_
    refine Run.region ?_
    show Sq _ _ _ [0, 1] _ _ _ _
    refine Sq.quiet (i := 0) rfl (Want.none rfl) rfl (ltN rfl) (QP.assign rfl rfl).read ?_
    refine Sq.quiet (i := 1) rfl (Want.none rfl) rfl (ltN rfl) (QP.assign rfl rfl).read ?_
    refine Sq.nil ?_
    refine hk11 _ _ ?_
    refine Run.ret ?_
    exact J.ends (res_tmp2 rfl rfl rfl) (.cons (by repeat constructor) Takes.nil) ⟨_, _, false, rfl, by unfold tellNew; rw [if_neg (by omega), if_pos (by exact .inl c41)], .inl ⟨rfl, rfl⟩⟩
   ·skip
    refine Sq.quiet (i := 6) rfl (Want.yes rfl rfl rfl rfl) rfl (ltN rfl) (QP.move rfl rfl).read ?_
    refine Sq.quiet (i := 7) rfl (Want.yes rfl rfl rfl rfl) rfl (ltN rfl) (QP.move rfl rfl).read ?_
    refine J.caseB (fun c43 => ?_) (fun c43 => ?_)
    ·skip
     refine Sq.quiet (i := 8) rfl (Want.yes rfl rfl rfl rfl) rfl (ltN rfl) (QP.not rfl rfl).read ?_
     refine Sq.quiet (i := 9) rfl (Want.yes rfl rfl rfl rfl) rfl (ltN rfl) (QP.pick_f rfl rfl rfl).read ?_
     refine Sq.quiet (i := 10) rfl (Want.none rfl) rfl (ltN rfl) (QP.pick_t rfl rfl rfl).read ?_
     refine Sq.quiet (i := 11) rfl (Want.none rfl) rfl (ltN rfl) (QP.assign rfl rfl).read ?_
     refine Sq.nil ?_
     refine hk10 _ _ ?_
     refine Run.cond_f rfl ?_
     refine Run.regionD (M := [0, 1, 3, 7, 15, 31, 63, 127, 255, 511, 1023, 2047, 4095, 8191, 16383, 32767, 65535, 8191, 139263, 524287, 1048575, 2097151]) (q := 2097151) (r := 327744) (by kernel_rfl) ?_
     refine Dw.pure (i := 0) rfl (by kernel_rfl) (Want.none rfl) rfl (ltN rfl) (QP.move rfl rfl) ?_
     refine Dw.pure (i := 1) rfl (by kernel_rfl) (Want.none rfl) rfl (ltN rfl) (QP.ptr_ne_nil rfl rfl rfl Try.underlying77) ?_
     refine Dw.pure (i := 2) rfl (by kernel_rfl) (Want.none rfl) rfl (ltN rfl) (QP.move rfl rfl) ?_
     refine Dw.skip (i := 3) rfl (by kernel_rfl) (Want.no rfl rfl rfl rfl) rfl (ltN rfl) ?_
     refine Dw.skip (i := 4) rfl (by kernel_rfl) (Want.no rfl rfl rfl rfl) rfl (ltN rfl) ?_
     refine Dw.skip (i := 5) rfl (by kernel_rfl) (Want.no rfl rfl rfl rfl) rfl (ltN rfl) ?_
     refine Dw.skip (i := 6) rfl (by kernel_rfl) (Want.no rfl rfl rfl rfl) rfl (ltN rfl) ?_
     refine Dw.pure (i := 7) rfl (by kernel_rfl) (Want.none rfl) rfl (ltN rfl) (QP.pick_f rfl rfl rfl) ?_
     refine Dw.pure (i := 8) rfl (by kernel_rfl) (Want.none rfl) rfl (ltN rfl) (QP.move rfl rfl) ?_
     refine Dw.skip (i := 9) rfl (by kernel_rfl) (Want.no rfl rfl rfl rfl) rfl (ltN rfl) ?_
     refine Dw.skip (i := 10) rfl (by kernel_rfl) (Want.no rfl rfl rfl rfl) rfl (ltN rfl) ?_
     refine Dw.pure (i := 11) rfl (by kernel_rfl) (Want.none rfl) rfl (ltN rfl) (QP.pick_f rfl rfl rfl) ?_
     refine Dw.pure (i := 12) rfl (by kernel_rfl) (Want.none rfl) rfl (ltN rfl) (QP.move rfl rfl) ?_
     refine Dw.skip (i := 13) rfl (by kernel_rfl) (Want.no rfl rfl rfl rfl) rfl (ltN rfl) ?_
     refine Dw.skip (i := 14) rfl (by kernel_rfl) (Want.no rfl rfl rfl rfl) rfl (ltN rfl) ?_
     refine Dw.skip (i := 15) rfl (by kernel_rfl) (Want.no rfl rfl rfl rfl) rfl (ltN rfl) ?_
     refine Dw.skip (i := 16) rfl (by kernel_rfl) (Want.no rfl rfl rfl rfl) rfl (ltN rfl) ?_
     refine Dw.skip (i := 17) rfl (by kernel_rfl) (Want.no rfl rfl rfl rfl) rfl (ltN rfl) ?_
     refine Dw.skip (i := 18) rfl (by kernel_rfl) (Want.no rfl rfl rfl rfl) rfl (ltN rfl) ?_
     refine Dw.skip (i := 19) rfl (by kernel_rfl) (Want.no rfl rfl rfl rfl) rfl (ltN rfl) ?_
     refine Dw.pure (i := 20) rfl (by kernel_rfl) (Want.none rfl) rfl (ltN rfl) (QP.pick_f rfl rfl rfl) ?_
     refine Dw.eff (i := 21) (by kernel_rfl) (by kernel_rfl) ?_
     refine One.mk (o := _) (l := []) rfl (by kernel_rfl) (Want.none rfl) rfl (ltN rfl) ((QP.assign rfl rfl).eff) (by kernel_rfl) ?_
     rintro _ _ ⟨rfl, rfl⟩
     refine ⟨fun _ h => (by cases h), ?_⟩
     refine Dw.nil (by kernel_rfl) ?_
     refine hk9 _ _ ?_
     refine Run.cond_f rfl ?_
     refine Run.seq fun k12 hk12 => ?_
     refine Run.regionD (M := [0, 1, 3, 7, 15, 31, 63, 127, 7, 263, 775, 1799, 4095, 8191, 16383]) (q := 16383) (r := 2240) (by kernel_rfl) ?_
     have cok : ok = true := c43
     refine Dw.pure (i := 0) rfl (by kernel_rfl) (Want.none rfl) rfl (ltN rfl) (QP.move rfl rfl) ?_
     refine Dw.pure (i := 1) rfl (by kernel_rfl) (Want.none rfl) rfl (ltN rfl) (QP.ptr_eq_nil rfl rfl rfl Try.underlying77) ?_
     refine Dw.pure (i := 2) rfl (by kernel_rfl) (Want.none rfl) rfl (ltN rfl) (QP.move rfl rfl) ?_
     refine Dw.pure (i := 3) rfl (by kernel_rfl) (Want.yes rfl rfl rfl rfl) rfl (ltN rfl) (QP.move rfl rfl) ?_
     refine Dw.pure (i := 4) rfl (by kernel_rfl) (Want.yes rfl rfl rfl rfl) rfl (ltN rfl) (QP.nilCheck rfl rfl) ?_
     refine Dw.pure (i := 5) rfl (by kernel_rfl) (Want.yes rfl rfl rfl rfl) rfl (ltN rfl) (QP.fieldAddr rfl rfl f76_1) ?_
     refine Dw.read (i := 6) rfl (by kernel_rfl) (Want.yes rfl rfl rfl rfl) rfl (ltN rfl) (QR.load1F rfl rfl g74 hf.tb (RouteTable.sub_m _)) ?_
     refine Dw.read (i := 7) rfl (by kernel_rfl) (Want.yes rfl rfl rfl rfl) rfl (ltN rfl) (QR.lenMap rfl rfl rfl Try.underlying74) ?_
     refine Dw.pure (i := 8) rfl (by kernel_rfl) (Want.yes rfl rfl rfl rfl) rfl (ltN rfl) (QP.move rfl rfl) ?_
     refine Dw.pure (i := 9) rfl (by kernel_rfl) (Want.yes rfl rfl rfl rfl) rfl (ltN rfl) (QP.nilCheck rfl rfl) ?_
     refine Dw.pure (i := 10) rfl (by kernel_rfl) (Want.yes rfl rfl rfl rfl) rfl (ltN rfl) (QP.fieldAddr rfl rfl f76_0) ?_
     refine Dw.read (i := 11) rfl (by kernel_rfl) (Want.yes rfl rfl rfl rfl) rfl (ltN rfl) (QR.load1F rfl rfl g3 hf.tb (RouteTable.sub_most _)) ?_
     refine Dw.pure (i := 12) rfl (by kernel_rfl) (Want.yes rfl rfl rfl rfl) rfl (ltN rfl) (QP.geq rfl rfl rfl) ?_
     refine J.caseD (fun c81 => ?_) (fun c81 => ?_)
     ·skip
      refine Dw.pure (i := 13) rfl (by kernel_rfl) (Want.none rfl) rfl (ltN rfl) (QP.pick_t rfl rfl rfl) ?_
      refine Dw.eff (i := 14) (by kernel_rfl) (by kernel_rfl) ?_
      refine One.mk (o := _) (l := []) rfl (by kernel_rfl) (Want.none rfl) rfl (ltN rfl) ((QP.assign rfl rfl).eff) (by kernel_rfl) ?_
      rintro _ _ ⟨rfl, rfl⟩
      refine ⟨fun _ h => (by cases h), ?_⟩
      refine Dw.nil (by kernel_rfl) ?_
      refine hk12 _ _ ?_
      refine Run.cond_t rfl ?_
      refine Run.seq fun k13 hk13 => ?_
      refine Run.region ?_
      show Sq _ _ _ [0, 1] _ _ _ _
      refine Sq.quiet (i := 0) rfl (Want.none rfl) rfl (ltN rfl) (QP.assign rfl rfl).read ?_
      refine Sq.quiet (i := 1) rfl (Want.none rfl) rfl (ltN rfl) (QP.assign rfl rfl).read ?_
      refine Sq.nil ?_
      refine hk13 _ _ ?_
      refine Run.ret ?_
      exact J.ends (res_tmp2 rfl rfl rfl) (.cons (by repeat constructor) Takes.nil) ⟨_, _, false, rfl, by unfold tellNew; rw [if_neg (by omega), if_neg (by simp [c41, cok]), if_pos (by assumption)], .inl ⟨rfl, rfl⟩⟩
     ·skip
      refine Dw.pure (i := 13) rfl (by kernel_rfl) (Want.none rfl) rfl (ltN rfl) (QP.pick_t rfl rfl rfl) ?_
      refine Dw.eff (i := 14) (by kernel_rfl) (by kernel_rfl) ?_
      refine One.mk (o := _) (l := []) rfl (by kernel_rfl) (Want.none rfl) rfl (ltN rfl) ((QP.assign rfl rfl).eff) (by kernel_rfl) ?_
      rintro _ _ ⟨rfl, rfl⟩
      refine ⟨fun _ h => (by cases h), ?_⟩
      refine Dw.nil (by kernel_rfl) ?_
      refine hk12 _ _ ?_
      refine Run.cond_f rfl ?_
      refine Run.seq fun k14 hk14 => ?_
      refine Run.region ?_
      show Sq _ _ _ [0, 1, 2] _ _ _ _
      refine Sq.quiet (i := 0) rfl (Want.none rfl) rfl (ltN rfl) (QP.move rfl rfl).read ?_
      refine Sq.quiet (i := 1) rfl (Want.none rfl) rfl (ltN rfl) (QP.ptr_eq_nil rfl rfl rfl Try.underlying77).read ?_
      refine Sq.quiet (i := 2) rfl (Want.none rfl) rfl (ltN rfl) (QP.assign rfl rfl).read ?_
      refine Sq.nil ?_
      refine hk14 _ _ ?_
      refine Run.cond_t rfl ?_
      refine Run.seq fun k15 hk15 => ?_
      refine Run.region ?_
      show Sq _ _ _ [0, 1, 2, 3, 4, 5, 6, 7, 8, 9] _ _ _ _
      refine Sq.quiet (i := 0) rfl (Want.none rfl) rfl (ltN rfl) (QP.move rfl rfl).read ?_
      refine Sq.quiet (i := 1) rfl (Want.none rfl) rfl (ltN rfl) (QP.fieldAddr rfl rfl f37_9).read ?_
      refine Sq.quiet (i := 2) rfl (Want.none rfl) rfl (ltN rfl) (QR.load1 rfl rfl g3 (Route.sub_hold _)) ?_
      refine Sq.quiet (i := 3) rfl (Want.none rfl) rfl (ltN rfl) (QP.add64 rfl rfl rfl (by first | omega | (simp <;> omega)) (by first | omega | (simp <;> omega))).read ?_
      refine Sq.quiet (i := 4) rfl (Want.none rfl) rfl (ltN rfl) (QP.fieldAddr rfl rfl f37_6).read ?_
      refine Sq.act (i := 5) rfl (Want.none rfl) rfl (EF.store rfl rfl rfl z35 (Route.set_metric _ _) (cell_one rfl)) ?_
      rintro _ _ rfl
      refine Sq.quiet (i := 6) rfl (Want.none rfl) rfl (ltN rfl) (QP.fieldAddr rfl rfl f37_8).read ?_
      refine Sq.act (i := 7) rfl (Want.none rfl) rfl (EF.store rfl rfl rfl z3 (Route.set_until_ _ _) (cell_one rfl)) ?_
      rintro _ _ rfl
      refine Sq.quiet (i := 8) rfl (Want.none rfl) rfl (ltN rfl) (QP.fieldAddr rfl rfl f37_10).read ?_
      refine Sq.act (i := 9) rfl (Want.none rfl) rfl (EF.store rfl rfl rfl z4 (Route.set_selected _ _) (cell_one rfl)) ?_
      rintro _ _ rfl
      refine Sq.nil ?_
      refine hk15 _ _ ?_
      refine Run.seq fun k16 hk16 => ?_
      refine Run.regionD (M := [0, 1, 3, 7, 0, 16, 0, 64, 0, 256, 1008, 2047]) (q := 2047) (r := 680) (by kernel_rfl) ?_
      refine Dw.pure (i := 0) rfl (by kernel_rfl) (Want.none rfl) rfl (ltN rfl) (QP.move rfl rfl) ?_
      refine Dw.pure (i := 1) rfl (by kernel_rfl) (Want.none rfl) rfl (ltN rfl) (QP.nilCheck rfl rfl) ?_
      refine Dw.pure (i := 2) rfl (by kernel_rfl) (Want.none rfl) rfl (ltN rfl) (QP.fieldAddr rfl rfl f76_1) ?_
      refine Dw.read (i := 3) rfl (by kernel_rfl) (Want.none rfl) rfl (ltN rfl) (QR.load1F rfl rfl g74 hf.tb (RouteTable.sub_m _)) ?_
      refine Dw.pure (i := 4) rfl (by kernel_rfl) (Want.none rfl) rfl (ltN rfl) (QP.fieldAddr rfl rfl f37_0) ?_
      refine Dw.read (i := 5) rfl (by kernel_rfl) (Want.none rfl) rfl (ltN rfl) (QR.load rfl rfl g32 (Route.sub_pair _)) ?_
      refine Dw.pure (i := 6) rfl (by kernel_rfl) (Want.none rfl) rfl (ltN rfl) (QP.fieldAddr rfl rfl f37_1) ?_
      refine Dw.read (i := 7) rfl (by kernel_rfl) (Want.none rfl) rfl (ltN rfl) (QR.load1 rfl rfl g3 (Route.sub_if_ _)) ?_
      refine Dw.pure (i := 8) rfl (by kernel_rfl) (Want.none rfl) rfl (ltN rfl) (QP.fieldAddr rfl rfl f37_2) ?_
      refine Dw.read (i := 9) rfl (by kernel_rfl) (Want.none rfl) rfl (ltN rfl) (QR.load rfl rfl g28 (Route.sub_from_ _)) ?_
      refine Dw.pure (i := 10) rfl (by kernel_rfl) (Want.none rfl) rfl (ltN rfl) (QP.build (l := RouteKey.enc ⟨_, _, _⟩) rfl st79 rfl (by exact ⟨(congrArg some (Pair.enc_len _).symm), ⟨rfl, ⟨(congrArg some (Bs.len _).symm), trivial⟩⟩⟩) rfl) ?_
      refine Dw.eff (i := 11) (by kernel_rfl) (by kernel_rfl) ?_
      refine One.act (o := _) (l := []) rfl (by kernel_rfl) (Want.none rfl) rfl (EF.mapUpdate (ev := pv) (v := _) key79 rfl rfl rfl rfl Try.underlying74) (by kernel_rfl) ?_
      rintro _ _ rfl
      refine ⟨fun _ h => (by cases h), ?_⟩
      refine Dw.nil (by kernel_rfl) ?_
      refine hk16 _ _ ?_
      refine Run.seq fun k17 hk17 => ?_
      refine Run.region ?_
      show Sq _ _ _ [0, 1] _ _ _ _
      refine Sq.quiet (i := 0) rfl (Want.none rfl) rfl (ltN rfl) (QP.assign rfl rfl).read ?_
      refine Sq.quiet (i := 1) rfl (Want.none rfl) rfl (ltN rfl) (QP.assign rfl rfl).read ?_
      refine Sq.nil ?_
      refine hk17 _ _ ?_
      refine Run.ret ?_
      exact J.ends (res_tmp2 rfl rfl rfl) (.cons (by repeat constructor) (.cons (by repeat constructor) Takes.nil)) ⟨_, _, true, rfl, by unfold tellNew; rw [if_neg (by omega), if_neg (by simp [c41, cok]), if_neg (by assumption)], .inr ⟨rfl, _, rfl⟩⟩
    ·skip
     refine Sq.quiet (i := 8) rfl (Want.yes rfl rfl rfl rfl) rfl (ltN rfl) (QP.not rfl rfl).read ?_
     refine Sq.quiet (i := 9) rfl (Want.yes rfl rfl rfl rfl) rfl (ltN rfl) (QP.pick_f rfl rfl rfl).read ?_
     refine Sq.quiet (i := 10) rfl (Want.none rfl) rfl (ltN rfl) (QP.pick_t rfl rfl rfl).read ?_
     refine Sq.quiet (i := 11) rfl (Want.none rfl) rfl (ltN rfl) (QP.assign rfl rfl).read ?_
     refine Sq.nil ?_
     refine hk10 _ _ ?_
     refine Run.cond_t rfl ?_
     refine Run.skip ?_
     refine hk9 _ _ ?_
     refine Run.cond_t rfl ?_
     refine Run.seq fun k18 hk18 => ?_
     refine Run.region ?_
     show Sq _ _ _ [0, 1] _ _ _ _
     refine Sq.quiet (i := 0) rfl (Want.none rfl) rfl (ltN rfl) (QP.assign rfl rfl).read ?_
     refine Sq.quiet (i := 1) rfl (Want.none rfl) rfl (ltN rfl) (QP.assign rfl rfl).read ?_
     refine Sq.nil ?_
     refine hk18 _ _ ?_
     refine Run.ret ?_
     exact J.ends (res_tmp2 rfl rfl rfl) (.cons (by repeat constructor) Takes.nil) ⟨_, _, false, rfl, by unfold tellNew; rw [if_neg (by omega), if_pos (by exact .inr c43)], .inl ⟨rfl, rfl⟩⟩

set_option maxHeartbeats 1000000 in
theorem tellQ_some (F : Fr) {b r c : Nat} {most : Int} {E : EntR} {s : Route} (htb : F.h b = some (.cells (RouteTable.enc ⟨most, some r⟩).toArray 76 (0, 0))) (now : Int) (hn0 : 0 ≤ now) (hn1 : now ≤ 2305843009213693952) (x : Route) (ok : Bool) (hl : alook (ptrs E) (keyR x) = some c) (hs : 1 ≤ s.hold ∧ s.hold ≤ 2147483648) : Spec Try.prog 12 #[.pointer (some ⟨b, 0, none⟩), .int .i64 now, .agg (Route.enc x).toArray, .bool ok] [mapR r (ptrs E), blk c (Route.enc s) 37] F (fun v S => ∃ a e s2, v = .tuple #[.int .i64 a, .int .i64 e] ∧ tellOld now s x ok = (a, e, s2) ∧ S = [mapR r (ptrs E), blk c (Route.enc s2) 37]) := by
 refine Spec.intro (N := 141) (args := [.pointer (some ⟨b, 0, none⟩), .int .i64 now, .agg (Route.enc x).toArray, .bool ok]) Try.func12 rfl rfl (by simp) ?_
 refine Run.seq fun k1 hk1 => ?_
 refine Run.region ?_
 show Sq _ _ _ [0, 1, 2] _ _ _ _
 refine Sq.eff (i := 0) rfl (Want.none rfl) rfl (ltN rfl) (EF.boxA rfl rfl) ?_
 rintro _ _ ⟨b6, rfl, rfl⟩
 refine Sq.quiet (i := 1) rfl (Want.none rfl) rfl (ltN rfl) (QP.assign rfl rfl).read ?_
 refine Sq.quiet (i := 2) rfl (Want.none rfl) rfl (ltN rfl) (QP.assign rfl rfl).read ?_
 refine Sq.nil ?_
 refine hk1 _ _ ?_
 refine Run.seq fun k2 hk2 => ?_
 refine Run.block ?_
 refine Run.seq fun k3 hk3 => ?_
 refine Run.region ?_
 show Sq _ _ _ [0, 1, 2] _ _ _ _
 refine Sq.quiet (i := 0) rfl (Want.none rfl) rfl (ltN rfl) (QP.move rfl rfl).read ?_
 refine Sq.quiet (i := 1) rfl (Want.none rfl) rfl (ltN rfl) (QP.ptr_eq_nil rfl rfl rfl Try.underlying25).read ?_
 refine Sq.quiet (i := 2) rfl (Want.none rfl) rfl (ltN rfl) (QP.assign rfl rfl).read ?_
 refine Sq.nil ?_
 refine hk3 _ _ ?_
 refine Run.cond_f rfl ?_
 refine Run.seq fun k4 hk4 => ?_
 refine Run.region ?_
 show Sq _ _ _ [0, 1, 2, 3, 4, 5, 6, 7, 8] _ _ _ _
 refine Sq.quiet (i := 0) rfl (Want.none rfl) rfl (ltN rfl) (QP.fieldAddr rfl rfl f37_9).read ?_
 refine Sq.quiet (i := 1) rfl (Want.none rfl) rfl (ltN rfl) (QR.load1 rfl rfl g3 (Route.sub_hold _)) ?_
 refine Sq.quiet (i := 2) rfl (Want.none rfl) rfl (ltN rfl) (QP.lss rfl rfl rfl).read ?_
 refine J.caseD (fun c17 => ?_) (fun c17 => ?_)
 ·skip
  refine Sq.quiet (i := 3) rfl (Want.none rfl) rfl (ltN rfl) (QP.move rfl rfl).read ?_
  refine Sq.skip (i := 4) rfl (Want.no rfl rfl rfl rfl) rfl (ltN rfl) ?_
  refine Sq.skip (i := 5) rfl (Want.no rfl rfl rfl rfl) rfl (ltN rfl) ?_
  refine Sq.skip (i := 6) rfl (Want.no rfl rfl rfl rfl) rfl (ltN rfl) ?_
  refine Sq.quiet (i := 7) rfl (Want.none rfl) rfl (ltN rfl) (QP.pick_t rfl rfl rfl).read ?_
  refine Sq.quiet (i := 8) rfl (Want.none rfl) rfl (ltN rfl) (QP.assign rfl rfl).read ?_
  refine Sq.nil ?_
  refine hk4 _ _ ?_
  refine Run.cond_t rfl ?_
  refine Run.seq fun k5 hk5 => ?_
  refine Run.region ?_
  show Sq _ _ _ [0, 1] _ _ _ _
  refine Sq.quiet (i := 0) rfl (Want.none rfl) rfl (ltN rfl) (QP.assign rfl rfl).read ?_
  refine Sq.quiet (i := 1) rfl (Want.none rfl) rfl (ltN rfl) (QP.assign rfl rfl).read ?_
  refine Sq.nil ?_
  refine hk5 _ _ ?_
  refine Run.ret ?_
  exact J.ends (res_tmp2 rfl rfl rfl) (.cons (by repeat constructor) (.cons (by repeat constructor) Takes.nil)) ⟨_, _, _, rfl, by unfold tellOld; rw [if_pos (by omega)], rfl⟩
 ·skip
  refine Sq.quiet (i := 3) rfl (Want.none rfl) rfl (ltN rfl) (QP.move rfl rfl).read ?_
  refine Sq.quiet (i := 4) rfl (Want.yes rfl rfl rfl rfl) rfl (ltN rfl) (QP.fieldAddr rfl rfl f37_9).read ?_
  refine Sq.quiet (i := 5) rfl (Want.yes rfl rfl rfl rfl) rfl (ltN rfl) (QR.load1 rfl rfl g3 (Route.sub_hold _)) ?_
  refine Sq.quiet (i := 6) rfl (Want.yes rfl rfl rfl rfl) rfl (ltN rfl) (QP.gtr rfl rfl rfl).read ?_
  refine J.caseD (fun c21 => ?_) (fun c21 => ?_)
  ·skip
   refine Sq.quiet (i := 7) rfl (Want.none rfl) rfl (ltN rfl) (QP.pick_f rfl rfl rfl).read ?_
   refine Sq.quiet (i := 8) rfl (Want.none rfl) rfl (ltN rfl) (QP.assign rfl rfl).read ?_
   refine Sq.nil ?_
   refine hk4 _ _ ?_
   refine Run.cond_t rfl ?_
   refine Run.seq fun k6 hk6 => ?_
   refine Run.region ?_
   show Sq _ _ _ [0, 1] _ _ _ _
   refine Sq.quiet (i := 0) rfl (Want.none rfl) rfl (ltN rfl) (QP.assign rfl rfl).read ?_
   refine Sq.quiet (i := 1) rfl (Want.none rfl) rfl (ltN rfl) (QP.assign rfl rfl).read ?_
   refine Sq.nil ?_
   refine hk6 _ _ ?_
   refine Run.ret ?_
   exact J.ends (res_tmp2 rfl rfl rfl) (.cons (by repeat constructor) (.cons (by repeat constructor) Takes.nil)) ⟨_, _, _, rfl, by unfold tellOld; rw [if_pos (by omega)], rfl⟩
  ·skip
   refine Sq.quiet (i := 7) rfl (Want.none rfl) rfl (ltN rfl) (QP.pick_f rfl rfl rfl).read ?_
   refine Sq.quiet (i := 8) rfl (Want.none rfl) rfl (ltN rfl) (QP.assign rfl rfl).read ?_
   refine Sq.nil ?_
   refine hk4 _ _ ?_
   refine Run.cond_f rfl ?_
   refine Run.skip ?_
   refine hk2 _ _ ?_
   refine Run.seq fun k7 hk7 => ?_
   refine Run.regionD (M := [0, 1, 3, 7, 0, 16, 0, 64, 0, 256, 1008, 2047, 4095]) (q := 4095) (r := 2728) (by kernel_rfl) ?_
   refine Dw.pure (i := 0) rfl (by kernel_rfl) (Want.none rfl) rfl (ltN rfl) (QP.move rfl rfl) ?_
   refine Dw.pure (i := 1) rfl (by kernel_rfl) (Want.none rfl) rfl (ltN rfl) (QP.nilCheck rfl rfl) ?_
   refine Dw.pure (i := 2) rfl (by kernel_rfl) (Want.none rfl) rfl (ltN rfl) (QP.fieldAddr rfl rfl f76_1) ?_
   refine Dw.read (i := 3) rfl (by kernel_rfl) (Want.none rfl) rfl (ltN rfl) (QR.load1F rfl rfl g74 htb (RouteTable.sub_m _)) ?_
   refine Dw.pure (i := 4) rfl (by kernel_rfl) (Want.none rfl) rfl (ltN rfl) (QP.fieldAddr rfl rfl f37_0) ?_
   refine Dw.read (i := 5) rfl (by kernel_rfl) (Want.none rfl) rfl (ltN rfl) (QR.load rfl rfl g32 (Route.sub_pair _)) ?_
   refine Dw.pure (i := 6) rfl (by kernel_rfl) (Want.none rfl) rfl (ltN rfl) (QP.fieldAddr rfl rfl f37_1) ?_
   refine Dw.read (i := 7) rfl (by kernel_rfl) (Want.none rfl) rfl (ltN rfl) (QR.load1 rfl rfl g3 (Route.sub_if_ _)) ?_
   refine Dw.pure (i := 8) rfl (by kernel_rfl) (Want.none rfl) rfl (ltN rfl) (QP.fieldAddr rfl rfl f37_2) ?_
   refine Dw.read (i := 9) rfl (by kernel_rfl) (Want.none rfl) rfl (ltN rfl) (QR.load rfl rfl g28 (Route.sub_from_ _)) ?_
   refine Dw.pure (i := 10) rfl (by kernel_rfl) (Want.none rfl) rfl (ltN rfl) (QP.build (l := RouteKey.enc ⟨((x).pair), _, ((x).from_)⟩) rfl st79 rfl (by exact ⟨(congrArg some (Pair.enc_len _).symm), ⟨rfl, ⟨(congrArg some (Bs.len _).symm), trivial⟩⟩⟩) rfl) ?_
   refine Dw.read (i := 11) rfl (by kernel_rfl) (Want.none rfl) rfl (ltN rfl) (QR.lookupSome key79 rfl rfl rfl Try.underlying74 zero77 hl) ?_
   refine Dw.eff (i := 12) (by kernel_rfl) (by kernel_rfl) ?_
   refine One.mk (o := _) (l := []) rfl (by kernel_rfl) (Want.none rfl) rfl (ltN rfl) ((QP.assign rfl rfl).eff) (by kernel_rfl) ?_
   rintro _ _ ⟨rfl, rfl⟩
   refine ⟨fun _ h => (by cases h), ?_⟩
   refine Dw.nil (by kernel_rfl) ?_
   refine hk7 _ _ ?_
   refine Run.seq fun k8 hk8 => ?_
   refine Run.block ?_
   refine Run.seq fun k9 hk9 => ?_
   refine Run.seq fun k10 hk10 => ?_
   refine Run.region ?_
   show Sq _ _ _ [0, 1, 2, 3, 4, 5, 6, 7, 8, 9, 10, 11] _ _ _ _
   refine Sq.quiet (i := 0) rfl (Want.none rfl) rfl (ltN rfl) (QP.move rfl rfl).read ?_
   refine Sq.quiet (i := 1) rfl (Want.none rfl) rfl (ltN rfl) (QP.ptr_eq_nil rfl rfl rfl Try.underlying77).read ?_
   refine Sq.quiet (i := 2) rfl (Want.none rfl) rfl (ltN rfl) (QP.move rfl rfl).read ?_
   refine Sq.skip (i := 3) rfl (Want.no rfl rfl rfl rfl) rfl (ltN rfl) ?_
   refine Sq.skip (i := 4) rfl (Want.no rfl rfl rfl rfl) rfl (ltN rfl) ?_
   refine Sq.skip (i := 5) rfl (Want.no rfl rfl rfl rfl) rfl (ltN rfl) ?_
   refine Sq.skip (i := 6) rfl (Want.no rfl rfl rfl rfl) rfl (ltN rfl) ?_
   refine Sq.skip (i := 7) rfl (Want.undef rfl rfl rfl) rfl (ltN rfl) ?_
   refine Sq.skip (i := 8) rfl (Want.undef rfl rfl rfl) rfl (ltN rfl) ?_
   refine Sq.skip (i := 9) rfl (Want.no rfl rfl rfl rfl) rfl (ltN rfl) ?_
   refine Sq.quiet (i := 10) rfl (Want.none rfl) rfl (ltN rfl) (QP.pick_f rfl rfl rfl).read ?_
   refine Sq.quiet (i := 11) rfl (Want.none rfl) rfl (ltN rfl) (QP.assign rfl rfl).read ?_
   refine Sq.nil ?_
   refine hk10 _ _ ?_
   refine Run.cond_f rfl ?_
   refine Run.regionD (M := [0, 1, 3, 7, 15, 31, 63, 127, 255, 511, 1023, 2047, 4095, 8191, 16383, 32767, 65535, 8191, 139263, 524287, 1048575, 2097151]) (q := 2097151) (r := 327744) (by kernel_rfl) ?_
   refine Dw.pure (i := 0) rfl (by kernel_rfl) (Want.none rfl) rfl (ltN rfl) (QP.move rfl rfl) ?_
   refine Dw.pure (i := 1) rfl (by kernel_rfl) (Want.none rfl) rfl (ltN rfl) (QP.ptr_ne_nil rfl rfl rfl Try.underlying77) ?_
   refine Dw.pure (i := 2) rfl (by kernel_rfl) (Want.none rfl) rfl (ltN rfl) (QP.move rfl rfl) ?_
   refine Dw.pure (i := 3) rfl (by kernel_rfl) (Want.yes rfl rfl rfl rfl) rfl (ltN rfl) (QP.move rfl rfl) ?_
   refine Dw.pure (i := 4) rfl (by kernel_rfl) (Want.yes rfl rfl rfl rfl) rfl (ltN rfl) (QP.nilCheck rfl rfl) ?_
   refine Dw.pure (i := 5) rfl (by kernel_rfl) (Want.yes rfl rfl rfl rfl) rfl (ltN rfl) (QP.fieldAddr rfl rfl f37_10) ?_
   refine Dw.read (i := 6) rfl (by kernel_rfl) (Want.yes rfl rfl rfl rfl) rfl (ltN rfl) (QR.load1 rfl rfl g4 (Route.sub_selected _)) ?_
   refine J.caseB (fun c53 => ?_) (fun c53 => ?_)
   ·skip
    refine Dw.pure (i := 7) rfl (by kernel_rfl) (Want.none rfl) rfl (ltN rfl) (QP.pick_t rfl rfl rfl) ?_
    refine Dw.pure (i := 8) rfl (by kernel_rfl) (Want.none rfl) rfl (ltN rfl) (QP.move rfl rfl) ?_
    refine Dw.pure (i := 9) rfl (by kernel_rfl) (Want.yes rfl rfl rfl rfl) rfl (ltN rfl) (QP.move rfl rfl) ?_
    refine J.caseB (fun c56 => ?_) (fun c56 => ?_)
    ·skip
     refine Dw.pure (i := 10) rfl (by kernel_rfl) (Want.yes rfl rfl rfl rfl) rfl (ltN rfl) (QP.not rfl rfl) ?_
     refine Dw.pure (i := 11) rfl (by kernel_rfl) (Want.none rfl) rfl (ltN rfl) (QP.pick_t rfl rfl rfl) ?_
     refine Dw.pure (i := 12) rfl (by kernel_rfl) (Want.none rfl) rfl (ltN rfl) (QP.move rfl rfl) ?_
     refine Dw.skip (i := 13) rfl (by kernel_rfl) (Want.no rfl rfl rfl rfl) rfl (ltN rfl) ?_
     refine Dw.skip (i := 14) rfl (by kernel_rfl) (Want.no rfl rfl rfl rfl) rfl (ltN rfl) ?_
     refine Dw.skip (i := 15) rfl (by kernel_rfl) (Want.no rfl rfl rfl rfl) rfl (ltN rfl) ?_
     refine Dw.skip (i := 16) rfl (by kernel_rfl) (Want.no rfl rfl rfl rfl) rfl (ltN rfl) ?_
     refine Dw.skip (i := 17) rfl (by kernel_rfl) (Want.no rfl rfl rfl rfl) rfl (ltN rfl) ?_
     refine Dw.skip (i := 18) rfl (by kernel_rfl) (Want.no rfl rfl rfl rfl) rfl (ltN rfl) ?_
     refine Dw.skip (i := 19) rfl (by kernel_rfl) (Want.no rfl rfl rfl rfl) rfl (ltN rfl) ?_
     refine Dw.pure (i := 20) rfl (by kernel_rfl) (Want.none rfl) rfl (ltN rfl) (QP.pick_f rfl rfl rfl) ?_
     refine Dw.eff (i := 21) (by kernel_rfl) (by kernel_rfl) ?_
     refine One.mk (o := _) (l := []) rfl (by kernel_rfl) (Want.none rfl) rfl (ltN rfl) ((QP.assign rfl rfl).eff) (by kernel_rfl) ?_
     rintro _ _ ⟨rfl, rfl⟩
     refine ⟨fun _ h => (by cases h), ?_⟩
     refine Dw.nil (by kernel_rfl) ?_
     refine hk9 _ _ ?_
     refine Run.cond_f rfl ?_
     refine Run.seq fun k11 hk11 => ?_
     refine Run.regionD (M := [0, 1, 3, 7, 15, 31, 63, 127, 7, 263, 775, 1799, 4095, 8191, 16383]) (q := 16383) (r := 2240) (by kernel_rfl) ?_
     refine Dw.pure (i := 0) rfl (by kernel_rfl) (Want.none rfl) rfl (ltN rfl) (QP.move rfl rfl) ?_
     refine Dw.pure (i := 1) rfl (by kernel_rfl) (Want.none rfl) rfl (ltN rfl) (QP.ptr_eq_nil rfl rfl rfl Try.underlying77) ?_
     refine Dw.pure (i := 2) rfl (by kernel_rfl) (Want.none rfl) rfl (ltN rfl) (QP.move rfl rfl) ?_
     refine Dw.skip (i := 3) rfl (by kernel_rfl) (Want.no rfl rfl rfl rfl) rfl (ltN rfl) ?_
     refine Dw.skip (i := 4) rfl (by kernel_rfl) (Want.no rfl rfl rfl rfl) rfl (ltN rfl) ?_
     refine Dw.skip (i := 5) rfl (by kernel_rfl) (Want.no rfl rfl rfl rfl) rfl (ltN rfl) ?_
     refine Dw.skip (i := 6) rfl (by kernel_rfl) (Want.no rfl rfl rfl rfl) rfl (ltN rfl) ?_
     refine Dw.skip (i := 7) rfl (by kernel_rfl) (Want.no rfl rfl rfl rfl) rfl (ltN rfl) ?_
     refine Dw.skip (i := 8) rfl (by kernel_rfl) (Want.no rfl rfl rfl rfl) rfl (ltN rfl) ?_
     refine Dw.skip (i := 9) rfl (by kernel_rfl) (Want.no rfl rfl rfl rfl) rfl (ltN rfl) ?_
     refine Dw.skip (i := 10) rfl (by kernel_rfl) (Want.no rfl rfl rfl rfl) rfl (ltN rfl) ?_
     refine Dw.skip (i := 11) rfl (by kernel_rfl) (Want.no rfl rfl rfl rfl) rfl (ltN rfl) ?_
     refine Dw.skip (i := 12) rfl (by kernel_rfl) (Want.no rfl rfl rfl rfl) rfl (ltN rfl) ?_
     refine Dw.pure (i := 13) rfl (by kernel_rfl) (Want.none rfl) rfl (ltN rfl) (QP.pick_f rfl rfl rfl) ?_
     refine Dw.eff (i := 14) (by kernel_rfl) (by kernel_rfl) ?_
     refine One.mk (o := _) (l := []) rfl (by kernel_rfl) (Want.none rfl) rfl (ltN rfl) ((QP.assign rfl rfl).eff) (by kernel_rfl) ?_
     rintro _ _ ⟨rfl, rfl⟩
     refine ⟨fun _ h => (by cases h), ?_⟩
     refine Dw.nil (by kernel_rfl) ?_
     refine hk11 _ _ ?_
     refine Run.cond_f rfl ?_
     refine Run.seq fun k12 hk12 => ?_
     refine Run.region ?_
     show Sq _ _ _ [0, 1, 2] _ _ _ _
     refine Sq.quiet (i := 0) rfl (Want.none rfl) rfl (ltN rfl) (QP.move rfl rfl).read ?_
     refine Sq.quiet (i := 1) rfl (Want.none rfl) rfl (ltN rfl) (QP.ptr_eq_nil rfl rfl rfl Try.underlying77).read ?_
     refine Sq.quiet (i := 2) rfl (Want.none rfl) rfl (ltN rfl) (QP.assign rfl rfl).read ?_
     refine Sq.nil ?_
     refine hk12 _ _ ?_
     refine Run.cond_f rfl ?_
     refine Run.skip ?_
     refine hk8 _ _ ?_
     refine Run.seq fun k13 hk13 => ?_
     refine Run.region ?_
     show Sq _ _ _ [0, 1, 2, 3, 4, 5] _ _ _ _
     refine Sq.quiet (i := 0) rfl (Want.none rfl) rfl (ltN rfl) (QP.move rfl rfl).read ?_
     refine Sq.quiet (i := 1) rfl (Want.none rfl) rfl (ltN rfl) (QP.fieldAddr rfl rfl f37_5).read ?_
     refine Sq.quiet (i := 2) rfl (Want.none rfl) rfl (ltN rfl) (QR.load1 rfl rfl g35 (Route.sub_ref _)) ?_
     refine Sq.quiet (i := 3) rfl (Want.none rfl) rfl (ltN rfl) (QP.nilCheck rfl rfl).read ?_
     refine Sq.quiet (i := 4) rfl (Want.none rfl) rfl (ltN rfl) (QP.fieldAddr rfl rfl f37_5).read ?_
     refine Sq.act (i := 5) rfl (Want.none rfl) rfl (EF.store rfl rfl rfl z35 (Route.set_ref _ _) (cell_one rfl)) ?_
     rintro _ _ rfl
     generalize hs1 : ({ s with ref := x.ref } : Route) = s1
     refine Sq.nil ?_
     refine hk13 _ _ ?_
     refine Run.seq fun k14 hk14 => ?_
     refine Run.seq fun k15 hk15 => ?_
     refine Run.region ?_
     show Sq _ _ _ [0, 1, 2] _ _ _ _
     refine Sq.quiet (i := 0) rfl (Want.none rfl) rfl (ltN rfl) (QP.fieldAddr rfl rfl f37_5).read ?_
     refine Sq.quiet (i := 1) rfl (Want.none rfl) rfl (ltN rfl) (QR.load1 rfl rfl g35 (Route.sub_ref _)) ?_
     refine Sq.quiet (i := 2) rfl (Want.none rfl) rfl (ltN rfl) (QP.neq rfl rfl rfl).read ?_
     refine J.caseD (fun c111 => ?_) (fun c111 => ?_)
     ·skip
      refine Sq.nil ?_
      refine hk15 _ _ ?_
      refine Run.cond_t rfl ?_
      refine Run.region ?_
      show Sq _ _ _ [0, 1, 2, 3, 4, 5, 6, 7, 8, 9, 10, 11, 12, 13, 14, 15, 16, 17, 18, 19, 20, 21, 22, 23] _ _ _ _
      refine Sq.quiet (i := 0) rfl (Want.none rfl) rfl (ltN rfl) (QP.move rfl rfl).read ?_
      refine Sq.quiet (i := 1) rfl (Want.none rfl) rfl (ltN rfl) (QP.move rfl rfl).read ?_
      refine Sq.quiet (i := 2) rfl (Want.none rfl) rfl (ltN rfl) (QP.move rfl rfl).read ?_
      refine Sq.quiet (i := 3) rfl (Want.none rfl) rfl (ltN rfl) (QP.move rfl rfl).read ?_
      refine Sq.quiet (i := 4) rfl (Want.none rfl) rfl (ltN rfl) (QP.fieldAddr rfl rfl f37_3).read ?_
      refine Sq.quiet (i := 5) rfl (Want.none rfl) rfl (ltN rfl) (QR.load rfl rfl g34 (Route.sub_id_ _)) ?_
      refine Sq.quiet (i := 6) rfl (Want.none rfl) rfl (ltN rfl) (QP.fieldAddr rfl rfl f37_4).read ?_
      refine Sq.quiet (i := 7) rfl (Want.none rfl) rfl (ltN rfl) (QR.load1 rfl rfl g35 (Route.sub_seqno _)) ?_
      refine Sq.quiet (i := 8) rfl (Want.none rfl) rfl (ltN rfl) (QP.fieldAddr rfl rfl f37_7).read ?_
      refine Sq.quiet (i := 9) rfl (Want.none rfl) rfl (ltN rfl) (QR.load rfl rfl g28 (Route.sub_hop _)) ?_
      refine Sq.quiet (i := 10) rfl (Want.none rfl) rfl (ltN rfl) (QP.fieldAddr rfl rfl f37_9).read ?_
      refine Sq.quiet (i := 11) rfl (Want.none rfl) rfl (ltN rfl) (QR.load1 rfl rfl g3 (Route.sub_hold _)) ?_
      refine Sq.quiet (i := 12) rfl (Want.none rfl) rfl (ltN rfl) (QP.nilCheck rfl rfl).read ?_
      refine Sq.quiet (i := 13) rfl (Want.none rfl) rfl (ltN rfl) (QP.fieldAddr rfl rfl f37_3).read ?_
      refine Sq.act (i := 14) rfl (Want.none rfl) rfl (EF.storeA rfl rfl rfl z34 (Route.set_id_ _ _) (Bs.cell _)) ?_
      rintro _ _ rfl
      generalize hs2 : ({ s1 with id_ := x.id_ } : Route) = s2
      refine Sq.quiet (i := 15) rfl (Want.none rfl) rfl (ltN rfl) (QP.nilCheck rfl rfl).read ?_
      refine Sq.quiet (i := 16) rfl (Want.none rfl) rfl (ltN rfl) (QP.fieldAddr rfl rfl f37_4).read ?_
      refine Sq.act (i := 17) rfl (Want.none rfl) rfl (EF.store rfl rfl rfl z35 (Route.set_seqno _ _) (cell_one rfl)) ?_
      rintro _ _ rfl
      generalize hs3 : ({ s2 with seqno := x.seqno } : Route) = s3
      refine Sq.quiet (i := 18) rfl (Want.none rfl) rfl (ltN rfl) (QP.nilCheck rfl rfl).read ?_
      refine Sq.quiet (i := 19) rfl (Want.none rfl) rfl (ltN rfl) (QP.fieldAddr rfl rfl f37_7).read ?_
      refine Sq.act (i := 20) rfl (Want.none rfl) rfl (EF.storeA rfl rfl rfl z28 (Route.set_hop _ _) (Bs.cell _)) ?_
      rintro _ _ rfl
      generalize hs4 : ({ s3 with hop := x.hop } : Route) = s4
      refine Sq.quiet (i := 21) rfl (Want.none rfl) rfl (ltN rfl) (QP.nilCheck rfl rfl).read ?_
      refine Sq.quiet (i := 22) rfl (Want.none rfl) rfl (ltN rfl) (QP.fieldAddr rfl rfl f37_9).read ?_
      refine Sq.act (i := 23) rfl (Want.none rfl) rfl (EF.store rfl rfl rfl z3 (Route.set_hold _ _) (cell_one rfl)) ?_
      rintro _ _ rfl
      generalize hs5 : ({ s4 with hold := x.hold } : Route) = s5
      refine Sq.nil ?_
      refine hk14 _ _ ?_
      refine Run.seq fun k16 hk16 => ?_
      refine Run.region ?_
      show Sq _ _ _ [0, 1, 2, 3, 4, 5, 6, 7, 8, 9] _ _ _ _
      have hh : 1 ≤ s5.hold ∧ s5.hold ≤ 2147483648 := by rw [← hs5]; simp only; omega
      refine Sq.quiet (i := 0) rfl (Want.none rfl) rfl (ltN rfl) (QP.move rfl rfl).read ?_
      refine Sq.quiet (i := 1) rfl (Want.none rfl) rfl (ltN rfl) (QP.move rfl rfl).read ?_
      refine Sq.quiet (i := 2) rfl (Want.none rfl) rfl (ltN rfl) (QP.move rfl rfl).read ?_
      refine Sq.quiet (i := 3) rfl (Want.none rfl) rfl (ltN rfl) (QP.nilCheck rfl rfl).read ?_
      refine Sq.quiet (i := 4) rfl (Want.none rfl) rfl (ltN rfl) (QP.fieldAddr rfl rfl f37_9).read ?_
      refine Sq.quiet (i := 5) rfl (Want.none rfl) rfl (ltN rfl) (QR.load1 rfl rfl g3 (Route.sub_hold _)) ?_
      refine Sq.quiet (i := 6) rfl (Want.none rfl) rfl (ltN rfl) (QP.add64 rfl rfl rfl (by first | omega | (simp <;> omega)) (by first | omega | (simp <;> omega))).read ?_
      refine Sq.quiet (i := 7) rfl (Want.none rfl) rfl (ltN rfl) (QP.nilCheck rfl rfl).read ?_
      refine Sq.quiet (i := 8) rfl (Want.none rfl) rfl (ltN rfl) (QP.fieldAddr rfl rfl f37_8).read ?_
      refine Sq.act (i := 9) rfl (Want.none rfl) rfl (EF.store rfl rfl rfl z3 (Route.set_until_ _ _) (cell_one rfl)) ?_
      rintro _ _ rfl
      generalize hs6 : ({ s5 with until_ := now + s5.hold } : Route) = s6
      refine Sq.nil ?_
      refine hk16 _ _ ?_
      refine Run.seq fun k17 hk17 => ?_
      refine Run.region ?_
      show Sq _ _ _ [0, 1] _ _ _ _
      refine Sq.quiet (i := 0) rfl (Want.none rfl) rfl (ltN rfl) (QP.assign rfl rfl).read ?_
      refine Sq.quiet (i := 1) rfl (Want.none rfl) rfl (ltN rfl) (QP.assign rfl rfl).read ?_
      refine Sq.nil ?_
      refine hk17 _ _ ?_
      refine Run.ret ?_
      exact J.ends (res_tmp2 rfl rfl rfl) (.cons (by repeat constructor) (.cons (by repeat constructor) Takes.nil)) ⟨_, _, _, rfl, by unfold tellOld; rw [if_neg (by omega), if_neg (by simp_all), if_neg (by simpa using c111)]; subst hs6 hs5 hs4 hs3 hs2 hs1; rfl, rfl⟩
     ·skip
      refine Sq.nil ?_
      refine hk15 _ _ ?_
      refine Run.cond_f rfl ?_
      refine Run.skip ?_
      refine hk14 _ _ ?_
      refine Run.seq fun k18 hk18 => ?_
      refine Run.region ?_
      show Sq _ _ _ [0, 1, 2, 3, 4, 5, 6, 7, 8, 9] _ _ _ _
      have hh : 1 ≤ s1.hold ∧ s1.hold ≤ 2147483648 := by rw [← hs1]; exact hs
      refine Sq.quiet (i := 0) rfl (Want.none rfl) rfl (ltN rfl) (QP.move rfl rfl).read ?_
      refine Sq.quiet (i := 1) rfl (Want.none rfl) rfl (ltN rfl) (QP.move rfl rfl).read ?_
      refine Sq.quiet (i := 2) rfl (Want.none rfl) rfl (ltN rfl) (QP.move rfl rfl).read ?_
      refine Sq.quiet (i := 3) rfl (Want.none rfl) rfl (ltN rfl) (QP.nilCheck rfl rfl).read ?_
      refine Sq.quiet (i := 4) rfl (Want.none rfl) rfl (ltN rfl) (QP.fieldAddr rfl rfl f37_9).read ?_
      refine Sq.quiet (i := 5) rfl (Want.none rfl) rfl (ltN rfl) (QR.load1 rfl rfl g3 (Route.sub_hold _)) ?_
      refine Sq.quiet (i := 6) rfl (Want.none rfl) rfl (ltN rfl) (QP.add64 rfl rfl rfl (by first | omega | (simp <;> omega)) (by first | omega | (simp <;> omega))).read ?_
      refine Sq.quiet (i := 7) rfl (Want.none rfl) rfl (ltN rfl) (QP.nilCheck rfl rfl).read ?_
      refine Sq.quiet (i := 8) rfl (Want.none rfl) rfl (ltN rfl) (QP.fieldAddr rfl rfl f37_8).read ?_
      refine Sq.act (i := 9) rfl (Want.none rfl) rfl (EF.store rfl rfl rfl z3 (Route.set_until_ _ _) (cell_one rfl)) ?_
      rintro _ _ rfl
      generalize hs6 : ({ s1 with until_ := now + s1.hold } : Route) = s6
      refine Sq.nil ?_
      refine hk18 _ _ ?_
      refine Run.seq fun k19 hk19 => ?_
      refine Run.region ?_
      show Sq _ _ _ [0, 1] _ _ _ _
      refine Sq.quiet (i := 0) rfl (Want.none rfl) rfl (ltN rfl) (QP.assign rfl rfl).read ?_
      refine Sq.quiet (i := 1) rfl (Want.none rfl) rfl (ltN rfl) (QP.assign rfl rfl).read ?_
      refine Sq.nil ?_
      refine hk19 _ _ ?_
      refine Run.ret ?_
      exact J.ends (res_tmp2 rfl rfl rfl) (.cons (by repeat constructor) (.cons (by repeat constructor) Takes.nil)) ⟨_, _, _, rfl, by unfold tellOld; rw [if_neg (by omega), if_neg (by simp_all), if_pos (by simpa using c111)]; subst hs6 hs1; rfl, rfl⟩
    ·skip
     refine Dw.pure (i := 10) rfl (by kernel_rfl) (Want.yes rfl rfl rfl rfl) rfl (ltN rfl) (QP.not rfl rfl) ?_
     refine Dw.pure (i := 11) rfl (by kernel_rfl) (Want.none rfl) rfl (ltN rfl) (QP.pick_t rfl rfl rfl) ?_
     refine Dw.pure (i := 12) rfl (by kernel_rfl) (Want.none rfl) rfl (ltN rfl) (QP.move rfl rfl) ?_
     refine Dw.pure (i := 13) rfl (by kernel_rfl) (Want.yes rfl rfl rfl rfl) rfl (ltN rfl) (QP.move rfl rfl) ?_
     refine Dw.pure (i := 14) rfl (by kernel_rfl) (Want.yes rfl rfl rfl rfl) rfl (ltN rfl) (QP.nilCheck rfl rfl) ?_
     refine Dw.pure (i := 15) rfl (by kernel_rfl) (Want.yes rfl rfl rfl rfl) rfl (ltN rfl) (QP.fieldAddr rfl rfl f37_3) ?_
     refine Dw.read (i := 16) rfl (by kernel_rfl) (Want.yes rfl rfl rfl rfl) rfl (ltN rfl) (QR.load rfl rfl g34 (Route.sub_id_ _)) ?_
     refine Dw.pure (i := 17) rfl (by kernel_rfl) (Want.yes rfl rfl rfl rfl) rfl (ltN rfl) (QP.fieldAddr rfl rfl f37_3) ?_
     refine Dw.read (i := 18) rfl (by kernel_rfl) (Want.yes rfl rfl rfl rfl) rfl (ltN rfl) (QR.load rfl rfl g34 (Route.sub_id_ _)) ?_
     refine Dw.pure (i := 19) rfl (by kernel_rfl) (Want.yes rfl rfl rfl rfl) rfl (ltN rfl) (QP.eql_agg eq34 rfl rfl rfl) ?_
     refine J.caseD (fun c66 => ?_) (fun c66 => ?_)
     ·skip
      refine Dw.pure (i := 20) rfl (by kernel_rfl) (Want.none rfl) rfl (ltN rfl) (QP.pick_t rfl rfl rfl) ?_
      refine Dw.eff (i := 21) (by kernel_rfl) (by kernel_rfl) ?_
      refine One.mk (o := _) (l := []) rfl (by kernel_rfl) (Want.none rfl) rfl (ltN rfl) ((QP.assign rfl rfl).eff) (by kernel_rfl) ?_
      rintro _ _ ⟨rfl, rfl⟩
      refine ⟨fun _ h => (by cases h), ?_⟩
      refine Dw.nil (by kernel_rfl) ?_
      refine hk9 _ _ ?_
      refine Run.cond_t rfl ?_
      refine Run.seq fun k20 hk20 => ?_
      refine Run.region ?_
      show Sq _ _ _ [0, 1] _ _ _ _
      refine Sq.quiet (i := 0) rfl (Want.none rfl) rfl (ltN rfl) (QP.assign rfl rfl).read ?_
      refine Sq.quiet (i := 1) rfl (Want.none rfl) rfl (ltN rfl) (QP.assign rfl rfl).read ?_
      refine Sq.nil ?_
      refine hk20 _ _ ?_
      refine Run.ret ?_
      exact J.ends (res_tmp2 rfl rfl rfl) (.cons (by repeat constructor) (.cons (by repeat constructor) Takes.nil)) ⟨_, _, _, rfl, by unfold tellOld; rw [if_neg (by omega), if_pos (by simp_all)], rfl⟩
     ·skip
      refine Dw.pure (i := 20) rfl (by kernel_rfl) (Want.none rfl) rfl (ltN rfl) (QP.pick_t rfl rfl rfl) ?_
      refine Dw.eff (i := 21) (by kernel_rfl) (by kernel_rfl) ?_
      refine One.mk (o := _) (l := []) rfl (by kernel_rfl) (Want.none rfl) rfl (ltN rfl) ((QP.assign rfl rfl).eff) (by kernel_rfl) ?_
      rintro _ _ ⟨rfl, rfl⟩
      refine ⟨fun _ h => (by cases h), ?_⟩
      refine Dw.nil (by kernel_rfl) ?_
      refine hk9 _ _ ?_
      refine Run.cond_f rfl ?_
      refine Run.seq fun k21 hk21 => ?_
      refine Run.regionD (M := [0, 1, 3, 7, 15, 31, 63, 127, 7, 263, 775, 1799, 4095, 8191, 16383]) (q := 16383) (r := 2240) (by kernel_rfl) ?_
      refine Dw.pure (i := 0) rfl (by kernel_rfl) (Want.none rfl) rfl (ltN rfl) (QP.move rfl rfl) ?_
      refine Dw.pure (i := 1) rfl (by kernel_rfl) (Want.none rfl) rfl (ltN rfl) (QP.ptr_eq_nil rfl rfl rfl Try.underlying77) ?_
      refine Dw.pure (i := 2) rfl (by kernel_rfl) (Want.none rfl) rfl (ltN rfl) (QP.move rfl rfl) ?_
      refine Dw.skip (i := 3) rfl (by kernel_rfl) (Want.no rfl rfl rfl rfl) rfl (ltN rfl) ?_
      refine Dw.skip (i := 4) rfl (by kernel_rfl) (Want.no rfl rfl rfl rfl) rfl (ltN rfl) ?_
      refine Dw.skip (i := 5) rfl (by kernel_rfl) (Want.no rfl rfl rfl rfl) rfl (ltN rfl) ?_
      refine Dw.skip (i := 6) rfl (by kernel_rfl) (Want.no rfl rfl rfl rfl) rfl (ltN rfl) ?_
      refine Dw.skip (i := 7) rfl (by kernel_rfl) (Want.no rfl rfl rfl rfl) rfl (ltN rfl) ?_
      refine Dw.skip (i := 8) rfl (by kernel_rfl) (Want.no rfl rfl rfl rfl) rfl (ltN rfl) ?_
      refine Dw.skip (i := 9) rfl (by kernel_rfl) (Want.no rfl rfl rfl rfl) rfl (ltN rfl) ?_
      refine Dw.skip (i := 10) rfl (by kernel_rfl) (Want.no rfl rfl rfl rfl) rfl (ltN rfl) ?_
      refine Dw.skip (i := 11) rfl (by kernel_rfl) (Want.no rfl rfl rfl rfl) rfl (ltN rfl) ?_
      refine Dw.skip (i := 12) rfl (by kernel_rfl) (Want.no rfl rfl rfl rfl) rfl (ltN rfl) ?_
      refine Dw.pure (i := 13) rfl (by kernel_rfl) (Want.none rfl) rfl (ltN rfl) (QP.pick_f rfl rfl rfl) ?_
      refine Dw.eff (i := 14) (by kernel_rfl) (by kernel_rfl) ?_
      refine One.mk (o := _) (l := []) rfl (by kernel_rfl) (Want.none rfl) rfl (ltN rfl) ((QP.assign rfl rfl).eff) (by kernel_rfl) ?_
      rintro _ _ ⟨rfl, rfl⟩
      refine ⟨fun _ h => (by cases h), ?_⟩
      refine Dw.nil (by kernel_rfl) ?_
      refine hk21 _ _ ?_
      refine Run.cond_f rfl ?_
      refine Run.seq fun k22 hk22 => ?_
      refine Run.region ?_
      show Sq _ _ _ [0, 1, 2] _ _ _ _
      refine Sq.quiet (i := 0) rfl (Want.none rfl) rfl (ltN rfl) (QP.move rfl rfl).read ?_
      refine Sq.quiet (i := 1) rfl (Want.none rfl) rfl (ltN rfl) (QP.ptr_eq_nil rfl rfl rfl Try.underlying77).read ?_
      refine Sq.quiet (i := 2) rfl (Want.none rfl) rfl (ltN rfl) (QP.assign rfl rfl).read ?_
      refine Sq.nil ?_
      refine hk22 _ _ ?_
      refine Run.cond_f rfl ?_
      refine Run.skip ?_
      refine hk8 _ _ ?_
      refine Run.seq fun k23 hk23 => ?_
      refine Run.region ?_
      show Sq _ _ _ [0, 1, 2, 3, 4, 5] _ _ _ _
      refine Sq.quiet (i := 0) rfl (Want.none rfl) rfl (ltN rfl) (QP.move rfl rfl).read ?_
      refine Sq.quiet (i := 1) rfl (Want.none rfl) rfl (ltN rfl) (QP.fieldAddr rfl rfl f37_5).read ?_
      refine Sq.quiet (i := 2) rfl (Want.none rfl) rfl (ltN rfl) (QR.load1 rfl rfl g35 (Route.sub_ref _)) ?_
      refine Sq.quiet (i := 3) rfl (Want.none rfl) rfl (ltN rfl) (QP.nilCheck rfl rfl).read ?_
      refine Sq.quiet (i := 4) rfl (Want.none rfl) rfl (ltN rfl) (QP.fieldAddr rfl rfl f37_5).read ?_
      refine Sq.act (i := 5) rfl (Want.none rfl) rfl (EF.store rfl rfl rfl z35 (Route.set_ref _ _) (cell_one rfl)) ?_
      rintro _ _ rfl
      generalize hs1 : ({ s with ref := x.ref } : Route) = s1
      refine Sq.nil ?_
      refine hk23 _ _ ?_
      refine Run.seq fun k24 hk24 => ?_
      refine Run.seq fun k25 hk25 => ?_
      refine Run.region ?_
      show Sq _ _ _ [0, 1, 2] _ _ _ _
      refine Sq.quiet (i := 0) rfl (Want.none rfl) rfl (ltN rfl) (QP.fieldAddr rfl rfl f37_5).read ?_
      refine Sq.quiet (i := 1) rfl (Want.none rfl) rfl (ltN rfl) (QR.load1 rfl rfl g35 (Route.sub_ref _)) ?_
      refine Sq.quiet (i := 2) rfl (Want.none rfl) rfl (ltN rfl) (QP.neq rfl rfl rfl).read ?_
      refine J.caseD (fun c111 => ?_) (fun c111 => ?_)
      ·skip
       refine Sq.nil ?_
       refine hk25 _ _ ?_
       refine Run.cond_t rfl ?_
       refine Run.region ?_
       show Sq _ _ _ [0, 1, 2, 3, 4, 5, 6, 7, 8, 9, 10, 11, 12, 13, 14, 15, 16, 17, 18, 19, 20, 21, 22, 23] _ _ _ _
       refine Sq.quiet (i := 0) rfl (Want.none rfl) rfl (ltN rfl) (QP.move rfl rfl).read ?_
       refine Sq.quiet (i := 1) rfl (Want.none rfl) rfl (ltN rfl) (QP.move rfl rfl).read ?_
       refine Sq.quiet (i := 2) rfl (Want.none rfl) rfl (ltN rfl) (QP.move rfl rfl).read ?_
       refine Sq.quiet (i := 3) rfl (Want.none rfl) rfl (ltN rfl) (QP.move rfl rfl).read ?_
       refine Sq.quiet (i := 4) rfl (Want.none rfl) rfl (ltN rfl) (QP.fieldAddr rfl rfl f37_3).read ?_
       refine Sq.quiet (i := 5) rfl (Want.none rfl) rfl (ltN rfl) (QR.load rfl rfl g34 (Route.sub_id_ _)) ?_
       refine Sq.quiet (i := 6) rfl (Want.none rfl) rfl (ltN rfl) (QP.fieldAddr rfl rfl f37_4).read ?_
       refine Sq.quiet (i := 7) rfl (Want.none rfl) rfl (ltN rfl) (QR.load1 rfl rfl g35 (Route.sub_seqno _)) ?_
       refine Sq.quiet (i := 8) rfl (Want.none rfl) rfl (ltN rfl) (QP.fieldAddr rfl rfl f37_7).read ?_
       refine Sq.quiet (i := 9) rfl (Want.none rfl) rfl (ltN rfl) (QR.load rfl rfl g28 (Route.sub_hop _)) ?_
       refine Sq.quiet (i := 10) rfl (Want.none rfl) rfl (ltN rfl) (QP.fieldAddr rfl rfl f37_9).read ?_
       refine Sq.quiet (i := 11) rfl (Want.none rfl) rfl (ltN rfl) (QR.load1 rfl rfl g3 (Route.sub_hold _)) ?_
       refine Sq.quiet (i := 12) rfl (Want.none rfl) rfl (ltN rfl) (QP.nilCheck rfl rfl).read ?_
       refine Sq.quiet (i := 13) rfl (Want.none rfl) rfl (ltN rfl) (QP.fieldAddr rfl rfl f37_3).read ?_
       refine Sq.act (i := 14) rfl (Want.none rfl) rfl (EF.storeA rfl rfl rfl z34 (Route.set_id_ _ _) (Bs.cell _)) ?_
       rintro _ _ rfl
       generalize hs2 : ({ s1 with id_ := x.id_ } : Route) = s2
       refine Sq.quiet (i := 15) rfl (Want.none rfl) rfl (ltN rfl) (QP.nilCheck rfl rfl).read ?_
       refine Sq.quiet (i := 16) rfl (Want.none rfl) rfl (ltN rfl) (QP.fieldAddr rfl rfl f37_4).read ?_
       refine Sq.act (i := 17) rfl (Want.none rfl) rfl (EF.store rfl rfl rfl z35 (Route.set_seqno _ _) (cell_one rfl)) ?_
       rintro _ _ rfl
       generalize hs3 : ({ s2 with seqno := x.seqno } : Route) = s3
       refine Sq.quiet (i := 18) rfl (Want.none rfl) rfl (ltN rfl) (QP.nilCheck rfl rfl).read ?_
       refine Sq.quiet (i := 19) rfl (Want.none rfl) rfl (ltN rfl) (QP.fieldAddr rfl rfl f37_7).read ?_
       refine Sq.act (i := 20) rfl (Want.none rfl) rfl (EF.storeA rfl rfl rfl z28 (Route.set_hop _ _) (Bs.cell _)) ?_
       rintro _ _ rfl
       generalize hs4 : ({ s3 with hop := x.hop } : Route) = s4
       refine Sq.quiet (i := 21) rfl (Want.none rfl) rfl (ltN rfl) (QP.nilCheck rfl rfl).read ?_
       refine Sq.quiet (i := 22) rfl (Want.none rfl) rfl (ltN rfl) (QP.fieldAddr rfl rfl f37_9).read ?_
       refine Sq.act (i := 23) rfl (Want.none rfl) rfl (EF.store rfl rfl rfl z3 (Route.set_hold _ _) (cell_one rfl)) ?_
       rintro _ _ rfl
       generalize hs5 : ({ s4 with hold := x.hold } : Route) = s5
       refine Sq.nil ?_
       refine hk24 _ _ ?_
       refine Run.seq fun k26 hk26 => ?_
       refine Run.region ?_
       show Sq _ _ _ [0, 1, 2, 3, 4, 5, 6, 7, 8, 9] _ _ _ _
       have hh : 1 ≤ s5.hold ∧ s5.hold ≤ 2147483648 := by rw [← hs5]; simp only; omega
       refine Sq.quiet (i := 0) rfl (Want.none rfl) rfl (ltN rfl) (QP.move rfl rfl).read ?_
       refine Sq.quiet (i := 1) rfl (Want.none rfl) rfl (ltN rfl) (QP.move rfl rfl).read ?_
       refine Sq.quiet (i := 2) rfl (Want.none rfl) rfl (ltN rfl) (QP.move rfl rfl).read ?_
       refine Sq.quiet (i := 3) rfl (Want.none rfl) rfl (ltN rfl) (QP.nilCheck rfl rfl).read ?_
       refine Sq.quiet (i := 4) rfl (Want.none rfl) rfl (ltN rfl) (QP.fieldAddr rfl rfl f37_9).read ?_
       refine Sq.quiet (i := 5) rfl (Want.none rfl) rfl (ltN rfl) (QR.load1 rfl rfl g3 (Route.sub_hold _)) ?_
       refine Sq.quiet (i := 6) rfl (Want.none rfl) rfl (ltN rfl) (QP.add64 rfl rfl rfl (by first | omega | (simp <;> omega)) (by first | omega | (simp <;> omega))).read ?_
       refine Sq.quiet (i := 7) rfl (Want.none rfl) rfl (ltN rfl) (QP.nilCheck rfl rfl).read ?_
       refine Sq.quiet (i := 8) rfl (Want.none rfl) rfl (ltN rfl) (QP.fieldAddr rfl rfl f37_8).read ?_
       refine Sq.act (i := 9) rfl (Want.none rfl) rfl (EF.store rfl rfl rfl z3 (Route.set_until_ _ _) (cell_one rfl)) ?_
       rintro _ _ rfl
       generalize hs6 : ({ s5 with until_ := now + s5.hold } : Route) = s6
       refine Sq.nil ?_
       refine hk26 _ _ ?_
       refine Run.seq fun k27 hk27 => ?_
       refine Run.region ?_
       show Sq _ _ _ [0, 1] _ _ _ _
       refine Sq.quiet (i := 0) rfl (Want.none rfl) rfl (ltN rfl) (QP.assign rfl rfl).read ?_
       refine Sq.quiet (i := 1) rfl (Want.none rfl) rfl (ltN rfl) (QP.assign rfl rfl).read ?_
       refine Sq.nil ?_
       refine hk27 _ _ ?_
       refine Run.ret ?_
       exact J.ends (res_tmp2 rfl rfl rfl) (.cons (by repeat constructor) (.cons (by repeat constructor) Takes.nil)) ⟨_, _, _, rfl, by unfold tellOld; rw [if_neg (by omega), if_neg (by simp_all), if_neg (by simpa using c111)]; subst hs6 hs5 hs4 hs3 hs2 hs1; rfl, rfl⟩
      ·skip
       refine Sq.nil ?_
       refine hk25 _ _ ?_
       refine Run.cond_f rfl ?_
       refine Run.skip ?_
       refine hk24 _ _ ?_
       refine Run.seq fun k28 hk28 => ?_
       refine Run.region ?_
       show Sq _ _ _ [0, 1, 2, 3, 4, 5, 6, 7, 8, 9] _ _ _ _
       have hh : 1 ≤ s1.hold ∧ s1.hold ≤ 2147483648 := by rw [← hs1]; exact hs
       refine Sq.quiet (i := 0) rfl (Want.none rfl) rfl (ltN rfl) (QP.move rfl rfl).read ?_
       refine Sq.quiet (i := 1) rfl (Want.none rfl) rfl (ltN rfl) (QP.move rfl rfl).read ?_
       refine Sq.quiet (i := 2) rfl (Want.none rfl) rfl (ltN rfl) (QP.move rfl rfl).read ?_
       refine Sq.quiet (i := 3) rfl (Want.none rfl) rfl (ltN rfl) (QP.nilCheck rfl rfl).read ?_
       refine Sq.quiet (i := 4) rfl (Want.none rfl) rfl (ltN rfl) (QP.fieldAddr rfl rfl f37_9).read ?_
       refine Sq.quiet (i := 5) rfl (Want.none rfl) rfl (ltN rfl) (QR.load1 rfl rfl g3 (Route.sub_hold _)) ?_
       refine Sq.quiet (i := 6) rfl (Want.none rfl) rfl (ltN rfl) (QP.add64 rfl rfl rfl (by first | omega | (simp <;> omega)) (by first | omega | (simp <;> omega))).read ?_
       refine Sq.quiet (i := 7) rfl (Want.none rfl) rfl (ltN rfl) (QP.nilCheck rfl rfl).read ?_
       refine Sq.quiet (i := 8) rfl (Want.none rfl) rfl (ltN rfl) (QP.fieldAddr rfl rfl f37_8).read ?_
       refine Sq.act (i := 9) rfl (Want.none rfl) rfl (EF.store rfl rfl rfl z3 (Route.set_until_ _ _) (cell_one rfl)) ?_
       rintro _ _ rfl
       generalize hs6 : ({ s1 with until_ := now + s1.hold } : Route) = s6
       refine Sq.nil ?_
       refine hk28 _ _ ?_
       refine Run.seq fun k29 hk29 => ?_
       refine Run.region ?_
       show Sq _ _ _ [0, 1] _ _ _ _
       refine Sq.quiet (i := 0) rfl (Want.none rfl) rfl (ltN rfl) (QP.assign rfl rfl).read ?_
       refine Sq.quiet (i := 1) rfl (Want.none rfl) rfl (ltN rfl) (QP.assign rfl rfl).read ?_
       refine Sq.nil ?_
       refine hk29 _ _ ?_
       refine Run.ret ?_
       exact J.ends (res_tmp2 rfl rfl rfl) (.cons (by repeat constructor) (.cons (by repeat constructor) Takes.nil)) ⟨_, _, _, rfl, by unfold tellOld; rw [if_neg (by omega), if_neg (by simp_all), if_pos (by simpa using c111)]; subst hs6 hs1; rfl, rfl⟩
   ·skip
    refine Dw.pure (i := 7) rfl (by kernel_rfl) (Want.none rfl) rfl (ltN rfl) (QP.pick_t rfl rfl rfl) ?_
    refine Dw.pure (i := 8) rfl (by kernel_rfl) (Want.none rfl) rfl (ltN rfl) (QP.move rfl rfl) ?_
    refine Dw.skip (i := 9) rfl (by kernel_rfl) (Want.no rfl rfl rfl rfl) rfl (ltN rfl) ?_
    refine Dw.skip (i := 10) rfl (by kernel_rfl) (Want.no rfl rfl rfl rfl) rfl (ltN rfl) ?_
    refine Dw.pure (i := 11) rfl (by kernel_rfl) (Want.none rfl) rfl (ltN rfl) (QP.pick_f rfl rfl rfl) ?_
    refine Dw.pure (i := 12) rfl (by kernel_rfl) (Want.none rfl) rfl (ltN rfl) (QP.move rfl rfl) ?_
    refine Dw.skip (i := 13) rfl (by kernel_rfl) (Want.no rfl rfl rfl rfl) rfl (ltN rfl) ?_
    refine Dw.skip (i := 14) rfl (by kernel_rfl) (Want.no rfl rfl rfl rfl) rfl (ltN rfl) ?_
    refine Dw.skip (i := 15) rfl (by kernel_rfl) (Want.no rfl rfl rfl rfl) rfl (ltN rfl) ?_
    refine Dw.skip (i := 16) rfl (by kernel_rfl) (Want.no rfl rfl rfl rfl) rfl (ltN rfl) ?_
    refine Dw.skip (i := 17) rfl (by kernel_rfl) (Want.no rfl rfl rfl rfl) rfl (ltN rfl) ?_
    refine Dw.skip (i := 18) rfl (by kernel_rfl) (Want.no rfl rfl rfl rfl) rfl (ltN rfl) ?_
    refine Dw.skip (i := 19) rfl (by kernel_rfl) (Want.no rfl rfl rfl rfl) rfl (ltN rfl) ?_
    refine Dw.pure (i := 20) rfl (by kernel_rfl) (Want.none rfl) rfl (ltN rfl) (QP.pick_f rfl rfl rfl) ?_
    refine Dw.eff (i := 21) (by kernel_rfl) (by kernel_rfl) ?_
    refine One.mk (o := _) (l := []) rfl (by kernel_rfl) (Want.none rfl) rfl (ltN rfl) ((QP.assign rfl rfl).eff) (by kernel_rfl) ?_
    rintro _ _ ⟨rfl, rfl⟩
    refine ⟨fun _ h => (by cases h), ?_⟩
    refine Dw.nil (by kernel_rfl) ?_
    refine hk9 _ _ ?_
    refine Run.cond_f rfl ?_
    refine Run.seq fun k30 hk30 => ?_
    refine Run.regionD (M := [0, 1, 3, 7, 15, 31, 63, 127, 7, 263, 775, 1799, 4095, 8191, 16383]) (q := 16383) (r := 2240) (by kernel_rfl) ?_
    refine Dw.pure (i := 0) rfl (by kernel_rfl) (Want.none rfl) rfl (ltN rfl) (QP.move rfl rfl) ?_
    refine Dw.pure (i := 1) rfl (by kernel_rfl) (Want.none rfl) rfl (ltN rfl) (QP.ptr_eq_nil rfl rfl rfl Try.underlying77) ?_
    refine Dw.pure (i := 2) rfl (by kernel_rfl) (Want.none rfl) rfl (ltN rfl) (QP.move rfl rfl) ?_
    refine Dw.skip (i := 3) rfl (by kernel_rfl) (Want.no rfl rfl rfl rfl) rfl (ltN rfl) ?_
    refine Dw.skip (i := 4) rfl (by kernel_rfl) (Want.no rfl rfl rfl rfl) rfl (ltN rfl) ?_
    refine Dw.skip (i := 5) rfl (by kernel_rfl) (Want.no rfl rfl rfl rfl) rfl (ltN rfl) ?_
    refine Dw.skip (i := 6) rfl (by kernel_rfl) (Want.no rfl rfl rfl rfl) rfl (ltN rfl) ?_
    refine Dw.skip (i := 7) rfl (by kernel_rfl) (Want.no rfl rfl rfl rfl) rfl (ltN rfl) ?_
    refine Dw.skip (i := 8) rfl (by kernel_rfl) (Want.no rfl rfl rfl rfl) rfl (ltN rfl) ?_
    refine Dw.skip (i := 9) rfl (by kernel_rfl) (Want.no rfl rfl rfl rfl) rfl (ltN rfl) ?_
    refine Dw.skip (i := 10) rfl (by kernel_rfl) (Want.no rfl rfl rfl rfl) rfl (ltN rfl) ?_
    refine Dw.skip (i := 11) rfl (by kernel_rfl) (Want.no rfl rfl rfl rfl) rfl (ltN rfl) ?_
    refine Dw.skip (i := 12) rfl (by kernel_rfl) (Want.no rfl rfl rfl rfl) rfl (ltN rfl) ?_
    refine Dw.pure (i := 13) rfl (by kernel_rfl) (Want.none rfl) rfl (ltN rfl) (QP.pick_f rfl rfl rfl) ?_
    refine Dw.eff (i := 14) (by kernel_rfl) (by kernel_rfl) ?_
    refine One.mk (o := _) (l := []) rfl (by kernel_rfl) (Want.none rfl) rfl (ltN rfl) ((QP.assign rfl rfl).eff) (by kernel_rfl) ?_
    rintro _ _ ⟨rfl, rfl⟩
    refine ⟨fun _ h => (by cases h), ?_⟩
    refine Dw.nil (by kernel_rfl) ?_
    refine hk30 _ _ ?_
    refine Run.cond_f rfl ?_
    refine Run.seq fun k31 hk31 => ?_
    refine Run.region ?_
    show Sq _ _ _ [0, 1, 2] _ _ _ _
    refine Sq.quiet (i := 0) rfl (Want.none rfl) rfl (ltN rfl) (QP.move rfl rfl).read ?_
    refine Sq.quiet (i := 1) rfl (Want.none rfl) rfl (ltN rfl) (QP.ptr_eq_nil rfl rfl rfl Try.underlying77).read ?_
    refine Sq.quiet (i := 2) rfl (Want.none rfl) rfl (ltN rfl) (QP.assign rfl rfl).read ?_
    refine Sq.nil ?_
    refine hk31 _ _ ?_
    refine Run.cond_f rfl ?_
    refine Run.skip ?_
    refine hk8 _ _ ?_
    refine Run.seq fun k32 hk32 => ?_
    refine Run.region ?_
    show Sq _ _ _ [0, 1, 2, 3, 4, 5] _ _ _ _
    refine Sq.quiet (i := 0) rfl (Want.none rfl) rfl (ltN rfl) (QP.move rfl rfl).read ?_
    refine Sq.quiet (i := 1) rfl (Want.none rfl) rfl (ltN rfl) (QP.fieldAddr rfl rfl f37_5).read ?_
    refine Sq.quiet (i := 2) rfl (Want.none rfl) rfl (ltN rfl) (QR.load1 rfl rfl g35 (Route.sub_ref _)) ?_
    refine Sq.quiet (i := 3) rfl (Want.none rfl) rfl (ltN rfl) (QP.nilCheck rfl rfl).read ?_
    refine Sq.quiet (i := 4) rfl (Want.none rfl) rfl (ltN rfl) (QP.fieldAddr rfl rfl f37_5).read ?_
    refine Sq.act (i := 5) rfl (Want.none rfl) rfl (EF.store rfl rfl rfl z35 (Route.set_ref _ _) (cell_one rfl)) ?_
    rintro _ _ rfl
    generalize hs1 : ({ s with ref := x.ref } : Route) = s1
    refine Sq.nil ?_
    refine hk32 _ _ ?_
    refine Run.seq fun k33 hk33 => ?_
    refine Run.seq fun k34 hk34 => ?_
    refine Run.region ?_
    show Sq _ _ _ [0, 1, 2] _ _ _ _
    refine Sq.quiet (i := 0) rfl (Want.none rfl) rfl (ltN rfl) (QP.fieldAddr rfl rfl f37_5).read ?_
    refine Sq.quiet (i := 1) rfl (Want.none rfl) rfl (ltN rfl) (QR.load1 rfl rfl g35 (Route.sub_ref _)) ?_
    refine Sq.quiet (i := 2) rfl (Want.none rfl) rfl (ltN rfl) (QP.neq rfl rfl rfl).read ?_
    refine J.caseD (fun c111 => ?_) (fun c111 => ?_)
    ·skip
     refine Sq.nil ?_
     refine hk34 _ _ ?_
     refine Run.cond_t rfl ?_
     refine Run.region ?_
     show Sq _ _ _ [0, 1, 2, 3, 4, 5, 6, 7, 8, 9, 10, 11, 12, 13, 14, 15, 16, 17, 18, 19, 20, 21, 22, 23] _ _ _ _
     refine Sq.quiet (i := 0) rfl (Want.none rfl) rfl (ltN rfl) (QP.move rfl rfl).read ?_
     refine Sq.quiet (i := 1) rfl (Want.none rfl) rfl (ltN rfl) (QP.move rfl rfl).read ?_
     refine Sq.quiet (i := 2) rfl (Want.none rfl) rfl (ltN rfl) (QP.move rfl rfl).read ?_
     refine Sq.quiet (i := 3) rfl (Want.none rfl) rfl (ltN rfl) (QP.move rfl rfl).read ?_
     refine Sq.quiet (i := 4) rfl (Want.none rfl) rfl (ltN rfl) (QP.fieldAddr rfl rfl f37_3).read ?_
     refine Sq.quiet (i := 5) rfl (Want.none rfl) rfl (ltN rfl) (QR.load rfl rfl g34 (Route.sub_id_ _)) ?_
     refine Sq.quiet (i := 6) rfl (Want.none rfl) rfl (ltN rfl) (QP.fieldAddr rfl rfl f37_4).read ?_
     refine Sq.quiet (i := 7) rfl (Want.none rfl) rfl (ltN rfl) (QR.load1 rfl rfl g35 (Route.sub_seqno _)) ?_
     refine Sq.quiet (i := 8) rfl (Want.none rfl) rfl (ltN rfl) (QP.fieldAddr rfl rfl f37_7).read ?_
     refine Sq.quiet (i := 9) rfl (Want.none rfl) rfl (ltN rfl) (QR.load rfl rfl g28 (Route.sub_hop _)) ?_
     refine Sq.quiet (i := 10) rfl (Want.none rfl) rfl (ltN rfl) (QP.fieldAddr rfl rfl f37_9).read ?_
     refine Sq.quiet (i := 11) rfl (Want.none rfl) rfl (ltN rfl) (QR.load1 rfl rfl g3 (Route.sub_hold _)) ?_
     refine Sq.quiet (i := 12) rfl (Want.none rfl) rfl (ltN rfl) (QP.nilCheck rfl rfl).read ?_
     refine Sq.quiet (i := 13) rfl (Want.none rfl) rfl (ltN rfl) (QP.fieldAddr rfl rfl f37_3).read ?_
     refine Sq.act (i := 14) rfl (Want.none rfl) rfl (EF.storeA rfl rfl rfl z34 (Route.set_id_ _ _) (Bs.cell _)) ?_
     rintro _ _ rfl
     generalize hs2 : ({ s1 with id_ := x.id_ } : Route) = s2
     refine Sq.quiet (i := 15) rfl (Want.none rfl) rfl (ltN rfl) (QP.nilCheck rfl rfl).read ?_
     refine Sq.quiet (i := 16) rfl (Want.none rfl) rfl (ltN rfl) (QP.fieldAddr rfl rfl f37_4).read ?_
     refine Sq.act (i := 17) rfl (Want.none rfl) rfl (EF.store rfl rfl rfl z35 (Route.set_seqno _ _) (cell_one rfl)) ?_
     rintro _ _ rfl
     generalize hs3 : ({ s2 with seqno := x.seqno } : Route) = s3
     refine Sq.quiet (i := 18) rfl (Want.none rfl) rfl (ltN rfl) (QP.nilCheck rfl rfl).read ?_
     refine Sq.quiet (i := 19) rfl (Want.none rfl) rfl (ltN rfl) (QP.fieldAddr rfl rfl f37_7).read ?_
     refine Sq.act (i := 20) rfl (Want.none rfl) rfl (EF.storeA rfl rfl rfl z28 (Route.set_hop _ _) (Bs.cell _)) ?_
     rintro _ _ rfl
     generalize hs4 : ({ s3 with hop := x.hop } : Route) = s4
     refine Sq.quiet (i := 21) rfl (Want.none rfl) rfl (ltN rfl) (QP.nilCheck rfl rfl).read ?_
     refine Sq.quiet (i := 22) rfl (Want.none rfl) rfl (ltN rfl) (QP.fieldAddr rfl rfl f37_9).read ?_
     refine Sq.act (i := 23) rfl (Want.none rfl) rfl (EF.store rfl rfl rfl z3 (Route.set_hold _ _) (cell_one rfl)) ?_
     rintro _ _ rfl
     generalize hs5 : ({ s4 with hold := x.hold } : Route) = s5
     refine Sq.nil ?_
     refine hk33 _ _ ?_
     refine Run.seq fun k35 hk35 => ?_
     refine Run.region ?_
     show Sq _ _ _ [0, 1, 2, 3, 4, 5, 6, 7, 8, 9] _ _ _ _
     have hh : 1 ≤ s5.hold ∧ s5.hold ≤ 2147483648 := by rw [← hs5]; simp only; omega
     refine Sq.quiet (i := 0) rfl (Want.none rfl) rfl (ltN rfl) (QP.move rfl rfl).read ?_
     refine Sq.quiet (i := 1) rfl (Want.none rfl) rfl (ltN rfl) (QP.move rfl rfl).read ?_
     refine Sq.quiet (i := 2) rfl (Want.none rfl) rfl (ltN rfl) (QP.move rfl rfl).read ?_
     refine Sq.quiet (i := 3) rfl (Want.none rfl) rfl (ltN rfl) (QP.nilCheck rfl rfl).read ?_
     refine Sq.quiet (i := 4) rfl (Want.none rfl) rfl (ltN rfl) (QP.fieldAddr rfl rfl f37_9).read ?_
     refine Sq.quiet (i := 5) rfl (Want.none rfl) rfl (ltN rfl) (QR.load1 rfl rfl g3 (Route.sub_hold _)) ?_
     refine Sq.quiet (i := 6) rfl (Want.none rfl) rfl (ltN rfl) (QP.add64 rfl rfl rfl (by first | omega | (simp <;> omega)) (by first | omega | (simp <;> omega))).read ?_
     refine Sq.quiet (i := 7) rfl (Want.none rfl) rfl (ltN rfl) (QP.nilCheck rfl rfl).read ?_
     refine Sq.quiet (i := 8) rfl (Want.none rfl) rfl (ltN rfl) (QP.fieldAddr rfl rfl f37_8).read ?_
     refine Sq.act (i := 9) rfl (Want.none rfl) rfl (EF.store rfl rfl rfl z3 (Route.set_until_ _ _) (cell_one rfl)) ?_
     rintro _ _ rfl
     generalize hs6 : ({ s5 with until_ := now + s5.hold } : Route) = s6
     refine Sq.nil ?_
     refine hk35 _ _ ?_
     refine Run.seq fun k36 hk36 => ?_
     refine Run.region ?_
     show Sq _ _ _ [0, 1] _ _ _ _
     refine Sq.quiet (i := 0) rfl (Want.none rfl) rfl (ltN rfl) (QP.assign rfl rfl).read ?_
     refine Sq.quiet (i := 1) rfl (Want.none rfl) rfl (ltN rfl) (QP.assign rfl rfl).read ?_
     refine Sq.nil ?_
     refine hk36 _ _ ?_
     refine Run.ret ?_
     exact J.ends (res_tmp2 rfl rfl rfl) (.cons (by repeat constructor) (.cons (by repeat constructor) Takes.nil)) ⟨_, _, _, rfl, by unfold tellOld; rw [if_neg (by omega), if_neg (by simp_all), if_neg (by simpa using c111)]; subst hs6 hs5 hs4 hs3 hs2 hs1; rfl, rfl⟩
    ·skip
     refine Sq.nil ?_
     refine hk34 _ _ ?_
     refine Run.cond_f rfl ?_
     refine Run.skip ?_
     refine hk33 _ _ ?_
     refine Run.seq fun k37 hk37 => ?_
     refine Run.region ?_
     show Sq _ _ _ [0, 1, 2, 3, 4, 5, 6, 7, 8, 9] _ _ _ _
     have hh : 1 ≤ s1.hold ∧ s1.hold ≤ 2147483648 := by rw [← hs1]; exact hs
     refine Sq.quiet (i := 0) rfl (Want.none rfl) rfl (ltN rfl) (QP.move rfl rfl).read ?_
     refine Sq.quiet (i := 1) rfl (Want.none rfl) rfl (ltN rfl) (QP.move rfl rfl).read ?_
     refine Sq.quiet (i := 2) rfl (Want.none rfl) rfl (ltN rfl) (QP.move rfl rfl).read ?_
     refine Sq.quiet (i := 3) rfl (Want.none rfl) rfl (ltN rfl) (QP.nilCheck rfl rfl).read ?_
     refine Sq.quiet (i := 4) rfl (Want.none rfl) rfl (ltN rfl) (QP.fieldAddr rfl rfl f37_9).read ?_
     refine Sq.quiet (i := 5) rfl (Want.none rfl) rfl (ltN rfl) (QR.load1 rfl rfl g3 (Route.sub_hold _)) ?_
     refine Sq.quiet (i := 6) rfl (Want.none rfl) rfl (ltN rfl) (QP.add64 rfl rfl rfl (by first | omega | (simp <;> omega)) (by first | omega | (simp <;> omega))).read ?_
     refine Sq.quiet (i := 7) rfl (Want.none rfl) rfl (ltN rfl) (QP.nilCheck rfl rfl).read ?_
     refine Sq.quiet (i := 8) rfl (Want.none rfl) rfl (ltN rfl) (QP.fieldAddr rfl rfl f37_8).read ?_
     refine Sq.act (i := 9) rfl (Want.none rfl) rfl (EF.store rfl rfl rfl z3 (Route.set_until_ _ _) (cell_one rfl)) ?_
     rintro _ _ rfl
     generalize hs6 : ({ s1 with until_ := now + s1.hold } : Route) = s6
     refine Sq.nil ?_
     refine hk37 _ _ ?_
     refine Run.seq fun k38 hk38 => ?_
     refine Run.region ?_
     show Sq _ _ _ [0, 1] _ _ _ _
     refine Sq.quiet (i := 0) rfl (Want.none rfl) rfl (ltN rfl) (QP.assign rfl rfl).read ?_
     refine Sq.quiet (i := 1) rfl (Want.none rfl) rfl (ltN rfl) (QP.assign rfl rfl).read ?_
     refine Sq.nil ?_
     refine hk38 _ _ ?_
     refine Run.ret ?_
     exact J.ends (res_tmp2 rfl rfl rfl) (.cons (by repeat constructor) (.cons (by repeat constructor) Takes.nil)) ⟨_, _, _, rfl, by unfold tellOld; rw [if_neg (by omega), if_neg (by simp_all), if_pos (by simpa using c111)]; subst hs6 hs1; rfl, rfl⟩
end Slb
