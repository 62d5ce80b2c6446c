/- N9: a part of the proof that a law of this package holds for every input; no condition. -/
import Derived.Test.YtpjndmgdboabfaaN8
namespace Slb
open Go Go.Proofs
set_option maxRecDepth 20000
def ihuR (now : Int) (h : Tlv) (rt : Int) (hr : Bool) (s : Neighbour) : Neighbour := { s with tx := h.rxcost, txAt := now + 35 * h.interval, rtt := rt, hasRtt := hr }

theorem ihuQ_nil (F : Fr) (now i : Int) (fr : Bs 16) (h : Tlv) : Spec Try.prog 15 #[.pointer none, .int .i64 now, .int .i64 i, .agg (Bs.enc (fr : Bs 16)).toArray, .agg (Tlv.enc h).toArray] [] F (fun v S => v = .int .i64 7 ∧ S = []) := by
 refine Spec.intro (N := 125) (args := [.pointer none, .int .i64 now, .int .i64 i, .agg (Bs.enc (fr : Bs 16)).toArray, .agg (Tlv.enc h).toArray]) Try.func15 rfl rfl (by simp) ?_
 refine Run.seq fun k1 hk1 => ?_
 refine Run.region ?_
 show Sq _ _ _ [0, 1, 2] _ _ _ _
 refine Sq.eff (i := 0) rfl (Want.none rfl) rfl (ltN rfl) (EF.boxA rfl rfl) ?_
 rintro _ _ ⟨b8, rfl, rfl⟩
 refine Sq.eff (i := 1) rfl (Want.none rfl) rfl (ltN rfl) (EF.boxA rfl rfl) ?_
 rintro _ _ ⟨b9, rfl, rfl⟩
 refine Sq.quiet (i := 2) rfl (Want.none rfl) rfl (ltN rfl) (QP.assign rfl rfl).read ?_
 refine Sq.nil ?_
 refine hk1 _ _ ?_
 refine Run.seq fun k2 hk2 => ?_
 refine Run.block ?_
 refine Run.seq fun k3 hk3 => ?_
 refine Run.region ?_
 show Sq _ _ _ [0, 1, 2] _ _ _ _
 refine Sq.quiet (i := 0) rfl (Want.none rfl) rfl (ltN rfl) (QP.move rfl rfl).read ?_
 refine Sq.quiet (i := 1) rfl (Want.none rfl) rfl (ltN rfl) (QP.ptr_eq_nil rfl rfl rfl Try.underlying26).read ?_
 refine Sq.quiet (i := 2) rfl (Want.none rfl) rfl (ltN rfl) (QP.assign rfl rfl).read ?_
 refine Sq.nil ?_
 refine hk3 _ _ ?_
 refine Run.cond_t rfl ?_
 refine Run.seq fun k4 hk4 => ?_
 refine Run.region ?_
 show Sq _ _ _ [0] _ _ _ _
 refine Sq.quiet (i := 0) rfl (Want.none rfl) rfl (ltN rfl) (QP.assign rfl rfl).read ?_
 refine Sq.nil ?_
 refine hk4 _ _ ?_
 refine Run.ret ?_
 exact J.ends (res_tmp rfl rfl) Takes.nil ⟨rfl, rfl⟩

theorem ihuQ_none (F : Fr) {b r : Nat} {most : Int} {q : Slc} {E : EntN} (hf : InN F b r most q E)(now : Int) (j : I64) (fr : Bs 16) (h : Tlv) (h0 : alook E ⟨j, fr⟩ = none)  : Spec Try.prog 15 #[.pointer (some ⟨b, 0, none⟩), .int .i64 now, .int .i64 (j : I64).val, .agg (Bs.enc (fr : Bs 16)).toArray, .agg (Tlv.enc h).toArray] [mapN r (ptrs E)] F (fun v S => (badH q.n j.val h.type 5 = true ∧ v = .int .i64 2 ∧ S = [mapN r (ptrs E)]) ∨ (badH q.n j.val h.type 5 = false ∧ v = .int .i64 7 ∧ S = [mapN r (ptrs E)])) := by
 have hl : alook (ptrs E) ⟨j, fr⟩ = none := by rw [alook_ptrs, h0]; rfl
 refine Spec.intro (N := 125) (args := [.pointer (some ⟨b, 0, none⟩), .int .i64 now, .int .i64 (j : I64).val, .agg (Bs.enc (fr : Bs 16)).toArray, .agg (Tlv.enc h).toArray]) Try.func15 rfl rfl (by simp) ?_
 refine Run.seq fun k1 hk1 => ?_
 refine Run.region ?_
 show Sq _ _ _ [0, 1, 2] _ _ _ _
 refine Sq.eff (i := 0) rfl (Want.none rfl) rfl (ltN rfl) (EF.boxA rfl rfl) ?_
 rintro _ _ ⟨b8, rfl, rfl⟩
 refine Sq.eff (i := 1) rfl (Want.none rfl) rfl (ltN rfl) (EF.boxA rfl rfl) ?_
 rintro _ _ ⟨b9, rfl, rfl⟩
 refine Sq.quiet (i := 2) rfl (Want.none rfl) rfl (ltN rfl) (QP.assign rfl rfl).read ?_
 refine Sq.nil ?_
 refine hk1 _ _ ?_
 refine Run.seq fun k2 hk2 => ?_
 refine Run.block ?_
 refine Run.seq fun k3 hk3 => ?_
 refine Run.region ?_
 show Sq _ _ _ [0, 1, 2] _ _ _ _
 refine Sq.quiet (i := 0) rfl (Want.none rfl) rfl (ltN rfl) (QP.move rfl rfl).read ?_
 refine Sq.quiet (i := 1) rfl (Want.none rfl) rfl (ltN rfl) (QP.ptr_eq_nil rfl rfl rfl Try.underlying26).read ?_
 refine Sq.quiet (i := 2) rfl (Want.none rfl) rfl (ltN rfl) (QP.assign rfl rfl).read ?_
 refine Sq.nil ?_
 refine hk3 _ _ ?_
 refine Run.cond_f rfl ?_
 refine Run.seq fun k4 hk4 => ?_
 refine Run.region ?_
 show Sq _ _ _ [0, 1, 2, 3, 4, 5, 6, 7, 8, 9] _ _ _ _
 refine Sq.quiet (i := 0) rfl (Want.none rfl) rfl (ltN rfl) (QP.move rfl rfl).read ?_
 refine Sq.quiet (i := 1) rfl (Want.none rfl) rfl (ltN rfl) (QP.move rfl rfl).read ?_
 refine Sq.eff (i := 2) rfl (Want.none rfl) rfl (ltN rfl) (EF.call rfl ce25 rfl Takes.nil (fun F' hle hr => onQ F' (hf.mono hle) (j.val))) ?_
 rintro _ _ ⟨_, ⟨rfl, rfl⟩, rfl⟩
 refine J.app ?_
 refine J.caseB (fun c21 => ?_) (fun c21 => ?_)
 ·skip
  refine Sq.quiet (i := 3) rfl (Want.none rfl) rfl (ltN rfl) (QP.not rfl rfl).read ?_
  refine Sq.quiet (i := 4) rfl (Want.none rfl) rfl (ltN rfl) (QP.move rfl rfl).read ?_
  refine Sq.quiet (i := 5) rfl (Want.yes rfl rfl rfl rfl) rfl (ltN rfl) (QP.fieldAddr rfl rfl f39_0).read ?_
  refine Sq.quiet (i := 6) rfl (Want.yes rfl rfl rfl rfl) rfl (ltN rfl) (QR.load1 rfl rfl g5 (Tlv.sub_type _)) ?_
  refine Sq.quiet (i := 7) rfl (Want.yes rfl rfl rfl rfl) rfl (ltN rfl) (QP.neq rfl rfl rfl).read ?_
  refine J.caseD (fun c26 => ?_) (fun c26 => ?_)
  ·skip
   refine Sq.quiet (i := 8) rfl (Want.none rfl) rfl (ltN rfl) (QP.pick_f rfl rfl rfl).read ?_
   refine Sq.quiet (i := 9) rfl (Want.none rfl) rfl (ltN rfl) (QP.assign rfl rfl).read ?_
   refine Sq.nil ?_
   refine hk4 _ _ ?_
   refine Run.cond_t rfl ?_
   refine Run.seq fun k5 hk5 => ?_
   refine Run.region ?_
   show Sq _ _ _ [0] _ _ _ _
   refine Sq.quiet (i := 0) rfl (Want.none rfl) rfl (ltN rfl) (QP.assign rfl rfl).read ?_
   refine Sq.nil ?_
   refine hk5 _ _ ?_
   refine Run.ret ?_
   exact J.ends (res_tmp rfl rfl) (.cons (by repeat constructor) Takes.nil) (.inl ⟨by unfold badH; rw [c21]; simpa using c26, rfl, rfl⟩)
  ·skip
   refine Sq.quiet (i := 8) rfl (Want.none rfl) rfl (ltN rfl) (QP.pick_f rfl rfl rfl).read ?_
   refine Sq.quiet (i := 9) rfl (Want.none rfl) rfl (ltN rfl) (QP.assign rfl rfl).read ?_
   refine Sq.nil ?_
   refine hk4 _ _ ?_
   refine Run.cond_f rfl ?_
   refine Run.skip ?_
   refine hk2 _ _ ?_
   refine Run.seq fun k6 hk6 => ?_
   refine Run.regionD (M := [0, 1, 3, 7, 0, 0, 48, 127, 255]) (q := 255) (r := 168) (by kernel_rfl) ?_
   refine Dw.pure (i := 0) rfl (by kernel_rfl) (Want.none rfl) rfl (ltN rfl) (QP.move rfl rfl) ?_
   refine Dw.pure (i := 1) rfl (by kernel_rfl) (Want.none rfl) rfl (ltN rfl) (QP.nilCheck rfl rfl) ?_
   refine Dw.pure (i := 2) rfl (by kernel_rfl) (Want.none rfl) rfl (ltN rfl) (QP.fieldAddr rfl rfl f77_2) ?_
   refine Dw.read (i := 3) rfl (by kernel_rfl) (Want.none rfl) rfl (ltN rfl) (QR.load1F rfl rfl g75 hf.tb (NeighTable.sub_m _)) ?_
   refine Dw.pure (i := 4) rfl (by kernel_rfl) (Want.none rfl) rfl (ltN rfl) (QP.move rfl rfl) ?_
   refine Dw.read (i := 5) rfl (by kernel_rfl) (Want.none rfl) rfl (ltN rfl) (QR.load rfl rfl g29 (Bs.sub _)) ?_
   refine Dw.pure (i := 6) rfl (by kernel_rfl) (Want.none rfl) rfl (ltN rfl) (QP.build (l := NeighKey.enc ⟨j, (fr)⟩) rfl st81 rfl (by exact ⟨rfl, ⟨(congrArg some (Bs.len _).symm), trivial⟩⟩) rfl) ?_
   refine Dw.read (i := 7) rfl (by kernel_rfl) (Want.none rfl) rfl (ltN rfl) (QR.lookupNone key81 rfl rfl rfl Try.underlying75 zero79 hl) ?_
   refine Dw.eff (i := 8) (by kernel_rfl) (by kernel_rfl) ?_
   refine One.mk (o := _) (l := []) rfl (by kernel_rfl) (Want.none rfl) rfl (ltN rfl) ((QP.assign rfl rfl).eff) (by kernel_rfl) ?_
   rintro _ _ ⟨rfl, rfl⟩
   refine ⟨fun _ h => (by cases h), ?_⟩
   refine Dw.nil (by kernel_rfl) ?_
   refine hk6 _ _ ?_
   refine Run.seq fun k7 hk7 => ?_
   refine Run.seq fun k8 hk8 => ?_
   refine Run.region ?_
   show Sq _ _ _ [0, 1] _ _ _ _
   refine Sq.quiet (i := 0) rfl (Want.none rfl) rfl (ltN rfl) (QP.move rfl rfl).read ?_
   refine Sq.quiet (i := 1) rfl (Want.none rfl) rfl (ltN rfl) (QP.ptr_eq_nil rfl rfl rfl Try.underlying79).read ?_
   refine Sq.nil ?_
   refine hk8 _ _ ?_
   refine Run.cond_t rfl ?_
   refine Run.seq fun k9 hk9 => ?_
   refine Run.region ?_
   show Sq _ _ _ [0] _ _ _ _
   refine Sq.quiet (i := 0) rfl (Want.none rfl) rfl (ltN rfl) (QP.assign rfl rfl).read ?_
   refine Sq.nil ?_
   refine hk9 _ _ ?_
   refine Run.ret ?_
   exact J.ends (res_tmp rfl rfl) (.cons (by repeat constructor) Takes.nil) (.inr ⟨by unfold badH; rw [c21]; simpa using c26, rfl, rfl⟩)
 ·skip
  refine Sq.quiet (i := 3) rfl (Want.none rfl) rfl (ltN rfl) (QP.not rfl rfl).read ?_
  refine Sq.quiet (i := 4) rfl (Want.none rfl) rfl (ltN rfl) (QP.move rfl rfl).read ?_
  refine Sq.skip (i := 5) rfl (Want.no rfl rfl rfl rfl) rfl (ltN rfl) ?_
  refine Sq.skip (i := 6) rfl (Want.no rfl rfl rfl rfl) rfl (ltN rfl) ?_
  refine Sq.skip (i := 7) rfl (Want.no rfl rfl rfl rfl) rfl (ltN rfl) ?_
  refine Sq.quiet (i := 8) rfl (Want.none rfl) rfl (ltN rfl) (QP.pick_t rfl rfl rfl).read ?_
  refine Sq.quiet (i := 9) rfl (Want.none rfl) rfl (ltN rfl) (QP.assign rfl rfl).read ?_
  refine Sq.nil ?_
  refine hk4 _ _ ?_
  refine Run.cond_t rfl ?_
  refine Run.seq fun k10 hk10 => ?_
  refine Run.region ?_
  show Sq _ _ _ [0] _ _ _ _
  refine Sq.quiet (i := 0) rfl (Want.none rfl) rfl (ltN rfl) (QP.assign rfl rfl).read ?_
  refine Sq.nil ?_
  refine hk10 _ _ ?_
  refine Run.ret ?_
  exact J.ends (res_tmp rfl rfl) (.cons (by repeat constructor) Takes.nil) (.inl ⟨by unfold badH; rw [c21]; rfl, rfl, rfl⟩)

set_option maxHeartbeats 1000000 in
theorem ihuQ_some (F : Fr) {b r c : Nat} {most : Int} {q : Slc} {E : EntN} {s : Neighbour} (hf : InN F b r most q []) {ifs : List IfConf} (hqn : q.n = ifs.length) (hia : ArgSl F q.a 43 IfConf.enc ifs) (now : Int) (hn0 : 0 ≤ now) (hn1 : now ≤ 2305843009213693952) (j : I64) (fr : Bs 16) (h : Tlv) (hw : h.WF) (st : List Int) (hsn : h.stamps.n = st.length) (hsl : st.length ≤ 9223372036854775807) (hsa : ArgSl F h.stamps.a 1 (fun n => [Value.int .u32 n]) st) (hl : alook (ptrs E) ⟨j, fr⟩ = some c) : Spec Try.prog 15 #[.pointer (some ⟨b, 0, none⟩), .int .i64 now, .int .i64 (j : I64).val, .agg (Bs.enc (fr : Bs 16)).toArray, .agg (Tlv.enc h).toArray] [mapN r (ptrs E), blk c (Neighbour.enc s) 54] F (fun v S => (badH q.n j.val h.type 5 = true ∧ v = .int .i64 2 ∧ S = [mapN r (ptrs E), blk c (Neighbour.enc s) 54]) ∨ (badH q.n j.val h.type 5 = false ∧ v = .int .i64 0 ∧ ∃ rt hr, (st.length < 2 → rt = s.rtt ∧ hr = s.hasRtt) ∧ S = [mapN r (ptrs E), blk c (Neighbour.enc (ihuR now h rt hr s)) 54])) := by
 have hiv : 0 ≤ h.interval ∧ h.interval ≤ 65535 := hw.2.2.1
 have hlv : Slc.v h.stamps = .slice h.stamps.a st.length h.stamps.c := by rw [← hsn]; rfl
 refine Spec.intro (N := 125) (args := [.pointer (some ⟨b, 0, none⟩), .int .i64 now, .int .i64 (j : I64).val, .agg (Bs.enc (fr : Bs 16)).toArray, .agg (Tlv.enc h).toArray]) Try.func15 rfl rfl (by simp) ?_
 refine Run.seq fun k1 hk1 => ?_
 refine Run.region ?_
 show Sq _ _ _ [0, 1, 2] _ _ _ _
 refine Sq.eff (i := 0) rfl (Want.none rfl) rfl (ltN rfl) (EF.boxA rfl rfl) ?_
 rintro _ _ ⟨b8, rfl, rfl⟩
 refine Sq.eff (i := 1) rfl (Want.none rfl) rfl (ltN rfl) (EF.boxA rfl rfl) ?_
 rintro _ _ ⟨b9, rfl, rfl⟩
 refine Sq.quiet (i := 2) rfl (Want.none rfl) rfl (ltN rfl) (QP.assign rfl rfl).read ?_
 refine Sq.nil ?_
 refine hk1 _ _ ?_
 refine Run.seq fun k2 hk2 => ?_
 refine Run.block ?_
 refine Run.seq fun k3 hk3 => ?_
 refine Run.region ?_
 show Sq _ _ _ [0, 1, 2] _ _ _ _
 refine Sq.quiet (i := 0) rfl (Want.none rfl) rfl (ltN rfl) (QP.move rfl rfl).read ?_
 refine Sq.quiet (i := 1) rfl (Want.none rfl) rfl (ltN rfl) (QP.ptr_eq_nil rfl rfl rfl Try.underlying26).read ?_
 refine Sq.quiet (i := 2) rfl (Want.none rfl) rfl (ltN rfl) (QP.assign rfl rfl).read ?_
 refine Sq.nil ?_
 refine hk3 _ _ ?_
 refine Run.cond_f rfl ?_
 refine Run.seq fun k4 hk4 => ?_
 refine Run.region ?_
 show Sq _ _ _ [0, 1, 2, 3, 4, 5, 6, 7, 8, 9] _ _ _ _
 refine Sq.quiet (i := 0) rfl (Want.none rfl) rfl (ltN rfl) (QP.move rfl rfl).read ?_
 refine Sq.quiet (i := 1) rfl (Want.none rfl) rfl (ltN rfl) (QP.move rfl rfl).read ?_
 refine Sq.eff (i := 2) rfl (Want.none rfl) rfl (ltN rfl) (EF.call rfl ce25 rfl Takes.nil (fun F' hle hr => onQ F' (hf.mono hle) (j.val))) ?_
 rintro _ _ ⟨_, ⟨rfl, rfl⟩, rfl⟩
 refine J.app ?_
 refine J.caseB (fun c21 => ?_) (fun c21 => ?_)
 ·skip
  refine Sq.quiet (i := 3) rfl (Want.none rfl) rfl (ltN rfl) (QP.not rfl rfl).read ?_
  refine Sq.quiet (i := 4) rfl (Want.none rfl) rfl (ltN rfl) (QP.move rfl rfl).read ?_
  refine Sq.quiet (i := 5) rfl (Want.yes rfl rfl rfl rfl) rfl (ltN rfl) (QP.fieldAddr rfl rfl f39_0).read ?_
  refine Sq.quiet (i := 6) rfl (Want.yes rfl rfl rfl rfl) rfl (ltN rfl) (QR.load1 rfl rfl g5 (Tlv.sub_type _)) ?_
  refine Sq.quiet (i := 7) rfl (Want.yes rfl rfl rfl rfl) rfl (ltN rfl) (QP.neq rfl rfl rfl).read ?_
  refine J.caseD (fun c26 => ?_) (fun c26 => ?_)
  ·skip
   refine Sq.quiet (i := 8) rfl (Want.none rfl) rfl (ltN rfl) (QP.pick_f rfl rfl rfl).read ?_
   refine Sq.quiet (i := 9) rfl (Want.none rfl) rfl (ltN rfl) (QP.assign rfl rfl).read ?_
   refine Sq.nil ?_
   refine hk4 _ _ ?_
   refine Run.cond_t rfl ?_
   refine Run.seq fun k5 hk5 => ?_
   refine Run.region ?_
   show Sq _ _ _ [0] _ _ _ _
   refine Sq.quiet (i := 0) rfl (Want.none rfl) rfl (ltN rfl) (QP.assign rfl rfl).read ?_
   refine Sq.nil ?_
   refine hk5 _ _ ?_
   refine Run.ret ?_
   exact J.ends (res_tmp rfl rfl) (.cons (by repeat constructor) (.cons (by repeat constructor) Takes.nil)) (.inl ⟨by unfold badH; rw [c21]; simpa using c26, rfl, rfl⟩)
  ·skip
   refine Sq.quiet (i := 8) rfl (Want.none rfl) rfl (ltN rfl) (QP.pick_f rfl rfl rfl).read ?_
   refine Sq.quiet (i := 9) rfl (Want.none rfl) rfl (ltN rfl) (QP.assign rfl rfl).read ?_
   refine Sq.nil ?_
   refine hk4 _ _ ?_
   refine Run.cond_f rfl ?_
   refine Run.skip ?_
   refine hk2 _ _ ?_
   refine Run.seq fun k6 hk6 => ?_
   refine Run.regionD (M := [0, 1, 3, 7, 0, 0, 48, 127, 255]) (q := 255) (r := 168) (by kernel_rfl) ?_
   refine Dw.pure (i := 0) rfl (by kernel_rfl) (Want.none rfl) rfl (ltN rfl) (QP.move rfl rfl) ?_
   refine Dw.pure (i := 1) rfl (by kernel_rfl) (Want.none rfl) rfl (ltN rfl) (QP.nilCheck rfl rfl) ?_
   refine Dw.pure (i := 2) rfl (by kernel_rfl) (Want.none rfl) rfl (ltN rfl) (QP.fieldAddr rfl rfl f77_2) ?_
   refine Dw.read (i := 3) rfl (by kernel_rfl) (Want.none rfl) rfl (ltN rfl) (QR.load1F rfl rfl g75 hf.tb (NeighTable.sub_m _)) ?_
   refine Dw.pure (i := 4) rfl (by kernel_rfl) (Want.none rfl) rfl (ltN rfl) (QP.move rfl rfl) ?_
   refine Dw.read (i := 5) rfl (by kernel_rfl) (Want.none rfl) rfl (ltN rfl) (QR.load rfl rfl g29 (Bs.sub _)) ?_
   refine Dw.pure (i := 6) rfl (by kernel_rfl) (Want.none rfl) rfl (ltN rfl) (QP.build (l := NeighKey.enc ⟨j, (fr)⟩) rfl st81 rfl (by exact ⟨rfl, ⟨(congrArg some (Bs.len _).symm), trivial⟩⟩) rfl) ?_
   refine Dw.read (i := 7) rfl (by kernel_rfl) (Want.none rfl) rfl (ltN rfl) (QR.lookupSome key81 rfl rfl rfl Try.underlying75 zero79 hl) ?_
   refine Dw.eff (i := 8) (by kernel_rfl) (by kernel_rfl) ?_
   refine One.mk (o := _) (l := []) rfl (by kernel_rfl) (Want.none rfl) rfl (ltN rfl) ((QP.assign rfl rfl).eff) (by kernel_rfl) ?_
   rintro _ _ ⟨rfl, rfl⟩
   refine ⟨fun _ h => (by cases h), ?_⟩
   refine Dw.nil (by kernel_rfl) ?_
   refine hk6 _ _ ?_
   refine Run.seq fun k7 hk7 => ?_
   refine Run.seq fun k8 hk8 => ?_
   refine Run.region ?_
   show Sq _ _ _ [0, 1] _ _ _ _
   refine Sq.quiet (i := 0) rfl (Want.none rfl) rfl (ltN rfl) (QP.move rfl rfl).read ?_
   refine Sq.quiet (i := 1) rfl (Want.none rfl) rfl (ltN rfl) (QP.ptr_eq_nil rfl rfl rfl Try.underlying79).read ?_
   refine Sq.nil ?_
   refine hk8 _ _ ?_
   refine Run.cond_f rfl ?_
   refine Run.skip ?_
   refine hk7 _ _ ?_
   refine Run.seq fun k9 hk9 => ?_
   refine Run.regionM (M := [0, 0, 0, 4, 0, 0, 32, 96, 224, 496, 13, 1037, 3085, 8191, 16383, 32767]) (q := 28671) (r := 72) mixedT (by kernel_rfl) ?_
   have hj : 0 ≤ j.val ∧ j.val < q.n := by simpa using c21
   obtain ⟨cf, hci⟩ : ∃ x, ifs[Int.toNat j.val]? = some x := ⟨_, List.getElem?_eq_getElem (by omega)⟩
   obtain ⟨b2, o2, hqa, hsI⟩ := hia.get (by omega)
   have hqv : Slc.v q = .slice (some ⟨b2, o2, none⟩) ifs.length q.c := by rw [← hqn, ← hqa]; rfl
   have hqS : SubL (NeighTable.enc ⟨most, q, some r⟩) 1 1 [.slice (some ⟨b2, o2, none⟩) ifs.length q.c] := by
     have h9 := NeighTable.sub_ifs (⟨most, q, some r⟩ : NeighTable)
     rw [show Slc.v (NeighTable.ifs ⟨most, q, some r⟩) = _ from hqv] at h9
     exact h9
   refine Dw.pure (i := 0) rfl (by kernel_rfl) (Want.none rfl) rfl (ltN rfl) (QP.move rfl rfl) ?_
   refine Dw.pure (i := 1) rfl (by kernel_rfl) (Want.none rfl) rfl (ltN rfl) (QP.move rfl rfl) ?_
   refine Dw.pure (i := 2) rfl (by kernel_rfl) (Want.none rfl) rfl (ltN rfl) (QP.fieldAddr rfl rfl f39_4) ?_
   refine Dw.read (i := 3) rfl (by kernel_rfl) (Want.none rfl) rfl (ltN rfl) (QR.load1 rfl rfl g30 (Tlv.sub_rxcost _)) ?_
   refine Dw.pure (i := 4) rfl (by kernel_rfl) (Want.none rfl) rfl (ltN rfl) (QP.move rfl rfl) ?_
   refine Dw.pure (i := 5) rfl (by kernel_rfl) (Want.none rfl) rfl (ltN rfl) (QP.fieldAddr rfl rfl f39_2) ?_
   refine Dw.read (i := 6) rfl (by kernel_rfl) (Want.none rfl) rfl (ltN rfl) (QR.load1 rfl rfl g30 (Tlv.sub_interval _)) ?_
   refine Dw.pure (i := 7) rfl (by kernel_rfl) (Want.none rfl) rfl (ltN rfl) (QP.conv rfl rfl Try.underlying30 Try.underlying3) ?_
   refine Dw.pure (i := 8) rfl (by kernel_rfl) (Want.none rfl) rfl (ltN rfl) (QP.mul rfl rfl rfl) ?_
   rw [show IntKind.i64.wrap (35 * IntKind.i64.wrap h.interval) = 35 * h.interval by rw [wrap_i64 (n := h.interval) (by omega) (by omega), wrap_i64 (by omega) (by omega)]]
   refine Dw.pure (i := 9) rfl (by kernel_rfl) (Want.none rfl) rfl (ltN rfl) (QP.add64 rfl rfl rfl (by first | omega | (simp <;> omega)) (by first | omega | (simp <;> omega))) ?_
   refine Dw.pure (i := 10) rfl (by kernel_rfl) (Want.none rfl) rfl (ltN rfl) (QP.nilCheck rfl rfl) ?_
   refine Dw.pure (i := 11) rfl (by kernel_rfl) (Want.none rfl) rfl (ltN rfl) (QP.fieldAddr rfl rfl f54_8) ?_
   refine Dw.eff (i := 12) (by kernel_rfl) (by kernel_rfl) ?_
   refine One.act (o := _) (l := [6]) rfl (by kernel_rfl) (Want.none rfl) rfl (EF.store rfl rfl rfl z30 (Neighbour.set_tx _ _) (cell_one rfl)) (by kernel_rfl) ?_
   rintro _ _ rfl
   refine ⟨?_, ?_⟩
   ·rw [List.forall_mem_cons]
    refine ⟨?_, fun _ h => (by cases h)⟩
    ·exact Look.mk rfl rfl rfl (QR.load1 rfl rfl g30 (Tlv.sub_interval _))
   refine ?_
   refine Dw.pure (i := 13) rfl (by kernel_rfl) (Want.none rfl) rfl (ltN rfl) (QP.nilCheck rfl rfl) ?_
   refine Dw.pure (i := 14) rfl (by kernel_rfl) (Want.none rfl) rfl (ltN rfl) (QP.fieldAddr rfl rfl f54_9) ?_
   refine Dw.eff (i := 15) (by kernel_rfl) (by kernel_rfl) ?_
   refine One.act (o := _) (l := []) rfl (by kernel_rfl) (Want.none rfl) rfl (EF.store rfl rfl rfl z3 (Neighbour.set_txAt _ _) (cell_one rfl)) (by kernel_rfl) ?_
   rintro _ _ rfl
   refine ⟨fun _ h => (by cases h), ?_⟩
   refine Dw.nil (by kernel_rfl) ?_
   refine hk9 _ _ ?_
   refine Run.seq fun k10 hk10 => ?_
   refine Run.region ?_
   show Sq _ _ _ [0, 1, 2, 3, 4, 5, 6, 7, 8, 9] _ _ _ _
   refine Sq.quiet (i := 0) rfl (Want.none rfl) rfl (ltN rfl) (QP.move rfl rfl).read ?_
   refine Sq.quiet (i := 1) rfl (Want.none rfl) rfl (ltN rfl) (QP.nilCheck rfl rfl).read ?_
   refine Sq.quiet (i := 2) rfl (Want.none rfl) rfl (ltN rfl) (QP.fieldAddr rfl rfl f77_1).read ?_
   refine Sq.quiet (i := 3) rfl (Want.none rfl) rfl (ltN rfl) (QR.load1F rfl rfl g22 hf.tb (NeighTable.sub_ifs _)) ?_
   rw [hqv]
   refine Sq.quiet (i := 4) rfl (Want.none rfl) rfl (ltN rfl) (QP.move rfl rfl).read ?_
   refine Sq.quiet (i := 5) rfl (Want.none rfl) rfl (ltN rfl) (QP.indexAddr rfl rfl rfl Try.underlying22 z60 (by first | omega | (simp <;> omega)) (by first | omega | (simp <;> omega))).read ?_
   refine Sq.quiet (i := 6) rfl (Want.none rfl) rfl (ltN rfl) (QP.fieldAddr rfl rfl f60_8).read ?_
   refine Sq.quiet (i := 7) rfl (Want.none rfl) rfl (ltN rfl) (QR.loadSlF rfl rfl g58 IfConf.enc_len (hsI _) hci (IfConf.sub_rtt _)) ?_
   refine Sq.eff (i := 8) rfl (Want.none rfl) rfl (ltN rfl) (EF.allocA (l := Rtt.enc Rtt.zero) rfl zero58) ?_
   rintro _ _ ⟨b12, rfl, rfl⟩
   refine Sq.act (i := 9) rfl (Want.none rfl) rfl (EF.storeA rfl rfl rfl z58 (SetL.all (Rtt.enc_len _) (Rtt.enc_len _)) (Rtt.enc_cell _)) ?_
   rintro _ _ rfl
   refine Sq.nil ?_
   refine hk10 _ _ ?_
   refine Run.seq fun k11 hk11 => ?_
   refine Run.seq fun k12 hk12 => ?_
   refine Run.region ?_
   show Sq _ _ _ [0, 1, 2, 3, 4, 5, 6, 7, 8, 9, 10, 11, 12, 13, 14, 15, 16, 17, 18, 19, 20, 21, 22, 23] _ _ _ _
   refine Sq.quiet (i := 0) rfl (Want.none rfl) rfl (ltN rfl) (QP.fieldAddr rfl rfl f58_0).read ?_
   refine Sq.quiet (i := 1) rfl (Want.none rfl) rfl (ltN rfl) (QR.load1 rfl rfl g4 (Rtt.sub_on_ _)) ?_
   refine J.caseB (fun c61 => ?_) (fun c61 => ?_)
   ·skip
    refine Sq.quiet (i := 2) rfl (Want.none rfl) rfl (ltN rfl) (QP.not rfl rfl).read ?_
    refine Sq.quiet (i := 3) rfl (Want.none rfl) rfl (ltN rfl) (QP.move rfl rfl).read ?_
    refine Sq.quiet (i := 4) rfl (Want.yes rfl rfl rfl rfl) rfl (ltN rfl) (QP.fieldAddr rfl rfl f39_12).read ?_
    refine Sq.quiet (i := 5) rfl (Want.yes rfl rfl rfl rfl) rfl (ltN rfl) (QR.load1 rfl rfl g37 (Tlv.sub_stamps _)) ?_
    rw [hlv]
    refine Sq.quiet (i := 6) rfl (Want.yes rfl rfl rfl rfl) rfl (ltN rfl) (QP.len rfl rfl rfl Try.underlying37).read ?_
    refine Sq.quiet (i := 7) rfl (Want.yes rfl rfl rfl rfl) rfl (ltN rfl) (QP.lss rfl rfl rfl).read ?_
    refine J.caseD (fun c67 => ?_) (fun c67 => ?_)
    ·skip
     refine Sq.quiet (i := 8) rfl (Want.none rfl) rfl (ltN rfl) (QP.pick_f rfl rfl rfl).read ?_
     refine Sq.quiet (i := 9) rfl (Want.none rfl) rfl (ltN rfl) (QP.move rfl rfl).read ?_
     refine Sq.skip (i := 10) rfl (Want.no rfl rfl rfl rfl) rfl (ltN rfl) ?_
     refine Sq.skip (i := 11) rfl (Want.no rfl rfl rfl rfl) rfl (ltN rfl) ?_
     refine Sq.skip (i := 12) rfl (Want.no rfl rfl rfl rfl) rfl (ltN rfl) ?_
     refine Sq.skip (i := 13) rfl (Want.no rfl rfl rfl rfl) rfl (ltN rfl) ?_
     refine Sq.skip (i := 14) rfl (Want.no rfl rfl rfl rfl) rfl (ltN rfl) ?_
     refine Sq.quiet (i := 15) rfl (Want.none rfl) rfl (ltN rfl) (QP.pick_t rfl rfl rfl).read ?_
     refine Sq.quiet (i := 16) rfl (Want.none rfl) rfl (ltN rfl) (QP.move rfl rfl).read ?_
     refine Sq.skip (i := 17) rfl (Want.no rfl rfl rfl rfl) rfl (ltN rfl) ?_
     refine Sq.skip (i := 18) rfl (Want.no rfl rfl rfl rfl) rfl (ltN rfl) ?_
     refine Sq.skip (i := 19) rfl (Want.no rfl rfl rfl rfl) rfl (ltN rfl) ?_
     refine Sq.skip (i := 20) rfl (Want.no rfl rfl rfl rfl) rfl (ltN rfl) ?_
     refine Sq.skip (i := 21) rfl (Want.no rfl rfl rfl rfl) rfl (ltN rfl) ?_
     refine Sq.skip (i := 22) rfl (Want.no rfl rfl rfl rfl) rfl (ltN rfl) ?_
     refine Sq.quiet (i := 23) rfl (Want.none rfl) rfl (ltN rfl) (QP.pick_t rfl rfl rfl).read ?_
     refine Sq.nil ?_
     refine hk12 _ _ ?_
     refine Run.cond_t rfl ?_
     refine Run.seq fun k13 hk13 => ?_
     refine Run.region ?_
     show Sq _ _ _ [0] _ _ _ _
     refine Sq.quiet (i := 0) rfl (Want.none rfl) rfl (ltN rfl) (QP.assign rfl rfl).read ?_
     refine Sq.nil ?_
     refine hk13 _ _ ?_
     refine Run.ret ?_
     exact J.ends (res_tmp rfl rfl) (.cons (by repeat constructor) (.cons (by repeat constructor) Takes.nil)) (.inr ⟨by unfold badH; rw [c21]; simpa using c26, rfl, _, _, fun hlt => ⟨rfl, rfl⟩, rfl⟩)
    ·skip
     refine Sq.quiet (i := 8) rfl (Want.none rfl) rfl (ltN rfl) (QP.pick_f rfl rfl rfl).read ?_
     refine Sq.quiet (i := 9) rfl (Want.none rfl) rfl (ltN rfl) (QP.move rfl rfl).read ?_
     refine Sq.quiet (i := 10) rfl (Want.yes rfl rfl rfl rfl) rfl (ltN rfl) (QP.move rfl rfl).read ?_
     refine Sq.quiet (i := 11) rfl (Want.yes rfl rfl rfl rfl) rfl (ltN rfl) (QP.nilCheck rfl rfl).read ?_
     refine Sq.quiet (i := 12) rfl (Want.yes rfl rfl rfl rfl) rfl (ltN rfl) (QP.fieldAddr rfl rfl f54_12).read ?_
     refine Sq.quiet (i := 13) rfl (Want.yes rfl rfl rfl rfl) rfl (ltN rfl) (QR.load1 rfl rfl g4 (Neighbour.sub_hasSent _)) ?_
     refine J.caseB (fun c73 => ?_) (fun c73 => ?_)
     ·skip
      refine Sq.quiet (i := 14) rfl (Want.yes rfl rfl rfl rfl) rfl (ltN rfl) (QP.not rfl rfl).read ?_
      refine Sq.quiet (i := 15) rfl (Want.none rfl) rfl (ltN rfl) (QP.pick_f rfl rfl rfl).read ?_
      refine Sq.quiet (i := 16) rfl (Want.none rfl) rfl (ltN rfl) (QP.move rfl rfl).read ?_
      refine Sq.quiet (i := 17) rfl (Want.yes rfl rfl rfl rfl) rfl (ltN rfl) (QP.move rfl rfl).read ?_
      refine Sq.quiet (i := 18) rfl (Want.yes rfl rfl rfl rfl) rfl (ltN rfl) (QP.nilCheck rfl rfl).read ?_
      refine Sq.quiet (i := 19) rfl (Want.yes rfl rfl rfl rfl) rfl (ltN rfl) (QP.fieldAddr rfl rfl f54_11).read ?_
      refine Sq.quiet (i := 20) rfl (Want.yes rfl rfl rfl rfl) rfl (ltN rfl) (QR.load1 rfl rfl g3 (Neighbour.sub_heard _)) ?_
      refine Sq.quiet (i := 21) rfl (Want.yes rfl rfl rfl rfl) rfl (ltN rfl) (QP.move rfl rfl).read ?_
      refine Sq.quiet (i := 22) rfl (Want.yes rfl rfl rfl rfl) rfl (ltN rfl) (QP.neq rfl rfl rfl).read ?_
      refine J.caseD (fun c82 => ?_) (fun c82 => ?_)
      ·skip
       refine Sq.quiet (i := 23) rfl (Want.none rfl) rfl (ltN rfl) (QP.pick_f rfl rfl rfl).read ?_
       refine Sq.nil ?_
       refine hk12 _ _ ?_
       refine Run.cond_t rfl ?_
       refine Run.seq fun k14 hk14 => ?_
       refine Run.region ?_
       show Sq _ _ _ [0] _ _ _ _
       refine Sq.quiet (i := 0) rfl (Want.none rfl) rfl (ltN rfl) (QP.assign rfl rfl).read ?_
       refine Sq.nil ?_
       refine hk14 _ _ ?_
       refine Run.ret ?_
       exact J.ends (res_tmp rfl rfl) (.cons (by repeat constructor) (.cons (by repeat constructor) Takes.nil)) (.inr ⟨by unfold badH; rw [c21]; simpa using c26, rfl, _, _, fun hlt => ⟨rfl, rfl⟩, rfl⟩)
      ·skip
       refine Sq.quiet (i := 23) rfl (Want.none rfl) rfl (ltN rfl) (QP.pick_f rfl rfl rfl).read ?_
       refine Sq.nil ?_
       refine hk12 _ _ ?_
       refine Run.cond_f rfl ?_
       refine Run.skip ?_
       refine hk11 _ _ ?_
       refine Run.seq fun k15 hk15 => ?_
       refine Run.seq fun k16 hk16 => ?_
       refine Run.regionM (M := [0, 1, 3, 7, 0, 16, 48, 112, 0, 256, 768, 1792, 0, 4096, 16383, 32767, 65535, 65535, 131071, 524287]) (q := 237567) (r := 2218) mixedT (by kernel_rfl) ?_
       obtain ⟨x0, hx0⟩ : ∃ x, st[Int.toNat 0]? = some x := ⟨_, List.getElem?_eq_getElem (by show 0 < st.length; omega)⟩
       obtain ⟨x1, hx1⟩ : ∃ x, st[Int.toNat 1]? = some x := ⟨_, List.getElem?_eq_getElem (by show 1 < st.length; omega)⟩
       obtain ⟨b1, o1, hla, hsA⟩ := hsa.get (by omega)
       rw [hla] at hlv
       have hlS : SubL (Tlv.enc h) 67 1 [.slice (some ⟨b1, o1, none⟩) st.length h.stamps.c] := by
         have h9 := Tlv.sub_stamps h
         rw [hlv] at h9
         exact h9
       refine Dw.pure (i := 0) rfl (by kernel_rfl) (Want.none rfl) rfl (ltN rfl) (QP.fieldAddr rfl rfl f39_12) ?_
       refine Dw.read (i := 1) rfl (by kernel_rfl) (Want.none rfl) rfl (ltN rfl) (QR.load1 (v := .slice (some ⟨b1, o1, none⟩) st.length h.stamps.c) rfl rfl g37 hlS) ?_
       refine Dw.pure (i := 2) rfl (by kernel_rfl) (Want.none rfl) rfl (ltN rfl) (QP.indexAddr rfl rfl rfl Try.underlying37 z52 (by first | omega | (simp <;> omega)) (by first | omega | (simp <;> omega))) ?_
       refine Dw.read (i := 3) rfl (by kernel_rfl) (Want.none rfl) rfl (ltN rfl) (QR.loadSl1 (ev := .int .u32) rfl rfl g52 (hsA _) hx0) ?_
       refine Dw.pure (i := 4) rfl (by kernel_rfl) (Want.none rfl) rfl (ltN rfl) (QP.fieldAddr rfl rfl f39_12) ?_
       refine Dw.read (i := 5) rfl (by kernel_rfl) (Want.none rfl) rfl (ltN rfl) (QR.load1 (v := .slice (some ⟨b1, o1, none⟩) st.length h.stamps.c) rfl rfl g37 hlS) ?_
       refine Dw.pure (i := 6) rfl (by kernel_rfl) (Want.none rfl) rfl (ltN rfl) (QP.indexAddr rfl rfl rfl Try.underlying37 z52 (by first | omega | (simp <;> omega)) (by first | omega | (simp <;> omega))) ?_
       refine Dw.read (i := 7) rfl (by kernel_rfl) (Want.none rfl) rfl (ltN rfl) (QR.loadSl1 (ev := .int .u32) rfl rfl g52 (hsA _) hx1) ?_
       refine Dw.pure (i := 8) rfl (by kernel_rfl) (Want.none rfl) rfl (ltN rfl) (QP.move rfl rfl) ?_
       refine Dw.pure (i := 9) rfl (by kernel_rfl) (Want.none rfl) rfl (ltN rfl) (QP.nilCheck rfl rfl) ?_
       refine Dw.pure (i := 10) rfl (by kernel_rfl) (Want.none rfl) rfl (ltN rfl) (QP.fieldAddr rfl rfl f54_10) ?_
       refine Dw.read (i := 11) rfl (by kernel_rfl) (Want.none rfl) rfl (ltN rfl) (QR.load1 rfl rfl g52 (Neighbour.sub_sent _)) ?_
       refine Dw.pure (i := 12) rfl (by kernel_rfl) (Want.none rfl) rfl (ltN rfl) (QP.move rfl rfl) ?_
       refine Dw.eff (i := 13) (by kernel_rfl) (by kernel_rfl) ?_
       refine One.mk (o := _) (l := [11, 7, 5, 3, 1]) rfl (by kernel_rfl) (Want.none rfl) rfl (ltN rfl) (EF.call rfl ce34 rfl Takes.nil (fun F' hle hr => clock_spec F' now)) (by kernel_rfl) ?_
       rintro _ _ ⟨_, ⟨n98, rfl, rfl⟩, rfl⟩
       refine ⟨?_, ?_⟩
       ·rw [List.forall_mem_cons, List.forall_mem_cons, List.forall_mem_cons, List.forall_mem_cons, List.forall_mem_cons]
        refine ⟨?_, ?_, ?_, ?_, ?_, fun _ h => (by cases h)⟩
        ·refine Look.app ?_
         exact Look.mk rfl rfl rfl (QR.load1 rfl rfl g52 (Neighbour.sub_sent _))
        ·refine Look.app ?_
         exact Look.mk rfl rfl rfl (QR.loadSl1 (ev := .int .u32) rfl rfl g52 (hsA _) hx1)
        ·refine Look.app ?_
         exact Look.mk rfl rfl rfl (QR.load1 (v := .slice (some ⟨b1, o1, none⟩) st.length h.stamps.c) rfl rfl g37 hlS)
        ·refine Look.app ?_
         exact Look.mk rfl rfl rfl (QR.loadSl1 (ev := .int .u32) rfl rfl g52 (hsA _) hx0)
        ·refine Look.app ?_
         exact Look.mk rfl rfl rfl (QR.load1 (v := .slice (some ⟨b1, o1, none⟩) st.length h.stamps.c) rfl rfl g37 hlS)
       refine ?_
       refine J.app ?_
       refine Dw.eff (i := 14) (by kernel_rfl) (by kernel_rfl) ?_
       refine One.mk (o := _) (l := []) rfl (by kernel_rfl) (Want.none rfl) rfl (ltN rfl) (EF.call rfl ce33 rfl Takes.nil (fun F' hle hr => sample_spec F' _ _ _ _)) (by kernel_rfl) ?_
       rintro _ _ ⟨_, ⟨n99, o99, rfl, rfl⟩, rfl⟩
       refine ⟨fun _ h => (by cases h), ?_⟩
       refine J.app ?_
       refine Dw.pure (i := 15) rfl (by kernel_rfl) (Want.none rfl) rfl (ltN rfl) (QP.move rfl rfl) ?_
       refine Dw.pure (i := 16) rfl (by kernel_rfl) (Want.none rfl) rfl (ltN rfl) (QP.extract rfl rfl rfl) ?_
       refine Dw.pure (i := 17) rfl (by kernel_rfl) (Want.none rfl) rfl (ltN rfl) (QP.extract rfl rfl rfl) ?_
       refine J.caseB (fun c101 => ?_) (fun c101 => ?_)
       ·skip
        refine Dw.eff (i := 18) (by kernel_rfl) (by kernel_rfl) ?_
        refine One.mk (o := _) (l := []) rfl (by kernel_rfl) (Want.none rfl) rfl (ltN rfl) ((QP.assign rfl rfl).eff) (by kernel_rfl) ?_
        rintro _ _ ⟨rfl, rfl⟩
        refine ⟨fun _ h => (by cases h), ?_⟩
        refine Dw.eff (i := 19) (by kernel_rfl) (by kernel_rfl) ?_
        refine One.mk (o := _) (l := []) rfl (by kernel_rfl) (Want.none rfl) rfl (ltN rfl) ((QP.assign rfl rfl).eff) (by kernel_rfl) ?_
        rintro _ _ ⟨rfl, rfl⟩
        refine ⟨fun _ h => (by cases h), ?_⟩
        refine Dw.nil (by kernel_rfl) ?_
        refine hk16 _ _ ?_
        refine Run.seq fun k17 hk17 => ?_
        refine Run.region ?_
        show Sq _ _ _ [0] _ _ _ _
        refine Sq.quiet (i := 0) rfl (Want.none rfl) rfl (ltN rfl) (QP.move rfl rfl).read ?_
        refine Sq.nil ?_
        refine hk17 _ _ ?_
        refine Run.cond_t rfl ?_
        refine Run.seq fun k18 hk18 => ?_
        refine Run.seq fun k19 hk19 => ?_
        refine Run.region ?_
        show Sq _ _ _ [0, 1, 2, 3, 4] _ _ _ _
        refine Sq.quiet (i := 0) rfl (Want.none rfl) rfl (ltN rfl) (QP.move rfl rfl).read ?_
        refine Sq.quiet (i := 1) rfl (Want.none rfl) rfl (ltN rfl) (QP.nilCheck rfl rfl).read ?_
        refine Sq.quiet (i := 2) rfl (Want.none rfl) rfl (ltN rfl) (QP.fieldAddr rfl rfl f54_14).read ?_
        refine Sq.quiet (i := 3) rfl (Want.none rfl) rfl (ltN rfl) (QR.load1 rfl rfl g4 (Neighbour.sub_hasRtt _)) ?_
        refine J.caseB (fun c106 => ?_) (fun c106 => ?_)
        ·skip
         refine Sq.quiet (i := 4) rfl (Want.none rfl) rfl (ltN rfl) (QP.not rfl rfl).read ?_
         refine Sq.nil ?_
         refine hk19 _ _ ?_
         refine Run.cond_f rfl ?_
         refine Run.skip ?_
         refine hk18 _ _ ?_
         refine Run.regionM (M := [0, 0, 0, 0, 8, 24, 56, 0, 128, 508, 1021, 2045, 4093, 8191, 16383, 32767]) (q := 27903) (r := 68) mixedT (by kernel_rfl) ?_
         refine Dw.pure (i := 0) rfl (by kernel_rfl) (Want.none rfl) rfl (ltN rfl) (QP.move rfl rfl) ?_
         refine Dw.pure (i := 1) rfl (by kernel_rfl) (Want.none rfl) rfl (ltN rfl) (QP.move rfl rfl) ?_
         refine Dw.read (i := 2) rfl (by kernel_rfl) (Want.none rfl) rfl (ltN rfl) (QR.load rfl rfl g58 (Rtt.enc_sub _)) ?_
         refine Dw.pure (i := 3) rfl (by kernel_rfl) (Want.none rfl) rfl (ltN rfl) (QP.move rfl rfl) ?_
         refine Dw.pure (i := 4) rfl (by kernel_rfl) (Want.none rfl) rfl (ltN rfl) (QP.nilCheck rfl rfl) ?_
         refine Dw.pure (i := 5) rfl (by kernel_rfl) (Want.none rfl) rfl (ltN rfl) (QP.fieldAddr rfl rfl f54_13) ?_
         refine Dw.read (i := 6) rfl (by kernel_rfl) (Want.none rfl) rfl (ltN rfl) (QR.load1 rfl rfl g3 (Neighbour.sub_rtt _)) ?_
         refine Dw.pure (i := 7) rfl (by kernel_rfl) (Want.none rfl) rfl (ltN rfl) (QP.move rfl rfl) ?_
         refine Dw.eff (i := 8) (by kernel_rfl) (by kernel_rfl) ?_
         refine One.mk (o := _) (l := [6, 2]) rfl (by kernel_rfl) (Want.none rfl) rfl (ltN rfl) (EF.buildSliceS rfl Try.underlying98 z3 zero3 rfl (by decide) rfl rfl rfl rfl) (by kernel_rfl) ?_
         rintro _ _ ⟨b119, rfl, rfl⟩
         refine ⟨?_, ?_⟩
         ·rw [List.forall_mem_cons, List.forall_mem_cons]
          refine ⟨?_, ?_, fun _ h => (by cases h)⟩
          ·exact Look.mk rfl rfl rfl (QR.load1 rfl rfl g3 (Neighbour.sub_rtt _))
          ·exact Look.mk rfl rfl rfl (QR.load rfl rfl g58 (Rtt.enc_sub _))
         refine ?_
         refine Dw.eff (i := 9) (by kernel_rfl) (by kernel_rfl) ?_
         refine One.mk (o := _) (l := []) rfl (by kernel_rfl) (Want.none rfl) rfl (ltN rfl) (EF.call rfl ce35 rfl Takes.nil (fun F' hle hr => smooth_spec F' cf.rtt _ n99 (fun _ => SlAt.frZ (fun _ => rfl) (hr _ _ (by repeat constructor)) [] [] rfl rfl))) (by kernel_rfl) ?_
         rintro _ _ ⟨_, ⟨n120, rfl, rfl⟩, rfl⟩
         refine ⟨fun _ h => (by cases h), ?_⟩
         refine J.app ?_
         refine Dw.pure (i := 10) rfl (by kernel_rfl) (Want.none rfl) rfl (ltN rfl) (QP.nilCheck rfl rfl) ?_
         refine Dw.pure (i := 11) rfl (by kernel_rfl) (Want.none rfl) rfl (ltN rfl) (QP.fieldAddr rfl rfl f54_13) ?_
         refine Dw.eff (i := 12) (by kernel_rfl) (by kernel_rfl) ?_
         refine One.act (o := _) (l := []) rfl (by kernel_rfl) (Want.none rfl) rfl (EF.store rfl rfl rfl z3 (Neighbour.set_rtt _ _) (cell_one rfl)) (by kernel_rfl) ?_
         rintro _ _ rfl
         refine ⟨fun _ h => (by cases h), ?_⟩
         refine Dw.pure (i := 13) rfl (by kernel_rfl) (Want.none rfl) rfl (ltN rfl) (QP.nilCheck rfl rfl) ?_
         refine Dw.pure (i := 14) rfl (by kernel_rfl) (Want.none rfl) rfl (ltN rfl) (QP.fieldAddr rfl rfl f54_14) ?_
         refine Dw.eff (i := 15) (by kernel_rfl) (by kernel_rfl) ?_
         refine One.act (o := _) (l := []) rfl (by kernel_rfl) (Want.none rfl) rfl (EF.store rfl rfl rfl z4 (Neighbour.set_hasRtt _ _) (cell_one rfl)) (by kernel_rfl) ?_
         rintro _ _ rfl
         refine ⟨fun _ h => (by cases h), ?_⟩
         refine Dw.nil (by kernel_rfl) ?_
         refine hk15 _ _ ?_
         refine Run.seq fun k20 hk20 => ?_
         refine Run.region ?_
         show Sq _ _ _ [0] _ _ _ _
         refine Sq.quiet (i := 0) rfl (Want.none rfl) rfl (ltN rfl) (QP.assign rfl rfl).read ?_
         refine Sq.nil ?_
         refine hk20 _ _ ?_
         refine Run.ret ?_
         exact J.ends (res_tmp rfl rfl) (.cons (by repeat constructor) (.cons (by repeat constructor) Takes.nil)) (.inr ⟨by unfold badH; rw [c21]; simpa using c26, rfl, _, _, fun hlt => absurd hlt (by omega), rfl⟩)
        ·skip
         refine Sq.quiet (i := 4) rfl (Want.none rfl) rfl (ltN rfl) (QP.not rfl rfl).read ?_
         refine Sq.nil ?_
         refine hk19 _ _ ?_
         refine Run.cond_t rfl ?_
         refine Run.region ?_
         show Sq _ _ _ [0, 1, 2, 3] _ _ _ _
         refine Sq.quiet (i := 0) rfl (Want.none rfl) rfl (ltN rfl) (QP.move rfl rfl).read ?_
         refine Sq.quiet (i := 1) rfl (Want.none rfl) rfl (ltN rfl) (QP.nilCheck rfl rfl).read ?_
         refine Sq.quiet (i := 2) rfl (Want.none rfl) rfl (ltN rfl) (QP.fieldAddr rfl rfl f54_13).read ?_
         refine Sq.act (i := 3) rfl (Want.none rfl) rfl (EF.store rfl rfl rfl z3 (Neighbour.set_rtt _ _) (cell_one rfl)) ?_
         rintro _ _ rfl
         refine Sq.nil ?_
         refine hk18 _ _ ?_
         refine Run.regionM (M := [0, 0, 0, 0, 8, 24, 56, 0, 128, 508, 1021, 2045, 4093, 8191, 16383, 32767]) (q := 27903) (r := 68) mixedT (by kernel_rfl) ?_
         refine Dw.pure (i := 0) rfl (by kernel_rfl) (Want.none rfl) rfl (ltN rfl) (QP.move rfl rfl) ?_
         refine Dw.pure (i := 1) rfl (by kernel_rfl) (Want.none rfl) rfl (ltN rfl) (QP.move rfl rfl) ?_
         refine Dw.read (i := 2) rfl (by kernel_rfl) (Want.none rfl) rfl (ltN rfl) (QR.load rfl rfl g58 (Rtt.enc_sub _)) ?_
         refine Dw.pure (i := 3) rfl (by kernel_rfl) (Want.none rfl) rfl (ltN rfl) (QP.move rfl rfl) ?_
         refine Dw.pure (i := 4) rfl (by kernel_rfl) (Want.none rfl) rfl (ltN rfl) (QP.nilCheck rfl rfl) ?_
         refine Dw.pure (i := 5) rfl (by kernel_rfl) (Want.none rfl) rfl (ltN rfl) (QP.fieldAddr rfl rfl f54_13) ?_
         refine Dw.read (i := 6) rfl (by kernel_rfl) (Want.none rfl) rfl (ltN rfl) (QR.load1 rfl rfl g3 (Neighbour.sub_rtt _)) ?_
         refine Dw.pure (i := 7) rfl (by kernel_rfl) (Want.none rfl) rfl (ltN rfl) (QP.move rfl rfl) ?_
         refine Dw.eff (i := 8) (by kernel_rfl) (by kernel_rfl) ?_
         refine One.mk (o := _) (l := [6, 2]) rfl (by kernel_rfl) (Want.none rfl) rfl (ltN rfl) (EF.buildSliceS rfl Try.underlying98 z3 zero3 rfl (by decide) rfl rfl rfl rfl) (by kernel_rfl) ?_
         rintro _ _ ⟨b119, rfl, rfl⟩
         refine ⟨?_, ?_⟩
         ·rw [List.forall_mem_cons, List.forall_mem_cons]
          refine ⟨?_, ?_, fun _ h => (by cases h)⟩
          ·exact Look.mk rfl rfl rfl (QR.load1 rfl rfl g3 (Neighbour.sub_rtt _))
          ·exact Look.mk rfl rfl rfl (QR.load rfl rfl g58 (Rtt.enc_sub _))
         refine ?_
         refine Dw.eff (i := 9) (by kernel_rfl) (by kernel_rfl) ?_
         refine One.mk (o := _) (l := []) rfl (by kernel_rfl) (Want.none rfl) rfl (ltN rfl) (EF.call rfl ce35 rfl Takes.nil (fun F' hle hr => smooth_spec F' cf.rtt _ n99 (fun _ => SlAt.frZ (fun _ => rfl) (hr _ _ (by repeat constructor)) [] [] rfl rfl))) (by kernel_rfl) ?_
         rintro _ _ ⟨_, ⟨n120, rfl, rfl⟩, rfl⟩
         refine ⟨fun _ h => (by cases h), ?_⟩
         refine J.app ?_
         refine Dw.pure (i := 10) rfl (by kernel_rfl) (Want.none rfl) rfl (ltN rfl) (QP.nilCheck rfl rfl) ?_
         refine Dw.pure (i := 11) rfl (by kernel_rfl) (Want.none rfl) rfl (ltN rfl) (QP.fieldAddr rfl rfl f54_13) ?_
         refine Dw.eff (i := 12) (by kernel_rfl) (by kernel_rfl) ?_
         refine One.act (o := _) (l := []) rfl (by kernel_rfl) (Want.none rfl) rfl (EF.store rfl rfl rfl z3 (Neighbour.set_rtt _ _) (cell_one rfl)) (by kernel_rfl) ?_
         rintro _ _ rfl
         refine ⟨fun _ h => (by cases h), ?_⟩
         refine Dw.pure (i := 13) rfl (by kernel_rfl) (Want.none rfl) rfl (ltN rfl) (QP.nilCheck rfl rfl) ?_
         refine Dw.pure (i := 14) rfl (by kernel_rfl) (Want.none rfl) rfl (ltN rfl) (QP.fieldAddr rfl rfl f54_14) ?_
         refine Dw.eff (i := 15) (by kernel_rfl) (by kernel_rfl) ?_
         refine One.act (o := _) (l := []) rfl (by kernel_rfl) (Want.none rfl) rfl (EF.store rfl rfl rfl z4 (Neighbour.set_hasRtt _ _) (cell_one rfl)) (by kernel_rfl) ?_
         rintro _ _ rfl
         refine ⟨fun _ h => (by cases h), ?_⟩
         refine Dw.nil (by kernel_rfl) ?_
         refine hk15 _ _ ?_
         refine Run.seq fun k21 hk21 => ?_
         refine Run.region ?_
         show Sq _ _ _ [0] _ _ _ _
         refine Sq.quiet (i := 0) rfl (Want.none rfl) rfl (ltN rfl) (QP.assign rfl rfl).read ?_
         refine Sq.nil ?_
         refine hk21 _ _ ?_
         refine Run.ret ?_
         exact J.ends (res_tmp rfl rfl) (.cons (by repeat constructor) (.cons (by repeat constructor) Takes.nil)) (.inr ⟨by unfold badH; rw [c21]; simpa using c26, rfl, _, _, fun hlt => absurd hlt (by omega), rfl⟩)
       ·skip
        refine Dw.eff (i := 18) (by kernel_rfl) (by kernel_rfl) ?_
        refine One.mk (o := _) (l := []) rfl (by kernel_rfl) (Want.none rfl) rfl (ltN rfl) ((QP.assign rfl rfl).eff) (by kernel_rfl) ?_
        rintro _ _ ⟨rfl, rfl⟩
        refine ⟨fun _ h => (by cases h), ?_⟩
        refine Dw.eff (i := 19) (by kernel_rfl) (by kernel_rfl) ?_
        refine One.mk (o := _) (l := []) rfl (by kernel_rfl) (Want.none rfl) rfl (ltN rfl) ((QP.assign rfl rfl).eff) (by kernel_rfl) ?_
        rintro _ _ ⟨rfl, rfl⟩
        refine ⟨fun _ h => (by cases h), ?_⟩
        refine Dw.nil (by kernel_rfl) ?_
        refine hk16 _ _ ?_
        refine Run.seq fun k22 hk22 => ?_
        refine Run.region ?_
        show Sq _ _ _ [0] _ _ _ _
        refine Sq.quiet (i := 0) rfl (Want.none rfl) rfl (ltN rfl) (QP.move rfl rfl).read ?_
        refine Sq.nil ?_
        refine hk22 _ _ ?_
        refine Run.cond_f rfl ?_
        refine Run.skip ?_
        refine hk15 _ _ ?_
        refine Run.seq fun k23 hk23 => ?_
        refine Run.region ?_
        show Sq _ _ _ [0] _ _ _ _
        refine Sq.quiet (i := 0) rfl (Want.none rfl) rfl (ltN rfl) (QP.assign rfl rfl).read ?_
        refine Sq.nil ?_
        refine hk23 _ _ ?_
        refine Run.ret ?_
        exact J.ends (res_tmp rfl rfl) (.cons (by repeat constructor) (.cons (by repeat constructor) Takes.nil)) (.inr ⟨by unfold badH; rw [c21]; simpa using c26, rfl, _, _, fun hlt => absurd hlt (by omega), rfl⟩)
     ·skip
      refine Sq.quiet (i := 14) rfl (Want.yes rfl rfl rfl rfl) rfl (ltN rfl) (QP.not rfl rfl).read ?_
      refine Sq.quiet (i := 15) rfl (Want.none rfl) rfl (ltN rfl) (QP.pick_f rfl rfl rfl).read ?_
      refine Sq.quiet (i := 16) rfl (Want.none rfl) rfl (ltN rfl) (QP.move rfl rfl).read ?_
      refine Sq.skip (i := 17) rfl (Want.no rfl rfl rfl rfl) rfl (ltN rfl) ?_
      refine Sq.skip (i := 18) rfl (Want.no rfl rfl rfl rfl) rfl (ltN rfl) ?_
      refine Sq.skip (i := 19) rfl (Want.no rfl rfl rfl rfl) rfl (ltN rfl) ?_
      refine Sq.skip (i := 20) rfl (Want.no rfl rfl rfl rfl) rfl (ltN rfl) ?_
      refine Sq.skip (i := 21) rfl (Want.no rfl rfl rfl rfl) rfl (ltN rfl) ?_
      refine Sq.skip (i := 22) rfl (Want.no rfl rfl rfl rfl) rfl (ltN rfl) ?_
      refine Sq.quiet (i := 23) rfl (Want.none rfl) rfl (ltN rfl) (QP.pick_t rfl rfl rfl).read ?_
      refine Sq.nil ?_
      refine hk12 _ _ ?_
      refine Run.cond_t rfl ?_
      refine Run.seq fun k24 hk24 => ?_
      refine Run.region ?_
      show Sq _ _ _ [0] _ _ _ _
      refine Sq.quiet (i := 0) rfl (Want.none rfl) rfl (ltN rfl) (QP.assign rfl rfl).read ?_
      refine Sq.nil ?_
      refine hk24 _ _ ?_
      refine Run.ret ?_
      exact J.ends (res_tmp rfl rfl) (.cons (by repeat constructor) (.cons (by repeat constructor) Takes.nil)) (.inr ⟨by unfold badH; rw [c21]; simpa using c26, rfl, _, _, fun hlt => ⟨rfl, rfl⟩, rfl⟩)
   ·skip
    refine Sq.quiet (i := 2) rfl (Want.none rfl) rfl (ltN rfl) (QP.not rfl rfl).read ?_
    refine Sq.quiet (i := 3) rfl (Want.none rfl) rfl (ltN rfl) (QP.move rfl rfl).read ?_
    refine Sq.skip (i := 4) rfl (Want.no rfl rfl rfl rfl) rfl (ltN rfl) ?_
    refine Sq.skip (i := 5) rfl (Want.no rfl rfl rfl rfl) rfl (ltN rfl) ?_
    refine Sq.skip (i := 6) rfl (Want.no rfl rfl rfl rfl) rfl (ltN rfl) ?_
    refine Sq.skip (i := 7) rfl (Want.no rfl rfl rfl rfl) rfl (ltN rfl) ?_
    refine Sq.quiet (i := 8) rfl (Want.none rfl) rfl (ltN rfl) (QP.pick_t rfl rfl rfl).read ?_
    refine Sq.quiet (i := 9) rfl (Want.none rfl) rfl (ltN rfl) (QP.move rfl rfl).read ?_
    refine Sq.skip (i := 10) rfl (Want.no rfl rfl rfl rfl) rfl (ltN rfl) ?_
    refine Sq.skip (i := 11) rfl (Want.no rfl rfl rfl rfl) rfl (ltN rfl) ?_
    refine Sq.skip (i := 12) rfl (Want.no rfl rfl rfl rfl) rfl (ltN rfl) ?_
    refine Sq.skip (i := 13) rfl (Want.no rfl rfl rfl rfl) rfl (ltN rfl) ?_
    refine Sq.skip (i := 14) rfl (Want.no rfl rfl rfl rfl) rfl (ltN rfl) ?_
    refine Sq.quiet (i := 15) rfl (Want.none rfl) rfl (ltN rfl) (QP.pick_t rfl rfl rfl).read ?_
    refine Sq.quiet (i := 16) rfl (Want.none rfl) rfl (ltN rfl) (QP.move rfl rfl).read ?_
    refine Sq.skip (i := 17) rfl (Want.no rfl rfl rfl rfl) rfl (ltN rfl) ?_
    refine Sq.skip (i := 18) rfl (Want.no rfl rfl rfl rfl) rfl (ltN rfl) ?_
    refine Sq.skip (i := 19) rfl (Want.no rfl rfl rfl rfl) rfl (ltN rfl) ?_
    refine Sq.skip (i := 20) rfl (Want.no rfl rfl rfl rfl) rfl (ltN rfl) ?_
    refine Sq.skip (i := 21) rfl (Want.no rfl rfl rfl rfl) rfl (ltN rfl) ?_
    refine Sq.skip (i := 22) rfl (Want.no rfl rfl rfl rfl) rfl (ltN rfl) ?_
    refine Sq.quiet (i := 23) rfl (Want.none rfl) rfl (ltN rfl) (QP.pick_t rfl rfl rfl).read ?_
    refine Sq.nil ?_
    refine hk12 _ _ ?_
    refine Run.cond_t rfl ?_
    refine Run.seq fun k25 hk25 => ?_
    refine Run.region ?_
    show Sq _ _ _ [0] _ _ _ _
    refine Sq.quiet (i := 0) rfl (Want.none rfl) rfl (ltN rfl) (QP.assign rfl rfl).read ?_
    refine Sq.nil ?_
    refine hk25 _ _ ?_
    refine Run.ret ?_
    exact J.ends (res_tmp rfl rfl) (.cons (by repeat constructor) (.cons (by repeat constructor) Takes.nil)) (.inr ⟨by unfold badH; rw [c21]; simpa using c26, rfl, _, _, fun hlt => ⟨rfl, rfl⟩, rfl⟩)
 ·skip
  refine Sq.quiet (i := 3) rfl (Want.none rfl) rfl (ltN rfl) (QP.not rfl rfl).read ?_
  refine Sq.quiet (i := 4) rfl (Want.none rfl) rfl (ltN rfl) (QP.move rfl rfl).read ?_
  refine Sq.skip (i := 5) rfl (Want.no rfl rfl rfl rfl) rfl (ltN rfl) ?_
  refine Sq.skip (i := 6) rfl (Want.no rfl rfl rfl rfl) rfl (ltN rfl) ?_
  refine Sq.skip (i := 7) rfl (Want.no rfl rfl rfl rfl) rfl (ltN rfl) ?_
  refine Sq.quiet (i := 8) rfl (Want.none rfl) rfl (ltN rfl) (QP.pick_t rfl rfl rfl).read ?_
  refine Sq.quiet (i := 9) rfl (Want.none rfl) rfl (ltN rfl) (QP.assign rfl rfl).read ?_
  refine Sq.nil ?_
  refine hk4 _ _ ?_
  refine Run.cond_t rfl ?_
  refine Run.seq fun k26 hk26 => ?_
  refine Run.region ?_
  show Sq _ _ _ [0] _ _ _ _
  refine Sq.quiet (i := 0) rfl (Want.none rfl) rfl (ltN rfl) (QP.assign rfl rfl).read ?_
  refine Sq.nil ?_
  refine hk26 _ _ ?_
  refine Run.ret ?_
  exact J.ends (res_tmp rfl rfl) (.cons (by repeat constructor) (.cons (by repeat constructor) Takes.nil)) (.inl ⟨by unfold badH; rw [c21]; rfl, rfl, rfl⟩)

theorem rxQ_nil (F : Fr) (i : Int) (fr : Bs 16) : Spec Try.prog 16 #[.pointer none, .int .i64 i, .agg (Bs.enc (fr : Bs 16)).toArray] [] F (fun v S => v = .int .u16 65535 ∧ S = []) := by
 refine Spec.intro (N := 41) (args := [.pointer none, .int .i64 i, .agg (Bs.enc (fr : Bs 16)).toArray]) Try.func16 rfl rfl (by simp) ?_
 refine Run.seq fun k1 hk1 => ?_
 refine Run.region ?_
 show Sq _ _ _ [0, 1] _ _ _ _
 refine Sq.eff (i := 0) rfl (Want.none rfl) rfl (ltN rfl) (EF.boxA rfl rfl) ?_
 rintro _ _ ⟨b5, rfl, rfl⟩
 refine Sq.quiet (i := 1) rfl (Want.none rfl) rfl (ltN rfl) (QP.assign rfl rfl).read ?_
 refine Sq.nil ?_
 refine hk1 _ _ ?_
 refine Run.seq fun k2 hk2 => ?_
 refine Run.region ?_
 show Sq _ _ _ [0, 1, 2, 3, 4, 5, 6, 7, 8, 9] _ _ _ _
 refine Sq.quiet (i := 0) rfl (Want.none rfl) rfl (ltN rfl) (QP.move rfl rfl).read ?_
 refine Sq.quiet (i := 1) rfl (Want.none rfl) rfl (ltN rfl) (QP.move rfl rfl).read ?_
 refine Sq.quiet (i := 2) rfl (Want.none rfl) rfl (ltN rfl) (QR.load rfl rfl g29 (Bs.sub _)) ?_
 refine Sq.eff (i := 3) rfl (Want.none rfl) rfl (ltN rfl) (EF.call rfl ce17 rfl Takes.nil (fun F' hle hr => getQ_nil F' i fr)) ?_
 rintro _ _ ⟨_, ⟨rfl, rfl⟩, rfl⟩
 refine J.app ?_
 refine Sq.quiet (i := 4) rfl (Want.none rfl) rfl (ltN rfl) (QP.move rfl rfl).read ?_
 refine Sq.quiet (i := 5) rfl (Want.none rfl) rfl (ltN rfl) (QP.extract rfl rfl rfl).read ?_
 refine Sq.quiet (i := 6) rfl (Want.none rfl) rfl (ltN rfl) (QP.extract rfl rfl rfl).read ?_
 refine Sq.eff (i := 7) rfl (Want.none rfl) rfl (ltN rfl) (EF.allocA (l := Neighbour.enc Neighbour.zero) rfl zero54) ?_
 rintro _ _ ⟨b7, rfl, rfl⟩
 refine Sq.act (i := 8) rfl (Want.none rfl) rfl (EF.storeA rfl rfl rfl z54 (SetL.all (Neighbour.enc_len _) (Neighbour.enc_len _)) (Neighbour.enc_cell _)) ?_
 rintro _ _ rfl
 refine Sq.quiet (i := 9) rfl (Want.none rfl) rfl (ltN rfl) (QP.assign rfl rfl).read ?_
 refine Sq.nil ?_
 refine hk2 _ _ ?_
 refine Run.seq fun k3 hk3 => ?_
 refine Run.seq fun k4 hk4 => ?_
 refine Run.region ?_
 show Sq _ _ _ [0, 1] _ _ _ _
 refine Sq.quiet (i := 0) rfl (Want.none rfl) rfl (ltN rfl) (QP.move rfl rfl).read ?_
 refine Sq.quiet (i := 1) rfl (Want.none rfl) rfl (ltN rfl) (QP.not rfl rfl).read ?_
 refine Sq.nil ?_
 refine hk4 _ _ ?_
 refine Run.cond_t rfl ?_
 refine Run.seq fun k5 hk5 => ?_
 refine Run.region ?_
 show Sq _ _ _ [0] _ _ _ _
 refine Sq.quiet (i := 0) rfl (Want.none rfl) rfl (ltN rfl) (QP.assign rfl rfl).read ?_
 refine Sq.nil ?_
 refine hk5 _ _ ?_
 refine Run.ret ?_
 exact J.ends (res_tmp rfl rfl) Takes.nil ⟨rfl, rfl⟩

theorem costQ_nil (F : Fr) (i : Int) (fr : Bs 16) : Spec Try.prog 18 #[.pointer none, .int .i64 i, .agg (Bs.enc (fr : Bs 16)).toArray] [] F (fun v S => v = .int .u16 65535 ∧ S = []) := by
 refine Spec.intro (N := 51) (args := [.pointer none, .int .i64 i, .agg (Bs.enc (fr : Bs 16)).toArray]) Try.func18 rfl rfl (by simp) ?_
 refine Run.seq fun k1 hk1 => ?_
 refine Run.region ?_
 show Sq _ _ _ [0, 1] _ _ _ _
 refine Sq.eff (i := 0) rfl (Want.none rfl) rfl (ltN rfl) (EF.boxA rfl rfl) ?_
 rintro _ _ ⟨b5, rfl, rfl⟩
 refine Sq.quiet (i := 1) rfl (Want.none rfl) rfl (ltN rfl) (QP.assign rfl rfl).read ?_
 refine Sq.nil ?_
 refine hk1 _ _ ?_
 refine Run.seq fun k2 hk2 => ?_
 refine Run.region ?_
 show Sq _ _ _ [0, 1, 2, 3, 4, 5, 6, 7, 8, 9] _ _ _ _
 refine Sq.quiet (i := 0) rfl (Want.none rfl) rfl (ltN rfl) (QP.move rfl rfl).read ?_
 refine Sq.quiet (i := 1) rfl (Want.none rfl) rfl (ltN rfl) (QP.move rfl rfl).read ?_
 refine Sq.quiet (i := 2) rfl (Want.none rfl) rfl (ltN rfl) (QR.load rfl rfl g29 (Bs.sub _)) ?_
 refine Sq.eff (i := 3) rfl (Want.none rfl) rfl (ltN rfl) (EF.call rfl ce17 rfl Takes.nil (fun F' hle hr => getQ_nil F' i fr)) ?_
 rintro _ _ ⟨_, ⟨rfl, rfl⟩, rfl⟩
 refine J.app ?_
 refine Sq.quiet (i := 4) rfl (Want.none rfl) rfl (ltN rfl) (QP.move rfl rfl).read ?_
 refine Sq.quiet (i := 5) rfl (Want.none rfl) rfl (ltN rfl) (QP.extract rfl rfl rfl).read ?_
 refine Sq.quiet (i := 6) rfl (Want.none rfl) rfl (ltN rfl) (QP.extract rfl rfl rfl).read ?_
 refine Sq.eff (i := 7) rfl (Want.none rfl) rfl (ltN rfl) (EF.allocA (l := Neighbour.enc Neighbour.zero) rfl zero54) ?_
 rintro _ _ ⟨b7, rfl, rfl⟩
 refine Sq.act (i := 8) rfl (Want.none rfl) rfl (EF.storeA rfl rfl rfl z54 (SetL.all (Neighbour.enc_len _) (Neighbour.enc_len _)) (Neighbour.enc_cell _)) ?_
 rintro _ _ rfl
 refine Sq.quiet (i := 9) rfl (Want.none rfl) rfl (ltN rfl) (QP.assign rfl rfl).read ?_
 refine Sq.nil ?_
 refine hk2 _ _ ?_
 refine Run.seq fun k3 hk3 => ?_
 refine Run.seq fun k4 hk4 => ?_
 refine Run.region ?_
 show Sq _ _ _ [0, 1] _ _ _ _
 refine Sq.quiet (i := 0) rfl (Want.none rfl) rfl (ltN rfl) (QP.move rfl rfl).read ?_
 refine Sq.quiet (i := 1) rfl (Want.none rfl) rfl (ltN rfl) (QP.not rfl rfl).read ?_
 refine Sq.nil ?_
 refine hk4 _ _ ?_
 refine Run.cond_t rfl ?_
 refine Run.seq fun k5 hk5 => ?_
 refine Run.region ?_
 show Sq _ _ _ [0] _ _ _ _
 refine Sq.quiet (i := 0) rfl (Want.none rfl) rfl (ltN rfl) (QP.assign rfl rfl).read ?_
 refine Sq.nil ?_
 refine hk5 _ _ ?_
 refine Run.ret ?_
 exact J.ends (res_tmp rfl rfl) Takes.nil ⟨rfl, rfl⟩

theorem rxQ_none (F : Fr) {b r : Nat} {most : Int} {q : Slc} {E : EntN} (hf : InN F b r most q E)(j : I64) (fr : Bs 16) (h0 : alook E ⟨j, fr⟩ = none)  : Spec Try.prog 16 #[.pointer (some ⟨b, 0, none⟩), .int .i64 (j : I64).val, .agg (Bs.enc (fr : Bs 16)).toArray] [mapN r (ptrs E)] F (fun v S => v = .int .u16 65535 ∧ S = [mapN r (ptrs E)]) := by
 refine Spec.intro (N := 41) (args := [.pointer (some ⟨b, 0, none⟩), .int .i64 (j : I64).val, .agg (Bs.enc (fr : Bs 16)).toArray]) Try.func16 rfl rfl (by simp) ?_
 refine Run.seq fun k1 hk1 => ?_
 refine Run.region ?_
 show Sq _ _ _ [0, 1] _ _ _ _
 refine Sq.eff (i := 0) rfl (Want.none rfl) rfl (ltN rfl) (EF.boxA rfl rfl) ?_
 rintro _ _ ⟨b5, rfl, rfl⟩
 refine Sq.quiet (i := 1) rfl (Want.none rfl) rfl (ltN rfl) (QP.assign rfl rfl).read ?_
 refine Sq.nil ?_
 refine hk1 _ _ ?_
 refine Run.seq fun k2 hk2 => ?_
 refine Run.region ?_
 show Sq _ _ _ [0, 1, 2, 3, 4, 5, 6, 7, 8, 9] _ _ _ _
 refine Sq.quiet (i := 0) rfl (Want.none rfl) rfl (ltN rfl) (QP.move rfl rfl).read ?_
 refine Sq.quiet (i := 1) rfl (Want.none rfl) rfl (ltN rfl) (QP.move rfl rfl).read ?_
 refine Sq.quiet (i := 2) rfl (Want.none rfl) rfl (ltN rfl) (QR.load rfl rfl g29 (Bs.sub _)) ?_
 refine Sq.eff (i := 3) rfl (Want.none rfl) rfl (ltN rfl) (EF.call rfl ce17 rfl (.cons (by repeat constructor) Takes.nil) (fun F' hle hr => getQ_none F' (hf.mono hle) j fr h0)) ?_
 rintro _ _ ⟨_, ⟨rfl, rfl⟩, rfl⟩
 refine J.app ?_
 refine Sq.quiet (i := 4) rfl (Want.none rfl) rfl (ltN rfl) (QP.move rfl rfl).read ?_
 refine Sq.quiet (i := 5) rfl (Want.none rfl) rfl (ltN rfl) (QP.extract rfl rfl rfl).read ?_
 refine Sq.quiet (i := 6) rfl (Want.none rfl) rfl (ltN rfl) (QP.extract rfl rfl rfl).read ?_
 refine Sq.eff (i := 7) rfl (Want.none rfl) rfl (ltN rfl) (EF.allocA (l := Neighbour.enc Neighbour.zero) rfl zero54) ?_
 rintro _ _ ⟨b7, rfl, rfl⟩
 refine Sq.act (i := 8) rfl (Want.none rfl) rfl (EF.storeA rfl rfl rfl z54 (SetL.all (Neighbour.enc_len _) (Neighbour.enc_len _)) (Neighbour.enc_cell _)) ?_
 rintro _ _ rfl
 refine Sq.quiet (i := 9) rfl (Want.none rfl) rfl (ltN rfl) (QP.assign rfl rfl).read ?_
 refine Sq.nil ?_
 refine hk2 _ _ ?_
 refine Run.seq fun k3 hk3 => ?_
 refine Run.seq fun k4 hk4 => ?_
 refine Run.region ?_
 show Sq _ _ _ [0, 1] _ _ _ _
 refine Sq.quiet (i := 0) rfl (Want.none rfl) rfl (ltN rfl) (QP.move rfl rfl).read ?_
 refine Sq.quiet (i := 1) rfl (Want.none rfl) rfl (ltN rfl) (QP.not rfl rfl).read ?_
 refine Sq.nil ?_
 refine hk4 _ _ ?_
 refine Run.cond_t rfl ?_
 refine Run.seq fun k5 hk5 => ?_
 refine Run.region ?_
 show Sq _ _ _ [0] _ _ _ _
 refine Sq.quiet (i := 0) rfl (Want.none rfl) rfl (ltN rfl) (QP.assign rfl rfl).read ?_
 refine Sq.nil ?_
 refine hk5 _ _ ?_
 refine Run.ret ?_
 exact J.ends (res_tmp rfl rfl) (.cons (by repeat constructor) Takes.nil) ⟨rfl, rfl⟩

theorem costQ_none (F : Fr) {b r : Nat} {most : Int} {q : Slc} {E : EntN} (hf : InN F b r most q E)(j : I64) (fr : Bs 16) (h0 : alook E ⟨j, fr⟩ = none)  : Spec Try.prog 18 #[.pointer (some ⟨b, 0, none⟩), .int .i64 (j : I64).val, .agg (Bs.enc (fr : Bs 16)).toArray] [mapN r (ptrs E)] F (fun v S => v = .int .u16 65535 ∧ S = [mapN r (ptrs E)]) := by
 refine Spec.intro (N := 51) (args := [.pointer (some ⟨b, 0, none⟩), .int .i64 (j : I64).val, .agg (Bs.enc (fr : Bs 16)).toArray]) Try.func18 rfl rfl (by simp) ?_
 refine Run.seq fun k1 hk1 => ?_
 refine Run.region ?_
 show Sq _ _ _ [0, 1] _ _ _ _
 refine Sq.eff (i := 0) rfl (Want.none rfl) rfl (ltN rfl) (EF.boxA rfl rfl) ?_
 rintro _ _ ⟨b5, rfl, rfl⟩
 refine Sq.quiet (i := 1) rfl (Want.none rfl) rfl (ltN rfl) (QP.assign rfl rfl).read ?_
 refine Sq.nil ?_
 refine hk1 _ _ ?_
 refine Run.seq fun k2 hk2 => ?_
 refine Run.region ?_
 show Sq _ _ _ [0, 1, 2, 3, 4, 5, 6, 7, 8, 9] _ _ _ _
 refine Sq.quiet (i := 0) rfl (Want.none rfl) rfl (ltN rfl) (QP.move rfl rfl).read ?_
 refine Sq.quiet (i := 1) rfl (Want.none rfl) rfl (ltN rfl) (QP.move rfl rfl).read ?_
 refine Sq.quiet (i := 2) rfl (Want.none rfl) rfl (ltN rfl) (QR.load rfl rfl g29 (Bs.sub _)) ?_
 refine Sq.eff (i := 3) rfl (Want.none rfl) rfl (ltN rfl) (EF.call rfl ce17 rfl (.cons (by repeat constructor) Takes.nil) (fun F' hle hr => getQ_none F' (hf.mono hle) j fr h0)) ?_
 rintro _ _ ⟨_, ⟨rfl, rfl⟩, rfl⟩
 refine J.app ?_
 refine Sq.quiet (i := 4) rfl (Want.none rfl) rfl (ltN rfl) (QP.move rfl rfl).read ?_
 refine Sq.quiet (i := 5) rfl (Want.none rfl) rfl (ltN rfl) (QP.extract rfl rfl rfl).read ?_
 refine Sq.quiet (i := 6) rfl (Want.none rfl) rfl (ltN rfl) (QP.extract rfl rfl rfl).read ?_
 refine Sq.eff (i := 7) rfl (Want.none rfl) rfl (ltN rfl) (EF.allocA (l := Neighbour.enc Neighbour.zero) rfl zero54) ?_
 rintro _ _ ⟨b7, rfl, rfl⟩
 refine Sq.act (i := 8) rfl (Want.none rfl) rfl (EF.storeA rfl rfl rfl z54 (SetL.all (Neighbour.enc_len _) (Neighbour.enc_len _)) (Neighbour.enc_cell _)) ?_
 rintro _ _ rfl
 refine Sq.quiet (i := 9) rfl (Want.none rfl) rfl (ltN rfl) (QP.assign rfl rfl).read ?_
 refine Sq.nil ?_
 refine hk2 _ _ ?_
 refine Run.seq fun k3 hk3 => ?_
 refine Run.seq fun k4 hk4 => ?_
 refine Run.region ?_
 show Sq _ _ _ [0, 1] _ _ _ _
 refine Sq.quiet (i := 0) rfl (Want.none rfl) rfl (ltN rfl) (QP.move rfl rfl).read ?_
 refine Sq.quiet (i := 1) rfl (Want.none rfl) rfl (ltN rfl) (QP.not rfl rfl).read ?_
 refine Sq.nil ?_
 refine hk4 _ _ ?_
 refine Run.cond_t rfl ?_
 refine Run.seq fun k5 hk5 => ?_
 refine Run.region ?_
 show Sq _ _ _ [0] _ _ _ _
 refine Sq.quiet (i := 0) rfl (Want.none rfl) rfl (ltN rfl) (QP.assign rfl rfl).read ?_
 refine Sq.nil ?_
 refine hk5 _ _ ?_
 refine Run.ret ?_
 exact J.ends (res_tmp rfl rfl) (.cons (by repeat constructor) Takes.nil) ⟨rfl, rfl⟩

/-- What it costs to hear a neighbour on a wire. -/
def rxN (cf : IfConf) (s : Neighbour) : Int := rxs (IntKind.u16.wrap cf.cost) [s.multi, s.uni]
theorem ok2 {s : Neighbour} (h : OkHist s) : ∀ x ∈ [s.multi, s.uni], hBits x := by
  intro x hx
  simp only [List.mem_cons, List.not_mem_nil, or_false] at hx
  rcases hx with rfl | rfl
  · exact h.1
  · exact h.2

theorem rxQ_some (F : Fr) {b r : Nat} {most : Int} {q : Slc} {E : EntN} (hf : InN F b r most q E){ifs : List IfConf} (hqn : q.n = ifs.length) (hia : ArgSl F q.a 43 IfConf.enc ifs) (j : I64) (fr : Bs 16) {c : Nat} {s : Neighbour} (h0 : alook E ⟨j, fr⟩ = some (c, s)) {cf : IfConf} (hci : ifs[Int.toNat j.val]? = some cf) (hj : 0 ≤ j.val ∧ j.val < q.n) (hok : OkHist s)  : Spec Try.prog 16 #[.pointer (some ⟨b, 0, none⟩), .int .i64 (j : I64).val, .agg (Bs.enc (fr : Bs 16)).toArray] [mapN r (ptrs E)] F (fun v S => ∃ n, v = .int .u16 n ∧ (cf.kind = 0 → n = rxN cf s) ∧ S = [mapN r (ptrs E)]) := by
 refine Spec.intro (N := 41) (args := [.pointer (some ⟨b, 0, none⟩), .int .i64 (j : I64).val, .agg (Bs.enc (fr : Bs 16)).toArray]) Try.func16 rfl rfl (by simp) ?_
 refine Run.seq fun k1 hk1 => ?_
 refine Run.region ?_
 show Sq _ _ _ [0, 1] _ _ _ _
 refine Sq.eff (i := 0) rfl (Want.none rfl) rfl (ltN rfl) (EF.boxA rfl rfl) ?_
 rintro _ _ ⟨b5, rfl, rfl⟩
 refine Sq.quiet (i := 1) rfl (Want.none rfl) rfl (ltN rfl) (QP.assign rfl rfl).read ?_
 refine Sq.nil ?_
 refine hk1 _ _ ?_
 refine Run.seq fun k2 hk2 => ?_
 refine Run.region ?_
 show Sq _ _ _ [0, 1, 2, 3, 4, 5, 6, 7, 8, 9] _ _ _ _
 refine Sq.quiet (i := 0) rfl (Want.none rfl) rfl (ltN rfl) (QP.move rfl rfl).read ?_
 refine Sq.quiet (i := 1) rfl (Want.none rfl) rfl (ltN rfl) (QP.move rfl rfl).read ?_
 refine Sq.quiet (i := 2) rfl (Want.none rfl) rfl (ltN rfl) (QR.load rfl rfl g29 (Bs.sub _)) ?_
 refine Sq.eff (i := 3) rfl (Want.none rfl) rfl (ltN rfl) (EF.call rfl ce17 rfl (.cons (by repeat constructor) Takes.nil) (fun F' hle hr => getQ_some F' (hf.mono hle) j fr h0)) ?_
 rintro _ _ ⟨_, ⟨rfl, rfl⟩, rfl⟩
 refine J.app ?_
 refine Sq.quiet (i := 4) rfl (Want.none rfl) rfl (ltN rfl) (QP.move rfl rfl).read ?_
 refine Sq.quiet (i := 5) rfl (Want.none rfl) rfl (ltN rfl) (QP.extract rfl rfl rfl).read ?_
 refine Sq.quiet (i := 6) rfl (Want.none rfl) rfl (ltN rfl) (QP.extract rfl rfl rfl).read ?_
 refine Sq.eff (i := 7) rfl (Want.none rfl) rfl (ltN rfl) (EF.allocA (l := Neighbour.enc Neighbour.zero) rfl zero54) ?_
 rintro _ _ ⟨b7, rfl, rfl⟩
 refine Sq.act (i := 8) rfl (Want.none rfl) rfl (EF.storeA rfl rfl rfl z54 (SetL.all (Neighbour.enc_len _) (Neighbour.enc_len _)) (Neighbour.enc_cell _)) ?_
 rintro _ _ rfl
 refine Sq.quiet (i := 9) rfl (Want.none rfl) rfl (ltN rfl) (QP.assign rfl rfl).read ?_
 refine Sq.nil ?_
 refine hk2 _ _ ?_
 refine Run.seq fun k3 hk3 => ?_
 refine Run.seq fun k4 hk4 => ?_
 refine Run.region ?_
 show Sq _ _ _ [0, 1] _ _ _ _
 refine Sq.quiet (i := 0) rfl (Want.none rfl) rfl (ltN rfl) (QP.move rfl rfl).read ?_
 refine Sq.quiet (i := 1) rfl (Want.none rfl) rfl (ltN rfl) (QP.not rfl rfl).read ?_
 refine Sq.nil ?_
 refine hk4 _ _ ?_
 refine Run.cond_f rfl ?_
 refine Run.skip ?_
 refine hk3 _ _ ?_
 refine Run.seq fun k5 hk5 => ?_
 refine Run.regionD (M := [0, 1, 3, 7, 0, 31, 63, 127, 0, 256, 768, 1792, 0, 7936, 16128, 32512, 65280, 0, 131072, 0, 524288, 1966080, 4194303, 8388607]) (q := 2097151) (r := 1345672) (by kernel_rfl) ?_
 obtain ⟨b2, o2, hqa, hsI⟩ := hia.get (by omega)
 have hqv : Slc.v q = .slice (some ⟨b2, o2, none⟩) ifs.length q.c := by rw [← hqn, ← hqa]; rfl
 have hqS : SubL (NeighTable.enc ⟨most, q, some r⟩) 1 1 [.slice (some ⟨b2, o2, none⟩) ifs.length q.c] := by
   have h9 := NeighTable.sub_ifs (⟨most, q, some r⟩ : NeighTable)
   rw [show Slc.v (NeighTable.ifs ⟨most, q, some r⟩) = _ from hqv] at h9
   exact h9
 refine Dw.pure (i := 0) rfl (by kernel_rfl) (Want.none rfl) rfl (ltN rfl) (QP.move rfl rfl) ?_
 refine Dw.pure (i := 1) rfl (by kernel_rfl) (Want.none rfl) rfl (ltN rfl) (QP.nilCheck rfl rfl) ?_
 refine Dw.pure (i := 2) rfl (by kernel_rfl) (Want.none rfl) rfl (ltN rfl) (QP.fieldAddr rfl rfl f77_1) ?_
 refine Dw.read (i := 3) rfl (by kernel_rfl) (Want.none rfl) rfl (ltN rfl) (QR.load1F (v := .slice (some ⟨b2, o2, none⟩) ifs.length q.c) rfl rfl g22 hf.tb hqS) ?_
 refine Dw.pure (i := 4) rfl (by kernel_rfl) (Want.none rfl) rfl (ltN rfl) (QP.move rfl rfl) ?_
 refine Dw.pure (i := 5) rfl (by kernel_rfl) (Want.none rfl) rfl (ltN rfl) (QP.indexAddr rfl rfl rfl Try.underlying22 z60 (by first | omega | (simp <;> omega)) (by first | omega | (simp <;> omega))) ?_
 refine Dw.pure (i := 6) rfl (by kernel_rfl) (Want.none rfl) rfl (ltN rfl) (QP.fieldAddr rfl rfl f60_1) ?_
 refine Dw.read (i := 7) rfl (by kernel_rfl) (Want.none rfl) rfl (ltN rfl) (QR.loadSlF1 rfl rfl g3 IfConf.enc_len (hsI _) hci (IfConf.sub_kind _)) ?_
 refine Dw.pure (i := 8) rfl (by kernel_rfl) (Want.none rfl) rfl (ltN rfl) (QP.move rfl rfl) ?_
 refine Dw.pure (i := 9) rfl (by kernel_rfl) (Want.none rfl) rfl (ltN rfl) (QP.nilCheck rfl rfl) ?_
 refine Dw.pure (i := 10) rfl (by kernel_rfl) (Want.none rfl) rfl (ltN rfl) (QP.fieldAddr rfl rfl f77_1) ?_
 refine Dw.read (i := 11) rfl (by kernel_rfl) (Want.none rfl) rfl (ltN rfl) (QR.load1F (v := .slice (some ⟨b2, o2, none⟩) ifs.length q.c) rfl rfl g22 hf.tb hqS) ?_
 refine Dw.pure (i := 12) rfl (by kernel_rfl) (Want.none rfl) rfl (ltN rfl) (QP.move rfl rfl) ?_
 refine Dw.pure (i := 13) rfl (by kernel_rfl) (Want.none rfl) rfl (ltN rfl) (QP.indexAddr rfl rfl rfl Try.underlying22 z60 (by first | omega | (simp <;> omega)) (by first | omega | (simp <;> omega))) ?_
 refine Dw.pure (i := 14) rfl (by kernel_rfl) (Want.none rfl) rfl (ltN rfl) (QP.fieldAddr rfl rfl f60_2) ?_
 refine Dw.read (i := 15) rfl (by kernel_rfl) (Want.none rfl) rfl (ltN rfl) (QR.loadSlF1 rfl rfl g3 IfConf.enc_len (hsI _) hci (IfConf.sub_cost _)) ?_
 refine Dw.pure (i := 16) rfl (by kernel_rfl) (Want.none rfl) rfl (ltN rfl) (QP.conv rfl rfl Try.underlying3 Try.underlying30) ?_
 refine Dw.pure (i := 17) rfl (by kernel_rfl) (Want.none rfl) rfl (ltN rfl) (QP.fieldAddr rfl rfl f54_2) ?_
 refine Dw.read (i := 18) rfl (by kernel_rfl) (Want.none rfl) rfl (ltN rfl) (QR.load rfl rfl g51 (Neighbour.sub_multi _)) ?_
 refine Dw.pure (i := 19) rfl (by kernel_rfl) (Want.none rfl) rfl (ltN rfl) (QP.fieldAddr rfl rfl f54_3) ?_
 refine Dw.read (i := 20) rfl (by kernel_rfl) (Want.none rfl) rfl (ltN rfl) (QR.load rfl rfl g51 (Neighbour.sub_uni _)) ?_
 refine Dw.eff (i := 21) (by kernel_rfl) (by kernel_rfl) ?_
 refine One.mk (o := _) (l := [15, 11, 7, 3]) rfl (by kernel_rfl) (Want.none rfl) rfl (ltN rfl) (EF.buildSliceN (enc := History.enc) (xs := [(s).multi, (s).uni]) rfl Try.underlying116 z51 zero51 (by simp [Value.cells, History.enc_len]) (by decide) rfl rfl rfl History.enc_len (by decide)) (by kernel_rfl) ?_
 rintro _ _ ⟨b39, rfl, rfl⟩
 refine ⟨?_, ?_⟩
 ·rw [List.forall_mem_cons, List.forall_mem_cons, List.forall_mem_cons, List.forall_mem_cons]
  refine ⟨?_, ?_, ?_, ?_, fun _ h => (by cases h)⟩
  ·exact Look.mk rfl rfl rfl (QR.loadSlF1 rfl rfl g3 IfConf.enc_len (hsI _) hci (IfConf.sub_cost _))
  ·exact Look.mk rfl rfl rfl (QR.load1F (v := .slice (some ⟨b2, o2, none⟩) ifs.length q.c) rfl rfl g22 hf.tb hqS)
  ·exact Look.mk rfl rfl rfl (QR.loadSlF1 rfl rfl g3 IfConf.enc_len (hsI _) hci (IfConf.sub_kind _))
  ·exact Look.mk rfl rfl rfl (QR.load1F (v := .slice (some ⟨b2, o2, none⟩) ifs.length q.c) rfl rfl g22 hf.tb hqS)
 refine ?_
 refine Dw.eff (i := 22) (by kernel_rfl) (by kernel_rfl) ?_
 refine One.mk (o := _) (l := []) rfl (by kernel_rfl) (Want.none rfl) rfl (ltN rfl) (EF.call rfl ce36 rfl Takes.nil (fun F' hle hr => rxAll_spec F' cf.kind (IntKind.u16.wrap cf.cost) [s.multi, s.uni] (by simp) (ok2 hok) (fun _ => SlAt.frZ History.enc_len (hr _ _ (by repeat constructor)) [] [] (by simp) rfl))) (by kernel_rfl) ?_
 rintro _ _ ⟨_, ⟨n40, rfl, hn40, rfl⟩, rfl⟩
 refine ⟨fun _ h => (by cases h), ?_⟩
 refine J.app ?_
 refine Dw.eff (i := 23) (by kernel_rfl) (by kernel_rfl) ?_
 refine One.mk (o := _) (l := []) rfl (by kernel_rfl) (Want.none rfl) rfl (ltN rfl) ((QP.assign rfl rfl).eff) (by kernel_rfl) ?_
 rintro _ _ ⟨rfl, rfl⟩
 refine ⟨fun _ h => (by cases h), ?_⟩
 refine Dw.nil (by kernel_rfl) ?_
 refine hk5 _ _ ?_
 refine Run.ret ?_
 exact J.ends (res_tmp rfl rfl) (.cons (by repeat constructor) Takes.nil) ⟨_, rfl, hn40, rfl⟩

theorem costQ_some (F : Fr) {b r : Nat} {most : Int} {q : Slc} {E : EntN} (hf : InN F b r most q E){ifs : List IfConf} (hqn : q.n = ifs.length) (hia : ArgSl F q.a 43 IfConf.enc ifs) (j : I64) (fr : Bs 16) {c : Nat} {s : Neighbour} (h0 : alook E ⟨j, fr⟩ = some (c, s)) {cf : IfConf} (hci : ifs[Int.toNat j.val]? = some cf) (hj : 0 ≤ j.val ∧ j.val < q.n) (hok : OkHist s) (hrt : RttOk cf.rtt)  : Spec Try.prog 18 #[.pointer (some ⟨b, 0, none⟩), .int .i64 (j : I64).val, .agg (Bs.enc (fr : Bs 16)).toArray] [mapN r (ptrs E)] F (fun v S => ∃ n R, v = .int .u16 n ∧ (cf.kind = 0 → R = rxN cf s) ∧ ((R = 65535 ∨ s.tx = 65535) → n = 65535) ∧ (R ≠ 65535 → s.tx ≠ 65535 → cf.kind = 0 → s.hasRtt = false → n = s.tx) ∧ S = [mapN r (ptrs E)]) := by
 refine Spec.intro (N := 51) (args := [.pointer (some ⟨b, 0, none⟩), .int .i64 (j : I64).val, .agg (Bs.enc (fr : Bs 16)).toArray]) Try.func18 rfl rfl (by simp) ?_
 refine Run.seq fun k1 hk1 => ?_
 refine Run.region ?_
 show Sq _ _ _ [0, 1] _ _ _ _
 refine Sq.eff (i := 0) rfl (Want.none rfl) rfl (ltN rfl) (EF.boxA rfl rfl) ?_
 rintro _ _ ⟨b5, rfl, rfl⟩
 refine Sq.quiet (i := 1) rfl (Want.none rfl) rfl (ltN rfl) (QP.assign rfl rfl).read ?_
 refine Sq.nil ?_
 refine hk1 _ _ ?_
 refine Run.seq fun k2 hk2 => ?_
 refine Run.region ?_
 show Sq _ _ _ [0, 1, 2, 3, 4, 5, 6, 7, 8, 9] _ _ _ _
 refine Sq.quiet (i := 0) rfl (Want.none rfl) rfl (ltN rfl) (QP.move rfl rfl).read ?_
 refine Sq.quiet (i := 1) rfl (Want.none rfl) rfl (ltN rfl) (QP.move rfl rfl).read ?_
 refine Sq.quiet (i := 2) rfl (Want.none rfl) rfl (ltN rfl) (QR.load rfl rfl g29 (Bs.sub _)) ?_
 refine Sq.eff (i := 3) rfl (Want.none rfl) rfl (ltN rfl) (EF.call rfl ce17 rfl (.cons (by repeat constructor) Takes.nil) (fun F' hle hr => getQ_some F' (hf.mono hle) j fr h0)) ?_
 rintro _ _ ⟨_, ⟨rfl, rfl⟩, rfl⟩
 refine J.app ?_
 refine Sq.quiet (i := 4) rfl (Want.none rfl) rfl (ltN rfl) (QP.move rfl rfl).read ?_
 refine Sq.quiet (i := 5) rfl (Want.none rfl) rfl (ltN rfl) (QP.extract rfl rfl rfl).read ?_
 refine Sq.quiet (i := 6) rfl (Want.none rfl) rfl (ltN rfl) (QP.extract rfl rfl rfl).read ?_
 refine Sq.eff (i := 7) rfl (Want.none rfl) rfl (ltN rfl) (EF.allocA (l := Neighbour.enc Neighbour.zero) rfl zero54) ?_
 rintro _ _ ⟨b7, rfl, rfl⟩
 refine Sq.act (i := 8) rfl (Want.none rfl) rfl (EF.storeA rfl rfl rfl z54 (SetL.all (Neighbour.enc_len _) (Neighbour.enc_len _)) (Neighbour.enc_cell _)) ?_
 rintro _ _ rfl
 refine Sq.quiet (i := 9) rfl (Want.none rfl) rfl (ltN rfl) (QP.assign rfl rfl).read ?_
 refine Sq.nil ?_
 refine hk2 _ _ ?_
 refine Run.seq fun k3 hk3 => ?_
 refine Run.seq fun k4 hk4 => ?_
 refine Run.region ?_
 show Sq _ _ _ [0, 1] _ _ _ _
 refine Sq.quiet (i := 0) rfl (Want.none rfl) rfl (ltN rfl) (QP.move rfl rfl).read ?_
 refine Sq.quiet (i := 1) rfl (Want.none rfl) rfl (ltN rfl) (QP.not rfl rfl).read ?_
 refine Sq.nil ?_
 refine hk4 _ _ ?_
 refine Run.cond_f rfl ?_
 refine Run.skip ?_
 refine hk3 _ _ ?_
 refine Run.seq fun k5 hk5 => ?_
 refine Run.regionD (M := [0, 1, 3, 7, 0, 31, 63, 127, 0, 0, 0, 1792, 0, 4096, 16383, 32767]) (q := 14335) (r := 9352) (by kernel_rfl) ?_
 obtain ⟨b2, o2, hqa, hsI⟩ := hia.get (by omega)
 have hqv : Slc.v q = .slice (some ⟨b2, o2, none⟩) ifs.length q.c := by rw [← hqn, ← hqa]; rfl
 have hqS : SubL (NeighTable.enc ⟨most, q, some r⟩) 1 1 [.slice (some ⟨b2, o2, none⟩) ifs.length q.c] := by
   have h9 := NeighTable.sub_ifs (⟨most, q, some r⟩ : NeighTable)
   rw [show Slc.v (NeighTable.ifs ⟨most, q, some r⟩) = _ from hqv] at h9
   exact h9
 refine Dw.pure (i := 0) rfl (by kernel_rfl) (Want.none rfl) rfl (ltN rfl) (QP.move rfl rfl) ?_
 refine Dw.pure (i := 1) rfl (by kernel_rfl) (Want.none rfl) rfl (ltN rfl) (QP.nilCheck rfl rfl) ?_
 refine Dw.pure (i := 2) rfl (by kernel_rfl) (Want.none rfl) rfl (ltN rfl) (QP.fieldAddr rfl rfl f77_1) ?_
 refine Dw.read (i := 3) rfl (by kernel_rfl) (Want.none rfl) rfl (ltN rfl) (QR.load1F (v := .slice (some ⟨b2, o2, none⟩) ifs.length q.c) rfl rfl g22 hf.tb hqS) ?_
 refine Dw.pure (i := 4) rfl (by kernel_rfl) (Want.none rfl) rfl (ltN rfl) (QP.move rfl rfl) ?_
 refine Dw.pure (i := 5) rfl (by kernel_rfl) (Want.none rfl) rfl (ltN rfl) (QP.indexAddr rfl rfl rfl Try.underlying22 z60 (by first | omega | (simp <;> omega)) (by first | omega | (simp <;> omega))) ?_
 refine Dw.pure (i := 6) rfl (by kernel_rfl) (Want.none rfl) rfl (ltN rfl) (QP.fieldAddr rfl rfl f60_1) ?_
 refine Dw.read (i := 7) rfl (by kernel_rfl) (Want.none rfl) rfl (ltN rfl) (QR.loadSlF1 rfl rfl g3 IfConf.enc_len (hsI _) hci (IfConf.sub_kind _)) ?_
 refine Dw.pure (i := 8) rfl (by kernel_rfl) (Want.none rfl) rfl (ltN rfl) (QP.move rfl rfl) ?_
 refine Dw.pure (i := 9) rfl (by kernel_rfl) (Want.none rfl) rfl (ltN rfl) (QP.move rfl rfl) ?_
 refine Dw.read (i := 10) rfl (by kernel_rfl) (Want.none rfl) rfl (ltN rfl) (QR.load rfl rfl g29 (Bs.sub _)) ?_
 refine Dw.pure (i := 12) rfl (by kernel_rfl) (Want.none rfl) rfl (ltN rfl) (QP.fieldAddr rfl rfl f54_8) ?_
 refine Dw.read (i := 13) rfl (by kernel_rfl) (Want.none rfl) rfl (ltN rfl) (QR.load1 rfl rfl g30 (Neighbour.sub_tx _)) ?_
 refine Dw.eff (i := 11) (by kernel_rfl) (by kernel_rfl) ?_
 refine One.mk (o := _) (l := [13, 7, 3]) rfl (by kernel_rfl) (Want.none rfl) rfl (ltN rfl) (EF.call rfl ce16 rfl (.cons (by repeat constructor) Takes.nil) (fun F' hle hr => rxQ_some F' (hf.mono hle) hqn (hia.mono hle) j fr h0 hci hj hok)) (by kernel_rfl) ?_
 rintro _ _ ⟨_, ⟨n30, rfl, hn30, rfl⟩, rfl⟩
 refine ⟨?_, ?_⟩
 ·rw [List.forall_mem_cons, List.forall_mem_cons, List.forall_mem_cons]
  refine ⟨?_, ?_, ?_, fun _ h => (by cases h)⟩
  ·refine Look.app ?_
   exact Look.mk rfl rfl rfl (QR.load1 rfl rfl g30 (Neighbour.sub_tx _))
  ·refine Look.app ?_
   exact Look.mk rfl rfl rfl (QR.loadSlF1 rfl rfl g3 IfConf.enc_len (hsI _) hci (IfConf.sub_kind _))
  ·refine Look.app ?_
   exact Look.mk rfl rfl rfl (QR.load1F (v := .slice (some ⟨b2, o2, none⟩) ifs.length q.c) rfl rfl g22 hf.tb hqS)
 refine ?_
 refine J.app ?_
 refine Dw.eff (i := 14) (by kernel_rfl) (by kernel_rfl) ?_
 refine One.mk (o := _) (l := []) rfl (by kernel_rfl) (Want.none rfl) rfl (ltN rfl) (EF.call rfl ce37 rfl Takes.nil (fun F' hle hr => lcost_spec F' cf.kind n30 s.tx)) (by kernel_rfl) ?_
 rintro _ _ ⟨_, ⟨n33, rfl, hlc1, hlc2, rfl⟩, rfl⟩
 refine ⟨fun _ h => (by cases h), ?_⟩
 refine J.app ?_
 refine Dw.eff (i := 15) (by kernel_rfl) (by kernel_rfl) ?_
 refine One.mk (o := _) (l := []) rfl (by kernel_rfl) (Want.none rfl) rfl (ltN rfl) ((QP.assign rfl rfl).eff) (by kernel_rfl) ?_
 rintro _ _ ⟨rfl, rfl⟩
 refine ⟨fun _ h => (by cases h), ?_⟩
 refine Dw.nil (by kernel_rfl) ?_
 refine hk5 _ _ ?_
 refine Run.seq fun k6 hk6 => ?_
 refine Run.seq fun k7 hk7 => ?_
 refine Run.region ?_
 show Sq _ _ _ [0, 1] _ _ _ _
 refine Sq.quiet (i := 0) rfl (Want.none rfl) rfl (ltN rfl) (QP.fieldAddr rfl rfl f54_14).read ?_
 refine Sq.quiet (i := 1) rfl (Want.none rfl) rfl (ltN rfl) (QR.load1 rfl rfl g4 (Neighbour.sub_hasRtt _)) ?_
 refine J.caseB (fun c35 => ?_) (fun c35 => ?_)
 ·skip
  refine Sq.nil ?_
  refine hk7 _ _ ?_
  refine Run.cond_t rfl ?_
  refine Run.regionD (M := [0, 0, 2, 6, 14, 0, 62, 126, 254, 0, 512, 2046, 4095, 8191, 16383]) (q := 2047) (r := 1296) (by kernel_rfl) ?_
  refine Dw.pure (i := 0) rfl (by kernel_rfl) (Want.none rfl) rfl (ltN rfl) (QP.move rfl rfl) ?_
  refine Dw.pure (i := 1) rfl (by kernel_rfl) (Want.none rfl) rfl (ltN rfl) (QP.move rfl rfl) ?_
  refine Dw.pure (i := 2) rfl (by kernel_rfl) (Want.none rfl) rfl (ltN rfl) (QP.nilCheck rfl rfl) ?_
  refine Dw.pure (i := 3) rfl (by kernel_rfl) (Want.none rfl) rfl (ltN rfl) (QP.fieldAddr rfl rfl f77_1) ?_
  refine Dw.read (i := 4) rfl (by kernel_rfl) (Want.none rfl) rfl (ltN rfl) (QR.load1F (v := .slice (some ⟨b2, o2, none⟩) ifs.length q.c) rfl rfl g22 hf.tb hqS) ?_
  refine Dw.pure (i := 5) rfl (by kernel_rfl) (Want.none rfl) rfl (ltN rfl) (QP.move rfl rfl) ?_
  refine Dw.pure (i := 6) rfl (by kernel_rfl) (Want.none rfl) rfl (ltN rfl) (QP.indexAddr rfl rfl rfl Try.underlying22 z60 (by first | omega | (simp <;> omega)) (by first | omega | (simp <;> omega))) ?_
  refine Dw.pure (i := 7) rfl (by kernel_rfl) (Want.none rfl) rfl (ltN rfl) (QP.fieldAddr rfl rfl f60_8) ?_
  refine Dw.read (i := 8) rfl (by kernel_rfl) (Want.none rfl) rfl (ltN rfl) (QR.loadSlF rfl rfl g58 IfConf.enc_len (hsI _) hci (IfConf.sub_rtt _)) ?_
  refine Dw.pure (i := 9) rfl (by kernel_rfl) (Want.none rfl) rfl (ltN rfl) (QP.fieldAddr rfl rfl f54_13) ?_
  refine Dw.read (i := 10) rfl (by kernel_rfl) (Want.none rfl) rfl (ltN rfl) (QR.load1 rfl rfl g3 (Neighbour.sub_rtt _)) ?_
  refine Dw.eff (i := 11) (by kernel_rfl) (by kernel_rfl) ?_
  refine One.mk (o := _) (l := []) rfl (by kernel_rfl) (Want.none rfl) rfl (ltN rfl) (EF.call rfl ce39 rfl Takes.nil (fun F' hle hr => rcost_spec F' cf.rtt s.rtt hrt)) (by kernel_rfl) ?_
  rintro _ _ ⟨_, ⟨n47, rfl, hn47, rfl⟩, rfl⟩
  refine ⟨fun _ h => (by cases h), ?_⟩
  refine J.app ?_
  refine Dw.eff (i := 12) (by kernel_rfl) (by kernel_rfl) ?_
  refine One.mk (o := _) (l := []) rfl (by kernel_rfl) (Want.none rfl) rfl (ltN rfl) (EF.buildSliceS rfl Try.underlying117 z30 zero30 rfl (by decide) rfl rfl rfl rfl) (by kernel_rfl) ?_
  rintro _ _ ⟨b48, rfl, rfl⟩
  refine ⟨fun _ h => (by cases h), ?_⟩
  refine Dw.eff (i := 13) (by kernel_rfl) (by kernel_rfl) ?_
  refine One.mk (o := _) (l := []) rfl (by kernel_rfl) (Want.none rfl) rfl (ltN rfl) (EF.call rfl ce38 rfl Takes.nil (fun F' hle hr => sum2_spec F' n33 n47 hn47 (fun _ => SlAt.frZ (fun _ => rfl) (hr _ _ (by repeat constructor)) [] [] rfl rfl))) (by kernel_rfl) ?_
  rintro _ _ ⟨_, ⟨n49, rfl, hs49, rfl⟩, rfl⟩
  refine ⟨fun _ h => (by cases h), ?_⟩
  refine J.app ?_
  refine Dw.eff (i := 14) (by kernel_rfl) (by kernel_rfl) ?_
  refine One.mk (o := _) (l := []) rfl (by kernel_rfl) (Want.none rfl) rfl (ltN rfl) ((QP.assign rfl rfl).eff) (by kernel_rfl) ?_
  rintro _ _ ⟨rfl, rfl⟩
  refine ⟨fun _ h => (by cases h), ?_⟩
  refine Dw.nil (by kernel_rfl) ?_
  refine hk6 _ _ ?_
  refine Run.seq fun k8 hk8 => ?_
  refine Run.region ?_
  show Sq _ _ _ [0, 1] _ _ _ _
  refine Sq.quiet (i := 0) rfl (Want.none rfl) rfl (ltN rfl) (QP.move rfl rfl).read ?_
  refine Sq.quiet (i := 1) rfl (Want.none rfl) rfl (ltN rfl) (QP.assign rfl rfl).read ?_
  refine Sq.nil ?_
  refine hk8 _ _ ?_
  refine Run.ret ?_
  exact J.ends (res_tmp rfl rfl) (.cons (by repeat constructor) Takes.nil) ⟨_, n30, rfl, hn30, fun h => hs49 (hlc1 h), fun _ _ _ h => (by rw [c35] at h; cases h), rfl⟩
 ·skip
  refine Sq.nil ?_
  refine hk7 _ _ ?_
  refine Run.cond_f rfl ?_
  refine Run.skip ?_
  refine hk6 _ _ ?_
  refine Run.seq fun k9 hk9 => ?_
  refine Run.region ?_
  show Sq _ _ _ [0, 1] _ _ _ _
  refine Sq.quiet (i := 0) rfl (Want.none rfl) rfl (ltN rfl) (QP.move rfl rfl).read ?_
  refine Sq.quiet (i := 1) rfl (Want.none rfl) rfl (ltN rfl) (QP.assign rfl rfl).read ?_
  refine Sq.nil ?_
  refine hk9 _ _ ?_
  refine Run.ret ?_
  exact J.ends (res_tmp rfl rfl) (.cons (by repeat constructor) Takes.nil) ⟨_, n30, rfl, hn30, hlc1, fun h1 h2 h3 _ => hlc2 h1 h2 h3, rfl⟩
end Slb
