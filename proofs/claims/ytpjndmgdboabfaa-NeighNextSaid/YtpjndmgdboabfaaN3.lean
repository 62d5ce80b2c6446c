/- N3: a part of the proof that a law of this package holds for every input; no condition. -/
import Derived.Test.YtpjndmgdboabfaaN2
namespace Slb
open Go Go.Proofs
set_option maxRecDepth 20000
def newN (j : I64) (fr : Bs 16) : Neighbour := ⟨j, fr, History.zero, History.zero, 0, 0, 0, 0, 65535, 0, 0, 0, false, 0, false⟩
/-- A hello or an answer that may not be. -/
def badH (n : Nat) (i : Int) (ty want : Int) : Bool := !(decide (0 ≤ i) && decide (i < n)) || decide (ty ≠ want)
def helloAt (now iv : Int) : Int := if 0 < 10 * iv then now + 10 * iv + 10 * iv / 2 else 0
/-- What a hello leaves of its history. -/
def helloH (now : Int) (h : Tlv) (s : Neighbour) : Neighbour :=
  if h.unicast = true then { s with uni := hearF s.uni h.seqno, uniGap := 10 * h.interval, uniAt := helloAt now h.interval }
  else { s with multi := hearF s.multi h.seqno, multiGap := 10 * h.interval, multiAt := helloAt now h.interval }
/-- And of its time. -/
def stampN (now : Int) (st : List Int) (s : Neighbour) : Neighbour := match st with | [] => s | x :: _ => { s with sent := x, heard := now, hasSent := true }
def helloR (now : Int) (h : Tlv) (st : List Int) (s : Neighbour) : Neighbour := stampN now st (helloH now h s)
def OkHist (s : Neighbour) : Prop := hBits s.multi ∧ hBits s.uni
theorem okHist_new (j : I64) (fr : Bs 16) : OkHist (newN j fr) := ⟨⟨Int.le_refl 0, by show (0 : Int) ≤ 65535; decide⟩, ⟨Int.le_refl 0, by show (0 : Int) ≤ 65535; decide⟩⟩

theorem helloQ_nil (F : Fr) (now i : Int) (fr : Bs 16) (h : Tlv) : Spec Try.prog 11 #[.pointer none, .int .i64 now, .int .i64 i, .agg (Bs.enc (fr : Bs 16)).toArray, .agg (Tlv.enc h).toArray] [] F (fun v S => v = .int .i64 7 ∧ S = []) := by
 refine Spec.intro (N := 130) (args := [.pointer none, .int .i64 now, .int .i64 i, .agg (Bs.enc (fr : Bs 16)).toArray, .agg (Tlv.enc h).toArray]) Try.func11 rfl rfl (by simp) ?_
 refine Run.seq fun k1 hk1 => ?_
 refine Run.region ?_
 show Sq _ _ _ [0, 1, 2] _ _ _ _
 refine Sq.eff (i := 0) rfl (Want.none rfl) rfl (ltN rfl) (EF.boxA rfl rfl) ?_
 rintro _ _ ⟨b8, rfl, rfl⟩
 refine Sq.eff (i := 1) rfl (Want.none rfl) rfl (ltN rfl) (EF.boxA rfl rfl) ?_
 rintro _ _ ⟨b9, rfl, rfl⟩
 refine Sq.quiet (i := 2) rfl (Want.none rfl) rfl (ltN rfl) (QP.assign rfl rfl).read ?_
 refine Sq.nil ?_
 refine hk1 _ _ ?_
 refine Run.seq fun k2 hk2 => ?_
 refine Run.block ?_
 refine Run.seq fun k3 hk3 => ?_
 refine Run.region ?_
 show Sq _ _ _ [0, 1, 2] _ _ _ _
 refine Sq.quiet (i := 0) rfl (Want.none rfl) rfl (ltN rfl) (QP.move rfl rfl).read ?_
 refine Sq.quiet (i := 1) rfl (Want.none rfl) rfl (ltN rfl) (QP.ptr_eq_nil rfl rfl rfl Try.underlying26).read ?_
 refine Sq.quiet (i := 2) rfl (Want.none rfl) rfl (ltN rfl) (QP.assign rfl rfl).read ?_
 refine Sq.nil ?_
 refine hk3 _ _ ?_
 refine Run.cond_t rfl ?_
 refine Run.seq fun k4 hk4 => ?_
 refine Run.region ?_
 show Sq _ _ _ [0] _ _ _ _
 refine Sq.quiet (i := 0) rfl (Want.none rfl) rfl (ltN rfl) (QP.assign rfl rfl).read ?_
 refine Sq.nil ?_
 refine hk4 _ _ ?_
 refine Run.ret ?_
 exact J.ends (res_tmp rfl rfl) Takes.nil ⟨rfl, rfl⟩

set_option maxHeartbeats 1000000 in
theorem helloQ_none (F : Fr) {b r : Nat} {most : Int} {q : Slc} {E : EntN} (hf : InN F b r most q E)(now : Int) (hn0 : 0 ≤ now) (hn1 : now ≤ 2305843009213693952) (j : I64) (fr : Bs 16) (h : Tlv) (hw : h.WF) (st : List Int) (hsn : h.stamps.n = st.length) (hsl : st.length ≤ 9223372036854775807) (hsa : ArgSl F h.stamps.a 1 (fun n => [Value.int .u32 n]) st) (h0 : alook E ⟨j, fr⟩ = none)  : Spec Try.prog 11 #[.pointer (some ⟨b, 0, none⟩), .int .i64 now, .int .i64 (j : I64).val, .agg (Bs.enc (fr : Bs 16)).toArray, .agg (Tlv.enc h).toArray] [mapN r (ptrs E)] F (fun v S => (badH q.n j.val h.type 4 = true ∧ v = .int .i64 2 ∧ S = [mapN r (ptrs E)]) ∨ (badH q.n j.val h.type 4 = false ∧ (ptrs E).length ≥ most ∧ v = .int .i64 6 ∧ S = [mapN r (ptrs E)]) ∨ (badH q.n j.val h.type 4 = false ∧ ¬ (ptrs E).length ≥ most ∧ v = .int .i64 0 ∧ ∃ c, S = [mapN r (aset (ptrs E) ⟨j, fr⟩ c), blk c (Neighbour.enc (helloR now h st (newN j fr))) 54])) := by
 have hl : alook (ptrs E) ⟨j, fr⟩ = none := by rw [alook_ptrs, h0]; rfl
 have hiv : 0 ≤ h.interval ∧ h.interval ≤ 65535 := hw.2.2.1
 have hlv : Slc.v h.stamps = .slice h.stamps.a st.length h.stamps.c := by rw [← hsn]; rfl
 refine Spec.intro (N := 130) (args := [.pointer (some ⟨b, 0, none⟩), .int .i64 now, .int .i64 (j : I64).val, .agg (Bs.enc (fr : Bs 16)).toArray, .agg (Tlv.enc h).toArray]) Try.func11 rfl rfl (by simp) ?_
 refine Run.seq fun k1 hk1 => ?_
 refine Run.region ?_
 show Sq _ _ _ [0, 1, 2] _ _ _ _
 refine Sq.eff (i := 0) rfl (Want.none rfl) rfl (ltN rfl) (EF.boxA rfl rfl) ?_
 rintro _ _ ⟨b8, rfl, rfl⟩
 refine Sq.eff (i := 1) rfl (Want.none rfl) rfl (ltN rfl) (EF.boxA rfl rfl) ?_
 rintro _ _ ⟨b9, rfl, rfl⟩
 refine Sq.quiet (i := 2) rfl (Want.none rfl) rfl (ltN rfl) (QP.assign rfl rfl).read ?_
 refine Sq.nil ?_
 refine hk1 _ _ ?_
 refine Run.seq fun k2 hk2 => ?_
 refine Run.block ?_
 refine Run.seq fun k3 hk3 => ?_
 refine Run.region ?_
 show Sq _ _ _ [0, 1, 2] _ _ _ _
 refine Sq.quiet (i := 0) rfl (Want.none rfl) rfl (ltN rfl) (QP.move rfl rfl).read ?_
 refine Sq.quiet (i := 1) rfl (Want.none rfl) rfl (ltN rfl) (QP.ptr_eq_nil rfl rfl rfl Try.underlying26).read ?_
 refine Sq.quiet (i := 2) rfl (Want.none rfl) rfl (ltN rfl) (QP.assign rfl rfl).read ?_
 refine Sq.nil ?_
 refine hk3 _ _ ?_
 refine Run.cond_f rfl ?_
 refine Run.seq fun k4 hk4 => ?_
 refine Run.region ?_
 show Sq _ _ _ [0, 1, 2, 3, 4, 5, 6, 7, 8, 9] _ _ _ _
 refine Sq.quiet (i := 0) rfl (Want.none rfl) rfl (ltN rfl) (QP.move rfl rfl).read ?_
 refine Sq.quiet (i := 1) rfl (Want.none rfl) rfl (ltN rfl) (QP.move rfl rfl).read ?_
 refine Sq.eff (i := 2) rfl (Want.none rfl) rfl (ltN rfl) (EF.call rfl ce25 rfl Takes.nil (fun F' hle hr => onQ F' (hf.mono hle) (j.val))) ?_
 rintro _ _ ⟨_, ⟨rfl, rfl⟩, rfl⟩
 refine J.app ?_
 refine J.caseB (fun c21 => ?_) (fun c21 => ?_)
 ·skip
  refine Sq.quiet (i := 3) rfl (Want.none rfl) rfl (ltN rfl) (QP.not rfl rfl).read ?_
  refine Sq.quiet (i := 4) rfl (Want.none rfl) rfl (ltN rfl) (QP.move rfl rfl).read ?_
  refine Sq.quiet (i := 5) rfl (Want.yes rfl rfl rfl rfl) rfl (ltN rfl) (QP.fieldAddr rfl rfl f39_0).read ?_
  refine Sq.quiet (i := 6) rfl (Want.yes rfl rfl rfl rfl) rfl (ltN rfl) (QR.load1 rfl rfl g5 (Tlv.sub_type _)) ?_
  refine Sq.quiet (i := 7) rfl (Want.yes rfl rfl rfl rfl) rfl (ltN rfl) (QP.neq rfl rfl rfl).read ?_
  refine J.caseD (fun c26 => ?_) (fun c26 => ?_)
  ·skip
   refine Sq.quiet (i := 8) rfl (Want.none rfl) rfl (ltN rfl) (QP.pick_f rfl rfl rfl).read ?_
   refine Sq.quiet (i := 9) rfl (Want.none rfl) rfl (ltN rfl) (QP.assign rfl rfl).read ?_
   refine Sq.nil ?_
   refine hk4 _ _ ?_
   refine Run.cond_t rfl ?_
   refine Run.seq fun k5 hk5 => ?_
   refine Run.region ?_
   show Sq _ _ _ [0] _ _ _ _
   refine Sq.quiet (i := 0) rfl (Want.none rfl) rfl (ltN rfl) (QP.assign rfl rfl).read ?_
   refine Sq.nil ?_
   refine hk5 _ _ ?_
   refine Run.ret ?_
   exact J.ends (res_tmp rfl rfl) (.cons (by repeat constructor) Takes.nil) (.inl ⟨by unfold badH; rw [c21]; simpa using c26, rfl, rfl⟩)
  ·skip
   refine Sq.quiet (i := 8) rfl (Want.none rfl) rfl (ltN rfl) (QP.pick_f rfl rfl rfl).read ?_
   refine Sq.quiet (i := 9) rfl (Want.none rfl) rfl (ltN rfl) (QP.assign rfl rfl).read ?_
   refine Sq.nil ?_
   refine hk4 _ _ ?_
   refine Run.cond_f rfl ?_
   refine Run.skip ?_
   refine hk2 _ _ ?_
   refine Run.seq fun k6 hk6 => ?_
   refine Run.regionD (M := [0, 1, 3, 7, 0, 0, 48, 127, 255]) (q := 255) (r := 168) (by kernel_rfl) ?_
   refine Dw.pure (i := 0) rfl (by kernel_rfl) (Want.none rfl) rfl (ltN rfl) (QP.move rfl rfl) ?_
   refine Dw.pure (i := 1) rfl (by kernel_rfl) (Want.none rfl) rfl (ltN rfl) (QP.nilCheck rfl rfl) ?_
   refine Dw.pure (i := 2) rfl (by kernel_rfl) (Want.none rfl) rfl (ltN rfl) (QP.fieldAddr rfl rfl f77_2) ?_
   refine Dw.read (i := 3) rfl (by kernel_rfl) (Want.none rfl) rfl (ltN rfl) (QR.load1F rfl rfl g75 hf.tb (NeighTable.sub_m _)) ?_
   refine Dw.pure (i := 4) rfl (by kernel_rfl) (Want.none rfl) rfl (ltN rfl) (QP.move rfl rfl) ?_
   refine Dw.read (i := 5) rfl (by kernel_rfl) (Want.none rfl) rfl (ltN rfl) (QR.load rfl rfl g29 (Bs.sub _)) ?_
   refine Dw.pure (i := 6) rfl (by kernel_rfl) (Want.none rfl) rfl (ltN rfl) (QP.build (l := NeighKey.enc ⟨j, (fr)⟩) rfl st81 rfl (by exact ⟨rfl, ⟨(congrArg some (Bs.len _).symm), trivial⟩⟩) rfl) ?_
   refine Dw.read (i := 7) rfl (by kernel_rfl) (Want.none rfl) rfl (ltN rfl) (QR.lookupNone key81 rfl rfl rfl Try.underlying75 zero79 hl) ?_
   refine Dw.eff (i := 8) (by kernel_rfl) (by kernel_rfl) ?_
   refine One.mk (o := _) (l := []) rfl (by kernel_rfl) (Want.none rfl) rfl (ltN rfl) ((QP.assign rfl rfl).eff) (by kernel_rfl) ?_
   rintro _ _ ⟨rfl, rfl⟩
   refine ⟨fun _ h => (by cases h), ?_⟩
   refine Dw.nil (by kernel_rfl) ?_
   refine hk6 _ _ ?_
   refine Run.seq fun k7 hk7 => ?_
   refine Run.seq fun k8 hk8 => ?_
   refine Run.region ?_
   show Sq _ _ _ [0, 1] _ _ _ _
   refine Sq.quiet (i := 0) rfl (Want.none rfl) rfl (ltN rfl) (QP.move rfl rfl).read ?_
   refine Sq.quiet (i := 1) rfl (Want.none rfl) rfl (ltN rfl) (QP.ptr_eq_nil rfl rfl rfl Try.underlying79).read ?_
   refine Sq.nil ?_
   refine hk8 _ _ ?_
   refine Run.cond_t rfl ?_
   refine Run.seq fun k9 hk9 => ?_
   refine Run.seq fun k10 hk10 => ?_
   refine Run.regionD (M := [0, 1, 3, 7, 15, 0, 32, 96, 224, 511]) (q := 1023) (r := 280) (by kernel_rfl) ?_
   refine Dw.pure (i := 0) rfl (by kernel_rfl) (Want.none rfl) rfl (ltN rfl) (QP.move rfl rfl) ?_
   refine Dw.pure (i := 1) rfl (by kernel_rfl) (Want.none rfl) rfl (ltN rfl) (QP.nilCheck rfl rfl) ?_
   refine Dw.pure (i := 2) rfl (by kernel_rfl) (Want.none rfl) rfl (ltN rfl) (QP.fieldAddr rfl rfl f77_2) ?_
   refine Dw.read (i := 3) rfl (by kernel_rfl) (Want.none rfl) rfl (ltN rfl) (QR.load1F rfl rfl g75 hf.tb (NeighTable.sub_m _)) ?_
   refine Dw.read (i := 4) rfl (by kernel_rfl) (Want.none rfl) rfl (ltN rfl) (QR.lenMap rfl rfl rfl Try.underlying75) ?_
   refine Dw.pure (i := 5) rfl (by kernel_rfl) (Want.none rfl) rfl (ltN rfl) (QP.move rfl rfl) ?_
   refine Dw.pure (i := 6) rfl (by kernel_rfl) (Want.none rfl) rfl (ltN rfl) (QP.nilCheck rfl rfl) ?_
   refine Dw.pure (i := 7) rfl (by kernel_rfl) (Want.none rfl) rfl (ltN rfl) (QP.fieldAddr rfl rfl f77_0) ?_
   refine Dw.read (i := 8) rfl (by kernel_rfl) (Want.none rfl) rfl (ltN rfl) (QR.load1F rfl rfl g3 hf.tb (NeighTable.sub_most _)) ?_
   refine Dw.pure (i := 9) rfl (by kernel_rfl) (Want.none rfl) rfl (ltN rfl) (QP.geq rfl rfl rfl) ?_
   refine J.caseD (fun c47 => ?_) (fun c47 => ?_)
   ·skip
    refine Dw.nil (by kernel_rfl) ?_
    refine hk10 _ _ ?_
    refine Run.cond_t rfl ?_
    refine Run.seq fun k11 hk11 => ?_
    refine Run.region ?_
    show Sq _ _ _ [0] _ _ _ _
    refine Sq.quiet (i := 0) rfl (Want.none rfl) rfl (ltN rfl) (QP.assign rfl rfl).read ?_
    refine Sq.nil ?_
    refine hk11 _ _ ?_
    refine Run.ret ?_
    exact J.ends (res_tmp rfl rfl) (.cons (by repeat constructor) Takes.nil) (.inr (.inl ⟨by unfold badH; rw [c21]; simpa using c26, by assumption, rfl, rfl⟩))
   ·skip
    refine Dw.nil (by kernel_rfl) ?_
    refine hk10 _ _ ?_
    refine Run.cond_f rfl ?_
    refine Run.skip ?_
    refine hk9 _ _ ?_
    refine Run.seq fun k12 hk12 => ?_
    refine Run.region ?_
    show Sq _ _ _ [0, 1, 2, 3, 4] _ _ _ _
    refine Sq.quiet (i := 0) rfl (Want.none rfl) rfl (ltN rfl) (QP.move rfl rfl).read ?_
    refine Sq.quiet (i := 1) rfl (Want.none rfl) rfl (ltN rfl) (QR.load rfl rfl g29 (Bs.sub _)) ?_
    refine Sq.quiet (i := 2) rfl (Want.none rfl) rfl (ltN rfl) (QP.build (l := Neighbour.enc ⟨j, (fr), History.zero, History.zero, 0, 0, 0, 0, (65535), 0, 0, 0, false, 0, false⟩) rfl st54 rfl (by exact ⟨rfl, ⟨(congrArg some (Bs.len _).symm), ⟨rfl, trivial⟩⟩⟩) rfl).read ?_
    refine Sq.eff (i := 3) rfl (Want.none rfl) rfl (ltN rfl) (EF.boxA rfl rfl) ?_
    rintro _ _ ⟨b51, rfl, rfl⟩
    refine Sq.quiet (i := 4) rfl (Want.none rfl) rfl (ltN rfl) (QP.assign rfl rfl).read ?_
    refine Sq.nil ?_
    refine hk12 _ _ ?_
    refine Run.regionD (M := [0, 1, 3, 7, 0, 0, 48, 0, 255]) (q := 255) (r := 40) (by kernel_rfl) ?_
    refine Dw.pure (i := 0) rfl (by kernel_rfl) (Want.none rfl) rfl (ltN rfl) (QP.move rfl rfl) ?_
    refine Dw.pure (i := 1) rfl (by kernel_rfl) (Want.none rfl) rfl (ltN rfl) (QP.nilCheck rfl rfl) ?_
    refine Dw.pure (i := 2) rfl (by kernel_rfl) (Want.none rfl) rfl (ltN rfl) (QP.fieldAddr rfl rfl f77_2) ?_
    refine Dw.read (i := 3) rfl (by kernel_rfl) (Want.none rfl) rfl (ltN rfl) (QR.load1F rfl rfl g75 hf.tb (NeighTable.sub_m _)) ?_
    refine Dw.pure (i := 4) rfl (by kernel_rfl) (Want.none rfl) rfl (ltN rfl) (QP.move rfl rfl) ?_
    refine Dw.read (i := 5) rfl (by kernel_rfl) (Want.none rfl) rfl (ltN rfl) (QR.load rfl rfl g29 (Bs.sub _)) ?_
    refine Dw.pure (i := 6) rfl (by kernel_rfl) (Want.none rfl) rfl (ltN rfl) (QP.build (l := NeighKey.enc ⟨j, (fr)⟩) rfl st81 rfl (by exact ⟨rfl, ⟨(congrArg some (Bs.len _).symm), trivial⟩⟩) rfl) ?_
    refine Dw.pure (i := 7) rfl (by kernel_rfl) (Want.none rfl) rfl (ltN rfl) (QP.move rfl rfl) ?_
    refine Dw.eff (i := 8) (by kernel_rfl) (by kernel_rfl) ?_
    refine One.act (o := _) (l := []) rfl (by kernel_rfl) (Want.none rfl) rfl (EF.mapUpdate (ev := pv) (v := _) key81 rfl rfl rfl rfl Try.underlying75) (by kernel_rfl) ?_
    rintro _ _ rfl
    refine ⟨fun _ h => (by cases h), ?_⟩
    refine Dw.nil (by kernel_rfl) ?_
    refine hk7 _ _ ?_
    refine Run.seq fun k13 hk13 => ?_
    refine Run.regionM (M := [0, 1, 3, 0, 8, 24, 0, 64, 192, 7, 575, 2047]) (q := 511) (r := 0) mixedT (by kernel_rfl) ?_
    generalize hR : (⟨j, fr, History.zero, History.zero, 0, 0, 0, 0, 65535, 0, 0, 0, false, 0, false⟩ : Neighbour) = s
    have hok : OkHist s := by rw [← hR]; exact okHist_new j fr
    obtain ⟨⟨hm0, hm1⟩, hu0, hu1⟩ := hok
    refine Dw.pure (i := 0) rfl (by kernel_rfl) (Want.none rfl) rfl (ltN rfl) (QP.move rfl rfl) ?_
    refine Dw.pure (i := 1) rfl (by kernel_rfl) (Want.none rfl) rfl (ltN rfl) (QP.nilCheck rfl rfl) ?_
    refine Dw.pure (i := 2) rfl (by kernel_rfl) (Want.none rfl) rfl (ltN rfl) (QP.fieldAddr rfl rfl f54_2) ?_
    refine Dw.pure (i := 3) rfl (by kernel_rfl) (Want.none rfl) rfl (ltN rfl) (QP.move rfl rfl) ?_
    refine Dw.pure (i := 4) rfl (by kernel_rfl) (Want.none rfl) rfl (ltN rfl) (QP.nilCheck rfl rfl) ?_
    refine Dw.pure (i := 5) rfl (by kernel_rfl) (Want.none rfl) rfl (ltN rfl) (QP.fieldAddr rfl rfl f54_4) ?_
    refine Dw.pure (i := 6) rfl (by kernel_rfl) (Want.none rfl) rfl (ltN rfl) (QP.move rfl rfl) ?_
    refine Dw.pure (i := 7) rfl (by kernel_rfl) (Want.none rfl) rfl (ltN rfl) (QP.nilCheck rfl rfl) ?_
    refine Dw.pure (i := 8) rfl (by kernel_rfl) (Want.none rfl) rfl (ltN rfl) (QP.fieldAddr rfl rfl f54_6) ?_
    refine Dw.eff (i := 9) (by kernel_rfl) (by kernel_rfl) ?_
    refine One.mk (o := _) (l := []) rfl (by kernel_rfl) (Want.none rfl) rfl (ltN rfl) ((QP.assign rfl rfl).eff) (by kernel_rfl) ?_
    rintro _ _ ⟨rfl, rfl⟩
    refine ⟨fun _ h => (by cases h), ?_⟩
    refine Dw.eff (i := 10) (by kernel_rfl) (by kernel_rfl) ?_
    refine One.mk (o := _) (l := []) rfl (by kernel_rfl) (Want.none rfl) rfl (ltN rfl) ((QP.assign rfl rfl).eff) (by kernel_rfl) ?_
    rintro _ _ ⟨rfl, rfl⟩
    refine ⟨fun _ h => (by cases h), ?_⟩
    refine Dw.eff (i := 11) (by kernel_rfl) (by kernel_rfl) ?_
    refine One.mk (o := _) (l := []) rfl (by kernel_rfl) (Want.none rfl) rfl (ltN rfl) ((QP.assign rfl rfl).eff) (by kernel_rfl) ?_
    rintro _ _ ⟨rfl, rfl⟩
    refine ⟨fun _ h => (by cases h), ?_⟩
    refine Dw.nil (by kernel_rfl) ?_
    refine hk13 _ _ ?_
    refine Run.seq fun k14 hk14 => ?_
    refine Run.seq fun k15 hk15 => ?_
    refine Run.region ?_
    show Sq _ _ _ [0, 1] _ _ _ _
    refine Sq.quiet (i := 0) rfl (Want.none rfl) rfl (ltN rfl) (QP.fieldAddr rfl rfl f39_7).read ?_
    refine Sq.quiet (i := 1) rfl (Want.none rfl) rfl (ltN rfl) (QR.load1 rfl rfl g4 (Tlv.sub_unicast _)) ?_
    refine J.caseB (fun c70 => ?_) (fun c70 => ?_)
    ·skip
     refine Sq.nil ?_
     refine hk15 _ _ ?_
     refine Run.cond_t rfl ?_
     refine Run.regionM (M := [0, 1, 3, 0, 8, 24, 0, 64, 192, 7, 575, 2047]) (q := 511) (r := 0) mixedT (by kernel_rfl) ?_
     refine Dw.pure (i := 0) rfl (by kernel_rfl) (Want.none rfl) rfl (ltN rfl) (QP.move rfl rfl) ?_
     refine Dw.pure (i := 1) rfl (by kernel_rfl) (Want.none rfl) rfl (ltN rfl) (QP.nilCheck rfl rfl) ?_
     refine Dw.pure (i := 2) rfl (by kernel_rfl) (Want.none rfl) rfl (ltN rfl) (QP.fieldAddr rfl rfl f54_3) ?_
     refine Dw.pure (i := 3) rfl (by kernel_rfl) (Want.none rfl) rfl (ltN rfl) (QP.move rfl rfl) ?_
     refine Dw.pure (i := 4) rfl (by kernel_rfl) (Want.none rfl) rfl (ltN rfl) (QP.nilCheck rfl rfl) ?_
     refine Dw.pure (i := 5) rfl (by kernel_rfl) (Want.none rfl) rfl (ltN rfl) (QP.fieldAddr rfl rfl f54_5) ?_
     refine Dw.pure (i := 6) rfl (by kernel_rfl) (Want.none rfl) rfl (ltN rfl) (QP.move rfl rfl) ?_
     refine Dw.pure (i := 7) rfl (by kernel_rfl) (Want.none rfl) rfl (ltN rfl) (QP.nilCheck rfl rfl) ?_
     refine Dw.pure (i := 8) rfl (by kernel_rfl) (Want.none rfl) rfl (ltN rfl) (QP.fieldAddr rfl rfl f54_7) ?_
     refine Dw.eff (i := 9) (by kernel_rfl) (by kernel_rfl) ?_
     refine One.mk (o := _) (l := []) rfl (by kernel_rfl) (Want.none rfl) rfl (ltN rfl) ((QP.assign rfl rfl).eff) (by kernel_rfl) ?_
     rintro _ _ ⟨rfl, rfl⟩
     refine ⟨fun _ h => (by cases h), ?_⟩
     refine Dw.eff (i := 10) (by kernel_rfl) (by kernel_rfl) ?_
     refine One.mk (o := _) (l := []) rfl (by kernel_rfl) (Want.none rfl) rfl (ltN rfl) ((QP.assign rfl rfl).eff) (by kernel_rfl) ?_
     rintro _ _ ⟨rfl, rfl⟩
     refine ⟨fun _ h => (by cases h), ?_⟩
     refine Dw.eff (i := 11) (by kernel_rfl) (by kernel_rfl) ?_
     refine One.mk (o := _) (l := []) rfl (by kernel_rfl) (Want.none rfl) rfl (ltN rfl) ((QP.assign rfl rfl).eff) (by kernel_rfl) ?_
     rintro _ _ ⟨rfl, rfl⟩
     refine ⟨fun _ h => (by cases h), ?_⟩
     refine Dw.nil (by kernel_rfl) ?_
     refine hk14 _ _ ?_
     refine Run.seq fun k16 hk16 => ?_
     refine Run.regionD (M := [0, 0, 2, 6, 0, 16, 62, 127, 255]) (q := 191) (r := 40) (by kernel_rfl) ?_
     refine Dw.pure (i := 0) rfl (by kernel_rfl) (Want.none rfl) rfl (ltN rfl) (QP.move rfl rfl) ?_
     refine Dw.pure (i := 1) rfl (by kernel_rfl) (Want.none rfl) rfl (ltN rfl) (QP.move rfl rfl) ?_
     refine Dw.pure (i := 2) rfl (by kernel_rfl) (Want.none rfl) rfl (ltN rfl) (QP.nilCheck rfl rfl) ?_
     refine Dw.read (i := 3) rfl (by kernel_rfl) (Want.none rfl) rfl (ltN rfl) (QR.load rfl rfl g51 (Neighbour.sub_uni _)) ?_
     refine Dw.pure (i := 4) rfl (by kernel_rfl) (Want.none rfl) rfl (ltN rfl) (QP.fieldAddr rfl rfl f39_3) ?_
     refine Dw.read (i := 5) rfl (by kernel_rfl) (Want.none rfl) rfl (ltN rfl) (QR.load1 rfl rfl g30 (Tlv.sub_seqno _)) ?_
     refine Dw.eff (i := 6) (by kernel_rfl) (by kernel_rfl) ?_
     refine One.mk (o := _) (l := []) rfl (by kernel_rfl) (Want.none rfl) rfl (ltN rfl) (EF.call rfl ce26 rfl Takes.nil (fun F' hle hr => hear_spec F' s.uni h.seqno (by omega) (by omega))) (by kernel_rfl) ?_
     rintro _ _ ⟨_, ⟨rfl, rfl⟩, rfl⟩
     refine ⟨fun _ h => (by cases h), ?_⟩
     refine J.app ?_
     refine Dw.pure (i := 7) rfl (by kernel_rfl) (Want.none rfl) rfl (ltN rfl) (QP.nilCheck rfl rfl) ?_
     refine Dw.eff (i := 8) (by kernel_rfl) (by kernel_rfl) ?_
     refine One.act (o := _) (l := []) rfl (by kernel_rfl) (Want.none rfl) rfl (EF.storeA rfl rfl rfl z51 (Neighbour.set_uni _ _) (History.enc_cell _)) (by kernel_rfl) ?_
     rintro _ _ rfl
     refine ⟨fun _ h => (by cases h), ?_⟩
     generalize hs1 : ({ s with uni := hearF s.uni h.seqno } : Neighbour) = s1
     refine Dw.nil (by kernel_rfl) ?_
     refine hk16 _ _ ?_
     refine Run.seq fun k17 hk17 => ?_
     refine Run.region ?_
     show Sq _ _ _ [0, 1, 2, 3, 4, 5, 6] _ _ _ _
     refine Sq.quiet (i := 0) rfl (Want.none rfl) rfl (ltN rfl) (QP.move rfl rfl).read ?_
     refine Sq.quiet (i := 1) rfl (Want.none rfl) rfl (ltN rfl) (QP.fieldAddr rfl rfl f39_2).read ?_
     refine Sq.quiet (i := 2) rfl (Want.none rfl) rfl (ltN rfl) (QR.load1 rfl rfl g30 (Tlv.sub_interval _)) ?_
     refine Sq.quiet (i := 3) rfl (Want.none rfl) rfl (ltN rfl) (QP.conv rfl rfl Try.underlying30 Try.underlying3).read ?_
     refine Sq.quiet (i := 4) rfl (Want.none rfl) rfl (ltN rfl) (QP.mul rfl rfl rfl).read ?_
     rw [show IntKind.i64.wrap (10 * IntKind.i64.wrap h.interval) = 10 * h.interval by rw [wrap_i64 (n := h.interval) (by omega) (by omega), wrap_i64 (by omega) (by omega)]]
     refine Sq.quiet (i := 5) rfl (Want.none rfl) rfl (ltN rfl) (QP.nilCheck rfl rfl).read ?_
     refine Sq.act (i := 6) rfl (Want.none rfl) rfl (EF.store rfl rfl rfl z3 (Neighbour.set_uniGap _ _) (cell_one rfl)) ?_
     rintro _ _ rfl
     generalize hs2 : ({ s1 with uniGap := (10 * h.interval) } : Neighbour) = s2
     refine Sq.nil ?_
     refine hk17 _ _ ?_
     refine Run.seq fun k18 hk18 => ?_
     refine Run.region ?_
     show Sq _ _ _ [0, 1, 2] _ _ _ _
     refine Sq.quiet (i := 0) rfl (Want.none rfl) rfl (ltN rfl) (QP.move rfl rfl).read ?_
     refine Sq.quiet (i := 1) rfl (Want.none rfl) rfl (ltN rfl) (QP.nilCheck rfl rfl).read ?_
     refine Sq.act (i := 2) rfl (Want.none rfl) rfl (EF.store rfl rfl rfl z3 (Neighbour.set_uniAt _ _) (cell_one rfl)) ?_
     rintro _ _ rfl
     generalize hs3 : ({ s2 with uniAt := 0 } : Neighbour) = s3
     have hg3 : s3.uniGap = 10 * h.interval := by rw [← hs3, ← hs2]
     refine Sq.nil ?_
     refine hk18 _ _ ?_
     refine Run.seq fun k19 hk19 => ?_
     refine Run.seq fun k20 hk20 => ?_
     refine Run.region ?_
     show Sq _ _ _ [0, 1, 2, 3] _ _ _ _
     refine Sq.quiet (i := 0) rfl (Want.none rfl) rfl (ltN rfl) (QP.move rfl rfl).read ?_
     refine Sq.quiet (i := 1) rfl (Want.none rfl) rfl (ltN rfl) (QP.nilCheck rfl rfl).read ?_
     refine Sq.quiet (i := 2) rfl (Want.none rfl) rfl (ltN rfl) (QR.load1 rfl rfl g3 (Neighbour.sub_uniGap _)) ?_
     rw [hg3]
     refine Sq.quiet (i := 3) rfl (Want.none rfl) rfl (ltN rfl) (QP.gtr rfl rfl rfl).read ?_
     refine J.caseD (fun c99 => ?_) (fun c99 => ?_)
     ·skip
      refine Sq.nil ?_
      refine hk20 _ _ ?_
      refine Run.cond_t rfl ?_
      refine Run.regionD (M := [0, 0, 0, 4, 12, 30, 0, 64, 192, 448, 1022, 2047, 4095]) (q := 4095) (r := 272) (by kernel_rfl) ?_
      refine Dw.pure (i := 0) rfl (by kernel_rfl) (Want.none rfl) rfl (ltN rfl) (QP.move rfl rfl) ?_
      refine Dw.pure (i := 1) rfl (by kernel_rfl) (Want.none rfl) rfl (ltN rfl) (QP.move rfl rfl) ?_
      refine Dw.pure (i := 2) rfl (by kernel_rfl) (Want.none rfl) rfl (ltN rfl) (QP.move rfl rfl) ?_
      refine Dw.pure (i := 3) rfl (by kernel_rfl) (Want.none rfl) rfl (ltN rfl) (QP.nilCheck rfl rfl) ?_
      refine Dw.read (i := 4) rfl (by kernel_rfl) (Want.none rfl) rfl (ltN rfl) (QR.load1 rfl rfl g3 (Neighbour.sub_uniGap _)) ?_
      try rw [hg3]
      refine Dw.pure (i := 5) rfl (by kernel_rfl) (Want.none rfl) rfl (ltN rfl) (QP.add64 rfl rfl rfl (by first | omega | (simp <;> omega)) (by first | omega | (simp <;> omega))) ?_
      refine Dw.pure (i := 6) rfl (by kernel_rfl) (Want.none rfl) rfl (ltN rfl) (QP.move rfl rfl) ?_
      refine Dw.pure (i := 7) rfl (by kernel_rfl) (Want.none rfl) rfl (ltN rfl) (QP.nilCheck rfl rfl) ?_
      refine Dw.read (i := 8) rfl (by kernel_rfl) (Want.none rfl) rfl (ltN rfl) (QR.load1 rfl rfl g3 (Neighbour.sub_uniGap _)) ?_
      try rw [hg3]
      refine Dw.pure (i := 9) rfl (by kernel_rfl) (Want.none rfl) rfl (ltN rfl) (QP.quo rfl rfl rfl (by first | omega | (simp <;> omega))) ?_
      rw [show IntKind.i64.wrap (Int.tdiv (10 * h.interval) 2) = 10 * h.interval / 2 by rw [Int.tdiv_eq_ediv_of_nonneg (by omega), wrap_i64 (by omega) (by omega)]]
      refine Dw.pure (i := 10) rfl (by kernel_rfl) (Want.none rfl) rfl (ltN rfl) (QP.add64 rfl rfl rfl (by first | omega | (simp <;> omega)) (by first | omega | (simp <;> omega))) ?_
      refine Dw.pure (i := 11) rfl (by kernel_rfl) (Want.none rfl) rfl (ltN rfl) (QP.nilCheck rfl rfl) ?_
      refine Dw.eff (i := 12) (by kernel_rfl) (by kernel_rfl) ?_
      refine One.act (o := _) (l := []) rfl (by kernel_rfl) (Want.none rfl) rfl (EF.store rfl rfl rfl z3 (Neighbour.set_uniAt _ _) (cell_one rfl)) (by kernel_rfl) ?_
      rintro _ _ rfl
      refine ⟨fun _ h => (by cases h), ?_⟩
      generalize hs4 : ({ s3 with uniAt := now + 10 * h.interval + 10 * h.interval / 2 } : Neighbour) = s4
      refine Dw.nil (by kernel_rfl) ?_
      refine hk19 _ _ ?_
      refine Run.seq fun k21 hk21 => ?_
      refine Run.seq fun k22 hk22 => ?_
      refine Run.region ?_
      show Sq _ _ _ [0, 1, 2, 3] _ _ _ _
      refine Sq.quiet (i := 0) rfl (Want.none rfl) rfl (ltN rfl) (QP.fieldAddr rfl rfl f39_12).read ?_
      refine Sq.quiet (i := 1) rfl (Want.none rfl) rfl (ltN rfl) (QR.load1 rfl rfl g37 (Tlv.sub_stamps _)) ?_
      rw [hlv]
      refine Sq.quiet (i := 2) rfl (Want.none rfl) rfl (ltN rfl) (QP.len rfl rfl rfl Try.underlying37).read ?_
      refine Sq.quiet (i := 3) rfl (Want.none rfl) rfl (ltN rfl) (QP.gtr rfl rfl rfl).read ?_
      refine J.caseD (fun c115 => ?_) (fun c115 => ?_)
      ·skip
       refine Sq.nil ?_
       refine hk22 _ _ ?_
       refine Run.cond_t rfl ?_
       refine Run.region ?_
       show Sq _ _ _ [0, 1, 2, 3, 4, 5, 6, 7, 8, 9, 10, 11, 12, 13, 14, 15, 16] _ _ _ _
       obtain ⟨x0, hx0⟩ : ∃ x, st[Int.toNat 0]? = some x := ⟨_, List.getElem?_eq_getElem (by show 0 < st.length; omega)⟩
       obtain ⟨b1, o1, hla, hsA⟩ := hsa.get (by omega)
       rw [hla] at hlv
       refine Sq.quiet (i := 0) rfl (Want.none rfl) rfl (ltN rfl) (QP.move rfl rfl).read ?_
       refine Sq.quiet (i := 1) rfl (Want.none rfl) rfl (ltN rfl) (QP.move rfl rfl).read ?_
       refine Sq.quiet (i := 2) rfl (Want.none rfl) rfl (ltN rfl) (QP.move rfl rfl).read ?_
       refine Sq.quiet (i := 3) rfl (Want.none rfl) rfl (ltN rfl) (QP.fieldAddr rfl rfl f39_12).read ?_
       refine Sq.quiet (i := 4) rfl (Want.none rfl) rfl (ltN rfl) (QR.load1 rfl rfl g37 (Tlv.sub_stamps _)) ?_
       rw [hlv]
       refine Sq.quiet (i := 5) rfl (Want.none rfl) rfl (ltN rfl) (QP.indexAddr rfl rfl rfl Try.underlying37 z52 (by first | omega | (simp <;> omega)) (by first | omega | (simp <;> omega))).read ?_
       refine Sq.quiet (i := 6) rfl (Want.none rfl) rfl (ltN rfl) (QR.loadSl1 (ev := .int .u32) rfl rfl g52 (hsA _) hx0) ?_
       refine Sq.quiet (i := 7) rfl (Want.none rfl) rfl (ltN rfl) (QP.move rfl rfl).read ?_
       refine Sq.quiet (i := 8) rfl (Want.none rfl) rfl (ltN rfl) (QP.nilCheck rfl rfl).read ?_
       refine Sq.quiet (i := 9) rfl (Want.none rfl) rfl (ltN rfl) (QP.fieldAddr rfl rfl f54_10).read ?_
       refine Sq.act (i := 10) rfl (Want.none rfl) rfl (EF.store rfl rfl rfl z52 (Neighbour.set_sent _ _) (cell_one rfl)) ?_
       rintro _ _ rfl
       refine Sq.quiet (i := 11) rfl (Want.none rfl) rfl (ltN rfl) (QP.nilCheck rfl rfl).read ?_
       refine Sq.quiet (i := 12) rfl (Want.none rfl) rfl (ltN rfl) (QP.fieldAddr rfl rfl f54_11).read ?_
       refine Sq.act (i := 13) rfl (Want.none rfl) rfl (EF.store rfl rfl rfl z3 (Neighbour.set_heard _ _) (cell_one rfl)) ?_
       rintro _ _ rfl
       refine Sq.quiet (i := 14) rfl (Want.none rfl) rfl (ltN rfl) (QP.nilCheck rfl rfl).read ?_
       refine Sq.quiet (i := 15) rfl (Want.none rfl) rfl (ltN rfl) (QP.fieldAddr rfl rfl f54_12).read ?_
       refine Sq.act (i := 16) rfl (Want.none rfl) rfl (EF.store rfl rfl rfl z4 (Neighbour.set_hasSent _ _) (cell_one rfl)) ?_
       rintro _ _ rfl
       refine Sq.nil ?_
       refine hk21 _ _ ?_
       refine Run.seq fun k23 hk23 => ?_
       refine Run.region ?_
       show Sq _ _ _ [0] _ _ _ _
       refine Sq.quiet (i := 0) rfl (Want.none rfl) rfl (ltN rfl) (QP.assign rfl rfl).read ?_
       refine Sq.nil ?_
       refine hk23 _ _ ?_
       refine Run.ret ?_
       have hH : helloH now h s = s4 := by
         unfold helloH helloAt
         rw [if_pos c70, if_pos (by omega)]
         rw [← hs4]; rw [← hs3, ← hs2, ← hs1]
       have hS : helloR now h st s = { s4 with sent := x0, heard := now, hasSent := true } := by
         unfold helloR
         rw [hH]
         cases st with
         | nil => simp at hx0
         | cons y l => simp at hx0; subst hx0; rfl
       rw [← hS]
       subst hR
       exact J.ends (res_tmp rfl rfl) (.cons (by repeat constructor) (.cons (by repeat constructor) Takes.nil)) (.inr (.inr ⟨by unfold badH; rw [c21]; simpa using c26, by assumption, rfl, _, rfl⟩))
      ·skip
       refine Sq.nil ?_
       refine hk22 _ _ ?_
       refine Run.cond_f rfl ?_
       refine Run.skip ?_
       refine hk21 _ _ ?_
       refine Run.seq fun k24 hk24 => ?_
       refine Run.region ?_
       show Sq _ _ _ [0] _ _ _ _
       refine Sq.quiet (i := 0) rfl (Want.none rfl) rfl (ltN rfl) (QP.assign rfl rfl).read ?_
       refine Sq.nil ?_
       refine hk24 _ _ ?_
       refine Run.ret ?_
       have hH : helloH now h s = s4 := by
         unfold helloH helloAt
         rw [if_pos c70, if_pos (by omega)]
         rw [← hs4]; rw [← hs3, ← hs2, ← hs1]
       have hS : helloR now h st s = s4 := by
         unfold helloR
         rw [hH]
         obtain rfl : st = [] := List.eq_nil_of_length_eq_zero (by omega)
         rfl
       rw [← hS]
       subst hR
       exact J.ends (res_tmp rfl rfl) (.cons (by repeat constructor) (.cons (by repeat constructor) Takes.nil)) (.inr (.inr ⟨by unfold badH; rw [c21]; simpa using c26, by assumption, rfl, _, rfl⟩))
     ·skip
      refine Sq.nil ?_
      refine hk20 _ _ ?_
      refine Run.cond_f rfl ?_
      refine Run.skip ?_
      refine hk19 _ _ ?_
      refine Run.seq fun k25 hk25 => ?_
      refine Run.seq fun k26 hk26 => ?_
      refine Run.region ?_
      show Sq _ _ _ [0, 1, 2, 3] _ _ _ _
      refine Sq.quiet (i := 0) rfl (Want.none rfl) rfl (ltN rfl) (QP.fieldAddr rfl rfl f39_12).read ?_
      refine Sq.quiet (i := 1) rfl (Want.none rfl) rfl (ltN rfl) (QR.load1 rfl rfl g37 (Tlv.sub_stamps _)) ?_
      rw [hlv]
      refine Sq.quiet (i := 2) rfl (Want.none rfl) rfl (ltN rfl) (QP.len rfl rfl rfl Try.underlying37).read ?_
      refine Sq.quiet (i := 3) rfl (Want.none rfl) rfl (ltN rfl) (QP.gtr rfl rfl rfl).read ?_
      refine J.caseD (fun c115 => ?_) (fun c115 => ?_)
      ·skip
       refine Sq.nil ?_
       refine hk26 _ _ ?_
       refine Run.cond_t rfl ?_
       refine Run.region ?_
       show Sq _ _ _ [0, 1, 2, 3, 4, 5, 6, 7, 8, 9, 10, 11, 12, 13, 14, 15, 16] _ _ _ _
       obtain ⟨x0, hx0⟩ : ∃ x, st[Int.toNat 0]? = some x := ⟨_, List.getElem?_eq_getElem (by show 0 < st.length; omega)⟩
       obtain ⟨b1, o1, hla, hsA⟩ := hsa.get (by omega)
       rw [hla] at hlv
       refine Sq.quiet (i := 0) rfl (Want.none rfl) rfl (ltN rfl) (QP.move rfl rfl).read ?_
       refine Sq.quiet (i := 1) rfl (Want.none rfl) rfl (ltN rfl) (QP.move rfl rfl).read ?_
       refine Sq.quiet (i := 2) rfl (Want.none rfl) rfl (ltN rfl) (QP.move rfl rfl).read ?_
       refine Sq.quiet (i := 3) rfl (Want.none rfl) rfl (ltN rfl) (QP.fieldAddr rfl rfl f39_12).read ?_
       refine Sq.quiet (i := 4) rfl (Want.none rfl) rfl (ltN rfl) (QR.load1 rfl rfl g37 (Tlv.sub_stamps _)) ?_
       rw [hlv]
       refine Sq.quiet (i := 5) rfl (Want.none rfl) rfl (ltN rfl) (QP.indexAddr rfl rfl rfl Try.underlying37 z52 (by first | omega | (simp <;> omega)) (by first | omega | (simp <;> omega))).read ?_
       refine Sq.quiet (i := 6) rfl (Want.none rfl) rfl (ltN rfl) (QR.loadSl1 (ev := .int .u32) rfl rfl g52 (hsA _) hx0) ?_
       refine Sq.quiet (i := 7) rfl (Want.none rfl) rfl (ltN rfl) (QP.move rfl rfl).read ?_
       refine Sq.quiet (i := 8) rfl (Want.none rfl) rfl (ltN rfl) (QP.nilCheck rfl rfl).read ?_
       refine Sq.quiet (i := 9) rfl (Want.none rfl) rfl (ltN rfl) (QP.fieldAddr rfl rfl f54_10).read ?_
       refine Sq.act (i := 10) rfl (Want.none rfl) rfl (EF.store rfl rfl rfl z52 (Neighbour.set_sent _ _) (cell_one rfl)) ?_
       rintro _ _ rfl
       refine Sq.quiet (i := 11) rfl (Want.none rfl) rfl (ltN rfl) (QP.nilCheck rfl rfl).read ?_
       refine Sq.quiet (i := 12) rfl (Want.none rfl) rfl (ltN rfl) (QP.fieldAddr rfl rfl f54_11).read ?_
       refine Sq.act (i := 13) rfl (Want.none rfl) rfl (EF.store rfl rfl rfl z3 (Neighbour.set_heard _ _) (cell_one rfl)) ?_
       rintro _ _ rfl
       refine Sq.quiet (i := 14) rfl (Want.none rfl) rfl (ltN rfl) (QP.nilCheck rfl rfl).read ?_
       refine Sq.quiet (i := 15) rfl (Want.none rfl) rfl (ltN rfl) (QP.fieldAddr rfl rfl f54_12).read ?_
       refine Sq.act (i := 16) rfl (Want.none rfl) rfl (EF.store rfl rfl rfl z4 (Neighbour.set_hasSent _ _) (cell_one rfl)) ?_
       rintro _ _ rfl
       refine Sq.nil ?_
       refine hk25 _ _ ?_
       refine Run.seq fun k27 hk27 => ?_
       refine Run.region ?_
       show Sq _ _ _ [0] _ _ _ _
       refine Sq.quiet (i := 0) rfl (Want.none rfl) rfl (ltN rfl) (QP.assign rfl rfl).read ?_
       refine Sq.nil ?_
       refine hk27 _ _ ?_
       refine Run.ret ?_
       have hH : helloH now h s = s3 := by
         unfold helloH helloAt
         rw [if_pos c70, if_neg (by omega)]
         rw [← hs3, ← hs2, ← hs1]
       have hS : helloR now h st s = { s3 with sent := x0, heard := now, hasSent := true } := by
         unfold helloR
         rw [hH]
         cases st with
         | nil => simp at hx0
         | cons y l => simp at hx0; subst hx0; rfl
       rw [← hS]
       subst hR
       exact J.ends (res_tmp rfl rfl) (.cons (by repeat constructor) (.cons (by repeat constructor) Takes.nil)) (.inr (.inr ⟨by unfold badH; rw [c21]; simpa using c26, by assumption, rfl, _, rfl⟩))
      ·skip
       refine Sq.nil ?_
       refine hk26 _ _ ?_
       refine Run.cond_f rfl ?_
       refine Run.skip ?_
       refine hk25 _ _ ?_
       refine Run.seq fun k28 hk28 => ?_
       refine Run.region ?_
       show Sq _ _ _ [0] _ _ _ _
       refine Sq.quiet (i := 0) rfl (Want.none rfl) rfl (ltN rfl) (QP.assign rfl rfl).read ?_
       refine Sq.nil ?_
       refine hk28 _ _ ?_
       refine Run.ret ?_
       have hH : helloH now h s = s3 := by
         unfold helloH helloAt
         rw [if_pos c70, if_neg (by omega)]
         rw [← hs3, ← hs2, ← hs1]
       have hS : helloR now h st s = s3 := by
         unfold helloR
         rw [hH]
         obtain rfl : st = [] := List.eq_nil_of_length_eq_zero (by omega)
         rfl
       rw [← hS]
       subst hR
       exact J.ends (res_tmp rfl rfl) (.cons (by repeat constructor) (.cons (by repeat constructor) Takes.nil)) (.inr (.inr ⟨by unfold badH; rw [c21]; simpa using c26, by assumption, rfl, _, rfl⟩))
    ·skip
     refine Sq.nil ?_
     refine hk15 _ _ ?_
     refine Run.cond_f rfl ?_
     refine Run.skip ?_
     refine hk14 _ _ ?_
     refine Run.seq fun k29 hk29 => ?_
     refine Run.regionD (M := [0, 0, 2, 6, 0, 16, 62, 127, 255]) (q := 191) (r := 40) (by kernel_rfl) ?_
     refine Dw.pure (i := 0) rfl (by kernel_rfl) (Want.none rfl) rfl (ltN rfl) (QP.move rfl rfl) ?_
     refine Dw.pure (i := 1) rfl (by kernel_rfl) (Want.none rfl) rfl (ltN rfl) (QP.move rfl rfl) ?_
     refine Dw.pure (i := 2) rfl (by kernel_rfl) (Want.none rfl) rfl (ltN rfl) (QP.nilCheck rfl rfl) ?_
     refine Dw.read (i := 3) rfl (by kernel_rfl) (Want.none rfl) rfl (ltN rfl) (QR.load rfl rfl g51 (Neighbour.sub_multi _)) ?_
     refine Dw.pure (i := 4) rfl (by kernel_rfl) (Want.none rfl) rfl (ltN rfl) (QP.fieldAddr rfl rfl f39_3) ?_
     refine Dw.read (i := 5) rfl (by kernel_rfl) (Want.none rfl) rfl (ltN rfl) (QR.load1 rfl rfl g30 (Tlv.sub_seqno _)) ?_
     refine Dw.eff (i := 6) (by kernel_rfl) (by kernel_rfl) ?_
     refine One.mk (o := _) (l := []) rfl (by kernel_rfl) (Want.none rfl) rfl (ltN rfl) (EF.call rfl ce26 rfl Takes.nil (fun F' hle hr => hear_spec F' s.multi h.seqno (by omega) (by omega))) (by kernel_rfl) ?_
     rintro _ _ ⟨_, ⟨rfl, rfl⟩, rfl⟩
     refine ⟨fun _ h => (by cases h), ?_⟩
     refine J.app ?_
     refine Dw.pure (i := 7) rfl (by kernel_rfl) (Want.none rfl) rfl (ltN rfl) (QP.nilCheck rfl rfl) ?_
     refine Dw.eff (i := 8) (by kernel_rfl) (by kernel_rfl) ?_
     refine One.act (o := _) (l := []) rfl (by kernel_rfl) (Want.none rfl) rfl (EF.storeA rfl rfl rfl z51 (Neighbour.set_multi _ _) (History.enc_cell _)) (by kernel_rfl) ?_
     rintro _ _ rfl
     refine ⟨fun _ h => (by cases h), ?_⟩
     generalize hs1 : ({ s with multi := hearF s.multi h.seqno } : Neighbour) = s1
     refine Dw.nil (by kernel_rfl) ?_
     refine hk29 _ _ ?_
     refine Run.seq fun k30 hk30 => ?_
     refine Run.region ?_
     show Sq _ _ _ [0, 1, 2, 3, 4, 5, 6] _ _ _ _
     refine Sq.quiet (i := 0) rfl (Want.none rfl) rfl (ltN rfl) (QP.move rfl rfl).read ?_
     refine Sq.quiet (i := 1) rfl (Want.none rfl) rfl (ltN rfl) (QP.fieldAddr rfl rfl f39_2).read ?_
     refine Sq.quiet (i := 2) rfl (Want.none rfl) rfl (ltN rfl) (QR.load1 rfl rfl g30 (Tlv.sub_interval _)) ?_
     refine Sq.quiet (i := 3) rfl (Want.none rfl) rfl (ltN rfl) (QP.conv rfl rfl Try.underlying30 Try.underlying3).read ?_
     refine Sq.quiet (i := 4) rfl (Want.none rfl) rfl (ltN rfl) (QP.mul rfl rfl rfl).read ?_
     rw [show IntKind.i64.wrap (10 * IntKind.i64.wrap h.interval) = 10 * h.interval by rw [wrap_i64 (n := h.interval) (by omega) (by omega), wrap_i64 (by omega) (by omega)]]
     refine Sq.quiet (i := 5) rfl (Want.none rfl) rfl (ltN rfl) (QP.nilCheck rfl rfl).read ?_
     refine Sq.act (i := 6) rfl (Want.none rfl) rfl (EF.store rfl rfl rfl z3 (Neighbour.set_multiGap _ _) (cell_one rfl)) ?_
     rintro _ _ rfl
     generalize hs2 : ({ s1 with multiGap := (10 * h.interval) } : Neighbour) = s2
     refine Sq.nil ?_
     refine hk30 _ _ ?_
     refine Run.seq fun k31 hk31 => ?_
     refine Run.region ?_
     show Sq _ _ _ [0, 1, 2] _ _ _ _
     refine Sq.quiet (i := 0) rfl (Want.none rfl) rfl (ltN rfl) (QP.move rfl rfl).read ?_
     refine Sq.quiet (i := 1) rfl (Want.none rfl) rfl (ltN rfl) (QP.nilCheck rfl rfl).read ?_
     refine Sq.act (i := 2) rfl (Want.none rfl) rfl (EF.store rfl rfl rfl z3 (Neighbour.set_multiAt _ _) (cell_one rfl)) ?_
     rintro _ _ rfl
     generalize hs3 : ({ s2 with multiAt := 0 } : Neighbour) = s3
     have hg3 : s3.multiGap = 10 * h.interval := by rw [← hs3, ← hs2]
     refine Sq.nil ?_
     refine hk31 _ _ ?_
     refine Run.seq fun k32 hk32 => ?_
     refine Run.seq fun k33 hk33 => ?_
     refine Run.region ?_
     show Sq _ _ _ [0, 1, 2, 3] _ _ _ _
     refine Sq.quiet (i := 0) rfl (Want.none rfl) rfl (ltN rfl) (QP.move rfl rfl).read ?_
     refine Sq.quiet (i := 1) rfl (Want.none rfl) rfl (ltN rfl) (QP.nilCheck rfl rfl).read ?_
     refine Sq.quiet (i := 2) rfl (Want.none rfl) rfl (ltN rfl) (QR.load1 rfl rfl g3 (Neighbour.sub_multiGap _)) ?_
     rw [hg3]
     refine Sq.quiet (i := 3) rfl (Want.none rfl) rfl (ltN rfl) (QP.gtr rfl rfl rfl).read ?_
     refine J.caseD (fun c99 => ?_) (fun c99 => ?_)
     ·skip
      refine Sq.nil ?_
      refine hk33 _ _ ?_
      refine Run.cond_t rfl ?_
      refine Run.regionD (M := [0, 0, 0, 4, 12, 30, 0, 64, 192, 448, 1022, 2047, 4095]) (q := 4095) (r := 272) (by kernel_rfl) ?_
      refine Dw.pure (i := 0) rfl (by kernel_rfl) (Want.none rfl) rfl (ltN rfl) (QP.move rfl rfl) ?_
      refine Dw.pure (i := 1) rfl (by kernel_rfl) (Want.none rfl) rfl (ltN rfl) (QP.move rfl rfl) ?_
      refine Dw.pure (i := 2) rfl (by kernel_rfl) (Want.none rfl) rfl (ltN rfl) (QP.move rfl rfl) ?_
      refine Dw.pure (i := 3) rfl (by kernel_rfl) (Want.none rfl) rfl (ltN rfl) (QP.nilCheck rfl rfl) ?_
      refine Dw.read (i := 4) rfl (by kernel_rfl) (Want.none rfl) rfl (ltN rfl) (QR.load1 rfl rfl g3 (Neighbour.sub_multiGap _)) ?_
      try rw [hg3]
      refine Dw.pure (i := 5) rfl (by kernel_rfl) (Want.none rfl) rfl (ltN rfl) (QP.add64 rfl rfl rfl (by first | omega | (simp <;> omega)) (by first | omega | (simp <;> omega))) ?_
      refine Dw.pure (i := 6) rfl (by kernel_rfl) (Want.none rfl) rfl (ltN rfl) (QP.move rfl rfl) ?_
      refine Dw.pure (i := 7) rfl (by kernel_rfl) (Want.none rfl) rfl (ltN rfl) (QP.nilCheck rfl rfl) ?_
      refine Dw.read (i := 8) rfl (by kernel_rfl) (Want.none rfl) rfl (ltN rfl) (QR.load1 rfl rfl g3 (Neighbour.sub_multiGap _)) ?_
      try rw [hg3]
      refine Dw.pure (i := 9) rfl (by kernel_rfl) (Want.none rfl) rfl (ltN rfl) (QP.quo rfl rfl rfl (by first | omega | (simp <;> omega))) ?_
      rw [show IntKind.i64.wrap (Int.tdiv (10 * h.interval) 2) = 10 * h.interval / 2 by rw [Int.tdiv_eq_ediv_of_nonneg (by omega), wrap_i64 (by omega) (by omega)]]
      refine Dw.pure (i := 10) rfl (by kernel_rfl) (Want.none rfl) rfl (ltN rfl) (QP.add64 rfl rfl rfl (by first | omega | (simp <;> omega)) (by first | omega | (simp <;> omega))) ?_
      refine Dw.pure (i := 11) rfl (by kernel_rfl) (Want.none rfl) rfl (ltN rfl) (QP.nilCheck rfl rfl) ?_
      refine Dw.eff (i := 12) (by kernel_rfl) (by kernel_rfl) ?_
      refine One.act (o := _) (l := []) rfl (by kernel_rfl) (Want.none rfl) rfl (EF.store rfl rfl rfl z3 (Neighbour.set_multiAt _ _) (cell_one rfl)) (by kernel_rfl) ?_
      rintro _ _ rfl
      refine ⟨fun _ h => (by cases h), ?_⟩
      generalize hs4 : ({ s3 with multiAt := now + 10 * h.interval + 10 * h.interval / 2 } : Neighbour) = s4
      refine Dw.nil (by kernel_rfl) ?_
      refine hk32 _ _ ?_
      refine Run.seq fun k34 hk34 => ?_
      refine Run.seq fun k35 hk35 => ?_
      refine Run.region ?_
      show Sq _ _ _ [0, 1, 2, 3] _ _ _ _
      refine Sq.quiet (i := 0) rfl (Want.none rfl) rfl (ltN rfl) (QP.fieldAddr rfl rfl f39_12).read ?_
      refine Sq.quiet (i := 1) rfl (Want.none rfl) rfl (ltN rfl) (QR.load1 rfl rfl g37 (Tlv.sub_stamps _)) ?_
      rw [hlv]
      refine Sq.quiet (i := 2) rfl (Want.none rfl) rfl (ltN rfl) (QP.len rfl rfl rfl Try.underlying37).read ?_
      refine Sq.quiet (i := 3) rfl (Want.none rfl) rfl (ltN rfl) (QP.gtr rfl rfl rfl).read ?_
      refine J.caseD (fun c115 => ?_) (fun c115 => ?_)
      ·skip
       refine Sq.nil ?_
       refine hk35 _ _ ?_
       refine Run.cond_t rfl ?_
       refine Run.region ?_
       show Sq _ _ _ [0, 1, 2, 3, 4, 5, 6, 7, 8, 9, 10, 11, 12, 13, 14, 15, 16] _ _ _ _
       obtain ⟨x0, hx0⟩ : ∃ x, st[Int.toNat 0]? = some x := ⟨_, List.getElem?_eq_getElem (by show 0 < st.length; omega)⟩
       obtain ⟨b1, o1, hla, hsA⟩ := hsa.get (by omega)
       rw [hla] at hlv
       refine Sq.quiet (i := 0) rfl (Want.none rfl) rfl (ltN rfl) (QP.move rfl rfl).read ?_
       refine Sq.quiet (i := 1) rfl (Want.none rfl) rfl (ltN rfl) (QP.move rfl rfl).read ?_
       refine Sq.quiet (i := 2) rfl (Want.none rfl) rfl (ltN rfl) (QP.move rfl rfl).read ?_
       refine Sq.quiet (i := 3) rfl (Want.none rfl) rfl (ltN rfl) (QP.fieldAddr rfl rfl f39_12).read ?_
       refine Sq.quiet (i := 4) rfl (Want.none rfl) rfl (ltN rfl) (QR.load1 rfl rfl g37 (Tlv.sub_stamps _)) ?_
       rw [hlv]
       refine Sq.quiet (i := 5) rfl (Want.none rfl) rfl (ltN rfl) (QP.indexAddr rfl rfl rfl Try.underlying37 z52 (by first | omega | (simp <;> omega)) (by first | omega | (simp <;> omega))).read ?_
       refine Sq.quiet (i := 6) rfl (Want.none rfl) rfl (ltN rfl) (QR.loadSl1 (ev := .int .u32) rfl rfl g52 (hsA _) hx0) ?_
       refine Sq.quiet (i := 7) rfl (Want.none rfl) rfl (ltN rfl) (QP.move rfl rfl).read ?_
       refine Sq.quiet (i := 8) rfl (Want.none rfl) rfl (ltN rfl) (QP.nilCheck rfl rfl).read ?_
       refine Sq.quiet (i := 9) rfl (Want.none rfl) rfl (ltN rfl) (QP.fieldAddr rfl rfl f54_10).read ?_
       refine Sq.act (i := 10) rfl (Want.none rfl) rfl (EF.store rfl rfl rfl z52 (Neighbour.set_sent _ _) (cell_one rfl)) ?_
       rintro _ _ rfl
       refine Sq.quiet (i := 11) rfl (Want.none rfl) rfl (ltN rfl) (QP.nilCheck rfl rfl).read ?_
       refine Sq.quiet (i := 12) rfl (Want.none rfl) rfl (ltN rfl) (QP.fieldAddr rfl rfl f54_11).read ?_
       refine Sq.act (i := 13) rfl (Want.none rfl) rfl (EF.store rfl rfl rfl z3 (Neighbour.set_heard _ _) (cell_one rfl)) ?_
       rintro _ _ rfl
       refine Sq.quiet (i := 14) rfl (Want.none rfl) rfl (ltN rfl) (QP.nilCheck rfl rfl).read ?_
       refine Sq.quiet (i := 15) rfl (Want.none rfl) rfl (ltN rfl) (QP.fieldAddr rfl rfl f54_12).read ?_
       refine Sq.act (i := 16) rfl (Want.none rfl) rfl (EF.store rfl rfl rfl z4 (Neighbour.set_hasSent _ _) (cell_one rfl)) ?_
       rintro _ _ rfl
       refine Sq.nil ?_
       refine hk34 _ _ ?_
       refine Run.seq fun k36 hk36 => ?_
       refine Run.region ?_
       show Sq _ _ _ [0] _ _ _ _
       refine Sq.quiet (i := 0) rfl (Want.none rfl) rfl (ltN rfl) (QP.assign rfl rfl).read ?_
       refine Sq.nil ?_
       refine hk36 _ _ ?_
       refine Run.ret ?_
       have hH : helloH now h s = s4 := by
         unfold helloH helloAt
         rw [if_neg (by rw [c70]; simp), if_pos (by omega)]
         rw [← hs4]; rw [← hs3, ← hs2, ← hs1]
       have hS : helloR now h st s = { s4 with sent := x0, heard := now, hasSent := true } := by
         unfold helloR
         rw [hH]
         cases st with
         | nil => simp at hx0
         | cons y l => simp at hx0; subst hx0; rfl
       rw [← hS]
       subst hR
       exact J.ends (res_tmp rfl rfl) (.cons (by repeat constructor) (.cons (by repeat constructor) Takes.nil)) (.inr (.inr ⟨by unfold badH; rw [c21]; simpa using c26, by assumption, rfl, _, rfl⟩))
      ·skip
       refine Sq.nil ?_
       refine hk35 _ _ ?_
       refine Run.cond_f rfl ?_
       refine Run.skip ?_
       refine hk34 _ _ ?_
       refine Run.seq fun k37 hk37 => ?_
       refine Run.region ?_
       show Sq _ _ _ [0] _ _ _ _
       refine Sq.quiet (i := 0) rfl (Want.none rfl) rfl (ltN rfl) (QP.assign rfl rfl).read ?_
       refine Sq.nil ?_
       refine hk37 _ _ ?_
       refine Run.ret ?_
       have hH : helloH now h s = s4 := by
         unfold helloH helloAt
         rw [if_neg (by rw [c70]; simp), if_pos (by omega)]
         rw [← hs4]; rw [← hs3, ← hs2, ← hs1]
       have hS : helloR now h st s = s4 := by
         unfold helloR
         rw [hH]
         obtain rfl : st = [] := List.eq_nil_of_length_eq_zero (by omega)
         rfl
       rw [← hS]
       subst hR
       exact J.ends (res_tmp rfl rfl) (.cons (by repeat constructor) (.cons (by repeat constructor) Takes.nil)) (.inr (.inr ⟨by unfold badH; rw [c21]; simpa using c26, by assumption, rfl, _, rfl⟩))
     ·skip
      refine Sq.nil ?_
      refine hk33 _ _ ?_
      refine Run.cond_f rfl ?_
      refine Run.skip ?_
      refine hk32 _ _ ?_
      refine Run.seq fun k38 hk38 => ?_
      refine Run.seq fun k39 hk39 => ?_
      refine Run.region ?_
      show Sq _ _ _ [0, 1, 2, 3] _ _ _ _
      refine Sq.quiet (i := 0) rfl (Want.none rfl) rfl (ltN rfl) (QP.fieldAddr rfl rfl f39_12).read ?_
      refine Sq.quiet (i := 1) rfl (Want.none rfl) rfl (ltN rfl) (QR.load1 rfl rfl g37 (Tlv.sub_stamps _)) ?_
      rw [hlv]
      refine Sq.quiet (i := 2) rfl (Want.none rfl) rfl (ltN rfl) (QP.len rfl rfl rfl Try.underlying37).read ?_
      refine Sq.quiet (i := 3) rfl (Want.none rfl) rfl (ltN rfl) (QP.gtr rfl rfl rfl).read ?_
      refine J.caseD (fun c115 => ?_) (fun c115 => ?_)
      ·skip
       refine Sq.nil ?_
       refine hk39 _ _ ?_
       refine Run.cond_t rfl ?_
       refine Run.region ?_
       show Sq _ _ _ [0, 1, 2, 3, 4, 5, 6, 7, 8, 9, 10, 11, 12, 13, 14, 15, 16] _ _ _ _
       obtain ⟨x0, hx0⟩ : ∃ x, st[Int.toNat 0]? = some x := ⟨_, List.getElem?_eq_getElem (by show 0 < st.length; omega)⟩
       obtain ⟨b1, o1, hla, hsA⟩ := hsa.get (by omega)
       rw [hla] at hlv
       refine Sq.quiet (i := 0) rfl (Want.none rfl) rfl (ltN rfl) (QP.move rfl rfl).read ?_
       refine Sq.quiet (i := 1) rfl (Want.none rfl) rfl (ltN rfl) (QP.move rfl rfl).read ?_
       refine Sq.quiet (i := 2) rfl (Want.none rfl) rfl (ltN rfl) (QP.move rfl rfl).read ?_
       refine Sq.quiet (i := 3) rfl (Want.none rfl) rfl (ltN rfl) (QP.fieldAddr rfl rfl f39_12).read ?_
       refine Sq.quiet (i := 4) rfl (Want.none rfl) rfl (ltN rfl) (QR.load1 rfl rfl g37 (Tlv.sub_stamps _)) ?_
       rw [hlv]
       refine Sq.quiet (i := 5) rfl (Want.none rfl) rfl (ltN rfl) (QP.indexAddr rfl rfl rfl Try.underlying37 z52 (by first | omega | (simp <;> omega)) (by first | omega | (simp <;> omega))).read ?_
       refine Sq.quiet (i := 6) rfl (Want.none rfl) rfl (ltN rfl) (QR.loadSl1 (ev := .int .u32) rfl rfl g52 (hsA _) hx0) ?_
       refine Sq.quiet (i := 7) rfl (Want.none rfl) rfl (ltN rfl) (QP.move rfl rfl).read ?_
       refine Sq.quiet (i := 8) rfl (Want.none rfl) rfl (ltN rfl) (QP.nilCheck rfl rfl).read ?_
       refine Sq.quiet (i := 9) rfl (Want.none rfl) rfl (ltN rfl) (QP.fieldAddr rfl rfl f54_10).read ?_
       refine Sq.act (i := 10) rfl (Want.none rfl) rfl (EF.store rfl rfl rfl z52 (Neighbour.set_sent _ _) (cell_one rfl)) ?_
       rintro _ _ rfl
       refine Sq.quiet (i := 11) rfl (Want.none rfl) rfl (ltN rfl) (QP.nilCheck rfl rfl).read ?_
       refine Sq.quiet (i := 12) rfl (Want.none rfl) rfl (ltN rfl) (QP.fieldAddr rfl rfl f54_11).read ?_
       refine Sq.act (i := 13) rfl (Want.none rfl) rfl (EF.store rfl rfl rfl z3 (Neighbour.set_heard _ _) (cell_one rfl)) ?_
       rintro _ _ rfl
       refine Sq.quiet (i := 14) rfl (Want.none rfl) rfl (ltN rfl) (QP.nilCheck rfl rfl).read ?_
       refine Sq.quiet (i := 15) rfl (Want.none rfl) rfl (ltN rfl) (QP.fieldAddr rfl rfl f54_12).read ?_
       refine Sq.act (i := 16) rfl (Want.none rfl) rfl (EF.store rfl rfl rfl z4 (Neighbour.set_hasSent _ _) (cell_one rfl)) ?_
       rintro _ _ rfl
       refine Sq.nil ?_
       refine hk38 _ _ ?_
       refine Run.seq fun k40 hk40 => ?_
       refine Run.region ?_
       show Sq _ _ _ [0] _ _ _ _
       refine Sq.quiet (i := 0) rfl (Want.none rfl) rfl (ltN rfl) (QP.assign rfl rfl).read ?_
       refine Sq.nil ?_
       refine hk40 _ _ ?_
       refine Run.ret ?_
       have hH : helloH now h s = s3 := by
         unfold helloH helloAt
         rw [if_neg (by rw [c70]; simp), if_neg (by omega)]
         rw [← hs3, ← hs2, ← hs1]
       have hS : helloR now h st s = { s3 with sent := x0, heard := now, hasSent := true } := by
         unfold helloR
         rw [hH]
         cases st with
         | nil => simp at hx0
         | cons y l => simp at hx0; subst hx0; rfl
       rw [← hS]
       subst hR
       exact J.ends (res_tmp rfl rfl) (.cons (by repeat constructor) (.cons (by repeat constructor) Takes.nil)) (.inr (.inr ⟨by unfold badH; rw [c21]; simpa using c26, by assumption, rfl, _, rfl⟩))
      ·skip
       refine Sq.nil ?_
       refine hk39 _ _ ?_
       refine Run.cond_f rfl ?_
       refine Run.skip ?_
       refine hk38 _ _ ?_
       refine Run.seq fun k41 hk41 => ?_
       refine Run.region ?_
       show Sq _ _ _ [0] _ _ _ _
       refine Sq.quiet (i := 0) rfl (Want.none rfl) rfl (ltN rfl) (QP.assign rfl rfl).read ?_
       refine Sq.nil ?_
       refine hk41 _ _ ?_
       refine Run.ret ?_
       have hH : helloH now h s = s3 := by
         unfold helloH helloAt
         rw [if_neg (by rw [c70]; simp), if_neg (by omega)]
         rw [← hs3, ← hs2, ← hs1]
       have hS : helloR now h st s = s3 := by
         unfold helloR
         rw [hH]
         obtain rfl : st = [] := List.eq_nil_of_length_eq_zero (by omega)
         rfl
       rw [← hS]
       subst hR
       exact J.ends (res_tmp rfl rfl) (.cons (by repeat constructor) (.cons (by repeat constructor) Takes.nil)) (.inr (.inr ⟨by unfold badH; rw [c21]; simpa using c26, by assumption, rfl, _, rfl⟩))
 ·skip
  refine Sq.quiet (i := 3) rfl (Want.none rfl) rfl (ltN rfl) (QP.not rfl rfl).read ?_
  refine Sq.quiet (i := 4) rfl (Want.none rfl) rfl (ltN rfl) (QP.move rfl rfl).read ?_
  refine Sq.skip (i := 5) rfl (Want.no rfl rfl rfl rfl) rfl (ltN rfl) ?_
  refine Sq.skip (i := 6) rfl (Want.no rfl rfl rfl rfl) rfl (ltN rfl) ?_
  refine Sq.skip (i := 7) rfl (Want.no rfl rfl rfl rfl) rfl (ltN rfl) ?_
  refine Sq.quiet (i := 8) rfl (Want.none rfl) rfl (ltN rfl) (QP.pick_t rfl rfl rfl).read ?_
  refine Sq.quiet (i := 9) rfl (Want.none rfl) rfl (ltN rfl) (QP.assign rfl rfl).read ?_
  refine Sq.nil ?_
  refine hk4 _ _ ?_
  refine Run.cond_t rfl ?_
  refine Run.seq fun k42 hk42 => ?_
  refine Run.region ?_
  show Sq _ _ _ [0] _ _ _ _
  refine Sq.quiet (i := 0) rfl (Want.none rfl) rfl (ltN rfl) (QP.assign rfl rfl).read ?_
  refine Sq.nil ?_
  refine hk42 _ _ ?_
  refine Run.ret ?_
  exact J.ends (res_tmp rfl rfl) (.cons (by repeat constructor) Takes.nil) (.inl ⟨by unfold badH; rw [c21]; rfl, rfl, rfl⟩)

set_option maxHeartbeats 1000000 in
theorem helloQ_some (F : Fr) {b r c : Nat} {most : Int} {q : Slc} {E : EntN} {s : Neighbour} (hf : InN F b r most q []) (now : Int) (hn0 : 0 ≤ now) (hn1 : now ≤ 2305843009213693952) (j : I64) (fr : Bs 16) (h : Tlv) (hw : h.WF) (st : List Int) (hsn : h.stamps.n = st.length) (hsl : st.length ≤ 9223372036854775807) (hsa : ArgSl F h.stamps.a 1 (fun n => [Value.int .u32 n]) st) (hl : alook (ptrs E) ⟨j, fr⟩ = some c) (hok : OkHist s) : Spec Try.prog 11 #[.pointer (some ⟨b, 0, none⟩), .int .i64 now, .int .i64 (j : I64).val, .agg (Bs.enc (fr : Bs 16)).toArray, .agg (Tlv.enc h).toArray] [mapN r (ptrs E), blk c (Neighbour.enc s) 54] F (fun v S => (badH q.n j.val h.type 4 = true ∧ v = .int .i64 2 ∧ S = [mapN r (ptrs E), blk c (Neighbour.enc s) 54]) ∨ (badH q.n j.val h.type 4 = false ∧ v = .int .i64 0 ∧ S = [mapN r (ptrs E), blk c (Neighbour.enc (helloR now h st s)) 54])) := by
 have hiv : 0 ≤ h.interval ∧ h.interval ≤ 65535 := hw.2.2.1
 have hlv : Slc.v h.stamps = .slice h.stamps.a st.length h.stamps.c := by rw [← hsn]; rfl
 refine Spec.intro (N := 130) (args := [.pointer (some ⟨b, 0, none⟩), .int .i64 now, .int .i64 (j : I64).val, .agg (Bs.enc (fr : Bs 16)).toArray, .agg (Tlv.enc h).toArray]) Try.func11 rfl rfl (by simp) ?_
 refine Run.seq fun k1 hk1 => ?_
 refine Run.region ?_
 show Sq _ _ _ [0, 1, 2] _ _ _ _
 refine Sq.eff (i := 0) rfl (Want.none rfl) rfl (ltN rfl) (EF.boxA rfl rfl) ?_
 rintro _ _ ⟨b8, rfl, rfl⟩
 refine Sq.eff (i := 1) rfl (Want.none rfl) rfl (ltN rfl) (EF.boxA rfl rfl) ?_
 rintro _ _ ⟨b9, rfl, rfl⟩
 refine Sq.quiet (i := 2) rfl (Want.none rfl) rfl (ltN rfl) (QP.assign rfl rfl).read ?_
 refine Sq.nil ?_
 refine hk1 _ _ ?_
 refine Run.seq fun k2 hk2 => ?_
 refine Run.block ?_
 refine Run.seq fun k3 hk3 => ?_
 refine Run.region ?_
 show Sq _ _ _ [0, 1, 2] _ _ _ _
 refine Sq.quiet (i := 0) rfl (Want.none rfl) rfl (ltN rfl) (QP.move rfl rfl).read ?_
 refine Sq.quiet (i := 1) rfl (Want.none rfl) rfl (ltN rfl) (QP.ptr_eq_nil rfl rfl rfl Try.underlying26).read ?_
 refine Sq.quiet (i := 2) rfl (Want.none rfl) rfl (ltN rfl) (QP.assign rfl rfl).read ?_
 refine Sq.nil ?_
 refine hk3 _ _ ?_
 refine Run.cond_f rfl ?_
 refine Run.seq fun k4 hk4 => ?_
 refine Run.region ?_
 show Sq _ _ _ [0, 1, 2, 3, 4, 5, 6, 7, 8, 9] _ _ _ _
 refine Sq.quiet (i := 0) rfl (Want.none rfl) rfl (ltN rfl) (QP.move rfl rfl).read ?_
 refine Sq.quiet (i := 1) rfl (Want.none rfl) rfl (ltN rfl) (QP.move rfl rfl).read ?_
 refine Sq.eff (i := 2) rfl (Want.none rfl) rfl (ltN rfl) (EF.call rfl ce25 rfl Takes.nil (fun F' hle hr => onQ F' (hf.mono hle) (j.val))) ?_
 rintro _ _ ⟨_, ⟨rfl, rfl⟩, rfl⟩
 refine J.app ?_
 refine J.caseB (fun c21 => ?_) (fun c21 => ?_)
 ·skip
  refine Sq.quiet (i := 3) rfl (Want.none rfl) rfl (ltN rfl) (QP.not rfl rfl).read ?_
  refine Sq.quiet (i := 4) rfl (Want.none rfl) rfl (ltN rfl) (QP.move rfl rfl).read ?_
  refine Sq.quiet (i := 5) rfl (Want.yes rfl rfl rfl rfl) rfl (ltN rfl) (QP.fieldAddr rfl rfl f39_0).read ?_
  refine Sq.quiet (i := 6) rfl (Want.yes rfl rfl rfl rfl) rfl (ltN rfl) (QR.load1 rfl rfl g5 (Tlv.sub_type _)) ?_
  refine Sq.quiet (i := 7) rfl (Want.yes rfl rfl rfl rfl) rfl (ltN rfl) (QP.neq rfl rfl rfl).read ?_
  refine J.caseD (fun c26 => ?_) (fun c26 => ?_)
  ·skip
   refine Sq.quiet (i := 8) rfl (Want.none rfl) rfl (ltN rfl) (QP.pick_f rfl rfl rfl).read ?_
   refine Sq.quiet (i := 9) rfl (Want.none rfl) rfl (ltN rfl) (QP.assign rfl rfl).read ?_
   refine Sq.nil ?_
   refine hk4 _ _ ?_
   refine Run.cond_t rfl ?_
   refine Run.seq fun k5 hk5 => ?_
   refine Run.region ?_
   show Sq _ _ _ [0] _ _ _ _
   refine Sq.quiet (i := 0) rfl (Want.none rfl) rfl (ltN rfl) (QP.assign rfl rfl).read ?_
   refine Sq.nil ?_
   refine hk5 _ _ ?_
   refine Run.ret ?_
   exact J.ends (res_tmp rfl rfl) (.cons (by repeat constructor) (.cons (by repeat constructor) Takes.nil)) (.inl ⟨by unfold badH; rw [c21]; simpa using c26, rfl, rfl⟩)
  ·skip
   refine Sq.quiet (i := 8) rfl (Want.none rfl) rfl (ltN rfl) (QP.pick_f rfl rfl rfl).read ?_
   refine Sq.quiet (i := 9) rfl (Want.none rfl) rfl (ltN rfl) (QP.assign rfl rfl).read ?_
   refine Sq.nil ?_
   refine hk4 _ _ ?_
   refine Run.cond_f rfl ?_
   refine Run.skip ?_
   refine hk2 _ _ ?_
   refine Run.seq fun k6 hk6 => ?_
   refine Run.regionD (M := [0, 1, 3, 7, 0, 0, 48, 127, 255]) (q := 255) (r := 168) (by kernel_rfl) ?_
   refine Dw.pure (i := 0) rfl (by kernel_rfl) (Want.none rfl) rfl (ltN rfl) (QP.move rfl rfl) ?_
   refine Dw.pure (i := 1) rfl (by kernel_rfl) (Want.none rfl) rfl (ltN rfl) (QP.nilCheck rfl rfl) ?_
   refine Dw.pure (i := 2) rfl (by kernel_rfl) (Want.none rfl) rfl (ltN rfl) (QP.fieldAddr rfl rfl f77_2) ?_
   refine Dw.read (i := 3) rfl (by kernel_rfl) (Want.none rfl) rfl (ltN rfl) (QR.load1F rfl rfl g75 hf.tb (NeighTable.sub_m _)) ?_
   refine Dw.pure (i := 4) rfl (by kernel_rfl) (Want.none rfl) rfl (ltN rfl) (QP.move rfl rfl) ?_
   refine Dw.read (i := 5) rfl (by kernel_rfl) (Want.none rfl) rfl (ltN rfl) (QR.load rfl rfl g29 (Bs.sub _)) ?_
   refine Dw.pure (i := 6) rfl (by kernel_rfl) (Want.none rfl) rfl (ltN rfl) (QP.build (l := NeighKey.enc ⟨j, (fr)⟩) rfl st81 rfl (by exact ⟨rfl, ⟨(congrArg some (Bs.len _).symm), trivial⟩⟩) rfl) ?_
   refine Dw.read (i := 7) rfl (by kernel_rfl) (Want.none rfl) rfl (ltN rfl) (QR.lookupSome key81 rfl rfl rfl Try.underlying75 zero79 hl) ?_
   refine Dw.eff (i := 8) (by kernel_rfl) (by kernel_rfl) ?_
   refine One.mk (o := _) (l := []) rfl (by kernel_rfl) (Want.none rfl) rfl (ltN rfl) ((QP.assign rfl rfl).eff) (by kernel_rfl) ?_
   rintro _ _ ⟨rfl, rfl⟩
   refine ⟨fun _ h => (by cases h), ?_⟩
   refine Dw.nil (by kernel_rfl) ?_
   refine hk6 _ _ ?_
   refine Run.seq fun k7 hk7 => ?_
   refine Run.seq fun k8 hk8 => ?_
   refine Run.region ?_
   show Sq _ _ _ [0, 1] _ _ _ _
   refine Sq.quiet (i := 0) rfl (Want.none rfl) rfl (ltN rfl) (QP.move rfl rfl).read ?_
   refine Sq.quiet (i := 1) rfl (Want.none rfl) rfl (ltN rfl) (QP.ptr_eq_nil rfl rfl rfl Try.underlying79).read ?_
   refine Sq.nil ?_
   refine hk8 _ _ ?_
   refine Run.cond_f rfl ?_
   refine Run.skip ?_
   refine hk7 _ _ ?_
   refine Run.seq fun k9 hk9 => ?_
   refine Run.regionM (M := [0, 1, 3, 0, 8, 24, 0, 64, 192, 7, 575, 2047]) (q := 511) (r := 0) mixedT (by kernel_rfl) ?_
   obtain ⟨⟨hm0, hm1⟩, hu0, hu1⟩ := hok
   refine Dw.pure (i := 0) rfl (by kernel_rfl) (Want.none rfl) rfl (ltN rfl) (QP.move rfl rfl) ?_
   refine Dw.pure (i := 1) rfl (by kernel_rfl) (Want.none rfl) rfl (ltN rfl) (QP.nilCheck rfl rfl) ?_
   refine Dw.pure (i := 2) rfl (by kernel_rfl) (Want.none rfl) rfl (ltN rfl) (QP.fieldAddr rfl rfl f54_2) ?_
   refine Dw.pure (i := 3) rfl (by kernel_rfl) (Want.none rfl) rfl (ltN rfl) (QP.move rfl rfl) ?_
   refine Dw.pure (i := 4) rfl (by kernel_rfl) (Want.none rfl) rfl (ltN rfl) (QP.nilCheck rfl rfl) ?_
   refine Dw.pure (i := 5) rfl (by kernel_rfl) (Want.none rfl) rfl (ltN rfl) (QP.fieldAddr rfl rfl f54_4) ?_
   refine Dw.pure (i := 6) rfl (by kernel_rfl) (Want.none rfl) rfl (ltN rfl) (QP.move rfl rfl) ?_
   refine Dw.pure (i := 7) rfl (by kernel_rfl) (Want.none rfl) rfl (ltN rfl) (QP.nilCheck rfl rfl) ?_
   refine Dw.pure (i := 8) rfl (by kernel_rfl) (Want.none rfl) rfl (ltN rfl) (QP.fieldAddr rfl rfl f54_6) ?_
   refine Dw.eff (i := 9) (by kernel_rfl) (by kernel_rfl) ?_
   refine One.mk (o := _) (l := []) rfl (by kernel_rfl) (Want.none rfl) rfl (ltN rfl) ((QP.assign rfl rfl).eff) (by kernel_rfl) ?_
   rintro _ _ ⟨rfl, rfl⟩
   refine ⟨fun _ h => (by cases h), ?_⟩
   refine Dw.eff (i := 10) (by kernel_rfl) (by kernel_rfl) ?_
   refine One.mk (o := _) (l := []) rfl (by kernel_rfl) (Want.none rfl) rfl (ltN rfl) ((QP.assign rfl rfl).eff) (by kernel_rfl) ?_
   rintro _ _ ⟨rfl, rfl⟩
   refine ⟨fun _ h => (by cases h), ?_⟩
   refine Dw.eff (i := 11) (by kernel_rfl) (by kernel_rfl) ?_
   refine One.mk (o := _) (l := []) rfl (by kernel_rfl) (Want.none rfl) rfl (ltN rfl) ((QP.assign rfl rfl).eff) (by kernel_rfl) ?_
   rintro _ _ ⟨rfl, rfl⟩
   refine ⟨fun _ h => (by cases h), ?_⟩
   refine Dw.nil (by kernel_rfl) ?_
   refine hk9 _ _ ?_
   refine Run.seq fun k10 hk10 => ?_
   refine Run.seq fun k11 hk11 => ?_
   refine Run.region ?_
   show Sq _ _ _ [0, 1] _ _ _ _
   refine Sq.quiet (i := 0) rfl (Want.none rfl) rfl (ltN rfl) (QP.fieldAddr rfl rfl f39_7).read ?_
   refine Sq.quiet (i := 1) rfl (Want.none rfl) rfl (ltN rfl) (QR.load1 rfl rfl g4 (Tlv.sub_unicast _)) ?_
   refine J.caseB (fun c70 => ?_) (fun c70 => ?_)
   ·skip
    refine Sq.nil ?_
    refine hk11 _ _ ?_
    refine Run.cond_t rfl ?_
    refine Run.regionM (M := [0, 1, 3, 0, 8, 24, 0, 64, 192, 7, 575, 2047]) (q := 511) (r := 0) mixedT (by kernel_rfl) ?_
    refine Dw.pure (i := 0) rfl (by kernel_rfl) (Want.none rfl) rfl (ltN rfl) (QP.move rfl rfl) ?_
    refine Dw.pure (i := 1) rfl (by kernel_rfl) (Want.none rfl) rfl (ltN rfl) (QP.nilCheck rfl rfl) ?_
    refine Dw.pure (i := 2) rfl (by kernel_rfl) (Want.none rfl) rfl (ltN rfl) (QP.fieldAddr rfl rfl f54_3) ?_
    refine Dw.pure (i := 3) rfl (by kernel_rfl) (Want.none rfl) rfl (ltN rfl) (QP.move rfl rfl) ?_
    refine Dw.pure (i := 4) rfl (by kernel_rfl) (Want.none rfl) rfl (ltN rfl) (QP.nilCheck rfl rfl) ?_
    refine Dw.pure (i := 5) rfl (by kernel_rfl) (Want.none rfl) rfl (ltN rfl) (QP.fieldAddr rfl rfl f54_5) ?_
    refine Dw.pure (i := 6) rfl (by kernel_rfl) (Want.none rfl) rfl (ltN rfl) (QP.move rfl rfl) ?_
    refine Dw.pure (i := 7) rfl (by kernel_rfl) (Want.none rfl) rfl (ltN rfl) (QP.nilCheck rfl rfl) ?_
    refine Dw.pure (i := 8) rfl (by kernel_rfl) (Want.none rfl) rfl (ltN rfl) (QP.fieldAddr rfl rfl f54_7) ?_
    refine Dw.eff (i := 9) (by kernel_rfl) (by kernel_rfl) ?_
    refine One.mk (o := _) (l := []) rfl (by kernel_rfl) (Want.none rfl) rfl (ltN rfl) ((QP.assign rfl rfl).eff) (by kernel_rfl) ?_
    rintro _ _ ⟨rfl, rfl⟩
    refine ⟨fun _ h => (by cases h), ?_⟩
    refine Dw.eff (i := 10) (by kernel_rfl) (by kernel_rfl) ?_
    refine One.mk (o := _) (l := []) rfl (by kernel_rfl) (Want.none rfl) rfl (ltN rfl) ((QP.assign rfl rfl).eff) (by kernel_rfl) ?_
    rintro _ _ ⟨rfl, rfl⟩
    refine ⟨fun _ h => (by cases h), ?_⟩
    refine Dw.eff (i := 11) (by kernel_rfl) (by kernel_rfl) ?_
    refine One.mk (o := _) (l := []) rfl (by kernel_rfl) (Want.none rfl) rfl (ltN rfl) ((QP.assign rfl rfl).eff) (by kernel_rfl) ?_
    rintro _ _ ⟨rfl, rfl⟩
    refine ⟨fun _ h => (by cases h), ?_⟩
    refine Dw.nil (by kernel_rfl) ?_
    refine hk10 _ _ ?_
    refine Run.seq fun k12 hk12 => ?_
    refine Run.regionD (M := [0, 0, 2, 6, 0, 16, 62, 127, 255]) (q := 191) (r := 40) (by kernel_rfl) ?_
    refine Dw.pure (i := 0) rfl (by kernel_rfl) (Want.none rfl) rfl (ltN rfl) (QP.move rfl rfl) ?_
    refine Dw.pure (i := 1) rfl (by kernel_rfl) (Want.none rfl) rfl (ltN rfl) (QP.move rfl rfl) ?_
    refine Dw.pure (i := 2) rfl (by kernel_rfl) (Want.none rfl) rfl (ltN rfl) (QP.nilCheck rfl rfl) ?_
    refine Dw.read (i := 3) rfl (by kernel_rfl) (Want.none rfl) rfl (ltN rfl) (QR.load rfl rfl g51 (Neighbour.sub_uni _)) ?_
    refine Dw.pure (i := 4) rfl (by kernel_rfl) (Want.none rfl) rfl (ltN rfl) (QP.fieldAddr rfl rfl f39_3) ?_
    refine Dw.read (i := 5) rfl (by kernel_rfl) (Want.none rfl) rfl (ltN rfl) (QR.load1 rfl rfl g30 (Tlv.sub_seqno _)) ?_
    refine Dw.eff (i := 6) (by kernel_rfl) (by kernel_rfl) ?_
    refine One.mk (o := _) (l := []) rfl (by kernel_rfl) (Want.none rfl) rfl (ltN rfl) (EF.call rfl ce26 rfl Takes.nil (fun F' hle hr => hear_spec F' s.uni h.seqno (by omega) (by omega))) (by kernel_rfl) ?_
    rintro _ _ ⟨_, ⟨rfl, rfl⟩, rfl⟩
    refine ⟨fun _ h => (by cases h), ?_⟩
    refine J.app ?_
    refine Dw.pure (i := 7) rfl (by kernel_rfl) (Want.none rfl) rfl (ltN rfl) (QP.nilCheck rfl rfl) ?_
    refine Dw.eff (i := 8) (by kernel_rfl) (by kernel_rfl) ?_
    refine One.act (o := _) (l := []) rfl (by kernel_rfl) (Want.none rfl) rfl (EF.storeA rfl rfl rfl z51 (Neighbour.set_uni _ _) (History.enc_cell _)) (by kernel_rfl) ?_
    rintro _ _ rfl
    refine ⟨fun _ h => (by cases h), ?_⟩
    generalize hs1 : ({ s with uni := hearF s.uni h.seqno } : Neighbour) = s1
    refine Dw.nil (by kernel_rfl) ?_
    refine hk12 _ _ ?_
    refine Run.seq fun k13 hk13 => ?_
    refine Run.region ?_
    show Sq _ _ _ [0, 1, 2, 3, 4, 5, 6] _ _ _ _
    refine Sq.quiet (i := 0) rfl (Want.none rfl) rfl (ltN rfl) (QP.move rfl rfl).read ?_
    refine Sq.quiet (i := 1) rfl (Want.none rfl) rfl (ltN rfl) (QP.fieldAddr rfl rfl f39_2).read ?_
    refine Sq.quiet (i := 2) rfl (Want.none rfl) rfl (ltN rfl) (QR.load1 rfl rfl g30 (Tlv.sub_interval _)) ?_
    refine Sq.quiet (i := 3) rfl (Want.none rfl) rfl (ltN rfl) (QP.conv rfl rfl Try.underlying30 Try.underlying3).read ?_
    refine Sq.quiet (i := 4) rfl (Want.none rfl) rfl (ltN rfl) (QP.mul rfl rfl rfl).read ?_
    rw [show IntKind.i64.wrap (10 * IntKind.i64.wrap h.interval) = 10 * h.interval by rw [wrap_i64 (n := h.interval) (by omega) (by omega), wrap_i64 (by omega) (by omega)]]
    refine Sq.quiet (i := 5) rfl (Want.none rfl) rfl (ltN rfl) (QP.nilCheck rfl rfl).read ?_
    refine Sq.act (i := 6) rfl (Want.none rfl) rfl (EF.store rfl rfl rfl z3 (Neighbour.set_uniGap _ _) (cell_one rfl)) ?_
    rintro _ _ rfl
    generalize hs2 : ({ s1 with uniGap := (10 * h.interval) } : Neighbour) = s2
    refine Sq.nil ?_
    refine hk13 _ _ ?_
    refine Run.seq fun k14 hk14 => ?_
    refine Run.region ?_
    show Sq _ _ _ [0, 1, 2] _ _ _ _
    refine Sq.quiet (i := 0) rfl (Want.none rfl) rfl (ltN rfl) (QP.move rfl rfl).read ?_
    refine Sq.quiet (i := 1) rfl (Want.none rfl) rfl (ltN rfl) (QP.nilCheck rfl rfl).read ?_
    refine Sq.act (i := 2) rfl (Want.none rfl) rfl (EF.store rfl rfl rfl z3 (Neighbour.set_uniAt _ _) (cell_one rfl)) ?_
    rintro _ _ rfl
    generalize hs3 : ({ s2 with uniAt := 0 } : Neighbour) = s3
    have hg3 : s3.uniGap = 10 * h.interval := by rw [← hs3, ← hs2]
    refine Sq.nil ?_
    refine hk14 _ _ ?_
    refine Run.seq fun k15 hk15 => ?_
    refine Run.seq fun k16 hk16 => ?_
    refine Run.region ?_
    show Sq _ _ _ [0, 1, 2, 3] _ _ _ _
    refine Sq.quiet (i := 0) rfl (Want.none rfl) rfl (ltN rfl) (QP.move rfl rfl).read ?_
    refine Sq.quiet (i := 1) rfl (Want.none rfl) rfl (ltN rfl) (QP.nilCheck rfl rfl).read ?_
    refine Sq.quiet (i := 2) rfl (Want.none rfl) rfl (ltN rfl) (QR.load1 rfl rfl g3 (Neighbour.sub_uniGap _)) ?_
    rw [hg3]
    refine Sq.quiet (i := 3) rfl (Want.none rfl) rfl (ltN rfl) (QP.gtr rfl rfl rfl).read ?_
    refine J.caseD (fun c99 => ?_) (fun c99 => ?_)
    ·skip
     refine Sq.nil ?_
     refine hk16 _ _ ?_
     refine Run.cond_t rfl ?_
     refine Run.regionD (M := [0, 0, 0, 4, 12, 30, 0, 64, 192, 448, 1022, 2047, 4095]) (q := 4095) (r := 272) (by kernel_rfl) ?_
     refine Dw.pure (i := 0) rfl (by kernel_rfl) (Want.none rfl) rfl (ltN rfl) (QP.move rfl rfl) ?_
     refine Dw.pure (i := 1) rfl (by kernel_rfl) (Want.none rfl) rfl (ltN rfl) (QP.move rfl rfl) ?_
     refine Dw.pure (i := 2) rfl (by kernel_rfl) (Want.none rfl) rfl (ltN rfl) (QP.move rfl rfl) ?_
     refine Dw.pure (i := 3) rfl (by kernel_rfl) (Want.none rfl) rfl (ltN rfl) (QP.nilCheck rfl rfl) ?_
     refine Dw.read (i := 4) rfl (by kernel_rfl) (Want.none rfl) rfl (ltN rfl) (QR.load1 rfl rfl g3 (Neighbour.sub_uniGap _)) ?_
     try rw [hg3]
     refine Dw.pure (i := 5) rfl (by kernel_rfl) (Want.none rfl) rfl (ltN rfl) (QP.add64 rfl rfl rfl (by first | omega | (simp <;> omega)) (by first | omega | (simp <;> omega))) ?_
     refine Dw.pure (i := 6) rfl (by kernel_rfl) (Want.none rfl) rfl (ltN rfl) (QP.move rfl rfl) ?_
     refine Dw.pure (i := 7) rfl (by kernel_rfl) (Want.none rfl) rfl (ltN rfl) (QP.nilCheck rfl rfl) ?_
     refine Dw.read (i := 8) rfl (by kernel_rfl) (Want.none rfl) rfl (ltN rfl) (QR.load1 rfl rfl g3 (Neighbour.sub_uniGap _)) ?_
     try rw [hg3]
     refine Dw.pure (i := 9) rfl (by kernel_rfl) (Want.none rfl) rfl (ltN rfl) (QP.quo rfl rfl rfl (by first | omega | (simp <;> omega))) ?_
     rw [show IntKind.i64.wrap (Int.tdiv (10 * h.interval) 2) = 10 * h.interval / 2 by rw [Int.tdiv_eq_ediv_of_nonneg (by omega), wrap_i64 (by omega) (by omega)]]
     refine Dw.pure (i := 10) rfl (by kernel_rfl) (Want.none rfl) rfl (ltN rfl) (QP.add64 rfl rfl rfl (by first | omega | (simp <;> omega)) (by first | omega | (simp <;> omega))) ?_
     refine Dw.pure (i := 11) rfl (by kernel_rfl) (Want.none rfl) rfl (ltN rfl) (QP.nilCheck rfl rfl) ?_
     refine Dw.eff (i := 12) (by kernel_rfl) (by kernel_rfl) ?_
     refine One.act (o := _) (l := []) rfl (by kernel_rfl) (Want.none rfl) rfl (EF.store rfl rfl rfl z3 (Neighbour.set_uniAt _ _) (cell_one rfl)) (by kernel_rfl) ?_
     rintro _ _ rfl
     refine ⟨fun _ h => (by cases h), ?_⟩
     generalize hs4 : ({ s3 with uniAt := now + 10 * h.interval + 10 * h.interval / 2 } : Neighbour) = s4
     refine Dw.nil (by kernel_rfl) ?_
     refine hk15 _ _ ?_
     refine Run.seq fun k17 hk17 => ?_
     refine Run.seq fun k18 hk18 => ?_
     refine Run.region ?_
     show Sq _ _ _ [0, 1, 2, 3] _ _ _ _
     refine Sq.quiet (i := 0) rfl (Want.none rfl) rfl (ltN rfl) (QP.fieldAddr rfl rfl f39_12).read ?_
     refine Sq.quiet (i := 1) rfl (Want.none rfl) rfl (ltN rfl) (QR.load1 rfl rfl g37 (Tlv.sub_stamps _)) ?_
     rw [hlv]
     refine Sq.quiet (i := 2) rfl (Want.none rfl) rfl (ltN rfl) (QP.len rfl rfl rfl Try.underlying37).read ?_
     refine Sq.quiet (i := 3) rfl (Want.none rfl) rfl (ltN rfl) (QP.gtr rfl rfl rfl).read ?_
     refine J.caseD (fun c115 => ?_) (fun c115 => ?_)
     ·skip
      refine Sq.nil ?_
      refine hk18 _ _ ?_
      refine Run.cond_t rfl ?_
      refine Run.region ?_
      show Sq _ _ _ [0, 1, 2, 3, 4, 5, 6, 7, 8, 9, 10, 11, 12, 13, 14, 15, 16] _ _ _ _
      obtain ⟨x0, hx0⟩ : ∃ x, st[Int.toNat 0]? = some x := ⟨_, List.getElem?_eq_getElem (by show 0 < st.length; omega)⟩
      obtain ⟨b1, o1, hla, hsA⟩ := hsa.get (by omega)
      rw [hla] at hlv
      refine Sq.quiet (i := 0) rfl (Want.none rfl) rfl (ltN rfl) (QP.move rfl rfl).read ?_
      refine Sq.quiet (i := 1) rfl (Want.none rfl) rfl (ltN rfl) (QP.move rfl rfl).read ?_
      refine Sq.quiet (i := 2) rfl (Want.none rfl) rfl (ltN rfl) (QP.move rfl rfl).read ?_
      refine Sq.quiet (i := 3) rfl (Want.none rfl) rfl (ltN rfl) (QP.fieldAddr rfl rfl f39_12).read ?_
      refine Sq.quiet (i := 4) rfl (Want.none rfl) rfl (ltN rfl) (QR.load1 rfl rfl g37 (Tlv.sub_stamps _)) ?_
      rw [hlv]
      refine Sq.quiet (i := 5) rfl (Want.none rfl) rfl (ltN rfl) (QP.indexAddr rfl rfl rfl Try.underlying37 z52 (by first | omega | (simp <;> omega)) (by first | omega | (simp <;> omega))).read ?_
      refine Sq.quiet (i := 6) rfl (Want.none rfl) rfl (ltN rfl) (QR.loadSl1 (ev := .int .u32) rfl rfl g52 (hsA _) hx0) ?_
      refine Sq.quiet (i := 7) rfl (Want.none rfl) rfl (ltN rfl) (QP.move rfl rfl).read ?_
      refine Sq.quiet (i := 8) rfl (Want.none rfl) rfl (ltN rfl) (QP.nilCheck rfl rfl).read ?_
      refine Sq.quiet (i := 9) rfl (Want.none rfl) rfl (ltN rfl) (QP.fieldAddr rfl rfl f54_10).read ?_
      refine Sq.act (i := 10) rfl (Want.none rfl) rfl (EF.store rfl rfl rfl z52 (Neighbour.set_sent _ _) (cell_one rfl)) ?_
      rintro _ _ rfl
      refine Sq.quiet (i := 11) rfl (Want.none rfl) rfl (ltN rfl) (QP.nilCheck rfl rfl).read ?_
      refine Sq.quiet (i := 12) rfl (Want.none rfl) rfl (ltN rfl) (QP.fieldAddr rfl rfl f54_11).read ?_
      refine Sq.act (i := 13) rfl (Want.none rfl) rfl (EF.store rfl rfl rfl z3 (Neighbour.set_heard _ _) (cell_one rfl)) ?_
      rintro _ _ rfl
      refine Sq.quiet (i := 14) rfl (Want.none rfl) rfl (ltN rfl) (QP.nilCheck rfl rfl).read ?_
      refine Sq.quiet (i := 15) rfl (Want.none rfl) rfl (ltN rfl) (QP.fieldAddr rfl rfl f54_12).read ?_
      refine Sq.act (i := 16) rfl (Want.none rfl) rfl (EF.store rfl rfl rfl z4 (Neighbour.set_hasSent _ _) (cell_one rfl)) ?_
      rintro _ _ rfl
      refine Sq.nil ?_
      refine hk17 _ _ ?_
      refine Run.seq fun k19 hk19 => ?_
      refine Run.region ?_
      show Sq _ _ _ [0] _ _ _ _
      refine Sq.quiet (i := 0) rfl (Want.none rfl) rfl (ltN rfl) (QP.assign rfl rfl).read ?_
      refine Sq.nil ?_
      refine hk19 _ _ ?_
      refine Run.ret ?_
      have hH : helloH now h s = s4 := by
        unfold helloH helloAt
        rw [if_pos c70, if_pos (by omega)]
        rw [← hs4]; rw [← hs3, ← hs2, ← hs1]
      have hS : helloR now h st s = { s4 with sent := x0, heard := now, hasSent := true } := by
        unfold helloR
        rw [hH]
        cases st with
        | nil => simp at hx0
        | cons y l => simp at hx0; subst hx0; rfl
      rw [← hS]
      exact J.ends (res_tmp rfl rfl) (.cons (by repeat constructor) (.cons (by repeat constructor) Takes.nil)) (.inr ⟨by unfold badH; rw [c21]; simpa using c26, rfl, rfl⟩)
     ·skip
      refine Sq.nil ?_
      refine hk18 _ _ ?_
      refine Run.cond_f rfl ?_
      refine Run.skip ?_
      refine hk17 _ _ ?_
      refine Run.seq fun k20 hk20 => ?_
      refine Run.region ?_
      show Sq _ _ _ [0] _ _ _ _
      refine Sq.quiet (i := 0) rfl (Want.none rfl) rfl (ltN rfl) (QP.assign rfl rfl).read ?_
      refine Sq.nil ?_
      refine hk20 _ _ ?_
      refine Run.ret ?_
      have hH : helloH now h s = s4 := by
        unfold helloH helloAt
        rw [if_pos c70, if_pos (by omega)]
        rw [← hs4]; rw [← hs3, ← hs2, ← hs1]
      have hS : helloR now h st s = s4 := by
        unfold helloR
        rw [hH]
        obtain rfl : st = [] := List.eq_nil_of_length_eq_zero (by omega)
        rfl
      rw [← hS]
      exact J.ends (res_tmp rfl rfl) (.cons (by repeat constructor) (.cons (by repeat constructor) Takes.nil)) (.inr ⟨by unfold badH; rw [c21]; simpa using c26, rfl, rfl⟩)
    ·skip
     refine Sq.nil ?_
     refine hk16 _ _ ?_
     refine Run.cond_f rfl ?_
     refine Run.skip ?_
     refine hk15 _ _ ?_
     refine Run.seq fun k21 hk21 => ?_
     refine Run.seq fun k22 hk22 => ?_
     refine Run.region ?_
     show Sq _ _ _ [0, 1, 2, 3] _ _ _ _
     refine Sq.quiet (i := 0) rfl (Want.none rfl) rfl (ltN rfl) (QP.fieldAddr rfl rfl f39_12).read ?_
     refine Sq.quiet (i := 1) rfl (Want.none rfl) rfl (ltN rfl) (QR.load1 rfl rfl g37 (Tlv.sub_stamps _)) ?_
     rw [hlv]
     refine Sq.quiet (i := 2) rfl (Want.none rfl) rfl (ltN rfl) (QP.len rfl rfl rfl Try.underlying37).read ?_
     refine Sq.quiet (i := 3) rfl (Want.none rfl) rfl (ltN rfl) (QP.gtr rfl rfl rfl).read ?_
     refine J.caseD (fun c115 => ?_) (fun c115 => ?_)
     ·skip
      refine Sq.nil ?_
      refine hk22 _ _ ?_
      refine Run.cond_t rfl ?_
      refine Run.region ?_
      show Sq _ _ _ [0, 1, 2, 3, 4, 5, 6, 7, 8, 9, 10, 11, 12, 13, 14, 15, 16] _ _ _ _
      obtain ⟨x0, hx0⟩ : ∃ x, st[Int.toNat 0]? = some x := ⟨_, List.getElem?_eq_getElem (by show 0 < st.length; omega)⟩
      obtain ⟨b1, o1, hla, hsA⟩ := hsa.get (by omega)
      rw [hla] at hlv
      refine Sq.quiet (i := 0) rfl (Want.none rfl) rfl (ltN rfl) (QP.move rfl rfl).read ?_
      refine Sq.quiet (i := 1) rfl (Want.none rfl) rfl (ltN rfl) (QP.move rfl rfl).read ?_
      refine Sq.quiet (i := 2) rfl (Want.none rfl) rfl (ltN rfl) (QP.move rfl rfl).read ?_
      refine Sq.quiet (i := 3) rfl (Want.none rfl) rfl (ltN rfl) (QP.fieldAddr rfl rfl f39_12).read ?_
      refine Sq.quiet (i := 4) rfl (Want.none rfl) rfl (ltN rfl) (QR.load1 rfl rfl g37 (Tlv.sub_stamps _)) ?_
      rw [hlv]
      refine Sq.quiet (i := 5) rfl (Want.none rfl) rfl (ltN rfl) (QP.indexAddr rfl rfl rfl Try.underlying37 z52 (by first | omega | (simp <;> omega)) (by first | omega | (simp <;> omega))).read ?_
      refine Sq.quiet (i := 6) rfl (Want.none rfl) rfl (ltN rfl) (QR.loadSl1 (ev := .int .u32) rfl rfl g52 (hsA _) hx0) ?_
      refine Sq.quiet (i := 7) rfl (Want.none rfl) rfl (ltN rfl) (QP.move rfl rfl).read ?_
      refine Sq.quiet (i := 8) rfl (Want.none rfl) rfl (ltN rfl) (QP.nilCheck rfl rfl).read ?_
      refine Sq.quiet (i := 9) rfl (Want.none rfl) rfl (ltN rfl) (QP.fieldAddr rfl rfl f54_10).read ?_
      refine Sq.act (i := 10) rfl (Want.none rfl) rfl (EF.store rfl rfl rfl z52 (Neighbour.set_sent _ _) (cell_one rfl)) ?_
      rintro _ _ rfl
      refine Sq.quiet (i := 11) rfl (Want.none rfl) rfl (ltN rfl) (QP.nilCheck rfl rfl).read ?_
      refine Sq.quiet (i := 12) rfl (Want.none rfl) rfl (ltN rfl) (QP.fieldAddr rfl rfl f54_11).read ?_
      refine Sq.act (i := 13) rfl (Want.none rfl) rfl (EF.store rfl rfl rfl z3 (Neighbour.set_heard _ _) (cell_one rfl)) ?_
      rintro _ _ rfl
      refine Sq.quiet (i := 14) rfl (Want.none rfl) rfl (ltN rfl) (QP.nilCheck rfl rfl).read ?_
      refine Sq.quiet (i := 15) rfl (Want.none rfl) rfl (ltN rfl) (QP.fieldAddr rfl rfl f54_12).read ?_
      refine Sq.act (i := 16) rfl (Want.none rfl) rfl (EF.store rfl rfl rfl z4 (Neighbour.set_hasSent _ _) (cell_one rfl)) ?_
      rintro _ _ rfl
      refine Sq.nil ?_
      refine hk21 _ _ ?_
      refine Run.seq fun k23 hk23 => ?_
      refine Run.region ?_
      show Sq _ _ _ [0] _ _ _ _
      refine Sq.quiet (i := 0) rfl (Want.none rfl) rfl (ltN rfl) (QP.assign rfl rfl).read ?_
      refine Sq.nil ?_
      refine hk23 _ _ ?_
      refine Run.ret ?_
      have hH : helloH now h s = s3 := by
        unfold helloH helloAt
        rw [if_pos c70, if_neg (by omega)]
        rw [← hs3, ← hs2, ← hs1]
      have hS : helloR now h st s = { s3 with sent := x0, heard := now, hasSent := true } := by
        unfold helloR
        rw [hH]
        cases st with
        | nil => simp at hx0
        | cons y l => simp at hx0; subst hx0; rfl
      rw [← hS]
      exact J.ends (res_tmp rfl rfl) (.cons (by repeat constructor) (.cons (by repeat constructor) Takes.nil)) (.inr ⟨by unfold badH; rw [c21]; simpa using c26, rfl, rfl⟩)
     ·skip
      refine Sq.nil ?_
      refine hk22 _ _ ?_
      refine Run.cond_f rfl ?_
      refine Run.skip ?_
      refine hk21 _ _ ?_
      refine Run.seq fun k24 hk24 => ?_
      refine Run.region ?_
      show Sq _ _ _ [0] _ _ _ _
      refine Sq.quiet (i := 0) rfl (Want.none rfl) rfl (ltN rfl) (QP.assign rfl rfl).read ?_
      refine Sq.nil ?_
      refine hk24 _ _ ?_
      refine Run.ret ?_
      have hH : helloH now h s = s3 := by
        unfold helloH helloAt
        rw [if_pos c70, if_neg (by omega)]
        rw [← hs3, ← hs2, ← hs1]
      have hS : helloR now h st s = s3 := by
        unfold helloR
        rw [hH]
        obtain rfl : st = [] := List.eq_nil_of_length_eq_zero (by omega)
        rfl
      rw [← hS]
      exact J.ends (res_tmp rfl rfl) (.cons (by repeat constructor) (.cons (by repeat constructor) Takes.nil)) (.inr ⟨by unfold badH; rw [c21]; simpa using c26, rfl, rfl⟩)
   ·skip
    refine Sq.nil ?_
    refine hk11 _ _ ?_
    refine Run.cond_f rfl ?_
    refine Run.skip ?_
    refine hk10 _ _ ?_
    refine Run.seq fun k25 hk25 => ?_
    refine Run.regionD (M := [0, 0, 2, 6, 0, 16, 62, 127, 255]) (q := 191) (r := 40) (by kernel_rfl) ?_
    refine Dw.pure (i := 0) rfl (by kernel_rfl) (Want.none rfl) rfl (ltN rfl) (QP.move rfl rfl) ?_
    refine Dw.pure (i := 1) rfl (by kernel_rfl) (Want.none rfl) rfl (ltN rfl) (QP.move rfl rfl) ?_
    refine Dw.pure (i := 2) rfl (by kernel_rfl) (Want.none rfl) rfl (ltN rfl) (QP.nilCheck rfl rfl) ?_
    refine Dw.read (i := 3) rfl (by kernel_rfl) (Want.none rfl) rfl (ltN rfl) (QR.load rfl rfl g51 (Neighbour.sub_multi _)) ?_
    refine Dw.pure (i := 4) rfl (by kernel_rfl) (Want.none rfl) rfl (ltN rfl) (QP.fieldAddr rfl rfl f39_3) ?_
    refine Dw.read (i := 5) rfl (by kernel_rfl) (Want.none rfl) rfl (ltN rfl) (QR.load1 rfl rfl g30 (Tlv.sub_seqno _)) ?_
    refine Dw.eff (i := 6) (by kernel_rfl) (by kernel_rfl) ?_
    refine One.mk (o := _) (l := []) rfl (by kernel_rfl) (Want.none rfl) rfl (ltN rfl) (EF.call rfl ce26 rfl Takes.nil (fun F' hle hr => hear_spec F' s.multi h.seqno (by omega) (by omega))) (by kernel_rfl) ?_
    rintro _ _ ⟨_, ⟨rfl, rfl⟩, rfl⟩
    refine ⟨fun _ h => (by cases h), ?_⟩
    refine J.app ?_
    refine Dw.pure (i := 7) rfl (by kernel_rfl) (Want.none rfl) rfl (ltN rfl) (QP.nilCheck rfl rfl) ?_
    refine Dw.eff (i := 8) (by kernel_rfl) (by kernel_rfl) ?_
    refine One.act (o := _) (l := []) rfl (by kernel_rfl) (Want.none rfl) rfl (EF.storeA rfl rfl rfl z51 (Neighbour.set_multi _ _) (History.enc_cell _)) (by kernel_rfl) ?_
    rintro _ _ rfl
    refine ⟨fun _ h => (by cases h), ?_⟩
    generalize hs1 : ({ s with multi := hearF s.multi h.seqno } : Neighbour) = s1
    refine Dw.nil (by kernel_rfl) ?_
    refine hk25 _ _ ?_
    refine Run.seq fun k26 hk26 => ?_
    refine Run.region ?_
    show Sq _ _ _ [0, 1, 2, 3, 4, 5, 6] _ _ _ _
    refine Sq.quiet (i := 0) rfl (Want.none rfl) rfl (ltN rfl) (QP.move rfl rfl).read ?_
    refine Sq.quiet (i := 1) rfl (Want.none rfl) rfl (ltN rfl) (QP.fieldAddr rfl rfl f39_2).read ?_
    refine Sq.quiet (i := 2) rfl (Want.none rfl) rfl (ltN rfl) (QR.load1 rfl rfl g30 (Tlv.sub_interval _)) ?_
    refine Sq.quiet (i := 3) rfl (Want.none rfl) rfl (ltN rfl) (QP.conv rfl rfl Try.underlying30 Try.underlying3).read ?_
    refine Sq.quiet (i := 4) rfl (Want.none rfl) rfl (ltN rfl) (QP.mul rfl rfl rfl).read ?_
    rw [show IntKind.i64.wrap (10 * IntKind.i64.wrap h.interval) = 10 * h.interval by rw [wrap_i64 (n := h.interval) (by omega) (by omega), wrap_i64 (by omega) (by omega)]]
    refine Sq.quiet (i := 5) rfl (Want.none rfl) rfl (ltN rfl) (QP.nilCheck rfl rfl).read ?_
    refine Sq.act (i := 6) rfl (Want.none rfl) rfl (EF.store rfl rfl rfl z3 (Neighbour.set_multiGap _ _) (cell_one rfl)) ?_
    rintro _ _ rfl
    generalize hs2 : ({ s1 with multiGap := (10 * h.interval) } : Neighbour) = s2
    refine Sq.nil ?_
    refine hk26 _ _ ?_
    refine Run.seq fun k27 hk27 => ?_
    refine Run.region ?_
    show Sq _ _ _ [0, 1, 2] _ _ _ _
    refine Sq.quiet (i := 0) rfl (Want.none rfl) rfl (ltN rfl) (QP.move rfl rfl).read ?_
    refine Sq.quiet (i := 1) rfl (Want.none rfl) rfl (ltN rfl) (QP.nilCheck rfl rfl).read ?_
    refine Sq.act (i := 2) rfl (Want.none rfl) rfl (EF.store rfl rfl rfl z3 (Neighbour.set_multiAt _ _) (cell_one rfl)) ?_
    rintro _ _ rfl
    generalize hs3 : ({ s2 with multiAt := 0 } : Neighbour) = s3
    have hg3 : s3.multiGap = 10 * h.interval := by rw [← hs3, ← hs2]
    refine Sq.nil ?_
    refine hk27 _ _ ?_
    refine Run.seq fun k28 hk28 => ?_
    refine Run.seq fun k29 hk29 => ?_
    refine Run.region ?_
    show Sq _ _ _ [0, 1, 2, 3] _ _ _ _
    refine Sq.quiet (i := 0) rfl (Want.none rfl) rfl (ltN rfl) (QP.move rfl rfl).read ?_
    refine Sq.quiet (i := 1) rfl (Want.none rfl) rfl (ltN rfl) (QP.nilCheck rfl rfl).read ?_
    refine Sq.quiet (i := 2) rfl (Want.none rfl) rfl (ltN rfl) (QR.load1 rfl rfl g3 (Neighbour.sub_multiGap _)) ?_
    rw [hg3]
    refine Sq.quiet (i := 3) rfl (Want.none rfl) rfl (ltN rfl) (QP.gtr rfl rfl rfl).read ?_
    refine J.caseD (fun c99 => ?_) (fun c99 => ?_)
    ·skip
     refine Sq.nil ?_
     refine hk29 _ _ ?_
     refine Run.cond_t rfl ?_
     refine Run.regionD (M := [0, 0, 0, 4, 12, 30, 0, 64, 192, 448, 1022, 2047, 4095]) (q := 4095) (r := 272) (by kernel_rfl) ?_
     refine Dw.pure (i := 0) rfl (by kernel_rfl) (Want.none rfl) rfl (ltN rfl) (QP.move rfl rfl) ?_
     refine Dw.pure (i := 1) rfl (by kernel_rfl) (Want.none rfl) rfl (ltN rfl) (QP.move rfl rfl) ?_
     refine Dw.pure (i := 2) rfl (by kernel_rfl) (Want.none rfl) rfl (ltN rfl) (QP.move rfl rfl) ?_
     refine Dw.pure (i := 3) rfl (by kernel_rfl) (Want.none rfl) rfl (ltN rfl) (QP.nilCheck rfl rfl) ?_
     refine Dw.read (i := 4) rfl (by kernel_rfl) (Want.none rfl) rfl (ltN rfl) (QR.load1 rfl rfl g3 (Neighbour.sub_multiGap _)) ?_
     try rw [hg3]
     refine Dw.pure (i := 5) rfl (by kernel_rfl) (Want.none rfl) rfl (ltN rfl) (QP.add64 rfl rfl rfl (by first | omega | (simp <;> omega)) (by first | omega | (simp <;> omega))) ?_
     refine Dw.pure (i := 6) rfl (by kernel_rfl) (Want.none rfl) rfl (ltN rfl) (QP.move rfl rfl) ?_
     refine Dw.pure (i := 7) rfl (by kernel_rfl) (Want.none rfl) rfl (ltN rfl) (QP.nilCheck rfl rfl) ?_
     refine Dw.read (i := 8) rfl (by kernel_rfl) (Want.none rfl) rfl (ltN rfl) (QR.load1 rfl rfl g3 (Neighbour.sub_multiGap _)) ?_
     try rw [hg3]
     refine Dw.pure (i := 9) rfl (by kernel_rfl) (Want.none rfl) rfl (ltN rfl) (QP.quo rfl rfl rfl (by first | omega | (simp <;> omega))) ?_
     rw [show IntKind.i64.wrap (Int.tdiv (10 * h.interval) 2) = 10 * h.interval / 2 by rw [Int.tdiv_eq_ediv_of_nonneg (by omega), wrap_i64 (by omega) (by omega)]]
     refine Dw.pure (i := 10) rfl (by kernel_rfl) (Want.none rfl) rfl (ltN rfl) (QP.add64 rfl rfl rfl (by first | omega | (simp <;> omega)) (by first | omega | (simp <;> omega))) ?_
     refine Dw.pure (i := 11) rfl (by kernel_rfl) (Want.none rfl) rfl (ltN rfl) (QP.nilCheck rfl rfl) ?_
     refine Dw.eff (i := 12) (by kernel_rfl) (by kernel_rfl) ?_
     refine One.act (o := _) (l := []) rfl (by kernel_rfl) (Want.none rfl) rfl (EF.store rfl rfl rfl z3 (Neighbour.set_multiAt _ _) (cell_one rfl)) (by kernel_rfl) ?_
     rintro _ _ rfl
     refine ⟨fun _ h => (by cases h), ?_⟩
     generalize hs4 : ({ s3 with multiAt := now + 10 * h.interval + 10 * h.interval / 2 } : Neighbour) = s4
     refine Dw.nil (by kernel_rfl) ?_
     refine hk28 _ _ ?_
     refine Run.seq fun k30 hk30 => ?_
     refine Run.seq fun k31 hk31 => ?_
     refine Run.region ?_
     show Sq _ _ _ [0, 1, 2, 3] _ _ _ _
     refine Sq.quiet (i := 0) rfl (Want.none rfl) rfl (ltN rfl) (QP.fieldAddr rfl rfl f39_12).read ?_
     refine Sq.quiet (i := 1) rfl (Want.none rfl) rfl (ltN rfl) (QR.load1 rfl rfl g37 (Tlv.sub_stamps _)) ?_
     rw [hlv]
     refine Sq.quiet (i := 2) rfl (Want.none rfl) rfl (ltN rfl) (QP.len rfl rfl rfl Try.underlying37).read ?_
     refine Sq.quiet (i := 3) rfl (Want.none rfl) rfl (ltN rfl) (QP.gtr rfl rfl rfl).read ?_
     refine J.caseD (fun c115 => ?_) (fun c115 => ?_)
     ·skip
      refine Sq.nil ?_
      refine hk31 _ _ ?_
      refine Run.cond_t rfl ?_
      refine Run.region ?_
      show Sq _ _ _ [0, 1, 2, 3, 4, 5, 6, 7, 8, 9, 10, 11, 12, 13, 14, 15, 16] _ _ _ _
      obtain ⟨x0, hx0⟩ : ∃ x, st[Int.toNat 0]? = some x := ⟨_, List.getElem?_eq_getElem (by show 0 < st.length; omega)⟩
      obtain ⟨b1, o1, hla, hsA⟩ := hsa.get (by omega)
      rw [hla] at hlv
      refine Sq.quiet (i := 0) rfl (Want.none rfl) rfl (ltN rfl) (QP.move rfl rfl).read ?_
      refine Sq.quiet (i := 1) rfl (Want.none rfl) rfl (ltN rfl) (QP.move rfl rfl).read ?_
      refine Sq.quiet (i := 2) rfl (Want.none rfl) rfl (ltN rfl) (QP.move rfl rfl).read ?_
      refine Sq.quiet (i := 3) rfl (Want.none rfl) rfl (ltN rfl) (QP.fieldAddr rfl rfl f39_12).read ?_
      refine Sq.quiet (i := 4) rfl (Want.none rfl) rfl (ltN rfl) (QR.load1 rfl rfl g37 (Tlv.sub_stamps _)) ?_
      rw [hlv]
      refine Sq.quiet (i := 5) rfl (Want.none rfl) rfl (ltN rfl) (QP.indexAddr rfl rfl rfl Try.underlying37 z52 (by first | omega | (simp <;> omega)) (by first | omega | (simp <;> omega))).read ?_
      refine Sq.quiet (i := 6) rfl (Want.none rfl) rfl (ltN rfl) (QR.loadSl1 (ev := .int .u32) rfl rfl g52 (hsA _) hx0) ?_
      refine Sq.quiet (i := 7) rfl (Want.none rfl) rfl (ltN rfl) (QP.move rfl rfl).read ?_
      refine Sq.quiet (i := 8) rfl (Want.none rfl) rfl (ltN rfl) (QP.nilCheck rfl rfl).read ?_
      refine Sq.quiet (i := 9) rfl (Want.none rfl) rfl (ltN rfl) (QP.fieldAddr rfl rfl f54_10).read ?_
      refine Sq.act (i := 10) rfl (Want.none rfl) rfl (EF.store rfl rfl rfl z52 (Neighbour.set_sent _ _) (cell_one rfl)) ?_
      rintro _ _ rfl
      refine Sq.quiet (i := 11) rfl (Want.none rfl) rfl (ltN rfl) (QP.nilCheck rfl rfl).read ?_
      refine Sq.quiet (i := 12) rfl (Want.none rfl) rfl (ltN rfl) (QP.fieldAddr rfl rfl f54_11).read ?_
      refine Sq.act (i := 13) rfl (Want.none rfl) rfl (EF.store rfl rfl rfl z3 (Neighbour.set_heard _ _) (cell_one rfl)) ?_
      rintro _ _ rfl
      refine Sq.quiet (i := 14) rfl (Want.none rfl) rfl (ltN rfl) (QP.nilCheck rfl rfl).read ?_
      refine Sq.quiet (i := 15) rfl (Want.none rfl) rfl (ltN rfl) (QP.fieldAddr rfl rfl f54_12).read ?_
      refine Sq.act (i := 16) rfl (Want.none rfl) rfl (EF.store rfl rfl rfl z4 (Neighbour.set_hasSent _ _) (cell_one rfl)) ?_
      rintro _ _ rfl
      refine Sq.nil ?_
      refine hk30 _ _ ?_
      refine Run.seq fun k32 hk32 => ?_
      refine Run.region ?_
      show Sq _ _ _ [0] _ _ _ _
      refine Sq.quiet (i := 0) rfl (Want.none rfl) rfl (ltN rfl) (QP.assign rfl rfl).read ?_
      refine Sq.nil ?_
      refine hk32 _ _ ?_
      refine Run.ret ?_
      have hH : helloH now h s = s4 := by
        unfold helloH helloAt
        rw [if_neg (by rw [c70]; simp), if_pos (by omega)]
        rw [← hs4]; rw [← hs3, ← hs2, ← hs1]
      have hS : helloR now h st s = { s4 with sent := x0, heard := now, hasSent := true } := by
        unfold helloR
        rw [hH]
        cases st with
        | nil => simp at hx0
        | cons y l => simp at hx0; subst hx0; rfl
      rw [← hS]
      exact J.ends (res_tmp rfl rfl) (.cons (by repeat constructor) (.cons (by repeat constructor) Takes.nil)) (.inr ⟨by unfold badH; rw [c21]; simpa using c26, rfl, rfl⟩)
     ·skip
      refine Sq.nil ?_
      refine hk31 _ _ ?_
      refine Run.cond_f rfl ?_
      refine Run.skip ?_
      refine hk30 _ _ ?_
      refine Run.seq fun k33 hk33 => ?_
      refine Run.region ?_
      show Sq _ _ _ [0] _ _ _ _
      refine Sq.quiet (i := 0) rfl (Want.none rfl) rfl (ltN rfl) (QP.assign rfl rfl).read ?_
      refine Sq.nil ?_
      refine hk33 _ _ ?_
      refine Run.ret ?_
      have hH : helloH now h s = s4 := by
        unfold helloH helloAt
        rw [if_neg (by rw [c70]; simp), if_pos (by omega)]
        rw [← hs4]; rw [← hs3, ← hs2, ← hs1]
      have hS : helloR now h st s = s4 := by
        unfold helloR
        rw [hH]
        obtain rfl : st = [] := List.eq_nil_of_length_eq_zero (by omega)
        rfl
      rw [← hS]
      exact J.ends (res_tmp rfl rfl) (.cons (by repeat constructor) (.cons (by repeat constructor) Takes.nil)) (.inr ⟨by unfold badH; rw [c21]; simpa using c26, rfl, rfl⟩)
    ·skip
     refine Sq.nil ?_
     refine hk29 _ _ ?_
     refine Run.cond_f rfl ?_
     refine Run.skip ?_
     refine hk28 _ _ ?_
     refine Run.seq fun k34 hk34 => ?_
     refine Run.seq fun k35 hk35 => ?_
     refine Run.region ?_
     show Sq _ _ _ [0, 1, 2, 3] _ _ _ _
     refine Sq.quiet (i := 0) rfl (Want.none rfl) rfl (ltN rfl) (QP.fieldAddr rfl rfl f39_12).read ?_
     refine Sq.quiet (i := 1) rfl (Want.none rfl) rfl (ltN rfl) (QR.load1 rfl rfl g37 (Tlv.sub_stamps _)) ?_
     rw [hlv]
     refine Sq.quiet (i := 2) rfl (Want.none rfl) rfl (ltN rfl) (QP.len rfl rfl rfl Try.underlying37).read ?_
     refine Sq.quiet (i := 3) rfl (Want.none rfl) rfl (ltN rfl) (QP.gtr rfl rfl rfl).read ?_
     refine J.caseD (fun c115 => ?_) (fun c115 => ?_)
     ·skip
      refine Sq.nil ?_
      refine hk35 _ _ ?_
      refine Run.cond_t rfl ?_
      refine Run.region ?_
      show Sq _ _ _ [0, 1, 2, 3, 4, 5, 6, 7, 8, 9, 10, 11, 12, 13, 14, 15, 16] _ _ _ _
      obtain ⟨x0, hx0⟩ : ∃ x, st[Int.toNat 0]? = some x := ⟨_, List.getElem?_eq_getElem (by show 0 < st.length; omega)⟩
      obtain ⟨b1, o1, hla, hsA⟩ := hsa.get (by omega)
      rw [hla] at hlv
      refine Sq.quiet (i := 0) rfl (Want.none rfl) rfl (ltN rfl) (QP.move rfl rfl).read ?_
      refine Sq.quiet (i := 1) rfl (Want.none rfl) rfl (ltN rfl) (QP.move rfl rfl).read ?_
      refine Sq.quiet (i := 2) rfl (Want.none rfl) rfl (ltN rfl) (QP.move rfl rfl).read ?_
      refine Sq.quiet (i := 3) rfl (Want.none rfl) rfl (ltN rfl) (QP.fieldAddr rfl rfl f39_12).read ?_
      refine Sq.quiet (i := 4) rfl (Want.none rfl) rfl (ltN rfl) (QR.load1 rfl rfl g37 (Tlv.sub_stamps _)) ?_
      rw [hlv]
      refine Sq.quiet (i := 5) rfl (Want.none rfl) rfl (ltN rfl) (QP.indexAddr rfl rfl rfl Try.underlying37 z52 (by first | omega | (simp <;> omega)) (by first | omega | (simp <;> omega))).read ?_
      refine Sq.quiet (i := 6) rfl (Want.none rfl) rfl (ltN rfl) (QR.loadSl1 (ev := .int .u32) rfl rfl g52 (hsA _) hx0) ?_
      refine Sq.quiet (i := 7) rfl (Want.none rfl) rfl (ltN rfl) (QP.move rfl rfl).read ?_
      refine Sq.quiet (i := 8) rfl (Want.none rfl) rfl (ltN rfl) (QP.nilCheck rfl rfl).read ?_
      refine Sq.quiet (i := 9) rfl (Want.none rfl) rfl (ltN rfl) (QP.fieldAddr rfl rfl f54_10).read ?_
      refine Sq.act (i := 10) rfl (Want.none rfl) rfl (EF.store rfl rfl rfl z52 (Neighbour.set_sent _ _) (cell_one rfl)) ?_
      rintro _ _ rfl
      refine Sq.quiet (i := 11) rfl (Want.none rfl) rfl (ltN rfl) (QP.nilCheck rfl rfl).read ?_
      refine Sq.quiet (i := 12) rfl (Want.none rfl) rfl (ltN rfl) (QP.fieldAddr rfl rfl f54_11).read ?_
      refine Sq.act (i := 13) rfl (Want.none rfl) rfl (EF.store rfl rfl rfl z3 (Neighbour.set_heard _ _) (cell_one rfl)) ?_
      rintro _ _ rfl
      refine Sq.quiet (i := 14) rfl (Want.none rfl) rfl (ltN rfl) (QP.nilCheck rfl rfl).read ?_
      refine Sq.quiet (i := 15) rfl (Want.none rfl) rfl (ltN rfl) (QP.fieldAddr rfl rfl f54_12).read ?_
      refine Sq.act (i := 16) rfl (Want.none rfl) rfl (EF.store rfl rfl rfl z4 (Neighbour.set_hasSent _ _) (cell_one rfl)) ?_
      rintro _ _ rfl
      refine Sq.nil ?_
      refine hk34 _ _ ?_
      refine Run.seq fun k36 hk36 => ?_
      refine Run.region ?_
      show Sq _ _ _ [0] _ _ _ _
      refine Sq.quiet (i := 0) rfl (Want.none rfl) rfl (ltN rfl) (QP.assign rfl rfl).read ?_
      refine Sq.nil ?_
      refine hk36 _ _ ?_
      refine Run.ret ?_
      have hH : helloH now h s = s3 := by
        unfold helloH helloAt
        rw [if_neg (by rw [c70]; simp), if_neg (by omega)]
        rw [← hs3, ← hs2, ← hs1]
      have hS : helloR now h st s = { s3 with sent := x0, heard := now, hasSent := true } := by
        unfold helloR
        rw [hH]
        cases st with
        | nil => simp at hx0
        | cons y l => simp at hx0; subst hx0; rfl
      rw [← hS]
      exact J.ends (res_tmp rfl rfl) (.cons (by repeat constructor) (.cons (by repeat constructor) Takes.nil)) (.inr ⟨by unfold badH; rw [c21]; simpa using c26, rfl, rfl⟩)
     ·skip
      refine Sq.nil ?_
      refine hk35 _ _ ?_
      refine Run.cond_f rfl ?_
      refine Run.skip ?_
      refine hk34 _ _ ?_
      refine Run.seq fun k37 hk37 => ?_
      refine Run.region ?_
      show Sq _ _ _ [0] _ _ _ _
      refine Sq.quiet (i := 0) rfl (Want.none rfl) rfl (ltN rfl) (QP.assign rfl rfl).read ?_
      refine Sq.nil ?_
      refine hk37 _ _ ?_
      refine Run.ret ?_
      have hH : helloH now h s = s3 := by
        unfold helloH helloAt
        rw [if_neg (by rw [c70]; simp), if_neg (by omega)]
        rw [← hs3, ← hs2, ← hs1]
      have hS : helloR now h st s = s3 := by
        unfold helloR
        rw [hH]
        obtain rfl : st = [] := List.eq_nil_of_length_eq_zero (by omega)
        rfl
      rw [← hS]
      exact J.ends (res_tmp rfl rfl) (.cons (by repeat constructor) (.cons (by repeat constructor) Takes.nil)) (.inr ⟨by unfold badH; rw [c21]; simpa using c26, rfl, rfl⟩)
 ·skip
  refine Sq.quiet (i := 3) rfl (Want.none rfl) rfl (ltN rfl) (QP.not rfl rfl).read ?_
  refine Sq.quiet (i := 4) rfl (Want.none rfl) rfl (ltN rfl) (QP.move rfl rfl).read ?_
  refine Sq.skip (i := 5) rfl (Want.no rfl rfl rfl rfl) rfl (ltN rfl) ?_
  refine Sq.skip (i := 6) rfl (Want.no rfl rfl rfl rfl) rfl (ltN rfl) ?_
  refine Sq.skip (i := 7) rfl (Want.no rfl rfl rfl rfl) rfl (ltN rfl) ?_
  refine Sq.quiet (i := 8) rfl (Want.none rfl) rfl (ltN rfl) (QP.pick_t rfl rfl rfl).read ?_
  refine Sq.quiet (i := 9) rfl (Want.none rfl) rfl (ltN rfl) (QP.assign rfl rfl).read ?_
  refine Sq.nil ?_
  refine hk4 _ _ ?_
  refine Run.cond_t rfl ?_
  refine Run.seq fun k38 hk38 => ?_
  refine Run.region ?_
  show Sq _ _ _ [0] _ _ _ _
  refine Sq.quiet (i := 0) rfl (Want.none rfl) rfl (ltN rfl) (QP.assign rfl rfl).read ?_
  refine Sq.nil ?_
  refine hk38 _ _ ?_
  refine Run.ret ?_
  exact J.ends (res_tmp rfl rfl) (.cons (by repeat constructor) (.cons (by repeat constructor) Takes.nil)) (.inl ⟨by unfold badH; rw [c21]; rfl, rfl, rfl⟩)
end Slb
