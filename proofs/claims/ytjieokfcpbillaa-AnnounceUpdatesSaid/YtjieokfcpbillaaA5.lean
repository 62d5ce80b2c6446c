/- A5: a part of the proof that a law of this package holds for every input; no condition. -/
import Derived.Test.YtjieokfcpbillaaA4
import Derived.Test.YtjieokfcpbillaaB23
namespace Slb
open Go Go.Proofs
set_option maxRecDepth 20000
def x0 : IfConf := ⟨⟨#[101, 48]⟩, 0, 96, 4000, 16000, 1280, ⟨[254, 128, 0, 0, 0, 0, 0, 0, 0, 0, 0, 0, 0, 0, 0, 1], rfl⟩, Bs.zero 16, Rtt.zero⟩
def p0 : Pair := ⟨⟨⟨[32, 0, 0, 0, 0, 0, 0, 0, 0, 0, 0, 0, 0, 0, 0, 0], rfl⟩, ⟨8, by omega⟩⟩, Prefix.zero⟩
def o0 : Offer := ⟨p0, ⟨[0, 0, 0, 0, 0, 0, 0, 1], rfl⟩, 1, 96⟩
theorem fold0 : [o0].foldl (tstep x0) ([], []) = ([(p0, true)], [updT x0 o0]) := by
  have h1 : o0.metric < 65535 := by decide
  have h2 : canB x0 o0.pair = true := by kernel_rfl
  show tstep x0 ([], []) o0 = _
  unfold tstep
  rw [if_pos ⟨h1, h2⟩]
  rfl
theorem keys_one {ks : List Pair} (h : KeysOf [(p0, true)] ks) : ks = [p0] := List.perm_singleton.1 h.1
theorem keys_none {ks : List Pair} (h : KeysOf [] ks) : ks = [] := by have := h.1.length_eq; exact List.eq_nil_of_length_eq_zero this
theorem addr15 : (updT x0 o0).addr.l[15]? = some 1 := by kernel_rfl

theorem conf0_spec (F : Fr)  : Spec Try.prog 21 #[] [] F (fun v S => v = .agg (IfConf.enc x0).toArray ∧ S = []) := by
 refine Spec.intro (N := 3) (args := []) Try.func21 rfl rfl (by simp) ?_
 refine Run.seq fun k1 hk1 => ?_
 refine Run.region ?_
 show Sq _ _ _ [0] _ _ _ _
 refine Sq.eff (i := 0) rfl (Want.none rfl) rfl (ltN rfl) (EF.allocA (l := IfConf.enc IfConf.zero) rfl zero27) ?_
 rintro _ _ ⟨b0, rfl, rfl⟩
 refine Sq.nil ?_
 refine hk1 _ _ ?_
 refine Run.seq fun k2 hk2 => ?_
 refine Run.region ?_
 show Sq _ _ _ [0, 1, 2] _ _ _ _
 refine Sq.quiet (i := 0) rfl (Want.none rfl) rfl (ltN rfl) (QP.const (.agg (Bs.enc (⟨[254, 128, 0, 0, 0, 0, 0, 0, 0, 0, 0, 0, 0, 0, 0, 1], rfl⟩ : Bs 16)).toArray) (fun _ _ => by kernel_rfl)).read ?_
 refine Sq.quiet (i := 1) rfl (Want.none rfl) rfl (ltN rfl) (QP.build (l := IfConf.enc x0) rfl st27 rfl (by exact ⟨rfl, ⟨rfl, ⟨rfl, ⟨rfl, ⟨rfl, ⟨congrArg some (Bs.len _).symm, trivial⟩⟩⟩⟩⟩⟩) rfl).read ?_
 refine Sq.act (i := 2) rfl (Want.none rfl) rfl (EF.storeA rfl rfl rfl z27 (SetL.all (IfConf.enc_len _) (IfConf.enc_len _)) (IfConf.enc_cell _)) ?_
 rintro _ _ rfl
 refine Sq.nil ?_
 refine hk2 _ _ ?_
 refine Run.ret ?_
 exact J.ends (res_cell rfl rfl g27 (IfConf.enc_sub _)) Takes.nil ⟨rfl, rfl⟩

set_option maxHeartbeats 1600000 in
theorem live_spec (F : Fr)  : Spec Try.prog 8 #[] [] F (fun v S => v = .bool true ∧ S = []) := by
 refine Spec.intro (N := 70) (args := []) Try.func8 rfl rfl (by simp) ?_
 refine Run.seq fun k1 hk1 => ?_
 refine Run.region ?_
 show Sq _ _ _ [0] _ _ _ _
 refine Sq.quiet (i := 0) rfl (Want.none rfl) rfl (ltN rfl) (QP.assign rfl rfl).read ?_
 refine Sq.nil ?_
 refine hk1 _ _ ?_
 refine Run.seq fun k2 hk2 => ?_
 refine Run.region ?_
 show Sq _ _ _ [0, 1, 2, 3] _ _ _ _
 refine Sq.eff (i := 0) rfl (Want.none rfl) rfl (ltN rfl) (EF.call rfl ce21 rfl Takes.nil (fun F' hle hr => conf0_spec F')) ?_
 rintro _ _ ⟨_, ⟨rfl, rfl⟩, rfl⟩
 refine J.app ?_
 refine Sq.eff (i := 1) rfl (Want.none rfl) rfl (ltN rfl) (EF.buildSlice1 rfl Try.underlying30 z27 zero27 (by simp [Value.cells, IfConf.enc_len]) (by decide) rfl rfl (IfConf.enc_len _) (by decide)) ?_
 rintro _ _ ⟨b6, rfl, rfl⟩
 refine Sq.eff (i := 2) rfl (Want.none rfl) rfl (ltN rfl) (EF.call rfl ce9 rfl Takes.nil (fun F' hle hr => new_spec F' (argSl_one IfConf.enc_len (x := x0) (hr b6 _ (by repeat constructor))))) ?_
 rintro _ _ ⟨_, ⟨kb, rfl, rfl⟩, rfl⟩
 refine J.app ?_
 refine Sq.quiet (i := 3) rfl (Want.none rfl) rfl (ltN rfl) (QP.assign rfl rfl).read ?_
 refine Sq.nil ?_
 refine hk2 _ _ ?_
 refine Run.seq fun k3 hk3 => ?_
 refine Run.region ?_
 show Sq _ _ _ [0, 1, 2, 3, 4, 5, 6] _ _ _ _
 refine Sq.quiet (i := 0) rfl (Want.none rfl) rfl (ltN rfl) (QP.const (.agg (Bs.enc (⟨[32, 0, 0, 0, 0, 0, 0, 0, 0, 0, 0, 0, 0, 0, 0, 0], rfl⟩ : Bs 16)).toArray) (fun _ _ => by kernel_rfl)).read ?_
 refine Sq.quiet (i := 1) rfl (Want.none rfl) rfl (ltN rfl) (QP.build (l := Prefix.enc ⟨((⟨[32, 0, 0, 0, 0, 0, 0, 0, 0, 0, 0, 0, 0, 0, 0, 0], rfl⟩ : Bs 16)), (⟨8, by omega⟩ : I64)⟩) rfl st43 rfl (by exact ⟨(congrArg some (Bs.len _).symm), ⟨rfl, trivial⟩⟩) rfl).read ?_
 refine Sq.quiet (i := 2) rfl (Want.none rfl) rfl (ltN rfl) (QP.build (l := Pair.enc ⟨((⟨((⟨[32, 0, 0, 0, 0, 0, 0, 0, 0, 0, 0, 0, 0, 0, 0, 0], rfl⟩ : Bs 16)), (⟨8, by omega⟩ : I64)⟩ : Prefix)), Prefix.zero⟩) rfl st45 rfl (by exact ⟨(congrArg some (Prefix.enc_len _).symm), trivial⟩) rfl).read ?_
 refine Sq.quiet (i := 3) rfl (Want.none rfl) rfl (ltN rfl) (QP.const (.agg (Bs.enc (⟨[0, 0, 0, 0, 0, 0, 0, 1], rfl⟩ : Bs 8)).toArray) (fun _ _ => by kernel_rfl)).read ?_
 refine Sq.quiet (i := 4) rfl (Want.none rfl) rfl (ltN rfl) (QP.build (l := Offer.enc o0) rfl st60 rfl (by exact ⟨congrArg some (Pair.enc_len _).symm, ⟨congrArg some (Bs.len _).symm, ⟨rfl, ⟨rfl, trivial⟩⟩⟩⟩) rfl).read ?_
 refine Sq.eff (i := 5) rfl (Want.none rfl) rfl (ltN rfl) (EF.allocA (l := Offer.enc Offer.zero) rfl zero60) ?_
 rintro _ _ ⟨b2, rfl, rfl⟩
 refine Sq.act (i := 6) rfl (Want.none rfl) rfl (EF.storeA rfl rfl rfl z60 (SetL.all (Offer.enc_len _) (Offer.enc_len _)) (Offer.enc_cell _)) ?_
 rintro _ _ rfl
 refine Sq.nil ?_
 refine hk3 _ _ ?_
 refine Run.seq fun k4 hk4 => ?_
 refine Run.seq fun k5 hk5 => ?_
 refine Run.region ?_
 show Sq _ _ _ [0, 1] _ _ _ _
 refine Sq.quiet (i := 0) rfl (Want.none rfl) rfl (ltN rfl) (QP.move rfl rfl).read ?_
 refine Sq.quiet (i := 1) rfl (Want.none rfl) rfl (ltN rfl) (QP.ptr_eq_nil rfl rfl rfl Try.underlying33).read ?_
 refine Sq.nil ?_
 refine hk5 _ _ ?_
 refine Run.cond_f rfl ?_
 refine Run.skip ?_
 refine hk4 _ _ ?_
 refine Run.seq fun k6 hk6 => ?_
 refine Run.region ?_
 show Sq _ _ _ [0, 1, 2, 3, 4] _ _ _ _
 refine Sq.quiet (i := 0) rfl (Want.none rfl) rfl (ltN rfl) (QP.move rfl rfl).read ?_
 refine Sq.quiet (i := 1) rfl (Want.none rfl) rfl (ltN rfl) (QR.load rfl rfl g60 (Offer.enc_sub _)) ?_
 refine Sq.eff (i := 2) rfl (Want.none rfl) rfl (ltN rfl) (EF.buildSlice1 rfl Try.underlying39 z60 zero60 (by simp [Value.cells, Offer.enc_len]) (by decide) rfl rfl (Offer.enc_len _) (by decide)) ?_
 rintro _ _ ⟨b17, rfl, rfl⟩
 refine Sq.eff (i := 3) rfl (Want.none rfl) rfl (ltN rfl) (EF.call rfl ce10 rfl (.cons (by repeat constructor) Takes.nil) (fun F' hle hr => tellB F' (os := [o0]) (argSl_one Offer.enc_len (x := o0) (hr b17 _ (by repeat constructor))) (by decide))) ?_
 rintro v18 _ ⟨_, rfl, rfl⟩
 refine J.app ?_
 rw [fold0]
 refine Sq.slCase (v := v18) (xs := [updT x0 o0]) (by repeat constructor) (fun a18 c18 hv18 hh18 => ?_)
 subst hv18
 obtain ⟨b1, o1, rfl⟩ := hh18.get (by decide)
 have h18 : [updT x0 o0][Int.toNat 0]? = some (updT x0 o0) := rfl
 refine Sq.quiet (i := 4) rfl (Want.none rfl) rfl (ltN rfl) (QP.assign rfl rfl).read ?_
 refine Sq.nil ?_
 refine hk6 _ _ ?_
 refine Run.seq fun k7 hk7 => ?_
 refine Run.region ?_
 show Sq _ _ _ [0, 1, 2] _ _ _ _
 refine Sq.quiet (i := 0) rfl (Want.none rfl) rfl (ltN rfl) (QP.move rfl rfl).read ?_
 refine Sq.eff (i := 1) rfl (Want.none rfl) rfl (ltN rfl) (EF.call rfl ce11 rfl (.cons (by repeat constructor) Takes.nil) (fun F' hle hr => withdrawB F' (M := [(p0, true)]) (by decide))) ?_
 rintro v20 _ ⟨_, ⟨ks, hks, rfl⟩, rfl⟩
 refine J.app ?_
 obtain rfl := keys_one hks
 refine Sq.slCase (v := v20) (xs := [backT x0 (offP p0)]) (by repeat constructor) (fun a20 c20 hv20 hh20 => ?_)
 subst hv20
 obtain ⟨b2, o2, rfl⟩ := hh20.get (by decide)
 have h20 : [backT x0 (offP p0)][Int.toNat 0]? = some (backT x0 (offP p0)) := rfl
 refine Sq.quiet (i := 2) rfl (Want.none rfl) rfl (ltN rfl) (QP.assign rfl rfl).read ?_
 refine Sq.nil ?_
 refine hk7 _ _ ?_
 refine Run.seq fun k8 hk8 => ?_
 refine Run.region ?_
 show Sq _ _ _ [0, 1, 2, 3, 4, 5, 6, 7, 8, 9, 10, 11, 12, 13, 14, 15, 16, 17, 18, 19, 20, 21, 22, 23, 24, 25, 26, 27, 28, 29, 30, 31, 32, 33, 34, 35, 36, 37, 38, 39, 40, 41, 42, 43, 44, 45, 46, 47, 48, 49] _ _ _ _
 refine Sq.quiet (i := 0) rfl (Want.none rfl) rfl (ltN rfl) (QP.move rfl rfl).read ?_
 refine Sq.quiet (i := 1) rfl (Want.none rfl) rfl (ltN rfl) (QP.len rfl rfl rfl Try.underlying37).read ?_
 refine Sq.quiet (i := 2) rfl (Want.none rfl) rfl (ltN rfl) (QP.eql rfl rfl rfl).read ?_
 refine J.decT (rfl) ?_
 refine Sq.quiet (i := 3) rfl (Want.none rfl) rfl (ltN rfl) (QP.move rfl rfl).read ?_
 refine Sq.quiet (i := 4) rfl (Want.yes rfl rfl rfl rfl) rfl (ltN rfl) (QP.move rfl rfl).read ?_
 refine Sq.quiet (i := 5) rfl (Want.yes rfl rfl rfl rfl) rfl (ltN rfl) (QP.indexAddr rfl rfl rfl Try.underlying37 z51 (by first | omega | (simp <;> omega)) (by first | omega | (simp <;> omega))).read ?_
 refine Sq.quiet (i := 6) rfl (Want.yes rfl rfl rfl rfl) rfl (ltN rfl) (QP.fieldAddr rfl rfl f51_5).read ?_
 refine Sq.quiet (i := 7) rfl (Want.yes rfl rfl rfl rfl) rfl (ltN rfl) (QR.loadSlF1 rfl rfl g46 Tlv.enc_len (SlAt.own Tlv.enc_len (by repeat constructor)) h18 (Tlv.sub_metric _)) ?_
 refine Sq.quiet (i := 8) rfl (Want.yes rfl rfl rfl rfl) rfl (ltN rfl) (QP.eql rfl rfl rfl).read ?_
 refine J.decT (rfl) ?_
 refine Sq.quiet (i := 9) rfl (Want.none rfl) rfl (ltN rfl) (QP.pick_t rfl rfl rfl).read ?_
 refine Sq.quiet (i := 10) rfl (Want.none rfl) rfl (ltN rfl) (QP.move rfl rfl).read ?_
 refine Sq.quiet (i := 11) rfl (Want.yes rfl rfl rfl rfl) rfl (ltN rfl) (QP.move rfl rfl).read ?_
 refine Sq.quiet (i := 12) rfl (Want.yes rfl rfl rfl rfl) rfl (ltN rfl) (QP.indexAddr rfl rfl rfl Try.underlying37 z51 (by first | omega | (simp <;> omega)) (by first | omega | (simp <;> omega))).read ?_
 refine Sq.quiet (i := 13) rfl (Want.yes rfl rfl rfl rfl) rfl (ltN rfl) (QP.fieldAddr rfl rfl f51_2).read ?_
 refine Sq.quiet (i := 14) rfl (Want.yes rfl rfl rfl rfl) rfl (ltN rfl) (QR.loadSlF1 rfl rfl g46 Tlv.enc_len (SlAt.own Tlv.enc_len (by repeat constructor)) h18 (Tlv.sub_interval _)) ?_
 refine Sq.quiet (i := 15) rfl (Want.yes rfl rfl rfl rfl) rfl (ltN rfl) (QP.eql rfl rfl rfl).read ?_
 refine J.decT (by kernel_rfl) ?_
 refine Sq.quiet (i := 16) rfl (Want.none rfl) rfl (ltN rfl) (QP.pick_t rfl rfl rfl).read ?_
 refine Sq.quiet (i := 17) rfl (Want.none rfl) rfl (ltN rfl) (QP.move rfl rfl).read ?_
 refine Sq.quiet (i := 18) rfl (Want.yes rfl rfl rfl rfl) rfl (ltN rfl) (QP.move rfl rfl).read ?_
 refine Sq.quiet (i := 19) rfl (Want.yes rfl rfl rfl rfl) rfl (ltN rfl) (QP.indexAddr rfl rfl rfl Try.underlying37 z51 (by first | omega | (simp <;> omega)) (by first | omega | (simp <;> omega))).read ?_
 refine Sq.quiet (i := 20) rfl (Want.yes rfl rfl rfl rfl) rfl (ltN rfl) (QP.fieldAddr rfl rfl f51_10).read ?_
 refine Sq.quiet (i := 21) rfl (Want.yes rfl rfl rfl rfl) rfl (ltN rfl) (QP.indexArr rfl rfl rfl Try.underlying23 z5 (by decide) (by decide)).read ?_
 refine Sq.quiet (i := 22) rfl (Want.yes rfl rfl rfl rfl) rfl (ltN rfl) (QR.loadSlF1 rfl rfl g5 Tlv.enc_len (SlAt.own Tlv.enc_len (by repeat constructor)) h18 (SubL.trans (Tlv.sub_addr _) (Bs.subAt _ addr15 rfl))) ?_
 refine Sq.quiet (i := 23) rfl (Want.yes rfl rfl rfl rfl) rfl (ltN rfl) (QP.eql rfl rfl rfl).read ?_
 refine Sq.quiet (i := 24) rfl (Want.none rfl) rfl (ltN rfl) (QP.pick_t rfl rfl rfl).read ?_
 refine Sq.quiet (i := 25) rfl (Want.none rfl) rfl (ltN rfl) (QP.move rfl rfl).read ?_
 refine Sq.quiet (i := 26) rfl (Want.yes rfl rfl rfl rfl) rfl (ltN rfl) (QP.move rfl rfl).read ?_
 refine Sq.quiet (i := 27) rfl (Want.yes rfl rfl rfl rfl) rfl (ltN rfl) (QP.len rfl rfl rfl Try.underlying37).read ?_
 refine Sq.quiet (i := 28) rfl (Want.yes rfl rfl rfl rfl) rfl (ltN rfl) (QP.eql rfl rfl rfl).read ?_
 refine J.decT (rfl) ?_
 refine Sq.quiet (i := 29) rfl (Want.none rfl) rfl (ltN rfl) (QP.pick_t rfl rfl rfl).read ?_
 refine Sq.quiet (i := 30) rfl (Want.none rfl) rfl (ltN rfl) (QP.move rfl rfl).read ?_
 refine Sq.quiet (i := 31) rfl (Want.yes rfl rfl rfl rfl) rfl (ltN rfl) (QP.move rfl rfl).read ?_
 refine Sq.quiet (i := 32) rfl (Want.yes rfl rfl rfl rfl) rfl (ltN rfl) (QP.indexAddr rfl rfl rfl Try.underlying37 z51 (by first | omega | (simp <;> omega)) (by first | omega | (simp <;> omega))).read ?_
 refine Sq.quiet (i := 33) rfl (Want.yes rfl rfl rfl rfl) rfl (ltN rfl) (QP.fieldAddr rfl rfl f51_5).read ?_
 refine Sq.quiet (i := 34) rfl (Want.yes rfl rfl rfl rfl) rfl (ltN rfl) (QR.loadSlF1 rfl rfl g46 Tlv.enc_len (SlAt.own Tlv.enc_len (by repeat constructor)) h20 (Tlv.sub_metric _)) ?_
 refine Sq.quiet (i := 35) rfl (Want.yes rfl rfl rfl rfl) rfl (ltN rfl) (QP.eql rfl rfl rfl).read ?_
 refine J.decT (rfl) ?_
 refine Sq.quiet (i := 36) rfl (Want.none rfl) rfl (ltN rfl) (QP.pick_t rfl rfl rfl).read ?_
 refine Sq.quiet (i := 37) rfl (Want.none rfl) rfl (ltN rfl) (QP.move rfl rfl).read ?_
 refine Sq.quiet (i := 38) rfl (Want.yes rfl rfl rfl rfl) rfl (ltN rfl) (QP.move rfl rfl).read ?_
 refine Sq.eff (i := 39) rfl (Want.yes rfl rfl rfl rfl) rfl (ltN rfl) (EF.call rfl ce19 rfl (.cons (by repeat constructor) Takes.nil) (fun F' hle hr => toldB F' (M := []) (by decide))) ?_
 rintro v60 _ ⟨_, ⟨ks, hks, rfl⟩, rfl⟩
 refine J.app ?_
 obtain rfl := keys_none hks
 refine Sq.slCase (v := v60) (xs := ([] : List Pair)) (by repeat constructor) (fun a60 c60 hv60 hh60 => ?_)
 subst hv60
 refine Sq.quiet (i := 40) rfl (Want.yes rfl rfl rfl rfl) rfl (ltN rfl) (QP.len rfl rfl rfl Try.underlying35).read ?_
 refine Sq.quiet (i := 41) rfl (Want.yes rfl rfl rfl rfl) rfl (ltN rfl) (QP.eql rfl rfl rfl).read ?_
 refine J.decT (rfl) ?_
 refine Sq.quiet (i := 42) rfl (Want.none rfl) rfl (ltN rfl) (QP.pick_t rfl rfl rfl).read ?_
 refine Sq.quiet (i := 43) rfl (Want.none rfl) rfl (ltN rfl) (QP.move rfl rfl).read ?_
 refine Sq.quiet (i := 44) rfl (Want.yes rfl rfl rfl rfl) rfl (ltN rfl) (QP.move rfl rfl).read ?_
 refine Sq.eff (i := 45) rfl (Want.yes rfl rfl rfl rfl) rfl (ltN rfl) (EF.call rfl ce11 rfl (.cons (by repeat constructor) Takes.nil) (fun F' hle hr => withdrawB F' (M := []) (by decide))) ?_
 rintro v66 _ ⟨_, ⟨ks, hks, rfl⟩, rfl⟩
 refine J.app ?_
 obtain rfl := keys_none hks
 refine Sq.slCase (v := v66) (xs := ([] : List Tlv)) (by repeat constructor) (fun a66 c66 hv66 hh66 => ?_)
 subst hv66
 refine Sq.quiet (i := 46) rfl (Want.yes rfl rfl rfl rfl) rfl (ltN rfl) (QP.len rfl rfl rfl Try.underlying37).read ?_
 refine Sq.quiet (i := 47) rfl (Want.yes rfl rfl rfl rfl) rfl (ltN rfl) (QP.eql rfl rfl rfl).read ?_
 refine J.decT (rfl) ?_
 refine Sq.quiet (i := 48) rfl (Want.none rfl) rfl (ltN rfl) (QP.pick_t rfl rfl rfl).read ?_
 refine Sq.quiet (i := 49) rfl (Want.none rfl) rfl (ltN rfl) (QP.assign rfl rfl).read ?_
 refine Sq.nil ?_
 refine hk8 _ _ ?_
 refine Run.ret ?_
 exact J.ends (res_tmp rfl rfl) Takes.nil ⟨rfl, rfl⟩

theorem law_nil (F : Fr) (i : Int) (o : Offer) : Spec Try.prog 5 #[.int .i64 i, .agg (Offer.enc o).toArray] [] F (fun v S => v = .bool true ∧ S = []) := by
 refine Spec.intro (N := 58) (args := [.int .i64 i, .agg (Offer.enc o).toArray]) Try.func5 rfl rfl (by simp) ?_
 refine Run.seq fun k1 hk1 => ?_
 refine Run.region ?_
 show Sq _ _ _ [0, 1] _ _ _ _
 refine Sq.eff (i := 0) rfl (Want.none rfl) rfl (ltN rfl) (EF.boxA rfl rfl) ?_
 rintro _ _ ⟨b3, rfl, rfl⟩
 refine Sq.quiet (i := 1) rfl (Want.none rfl) rfl (ltN rfl) (QP.assign rfl rfl).read ?_
 refine Sq.nil ?_
 refine hk1 _ _ ?_
 refine Run.seq fun k2 hk2 => ?_
 refine Run.region ?_
 show Sq _ _ _ [0] _ _ _ _
 refine Sq.quiet (i := 0) rfl (Want.none rfl) rfl (ltN rfl) (QP.assign rfl rfl).read ?_
 refine Sq.nil ?_
 refine hk2 _ _ ?_
 refine Run.seq fun k3 hk3 => ?_
 refine Run.region ?_
 show Sq _ _ _ [0, 1, 2, 3, 4, 5, 6, 7, 8, 9] _ _ _ _
 refine Sq.quiet (i := 0) rfl (Want.none rfl) rfl (ltN rfl) (QP.move rfl rfl).read ?_
 refine Sq.quiet (i := 1) rfl (Want.none rfl) rfl (ltN rfl) (QP.move rfl rfl).read ?_
 refine Sq.quiet (i := 2) rfl (Want.none rfl) rfl (ltN rfl) (QR.load rfl rfl g60 (Offer.enc_sub _)) ?_
 refine Sq.eff (i := 3) rfl (Want.none rfl) rfl (ltN rfl) (EF.call rfl ce17 rfl Takes.nil (fun F' hle hr => answer_nil F' _ _)) ?_
 rintro _ _ ⟨_, ⟨rfl, rfl⟩, rfl⟩
 refine J.app ?_
 refine Sq.quiet (i := 4) rfl (Want.none rfl) rfl (ltN rfl) (QP.move rfl rfl).read ?_
 refine Sq.quiet (i := 5) rfl (Want.none rfl) rfl (ltN rfl) (QP.extract rfl rfl rfl).read ?_
 refine Sq.quiet (i := 6) rfl (Want.none rfl) rfl (ltN rfl) (QP.extract rfl rfl rfl).read ?_
 refine Sq.eff (i := 7) rfl (Want.none rfl) rfl (ltN rfl) (EF.allocA (l := Tlv.enc Tlv.zero) rfl zero51) ?_
 rintro _ _ ⟨b6, rfl, rfl⟩
 refine Sq.act (i := 8) rfl (Want.none rfl) rfl (EF.storeA rfl rfl rfl z51 (SetL.all (Tlv.enc_len _) (Tlv.enc_len _)) (Tlv.enc_cell _)) ?_
 rintro _ _ rfl
 refine Sq.quiet (i := 9) rfl (Want.none rfl) rfl (ltN rfl) (QP.assign rfl rfl).read ?_
 refine Sq.nil ?_
 refine hk3 _ _ ?_
 refine Run.seq fun k4 hk4 => ?_
 refine Run.region ?_
 show Sq _ _ _ [0, 1, 2, 3, 4, 5, 6, 7, 8, 9, 10, 11, 12, 13, 14, 15, 16, 17, 18, 19, 20, 21, 22, 23, 24, 25, 26, 27, 28, 29, 30, 31, 32, 33, 34, 35, 36, 37, 38, 39, 40, 41, 42, 43] _ _ _ _
 refine Sq.quiet (i := 0) rfl (Want.none rfl) rfl (ltN rfl) (QP.move rfl rfl).read ?_
 refine Sq.quiet (i := 1) rfl (Want.none rfl) rfl (ltN rfl) (QP.move rfl rfl).read ?_
 refine Sq.quiet (i := 2) rfl (Want.none rfl) rfl (ltN rfl) (QP.fieldAddr rfl rfl f60_0).read ?_
 refine Sq.quiet (i := 3) rfl (Want.none rfl) rfl (ltN rfl) (QR.load rfl rfl g45 (Offer.sub_pair _)) ?_
 refine Sq.eff (i := 4) rfl (Want.none rfl) rfl (ltN rfl) (EF.call rfl ce16 rfl Takes.nil (fun F' hle hr => can_nil F' _ _)) ?_
 rintro _ _ ⟨_, ⟨rfl, rfl⟩, rfl⟩
 refine J.app ?_
 refine Sq.quiet (i := 5) rfl (Want.none rfl) rfl (ltN rfl) (QP.not rfl rfl).read ?_
 refine Sq.quiet (i := 6) rfl (Want.none rfl) rfl (ltN rfl) (QP.move rfl rfl).read ?_
 refine Sq.quiet (i := 7) rfl (Want.yes rfl rfl rfl rfl) rfl (ltN rfl) (QP.move rfl rfl).read ?_
 refine Sq.quiet (i := 8) rfl (Want.yes rfl rfl rfl rfl) rfl (ltN rfl) (QP.move rfl rfl).read ?_
 refine Sq.quiet (i := 9) rfl (Want.yes rfl rfl rfl rfl) rfl (ltN rfl) (QR.load rfl rfl g60 (Offer.enc_sub _)) ?_
 refine Sq.eff (i := 10) rfl (Want.yes rfl rfl rfl rfl) rfl (ltN rfl) (EF.buildSlice1 rfl Try.underlying39 z60 zero60 (by simp [Value.cells, Offer.enc_len]) (by decide) rfl rfl (Offer.enc_len _) (by decide)) ?_
 rintro _ _ ⟨b25, rfl, rfl⟩
 refine Sq.eff (i := 11) rfl (Want.yes rfl rfl rfl rfl) rfl (ltN rfl) (EF.call rfl ce10 rfl Takes.nil (fun F' hle hr => tell_nil F' _ _)) ?_
 rintro _ _ ⟨_, ⟨rfl, rfl⟩, rfl⟩
 refine J.app ?_
 refine Sq.quiet (i := 12) rfl (Want.yes rfl rfl rfl rfl) rfl (ltN rfl) (QP.len rfl rfl rfl Try.underlying37).read ?_
 refine Sq.quiet (i := 13) rfl (Want.yes rfl rfl rfl rfl) rfl (ltN rfl) (QP.eql rfl rfl rfl).read ?_
 refine J.decT (rfl) ?_
 refine Sq.quiet (i := 14) rfl (Want.none rfl) rfl (ltN rfl) (QP.pick_t rfl rfl rfl).read ?_
 refine Sq.quiet (i := 15) rfl (Want.none rfl) rfl (ltN rfl) (QP.move rfl rfl).read ?_
 refine Sq.quiet (i := 16) rfl (Want.yes rfl rfl rfl rfl) rfl (ltN rfl) (QP.move rfl rfl).read ?_
 refine Sq.quiet (i := 17) rfl (Want.yes rfl rfl rfl rfl) rfl (ltN rfl) (QP.not rfl rfl).read ?_
 refine Sq.quiet (i := 18) rfl (Want.none rfl) rfl (ltN rfl) (QP.pick_t rfl rfl rfl).read ?_
 refine Sq.quiet (i := 19) rfl (Want.none rfl) rfl (ltN rfl) (QP.move rfl rfl).read ?_
 refine Sq.quiet (i := 20) rfl (Want.yes rfl rfl rfl rfl) rfl (ltN rfl) (QP.move rfl rfl).read ?_
 refine Sq.quiet (i := 21) rfl (Want.yes rfl rfl rfl rfl) rfl (ltN rfl) (QP.move rfl rfl).read ?_
 refine Sq.eff (i := 22) rfl (Want.yes rfl rfl rfl rfl) rfl (ltN rfl) (EF.call rfl ce11 rfl Takes.nil (fun F' hle hr => withdraw_nil F' _)) ?_
 rintro _ _ ⟨_, ⟨rfl, rfl⟩, rfl⟩
 refine J.app ?_
 refine Sq.quiet (i := 23) rfl (Want.yes rfl rfl rfl rfl) rfl (ltN rfl) (QP.len rfl rfl rfl Try.underlying37).read ?_
 refine Sq.quiet (i := 24) rfl (Want.yes rfl rfl rfl rfl) rfl (ltN rfl) (QP.eql rfl rfl rfl).read ?_
 refine J.decT (rfl) ?_
 refine Sq.quiet (i := 25) rfl (Want.none rfl) rfl (ltN rfl) (QP.pick_t rfl rfl rfl).read ?_
 refine Sq.quiet (i := 26) rfl (Want.none rfl) rfl (ltN rfl) (QP.move rfl rfl).read ?_
 refine Sq.quiet (i := 27) rfl (Want.yes rfl rfl rfl rfl) rfl (ltN rfl) (QP.move rfl rfl).read ?_
 refine Sq.quiet (i := 28) rfl (Want.yes rfl rfl rfl rfl) rfl (ltN rfl) (QP.move rfl rfl).read ?_
 refine Sq.eff (i := 29) rfl (Want.yes rfl rfl rfl rfl) rfl (ltN rfl) (EF.buildSliceS rfl Try.underlying92 z3 zero3 rfl (by decide) rfl rfl rfl rfl) ?_
 rintro _ _ ⟨b44, rfl, rfl⟩
 refine Sq.eff (i := 30) rfl (Want.yes rfl rfl rfl rfl) rfl (ltN rfl) (EF.call rfl ce18 rfl Takes.nil (fun F' hle hr => forget_nil F' (is := [i]) (argSl_all (enc := fun n => [Value.int .i64 n]) (fun _ => rfl) (hr b44 _ (by repeat constructor))) (by simp))) ?_
 rintro _ _ ⟨_, ⟨rfl, rfl⟩, rfl⟩
 refine J.app ?_
 refine Sq.quiet (i := 31) rfl (Want.yes rfl rfl rfl rfl) rfl (ltN rfl) (QP.eql rfl rfl rfl).read ?_
 refine Sq.quiet (i := 32) rfl (Want.none rfl) rfl (ltN rfl) (QP.pick_t rfl rfl rfl).read ?_
 refine Sq.quiet (i := 33) rfl (Want.none rfl) rfl (ltN rfl) (QP.move rfl rfl).read ?_
 refine Sq.quiet (i := 34) rfl (Want.yes rfl rfl rfl rfl) rfl (ltN rfl) (QP.move rfl rfl).read ?_
 refine Sq.quiet (i := 35) rfl (Want.yes rfl rfl rfl rfl) rfl (ltN rfl) (QP.move rfl rfl).read ?_
 refine Sq.eff (i := 36) rfl (Want.yes rfl rfl rfl rfl) rfl (ltN rfl) (EF.call rfl ce19 rfl Takes.nil (fun F' hle hr => told_nil F' _)) ?_
 rintro _ _ ⟨_, ⟨rfl, rfl⟩, rfl⟩
 refine J.app ?_
 refine Sq.quiet (i := 37) rfl (Want.yes rfl rfl rfl rfl) rfl (ltN rfl) (QP.len rfl rfl rfl Try.underlying35).read ?_
 refine Sq.quiet (i := 38) rfl (Want.yes rfl rfl rfl rfl) rfl (ltN rfl) (QP.eql rfl rfl rfl).read ?_
 refine J.decT (rfl) ?_
 refine Sq.quiet (i := 39) rfl (Want.none rfl) rfl (ltN rfl) (QP.pick_t rfl rfl rfl).read ?_
 refine Sq.quiet (i := 40) rfl (Want.none rfl) rfl (ltN rfl) (QP.move rfl rfl).read ?_
 refine Sq.eff (i := 41) rfl (Want.yes rfl rfl rfl rfl) rfl (ltN rfl) (EF.call rfl ce8 rfl Takes.nil (fun F' hle hr => live_spec F')) ?_
 rintro _ _ ⟨_, ⟨rfl, rfl⟩, rfl⟩
 refine J.app ?_
 refine Sq.quiet (i := 42) rfl (Want.none rfl) rfl (ltN rfl) (QP.pick_t rfl rfl rfl).read ?_
 refine Sq.quiet (i := 43) rfl (Want.none rfl) rfl (ltN rfl) (QP.assign rfl rfl).read ?_
 refine Sq.nil ?_
 refine hk4 _ _ ?_
 refine Run.ret ?_
 exact J.ends (res_tmp rfl rfl) Takes.nil ⟨rfl, rfl⟩
end Slb
