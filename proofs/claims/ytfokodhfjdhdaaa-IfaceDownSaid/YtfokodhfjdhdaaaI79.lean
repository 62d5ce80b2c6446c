/- I79: a part of the proof that a law of this package holds for every input; no condition. -/
import Derived.Test.YtfokodhfjdhdaaaM2
import Derived.Test.YtfokodhfjdhdaaaI78
import Derived.KernelRfl
namespace Slb
open Go Go.Proofs
set_option maxRecDepth 20000
theorem queue0Q (F : Fr) {b : Nat} {M : List OneX} {i : Nat} {x : OneX} (hi : M[i]? = some x) (hup : ¬ x.up = true) (to : Bs 16) {a3 : Option Addr} {n3 c3 : Nat} :
    Spec Try.prog 11 #[.pointer (some ⟨b, 0, none⟩), .int .i64 (i : Int), .agg (Bs.enc to).toArray, .slice a3 n3 c3] [QS b M] F (fun v S => v = .int .i64 7 ∧ S = [QS b M]) :=
  (Spec.qsAt (R1 := fun v x' T => v = .int .i64 7 ∧ x' = x ∧ T = []) hi fun F' a c bs bi hle hS hb => row_one fun F2 w hle2 => (queue_down F2 (hS.mono hle2) hb (x := x) (w := w) hup to).mono fun v S hv => ⟨x, [], ⟨hv.1, rfl, rfl⟩, rfl, rfl, hv.2⟩).mono (by rintro v S ⟨x', T, ⟨h1, rfl, rfl⟩, h2⟩; exact ⟨h1, by rw [set_sm hi] at h2; exact h2⟩)
theorem tlvIn_nil {F : Fr} {x : TlvX} (h : x.l = []) : TlvIn F x := by
  intro h0
  rw [h] at h0
  exact absurd h0 (by simp)
/-! ### The law's own example -/
def ivS : Bs 16 := ⟨[254, 128, 0, 0, 0, 0, 0, 0, 0, 0, 0, 0, 0, 0, 0, 1], rfl⟩
def ivC : IfConf := ⟨⟨#[101, 48]⟩, 0, 96, 4000, 16000, 1280, ivS, Bs.zero 16, Rtt.zero⟩
def ivX (n : Int) (ws : WsX) : OneX := ⟨ivC, true, n, ws⟩
def ivM (n : Int) : Tlv × List Int := helloM ivC n 0
def ivW : WsX := [(Bs.zero 16, [ivM 0, ivM 1])]
def ivP : List UInt8 := [42, 2, 0, 16, 4, 6, 0, 0, 0, 0, 1, 144, 4, 6, 0, 0, 0, 1, 1, 144]
theorem iv_fit (n : Int) (h : n = 0 ∨ n = 1) : fitP ivC (ivM n) := by
  rcases h with rfl | rfl
  · exact ⟨by kernel_rfl, by simp [Tlv.WF, Pair.WF, Prefix.WF, ivM, helloM, helloT, hIv, ivC, Tlv.zero]; decide, fun n h => by cases h⟩
  · exact ⟨by kernel_rfl, by simp [Tlv.WF, Pair.WF, Prefix.WF, ivM, helloM, helloT, hIv, ivC, Tlv.zero]; decide, fun n h => by cases h⟩
theorem iv_flush : flushF ivC.addr ivC.mtu [ivM 0, ivM 1] = [ivP] := by kernel_rfl
theorem srt_one (a : Bs 16) : srtA [a] = [a] := by unfold srtA; simp
theorem iv_all : flushS 0 [ivX 2 ivW] = [(((0 : Nat) : Int), Bs.zero 16, ivP)] := by
  show flushI 0 (ivX 2 ivW) ++ [] = _
  rw [List.append_nil]
  unfold flushI
  rw [show ((ivX 2 ivW).ws.map (·.1)) = [Bs.zero 16] from rfl, srt_one]
  show outI 0 (ivX 2 ivW) (Bs.zero 16) ++ [] = _
  rw [List.append_nil]
  unfold outI
  rw [show (alook (ivX 2 ivW).ws (Bs.zero 16)).getD [] = [ivM 0, ivM 1] from rfl, show (ivX 2 ivW).c = ivC from rfl, iv_flush]
  rfl
theorem iv_ok : ∀ x ∈ [ivX 2 ivW], OkX x := fun x hx => by
  obtain rfl := List.mem_singleton.1 hx
  refine ⟨by simp [ivX, ivW], by decide, by decide, fun e he => ?_, fun e he p hp => ?_, by simp [ivX, ivW]⟩
  · obtain rfl := List.mem_singleton.1 he
    simp
  · obtain rfl := List.mem_singleton.1 he
    simp only [List.mem_cons, List.not_mem_nil, or_false] at hp
    rcases hp with rfl | rfl
    · exact iv_fit 0 (.inl rfl)
    · exact iv_fit 1 (.inr rfl)
section
variable {y1 y2 : TlvX} (h1 : tlvM y1 = ivM 0) (h2 : tlvM y2 = ivM 1)
include h1 in
theorem iv_seq : (tlvS y1).seqno = 0 ∧ (tlvS y1).interval = 400 ∧ y1.l = [] := ⟨congrArg (fun p : Tlv × List Int => p.1.seqno) h1, (congrArg (fun p : Tlv × List Int => p.1.interval) h1).trans (by kernel_rfl), congrArg Prod.snd h1⟩
include h2 in
theorem iv_seq2 : (tlvS y2).seqno = 1 ∧ y2.l = [] := ⟨congrArg (fun p : Tlv × List Int => p.1.seqno) h2, congrArg Prod.snd h2⟩
include h1 h2
theorem iv_err : addErr ivC.addr ivC.mtu [y1, y2] = 0 := by
  rw [addErr, fits_tlvM, h1, if_neg (by rw [show fitsF ivC.addr ivC.mtu { (ivM 0).1 with stamps := ⟨none, (ivM 0).2.length, 0⟩ } (ivM 0).2 = 0 from (iv_fit 0 (.inl rfl)).1]; decide)]
  rw [addErr, fits_tlvM, h2, if_neg (by rw [show fitsF ivC.addr ivC.mtu { (ivM 1).1 with stamps := ⟨none, (ivM 1).2.length, 0⟩ } (ivM 1).2 = 0 from (iv_fit 1 (.inr rfl)).1]; decide)]
  rfl
theorem iv_queue : queueX (ivX 2 []) (Bs.zero 16) [y1, y2] = ivX 2 ivW := by
  have he := iv_err h1 h2
  unfold queueX
  rw [show (ivX 2 []).c.addr = ivC.addr from rfl, show (ivX 2 []).c.mtu = ivC.mtu from rfl, he, if_pos rfl, List.map_cons, List.map_cons, List.map_nil, h1, h2]
  rfl
theorem iv_wf : ∀ x ∈ [y1, y2], (tlvS x).WF := fun x hx => by
  simp only [List.mem_cons, List.not_mem_nil, or_false] at hx
  rcases hx with rfl | rfl
  · have h3 : (tlvM x).1.WF := by rw [h1]; exact (iv_fit 0 (.inl rfl)).2.1
    exact h3
  · have h3 : (tlvM x).1.WF := by rw [h2]; exact (iv_fit 1 (.inr rfl)).2.1
    exact h3
theorem iv_nil : ∀ x ∈ [y1, y2], x.l = [] := fun x hx => by
  simp only [List.mem_cons, List.not_mem_nil, or_false] at hx
  rcases hx with rfl | rfl
  · exact (iv_seq h1).2.2
  · exact (iv_seq2 h2).2
end

set_option maxHeartbeats 2000000 in
theorem live14_spec (F : Fr)  : Spec Try.prog 7 #[] [] F (fun v S => v = .bool true ∧ S = []) := by
 refine Spec.intro (N := 99) (args := []) Try.func7 rfl rfl (by simp) ?_
 refine Run.seq fun k1 hk1 => Run.region ?_
 show Sq _ _ _ [0] _ _ _ _
 refine Sg 0 rfl rfl rfl <| Sq.nil <| hk1 _ _ <| Run.seq fun k2 hk2 => Run.region ?_
 show Sq _ _ _ [0, 1, 2, 3, 4] _ _ _ _
 refine Qp 0 rfl rfl (QP.const (.agg (Bs.enc ivS).toArray) (fun _ _ => by kernel_rfl)) <| Qp 1 rfl rfl (QP.build (l := IfConf.enc ivC) rfl st27 rfl (by exact ⟨rfl, rfl, rfl, rfl, rfl, (congrArg some (Bs.len _).symm), trivial⟩) rfl) <| Ef 2 rfl rfl (EF.buildSlice1 rfl Try.underlying29 z27 zero27 (by simp [Value.cells, IfConf.enc_len]) (by decide) rfl rfl (IfConf.enc_len _) (by decide)) ?_
 rintro _ _ ⟨b9, rfl, rfl⟩
 refine Ef 3 rfl rfl (EF.call rfl ce8 rfl Takes.nil (fun F' hle hr => newS_spec F' (cs := [ivC]) (a := some ⟨b9, 0, none⟩) (c := 1) (argSl_all (xs := [ivC]) IfConf.enc_len (by have h9 := hr b9 (.cells (IfConf.enc ivC).toArray 27 (0, 0)) Rc; rw [show [ivC].flatMap IfConf.enc = IfConf.enc ivC by simp]; exact h9)) (by simp))) ?_
 rintro _ _ ⟨_, ⟨b0, rfl, rfl⟩, rfl⟩
 refine J.app ?_
 refine Sg 4 rfl rfl rfl <| Sq.nil <| hk2 _ _ <| Run.seq fun k3 hk3 => Run.seq fun k4 hk4 => Run.region ?_
 show Sq _ _ _ [0, 1, 2, 3, 4, 5, 6, 7, 8, 9, 10, 11, 12, 13] _ _ _ _
 refine Mv 0 rfl rfl rfl <| Qp 1 rfl rfl (QP.ptr_eq_nil rfl rfl rfl Try.underlying31) <| Mv 2 rfl rfl rfl <| Ym 3 rfl rfl rfl rfl <| Ye 4 rfl rfl rfl (EF.call rfl ce10 rfl Tk1 (fun F' hle hr => (upQ F' (b := b0) (i := 0) (M := [newX ivC]) (x := newX ivC) rfl).mono (fun v S hv => (show v = .int .i64 0 ∧ S = [QS b0 [ivX 0 []]] from hv)))) ?_
 rintro _ _ ⟨_, ⟨rfl, rfl⟩, rfl⟩
 refine J.app ?_
 refine Ye 5 rfl rfl rfl (EF.call rfl ce9 rfl Takes.nil (fun F' hle hr => num14_spec F' _)) ?_
 rintro _ _ ⟨_, ⟨rfl, rfl⟩, rfl⟩
 refine J.app ?_
 refine Yp 6 rfl rfl rfl (QP.neq rfl rfl rfl) <| Pf 7 rfl rfl rfl rfl <| Mv 8 rfl rfl rfl <| Ym 9 rfl rfl rfl rfl <| Ye 10 rfl rfl rfl (EF.call rfl ce10 rfl Tk1 (fun F' hle hr => (upQ F' (b := b0) (i := 0) (M := [ivX 0 []]) (x := ivX 0 []) rfl).mono (fun v S hv => (show v = .int .i64 8 ∧ S = [QS b0 [ivX 0 []]] from hv)))) ?_
 rintro _ _ ⟨_, ⟨rfl, rfl⟩, rfl⟩
 refine J.app ?_
 refine Ye 11 rfl rfl rfl (EF.call rfl ce9 rfl Takes.nil (fun F' hle hr => num14_spec F' _)) ?_
 rintro _ _ ⟨_, ⟨rfl, rfl⟩, rfl⟩
 refine J.app ?_
 refine Yp 12 rfl rfl rfl (QP.neq rfl rfl rfl) <| Pf 13 rfl rfl rfl rfl <| Sq.nil <| hk4 _ _ <| Run.cond_f rfl <| Run.skip <| hk3 _ _ <| Run.seq fun k5 hk5 => Run.region ?_
 show Sq _ _ _ [0, 1, 2, 3, 4, 5, 6, 7] _ _ _ _
 refine Mv 0 rfl rfl rfl <| Ef 1 rfl rfl (EF.call rfl ce15 rfl Tk1 (fun F' hle hr => (helloQ F' (b := b0) (i := 0) (M := [ivX 0 []]) (x := ivX 0 []) rfl rfl 0).mono (fun v S hv => (show ∃ y : TlvX, v = .tuple #[.agg (Tlv.enc (tlvS y)).toArray, .int .i64 0] ∧ tlvM y = ivM 0 ∧ S = [QS b0 [ivX 1 []], stA y] from hv)))) ?_
 rintro _ _ ⟨_, ⟨y1, rfl, hy1, rfl⟩, rfl⟩
 refine J.app ?_
 refine Mv 2 rfl rfl rfl <| Qp 3 rfl rfl (QP.extract rfl rfl rfl) <| Qp 4 rfl rfl (QP.extract rfl rfl rfl) <| Ef 5 rfl rfl (EF.allocA (l := Tlv.enc Tlv.zero) rfl zero46) ?_
 rintro _ _ ⟨b2, rfl, rfl⟩
 refine Ac 6 rfl (EF.storeA rfl rfl rfl z46 (SetL.all (Tlv.enc_len _) (Tlv.enc_len _)) (Tlv.enc_cell _)) ?_
 rintro _ _ rfl
 refine Sg 7 rfl rfl rfl <| Sq.nil <| hk5 _ _ <| Run.seq fun k6 hk6 => Run.region ?_
 show Sq _ _ _ [0, 1, 2, 3, 4, 5, 6, 7] _ _ _ _
 refine Mv 0 rfl rfl rfl <| Ef 1 rfl rfl (EF.call rfl ce15 rfl Tk1 (fun F' hle hr => (helloQ F' (b := b0) (i := 0) (M := [ivX 1 []]) (x := ivX 1 []) rfl rfl 0).mono (fun v S hv => (show ∃ y : TlvX, v = .tuple #[.agg (Tlv.enc (tlvS y)).toArray, .int .i64 0] ∧ tlvM y = ivM 1 ∧ S = [QS b0 [ivX 2 []], stA y] from hv)))) ?_
 rintro _ _ ⟨_, ⟨y2, rfl, hy2, rfl⟩, rfl⟩
 refine J.app ?_
 refine Mv 2 rfl rfl rfl <| Qp 3 rfl rfl (QP.extract rfl rfl rfl) <| Qp 4 rfl rfl (QP.extract rfl rfl rfl) <| Ef 5 rfl rfl (EF.allocA (l := Tlv.enc Tlv.zero) rfl zero46) ?_
 rintro _ _ ⟨b4, rfl, rfl⟩
 refine Ac 6 rfl (EF.storeA rfl rfl rfl z46 (SetL.all (Tlv.enc_len _) (Tlv.enc_len _)) (Tlv.enc_cell _)) ?_
 rintro _ _ rfl
 refine Sg 7 rfl rfl rfl <| Sq.nil <| hk6 _ _ <| Run.seq fun k7 hk7 => Run.seq fun k8 hk8 => Run.region ?_
 show Sq _ _ _ [0, 1, 2, 3, 4, 5, 6, 7, 8, 9, 10, 11, 12, 13, 14, 15, 16, 17, 18, 19, 20, 21, 22, 23, 24, 25, 26, 27, 28, 29, 30, 31, 32, 33, 34, 35] _ _ _ _
 obtain ⟨hq1, hq2, _⟩ := iv_seq hy1
 obtain ⟨hq3, _⟩ := iv_seq2 hy2
 refine Mv 0 rfl rfl rfl <| Ef 1 rfl rfl (EF.call rfl ce9 rfl Takes.nil (fun F' hle hr => num14_spec F' _)) ?_
 rintro _ _ ⟨_, ⟨rfl, rfl⟩, rfl⟩
 refine J.app ?_
 refine Mv 2 rfl rfl rfl <| Ef 3 rfl rfl (EF.call rfl ce9 rfl Takes.nil (fun F' hle hr => num14_spec F' _)) ?_
 rintro _ _ ⟨_, ⟨rfl, rfl⟩, rfl⟩
 refine J.app ?_
 refine Qp 4 rfl rfl (QP.add64 rfl rfl rfl Og Og) <| Qp 5 rfl rfl (QP.neq rfl rfl rfl) <| J.decF (by decide) ?_
 refine Mv 6 rfl rfl rfl <| Yf 7 rfl rfl rfl rfl f46_3 <| Yq 8 rfl rfl rfl (QR.load1 rfl rfl g37 (Tlv.sub_seqno _)) ?_
 refine Yp 9 rfl rfl rfl (QP.neq rfl rfl rfl) <| J.decF (by rw [hq1]; decide) ?_
 refine Pf 10 rfl rfl rfl rfl <| Mv 11 rfl rfl rfl <| Yf 12 rfl rfl rfl rfl f46_3 <| Yq 13 rfl rfl rfl (QR.load1 rfl rfl g37 (Tlv.sub_seqno _)) ?_
 refine Yp 14 rfl rfl rfl (QP.neq rfl rfl rfl) <| J.decF (by rw [hq3]; decide) ?_
 refine Pf 15 rfl rfl rfl rfl <| Mv 16 rfl rfl rfl <| Yf 17 rfl rfl rfl rfl f46_2 <| Yq 18 rfl rfl rfl (QR.load1 rfl rfl g37 (Tlv.sub_interval _)) ?_
 refine Yp 19 rfl rfl rfl (QP.neq rfl rfl rfl) <| J.decF (by rw [hq2]; decide) ?_
 refine Pf 20 rfl rfl rfl rfl <| Mv 21 rfl rfl rfl <| Ym 22 rfl rfl rfl rfl <| Yp 23 rfl rfl rfl (QP.const (.agg (Bs.enc (⟨[0, 0, 0, 0, 0, 0, 0, 0, 0, 0, 0, 0, 0, 0, 0, 0], rfl⟩ : Bs 16)).toArray) (fun _ _ => by kernel_rfl)) <| Yq 24 rfl rfl rfl (QR.load rfl rfl g46 (Tlv.enc_sub _)) ?_
 refine Yq 25 rfl rfl rfl (QR.load rfl rfl g46 (Tlv.enc_sub _)) ?_
 refine Ye 26 rfl rfl rfl (EF.buildSliceN (enc := tlvE) (xs := [y1, y2]) rfl Try.underlying78 z46 zero46 (by simp [Value.cells, Tlv.enc_len]) (by decide) rfl rfl rfl tlvE_len (by decide)) ?_
 rintro _ _ ⟨b61, rfl, rfl⟩
 refine Ye 27 rfl rfl rfl (EF.call rfl ce11 rfl Tk1 (fun F' hle hr => (queueQ F' (b := b0) (i := 0) (M := [ivX 2 []]) (x := ivX 2 []) rfl rfl (by decide) (by decide) (fun e he => by cases he) (Bs.zero 16) (ts := [y1, y2]) (a3 := some ⟨b61, 0, none⟩) (c3 := 2) (argSl_all tlvE_len (hr b61 _ Rc)) (fun x hx => tlvIn_nil (iv_nil hy1 hy2 x hx)) (iv_wf hy1 hy2) (fun x hx n hn => by rw [iv_nil hy1 hy2 x hx] at hn; cases hn) (by simp)).mono (fun v S hv => (show v = .int .i64 0 ∧ S = [QS b0 [ivX 2 ivW]] from ⟨by rw [hv.1]; exact congrArg (Value.int .i64) (iv_err hy1 hy2), by rw [hv.2]; show [QS b0 [queueX (ivX 2 []) (Bs.zero 16) [y1, y2]]] = _; rw [iv_queue hy1 hy2]⟩)))) ?_
 rintro _ _ ⟨_, ⟨rfl, rfl⟩, rfl⟩
 refine J.app ?_
 refine Ye 28 rfl rfl rfl (EF.call rfl ce9 rfl Takes.nil (fun F' hle hr => num14_spec F' _)) ?_
 rintro _ _ ⟨_, ⟨rfl, rfl⟩, rfl⟩
 refine J.app ?_
 refine Yp 29 rfl rfl rfl (QP.neq rfl rfl rfl) <| Pf 30 rfl rfl rfl rfl <| Mv 31 rfl rfl rfl <| Ym 32 rfl rfl rfl rfl <| Ye 33 rfl rfl rfl (EF.call rfl ce12 rfl Tk1 (fun F' hle hr => (waitingQ F' (b := b0) (i := 0) (M := [ivX 2 ivW]) (x := ivX 2 ivW) rfl (iv_ok _ (List.mem_singleton.2 rfl)).nd (by show 2 ≤ _; decide)).mono (fun v S hv => (show v = .int .i64 2 ∧ S = [QS b0 [ivX 2 ivW]] from hv)))) ?_
 rintro _ _ ⟨_, ⟨rfl, rfl⟩, rfl⟩
 refine J.app ?_
 refine Yp 34 rfl rfl rfl (QP.neq rfl rfl rfl) <| Pf 35 rfl rfl rfl rfl <| Sq.nil <| hk8 _ _ <| Run.cond_f rfl <| Run.skip <| hk7 _ _ <| Run.seq fun k9 hk9 => Run.region ?_
 show Sq _ _ _ [0, 1, 2] _ _ _ _
 refine Mv 0 rfl rfl rfl <| Ef 1 rfl rfl (EF.call rfl ce14 rfl Tk1 (fun F' hle hr => flushQ F' (b := b0) (M := [ivX 2 ivW]) iv_ok (by rw [iv_all]; decide) (by decide))) ?_
 rintro vf _ ⟨_, ⟨us, hus, rfl⟩, rfl⟩
 refine J.app ?_
 refine Sg 2 rfl rfl rfl <| Sq.nil <| hk9 _ _ <| Run.seq fun k10 hk10 => Run.region ?_
 show Sq _ _ _ [0, 1, 2, 3, 4, 5, 6, 7, 8, 9, 10, 11, 12, 13, 14, 15, 16, 17, 18, 19, 20, 21, 22, 23, 24, 25, 26] _ _ _ _
 rw [iv_all] at hus
 have hul : us.length = 1 := by have := congrArg List.length hus; rwa [List.length_map] at this
 refine Sq.slCase (v := vf) (xs := us) Rc (fun af cf hvf hhf => ?_)
 subst hvf
 obtain ⟨u, hu⟩ : ∃ u, us[Int.toNat 0]? = some u := ⟨_, List.getElem?_eq_getElem (by show 0 < us.length; omega)⟩
 obtain ⟨bf, of, rfl⟩ := hhf.get (by omega)
 have hum : sentM u = (((0 : Nat) : Int), Bs.zero 16, ivP) := by have h9 := congrArg (fun q => q[0]?) hus; simp only [List.getElem?_map] at h9; rw [show us[0]? = some u from hu] at h9; exact Option.some.inj h9
 have hun : u.y.n = 20 := by rw [u.y.h, show u.y.l = ivP from congrArg (fun s : SentM => s.2.2) hum]; rfl
 refine Mv 0 rfl rfl rfl <| Qp 1 rfl rfl (QP.len rfl rfl rfl Try.underlying48) <| Qp 2 rfl rfl (QP.eql rfl rfl rfl) <| J.decT (by omega) ?_
 refine Mv 3 rfl rfl rfl <| Ym 4 rfl rfl rfl rfl <| Yp 5 rfl rfl rfl (QP.indexAddr rfl rfl rfl Try.underlying48 z52 Og Og) <| Yf 6 rfl rfl rfl rfl f52_2 <| Yq 7 rfl rfl rfl (QR.loadSlF1 (y := u) rfl rfl g50 sentE_len (SlAt.own sentE_len Rc) hu (Sent.sub_p _)) ?_
 refine Yp 8 rfl rfl rfl (QP.len rfl rfl rfl Try.underlying50) <| Yp 9 rfl rfl rfl (QP.eql rfl rfl rfl) <| J.decT (by show (u.y.n : Int) = 20; omega) ?_
 refine Pt 10 rfl rfl rfl rfl <| Mv 11 rfl rfl rfl <| Ym 12 rfl rfl rfl rfl <| Ye 13 rfl rfl rfl (EF.call rfl ce13 rfl Tk1 (fun F' hle hr => (downQ F' (b := b0) (i := 0) (M := [resetX (ivX 2 ivW)]) (x := resetX (ivX 2 ivW)) rfl).mono (fun v S hv => (show v = .int .i64 0 ∧ S = [QS b0 [turnX (resetX (ivX 2 ivW)) false]] from hv)))) ?_
 rintro _ _ ⟨_, ⟨rfl, rfl⟩, rfl⟩
 refine J.app ?_
 refine Ye 14 rfl rfl rfl (EF.call rfl ce9 rfl Takes.nil (fun F' hle hr => num14_spec F' _)) ?_
 rintro _ _ ⟨_, ⟨rfl, rfl⟩, rfl⟩
 refine J.app ?_
 refine Yp 15 rfl rfl rfl (QP.eql rfl rfl rfl) <| Pt 16 rfl rfl rfl rfl <| Mv 17 rfl rfl rfl <| Ym 18 rfl rfl rfl rfl <| Yp 19 rfl rfl rfl (QP.const (.agg (Bs.enc (⟨[0, 0, 0, 0, 0, 0, 0, 0, 0, 0, 0, 0, 0, 0, 0, 0], rfl⟩ : Bs 16)).toArray) (fun _ _ => by kernel_rfl)) <| Yq 20 rfl rfl rfl (QR.load rfl rfl g46 (Tlv.enc_sub _)) ?_
 refine Ye 21 rfl rfl rfl (EF.buildSlice1 rfl Try.underlying78 z46 zero46 (by simp [Value.cells, Tlv.enc_len]) (by decide) rfl rfl (Tlv.enc_len _) (by decide)) ?_
 rintro _ _ ⟨b94, rfl, rfl⟩
 refine Ye 22 rfl rfl rfl (EF.call rfl ce11 rfl Tk1 (fun F' hle hr => queue0Q F' (b := b0) (i := 0) (M := [turnX (resetX (ivX 2 ivW)) false]) (x := turnX (resetX (ivX 2 ivW)) false) rfl (by decide) (Bs.zero 16))) ?_
 rintro _ _ ⟨_, ⟨rfl, rfl⟩, rfl⟩
 refine J.app ?_
 refine Ye 23 rfl rfl rfl (EF.call rfl ce9 rfl Takes.nil (fun F' hle hr => num14_spec F' _)) ?_
 rintro _ _ ⟨_, ⟨rfl, rfl⟩, rfl⟩
 refine J.app ?_
 refine Yp 24 rfl rfl rfl (QP.eql rfl rfl rfl) <| Pt 25 rfl rfl rfl rfl <| Sg 26 rfl rfl rfl <| Sq.nil <| hk10 _ _ <| Run.ret ?_
 exact J.ends (res_tmp rfl rfl) Takes.nil ⟨rfl, rfl⟩
end Slb
