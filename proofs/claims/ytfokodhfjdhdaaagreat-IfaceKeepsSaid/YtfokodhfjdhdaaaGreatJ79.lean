/- J79: a part of the proof that a law of this package holds for every input; no condition. -/
import Derived.Test.YtfokodhfjdhdaaaGreatM2
import Derived.Test.YtfokodhfjdhdaaaGreatJ78
import Derived.KernelRfl
namespace Slb
open Go Go.Proofs
set_option maxRecDepth 20000
theorem queue0Q (F : Fr) {b : Nat} {M : List OneX} {i : Nat} {x : OneX} (hi : M[i]? = some x) (hup : ¬ x.up = true) (to : Bs 16) {a3 : Option Addr} {n3 c3 : Nat} :
   Spec Tryz.prog 17 #[.pointer (some ⟨b, 0, none⟩), .int .i64 (i : Int), .agg (Bs.enc to).toArray, .slice a3 n3 c3] [QS b M] F (fun v S => v = .int .i64 7 ∧ S = [QS b M]) :=
 (Spec.qsAt (R1 := fun v x' T => v = .int .i64 7 ∧ x' = x ∧ T = []) hi fun F' a c bs bi hle hS hb => row_one fun F2 w hle2 => (queue_down F2 (hS.mono hle2) hb (x := x) (w := w) hup to).mono fun v S hv => ⟨x, [], ⟨hv.1, rfl, rfl⟩, rfl, rfl, hv.2⟩).mono (by rintro v S ⟨x', T, ⟨h1, rfl, rfl⟩, h2⟩; exact ⟨h1, by rw [set_sm hi] at h2; exact h2⟩)
theorem tlvIn_nil {F : Fr} {x : TlvX} (h : x.l = []) : TlvIn F x := by
 intro h0
 rw [h] at h0
 exact absurd h0 (by simp)
/-! ### The law's own example -/
def ivS : Bs 16 := ⟨[254, 128, 0, 0, 0, 0, 0, 0, 0, 0, 0, 0, 0, 0, 0, 1], rfl⟩
def ivC : IfConf := ⟨⟨#[101, 48]⟩, 0, 96, 4000, 16000, 1280, ivS, Bs.zero 16, Rtt.zero⟩
def ivX (n : Int) (ws : WsX) : OneX := ⟨ivC, true, n, ws⟩
def ivM (n : Int) : Tlv × List Int := helloM ivC n 0
def ivW : WsX := [(Bs.zero 16, [ivM 0, ivM 1])]
def ivP : List UInt8 := [42, 2, 0, 16, 4, 6, 0, 0, 0, 0, 1, 144, 4, 6, 0, 0, 0, 1, 1, 144]
theorem iv_fit (n : Int) (h : n = 0 ∨ n = 1) : fitP ivC (ivM n) := by
 rcases h with rfl | rfl
 · exact ⟨by kernel_rfl, by simp [Tlv.WF, Pair.WF, Prefix.WF, ivM, helloM, helloT, hIv, ivC, Tlv.zero]; decide, fun n h => by cases h⟩
 · exact ⟨by kernel_rfl, by simp [Tlv.WF, Pair.WF, Prefix.WF, ivM, helloM, helloT, hIv, ivC, Tlv.zero]; decide, fun n h => by cases h⟩
theorem iv_flush : flushF ivC.addr ivC.mtu [ivM 0, ivM 1] = [ivP] := by kernel_rfl
theorem srt_one (a : Bs 16) : srtA [a] = [a] := by unfold srtA; simp
theorem iv_all : flushS 0 [ivX 2 ivW] = [(((0 : Nat) : Int), Bs.zero 16, ivP)] := by
 show flushI 0 (ivX 2 ivW) ++ [] = _
 rw [List.append_nil]
 unfold flushI
 rw [show ((ivX 2 ivW).ws.map (·.1)) = [Bs.zero 16] from rfl, srt_one]
 show outI 0 (ivX 2 ivW) (Bs.zero 16) ++ [] = _
 rw [List.append_nil]
 unfold outI
 rw [show (alook (ivX 2 ivW).ws (Bs.zero 16)).getD [] = [ivM 0, ivM 1] from rfl, show (ivX 2 ivW).c = ivC from rfl, iv_flush]
 rfl
theorem iv_ok : ∀ x ∈ [ivX 2 ivW], OkX x := fun x hx => by
 obtain rfl := List.mem_singleton.1 hx
 refine ⟨by simp [ivX, ivW], by decide, by decide, fun e he => ?_, fun e he p hp => ?_, by simp [ivX, ivW]⟩
 · obtain rfl := List.mem_singleton.1 he
   simp
 · obtain rfl := List.mem_singleton.1 he
   simp only [List.mem_cons, List.not_mem_nil, or_false] at hp
   rcases hp with rfl | rfl
   · exact iv_fit 0 (.inl rfl)
   · exact iv_fit 1 (.inr rfl)
section
variable {y1 y2 : TlvX} (h1 : tlvM y1 = ivM 0) (h2 : tlvM y2 = ivM 1)
include h1 in
theorem iv_seq : (tlvS y1).seqno = 0 ∧ (tlvS y1).interval = 400 ∧ y1.l = [] := ⟨congrArg (fun p : Tlv × List Int => p.1.seqno) h1, (congrArg (fun p : Tlv × List Int => p.1.interval) h1).trans (by kernel_rfl), congrArg Prod.snd h1⟩
include h2 in
theorem iv_seq2 : (tlvS y2).seqno = 1 ∧ y2.l = [] := ⟨congrArg (fun p : Tlv × List Int => p.1.seqno) h2, congrArg Prod.snd h2⟩
include h1 h2
theorem iv_err : addErr ivC.addr ivC.mtu [y1, y2] = 0 := by
 rw [addErr, fits_tlvM, h1, if_neg (by rw [show fitsF ivC.addr ivC.mtu { (ivM 0).1 with stamps := ⟨none, (ivM 0).2.length, 0⟩ } (ivM 0).2 = 0 from (iv_fit 0 (.inl rfl)).1]; decide)]
 rw [addErr, fits_tlvM, h2, if_neg (by rw [show fitsF ivC.addr ivC.mtu { (ivM 1).1 with stamps := ⟨none, (ivM 1).2.length, 0⟩ } (ivM 1).2 = 0 from (iv_fit 1 (.inr rfl)).1]; decide)]
 rfl
theorem iv_queue : queueX (ivX 2 []) (Bs.zero 16) [y1, y2] = ivX 2 ivW := by
 have he := iv_err h1 h2
 unfold queueX
 rw [show (ivX 2 []).c.addr = ivC.addr from rfl, show (ivX 2 []).c.mtu = ivC.mtu from rfl, he, if_pos rfl, List.map_cons, List.map_cons, List.map_nil, h1, h2]
 rfl
theorem iv_wf : ∀ x ∈ [y1, y2], (tlvS x).WF := fun x hx => by
 simp only [List.mem_cons, List.not_mem_nil, or_false] at hx
 rcases hx with rfl | rfl
 · have h3 : (tlvM x).1.WF := by rw [h1]; exact (iv_fit 0 (.inl rfl)).2.1
   exact h3
 · have h3 : (tlvM x).1.WF := by rw [h2]; exact (iv_fit 1 (.inr rfl)).2.1
   exact h3
theorem iv_nil : ∀ x ∈ [y1, y2], x.l = [] := fun x hx => by
 simp only [List.mem_cons, List.not_mem_nil, or_false] at hx
 rcases hx with rfl | rfl
 · exact (iv_seq h1).2.2
 · exact (iv_seq2 h2).2
end

set_option maxHeartbeats 2000000 in
theorem live14_spec (F : Fr)  : Spec Tryz.prog 7 #[] [] F (fun v S => v = .bool true ∧ S = []) := by
 refine Spec.intro (N := 99) (args := []) Tryz.func7 rfl rfl (by simp) ?_
 refine Zs fun _ hk1 => Sg 0 E3 <| Zl hk1 <| Zs fun _ hk2 => Qp 0 E2 (QP.const (.agg (Bs.enc ivS).toArray) (fun _ _ => by kernel_rfl)) <| Qp 1 E2 (QP.build (l := IfConf.enc ivC) rfl st65 rfl (by exact ⟨rfl, rfl, rfl, rfl, rfl, (congrArg some (Bs.len _).symm), trivial⟩) rfl) <| Ef 2 E2 (EF.buildSlice1 rfl Tryz.underlying22 z65 zero65 (by simp [Value.cells, IfConf.enc_len]) (by decide) rfl rfl (IfConf.enc_len _) (by decide)) ?_
 rintro _ _ ⟨b9, rfl, rfl⟩
 refine Ef 3 E2 (Zc E2 ce8 TN (fun F' hle hr => newS_spec F' (cs := [ivC]) (a := some ⟨b9, 0, none⟩) (c := 1) (argSl_all (xs := [ivC]) IfConf.enc_len (by have h9 := hr b9 (.cells (IfConf.enc ivC).toArray 65 (0, 0)) Rc; rw [show [ivC].flatMap IfConf.enc = IfConf.enc ivC by simp]; exact h9)) (by simp))) ?_
 rintro _ _ ⟨_, ⟨b0, rfl, rfl⟩, rfl⟩
 refine J.app <| Sg 4 E3 <| Zl hk2 <| Run.seq fun _ hk3 => Zs fun _ hk4 => Mv 0 E3 <| Qp 1 E2 (QP.ptr_eq_nil rfl rfl rfl Tryz.underlying27) <| Mv 2 E3 <| Ym 3 E4 <| Ye 4 E3 (Zc E2 ce11 Tk1 (fun F' hle hr => (upQ F' (b := b0) (i := 0) (M := [newX ivC]) (x := newX ivC) rfl).mono (fun v S hv => (show v = .int .i64 0 ∧ S = [QS b0 [ivX 0 []]] from hv)))) ?_
 rintro _ _ ⟨_, ⟨rfl, rfl⟩, rfl⟩
 refine J.app <| Ye 5 E3 (Zc E2 ce10 TN (fun F' hle hr => num14_spec F' _)) ?_
 rintro _ _ ⟨_, ⟨rfl, rfl⟩, rfl⟩
 refine J.app <| Yp 6 E3 (Zq E3) <| Pf 7 E4 <| Mv 8 E3 <| Ym 9 E4 <| Ye 10 E3 (Zc E2 ce11 Tk1 (fun F' hle hr => (upQ F' (b := b0) (i := 0) (M := [ivX 0 []]) (x := ivX 0 []) rfl).mono (fun v S hv => (show v = .int .i64 8 ∧ S = [QS b0 [ivX 0 []]] from hv)))) ?_
 rintro _ _ ⟨_, ⟨rfl, rfl⟩, rfl⟩
 refine J.app <| Ye 11 E3 (Zc E2 ce10 TN (fun F' hle hr => num14_spec F' _)) ?_
 rintro _ _ ⟨_, ⟨rfl, rfl⟩, rfl⟩
 refine J.app <| Yp 12 E3 (Zq E3) <| Pf 13 E4 <| Zl hk4 <| Zf <| Run.skip <| hk3 _ _ <| Zs fun _ hk5 => Mv 0 E3 <| Ef 1 E2 (Zc E2 ce14 Tk1 (fun F' hle hr => (helloQ F' (b := b0) (i := 0) (M := [ivX 0 []]) (x := ivX 0 []) rfl rfl 0).mono (fun v S hv => (show ∃ y : TlvX, v = .tuple #[.agg (Tlv.enc (tlvS y)).toArray, .int .i64 0] ∧ tlvM y = ivM 0 ∧ S = [QS b0 [ivX 1 []], stA y] from hv)))) ?_
 rintro _ _ ⟨_, ⟨y1, rfl, hy1, rfl⟩, rfl⟩
 refine J.app <| Mv 2 E3 <| Qp 3 E2 (Zx E3) <| Qp 4 E2 (Zx E3) <| Ef 5 E2 (EF.allocA (l := Tlv.enc Tlv.zero) rfl zero49) ?_
 rintro _ _ ⟨b2, rfl, rfl⟩
 refine Ac 6 rfl (EF.storeA rfl rfl rfl z49 (SetL.all (Tlv.enc_len _) (Tlv.enc_len _)) (Tlv.enc_cell _)) ?_
 rintro _ _ rfl
 refine Sg 7 E3 <| Zl hk5 <| Zs fun _ hk6 => Mv 0 E3 <| Ef 1 E2 (Zc E2 ce14 Tk1 (fun F' hle hr => (helloQ F' (b := b0) (i := 0) (M := [ivX 1 []]) (x := ivX 1 []) rfl rfl 0).mono (fun v S hv => (show ∃ y : TlvX, v = .tuple #[.agg (Tlv.enc (tlvS y)).toArray, .int .i64 0] ∧ tlvM y = ivM 1 ∧ S = [QS b0 [ivX 2 []], stA y] from hv)))) ?_
 rintro _ _ ⟨_, ⟨y2, rfl, hy2, rfl⟩, rfl⟩
 refine J.app <| Mv 2 E3 <| Qp 3 E2 (Zx E3) <| Qp 4 E2 (Zx E3) <| Ef 5 E2 (EF.allocA (l := Tlv.enc Tlv.zero) rfl zero49) ?_
 rintro _ _ ⟨b4, rfl, rfl⟩
 refine Ac 6 rfl (EF.storeA rfl rfl rfl z49 (SetL.all (Tlv.enc_len _) (Tlv.enc_len _)) (Tlv.enc_cell _)) ?_
 rintro _ _ rfl
 refine Sg 7 E3 <| Zl hk6 <| Run.seq fun _ hk7 => Run.seq fun _ hk8 => Run.region ?_
 obtain ⟨hq1, hq2, _⟩ := iv_seq hy1
 obtain ⟨hq3, _⟩ := iv_seq2 hy2
 refine Mv 0 E3 <| Ef 1 E2 (Zc E2 ce10 TN (fun F' hle hr => num14_spec F' _)) ?_
 rintro _ _ ⟨_, ⟨rfl, rfl⟩, rfl⟩
 refine J.app <| Mv 2 E3 <| Ef 3 E2 (Zc E2 ce10 TN (fun F' hle hr => num14_spec F' _)) ?_
 rintro _ _ ⟨_, ⟨rfl, rfl⟩, rfl⟩
 refine J.app <| Qp 4 E2 (QP.add64 rfl rfl rfl Og Og) <| Qp 5 E2 (Zq E3) <| J.decF (by decide) ?_
 refine Mv 6 E3 <| Yf 7 E4 f49_3 <| Yq 8 E3 (Z1 E2 g40 (Tlv.sub_seqno _)) ?_
 refine Yp 9 E3 (Zq E3) <| J.decF (by rw [hq1]; decide) ?_
 refine Pf 10 E4 <| Mv 11 E3 <| Yf 12 E4 f49_3 <| Yq 13 E3 (Z1 E2 g40 (Tlv.sub_seqno _)) ?_
 refine Yp 14 E3 (Zq E3) <| J.decF (by rw [hq3]; decide) ?_
 refine Pf 15 E4 <| Mv 16 E3 <| Yf 17 E4 f49_2 <| Yq 18 E3 (Z1 E2 g40 (Tlv.sub_interval _)) ?_
 refine Yp 19 E3 (Zq E3) <| J.decF (by rw [hq2]; decide) ?_
 refine Pf 20 E4 <| Mv 21 E3 <| Ym 22 E4 <| Yp 23 E3 (QP.const (.agg (Bs.enc (⟨[0, 0, 0, 0, 0, 0, 0, 0, 0, 0, 0, 0, 0, 0, 0, 0], rfl⟩ : Bs 16)).toArray) (fun _ _ => by kernel_rfl)) <| Yq 24 E3 (Z0 E2 g49 (Tlv.enc_sub _)) ?_
 refine Yq 25 E3 (Z0 E2 g49 (Tlv.enc_sub _)) ?_
 refine Ye 26 E3 (EF.buildSliceN (enc := tlvE) (xs := [y1, y2]) rfl Tryz.underlying33 z49 zero49 (by simp [Value.cells, Tlv.enc_len]) (by decide) rfl rfl rfl tlvE_len (by decide)) ?_
 rintro _ _ ⟨b61, rfl, rfl⟩
 refine Ye 27 E3 (Zc E2 ce17 Tk1 (fun F' hle hr => (queueQ F' (b := b0) (i := 0) (M := [ivX 2 []]) (x := ivX 2 []) rfl rfl (by decide) (by decide) (fun e he => by cases he) (Bs.zero 16) (ts := [y1, y2]) (a3 := some ⟨b61, 0, none⟩) (c3 := 2) (argSl_all tlvE_len (hr b61 _ Rc)) (fun x hx => tlvIn_nil (iv_nil hy1 hy2 x hx)) (iv_wf hy1 hy2) (fun x hx n hn => by rw [iv_nil hy1 hy2 x hx] at hn; cases hn) (by simp)).mono (fun v S hv => (show v = .int .i64 0 ∧ S = [QS b0 [ivX 2 ivW]] from ⟨by rw [hv.1]; exact congrArg (Value.int .i64) (iv_err hy1 hy2), by rw [hv.2]; show [QS b0 [queueX (ivX 2 []) (Bs.zero 16) [y1, y2]]] = _; rw [iv_queue hy1 hy2]⟩)))) ?_
 rintro _ _ ⟨_, ⟨rfl, rfl⟩, rfl⟩
 refine J.app <| Ye 28 E3 (Zc E2 ce10 TN (fun F' hle hr => num14_spec F' _)) ?_
 rintro _ _ ⟨_, ⟨rfl, rfl⟩, rfl⟩
 refine J.app <| Yp 29 E3 (Zq E3) <| Pf 30 E4 <| Mv 31 E3 <| Ym 32 E4 <| Ye 33 E3 (Zc E2 ce24 Tk1 (fun F' hle hr => (waitingQ F' (b := b0) (i := 0) (M := [ivX 2 ivW]) (x := ivX 2 ivW) rfl (iv_ok _ (List.mem_singleton.2 rfl)).nd (by show 2 ≤ _; decide)).mono (fun v S hv => (show v = .int .i64 2 ∧ S = [QS b0 [ivX 2 ivW]] from hv)))) ?_
 rintro _ _ ⟨_, ⟨rfl, rfl⟩, rfl⟩
 refine J.app <| Yp 34 E3 (Zq E3) <| Pf 35 E4 <| Zl hk8 <| Zf <| Run.skip <| hk7 _ _ <| Zs fun _ hk9 => Mv 0 E3 <| Ef 1 E2 (Zc E2 ce20 Tk1 (fun F' hle hr => flushQ F' (b := b0) (M := [ivX 2 ivW]) iv_ok (by rw [iv_all]; decide) (by decide))) ?_
 rintro vf _ ⟨_, ⟨us, hus, rfl⟩, rfl⟩
 refine J.app <| Sg 2 E3 <| Zl hk9 <| Run.seq fun _ hk10 => Run.region ?_
 rw [iv_all] at hus
 have hul : us.length = 1 := by have := congrArg List.length hus; rwa [List.length_map] at this
 refine Sq.slCase (v := vf) (xs := us) Rc (fun af cf hvf hhf => ?_)
 subst hvf
 obtain ⟨u, hu⟩ : ∃ u, us[Int.toNat 0]? = some u := ⟨_, GE (by show 0 < us.length; omega)⟩
 obtain ⟨bf, of, rfl⟩ := hhf.get (by omega)
 have hum : sentM u = (((0 : Nat) : Int), Bs.zero 16, ivP) := by have h9 := congrArg (fun q => q[0]?) hus; simp only [List.getElem?_map] at h9; rw [show us[0]? = some u from hu] at h9; exact Option.some.inj h9
 have hun : u.y.n = 20 := by rw [u.y.h, show u.y.l = ivP from congrArg (fun s : SentM => s.2.2) hum]; rfl
 refine Mv 0 E3 <| Qp 1 E2 (QP.len rfl rfl rfl Tryz.underlying58) <| Qp 2 E2 (Ze E3) <| J.decT (by omega) ?_
 refine Mv 3 E3 <| Ym 4 E4 <| Yp 5 E3 (QP.indexAddr rfl rfl rfl Tryz.underlying58 z77 Og Og) <| Yf 6 E4 f77_2 <| Yq 7 E3 (QR.loadSlF1 (y := u) rfl rfl g75 sentE_len (SlAt.own sentE_len Rc) hu (Sent.sub_p _)) ?_
 refine Yp 8 E3 (QP.len rfl rfl rfl Tryz.underlying75) <| Yp 9 E3 (Ze E3) <| J.decT (by show (u.y.n : Int) = 20; omega) ?_
 refine Pt 10 E4 <| Mv 11 E3 <| Ym 12 E4 <| Ye 13 E3 (Zc E2 ce13 Tk1 (fun F' hle hr => (downQ F' (b := b0) (i := 0) (M := [resetX (ivX 2 ivW)]) (x := resetX (ivX 2 ivW)) rfl).mono (fun v S hv => (show v = .int .i64 0 ∧ S = [QS b0 [turnX (resetX (ivX 2 ivW)) false]] from hv)))) ?_
 rintro _ _ ⟨_, ⟨rfl, rfl⟩, rfl⟩
 refine J.app <| Ye 14 E3 (Zc E2 ce10 TN (fun F' hle hr => num14_spec F' _)) ?_
 rintro _ _ ⟨_, ⟨rfl, rfl⟩, rfl⟩
 refine J.app <| Yp 15 E3 (Ze E3) <| Pt 16 E4 <| Mv 17 E3 <| Ym 18 E4 <| Yp 19 E3 (QP.const (.agg (Bs.enc (⟨[0, 0, 0, 0, 0, 0, 0, 0, 0, 0, 0, 0, 0, 0, 0, 0], rfl⟩ : Bs 16)).toArray) (fun _ _ => by kernel_rfl)) <| Yq 20 E3 (Z0 E2 g49 (Tlv.enc_sub _)) ?_
 refine Ye 21 E3 (EF.buildSlice1 rfl Tryz.underlying33 z49 zero49 (by simp [Value.cells, Tlv.enc_len]) (by decide) rfl rfl (Tlv.enc_len _) (by decide)) ?_
 rintro _ _ ⟨b94, rfl, rfl⟩
 refine Ye 22 E3 (Zc E2 ce17 Tk1 (fun F' hle hr => queue0Q F' (b := b0) (i := 0) (M := [turnX (resetX (ivX 2 ivW)) false]) (x := turnX (resetX (ivX 2 ivW)) false) rfl (by decide) (Bs.zero 16))) ?_
 rintro _ _ ⟨_, ⟨rfl, rfl⟩, rfl⟩
 refine J.app <| Ye 23 E3 (Zc E2 ce10 TN (fun F' hle hr => num14_spec F' _)) ?_
 rintro _ _ ⟨_, ⟨rfl, rfl⟩, rfl⟩
 exact J.app <| Yp 24 E3 (Ze E3) <| Pt 25 E4 <| Sg 26 E3 <| Zl hk10 <| Run.ret <| Je E2 ⟨rfl, rfl⟩
end Slb
