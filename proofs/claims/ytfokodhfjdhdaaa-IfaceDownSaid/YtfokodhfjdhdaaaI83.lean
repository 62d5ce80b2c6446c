/- I83: a part of the proof that a law of this package holds for every input; no condition. -/
import Derived.Test.YtfokodhfjdhdaaaM2
import Derived.Test.YtfokodhfjdhdaaaI80
namespace Slb
open Go Go.Proofs
set_option maxRecDepth 20000
def ackT (n : Int) : Tlv := { Tlv.zero with type := 3, nonce := n }
def ackX (n : Int) : TlvX := ⟨ackT n, none, 0, []⟩
def ackN (k : Nat) : Int := IntKind.u16.wrap (k : Int)
theorem ackN_in (k : Nat) : 0 ≤ ackN k ∧ ackN k ≤ 65535 := by
  unfold ackN IntKind.wrap
  simp only [show (IntKind.u16.bits : Nat) = 16 from rfl, show IntKind.u16.signed = false from rfl]
  simp
  omega
theorem ack_chk (n : Int) : checkF (ackT n) = 0 := by
  have e : ownF (ackT n) = (ackT n, true) := rfl
  have hs : sameB (ackT n) (ownF (ackT n)).1 = true := by rw [e]; exact sameB_iff.2 rfl
  have h1 : chk1 (ackT n) = false := by unfold chk1; rw [hs, e]; rfl
  have h2 : chk2 (ackT n) = false := rfl
  have h3 : chk3 (ackT n) = false := rfl
  have h4 : pairedB (ackT n) = false := rfl
  unfold checkF
  rw [h1, h2, h3, h4]
  rfl
theorem ack_fit (src : Bs 16) {mtu : Int} (h : 64 ≤ mtu) (n : Int) : fitsF src mtu (tlvS (ackX n)) [] = 0 := by
  show fitsF src mtu (ackT n) [] = 0
  have hl : (addL (toldB src) (ackT n) []).length = 4 := by
    unfold addL ahead
    rw [if_neg (by rintro ⟨h1, _⟩; exact absurd h1 (by show ¬ (3 : Int) = 8; decide))]
    show ([] ++ pieceF (ackT n) []).length = 4
    rw [List.nil_append]
    unfold pieceF
    rw [rawF_len]
    unfold bodyF
    rw [if_neg (by show ¬ (3 : Int) = 2; decide), if_pos (by rfl), nums_len]
    rfl
  unfold fitsF
  rw [ack_chk, if_neg (by decide), if_neg (by rintro ⟨⟨h1, _⟩, _⟩; exact absurd h1 (by show ¬ (3 : Int) = 8; decide)), hl, if_pos (by omega)]
theorem ack_err (src : Bs 16) {mtu : Int} (h : 64 ≤ mtu) (n : Int) : addErr src mtu [ackX n] = 0 := by
  rw [addErr, if_neg (by rw [show (ackX n).l = [] from rfl, ack_fit src h]; decide)]
  rfl
def ackL (k : Nat) : List (Tlv × List Int) := (List.range k).map fun i => tlvM (ackX (ackN i))
def ackW (to : Bs 16) (k : Nat) : WsX := if k = 0 then [] else [(to, ackL k)]
def upX (c : IfConf) (ws : WsX) : OneX := ⟨c, true, 0, ws⟩
theorem ackL_len (k : Nat) : (ackL k).length = k := by unfold ackL; simp
theorem ackL_succ (k : Nat) : ackL (k + 1) = ackL k ++ [tlvM (ackX (ackN k))] := by unfold ackL; rw [List.range_succ, List.map_append]; rfl
theorem ack_queue {c : IfConf} (h : 64 ≤ c.mtu) (to : Bs 16) (k : Nat) : queueX (upX c (ackW to k)) to [ackX (ackN k)] = upX c (ackW to (k + 1)) := by
  have he : addErr (upX c (ackW to k)).c.addr (upX c (ackW to k)).c.mtu [ackX (ackN k)] = 0 := ack_err c.addr h _
  unfold queueX
  rw [he, if_pos rfl]
  show ({ upX c (ackW to k) with ws := _ } : OneX) = _
  have hw : aset (ackW to k) to ((alook (ackW to k) to).getD [] ++ [ackX (ackN k)].map tlvM) = ackW to (k + 1) := by
    unfold ackW
    rw [if_neg (Nat.succ_ne_zero k), ackL_succ]
    by_cases hk : k = 0
    · subst hk; rfl
    · rw [if_neg hk]
      simp [alook, aset]
  rw [show (upX c (ackW to k)).ws = ackW to k from rfl, hw]
  rfl
theorem ack_wait (to : Bs 16) (k : Nat) : waitN (ackW to k) = k := by
  unfold ackW waitN
  split
  · rename_i h; rw [h]; rfl
  · simp [ackL_len]
theorem ack_nd (to : Bs 16) (k : Nat) : ((ackW to k).map (·.1)).Nodup := by unfold ackW; split <;> simp
theorem ack_few (to : Bs 16) {k : Nat} (hk : k ≤ 1000) : ∀ e ∈ ackW to k, e.2.length ≤ 1000000 := fun e he => by
  unfold ackW at he
  split at he
  · cases he
  · obtain rfl := List.mem_singleton.1 he
    rw [ackL_len]; omega
theorem ack_ok {c : IfConf} (hc : IfOk c) (to : Bs 16) {k : Nat} (hk : k ≤ 1000) : OkX (upX c (ackW to k)) := by
  refine ⟨ack_nd to k, hc.mtu.1, hc.mtu.2, ack_few to hk, fun e he p hp => ?_, by show (ackW to k).length ≤ _; unfold ackW; split <;> simp⟩
  have he' : e ∈ ackW to k := he
  unfold ackW at he'
  split at he'
  · cases he'
  · obtain rfl := List.mem_singleton.1 he'
    obtain ⟨i, _, rfl⟩ := List.mem_map.1 (show p ∈ (List.range k).map fun i => tlvM (ackX (ackN i)) from hp)
    have hn := ackN_in i
    exact ⟨ack_fit c.addr hc.mtu.1 (ackN i), by simp [Tlv.WF, Pair.WF, Prefix.WF, tlvM, norm, ackX, ackT, Tlv.zero]; omega, fun n h => by cases h⟩
theorem none_ok {c : IfConf} (hc : IfOk c) : OkX (upX c []) := ack_ok hc (Bs.zero 16) (k := 0) (by decide)
theorem pk_few14 (src : Bs 16) (mtu : Int) (ps : List (Tlv × List Int)) : ∀ s : PackTold × List UInt8 × List (List UInt8), (ps.foldl (pkStep src mtu) s).2.2.length ≤ s.2.2.length + ps.length := by
  induction ps with
  | nil => intro s; simp
  | cons p ps ih =>
    intro s
    have h1 := ih (pkStep src mtu s p)
    have h2 : (pkStep src mtu s p).2.2.length ≤ s.2.2.length + 1 := by
      unfold pkStep
      split
      · show s.2.2.length ≤ _; omega
      · simp
    simp only [List.foldl_cons, List.length_cons]
    omega
theorem flushF_few (src : Bs 16) (mtu : Int) (ps : List (Tlv × List Int)) : (flushF src mtu ps).length ≤ ps.length + 1 ∧ (flushF src mtu ps = [] ↔ ps = []) := by
  unfold flushF
  by_cases h : ps = []
  · rw [if_pos h]
    exact ⟨by simp, iff_of_true rfl h⟩
  · rw [if_neg h]
    refine ⟨?_, iff_of_false (by simp) h⟩
    have h1 := pk_few14 src mtu ps (toldB src, [], [])
    simp only [List.length_nil] at h1
    rw [List.length_append, List.length_singleton]
    unfold pkRun
    omega
theorem srt_none : srtA [] = [] := by unfold srtA; simp
theorem down_flush (xa xb : IfConf) (to : Bs 16) (n : Nat) : ∃ ps : List (List UInt8), flushS 0 [upX xa [], upX xb (ackW to n)] = ps.map (fun p => (((1 : Nat) : Int), to, p)) ∧ (ps = [] ↔ n = 0) ∧ ps.length ≤ n + 1 := by
  have e : flushS 0 [upX xa [], upX xb (ackW to n)] = flushI 0 (upX xa []) ++ (flushI 1 (upX xb (ackW to n)) ++ []) := rfl
  have e0 : flushI 0 (upX xa []) = [] := by
    unfold flushI
    rw [show ((upX xa []).ws.map (·.1)) = [] from rfl, srt_none]
    rfl
  rw [e, e0, List.nil_append, List.append_nil]
  unfold flushI
  by_cases hn : n = 0
  · subst hn
    rw [show ((upX xb (ackW to 0)).ws.map (·.1)) = [] from rfl, srt_none]
    exact ⟨[], rfl, by simp, by simp⟩
  · have hw : (upX xb (ackW to n)).ws = [(to, ackL n)] := if_neg hn
    have hl : (alook (upX xb (ackW to n)).ws to).getD [] = ackL n := by rw [hw]; simp [alook]
    rw [hw, show ([(to, ackL n)].map (·.1)) = [to] from rfl, srt_one]
    refine ⟨flushF xb.addr xb.mtu (ackL n), ?_, ?_, ?_⟩
    · show outI 1 (upX xb (ackW to n)) to ++ [] = _
      rw [List.append_nil]
      unfold outI
      rw [hl]
      rfl
    · rw [(flushF_few _ _ _).2]
      constructor
      · intro h; rw [← ackL_len n, h]; rfl
      · intro h; exact absurd h hn
    · have := (flushF_few xb.addr xb.mtu (ackL n)).1
      rwa [ackL_len] at this

set_option maxHeartbeats 2000000 in
theorem law_down (F : Fr) (xa xb : IfConf) (to : Bs 16) (n : Int)  : Spec Try.prog 3 #[.agg (IfConf.enc xa).toArray, .agg (IfConf.enc xb).toArray, .agg (Bs.enc to).toArray, .int .i64 n] [] F (fun v S => v = .bool true ∧ S = []) := by
 refine Spec.intro (N := 134) (args := [.agg (IfConf.enc xa).toArray, .agg (IfConf.enc xb).toArray, .agg (Bs.enc to).toArray, .int .i64 n]) Try.func3 rfl rfl (by simp) ?_
 refine Run.seq fun k1 hk1 => Run.region ?_
 show Sq _ _ _ [0, 1, 2, 3] _ _ _ _
 refine Ef 0 rfl rfl (EF.boxA rfl rfl) ?_
 rintro _ _ ⟨b4, rfl, rfl⟩
 refine Ef 1 rfl rfl (EF.boxA rfl rfl) ?_
 rintro _ _ ⟨b5, rfl, rfl⟩
 refine Ef 2 rfl rfl (EF.boxA rfl rfl) ?_
 rintro _ _ ⟨b6, rfl, rfl⟩
 refine Sg 3 rfl rfl rfl <| Sq.nil <| hk1 _ _ <| Run.seq fun k2 hk2 => Run.seq fun k3 hk3 => Run.region ?_
 show Sq _ _ _ [0, 1, 2, 3, 4, 5, 6, 7, 8, 9, 10, 11, 12] _ _ _ _
 refine Qq 0 rfl rfl (QR.load rfl rfl g27 (IfConf.enc_sub _)) ?_
 refine Qq 1 rfl rfl (QR.load rfl rfl g27 (IfConf.enc_sub _)) ?_
 refine Ef 2 rfl rfl (EF.buildSliceN (enc := IfConf.enc) (xs := [xa, xb]) rfl Try.underlying29 z27 zero27 (by simp [Value.cells, IfConf.enc_len]) (by decide) rfl rfl rfl IfConf.enc_len (by decide)) ?_
 rintro _ _ ⟨b15, rfl, rfl⟩
 refine Ef 3 rfl rfl (EF.call rfl ce6 rfl Takes.nil (fun F' hle hr => may_spec F' (cs := [xa, xb]) (a := some ⟨b15, 0, none⟩) (c := 2) (by simp) (argSl_all IfConf.enc_len (hr b15 _ Rc)) (by simp))) ?_
 rintro _ _ ⟨_, ⟨r16, rfl, hr16, rfl⟩, rfl⟩
 refine J.app ?_
 refine J.caseB (fun c16 => ?_) (fun c16 => ?_)
 ·refine Qp 4 rfl rfl (QP.not rfl rfl) <| Mv 5 rfl rfl rfl <| Ym 6 rfl rfl rfl rfl <| Yp 7 rfl rfl rfl (QP.lss rfl rfl rfl) <| J.caseD (fun c20 => ?_) (fun c20 => ?_)
  ·refine Pf 8 rfl rfl rfl rfl <| Mv 9 rfl rfl rfl <| Sk 10 rfl rfl rfl <| Sk 11 rfl rfl rfl <| Pt 12 rfl rfl rfl rfl <| Sq.nil <| hk3 _ _ <| Run.cond_t rfl <| Run.seq fun k4 hk4 => Run.region ?_
   show Sq _ _ _ [0, 1] _ _ _ _
   refine Ef 0 rfl rfl (EF.call rfl ce7 rfl Takes.nil (fun F' hle hr => live14_spec F')) ?_
   rintro _ _ ⟨_, ⟨rfl, rfl⟩, rfl⟩
   refine J.app ?_
   refine Sg 1 rfl rfl rfl <| Sq.nil <| hk4 _ _ <| Run.ret ?_
   exact J.ends (res_tmp rfl rfl) Takes.nil ⟨rfl, rfl⟩
  ·refine Pf 8 rfl rfl rfl rfl <| Mv 9 rfl rfl rfl <| Ym 10 rfl rfl rfl rfl <| Yp 11 rfl rfl rfl (QP.gtr rfl rfl rfl) <| J.caseD (fun c24 => ?_) (fun c24 => ?_)
   ·refine Pf 12 rfl rfl rfl rfl <| Sq.nil <| hk3 _ _ <| Run.cond_t rfl <| Run.seq fun k5 hk5 => Run.region ?_
    show Sq _ _ _ [0, 1] _ _ _ _
    refine Ef 0 rfl rfl (EF.call rfl ce7 rfl Takes.nil (fun F' hle hr => live14_spec F')) ?_
    rintro _ _ ⟨_, ⟨rfl, rfl⟩, rfl⟩
    refine J.app ?_
    refine Sg 1 rfl rfl rfl <| Sq.nil <| hk5 _ _ <| Run.ret ?_
    exact J.ends (res_tmp rfl rfl) Takes.nil ⟨rfl, rfl⟩
   ·refine Pf 12 rfl rfl rfl rfl <| Sq.nil <| hk3 _ _ <| Run.cond_f rfl <| Run.skip <| hk2 _ _ <| Run.seq fun k6 hk6 => Run.region ?_
    show Sq _ _ _ [0, 1, 2, 3, 4] _ _ _ _
    obtain ⟨_, hok2⟩ := hr16 c16
    have hka : IfOk xa := hok2 xa (by simp)
    have hkb : IfOk xb := hok2 xb (by simp)
    obtain ⟨N, rfl⟩ := Int.eq_ofNat_of_zero_le (show 0 ≤ n by have h9 : ¬ n < 0 := c20; omega)
    have hN : N ≤ 120 := by have h9 : ¬ ((N : Nat) : Int) > 120 := c24; omega
    refine Qq 0 rfl rfl (QR.load rfl rfl g27 (IfConf.enc_sub _)) ?_
    refine Qq 1 rfl rfl (QR.load rfl rfl g27 (IfConf.enc_sub _)) ?_
    refine Ef 2 rfl rfl (EF.buildSliceN (enc := IfConf.enc) (xs := [xa, xb]) rfl Try.underlying29 z27 zero27 (by simp [Value.cells, IfConf.enc_len]) (by decide) rfl rfl rfl IfConf.enc_len (by decide)) ?_
    rintro _ _ ⟨b29, rfl, rfl⟩
    refine Ef 3 rfl rfl (EF.call rfl ce8 rfl Takes.nil (fun F' hle hr => newS_spec F' (cs := [xa, xb]) (a := some ⟨b29, 0, none⟩) (c := 2) (argSl_all IfConf.enc_len (hr b29 _ Rc)) (by simp))) ?_
    rintro _ _ ⟨_, ⟨b0, rfl, rfl⟩, rfl⟩
    refine J.app ?_
    refine Sg 4 rfl rfl rfl <| Sq.nil <| hk6 _ _ <| Run.seq fun k7 hk7 => Run.seq fun k8 hk8 => Run.region ?_
    show Sq _ _ _ [0, 1, 2, 3, 4, 5, 6, 7, 8, 9, 10, 11, 12, 13] _ _ _ _
    refine Mv 0 rfl rfl rfl <| Qp 1 rfl rfl (QP.ptr_eq_nil rfl rfl rfl Try.underlying31) <| Mv 2 rfl rfl rfl <| Ym 3 rfl rfl rfl rfl <| Ye 4 rfl rfl rfl (EF.call rfl ce10 rfl Tk1 (fun F' hle hr => (upQ F' (b := b0) (i := 0) (M := [newX xa, newX xb]) (x := newX xa) rfl).mono (fun v S hv => (show v = .int .i64 0 ∧ S = [QS b0 [upX xa [], newX xb]] from hv)))) ?_
    rintro _ _ ⟨_, ⟨rfl, rfl⟩, rfl⟩
    refine J.app ?_
    refine Ye 5 rfl rfl rfl (EF.call rfl ce9 rfl Takes.nil (fun F' hle hr => num14_spec F' _)) ?_
    rintro _ _ ⟨_, ⟨rfl, rfl⟩, rfl⟩
    refine J.app ?_
    refine Yp 6 rfl rfl rfl (QP.neq rfl rfl rfl) <| Pf 7 rfl rfl rfl rfl <| Mv 8 rfl rfl rfl <| Ym 9 rfl rfl rfl rfl <| Ye 10 rfl rfl rfl (EF.call rfl ce10 rfl Tk1 (fun F' hle hr => (upQ F' (b := b0) (i := 1) (M := [upX xa [], newX xb]) (x := newX xb) rfl).mono (fun v S hv => (show v = .int .i64 0 ∧ S = [QS b0 [upX xa [], upX xb []]] from hv)))) ?_
    rintro _ _ ⟨_, ⟨rfl, rfl⟩, rfl⟩
    refine J.app ?_
    refine Ye 11 rfl rfl rfl (EF.call rfl ce9 rfl Takes.nil (fun F' hle hr => num14_spec F' _)) ?_
    rintro _ _ ⟨_, ⟨rfl, rfl⟩, rfl⟩
    refine J.app ?_
    refine Yp 12 rfl rfl rfl (QP.neq rfl rfl rfl) <| Pf 13 rfl rfl rfl rfl <| Sq.nil <| hk8 _ _ <| Run.cond_f rfl <| Run.skip <| hk7 _ _ <| Run.seq fun k9 hk9 => Run.seq fun k10 hk10 => Run.region ?_
    show Sq _ _ _ [0] _ _ _ _
    refine Sg 0 rfl rfl rfl <| Sq.nil <| hk10 _ _ <| Run.block <| Run.loop1 (fun (k : Nat) => k ≤ N) (fun k => .cons 3 (.int .i64 ((N : Nat) : Int)) (.cons 6 (fp b6) (.cons 9 (.pointer (some ⟨b0, 0, none⟩)) (.cons 10 (.int .i64 k) (.nil))))) (fun k => [QS b0 [(upX xa (ackW to k)), (upX xb (ackW to k))], blk b6 (Bs.enc to) 23]) (fun k => N - k) (0) (Nat.zero_le _) ?_ ?_
    ·exact fun _ j => J.envJ (J.keep Tk2 j) ⟨rfl, rfl, rfl, rfl, trivial⟩
    rintro k hkle kl11 hl11
    refine Run.seq fun k12 hk12 => Run.seq fun k13 hk13 => Run.region ?_
    show Sq _ _ _ [0, 1, 2] _ _ _ _
    refine Mv 0 rfl rfl rfl <| Mv 1 rfl rfl rfl <| Qp 2 rfl rfl (QP.lss rfl rfl rfl) <| J.caseD (fun c47 => ?_) (fun c47 => ?_)
    ·refine Sq.nil <| hk13 _ _ <| Run.cond_t rfl <| Run.skip <| hk12 _ _ <| Run.seq fun k14 hk14 => Run.block <| Run.seq fun k15 hk15 => Run.region ?_
     show Sq _ _ _ [0, 1, 2, 3, 4, 5, 6] _ _ _ _
     refine Mv 0 rfl rfl rfl <| Qq 1 rfl rfl (QR.load rfl rfl g23 (Bs.sub _)) ?_
     refine Mv 2 rfl rfl rfl <| Qp 3 rfl rfl (QP.conv rfl rfl Try.underlying3 Try.underlying37) <| Qp 4 rfl rfl (QP.build (l := Tlv.enc (ackT (ackN k))) rfl st46 rfl (by exact ⟨rfl, rfl, trivial⟩) rfl) <| Ef 5 rfl rfl (EF.buildSlice1 rfl Try.underlying78 z46 zero46 (by simp [Value.cells, Tlv.enc_len]) (by decide) rfl rfl (Tlv.enc_len _) (by decide)) ?_
     rintro _ _ ⟨b55, rfl, rfl⟩
     refine Ef 6 rfl rfl (EF.call rfl ce11 rfl Tk1 (fun F' hle hr => (queueQ F' (b := b0) (i := 0) (M := [(upX xa (ackW to k)), (upX xb (ackW to k))]) (x := (upX xa (ackW to k))) rfl rfl hka.mtu.1 hka.mtu.2 (ack_few to (by omega)) to (ts := [ackX (ackN k)]) (a3 := some ⟨b55, 0, none⟩) (c3 := 1) (argSl_all (xs := [ackX (ackN k)]) tlvE_len (by have h9 := hr b55 (.cells (Tlv.enc (ackT (ackN k))).toArray 46 (0, 0)) Rc; rw [show [ackX (ackN k)].flatMap tlvE = Tlv.enc (ackT (ackN k)) by rw [List.flatMap_cons, List.flatMap_nil, List.append_nil]; rfl]; exact h9)) (fun x hx => by rw [List.mem_singleton.1 hx]; exact tlvIn_nil rfl) (fun x hx => by rw [List.mem_singleton.1 hx]; have hn := ackN_in k; simp [Tlv.WF, Pair.WF, Prefix.WF, ackX, ackT, Tlv.zero]; omega) (fun x hx n hn => by rw [List.mem_singleton.1 hx] at hn; cases hn) (by simp)).mono (fun v S hv => (show v = .int .i64 0 ∧ S = [QS b0 [(upX xa (ackW to (k + 1))), (upX xb (ackW to k))]] from ⟨by rw [hv.1]; exact congrArg (Value.int .i64) (ack_err _ hka.mtu.1 _), by rw [hv.2]; show [QS b0 [(queueX (upX xa (ackW to k)) to [ackX (ackN k)]), (upX xb (ackW to k))]] = _; rw [ack_queue hka.mtu.1]⟩)))) ?_
     rintro _ _ ⟨_, ⟨rfl, rfl⟩, rfl⟩
     refine J.app ?_
     refine Sq.nil <| hk15 _ _ <| Run.region ?_
     show Sq _ _ _ [0, 1, 2, 3, 4, 5, 6] _ _ _ _
     refine Mv 0 rfl rfl rfl <| Qq 1 rfl rfl (QR.load rfl rfl g23 (Bs.sub _)) ?_
     refine Mv 2 rfl rfl rfl <| Qp 3 rfl rfl (QP.conv rfl rfl Try.underlying3 Try.underlying37) <| Qp 4 rfl rfl (QP.build (l := Tlv.enc (ackT (ackN k))) rfl st46 rfl (by exact ⟨rfl, rfl, trivial⟩) rfl) <| Ef 5 rfl rfl (EF.buildSlice1 rfl Try.underlying78 z46 zero46 (by simp [Value.cells, Tlv.enc_len]) (by decide) rfl rfl (Tlv.enc_len _) (by decide)) ?_
     rintro _ _ ⟨b62, rfl, rfl⟩
     refine Ef 6 rfl rfl (EF.call rfl ce11 rfl Tk1 (fun F' hle hr => (queueQ F' (b := b0) (i := 1) (M := [(upX xa (ackW to (k + 1))), (upX xb (ackW to k))]) (x := (upX xb (ackW to k))) rfl rfl hkb.mtu.1 hkb.mtu.2 (ack_few to (by omega)) to (ts := [ackX (ackN k)]) (a3 := some ⟨b62, 0, none⟩) (c3 := 1) (argSl_all (xs := [ackX (ackN k)]) tlvE_len (by have h9 := hr b62 (.cells (Tlv.enc (ackT (ackN k))).toArray 46 (0, 0)) Rc; rw [show [ackX (ackN k)].flatMap tlvE = Tlv.enc (ackT (ackN k)) by rw [List.flatMap_cons, List.flatMap_nil, List.append_nil]; rfl]; exact h9)) (fun x hx => by rw [List.mem_singleton.1 hx]; exact tlvIn_nil rfl) (fun x hx => by rw [List.mem_singleton.1 hx]; have hn := ackN_in k; simp [Tlv.WF, Pair.WF, Prefix.WF, ackX, ackT, Tlv.zero]; omega) (fun x hx n hn => by rw [List.mem_singleton.1 hx] at hn; cases hn) (by simp)).mono (fun v S hv => (show v = .int .i64 0 ∧ S = [QS b0 [(upX xa (ackW to (k + 1))), (upX xb (ackW to (k + 1)))]] from ⟨by rw [hv.1]; exact congrArg (Value.int .i64) (ack_err _ hkb.mtu.1 _), by rw [hv.2]; show [QS b0 [(upX xa (ackW to (k + 1))), (queueX (upX xb (ackW to k)) to [ackX (ackN k)])]] = _; rw [ack_queue hkb.mtu.1]⟩)))) ?_
     rintro _ _ ⟨_, ⟨rfl, rfl⟩, rfl⟩
     refine J.app ?_
     refine Sq.nil <| hk14 _ _ <| Run.region ?_
     show Sq _ _ _ [0, 1, 2] _ _ _ _
     refine Mv 0 rfl rfl rfl <| Qp 1 rfl rfl (QP.add64 rfl rfl rfl Og Og) <| Sg 2 rfl rfl rfl <| Sq.nil ?_
     exact J.envJ (J.keep Tk2 (hl11 (k + 1) (by omega) (by omega))) ⟨rfl, rfl, rfl, rfl, trivial⟩
    ·refine Sq.nil <| hk13 _ _ <| Run.cond_f rfl <| Run.exit rfl ?_
     refine hk9 _ _ <| Run.seq fun k16 hk16 => Run.seq fun k17 hk17 => Run.region ?_
     show Sq _ _ _ [0, 1, 2, 3, 4, 5, 6, 7, 8, 9, 10, 11, 12, 13, 14, 15, 16, 17, 18, 19, 20, 21, 22, 23, 24, 25, 26, 27, 28, 29, 30, 31, 32] _ _ _ _
     obtain rfl : N = k := by omega
     refine Mv 0 rfl rfl rfl <| Ef 1 rfl rfl (EF.call rfl ce12 rfl Tk1 (fun F' hle hr => (waitingQ F' (b := b0) (i := 0) (M := [(upX xa (ackW to N)), (upX xb (ackW to N))]) (x := (upX xa (ackW to N))) rfl (ack_nd to N) (by show waitN (ackW to N) ≤ _; rw [ack_wait]; omega)).mono (fun v S hv => (show v = .int .i64 ((N : Nat) : Int) ∧ S = [QS b0 [(upX xa (ackW to N)), (upX xb (ackW to N))]] from ⟨by rw [hv.1]; exact congrArg (fun q : Nat => Value.int .i64 (q : Int)) (ack_wait to N), hv.2⟩)))) ?_
     rintro _ _ ⟨_, ⟨rfl, rfl⟩, rfl⟩
     refine J.app ?_
     refine Mv 2 rfl rfl rfl <| Qp 3 rfl rfl (QP.neq rfl rfl rfl) <| J.decF (by simp) ?_
     refine Mv 4 rfl rfl rfl <| Ym 5 rfl rfl rfl rfl <| Ye 6 rfl rfl rfl (EF.call rfl ce12 rfl Tk1 (fun F' hle hr => (waitingQ F' (b := b0) (i := 1) (M := [(upX xa (ackW to N)), (upX xb (ackW to N))]) (x := (upX xb (ackW to N))) rfl (ack_nd to N) (by show waitN (ackW to N) ≤ _; rw [ack_wait]; omega)).mono (fun v S hv => (show v = .int .i64 ((N : Nat) : Int) ∧ S = [QS b0 [(upX xa (ackW to N)), (upX xb (ackW to N))]] from ⟨by rw [hv.1]; exact congrArg (fun q : Nat => Value.int .i64 (q : Int)) (ack_wait to N), hv.2⟩)))) ?_
     rintro _ _ ⟨_, ⟨rfl, rfl⟩, rfl⟩
     refine J.app ?_
     refine Ym 7 rfl rfl rfl rfl <| Yp 8 rfl rfl rfl (QP.neq rfl rfl rfl) <| J.decF (by simp) ?_
     refine Pf 9 rfl rfl rfl rfl <| Mv 10 rfl rfl rfl <| Ym 11 rfl rfl rfl rfl <| Ye 12 rfl rfl rfl (EF.call rfl ce13 rfl Tk1 (fun F' hle hr => (downQ F' (b := b0) (i := 0) (M := [(upX xa (ackW to N)), (upX xb (ackW to N))]) (x := (upX xa (ackW to N))) rfl).mono (fun v S hv => (show v = .int .i64 0 ∧ S = [QS b0 [newX xa, (upX xb (ackW to N))]] from hv)))) ?_
     rintro _ _ ⟨_, ⟨rfl, rfl⟩, rfl⟩
     refine J.app ?_
     refine Ye 13 rfl rfl rfl (EF.call rfl ce9 rfl Takes.nil (fun F' hle hr => num14_spec F' _)) ?_
     rintro _ _ ⟨_, ⟨rfl, rfl⟩, rfl⟩
     refine J.app ?_
     refine Yp 14 rfl rfl rfl (QP.neq rfl rfl rfl) <| Pf 15 rfl rfl rfl rfl <| Mv 16 rfl rfl rfl <| Ym 17 rfl rfl rfl rfl <| Ye 18 rfl rfl rfl (EF.call rfl ce12 rfl Tk1 (fun F' hle hr => (waitingQ F' (b := b0) (i := 0) (M := [newX xa, (upX xb (ackW to N))]) (x := newX xa) rfl (by simp [newX, resetX]) (by show (0 : Nat) ≤ _; decide)).mono (fun v S hv => (show v = .int .i64 0 ∧ S = [QS b0 [newX xa, (upX xb (ackW to N))]] from ⟨hv.1, hv.2⟩)))) ?_
     rintro _ _ ⟨_, ⟨rfl, rfl⟩, rfl⟩
     refine J.app ?_
     refine Yp 19 rfl rfl rfl (QP.neq rfl rfl rfl) <| Pf 20 rfl rfl rfl rfl <| Mv 21 rfl rfl rfl <| Ym 22 rfl rfl rfl rfl <| Ye 23 rfl rfl rfl (EF.call rfl ce12 rfl Tk1 (fun F' hle hr => (waitingQ F' (b := b0) (i := 1) (M := [newX xa, (upX xb (ackW to N))]) (x := (upX xb (ackW to N))) rfl (ack_nd to N) (by show waitN (ackW to N) ≤ _; rw [ack_wait]; omega)).mono (fun v S hv => (show v = .int .i64 ((N : Nat) : Int) ∧ S = [QS b0 [newX xa, (upX xb (ackW to N))]] from ⟨by rw [hv.1]; exact congrArg (fun q : Nat => Value.int .i64 (q : Int)) (ack_wait to N), hv.2⟩)))) ?_
     rintro _ _ ⟨_, ⟨rfl, rfl⟩, rfl⟩
     refine J.app ?_
     refine Ym 24 rfl rfl rfl rfl <| Yp 25 rfl rfl rfl (QP.neq rfl rfl rfl) <| J.decF (by simp) ?_
     refine Pf 26 rfl rfl rfl rfl <| Mv 27 rfl rfl rfl <| Ym 28 rfl rfl rfl rfl <| Ye 29 rfl rfl rfl (EF.call rfl ce10 rfl Tk1 (fun F' hle hr => (upQ F' (b := b0) (i := 0) (M := [newX xa, (upX xb (ackW to N))]) (x := newX xa) rfl).mono (fun v S hv => (show v = .int .i64 0 ∧ S = [QS b0 [upX xa [], (upX xb (ackW to N))]] from hv)))) ?_
     rintro _ _ ⟨_, ⟨rfl, rfl⟩, rfl⟩
     refine J.app ?_
     refine Ye 30 rfl rfl rfl (EF.call rfl ce9 rfl Takes.nil (fun F' hle hr => num14_spec F' _)) ?_
     rintro _ _ ⟨_, ⟨rfl, rfl⟩, rfl⟩
     refine J.app ?_
     refine Yp 31 rfl rfl rfl (QP.neq rfl rfl rfl) <| Pf 32 rfl rfl rfl rfl <| Sq.nil <| hk17 _ _ <| Run.cond_f rfl <| Run.skip <| hk16 _ _ <| Run.seq fun k18 hk18 => Run.region ?_
     show Sq _ _ _ [0, 1, 2] _ _ _ _
     obtain ⟨ps, hpf, hpn, hpl⟩ := down_flush xa xb to N
     refine Mv 0 rfl rfl rfl <| Ef 1 rfl rfl (EF.call rfl ce14 rfl Tk1 (fun F' hle hr => flushQ F' (b := b0) (M := [upX xa [], (upX xb (ackW to N))]) (fun x hx => by simp only [List.mem_cons, List.not_mem_nil, or_false] at hx; rcases hx with rfl | rfl; exact none_ok hka; exact ack_ok hkb to (by omega)) (by rw [hpf, List.length_map]; omega) (by simp))) ?_
     rintro vf _ ⟨_, ⟨us, hus, rfl⟩, rfl⟩
     refine J.app ?_
     refine Sg 2 rfl rfl rfl <| Sq.nil <| hk18 _ _ <| Run.seq fun k19 hk19 => Run.seq fun k20 hk20 => Run.region ?_
     show Sq _ _ _ [0] _ _ _ _
     rw [hpf] at hus
     have hul : us.length = ps.length := by have := congrArg List.length hus; simpa using this
     refine Sq.slCase (v := vf) (xs := us) Rc (fun af cf hvf hhf => ?_)
     subst hvf
     refine Sg 0 rfl rfl rfl <| Sq.nil <| hk20 _ _ <| Run.block <| Run.loop1 (fun (i : Nat) => i ≤ us.length) (fun i => .cons 3 (.int .i64 ((N : Nat) : Int)) (.cons 6 (fp b6) (.cons 9 (.pointer (some ⟨b0, 0, none⟩)) (.cons 11 (.slice af us.length cf) (.cons 12 (.int .i64 i) (.nil)))))) (fun i => [QS b0 [resetX (upX xa []), resetX (upX xb (ackW to N))], slA 52 18 sentE (.slice af us.length cf) us, blk b6 (Bs.enc to) 23]) (fun i => us.length - i) (0) (Nat.zero_le _) ?_ ?_
     ·exact fun _ j => J.envJ (J.keep Tk3 j) ⟨rfl, rfl, rfl, rfl, rfl, trivial⟩
     rintro i hile kl21 hl21
     refine Run.seq fun k22 hk22 => Run.seq fun k23 hk23 => Run.region ?_
     show Sq _ _ _ [0, 1, 2, 3] _ _ _ _
     refine Mv 0 rfl rfl rfl <| Mv 1 rfl rfl rfl <| Qp 2 rfl rfl (QP.len rfl rfl rfl Try.underlying48) <| Qp 3 rfl rfl (QP.lss rfl rfl rfl) <| J.caseD (fun c102 => ?_) (fun c102 => ?_)
     ·refine Sq.nil <| hk23 _ _ <| Run.cond_t rfl <| Run.skip <| hk22 _ _ <| Run.seq fun k24 hk24 => Run.block <| Run.seq fun k25 hk25 => Run.regionD (M := [0, 0, 3, 7, 15, 31, 63, 127, 127, 511, 1023, 2047, 127, 8191, 16383]) (q := 32767) (r := 6160) Kr ?_
      obtain ⟨u, hu⟩ : ∃ u, us[i]? = some u := ⟨_, List.getElem?_eq_getElem (by omega)⟩
      obtain ⟨bf, of, rfl⟩ := hhf.get (by omega)
      have huk : u.k = 1 ∧ u.to = to := by have h9 := congrArg (fun q => q[i]?) hus; simp only [List.getElem?_map, hu, Option.map_some] at h9; cases hq : ps[i]? with | none => rw [hq] at h9; cases h9 | some p => rw [hq] at h9; have h8 := Option.some.inj h9; exact ⟨congrArg (fun s : SentM => s.1) h8, congrArg (fun s : SentM => s.2.1) h8⟩
      refine Dp 0 rfl rfl (QP.move rfl rfl) <| Dp 1 rfl rfl (QP.move rfl rfl) <| Dp 2 rfl rfl (QP.indexAddr rfl rfl rfl Try.underlying48 z52 Og Og) <| Dp 3 rfl rfl (QP.fieldAddr rfl rfl f52_0) <| Dr 4 rfl rfl (QR.loadSlF1 (y := u) rfl rfl g3 sentE_len (SlAt.own sentE_len Rc) hu (Sent.sub_if_ _)) ?_
      refine Dp 5 rfl rfl (QP.neq rfl rfl rfl) <| J.decF (by rw [show (u.k : Int) = 1 from huk.1]; simp) ?_
      refine Dp 6 rfl rfl (QP.move rfl rfl) <| Dy 7 rfl rfl rfl (QP.move rfl rfl) <| Dy 8 rfl rfl rfl (QP.move rfl rfl) <| Dy 9 rfl rfl rfl (QP.indexAddr rfl rfl rfl Try.underlying48 z52 Og Og) <| Dy 10 rfl rfl rfl (QP.fieldAddr rfl rfl f52_1) <| Dz 11 rfl rfl rfl (QR.loadSlF (y := u) rfl rfl g23 sentE_len (SlAt.own sentE_len Rc) hu (Sent.sub_to _)) ?_
      refine Dz 12 rfl rfl rfl (QR.load rfl rfl g23 (Bs.sub _)) ?_
      refine Dy 13 rfl rfl rfl (QP.neq_agg eq23 rfl rfl rfl) <| J.decF (by rw [huk.2]; simp) ?_
      refine Dp 14 rfl rfl (QP.pick_f rfl rfl rfl) <| Dn <| hk25 _ _ <| Run.cond_f rfl <| Run.skip <| hk24 _ _ <| Run.region ?_
      show Sq _ _ _ [0, 1, 2] _ _ _ _
      refine Mv 0 rfl rfl rfl <| Qp 1 rfl rfl (QP.add64 rfl rfl rfl Og Og) <| Sg 2 rfl rfl rfl <| Sq.nil ?_
      exact J.envJ (J.keep Tk3 (hl21 (i + 1) (by omega) (by omega))) ⟨rfl, rfl, rfl, rfl, rfl, trivial⟩
     ·refine Sq.nil <| hk23 _ _ <| Run.cond_f rfl <| Run.exit rfl ?_
      refine hk19 _ _ <| Run.seq fun k26 hk26 => Run.region ?_
      show Sq _ _ _ [0, 1, 2, 3, 4, 5, 6, 7, 8, 9, 10, 11, 12, 13, 14] _ _ _ _
      refine Mv 0 rfl rfl rfl <| Qp 1 rfl rfl (QP.len rfl rfl rfl Try.underlying48) <| Qp 2 rfl rfl (QP.gtr rfl rfl rfl) <| Mv 3 rfl rfl rfl <| Qp 4 rfl rfl (QP.gtr rfl rfl rfl) <| Qp 5 rfl rfl (QP.eqlB rfl rfl rfl Try.underlying4) <| J.boolT (by rw [beq_iff_eq, decide_eq_decide]; have h9 : ps.length = 0 ↔ N = 0 := (by rw [List.length_eq_zero_iff]; exact hpn); omega) ?_
      refine Mv 6 rfl rfl rfl <| Ym 7 rfl rfl rfl rfl <| Ye 8 rfl rfl rfl (EF.call rfl ce12 rfl Tk1 (fun F' hle hr => (waitingQ F' (b := b0) (i := 1) (M := [(resetX (upX xa [])), (resetX (upX xb (ackW to N)))]) (x := (resetX (upX xb (ackW to N)))) rfl (by simp [newX, resetX]) (by show (0 : Nat) ≤ _; decide)).mono (fun v S hv => (show v = .int .i64 0 ∧ S = [QS b0 [(resetX (upX xa [])), (resetX (upX xb (ackW to N)))]] from ⟨hv.1, hv.2⟩)))) ?_
      rintro _ _ ⟨_, ⟨rfl, rfl⟩, rfl⟩
      refine J.app ?_
      refine Yp 9 rfl rfl rfl (QP.eql rfl rfl rfl) <| Pt 10 rfl rfl rfl rfl <| Mv 11 rfl rfl rfl <| Ye 12 rfl rfl rfl (EF.call rfl ce7 rfl Takes.nil (fun F' hle hr => live14_spec F')) ?_
      rintro _ _ ⟨_, ⟨rfl, rfl⟩, rfl⟩
      refine J.app ?_
      refine Pt 13 rfl rfl rfl rfl <| Sg 14 rfl rfl rfl <| Sq.nil <| hk26 _ _ <| Run.ret ?_
      exact J.ends (res_tmp rfl rfl) Takes.nil ⟨rfl, rfl⟩
 ·refine Qp 4 rfl rfl (QP.not rfl rfl) <| Mv 5 rfl rfl rfl <| Sk 6 rfl rfl rfl <| Sk 7 rfl rfl rfl <| Pt 8 rfl rfl rfl rfl <| Mv 9 rfl rfl rfl <| Sk 10 rfl rfl rfl <| Sk 11 rfl rfl rfl <| Pt 12 rfl rfl rfl rfl <| Sq.nil <| hk3 _ _ <| Run.cond_t rfl <| Run.seq fun k27 hk27 => Run.region ?_
  show Sq _ _ _ [0, 1] _ _ _ _
  refine Ef 0 rfl rfl (EF.call rfl ce7 rfl Takes.nil (fun F' hle hr => live14_spec F')) ?_
  rintro _ _ ⟨_, ⟨rfl, rfl⟩, rfl⟩
  refine J.app ?_
  refine Sg 1 rfl rfl rfl <| Sq.nil <| hk27 _ _ <| Run.ret ?_
  exact J.ends (res_tmp rfl rfl) Takes.nil ⟨rfl, rfl⟩
end Slb
