/- J88: a part of the proof that a law of this package holds for every input; no condition. -/
import Derived.Test.YtfokodhfjdhdaaaGreatM2
import Derived.Test.YtfokodhfjdhdaaaGreatJ87
import Derived.Test.YtfokodhfjdhdaaaGreatJ40
namespace Slb
open Go Go.Proofs
set_option maxRecDepth 20000
@[reducible] def wA (y : TlsX) : HProp := slA 49 68 tlvE (.slice y.a y.l.length y.c) y.l
def gA (y : TlsX) : HProp := stars [slA 49 68 tlvE (.slice y.a y.l.length y.c) y.l, rowsT y.l]
abbrev nilY : TlsX := ⟨none, 0, []⟩
theorem J.addV {V : Type} (A : V → HProp) {N : Nat} {G : Env} {S : List HProp} {F : Fr} {Φ : Act → World → Prop} (j : J N G (rowsV A [] :: S) F Φ) : J N G S F Φ := j.conseq fun w s => by
 obtain ⟨a, b, c, d, k, hk, f, h⟩ := s
 exact ⟨a, b, c, d, k, ⟨PH.none, k, PH.none_disj k, (PH.none_union k).symm, rfl, hk⟩, f, h⟩
theorem gA_nil : gA nilY PH.none := by
 refine ⟨PH.none, PH.none, PH.none_disj _, (PH.none_union _).symm, .inl ⟨rfl, rfl, rfl⟩, PH.none, PH.none, PH.none_disj _, (PH.none_union _).symm, rfl, rfl⟩
theorem reps_none : ∀ n : Nat, rowsV gA (List.replicate n nilY) PH.none
 | 0 => rfl
 | n + 1 => ⟨PH.none, PH.none, PH.none_disj _, (PH.none_union _).symm, gA_nil, reps_none n⟩
theorem J.addReps (n : Nat) {N : Nat} {G : Env} {S : List HProp} {F : Fr} {Φ : Act → World → Prop} (j : J N G (rowsV gA (List.replicate n nilY) :: S) F Φ) : J N G S F Φ := j.conseq fun w s => by
 obtain ⟨a, b, c, d, k, hk, f, h⟩ := s
 exact ⟨a, b, c, d, k, ⟨PH.none, k, PH.none_disj k, (PH.none_union k).symm, reps_none n, hk⟩, f, h⟩
theorem rowsT_app {us ts : List TlvX} {p : PH} (g : stars [rowsT us, rowsT ts] p) : rowsT (us ++ ts) p := by
 obtain ⟨h1, h2, d, rfl, g1, g2⟩ := g
 unfold rowsT
 rw [List.map_append]
 exact stars_append.2 ⟨h1, h2, d, rfl, g1, stars_one.1 g2⟩
theorem set_selfX {L : List TlsX} {i : Nat} {y : TlsX} (h : L[i]? = some y) : L.set i y = L := by
 obtain ⟨h1, h2⟩ := List.getElem?_eq_some_iff.1 h
 rw [← h2, List.set_getElem_self]
theorem gA_at {L : List TlsX} {i : Nat} {y : TlsX} (h : L[i]? = some y) {p : PH} (hr : rowsV gA L p) : stars [slA 49 68 tlvE (.slice y.a y.l.length y.c) y.l, rowsT y.l, rowsV gA (L.eraseIdx i)] p := by
 obtain ⟨h1, h2, d, rfl, g1, g2⟩ := rowsV_at h hr
 exact (stars_append (l := [slA 49 68 tlvE (.slice y.a y.l.length y.c) y.l, rowsT y.l]) (m := [rowsV gA (L.eraseIdx i)])).2 ⟨h1, h2, d, rfl, g1, g2⟩
theorem gA_same {L : List TlsX} {i : Nat} {y : TlsX} (h : L[i]? = some y) {p : PH} (hr : stars [slA 49 68 tlvE (.slice y.a y.l.length y.c) y.l, rowsT y.l, rowsV gA (L.eraseIdx i)] p) : rowsV gA L p := by
 obtain ⟨h1, h2, d, rfl, g1, g2⟩ := (stars_append (l := [slA 49 68 tlvE (.slice y.a y.l.length y.c) y.l, rowsT y.l]) (m := [rowsV gA (L.eraseIdx i)])).1 hr
 have h9 := rowsV_back (A := gA) h (x := y) ⟨h1, h2, d, rfl, g1, g2⟩
 rwa [set_selfX h] at h9
theorem gA_back {L : List TlsX} {i : Nat} {y y2 : TlsX} {us ts : List TlvX} (h : L[i]? = some y) (he : y2.l = us ++ ts) {p : PH} (hr : stars [slA 49 68 tlvE (.slice y2.a y2.l.length y2.c) y2.l, rowsT us, rowsT ts, rowsV gA (L.eraseIdx i)] p) : rowsV gA (L.set i y2) p := by
 obtain ⟨h1, h2, d, rfl, g1, g2⟩ := (stars_append (l := [slA 49 68 tlvE (.slice y2.a y2.l.length y2.c) y2.l, rowsT us, rowsT ts]) (m := [rowsV gA (L.eraseIdx i)])).1 hr
 refine rowsV_back (A := gA) h ⟨h1, h2, d, rfl, ?_, g2⟩
 obtain ⟨p1, p2, d2, rfl, k1, k2⟩ := g1
 refine ⟨p1, p2, d2, rfl, k1, stars_one.2 ?_⟩
 rw [he]
 exact rowsT_app k2
theorem wA_same {L : List TlsX} {i : Nat} {y : TlsX} (h : L[i]? = some y) {p : PH} (hr : stars [wA y, rowsV wA (L.eraseIdx i)] p) : rowsV wA L p := by
 have h9 := rowsV_back (A := wA) h (x := y) hr
 rwa [set_selfX h] at h9
def HG (cf : IfConf) (us : List SentX) (m : Nat) (tos : List (Bs 16)) (gt : List TlsX) : Prop := gt.length = tos.length ∧ (∀ (k : Nat) t y, tos[k]? = some t → gt[k]? = some y → y.l.map tlvM = gotL cf (us.take m) t) ∧ ∀ y ∈ gt, y.l.length ≤ 14400 * m
theorem HG.nil {cf : IfConf} {us : List SentX} {tos : List (Bs 16)} : HG cf us 0 tos (List.replicate tos.length nilY) :=
 ⟨by simp, fun k t y _ hy => by obtain rfl := List.eq_of_mem_replicate (List.mem_of_getElem? hy); rfl, fun y hy => by obtain rfl := List.eq_of_mem_replicate hy; exact Nat.le_refl _⟩
theorem HG.step {cf : IfConf} {us : List SentX} {m k : Nat} {tos : List (Bs 16)} {gt : List TlsX} {s : SentX} {gy y2 : TlsX} {ts : List TlvX} (h : HG cf us m tos gt) (hnd : tos.Nodup) (hs : us[m]? = some s) (ht : tos[k]? = some s.to) (hgy : gt[k]? = some gy)
   (hm : ts.map tlvM = (parseF cf.addr s.y.l).1) (hq : ts.length ≤ 14400) (hy2 : y2.l = gy.l ++ ts) : HG cf us (m + 1) tos (gt.set k y2) := by
 refine ⟨by rw [List.length_set]; exact h.1, fun j t z hj hz => ?_, fun z hz => ?_⟩
 · rw [take_succ_get hs, gotL_snoc]
   by_cases hjk : k = j
   · subst hjk
     rw [List.getElem?_set_self (List.getElem?_eq_some_iff.1 hgy).1] at hz
     obtain rfl := Option.some.inj hz
     rw [ht] at hj
     obtain rfl := Option.some.inj hj
     rw [if_pos rfl, hy2, List.map_append, hm, h.2.1 k _ _ ht hgy]
   · rw [List.getElem?_set_ne hjk] at hz
     rw [if_neg (fun h9 => hjk (nodup_get hnd ht (by rw [hj, h9]))), List.append_nil]
     exact h.2.1 j t z hj hz
 · rcases List.mem_or_eq_of_mem_set hz with h9 | rfl
   · have := h.2.2 z h9; omega
   · have := h.2.2 gy (List.mem_of_getElem? hgy)
     rw [hy2, List.length_append]
     omega
theorem gotL_app (cf : IfConf) (A B : List SentX) (t : Bs 16) : gotL cf (A ++ B) t = gotL cf A t ++ gotL cf B t := by
 unfold gotL
 rw [List.filter_append, List.flatMap_append]
theorem HG.small {F : Fr} {cf : IfConf} {us : List SentX} {m k i : Nat} {x : OneX} {tos : List (Bs 16)} {wn gt : List TlsX} {t : Bs 16} {gy : TlsX} (h : HG cf us m tos gt) (hk : KX F cf i x tos wn) (hc : IfOk cf) (hi : i ≤ 120) (hus : us.map sentM = flushS 0 [x]) (ht : tos[k]? = some t) (hgy : gt[k]? = some gy) : gy.l.length ≤ 14400 := by
 have hkl : k < wn.length := by rw [← hk.len]; exact (List.getElem?_eq_some_iff.1 ht).1
 have hw : wn[k]? = some (wn[k]'hkl) := List.getElem?_eq_getElem hkl
 have h1 := congrArg List.length (hk.say hc ht hw hus)
 have h2 := congrArg List.length (h.2.1 k t gy ht hgy)
 have h3 := hk.wln _ (List.mem_of_getElem? hw)
 have h4 : 120 * i ≤ 120 * 120 := Nat.mul_le_mul_left _ hi
 have h5 : gotL cf us t = gotL cf (us.take m) t ++ gotL cf (us.drop m) t := by rw [← gotL_app, List.take_append_drop]
 rw [h5, List.length_append, List.length_map] at h1
 rw [List.length_map] at h2
 omega
theorem reset_ok {x : OneX} (h : OkX x) : OkX (resetX x) := ⟨List.nodup_nil, h.m1, h.m2, fun e he => (by cases he), fun e he => (by cases he), Nat.zero_le _⟩
theorem reset_out (x : OneX) : flushS 0 [resetX x] = [] := by
 rw [flushS_one]
 show (srtA []).flatMap _ = []
 rw [show srtA [] = [] by unfold srtA; simp]
 rfl

set_option maxHeartbeats 4000000 in
theorem law_keeps (F : Fr) (cf : IfConf) {xs : List ActX} {a : Option Addr} {c : Nat} (ha : ArgSl F a 20 actE xs) (hin : ∀ u ∈ xs, ActIn F u) (hnn : xs.length ≤ 9223372036854775807)  : Spec Tryz.prog 4 #[.agg (IfConf.enc cf).toArray, .slice a xs.length c] [] F (fun v S => v = .bool true ∧ S = []) := by
 refine Spec.intro (N := 203) (args := [.agg (IfConf.enc cf).toArray, .slice a xs.length c]) Tryz.func4 rfl rfl (by simp) ?_
 refine Run.seq fun k1 hk1 => Run.region <| Ef 0 E2 (EF.boxA rfl rfl) ?_
 rintro _ _ ⟨b2, rfl, rfl⟩
 refine Sg 1 E3 <| Zl hk1 <| Run.seq fun k2 hk2 => Zs fun _ hk3 => Qq 0 E2 (Z0 E2 g65 (IfConf.enc_sub _)) ?_
 refine Ef 1 E2 (EF.buildSlice1 rfl Tryz.underlying22 z65 zero65 (by simp [Value.cells, IfConf.enc_len]) (by decide) rfl rfl (IfConf.enc_len _) (by decide)) ?_
 rintro _ _ ⟨b18, rfl, rfl⟩
 refine Ef 2 E2 (Zc E2 ce5 TN (fun F' hle hr => may_spec F' (cs := [cf]) (a := some ⟨b18, 0, none⟩) (c := 1) (by simp) (argSl_all (xs := [cf]) IfConf.enc_len (by have h9 := hr b18 (.cells (IfConf.enc cf).toArray 65 (0, 0)) Rc; rw [show [cf].flatMap IfConf.enc = IfConf.enc cf by simp]; exact h9)) (by simp))) ?_
 rintro _ _ ⟨_, ⟨r19, rfl, hr19, rfl⟩, rfl⟩
 refine J.app <| J.caseB (fun c19 => ?_) (fun c19 => ?_)
 ·refine Qp 3 E2 (Zu E2) <| Mv 4 E3 <| Ym 5 E4 <| Ye 6 E3 (Zc E2 ce6 TN (fun F' hle hr => huge14_spec F' (ha.mono hle) (fun u hu => (hin u hu).mono hle) hnn)) ?_
  rintro _ _ ⟨_, ⟨bh, rfl, hbh, rfl⟩, rfl⟩
  refine J.app <| J.caseB (fun c23 => ?_) (fun c23 => ?_)
  ·refine Pf 7 E4 <| Zl hk3 <| Zt <| Zs fun _ hk4 => Ef 0 E2 (Zc E2 ce7 TN (fun F' hle hr => live14_spec F')) ?_
   rintro _ _ ⟨_, ⟨rfl, rfl⟩, rfl⟩
   exact J.app <| Sg 1 E3 <| Zl hk4 <| Run.ret <| Je E2 ⟨rfl, rfl⟩
  ·refine Pf 7 E4 <| Zl hk3 <| Zf <| Run.skip <| hk2 _ _ <| Run.seq fun _ hk5 => Run.region ?_
   have hcf : IfOk cf := (hr19 c19).2 cf (by simp)
   have hsm := hbh c23
   have hxs : xs.length ≤ 120 := hsm.1
   refine Qq 0 E2 (Z0 E2 g65 (IfConf.enc_sub _)) ?_
   refine Ef 1 E2 (EF.buildSlice1 rfl Tryz.underlying22 z65 zero65 (by simp [Value.cells, IfConf.enc_len]) (by decide) rfl rfl (IfConf.enc_len _) (by decide)) ?_
   rintro _ _ ⟨b27, rfl, rfl⟩
   refine Ef 2 E2 (Zc E2 ce8 TN (fun F' hle hr => newS_spec F' (cs := [cf]) (a := some ⟨b27, 0, none⟩) (c := 1) (argSl_all (xs := [cf]) IfConf.enc_len (by have h9 := hr b27 (.cells (IfConf.enc cf).toArray 65 (0, 0)) Rc; rw [show [cf].flatMap IfConf.enc = IfConf.enc cf by simp]; exact h9)) (by simp))) ?_
   rintro _ _ ⟨_, ⟨b0, rfl, rfl⟩, rfl⟩
   refine J.app <| Sg 3 E3 <| Zl hk5 <| Run.seq fun _ hk6 => Zs fun _ hk7 => Mv 0 E3 <| Qp 1 E2 (QP.ptr_eq_nil rfl rfl rfl Tryz.underlying27) <| Mv 2 E3 <| Ym 3 E4 <| Ye 4 E3 (Zc E2 ce11 Tk1 (fun F' hle hr => (upQ F' (b := b0) (i := 0) (M := [newX cf]) (x := newX cf) rfl).mono (fun v S hv => (show v = .int .i64 0 ∧ S = [QS b0 [(⟨cf, true, 0, []⟩ : OneX)]] from hv)))) ?_
   rintro _ _ ⟨_, ⟨rfl, rfl⟩, rfl⟩
   refine J.app <| Ye 5 E3 (Zc E2 ce10 TN (fun F' hle hr => num14_spec F' _)) ?_
   rintro _ _ ⟨_, ⟨rfl, rfl⟩, rfl⟩
   refine J.app <| Yp 6 E3 (Zq E3) <| Pf 7 E4 <| Zl hk7 <| Zf <| Run.skip <| hk6 _ _ <| Zs fun _ hk8 => Sg 0 E3 <| Zl hk8 <| Zs fun _ hk9 => Sg 0 E3 <| Zl hk9 <| Run.seq fun _ hk10 => Zs fun _ hk11 => J.addSl 32 16 (Bs.enc (n := 16)) ?_
   refine J.addSl 33 1 tlsE ?_
   refine J.addV wA ?_
   refine Sg 0 E3 <| Zl hk11 <| Run.block <| Run.loop6 (fun (i : Nat) (x : OneX) (tos : List (Bs 16)) (wn : List TlsX) (vt : Value) (vw : Value) => i ≤ xs.length ∧ KX F cf i x tos wn) (fun i x tos wn vt vw => .cons 1 (.slice a xs.length c) (.cons 2 (fp b2) (.cons 5 (.pointer (some ⟨b0, 0, none⟩)) (.cons 6 (vt) (.cons 7 (vw) (.cons 8 (.int .i64 i) (.nil))))))) (fun i x tos wn vt vw => [QS b0 [x], slA 32 16 Bs.enc vt tos, slA 33 1 tlsE vw wn, rowsV wA wn, blk b2 (IfConf.enc cf) 65]) (fun i x tos wn vt vw => xs.length - i) (0) (⟨cf, true, 0, []⟩) ([]) ([]) (.slice none 0 0) (.slice none 0 0) (⟨Nat.zero_le _, KX.nil⟩) ?_ ?_
   ·exact fun _ j => J.envJ (J.keep Tk5 j) ⟨rfl, rfl, rfl, rfl, rfl, rfl, trivial⟩
   rintro i x tos wn vt vw ⟨hile, hkx⟩ kl12 hl12
   refine Run.seq fun _ hk13 => Zs fun _ hk14 => Mv 0 E3 <| Mv 1 E3 <| Qp 2 E2 (QP.len rfl rfl rfl Tryz.underlying23) <| Qp 3 E2 (Zb E3) <| J.caseD (fun c40 => ?_) (fun c40 => ?_)
   ·refine Zl hk14 <| Zt <| Run.skip <| hk13 _ _ <| Run.seq fun _ hk15 => Run.block <| Run.seq fun _ hk16 => Run.seq fun _ hk17 => Run.regionD (M := [0, 0, 0, 6, 14, 30, 0, 0, 192, 448, 960, 2047, 4095, 8191]) (q := 10239) (r := 1056) Kr ?_
    obtain ⟨u, hi⟩ : ∃ u, xs[i]? = some u := ⟨_, GE (by omega)⟩
    obtain ⟨q1, o1, rfl, hs0⟩ := ha.get (by omega)
    have hua := hin u (List.mem_of_getElem? hi)
    have hsu := hsm.2 u (List.mem_of_getElem? hi)
    have hsul := hsu.1
    have hokx := hkx.ok hcf (by omega)
    have hfw := hkx.few
    refine Dp 0 E2 (Zm E2) <| Dp 1 E2 (Zm E2) <| Dp 2 E2 (Zm E2) <| Dp 3 E2 (QP.indexAddr rfl rfl rfl Tryz.underlying23 z35 Og Og) <| Dp 4 E2 (Za E2 f35_3) <| Dr 5 E2 (QR.loadSlF (y := u) rfl rfl g32 actE_len (hs0 _) hi (Law14Act.sub_to _)) ?_
    refine Dp 6 E2 (Zm E2) <| Dp 7 E2 (Zm E2) <| Dp 8 E2 (QP.indexAddr rfl rfl rfl Tryz.underlying23 z35 Og Og) <| Dp 9 E2 (Za E2 f35_4) <| Dr 10 E2 (QR.loadSlF1 (y := u) (v := .slice u.a u.l.length u.c) rfl rfl g33 actE_len (hs0 _) hi (Law14Act.sub_l _)) ?_
    refine De 11 <| Om [] rfl rfl (Zc E2 ce17 Tk1 (fun F' hle hr => (queueQ F' (b := b0) (i := 0) (M := [x]) (x := x) rfl hkx.up (by rw [hkx.c]; exact hcf.mtu.1) (by rw [hkx.c]; exact hcf.mtu.2) hokx.few u.to (ts := u.l) (a3 := u.a) (c3 := u.c) (hua.sl.mono hle) (fun z hz => TlvIn.mono (hua.tin z hz) hle) hua.wf hua.r32 (by omega)).mono (fun v S hv => (show v = .int .i64 (addErr cf.addr cf.mtu u.l) ∧ S = [QS b0 [(queueX x u.to u.l)]] from ⟨by rw [hv.1, hkx.c], hv.2⟩)))) ?_
    rintro _ _ ⟨_, ⟨rfl, rfl⟩, rfl⟩
    refine N0 <| J.app <| De 12 <| Om [] rfl rfl (Zc E2 ce10 TN (fun F' hle hr => num14_spec F' _)) ?_
    rintro _ _ ⟨_, ⟨rfl, rfl⟩, rfl⟩
    refine N0 <| J.app <| Dp 13 E2 (Zq E3) <| J.caseD (fun c56 => ?_) (fun c56 => ?_)
    ·refine Dn <| hk17 _ _ <| Zt <| Run.exit rfl <| hk15 _ _ <| Run.region <| Mv 0 E3 <| Qp 1 E2 (QP.add64 rfl rfl rfl Og Og) <| Sg 2 E3 <| Sq.nil ?_
     
     exact J.envJ (J.keep Tk5 (hl12 (i + 1) ((queueX x u.to u.l)) (tos) (wn) (vt) (vw) (⟨by omega, hkx.err u.to c56⟩) (by omega))) ⟨rfl, rfl, rfl, rfl, rfl, rfl, trivial⟩
    ·refine Dn <| hk17 _ _ <| Zf <| Run.skip <| hk16 _ _ <| Run.seq fun _ hk18 => Run.region ?_
     have he : addErr cf.addr cf.mtu u.l = 0 := Decidable.of_not_not c56
     have hots : OkTs F cf u.l := ⟨hsu.1, fun z hz => ⟨hua.tin z hz, hua.wf z hz, hua.r32 z hz, hsu.2 z hz, addErr_zero he z hz⟩⟩
     refine Sq.slCase (v := vt) (xs := tos) Rc (fun att ctt hvtt hhtt => ?_)
     subst hvtt
     refine Sg 0 E3 <| Zl hk18 <| Run.seq fun _ hk19 => Run.block <| Run.loop1 (fun (k : Nat) => k ≤ tos.length ∧ ∀ j, j < k → tos[j]? ≠ some u.to) (fun k => .cons 1 (.slice (some ⟨q1, o1, none⟩) xs.length c) (.cons 2 (fp b2) (.cons 5 (.pointer (some ⟨b0, 0, none⟩)) (.cons 6 (.slice att tos.length ctt) (.cons 7 (vw) (.cons 8 (.int .i64 i) (.cons 9 (.int .i64 k) (.nil)))))))) (fun k => [QS b0 [(queueX x u.to u.l)], slA 32 16 Bs.enc (.slice att tos.length ctt) tos, slA 33 1 tlsE vw wn, rowsV wA wn, blk b2 (IfConf.enc cf) 65]) (fun k => tos.length - k) (0) (⟨Nat.zero_le _, fun j h => absurd h (Nat.not_lt_zero _)⟩) ?_ ?_
     ·exact fun _ j => J.envJ (J.keep Tk5 j) ⟨rfl, rfl, rfl, rfl, rfl, rfl, rfl, trivial⟩
     rintro k ⟨hkle, hno⟩ kl20 hl20
     refine Run.seq fun _ hk21 => Run.seq fun _ hk22 => Run.regionD (M := [0, 0, 2, 7, 15, 31, 31, 127, 255, 31, 31, 1567, 3615, 7711, 16383, 32767]) (q := 65535) (r := 8448) Kr ?_
     refine Dp 0 E2 (Zm E2) <| Dp 1 E2 (Zm E2) <| Dp 2 E2 (QP.len rfl rfl rfl Tryz.underlying71) <| Dp 3 E2 (Zb E3) <| J.caseD (fun c60 => ?_) (fun c60 => ?_)
     ·refine Dp 4 E2 (Zm E2) ?_
      obtain ⟨t, ht⟩ : ∃ t, tos[k]? = some t := ⟨_, GE (by omega)⟩
      obtain ⟨bt, ot, rfl⟩ := hhtt.get (by omega)
      refine Dy 5 E3 (Zm E2) <| Dy 6 E3 (Zm E2) <| Dy 7 E3 (QP.indexAddr rfl rfl rfl Tryz.underlying71 z32 Og Og) <| Dz 8 E3 (QR.loadSl (y := t) rfl rfl g32 Bs.len (SlAt.own Bs.len Rc) ht) ?_
      refine Dy 9 E3 (Zm E2) <| Dy 10 E3 (Zm E2) <| Dy 11 E3 (QP.indexAddr rfl rfl rfl Tryz.underlying23 z35 Og Og) <| Dy 12 E3 (Za E2 f35_3) <| Dz 13 E3 (QR.loadSlF (y := u) rfl rfl g32 actE_len (hs0 _) hi (Law14Act.sub_to _)) ?_
      refine Dy 14 E3 (QP.neq_agg eq32 rfl rfl rfl) <| J.caseD (fun c71 => ?_) (fun c71 => ?_)
      ·exact Dp 15 E2 (QP.pick_t rfl rfl rfl) <| Dn <| hk22 _ _ <| Zt <| Run.skip <| hk21 _ _ <| Run.block <| Run.region <| Mv 0 E3 <| Qp 1 E2 (QP.add64 rfl rfl rfl Og Og) <| Sg 2 E3 <| Sq.nil <| J.envJ (J.keep Tk5 (hl20 (k + 1) (⟨by omega, fun j hj => by rcases Nat.lt_succ_iff_lt_or_eq.1 hj with h | rfl; exact hno j h; rw [ht]; intro h9; exact c71 (Option.some.inj h9)⟩) (by omega))) ⟨rfl, rfl, rfl, rfl, rfl, rfl, rfl, trivial⟩
      ·refine Dp 15 E2 (QP.pick_t rfl rfl rfl) <| Dn <| hk22 _ _ <| Zf <| Run.exit rfl <| hk19 _ _ <| Run.seq fun _ hk23 => Zs fun _ hk24 => Mv 0 E3 <| Mv 1 E3 <| Qp 2 E2 (QP.len rfl rfl rfl Tryz.underlying71) <| Qp 3 E2 (Ze E3) <| J.decF (by omega) ?_
       refine Zl hk24 <| Zf <| Run.skip <| hk23 _ _ <| Run.regionD (M := [0, 0, 0, 0, 12, 28, 0, 0, 192, 448, 960, 2044, 4095, 8191]) (q := 6143) (r := 1056) Kr ?_
       obtain ⟨y, hw⟩ : ∃ y, wn[k]? = some y := ⟨_, GE (by have h9 := hkx.len; omega)⟩
       have ht0 : tos[k]? = some u.to := by rw [ht, Decidable.of_not_not c71]
       have hyl := hkx.wln y (List.mem_of_getElem? hw)
       refine J.slCase (v := vw) (xs := wn) Rc (fun aw2 cw2 hvw2 hhw2 => ?_)
       subst hvw2
       have hkw9 := (List.getElem?_eq_some_iff.1 hw).1
       obtain ⟨bw, ow, rfl⟩ := hhw2.get (by omega)
       refine Dw.openE (T := fun _ : Unit => [wA y, rowsV wA (wn.eraseIdx k)]) Rc (fun p g => ⟨(), rowsV_at hw g⟩) (fun _ => ?_)
       refine Dw.app ?_
       refine Dp 0 E2 (Zm E2) <| Dp 1 E2 (Zm E2) <| Dp 2 E2 (Zm E2) <| Dp 3 E2 (Zm E2) <| Dp 4 E2 (QP.indexAddr rfl rfl rfl Tryz.underlying72 z33 Og Og) <| Dr 5 E2 (QR.loadSl1 (ev := fun y : TlsX => Value.slice y.a y.l.length y.c) rfl rfl g33 (SlAt.own (fun _ => rfl) Rc) hw) ?_
       refine Dp 6 E2 (Zm E2) <| Dp 7 E2 (Zm E2) <| Dp 8 E2 (QP.indexAddr rfl rfl rfl Tryz.underlying23 z35 Og Og) <| Dp 9 E2 (Za E2 f35_4) <| Dr 10 E2 (QR.loadSlF1 (y := u) (v := .slice u.a u.l.length u.c) rfl rfl g33 actE_len (hs0 _) hi (Law14Act.sub_l _)) ?_
       refine De 11 <| Om [] rfl rfl (EF.appendArg (xs := y.l) (ys := u.l) (enc := tlvE) el49 tlvE_len (fun _ => Tlv.enc_cell _) rfl rfl rfl Tryz.underlying33 Tryz.underlying33 rfl rfl Rc hua.sl (by omega)) ?_
       rintro sl101 _ rfl
       refine N0 <| Dw.slCase (v := sl101) (xs := (y.l ++ u.l)) Rc (fun a101 c101 hv101 hh101 => ?_)
       subst hv101
       refine Dp 12 E2 (QP.indexAddr rfl rfl rfl Tryz.underlying72 z33 Og Og) <| De 13 <| Oa [] rfl (EF.storeSlF (enc := tlsE) (s := (⟨a101, c101, y.l ++ u.l⟩ : TlsX)) (fo := 0) rfl rfl rfl z33 Rc (fun _ => rfl) (List.getElem?_eq_some_iff.1 hw).1 (fun _ _ => SetL.one) (cell_one rfl)) ?_
       rintro _ _ rfl
       refine N0 <| Dn <| hk15 _ _ <| Run.region <| Mv 0 E3 <| Qp 1 E2 (QP.add64 rfl rfl rfl Og Og) <| Sg 2 E3 <| Sq.nil <| J.close (A := rowsV wA (wn.set k (⟨a101, c101, y.l ++ u.l⟩ : TlsX))) (m := [wA (⟨a101, c101, y.l ++ u.l⟩ : TlsX), rowsV wA (wn.eraseIdx k)]) Tk2 (fun _ g => rowsV_back hw g) ?_
       exact J.envJ (J.keep Tk5 (hl12 (i + 1) ((queueX x u.to u.l)) (tos) (wn.set k (⟨a101, c101, y.l ++ u.l⟩ : TlsX)) (.slice (some ⟨bt, ot, none⟩) tos.length ctt) (.slice (some ⟨bw, ow, none⟩) wn.length cw2) (⟨by omega, hkx.old he hots ht0 hw rfl⟩) (by omega))) ⟨rfl, rfl, rfl, rfl, rfl, rfl, trivial⟩
     ·refine Dp 4 E2 (Zm E2) <| Ds 5 E3 <| Ds 6 E3 <| Ds 7 E3 <| Ds 8 E3 <| Ds 9 E3 <| Ds 10 E3 <| Ds 11 E3 <| Ds 12 E3 <| Ds 13 E3 <| Ds 14 E3 <| Dp 15 E2 (QP.pick_f rfl rfl rfl) <| Dn <| hk22 _ _ <| Zf <| Run.exit rfl <| hk19 _ _ <| Run.seq fun _ hk25 => Zs fun _ hk26 => Mv 0 E3 <| Mv 1 E3 <| Qp 2 E2 (QP.len rfl rfl rfl Tryz.underlying71) <| Qp 3 E2 (Ze E3) <| J.decT (by omega) ?_
      refine Zl hk26 <| Zt <| Run.seq fun _ hk27 => Run.region ?_
      have hnot : u.to ∉ tos := fun h9 => by obtain ⟨j, hj, hje⟩ := List.getElem_of_mem h9; exact hno j (by omega) (by rw [List.getElem?_eq_getElem hj, hje])
      refine Mv 0 E3 <| Mv 1 E3 <| Mv 2 E3 <| Qp 3 E2 (QP.indexAddr rfl rfl rfl Tryz.underlying23 z35 Og Og) <| Fa 4 E3 f35_3 <| Qq 5 E2 (QR.loadSlF (y := u) rfl rfl g32 actE_len (hs0 _) hi (Law14Act.sub_to _)) ?_
      refine Ef 6 E2 (EF.buildSlice1 rfl Tryz.underlying71 z32 zero32 (by simp [Value.cells, Bs.len]) (by decide) rfl rfl (Bs.len _) (by decide)) ?_
      rintro _ _ ⟨b85, rfl, rfl⟩
      refine Ef 7 E2 (EF.append1 (xs := tos) (s := u.to) (enc := Bs.enc) el32 Bs.len Bs.cell rfl rfl rfl Tryz.underlying71 Tryz.underlying71 rfl rfl Rc Rc (by omega)) ?_
      rintro sl86 _ rfl
      refine Sg 8 E3 <| Zl hk27 <| Run.region <| Mv 0 E3 <| Ef 1 E2 (EF.buildSliceS rfl Tryz.underlying72 z33 zero33 rfl (by decide) rfl rfl rfl rfl) ?_
      rintro _ _ ⟨b88, rfl, rfl⟩
      refine Ef 2 E2 (EF.append1 (xs := wn) (s := nilY) (enc := tlsE) el33 (fun _ => rfl) (fun _ => cell_one rfl) rfl rfl rfl Tryz.underlying72 Tryz.underlying72 rfl rfl Rc Rc (by have h9 := hkx.len; omega)) ?_
      rintro sl89 _ rfl
      refine Sg 3 E3 <| Zl hk25 <| Run.regionD (M := [0, 0, 0, 0, 12, 28, 0, 0, 192, 448, 960, 2044, 4095, 8191]) (q := 6143) (r := 1056) Kr ?_
      refine J.addSl 49 68 tlvE ?_
      refine J.close (A := rowsV wA (wn ++ [nilY])) (m := [wA nilY, rowsV wA wn]) Tk2 (fun _ g => rowsV_snoc g) ?_
      have hkl : k = wn.length := by have h9 := hkx.len; omega
      have hw : (wn ++ [nilY])[k]? = some nilY := by rw [hkl, List.getElem?_append_right (Nat.le_refl _), Nat.sub_self]; rfl
      refine J.slCase (v := sl89) (xs := (wn ++ [nilY])) Rc (fun aw2 cw2 hvw2 hhw2 => ?_)
      subst hvw2
      have hkw9 := (List.getElem?_eq_some_iff.1 hw).1
      obtain ⟨bw, ow, rfl⟩ := hhw2.get (by omega)
      refine Dw.openE (T := fun _ : Unit => [wA nilY, rowsV wA ((wn ++ [nilY]).eraseIdx k)]) Rc (fun p g => ⟨(), rowsV_at hw g⟩) (fun _ => ?_)
      refine Dw.app ?_
      refine Dp 0 E2 (Zm E2) <| Dp 1 E2 (Zm E2) <| Dp 2 E2 (Zm E2) <| Dp 3 E2 (Zm E2) <| Dp 4 E2 (QP.indexAddr rfl rfl rfl Tryz.underlying72 z33 Og Og) <| Dr 5 E2 (QR.loadSl1 (ev := fun y : TlsX => Value.slice y.a y.l.length y.c) rfl rfl g33 (SlAt.own (fun _ => rfl) Rc) hw) ?_
      refine Dp 6 E2 (Zm E2) <| Dp 7 E2 (Zm E2) <| Dp 8 E2 (QP.indexAddr rfl rfl rfl Tryz.underlying23 z35 Og Og) <| Dp 9 E2 (Za E2 f35_4) <| Dr 10 E2 (QR.loadSlF1 (y := u) (v := .slice u.a u.l.length u.c) rfl rfl g33 actE_len (hs0 _) hi (Law14Act.sub_l _)) ?_
      refine De 11 <| Om [] rfl rfl (EF.appendArg (xs := []) (ys := u.l) (enc := tlvE) el49 tlvE_len (fun _ => Tlv.enc_cell _) rfl rfl rfl Tryz.underlying33 Tryz.underlying33 rfl rfl Rc hua.sl (by simp; omega)) ?_
      rintro sl101 _ rfl
      refine N0 <| Dw.slCase (v := sl101) (xs := ([] ++ u.l)) Rc (fun a101 c101 hv101 hh101 => ?_)
      subst hv101
      refine Dp 12 E2 (QP.indexAddr rfl rfl rfl Tryz.underlying72 z33 Og Og) <| De 13 <| Oa [] rfl (EF.storeSlF (enc := tlsE) (s := (⟨a101, c101, [] ++ u.l⟩ : TlsX)) (fo := 0) rfl rfl rfl z33 Rc (fun _ => rfl) (List.getElem?_eq_some_iff.1 hw).1 (fun _ _ => SetL.one) (cell_one rfl)) ?_
      rintro _ _ rfl
      refine N0 <| Dn <| hk15 _ _ <| Run.region <| Mv 0 E3 <| Qp 1 E2 (QP.add64 rfl rfl rfl Og Og) <| Sg 2 E3 <| Sq.nil <| J.close (A := rowsV wA ((wn ++ [nilY]).set k (⟨a101, c101, [] ++ u.l⟩ : TlsX))) (m := [wA (⟨a101, c101, [] ++ u.l⟩ : TlsX), rowsV wA ((wn ++ [nilY]).eraseIdx k)]) Tk2 (fun _ g => rowsV_back hw g) ?_
      exact J.envJ (J.keep Tk5 (hl12 (i + 1) ((queueX x u.to u.l)) (tos ++ [u.to]) ((wn ++ [nilY]).set k (⟨a101, c101, [] ++ u.l⟩ : TlsX)) (sl86) (.slice (some ⟨bw, ow, none⟩) (wn ++ [nilY]).length cw2) (⟨by omega, by rw [hkl, List.set_append_right _ _ (Nat.le_refl _), Nat.sub_self]; exact hkx.new he hots hnot rfl⟩) (by omega))) ⟨rfl, rfl, rfl, rfl, rfl, rfl, trivial⟩
   ·refine Zl hk14 <| Zf <| Run.exit rfl <| hk10 _ _ <| Run.seq fun _ hk28 => Run.region ?_
    have hokx := hkx.ok hcf (by omega)
    have hkx120 := hkx.few
    refine Sq.slCase (v := vt) (xs := tos) Rc (fun at3 ct3 hvt3 hht3 => ?_)
    subst hvt3
    refine Mv 0 E3 <| Qp 1 E2 (QP.len rfl rfl rfl Tryz.underlying71) <| Ef 2 E2 (EF.makeSl1 (enc := tlsE) (x0 := nilY) (v0 := .slice none 0 0) el33 rfl rfl rfl Tryz.underlying72 zero33 rfl rfl (by omega) (by omega)) ?_
    rintro _ _ ⟨bg, rfl, rfl⟩
    rw [show Int.toNat ((tos.length : Nat) : Int) = tos.length from rfl]
    refine J.addReps tos.length ?_
    refine Sg 3 E3 <| Zl hk28 <| Zs fun _ hk29 => Mv 0 E3 <| Ef 1 E2 (Zc E2 ce20 Tk1 (fun F' hle hr => flushQ F' (b := b0) (M := [x]) (fun z hz => by rw [List.mem_singleton.1 hz]; exact hokx) (hkx.few_out (by omega)) (by simp))) ?_
    rintro vf _ ⟨_, ⟨us, hus, rfl⟩, rfl⟩
    refine J.app <| Sg 2 E3 <| Zl hk29 <| Run.seq fun _ hk30 => Zs fun _ hk31 => Sq.slCase (v := vf) (xs := us) Rc (fun af cf_ hvf_ hhf => ?_)
    subst hvf_
    have hul : us.length = (flushS 0 [x]).length := by rw [← hus, List.length_map]
    have hfo := hkx.few_out (by omega)
    refine Sg 0 E3 <| Zl hk31 <| Run.block <| Run.loop2 (fun (m : Nat) (gt : List TlsX) => m ≤ us.length ∧ HG cf us m tos gt) (fun m gt => .cons 2 (fp b2) (.cons 5 (.pointer (some ⟨b0, 0, none⟩)) (.cons 6 (.slice at3 tos.length ct3) (.cons 7 (vw) (.cons 10 (.slice (some ⟨bg, 0, none⟩) tos.length tos.length) (.cons 11 (.slice af us.length cf_) (.cons 12 (.int .i64 m) (.nil)))))))) (fun m gt => [QS b0 [resetX x], slA 77 18 sentE (.slice af us.length cf_) us, rowsS (us.map (·.y)), slA 32 16 Bs.enc (.slice at3 tos.length ct3) tos, slA 33 1 tlsE vw wn, rowsV wA wn, slA 33 1 tlsE (.slice (some ⟨bg, 0, none⟩) tos.length tos.length) gt, rowsV gA gt, blk b2 (IfConf.enc cf) 65]) (fun m gt => us.length - m) (0) (List.replicate tos.length nilY) (⟨Nat.zero_le _, HG.nil⟩) ?_ ?_
    ·exact fun _ j => J.envJ (J.keep Tk9 j) ⟨rfl, rfl, rfl, rfl, rfl, rfl, rfl, trivial⟩
    rintro m gt ⟨hmle, hgg⟩ kl32 hl32
    refine Run.seq fun _ hk33 => Zs fun _ hk34 => Mv 0 E3 <| Mv 1 E3 <| Qp 2 E2 (QP.len rfl rfl rfl Tryz.underlying58) <| Qp 3 E2 (Zb E3) <| J.caseD (fun c111 => ?_) (fun c111 => ?_)
    ·refine Zl hk34 <| Zt <| Run.skip <| hk33 _ _ <| Run.seq fun _ hk35 => Run.block <| Run.seq fun _ hk36 => Run.regionM (M := [0, 1, 0, 0, 12, 28, 60, 127, 255, 511, 511, 1023, 4095]) (q := 1919) (r := 66) mixedT Kr ?_
     obtain ⟨s, hs⟩ : ∃ s, us[m]? = some s := ⟨_, GE (by omega)⟩
     obtain ⟨bf, of2, rfl⟩ := hhf.get (by omega)
     obtain ⟨hsk, ⟨jj, hjj⟩, q, hpq, hql, hmt⟩ := hkx.outs hcf (by omega) (sentM s) (by rw [← hus]; exact List.mem_map_of_mem (List.mem_of_getElem? hs))
     have hsk : s.k = 0 := hsk
     have hjj : tos[jj]? = some s.to := hjj
     have hpq : parseF cf.addr s.y.l = (q, 0) := hpq
     have hmt : (s.y.l.length : Int) ≤ cf.mtu := hmt
     have hsn := s.y.h
     have hmm := hcf.mtu.2
     have hjl := (List.getElem?_eq_some_iff.1 hjj).1
     refine Dp 0 E2 (Za E2 f65_6) <| Dr 1 E2 (Z0 E2 g32 (IfConf.sub_addr _)) ?_
     refine Dp 2 E2 (Zm E2) <| Dp 3 E2 (Zm E2) <| Dp 4 E2 (QP.indexAddr rfl rfl rfl Tryz.underlying58 z77 Og Og) <| Dp 5 E2 (Za E2 f77_2) <| Dr 6 E2 (QR.loadSlF1 (y := s) (v := .slice s.y.a s.y.n s.y.c) rfl rfl g75 sentE_len (SlAt.own sentE_len Rc) hs (Sent.sub_p _)) ?_
     refine De 7 <| Om [] rfl rfl (Zc E2 ce28 Tk1 (fun F' hle hr => parse_held F' cf.addr (os := us.map (·.y)) (y := s.y) (List.mem_map_of_mem (List.mem_of_getElem? hs)) (by omega))) ?_
     rintro _ _ ⟨_, ⟨ts1, va, rfl, hm1, rfl⟩, rfl⟩
     refine N0 <| J.app ?_
     have hm2 := hm1
     rw [hpq]
     rw [hpq] at hm1
     have htl : ts1.length ≤ 14400 := by have h9 := congrArg List.length hm1; rw [List.length_map] at h9; have h8 : ts1.length = q.length := h9; omega
     refine Dp 8 E2 (Zm E2) <| Dp 9 E2 (Zx E3) <| Dp 10 E2 (Zx E3) <| De 11 <| Om [] rfl rfl ((Zg E2).eff) ?_
     rintro va _ ⟨rfl, rfl⟩
     refine N0 <| De 12 <| Om [] rfl rfl ((Zg E2).eff) ?_
     rintro _ _ ⟨rfl, rfl⟩
     refine N0 <| Dn <| hk36 _ _ <| Zs fun _ hk37 => Sg 0 E3 <| Zl hk37 <| Run.seq fun _ hk38 => Run.block <| Run.loop1 (fun (k : Nat) => k ≤ jj ∧ ∀ j, j < k → tos[j]? ≠ some s.to) (fun k => .cons 2 (fp b2) (.cons 5 (.pointer (some ⟨b0, 0, none⟩)) (.cons 6 (.slice at3 tos.length ct3) (.cons 7 (vw) (.cons 10 (.slice (some ⟨bg, 0, none⟩) tos.length tos.length) (.cons 12 (.int .i64 m) (.cons 11 (.slice (some ⟨bf, of2, none⟩) us.length cf_) (.cons 13 (va) (.cons 14 (.int .i64 0) (.cons 15 (.int .i64 k) (.nil))))))))))) (fun k => [QS b0 [resetX x], slA 77 18 sentE (.slice (some ⟨bf, of2, none⟩) us.length cf_) us, rowsS (us.map (·.y)), slA 32 16 Bs.enc (.slice at3 tos.length ct3) tos, slA 33 1 tlsE vw wn, rowsV wA wn, slA 33 1 tlsE (.slice (some ⟨bg, 0, none⟩) tos.length tos.length) gt, rowsV gA gt, blk b2 (IfConf.enc cf) 65, slA 49 68 tlvE va ts1, rowsT ts1]) (fun k => tos.length - k) (0) (⟨Nat.zero_le _, fun j h => absurd h (Nat.not_lt_zero _)⟩) ?_ ?_
     ·exact fun _ j => J.envJ (J.keep (.cons Rc (.cons Rc Tk9)) j) ⟨rfl, rfl, rfl, rfl, rfl, rfl, rfl, rfl, rfl, rfl, trivial⟩
     rintro k ⟨hkj, hno⟩ kl39 hl39
     refine Run.seq fun _ hk40 => Run.seq fun _ hk41 => Run.regionD (M := [0, 0, 2, 7, 15, 31, 31, 127, 255, 31, 31, 1567, 3615, 7711, 16383, 32767]) (q := 65535) (r := 8448) Kr ?_
     have hkl : k < tos.length := by omega
     obtain ⟨t, ht⟩ : ∃ t, tos[k]? = some t := ⟨_, List.getElem?_eq_getElem hkl⟩
     obtain ⟨bt, ot, rfl⟩ := hht3.get (by omega)
     refine Dp 0 E2 (Zm E2) <| Dp 1 E2 (Zm E2) <| Dp 2 E2 (QP.len rfl rfl rfl Tryz.underlying71) <| Dp 3 E2 (Zb E3) <| J.decT (by omega) ?_
     refine Dp 4 E2 (Zm E2) <| Dy 5 E3 (Zm E2) <| Dy 6 E3 (Zm E2) <| Dy 7 E3 (QP.indexAddr rfl rfl rfl Tryz.underlying71 z32 Og Og) <| Dz 8 E3 (QR.loadSl (y := t) rfl rfl g32 Bs.len (SlAt.own Bs.len Rc) ht) ?_
     refine Dy 9 E3 (Zm E2) <| Dy 10 E3 (Zm E2) <| Dy 11 E3 (QP.indexAddr rfl rfl rfl Tryz.underlying58 z77 Og Og) <| Dy 12 E3 (Za E2 f77_1) <| Dz 13 E3 (QR.loadSlF (y := s) rfl rfl g32 sentE_len (SlAt.own sentE_len Rc) hs (Sent.sub_to _)) ?_
     refine Dy 14 E3 (QP.neq_agg eq32 rfl rfl rfl) <| J.caseD (fun c139 => ?_) (fun c139 => ?_)
     ·exact Dp 15 E2 (QP.pick_t rfl rfl rfl) <| Dn <| hk41 _ _ <| Zt <| Run.skip <| hk40 _ _ <| Run.block <| Run.region <| Mv 0 E3 <| Qp 1 E2 (QP.add64 rfl rfl rfl Og Og) <| Sg 2 E3 <| Sq.nil <| J.envJ (J.keep (.cons Rc (.cons Rc Tk9)) (hl39 (k + 1) (⟨by rcases Nat.lt_or_eq_of_le hkj with h9 | rfl; omega; exact absurd (Option.some.inj (ht.symm.trans hjj)) c139, fun j hj => by rcases Nat.lt_succ_iff_lt_or_eq.1 hj with h | rfl; exact hno j h; rw [ht]; intro h9; exact c139 (Option.some.inj h9)⟩) (by omega))) ⟨rfl, rfl, rfl, rfl, rfl, rfl, rfl, rfl, rfl, rfl, trivial⟩
     ·refine Dp 15 E2 (QP.pick_t rfl rfl rfl) <| Dn <| hk41 _ _ <| Zf <| Run.exit rfl <| hk38 _ _ <| Run.seq fun _ hk42 => Run.seq fun _ hk43 => Run.regionD (M := [0, 0, 2, 7, 15, 31, 63, 127, 255, 511, 1023, 1023, 4095, 8191, 16383, 32767, 65535, 131071, 262143, 262143, 1048575, 2097151, 4194303, 8388607, 262143, 17039359, 67108863, 134217727]) (q := 268435391) (r := 37765120) Kr ?_
      refine Dp 0 E2 (Zm E2) <| Dp 1 E2 (Zm E2) <| Dp 2 E2 (QP.len rfl rfl rfl Tryz.underlying71) <| Dp 3 E2 (Ze E3) <| J.decF (by omega) ?_
      refine Dp 4 E2 (Zm E2) <| Dy 5 E3 (Zm E2) <| De 6 <| One.mk (o := _) (l := []) rfl Kr (Want.yes rfl rfl rfl rfl) rfl (ltN rfl) (Zc E2 ce10 TN (fun F' hle hr => num14_spec F' _)) Kr ?_
      rintro _ _ ⟨_, ⟨rfl, rfl⟩, rfl⟩
      refine N0 <| J.app <| Dy 7 E3 (Zq E3) <| Dp 8 E2 (QP.pick_f rfl rfl rfl) <| Dp 9 E2 (Zm E2) <| Dy 10 E3 (Zm E2) <| Dy 11 E3 (Zm E2) <| Dy 12 E3 (QP.indexAddr rfl rfl rfl Tryz.underlying58 z77 Og Og) <| Dy 13 E3 (Za E2 f77_0) <| Dz 14 E3 (QR.loadSlF1 (y := s) rfl rfl g3 sentE_len (SlAt.own sentE_len Rc) hs (Sent.sub_if_ _)) ?_
      refine Dy 15 E3 (Zq E3) <| J.decF (by rw [hsk]; simp) ?_
      refine Dp 16 E2 (QP.pick_f rfl rfl rfl) <| Dp 17 E2 (Zm E2) <| Dy 18 E3 (Zm E2) <| Dy 19 E3 (Zm E2) <| Dy 20 E3 (QP.indexAddr rfl rfl rfl Tryz.underlying58 z77 Og Og) <| Dy 21 E3 (Za E2 f77_2) <| Dz 22 E3 (QR.loadSlF1 (y := s) (v := .slice s.y.a s.y.n s.y.c) rfl rfl g75 sentE_len (SlAt.own sentE_len Rc) hs (Sent.sub_p _)) ?_
      refine Dy 23 E3 (QP.len rfl rfl rfl Tryz.underlying75) <| Dy 24 E3 (Za E2 f65_5) <| Dz 25 E3 (Z1 E2 g3 (IfConf.sub_mtu _)) ?_
      refine Dy 26 E3 (QP.gtr rfl rfl rfl) <| J.decF (by omega) ?_
      refine Dp 27 E2 (QP.pick_f rfl rfl rfl) <| Dn <| hk43 _ _ <| Zf <| Run.skip <| hk42 _ _ <| Run.region ?_
      have hts2 : tos[k]? = some s.to := by rw [ht, Decidable.of_not_not c139]
      obtain ⟨gy, hgy⟩ : ∃ gy, gt[k]? = some gy := ⟨_, GE (by have h9 := hgg.1; omega)⟩
      have hgyl := hgg.small hkx hcf (by omega) hus hts2 hgy
      refine Sq.slCase (v := va) (xs := ts1) Rc (fun ap1 cp1 hvp1 hhp1 => ?_)
      subst hvp1
      refine Sq.openE (T := fun _ : Unit => [slA 49 68 tlvE (.slice gy.a gy.l.length gy.c) gy.l, rowsT gy.l, rowsV gA (gt.eraseIdx k)]) Rc (fun p g => ⟨(), gA_at hgy g⟩) (fun _ => ?_)
      refine Sq.app ?_
      refine Mv 0 E3 <| Mv 1 E3 <| Mv 2 E3 <| Mv 3 E3 <| Qp 4 E2 (QP.indexAddr rfl rfl rfl Tryz.underlying72 z33 Og Og) <| Qq 5 E2 (QR.loadSl1 (ev := fun y : TlsX => Value.slice y.a y.l.length y.c) rfl rfl g33 (SlAt.own (fun _ => rfl) Rc) hgy) ?_
      refine Mv 6 E3 <| Ef 7 E2 (EF.append (xs := gy.l) (ys := ts1) (enc := tlvE) el49 tlvE_len (fun _ => Tlv.enc_cell _) rfl rfl rfl Tryz.underlying33 Tryz.underlying33 rfl rfl Rc (RowsAt.ownH (e := 49) tlvE_len hhp1 (by repeat (first | exact List.Mem.head _ | apply List.Mem.tail))) (by omega)) ?_
      rintro sl178 _ rfl
      refine Sq.slCase (v := sl178) (xs := (gy.l ++ ts1)) Rc (fun a178 c178 hv178 hh178 => ?_)
      subst hv178
      refine Qp 8 E2 (QP.indexAddr rfl rfl rfl Tryz.underlying72 z33 Og Og) <| Ac 9 rfl (EF.storeSlF (enc := tlsE) (s := (⟨a178, c178, gy.l ++ ts1⟩ : TlsX)) (fo := 0) rfl rfl rfl z33 Rc (fun _ => rfl) (List.getElem?_eq_some_iff.1 hgy).1 (fun _ _ => SetL.one) (cell_one rfl)) ?_
      rintro _ _ rfl
      refine Zl hk35 <| Run.region <| Mv 0 E3 <| Qp 1 E2 (QP.add64 rfl rfl rfl Og Og) <| Sg 2 E3 <| Sq.nil <| J.close (A := rowsV gA (gt.set k ⟨a178, c178, gy.l ++ ts1⟩)) (m := [slA 49 68 tlvE (.slice a178 (gy.l ++ ts1).length c178) (gy.l ++ ts1), rowsT gy.l, rowsT ts1, rowsV gA (gt.eraseIdx k)]) Tk4 (fun _ g => gA_back hgy rfl g) ?_
      exact J.envJ (J.keep Tk9 (hl32 (m + 1) (gt.set k ⟨a178, c178, gy.l ++ ts1⟩) (⟨by omega, hgg.step hkx.tnd hs hts2 hgy hm2 htl rfl⟩) (by omega))) ⟨rfl, rfl, rfl, rfl, rfl, rfl, rfl, trivial⟩
    ·refine Zl hk34 <| Zf <| Run.exit rfl <| hk30 _ _ <| Run.seq fun _ hk44 => Zs fun _ hk45 => Sg 0 E3 <| Zl hk45 <| Run.block <| Run.loop1 (fun (k : Nat) => k ≤ tos.length) (fun k => .cons 2 (fp b2) (.cons 5 (.pointer (some ⟨b0, 0, none⟩)) (.cons 6 (.slice at3 tos.length ct3) (.cons 7 (vw) (.cons 10 (.slice (some ⟨bg, 0, none⟩) tos.length tos.length) (.cons 16 (.int .i64 k) (.nil))))))) (fun k => [QS b0 [resetX x], slA 32 16 Bs.enc (.slice at3 tos.length ct3) tos, slA 33 1 tlsE vw wn, rowsV wA wn, slA 33 1 tlsE (.slice (some ⟨bg, 0, none⟩) tos.length tos.length) gt, rowsV gA gt, blk b2 (IfConf.enc cf) 65]) (fun k => tos.length - k) (0) (Nat.zero_le _) ?_ ?_
     ·exact fun _ j => J.envJ (J.keep Tk7 j) ⟨rfl, rfl, rfl, rfl, rfl, rfl, trivial⟩
     rintro k hkle kl46 hl46
     refine Run.seq fun _ hk47 => Zs fun _ hk48 => Mv 0 E3 <| Mv 1 E3 <| Qp 2 E2 (QP.len rfl rfl rfl Tryz.underlying71) <| Qp 3 E2 (Zb E3) <| J.caseD (fun c183 => ?_) (fun c183 => ?_)
     ·refine Zl hk48 <| Zt <| Run.skip <| hk47 _ _ <| Run.seq fun _ hk49 => Run.block <| Run.seq fun _ hk50 => Run.regionD (M := [0, 0, 3, 7, 0, 0, 48, 112, 255, 511]) (q := 767) (r := 136) Kr ?_
      have hkl : k < tos.length := by omega
      obtain ⟨t, ht⟩ : ∃ t, tos[k]? = some t := ⟨_, List.getElem?_eq_getElem hkl⟩
      obtain ⟨gy, hgy⟩ : ∃ gy, gt[k]? = some gy := ⟨_, GE (by have h9 := hgg.1; omega)⟩
      obtain ⟨wy, hwy⟩ : ∃ wy, wn[k]? = some wy := ⟨_, GE (by have h9 := hkx.len; omega)⟩
      have hut : gy.l.map tlvM = wy.l.map tlvM := by rw [hgg.2.1 k t gy ht hgy, List.take_of_length_le (by omega)]; exact hkx.say hcf ht hwy hus
      have hwok := hkx.wok wy (List.mem_of_getElem? hwy)
      have hwl := hkx.wln wy (List.mem_of_getElem? hwy)
      have hgl : gy.l.length = wy.l.length := by have h9 := congrArg List.length hut; simpa using h9
      have hgsz : ∀ z ∈ gy.l, z.l.length ≤ 120 := fun z hz => by obtain ⟨v, hv, he⟩ := tl_mem hut hz; rw [show z.l = v.l from (congrArg Prod.snd he).symm]; exact (hwok v hv).2.2.2.1
      refine J.slCase (v := vw) (xs := wn) Rc (fun aw2 cw2 hvw2 hhw2 => ?_)
      subst hvw2
      have hkw9 := (List.getElem?_eq_some_iff.1 hwy).1
      obtain ⟨bw, ow, rfl⟩ := hhw2.get (by omega)
      refine Dw.openE (T := fun _ : Unit => [slA 49 68 tlvE (.slice gy.a gy.l.length gy.c) gy.l, rowsT gy.l, rowsV gA (gt.eraseIdx k)]) Rc (fun p g => ⟨(), gA_at hgy g⟩) (fun _ => ?_)
      refine Dw.app ?_
      refine Dw.openE (T := fun _ : Unit => [wA wy, rowsV wA (wn.eraseIdx k)]) Rc (fun p g => ⟨(), rowsV_at hwy g⟩) (fun _ => ?_)
      refine Dw.app ?_
      refine Dp 0 E2 (Zm E2) <| Dp 1 E2 (Zm E2) <| Dp 2 E2 (QP.indexAddr rfl rfl rfl Tryz.underlying72 z33 Og Og) <| Dr 3 E2 (QR.loadSl1 (ev := fun y : TlsX => Value.slice y.a y.l.length y.c) rfl rfl g33 (SlAt.own (fun _ => rfl) Rc) hgy) ?_
      refine Dp 4 E2 (Zm E2) <| Dp 5 E2 (Zm E2) <| Dp 6 E2 (QP.indexAddr rfl rfl rfl Tryz.underlying72 z33 Og Og) <| Dr 7 E2 (QR.loadSl1 (ev := fun y : TlsX => Value.slice y.a y.l.length y.c) rfl rfl g33 (SlAt.own (fun _ => rfl) Rc) hwy) ?_
      refine De 8 <| Om [] rfl rfl (Zc E2 ce29 Tk3 (fun F' hle hr => samesG F' [slA 49 68 tlvE (.slice gy.a gy.l.length gy.c) gy.l, rowsT gy.l, wA wy] (a1 := gy.a) (c1 := gy.c) (xs := gy.l) (a2 := wy.a) (c2 := wy.c) (ys := wy.l) rfl Rc Rc (by omega) (fun z hz => by have h9 := hgsz z hz; omega) (fun F2 q h0 h1 h2 => ⟨slA_frame (e := 49) (n := wy.l.length) (c := wy.c) tlvE_len h1 h2 Rc, fun z hz => TlvIn.mono (hwok z hz).1 (hle.trans h0)⟩))) ?_
      rintro _ _ ⟨_, ⟨bb, rfl, hbb, rfl⟩, rfl⟩
      refine N0 <| J.app <| J.boolT (hbb.2 hut) ?_
      refine Dp 9 E2 (Zu E2) <| Dn <| hk50 _ _ <| Zf <| Run.skip <| hk49 _ _ <| Run.region <| Mv 0 E3 <| Qp 1 E2 (QP.add64 rfl rfl rfl Og Og) <| Sg 2 E3 <| Sq.nil <| J.close (A := rowsV gA gt) (m := [slA 49 68 tlvE (.slice gy.a gy.l.length gy.c) gy.l, rowsT gy.l, rowsV gA (gt.eraseIdx k)]) Tk3 (fun _ g => gA_same hgy g) ?_
      refine J.close (A := rowsV wA wn) (m := [wA wy, rowsV wA (wn.eraseIdx k)]) Tk2 (fun _ g => wA_same hwy g) ?_
      exact J.envJ (J.keep Tk7 (hl46 (k + 1) (by omega) (by omega))) ⟨rfl, rfl, rfl, rfl, rfl, rfl, trivial⟩
     ·refine Zl hk48 <| Zf <| Run.exit rfl <| hk44 _ _ <| Zs fun _ hk51 => Mv 0 E3 <| Ef 1 E2 (Zc E2 ce20 Tk1 (fun F' hle hr => flushQ F' (b := b0) (M := [resetX x]) (fun z hz => by rw [List.mem_singleton.1 hz]; exact reset_ok hokx) (by rw [reset_out]; decide) (by simp))) ?_
      rintro vf2 _ ⟨_, ⟨us2, hus2, rfl⟩, rfl⟩
      refine J.app <| Sq.slCase (v := vf2) (xs := us2) Rc (fun af2 cf2 hvf2 hhf2 => ?_)
      subst hvf2
      refine Qp 2 E2 (QP.len rfl rfl rfl Tryz.underlying58) <| Qp 3 E2 (Ze E3) <| J.decT (by have h9 := congrArg List.length hus2; rw [reset_out, List.length_map] at h9; have h8 : us2.length = 0 := h9; rw [h8]; rfl) ?_
      refine Mv 4 E3 <| Ye 5 E3 (Zc E2 ce7 TN (fun F' hle hr => live14_spec F')) ?_
      rintro _ _ ⟨_, ⟨rfl, rfl⟩, rfl⟩
      exact J.app <| Pt 6 E4 <| Sg 7 E3 <| Zl hk51 <| Run.ret <| Je E2 ⟨rfl, rfl⟩
 ·refine Qp 3 E2 (Zu E2) <| Mv 4 E3 <| Sk 5 E3 <| Sk 6 E3 <| Pt 7 E4 <| Zl hk3 <| Zt <| Zs fun _ hk52 => Ef 0 E2 (Zc E2 ce7 TN (fun F' hle hr => live14_spec F')) ?_
  rintro _ _ ⟨_, ⟨rfl, rfl⟩, rfl⟩
  exact J.app <| Sg 1 E3 <| Zl hk52 <| Run.ret <| Je E2 ⟨rfl, rfl⟩
end Slb
