/- J76: a part of the proof that a law of this package holds for every input; no condition. -/
import Derived.Test.YtfokodhfjdhdaaaGreatM2
import Derived.Test.YtfokodhfjdhdaaaGreatJ75
namespace Slb
open Go Go.Proofs
set_option maxRecDepth 20000
def srtA (l : List (Bs 16)) : List (Bs 16) := l.mergeSort fun a b => decide (¬ cmpAd b a < 0)
theorem ad_anti (a b : Bs 16) (h1 : ¬ cmpAd b a < 0) (h2 : ¬ cmpAd a b < 0) : a = b := by
 refine (totAd.eq a b).1 ?_
 have h3 := totAd.neg a b
 have h4 := totAd.neg b a
 omega
theorem ad_trans (a b c : Bs 16) (h1 : ¬ cmpAd b a < 0) (h2 : ¬ cmpAd c b < 0) : ¬ cmpAd c a < 0 := by
 intro h3
 by_cases h4 : cmpAd a b < 0
 · exact h2 (totAd.tr c a b h3 h4)
 · have := ad_anti a b h1 h4
   subst this
   exact h2 h3
theorem ad_total (a b : Bs 16) : ¬ cmpAd b a < 0 ∨ ¬ cmpAd a b < 0 := by
 have h3 := totAd.neg a b
 have h4 := totAd.neg b a
 omega
theorem srt_perm (l : List (Bs 16)) : (srtA l).Perm l := List.mergeSort_perm l _
theorem srt_sorted (l : List (Bs 16)) : (srtA l).Pairwise fun a b => ¬ cmpAd b a < 0 := by
 have h := List.pairwise_mergeSort (le := fun a b : Bs 16 => decide (¬ cmpAd b a < 0)) (fun a b c h1 h2 => decide_eq_true (ad_trans a b c (of_decide_eq_true h1) (of_decide_eq_true h2))) (fun a b => by rw [Bool.or_eq_true]; exact (ad_total a b).imp decide_eq_true decide_eq_true) l
 exact h.imp fun h => of_decide_eq_true h
theorem keys_srt {M : TabM} {ks : List (Bs 16)} (h : KeysOf M ks) : ks = srtA (M.map (·.1)) :=
 List.Perm.eq_of_pairwise (le := fun a b : Bs 16 => ¬ cmpAd b a < 0) (fun a b _ _ h1 h2 => ad_anti a b h1 h2) h.2 (srt_sorted _) (h.1.trans (srt_perm _).symm)
/-- What is sent. -/
structure SentX where
 k : Int
 to : Bs 16
 y : SlX
@[reducible] def sentE (s : SentX) : List Value := Sent.enc ⟨s.k, s.to, ⟨s.y.a, s.y.n, s.y.c⟩⟩
abbrev SentM := Int × Bs 16 × List UInt8
def sentM (s : SentX) : SentM := (s.k, s.to, s.y.l)
theorem sentE_len (s : SentX) : (sentE s).length = 18 := Sent.enc_len _
def outI (k : Nat) (x : OneX) (t : Bs 16) : List SentM := (flushF x.c.addr x.c.mtu ((alook x.ws t).getD [])).map fun p => ((k : Int), t, p)
def flushI (k : Nat) (x : OneX) : List SentM := (srtA (x.ws.map (·.1))).flatMap (outI k x)
def flushS : Nat → List OneX → List SentM
 | _, [] => []
 | k, x :: M => flushI k x ++ flushS (k + 1) M
theorem flushS_app (A B : List OneX) : ∀ k, flushS k (A ++ B) = flushS k A ++ flushS (k + A.length) B := by
 induction A with
 | nil => intro k; rfl
 | cons x A ih =>
   intro k
   simp only [List.cons_append, flushS, ih, List.append_assoc, List.length_cons]
   rw [show k + 1 + A.length = k + (A.length + 1) by omega]
theorem flushS_step {M : List OneX} {i : Nat} {x : OneX} (h : M[i]? = some x) : flushS 0 (M.take (i + 1)) = flushS 0 (M.take i) ++ flushI i x := by
 have hi := (List.getElem?_eq_some_iff.1 h).1
 rw [take_succ_get h, flushS_app, List.length_take, Nat.min_eq_left (by omega)]
 simp [flushS]
theorem flushS_le {M : List OneX} {i : Nat} {x : OneX} (h : M[i]? = some x) {j : Nat} {t : Bs 16} (ht : (srtA (x.ws.map (·.1)))[j]? = some t) : (flushS 0 (M.take i)).length + (((srtA (x.ws.map (·.1))).take j).flatMap (outI i x)).length + (outI i x t).length ≤ (flushS 0 M).length := by
 have e1 := congrArg List.length (flushS_step h)
 have e2 : flushS 0 M = flushS 0 (M.take (i + 1)) ++ flushS (0 + (M.take (i + 1)).length) (M.drop (i + 1)) := by
   conv => lhs; rw [← List.take_append_drop (i + 1) M]
   exact flushS_app _ _ 0
 have e3 := congrArg List.length e2
 have e4 : ((srtA (x.ws.map (·.1))).take (j + 1)).flatMap (outI i x) = ((srtA (x.ws.map (·.1))).take j).flatMap (outI i x) ++ outI i x t := by
   rw [take_succ_get ht, List.flatMap_append]; simp
 have e5 : flushI i x = ((srtA (x.ws.map (·.1))).take (j + 1)).flatMap (outI i x) ++ ((srtA (x.ws.map (·.1))).drop (j + 1)).flatMap (outI i x) := by
   unfold flushI
   conv => lhs; rw [← List.take_append_drop (j + 1) (srtA (x.ws.map (·.1)))]
   exact List.flatMap_append
 have e6 := congrArg List.length e5
 rw [e4] at e6
 simp only [List.length_append] at e1 e3 e6
 omega
def fitP (c : IfConf) (p : Tlv × List Int) : Prop := fitsF c.addr c.mtu { p.1 with stamps := ⟨none, p.2.length, 0⟩ } p.2 = 0 ∧ ({ p.1 with stamps := ⟨none, p.2.length, 0⟩ } : Tlv).WF ∧ ∀ n ∈ p.2, 0 ≤ n ∧ n < 4294967296
/-- An interface that may be. -/
structure OkX (x : OneX) : Prop where
 nd : (x.ws.map (·.1)).Nodup
 m1 : 64 ≤ x.c.mtu
 m2 : x.c.mtu ≤ 65539
 few : ∀ e ∈ x.ws, e.2.length ≤ 1000000
 fit : ∀ e ∈ x.ws, ∀ p ∈ e.2, fitP x.c p
 cnt : x.ws.length ≤ 1000000
def resetX (x : OneX) : OneX := { x with ws := [] }
theorem wsOf_look {E : EnX} {ws : WsX} (h : wsOf E = ws) (t : Bs 16) : alook ws t = (alook E t).map fun (e : Nat × BufX) => e.2.ts.map tlvM := by rw [← h]; exact alook_map (fun (e : Nat × BufX) => e.2.ts.map tlvM) E t
theorem wsOf_keys {E : EnX} {ws : WsX} (h : wsOf E = ws) : E.map (·.1) = ws.map (·.1) := by rw [← h]; unfold wsOf; rw [List.map_map]; rfl
theorem alook_mem {α : Type} {E : List (Bs 16 × α)} {k : Bs 16} {v : α} (h : alook E k = some v) : (k, v) ∈ E := by
 obtain ⟨A, B, rfl, _⟩ := alook_split h
 simp
theorem look_key {α : Type} {E : List (Bs 16 × α)} {k : Bs 16} (h : k ∈ E.map (·.1)) : ∃ v, alook E k = some v := by
 cases hq : alook E k with
 | some v => exact ⟨v, rfl⟩
 | none =>
   obtain ⟨e, he, hek⟩ := List.mem_map.1 h
   exact absurd hek (alook_none.1 hq e he)
theorem buf_ok {x : OneX} (hx : OkX x) {E : EnX} (hE : wsOf E = x.ws) {t : Bs 16} {bb : Nat} {q : BufX} (hl : alook E t = some (bb, q)) : (∀ z ∈ q.ts, fitsF x.c.addr x.c.mtu (tlvS z) z.l = 0) ∧ (∀ z ∈ q.ts, (tlvS z).WF) ∧ (∀ z ∈ q.ts, ∀ n ∈ z.l, 0 ≤ n ∧ n < 4294967296) ∧ q.ts.length ≤ 1000000 ∧ alook x.ws t = some (q.ts.map tlvM) := by
 have h1 := wsOf_look hE t
 rw [hl] at h1
 have h2 := alook_mem h1
 have h3 : ∀ z ∈ q.ts, fitP x.c (tlvM z) := fun z hz => hx.fit _ h2 _ (List.mem_map_of_mem hz)
 refine ⟨fun z hz => ?_, fun z hz => (h3 z hz).2.1, fun z hz => (h3 z hz).2.2, by have := hx.few _ h2; simpa using this, h1⟩
 rw [fits_tlvM]
 exact (h3 z hz).1
theorem rowsS_app {os ps : List SlX} {p : PH} (g : stars [rowsS os, rowsS ps] p) : rowsS (os ++ ps) p := by
 obtain ⟨h1, h2, d, rfl, g1, g2⟩ := g
 unfold rowsS
 rw [List.map_append]
 exact stars_append.2 ⟨h1, h2, d, rfl, g1, stars_one.1 g2⟩
theorem l2_at {β : Type} {f : β → β} {L : List β} {i : Nat} {e : β} (h : L[i]? = some e) : ((L.take i).map f ++ L.drop i)[i]? = some e := by
 have hi := (List.getElem?_eq_some_iff.1 h).1
 rw [List.getElem?_append_right (by simp; omega)]
 simp only [List.length_map, List.length_take, Nat.min_eq_left (Nat.le_of_lt hi), Nat.sub_self, List.getElem?_drop, Nat.add_zero]
 exact h
theorem l2_set {β : Type} {f : β → β} {L : List β} {i : Nat} {e : β} (h : L[i]? = some e) : ((L.take i).map f ++ L.drop i).set i (f e) = (L.take (i + 1)).map f ++ L.drop (i + 1) := by
 obtain ⟨hi, he⟩ := List.getElem?_eq_some_iff.1 h
 rw [List.set_append_right _ _ (by simp; omega)]
 simp only [List.length_map, List.length_take, Nat.min_eq_left (Nat.le_of_lt hi), Nat.sub_self]
 rw [List.drop_eq_getElem_cons hi, List.set_cons_zero, take_succ_get h, List.map_append, List.append_assoc]
 rfl
theorem drop_get {β : Type} {ks : List β} {j : Nat} {t : β} (h : ks[j]? = some t) : t ∈ ks.drop j := by
 obtain ⟨hj, he⟩ := List.getElem?_eq_some_iff.1 h
 rw [List.drop_eq_getElem_cons hj, he]
 simp
theorem drop_ne {β : Type} {ks : List β} (hnd : ks.Nodup) {j : Nat} {t : β} (h : ks[j]? = some t) : ∀ u ∈ ks.drop (j + 1), t ≠ u ∧ u ∈ ks.drop j := fun u hu => by
 obtain ⟨hj, he⟩ := List.getElem?_eq_some_iff.1 h
 have e1 : ks.drop j = t :: ks.drop (j + 1) := by rw [List.drop_eq_getElem_cons hj, he]
 have h2 : (ks.drop j).Nodup := (List.drop_sublist j ks).nodup hnd
 rw [e1, List.nodup_cons] at h2
 exact ⟨fun h9 => h2.1 (h9 ▸ hu), by rw [e1]; exact List.mem_cons_of_mem _ hu⟩
/-- What the loop over an interface's addresses holds. -/
structure KyS where
 E : EnX
 us : List SentX

set_option maxHeartbeats 4000000 in
theorem flushS_spec (F : Fr) {b : Nat} {a : Option Addr} {c : Nat} {L : List (Nat × OneX)} (hS : InS F b a c (L.map (·.1))) (hok : ∀ e ∈ L, OkX e.2) (hfew : (flushS 0 (L.map (·.2))).length ≤ 4000000000) (hLn : L.length ≤ 1000000)  : Spec Tryz.prog 20 #[.pointer (some ⟨b, 0, none⟩)] [rowsW oneA L] F (fun v S => ∃ us : List SentX, us.map sentM = flushS 0 (L.map (·.2)) ∧ S = [rowsW oneA (L.map (fun e => (e.1, resetX e.2))), slA 77 18 sentE v us, rowsS (us.map (·.y))]) := by
 have hlm : (L.map (·.1)).length = L.length := List.length_map _
 refine Spec.intro (N := 58) (args := [.pointer (some ⟨b, 0, none⟩)]) Tryz.func20 rfl rfl (by simp) ?_
 refine Zs fun _ hk1 => Sg 0 E3 <| Zl hk1 <| Run.seq fun _ hk2 => Zs fun _ hk3 => Mv 0 E3 <| Qp 1 E2 (QP.ptr_eq_nil rfl rfl rfl Tryz.underlying27) <| Zl hk3 <| Zf <| Run.skip <| hk2 _ _ <| Run.seq fun _ hk4 => Zs fun _ hk5 => J.addSl 77 18 sentE ?_
 refine J.addRowsS ?_
 refine Mv 0 E3 <| Qp 1 E2 (Zn E2) <| Fa 2 E3 f87_0 <| Qq 3 E2 (QR.load1F rfl rfl g85 hS.row (IfaceSet.sub_l _)) ?_
 refine Qp 4 E2 (QP.len rfl rfl rfl Tryz.underlying85) ?_
 rw [hlm]
 refine Mv 5 E3 <| Zl hk5 <| Run.block <| Run.loop3 (fun (i : Nat) (us : List SentX) (vo : Value) => i ≤ L.length ∧ us.map sentM = flushS 0 ((L.map (·.2)).take i)) (fun i us vo => .cons 2 (vo) (.cons 14 (.slice a L.length c) (.cons 15 (.int .i64 L.length) (.cons 16 (.int .i64 i) (.nil))))) (fun i us vo => [rowsW oneA ((L.take i).map (fun e => (e.1, resetX e.2)) ++ L.drop i), slA 77 18 sentE vo us, rowsS (us.map (·.y))]) (fun i us vo => L.length - i) (0) ([]) (.slice none 0 0) (⟨Nat.zero_le _, rfl⟩) ?_ ?_
 ·exact fun _ j => J.envJ (J.keep Tk3 j) ⟨rfl, rfl, rfl, rfl, trivial⟩
 rintro i us vo ⟨hile, hus⟩ kl6 hl6
 refine Zs fun _ hk7 => Qp 0 E2 (Zb E3) <| J.caseD (fun c17 => ?_) (fun c17 => ?_)
 ·refine Zl hk7 <| Run.seq fun _ hk8 => Zt <| Run.skip <| hk8 _ _ <| Run.seq fun _ hk9 => Run.block <| Run.seq fun _ hk10 => Run.region ?_
  obtain ⟨e, hi⟩ : ∃ e, L[i]? = some e := ⟨_, GE (by omega)⟩
  obtain ⟨bi, x⟩ := e
  have hip : (L.map (·.1))[i]? = some bi := by rw [List.getElem?_map, hi]; rfl
  have hix : (L.map (·.2))[i]? = some x := by rw [List.getElem?_map, hi]; rfl
  obtain ⟨sb, so, rfl, hs0⟩ := hS.sl.get (by omega)
  have hx : OkX x := hok _ (List.mem_of_getElem? hi)
  have hi2 : ((L.take i).map (fun e => (e.1, resetX e.2)) ++ L.drop i)[i]? = some (bi, x) := l2_at hi
  refine J.openE (T := fun _ : Unit => [oneA bi x, rowsW oneA (((L.take i).map (fun e => (e.1, resetX e.2)) ++ L.drop i).eraseIdx i)]) Rc (fun p g => ⟨(), rowsW_at hi2 g⟩) (fun _ => ?_)
  refine J.app <| J.openE (T := fun z : Option Nat × EnX => oneL bi x z) Rc (fun p g => one_open p g) (fun z => ?_)
  obtain ⟨w, E⟩ := z
  refine J.app <| J.fact Rc (fun hE => ?_)
  have hpl : (ptrs E).length = x.ws.length := by rw [← hE]; unfold ptrs wsOf; simp
  have hkk := wsOf_keys hE
  refine Mv 0 E3 <| Qp 1 E2 (QP.indexAddr rfl rfl rfl Tryz.underlying85 z88 Og Og) <| Qq 2 E2 (QR.loadSl1 (ev := pv) rfl rfl g88 (hs0 _) hip) ?_
  refine Sg 3 E3 <| Sg 4 E3 <| Zl hk10 <| Run.seq fun _ hk11 => Zs fun _ hk12 => Mv 0 E3 <| Qp 1 E2 (Zn E2) <| Fa 2 E3 f91_3 <| Qq 3 E2 (Z1 E2 g89 (IfaceOne.sub_wait _)) ?_
  refine Ef 4 E2 (Zc E2 ce41 TN (fun F' hle hr => keys_spec F' (r := w))) ?_
  rintro _ _ ⟨_, ⟨bx, rfl, rfl⟩, rfl⟩
  refine J.app <| Ef 5 E2 (Zc E2 ce40 Tk2 (fun F' hle hr => sortedFunc_spec F' (r := w) (M := ptrs E) (by have := hx.cnt; rw [hpl]; omega))) ?_
  rintro vk _ ⟨_, ⟨ks, hks, rfl⟩, rfl⟩
  refine J.app ?_
  have hke : ks = (srtA (x.ws.map (·.1))) := by rw [keys_srt hks, ← hkk]; unfold ptrs; rw [List.map_map]; rfl
  have hkl : ks.length ≤ 1000000 := by have h1 := hks.1.length_eq; rw [List.length_map] at h1; have := hx.cnt; omega
  have hknd : ks.Nodup := by rw [hke]; exact (srt_perm _).nodup_iff.2 hx.nd
  refine Sq.slCase (v := vk) (xs := ks) Rc (fun ak ck hvk hhk => ?_)
  subst hvk
  refine Qp 6 E2 (QP.len rfl rfl rfl Tryz.underlying71) <| Mv 7 E3 <| Zl hk12 <| Run.block <| Run.loop3 (fun (j : Nat) (qs : KyS) (vp : Value) => j ≤ ks.length ∧ qs.us.map sentM = flushS 0 ((L.map (·.2)).take i) ++ (ks.take j).flatMap (outI i x) ∧ ∀ t ∈ ks.drop j, alook qs.E t = alook E t) (fun j qs vp => .cons 2 (vp) (.cons 3 (.int .i64 i) (.cons 4 (.pointer (some ⟨bi, 0, none⟩)) (.cons 14 (.slice (some ⟨sb, so, none⟩) L.length c) (.cons 15 (.int .i64 L.length) (.cons 16 (.int .i64 i) (.cons 26 (.slice ak ks.length ck) (.cons 27 (.int .i64 ks.length) (.cons 28 (.int .i64 j) (.nil)))))))))) (fun j qs vp => [blk bi (IfaceOne.enc (oneO x w)) 91, mapE w (ptrs E), rowsQ (bufA x.c) qs.E, slA 32 16 Bs.enc (.slice ak ks.length ck) ks, slA 77 18 sentE vp qs.us, rowsS (qs.us.map (·.y)), rowsW oneA (((L.take i).map (fun e => (e.1, resetX e.2)) ++ L.drop i).eraseIdx i)]) (fun j qs vp => ks.length - j) (0) ((⟨E, us⟩ : KyS)) (vo) (⟨Nat.zero_le _, by rw [List.take_zero, List.flatMap_nil, List.append_nil]; exact hus, fun _ _ => rfl⟩) ?_ ?_
  ·exact fun _ j => J.envJ (J.keep Tk7 j) ⟨rfl, rfl, rfl, rfl, rfl, rfl, rfl, rfl, rfl, trivial⟩
  rintro j qs vp ⟨hjle, hqu, hq⟩ kl13 hl13
  refine Zs fun _ hk14 => Qp 0 E2 (Zb E3) <| J.caseD (fun c29 => ?_) (fun c29 => ?_)
  ·refine Zl hk14 <| Run.seq fun _ hk15 => Zt <| Run.skip <| hk15 _ _ <| Run.seq fun _ hk16 => Run.block <| Run.seq fun _ hk17 => Run.region ?_
   obtain ⟨t, ht⟩ : ∃ t, ks[j]? = some t := ⟨_, GE (by omega)⟩
   have htm : t ∈ E.map (·.1) := by rw [hkk]; exact (srt_perm _).subset (by rw [← hke]; exact List.mem_of_getElem? ht)
   obtain ⟨⟨bb, q⟩, hlE⟩ := look_key htm
   have hlQ : alook qs.E t = some (bb, q) := by rw [hq t (by exact drop_get ht), hlE]
   have hlp : alook (ptrs E) t = some bb := by rw [alook_ptrs, hlE]; rfl
   obtain ⟨hb1, hb2, hb3, hb4, hb5⟩ := buf_ok hx hE hlE
   obtain ⟨bk, ok, rfl⟩ := hhk.get (by omega)
   refine Qp 0 E2 (QP.indexAddr rfl rfl rfl Tryz.underlying71 z32 Og Og) <| Qq 1 E2 (QR.loadSl (y := t) rfl rfl g32 Bs.len (SlAt.own Bs.len Rc) ht) ?_
   refine Ef 2 E2 (EF.allocA (l := (Bs.zero 16).enc) rfl zero32) ?_
   rintro _ _ ⟨b6, rfl, rfl⟩
   refine Ac 3 rfl (EF.storeA rfl rfl rfl z32 (SetL.all (Bs.len _) (Bs.len _)) (Bs.cell _)) ?_
   rintro _ _ rfl
   refine Zl hk17 <| Run.seq fun _ hk18 => Run.regionD (M := [0, 1, 3, 7, 0, 31, 63, 127, 0]) (q := 447) (r := 56) Kr ?_
   refine Dw.openE (T := fun _ : Unit => [bufA x.c bb q, rowsQ (bufA x.c) (adel qs.E t)]) Rc (fun p g => ⟨(), rowsQ_out hlQ g⟩) (fun _ => ?_)
   refine Dw.app ?_
   refine Dw.openE (T := fun _ : Unit => bufL x.c bb q) Rc (fun p g => ⟨(), g⟩) (fun _ => ?_)
   refine Dw.app ?_
   refine Dp 0 E2 (Zm E2) <| Dp 1 E2 (Zn E2) <| Dp 2 E2 (Za E2 f91_3) <| Dr 3 E2 (Z1 E2 g89 (IfaceOne.sub_wait _)) ?_
   refine Dr 4 E2 (Z0 E2 g32 (Bs.sub _)) ?_
   refine Dr 5 E2 (lookW_some key32 rfl rfl Rc rfl Tryz.underlying89 zero104 hlp) ?_
   refine Dp 8 E2 (Zm E2) <| De 6 <| Om [] rfl rfl (Zc E2 ce43 Tk3 (fun F' hle hr => flush_spec F' (src := x.c.addr) (mtu := x.c.mtu) (ts := q.ts) hb1 hb2 hb3 hb4 hx.m1 hx.m2)) ?_
   rintro _ _ ⟨_, ⟨os, oa, oc, la2, lc2, rfl, hos, rfl⟩, rfl⟩
   refine N0 <| J.app <| J.addTlvs ?_
   refine J.close (A := bufA x.c bb ⟨la2, lc2, []⟩) (m := bufL x.c bb ⟨la2, lc2, []⟩) Tk3 (fun _ g => g) ?_
   refine J.close (A := rowsQ (bufA x.c) (aset qs.E t (bb, ⟨la2, lc2, []⟩))) (m := [bufA x.c bb ⟨la2, lc2, []⟩, rowsQ (bufA x.c) (adel qs.E t)]) Tk2 (fun _ g => rowsQ_in hlQ g) ?_
   refine Dw.slCase (v := .slice oa os.length oc) (xs := os) Rc (fun ao co hvo hho => ?_)
   cases hvo
   have hout : (os.map (fun y => (⟨(i : Int), t, y⟩ : SentX))).map sentM = outI i x t := by unfold outI; rw [hb5, Option.getD_some, ← hos, List.map_map, List.map_map]; rfl
   have hcnt : qs.us.length + os.length ≤ 4000000000 := by have h1 := congrArg List.length hqu; have h2 := congrArg List.length hout; have h3 := flushS_le hix (j := j) (t := t) (by rw [← hke]; exact ht); simp only [List.length_map, List.length_append] at h1 h2; rw [← hke] at h3; omega
   refine J.slEq (v := vp) Rc (show qs.us = qs.us ++ (os.take 0).map (fun y => (⟨(i : Int), t, y⟩ : SentX)) by simp) ?_
   refine Dp 7 E2 (QP.len rfl rfl rfl Tryz.underlying108) <| Dn <| hk18 _ _ <| Run.block <| Run.loop2 (fun (m : Nat) (vq : Value) => m ≤ os.length) (fun m vq => .cons 2 (vq) (.cons 3 (.int .i64 i) (.cons 4 (.pointer (some ⟨bi, 0, none⟩)) (.cons 6 (fp b6) (.cons 14 (.slice (some ⟨sb, so, none⟩) L.length c) (.cons 15 (.int .i64 L.length) (.cons 16 (.int .i64 i) (.cons 26 (.slice (some ⟨bk, ok, none⟩) ks.length ck) (.cons 27 (.int .i64 ks.length) (.cons 28 (.int .i64 j) (.cons 38 (.slice oa os.length oc) (.cons 39 (.int .i64 os.length) (.cons 40 (.int .i64 m) (.nil)))))))))))))) (fun m vq => [blk bi (IfaceOne.enc (oneO x w)) 91, mapE w (ptrs E), rowsQ (bufA x.c) (aset qs.E t (bb, ⟨la2, lc2, []⟩)), slA 32 16 Bs.enc (.slice (some ⟨bk, ok, none⟩) ks.length ck) ks, slA 77 18 sentE vq (qs.us ++ (os.take m).map (fun y => (⟨(i : Int), t, y⟩ : SentX))), rowsS (qs.us.map (·.y)), rowsW oneA (((L.take i).map (fun e => (e.1, resetX e.2)) ++ L.drop i).eraseIdx i), blk b6 (Bs.enc t) 32, slA 75 1 slE (.slice oa os.length oc) os, rowsS os]) (fun m vq => os.length - m) (0) (vp) (Nat.zero_le _) ?_ ?_
   ·exact fun _ j => J.envJ (J.keep (.cons Rc Tk9) j) ⟨rfl, rfl, rfl, rfl, rfl, rfl, rfl, rfl, rfl, rfl, rfl, rfl, rfl, trivial⟩
   rintro m vq hmle kl19 hl19
   refine Zs fun _ hk20 => Qp 0 E2 (Zb E3) <| J.caseD (fun c41 => ?_) (fun c41 => ?_)
   ·refine Zl hk20 <| Run.seq fun _ hk21 => Zt <| Run.skip <| hk21 _ _ <| Run.seq fun _ hk22 => Run.block <| Run.seq fun _ hk23 => Run.region ?_
    obtain ⟨y, hy⟩ : ∃ y, os[m]? = some y := ⟨_, GE (by omega)⟩
    obtain ⟨bo, oo, rfl⟩ := hho.get (by omega)
    refine Qp 0 E2 (QP.indexAddr rfl rfl rfl Tryz.underlying108 z75 Og Og) <| Qq 1 E2 (QR.loadSl1 (ev := fun y : SlX => Value.slice y.a y.n y.c) rfl rfl g75 (SlAt.own (fun _ => rfl) Rc) hy) ?_
    refine Sg 2 E3 <| Zl hk23 <| Run.region <| Mv 0 E3 <| Mv 1 E3 <| Qq 2 E2 (Z0 E2 g32 (Bs.sub _)) ?_
    refine Mv 3 E3 <| Qp 4 E2 (QP.build (l := sentE (⟨(i : Int), t, y⟩ : SentX)) rfl st77 rfl (by exact ⟨rfl, (congrArg some (Bs.len _).symm), rfl, trivial⟩) rfl) <| Ef 5 E2 (EF.buildSlice1 rfl Tryz.underlying58 z77 zero77 (by simp [Value.cells, Sent.enc_len]) (by decide) rfl rfl (Sent.enc_len _) (by decide)) ?_
    rintro _ _ ⟨b49, rfl, rfl⟩
    refine Ef 6 E2 (EF.append1 (xs := (qs.us ++ (os.take m).map (fun y => (⟨(i : Int), t, y⟩ : SentX)))) (s := (⟨(i : Int), t, y⟩ : SentX)) (enc := sentE) el77 sentE_len (fun _ => Sent.enc_cell _) rfl rfl rfl Tryz.underlying58 Tryz.underlying58 rfl rfl Rc Rc (by simp only [List.length_append, List.length_map, List.length_take]; omega)) ?_
    rintro sl50 _ rfl
    refine Sg 7 E3 <| Zl hk22 <| Run.region <| Qp 0 E2 (QP.add64 rfl rfl rfl Og Og) <| Mv 1 E3 <| Sq.nil ?_
    rw [show (qs.us ++ (os.take m).map (fun y => (⟨(i : Int), t, y⟩ : SentX))) ++ [(⟨(i : Int), t, y⟩ : SentX)] = (qs.us ++ (os.take (m + 1)).map (fun y => (⟨(i : Int), t, y⟩ : SentX))) by rw [take_succ_get hy, List.map_append, List.append_assoc]; rfl]
    exact J.envJ (J.keep (.cons Rc Tk9) (hl19 (m + 1) (sl50) (by omega) (by omega))) ⟨rfl, rfl, rfl, rfl, rfl, rfl, rfl, rfl, rfl, rfl, rfl, rfl, rfl, trivial⟩
   ·refine Zl hk20 <| Run.seq fun _ hk24 => Zf <| Run.exit rfl <| hk16 _ _ <| Run.region ?_
    rw [List.take_of_length_le (by omega)]
    refine J.close (A := rowsS (qs.us.map (·.y) ++ os)) (m := [rowsS (qs.us.map (·.y)), rowsS os]) Tk2 (fun _ g => rowsS_app g) ?_
    rw [show qs.us.map (·.y) ++ os = (qs.us ++ os.map (fun y => (⟨(i : Int), t, y⟩ : SentX))).map (·.y) by rw [List.map_append, List.map_map]; simp [Function.comp_def]]
    exact Qp 0 E2 (QP.add64 rfl rfl rfl Og Og) <| Mv 1 E3 <| Sq.nil <| J.envJ (J.keep Tk7 (hl13 (j + 1) ((⟨aset qs.E t (bb, ⟨la2, lc2, []⟩), qs.us ++ os.map (fun y => (⟨(i : Int), t, y⟩ : SentX))⟩ : KyS)) (vq) (⟨by omega, by rw [List.map_append, hqu, hout, take_succ_get ht, List.flatMap_append, List.append_assoc]; simp, fun u hu => by obtain ⟨h1, h2⟩ := drop_ne hknd ht u hu; rw [alook_aset_ne h1]; exact hq u h2⟩) (by omega))) ⟨rfl, rfl, rfl, rfl, rfl, rfl, rfl, rfl, rfl, trivial⟩
  ·refine Zl hk14 <| Run.seq fun _ hk25 => Zf <| Run.exit rfl <| hk11 _ _ <| Run.region ?_
   have hus2 : qs.us.map sentM = flushS 0 ((L.map (·.2)).take (i + 1)) := by have hjj : ks.take j = ks := List.take_of_length_le (by omega); rw [hqu, hjj, flushS_step hix]; unfold flushI; rw [hke]
   refine Mv 0 E3 <| Qp 1 E2 (Zn E2) <| Fa 2 E3 f91_3 <| Ac 3 rfl (EF.store rfl rfl rfl z89 (IfaceOne.set_wait _ none) (cell_one rfl)) ?_
   rintro _ _ rfl
   refine Zl hk9 <| Run.region <| Qp 0 E2 (QP.add64 rfl rfl rfl Og Og) <| Mv 1 E3 <| Sq.nil <| J.close (A := oneA bi (resetX x)) (m := [blk bi (IfaceOne.enc (oneO (resetX x) none)) 91]) Tk1 (fun p q => one_new rfl p q) ?_
   refine J.close (A := rowsW oneA (((L.take i).map (fun e => (e.1, resetX e.2)) ++ L.drop i).set i (bi, resetX x))) (m := [oneA bi (resetX x), rowsW oneA (((L.take i).map (fun e => (e.1, resetX e.2)) ++ L.drop i).eraseIdx i)]) Tk2 (fun _ g => rowsW_back hi2 g) ?_
   rw [l2_set (f := fun e : Nat × OneX => (e.1, resetX e.2)) hi]
   exact J.envJ (J.keep Tk3 (hl6 (i + 1) (qs.us) (vp) (⟨by omega, hus2⟩) (by omega))) ⟨rfl, rfl, rfl, rfl, trivial⟩
 ·refine Zl hk7 <| Run.seq fun _ hk26 => Zf <| Run.exit rfl <| hk4 _ _ <| Zs fun _ hk27 => Mv 0 E3 <| Sg 1 E3 <| Zl hk27 <| Run.ret ?_
  have hus9 : us.map sentM = flushS 0 (L.map (·.2)) := by rw [hus, List.take_of_length_le (by rw [List.length_map]; omega)]
  rw [List.take_of_length_le (by omega), List.drop_eq_nil_of_le (by omega), List.append_nil]
  exact J.ends (res_tmp rfl rfl) Tk3 ⟨us, hus9, rfl⟩
end Slb
