/- J46: a part of the proof that a law of this package holds for every input; no condition. -/
import Derived.Test.YtfokodhfjdhdaaaGreatJ45
namespace Slb
open Go Go.Proofs
set_option maxRecDepth 20000
theorem own5 {t : Tlv} (h : t.type = 5) : ownF t = (if t.all = false then ({ (ownB t) with rxcost := t.rxcost, interval := t.interval, all := t.all, addr := t.addr } : Tlv) else ({ (ownB t) with rxcost := t.rxcost, interval := t.interval, all := t.all } : Tlv), true) := by
 unfold ownF; rw [if_neg (by omega), if_neg (by omega), if_neg (by omega), if_pos h]
theorem own8 {t : Tlv} (h : t.type = 8) : ownF t = (if t.metric ≠ 65535 then ({ (ownB t) with interval := t.interval, seqno := t.seqno, metric := t.metric, all := t.all, id_ := t.id_, addr := t.addr } : Tlv) else ({ (ownB t) with interval := t.interval, seqno := t.seqno, metric := t.metric, all := t.all } : Tlv), true) := by
 unfold ownF; rw [if_neg (by omega), if_neg (by omega), if_neg (by omega), if_neg (by omega), if_pos h]
theorem own9 {t : Tlv} (h : t.type = 9) : ownF t = (({ (ownB t) with all := t.all } : Tlv), true) := by
 unfold ownF; rw [if_neg (by omega), if_neg (by omega), if_neg (by omega), if_neg (by omega), if_neg (by omega), if_pos h]
theorem read_piece {t : Tlv} {st : List Int} {x : PrS} (hw : t.WF) (hc : checkF t = 0) (hs : t.stamps.n = st.length) (hr : ∀ m ∈ st, 0 ≤ m ∧ m < 4294967296)
   (hx : t.type = 8 → t.metric ≠ 65535 → x.id = some t.id_ ∧ alook x.hops (n64 (pfamilyB t.pair.dst)) = some t.addr) :
   ∃ T : Tlv, readF x t.type (bodyF t st) = ((T, true, st), x) ∧ norm T = norm t := by
 have hn := chk_norm hc
 have ht : t.type = 2 ∨ t.type = 3 ∨ t.type = 4 ∨ t.type = 5 ∨ t.type = 8 ∨ t.type = 9 ∨ t.type = 10 := by
   have h1 := (chk_own hc).1
   unfold ownF at h1
   repeat' (first | omega | split at h1)
   all_goals first | omega | cases h1
 rcases ht with h | h | h | h | h | h | h
 · have hst := zero_times hc hs (by omega)
   subst hst
   exact ⟨_, by rw [h]; exact read2 hw h, by rw [hn]; unfold ownF; rw [if_pos h]; unfold ownB pairedB; simp [h, norm, Tlv.zero]⟩
 · have hst := zero_times hc hs (by omega)
   subst hst
   exact ⟨_, by rw [h]; exact read3 hw h, by rw [hn]; unfold ownF; rw [if_neg (by omega), if_pos h]; unfold ownB pairedB; simp [h, norm, Tlv.zero]⟩
 · exact ⟨_, by rw [h]; exact read4 hw hc hs hr h, by rw [hn]; unfold ownF; rw [if_neg (by omega), if_neg (by omega), if_pos h]; unfold ownB pairedB; simp [h, norm, Tlv.zero]⟩
 · exact ⟨_, by rw [h]; exact read5 hw hc hs hr h, by
     rw [hn, own5 h]
     unfold ownB pairedB
     cases hall : t.all <;> simp [h, norm, Tlv.zero, hall]⟩
 · have hst := zero_times hc hs (by omega)
   subst hst
   exact ⟨_, by rw [h, body_routed (.inl h)]; exact read8 hw hc h (hx h), by
     rw [hn, own8 h]
     unfold ownB pairedB
     by_cases hm : t.metric = 65535 <;> cases hall : t.all <;> simp [h, norm, Tlv.zero, hall, hm]⟩
 · have hst := zero_times hc hs (by omega)
   subst hst
   exact ⟨_, by rw [h, body_routed (.inr (.inl h))]; exact read9 hc h, by
     rw [hn, own9 h]
     unfold ownB pairedB
     cases hall : t.all <;> simp [h, norm, Tlv.zero, hall]⟩
 · have hst := zero_times hc hs (by omega)
   subst hst
   exact ⟨_, by rw [h, body_routed (.inr (.inr h))]; exact read10 hw hc h, by
     rw [hn]; unfold ownF; rw [if_neg (by omega), if_neg (by omega), if_neg (by omega), if_neg (by omega), if_neg (by omega), if_neg (by omega), if_pos h]
     unfold ownB pairedB
     simp [h, norm, Tlv.zero]⟩
theorem tell6 {i : Bs 8} {x : PrS} (hn : namedB i = true) : readF x 6 ([0, 0] ++ i.l) = ((Tlv.zero, false, []), { x with id := some i }) := by
 have e := id_back i []
 rw [List.append_nil] at e
 unfold readF tellF
 simp only [List.cons_append, List.nil_append, take2]
 rw [if_neg (by decide), if_neg (by decide), if_neg (by decide), if_neg (by decide), if_neg (by decide), if_neg (by decide), if_pos (by decide)]
 rw [if_pos (show (tlv0 6).type = 6 from rfl), e.1, e.2, if_pos ⟨rfl, hn⟩]
theorem tell7 {a : Bs 16} {x : PrS} : readF x 7 ([(adF a).1, 0] ++ (adF a).2) = ((Tlv.zero, false, []), { x with hops := aset x.hops (n64 (familyB a)) a }) := by
 have e := addr_back a []
 rw [List.append_nil] at e
 unfold readF tellF
 simp only [List.cons_append, List.nil_append, take1, u8F_cons]
 rw [if_neg (by decide), if_neg (by decide), if_neg (by decide), if_neg (by decide), if_neg (by decide), if_neg (by decide), if_pos (by decide)]
 rw [if_neg (show ¬ (tlv0 7).type = 6 by decide), e]
 simp only
 rw [decide_eq_true (ad_ne a)]
 rw [if_pos (by rfl)]
theorem place_fam {a b : Bs 16} : placeN a = placeN b ↔ familyB a = familyB b := by
 unfold placeN familyB
 repeat' split
 all_goals simp_all
theorem n64_inj {a b : Bs 16} (h : familyB a ≠ familyB b) : n64 (familyB a) ≠ n64 (familyB b) := fun h9 => by
 rw [n64_eq (family_range a), n64_eq (family_range b)] at h9
 exact h (congrArg Subtype.val h9)
theorem hop_same (td : PackTold) (a : Bs 16) : ((td.setHop (placeN a) a).setHas (placeN a) true).has (placeN a) = true ∧ ((td.setHop (placeN a) a).setHas (placeN a) true).hop (placeN a) = a := by
 unfold PackTold.setHas PackTold.setHop PackTold.has PackTold.hop
 rcases PackTold.two (placeN_lt a) with h | h <;> simp [h]
theorem hop_other (td : PackTold) (a : Bs 16) {k : Nat} (hk : k < 2) (hne : k ≠ placeN a) : ((td.setHop (placeN a) a).setHas (placeN a) true).has k = td.has k ∧ ((td.setHop (placeN a) a).setHas (placeN a) true).hop k = td.hop k := by
 unfold PackTold.setHas PackTold.setHop PackTold.has PackTold.hop
 rcases PackTold.two (placeN_lt a) with h | h <;> rcases PackTold.two hk with rfl | rfl <;> simp_all
theorem hop_id (td : PackTold) (a : Bs 16) : ((td.setHop (placeN a) a).setHas (placeN a) true).id_ = td.id_ := by
 unfold PackTold.setHas PackTold.setHop
 repeat' split
 all_goals rfl
theorem told_set {td : PackTold} {x : PrS} {a : Bs 16} (h : ToldX td x) : ToldX ((td.setHop (placeN a) a).setHas (placeN a) true) { x with hops := aset x.hops (n64 (familyB a)) a } := by
 refine ⟨by rw [hop_id]; exact h.1, fun b hb => ?_⟩
 by_cases hp : placeN b = placeN a
 · refine ⟨a, ?_, hp.symm, alook_aset_self _ _ _⟩
   rw [hp]
   exact (hop_same td a).2
 · have ho := hop_other td a (placeN_lt b) hp
   rw [ho.1] at hb
   obtain ⟨c, h1, h2, h3⟩ := h.2 b hb
   refine ⟨c, by rw [ho.2]; exact h1, h2, ?_⟩
   show alook (aset x.hops _ _) _ = _
   rw [alook_aset_ne (n64_inj (fun h9 => hp (h2 ▸ (place_fam.2 h9).symm))), h3]
theorem told_begin (src : Bs 16) : ToldX (toldB src) (begF src) := by
 have h : ToldX PackTold.zero ⟨none, [], []⟩ := ⟨.inl rfl, fun a ha => by unfold PackTold.has at ha; split at ha <;> cases ha⟩
 have h2 := told_set (a := src) h
 unfold begF toldB
 rw [← n64_eq (family_range src)]
 exact h2
/-- What a Tlv of one packet needs. -/
structure Fine (t : Tlv) (st : List Int) : Prop where
 w : t.WF
 c : checkF t = 0
 s : t.stamps.n = st.length
 r : ∀ m ∈ st, 0 ≤ m ∧ m < 4294967296
 f : t.type = 8 → t.metric ≠ 65535 → familyB t.addr = pfamilyB t.pair.dst
theorem id_named {t : Tlv} (hc : checkF t = 0) (h8 : t.type = 8) (hm : t.metric ≠ 65535) : namedB t.id_ = true := by
 have h2 := (chk_own hc).2.2.2.2.1
 unfold chk2 at h2
 simp only [h8, decide_true, Bool.true_and, Bool.and_eq_false_iff, decide_eq_false_iff_not, Bool.or_eq_false_iff, Bool.not_eq_false', ne_eq, Classical.not_not] at h2
 rcases h2 with h9 | h9
 · exact absurd h9 hm
 · exact h9.2
theorem named_ne {i : Bs 8} (h : namedB i = true) : i ≠ Bs.zero 8 := fun h9 => by
 rw [h9] at h
 exact absurd h (by decide)
/-- What the first part tells. -/
theorem add1_reads {td : PackTold} {x : PrS} {t : Tlv} (h : ToldX td x) (hn : namedB t.id_ = true) : ∃ pl x', splitF (add1 td t).2 = (pl, 0) ∧ runF x pl = ([], x') ∧ ToldX (add1 td t).1 x' ∧ x'.id = some t.id_ := by
 unfold add1
 split
 · rename_i he
   refine ⟨[], x, splitF_nil, rfl, h, ?_⟩
   rcases h.1 with h9 | h9
   · exact absurd (he ▸ h9) (named_ne hn)
   · rw [← he]; exact h9
 · refine ⟨_, _, splitF_raw (by decide) (by simp [t.id_.h]), ?_, (⟨.inr rfl, h.2⟩ : ToldX { td with id_ := t.id_ } { x with id := some t.id_ }), rfl⟩
   show runF x [(6, [0, 0] ++ t.id_.l)] = _
   rw [runF_cons, tell6 hn]
   rfl
theorem add2_reads {td : PackTold} {x : PrS} {t : Tlv} (h : ToldX td x) (hi : x.id = some t.id_) : ∃ pl x', splitF (add2 td t).2 = (pl, 0) ∧ runF x pl = ([], x') ∧ ToldX (add2 td t).1 x' ∧ x'.id = some t.id_ ∧ alook x'.hops (n64 (familyB t.addr)) = some t.addr := by
 unfold add2
 split
 · rename_i he
   obtain ⟨b, h1, h2, h3⟩ := h.2 t.addr he.1
   refine ⟨[], x, splitF_nil, rfl, h, hi, ?_⟩
   have : b = t.addr := by rw [← h1, he.2]
   rw [← this]; exact h3
 · have hl := ad_len t.addr
   refine ⟨_, _, splitF_raw (by decide) (by simp; omega), ?_, told_set h, hi, alook_aset_self _ _ _⟩
   show runF x [(7, [(adF t.addr).1, 0] ++ (adF t.addr).2)] = _
   rw [runF_cons, tell7]
   rfl
theorem ahead_reads {td : PackTold} {x : PrS} {t : Tlv} {st : List Int} (h : ToldX td x) (hf : Fine t st) : ∃ pl x', splitF (ahead td t).2 = (pl, 0) ∧ runF x pl = ([], x') ∧ ToldX (ahead td t).1 x' ∧ (t.type = 8 → t.metric ≠ 65535 → x'.id = some t.id_ ∧ alook x'.hops (n64 (pfamilyB t.pair.dst)) = some t.addr) := by
 unfold ahead
 split
 · rename_i h8
   obtain ⟨p1, x1, h1, h2, h3, h4⟩ := add1_reads h (id_named hf.c h8.1 h8.2)
   obtain ⟨p2, x2, k1, k2, k3, k4, k5⟩ := add2_reads h3 h4
   refine ⟨p1 ++ p2, x2, ?_, ?_, k3, fun _ _ => ⟨k4, by rw [← hf.f h8.1 h8.2]; exact k5⟩⟩
   · show splitF ((add1 td t).2 ++ (add2 (add1 td t).1 t).2) = _
     rw [split_app _ _ _ (Nat.le_refl _) (by rw [h1]), h1, k1]
   · rw [run_append, h2, k2]; rfl
 · rename_i h8
   exact ⟨[], x, splitF_nil, rfl, h, fun a b => absurd ⟨a, b⟩ h8⟩
/-- What is added reads back. -/
theorem add_reads {td : PackTold} {x : PrS} {t : Tlv} {st : List Int} (h : ToldX td x) (hf : Fine t st) : ∃ pl x', splitF (addL td t st) = (pl, 0) ∧ runF x pl = ([(norm t, st)], x') ∧ ToldX (ahead td t).1 x' := by
 obtain ⟨p1, x1, h1, h2, h3, h4⟩ := ahead_reads h hf
 obtain ⟨T, e1, e2⟩ := read_piece hf.w hf.c hf.s hf.r h4
 have hst : st.length ≤ 2 := by rw [← hf.s]; exact (chk_facts hf.c).1
 have hb := body_len t hst
 have h0 := (chk_facts hf.c).2.1
 have hw := hf.w.1
 have hk : ((UInt8.ofNat t.type.toNat).toNat : Int) = t.type := by rw [UInt8.toNat_ofNat']; omega
 have hs := splitF_raw (k := UInt8.ofNat t.type.toNat) (fun h9 => by rw [h9] at hk; exact h0 (by rw [← hk]; rfl)) (l := bodyF t st) (by omega)
 rw [hk] at hs
 refine ⟨p1 ++ [(t.type, bodyF t st)], x1, ?_, ?_, h3⟩
 · unfold addL
   rw [split_app _ _ _ (Nat.le_refl _) (by rw [h1]), h1]
   show (p1 ++ (splitF (pieceF t st)).1, (splitF (pieceF t st)).2) = _
   unfold pieceF
   rw [hs]
 · rw [run_append, h2, runF_cons, e1]
   show ([] ++ ([(norm T, st)] ++ []), x1) = _
   rw [e2]
   rfl
end Slb
