/- J45: a part of the proof that a law of this package holds for every input; no condition. -/
import Derived.Test.YtfokodhfjdhdaaaGreatJ44
namespace Slb
open Go Go.Proofs
set_option maxRecDepth 20000
section
variable {t : Tlv} {st : List Int} {x : PrS} (hw : t.WF) (hc : checkF t = 0) (hs : t.stamps.n = st.length) (hr : ∀ m ∈ st, 0 ≤ m ∧ m < 4294967296)
include hw hc hs hr
theorem read5 (h : t.type = 5) : readF x 5 (bodyF t st) = ((⟨5, 0, t.interval, 0, t.rxcost, 0, 0, false, t.all, Bs.zero 8, if t.all = true then Bs.zero 16 else t.addr, Pair.zero, Slc.zero⟩, true, st), x) := by
 have ht := chk_times hc
 obtain ⟨w0, w1, w2, w3, w4, w5, w6, _⟩ := hw
 unfold bodyF
 rw [if_neg (by omega), if_neg (by omega), if_neg (by omega), if_pos h]
 unfold ihuF
 cases hall : t.all with
 | true =>
   rw [if_pos rfl, if_pos rfl]
   unfold readF
   simp only [nums2_cons, nums_nil, List.cons_append, List.nil_append, take2, take1, u16F_cons, u8F_cons, hilo w2.1 w2.2, hilo w4.1 w4.2]
   have ha : ∀ r, addrF ((0 : UInt8).toNat : Int) r = (Bs.zero 16, r, false) := fun r => by show addrF 0 r = _; unfold addrF; rw [if_pos rfl]
   simp only [ha, Bool.or_self, subs_times (show st.length ≤ 2 by omega), stamps_times (n := 2) (show st.length = 0 ∨ st.length = 2 by omega) hr]
   rfl
 | false =>
   rw [if_neg (by decide), if_neg (by decide)]
   unfold readF
   simp only [nums2_cons, nums_nil, List.cons_append, List.nil_append, take2, take1, u16F_cons, u8F_cons, hilo w2.1 w2.2, hilo w4.1 w4.2, addr_back, Bool.or_self, subs_times (show st.length ≤ 2 by omega), stamps_times (n := 2) (show st.length = 0 ∨ st.length = 2 by omega) hr]
   simp only [ad_ne, decide_false]
   rfl
end
theorem zero_times {t : Tlv} {st : List Int} (hc : checkF t = 0) (hs : t.stamps.n = st.length) (h : t.type ≠ 4 ∧ t.type ≠ 5) : st = [] := by
 have := chk_times hc
 exact List.length_eq_zero_iff.1 (by omega)
theorem body_routed {t : Tlv} {st : List Int} (h : t.type = 8 ∨ t.type = 9 ∨ t.type = 10) : bodyF t st = routedF t := by
 unfold bodyF
 rw [if_neg (by omega), if_neg (by omega), if_neg (by omega), if_neg (by omega)]
theorem chk_pair {t : Tlv} (hc : checkF t = 0) (hp : pairedB t = true) : checkPairB t.pair = true := (chk_own hc).2.2.2.1 hp
theorem pair_dst {p : Pair} (h : checkPairB p = true) : checkB p.dst = true := by
 unfold checkPairB at h
 simp only [Bool.and_eq_true] at h
 exact h.1.1
theorem updX_same (x : PrS) (ae : Int) (p : Prefix) : updX x ae 0 p = x := by
 unfold updX
 rw [if_neg (by decide), if_neg (by decide)]
/-- A request reads back. -/
theorem req_tail {t : Tlv} {p : Pair} (hp : checkPairB p = true) : reqTail ((pxF p.dst).1.toNat : Int) ((pxF p.dst).2.1.toNat : Int) t ⟨(pxF p.dst).2.2 ++ (if specB p = true then rawF 128 ((pxF p.src).2.1 :: (pxF p.src).2.2) else []), 0⟩ false = ({ t with pair := p }, ⟨[], 0⟩, false) := by
 unfold reqTail
 rw [if_neg (px_ne p.dst).1, pref_back (pair_dst hp)]
 simp only
 rw [if_pos sound_ok, show (if specB p = true then rawF 128 ((pxF p.src).2.1 :: (pxF p.src).2.2) else []) = (if specB p = true then rawF 128 ([(pxF p.src).2.1] ++ (pxF p.src).2.2) else []) from rfl, pair_back hp]
theorem read9 {t : Tlv} {x : PrS} (hc : checkF t = 0) (h : t.type = 9) : readF x 9 (routedF t) = ((⟨9, 0, 0, 0, 0, 0, 0, false, t.all, Bs.zero 8, Bs.zero 16, if t.all = true then Pair.zero else t.pair, Slc.zero⟩, true, []), x) := by
 unfold routedF headF srcF dstF
 cases hall : t.all with
 | true =>
   simp only [if_true]
   rw [if_neg (by omega), if_pos h]
   unfold readF reqF reqHead
   simp only [List.cons_append, List.nil_append, take1, u8F_cons]
   rw [if_neg (by decide), if_neg (by decide), if_neg (by decide), if_neg (by decide), if_neg (by decide), if_pos (by decide)]
   rfl
 | false =>
   have hp : checkPairB t.pair = true := chk_pair hc (by unfold pairedB; rw [if_pos (.inr h), hall]; rfl)
   simp only [Bool.false_eq_true, if_false]
   rw [if_neg (by omega), if_pos h]
   unfold readF reqF reqHead
   simp only [List.cons_append, List.nil_append, take1, u8F_cons]
   rw [if_neg (by decide), if_neg (by decide), if_neg (by decide), if_neg (by decide), if_neg (by decide), if_pos (by decide)]
   rw [if_neg (show ¬ (tlv0 9).type = 10 by decide)]
   simp only [req_tail hp]
   rfl
theorem id_back (i : Bs 8) (m : List UInt8) : idF ⟨i.l ++ m, 0⟩ = i ∧ (rdTake ⟨i.l ++ m, 0⟩ 8).2 = ⟨m, 0⟩ := by
 have hi := i.h
 have e : rdTake ⟨i.l ++ m, 0⟩ 8 = (i.l, ⟨m, 0⟩) := takeN (by rw [hi]; rfl)
 refine ⟨?_, by rw [e]⟩
 unfold idF
 rw [e]
 apply Bs.ext
 show (Bs.zero 8).l.take 0 ++ i.l.take (min i.l.length (8 - 0)) ++ (Bs.zero 8).l.drop (min 0 8 + min i.l.length (8 - 0)) = i.l
 rw [hi, show min 8 (8 - 0) = 8 from rfl, show i.l.take 8 = i.l from List.take_of_length_le (by omega), show (Bs.zero 8).l.drop (min 0 8 + 8) = [] from rfl, List.take_zero, List.nil_append, List.append_nil]
theorem read10 {t : Tlv} {x : PrS} (hw : t.WF) (hc : checkF t = 0) (h : t.type = 10) : readF x 10 (routedF t) = ((⟨10, 0, 0, t.seqno, 0, 0, t.hops, false, false, t.id_, Bs.zero 16, t.pair, Slc.zero⟩, true, []), x) := by
 have hn := chk_norm hc
 have hall : t.all = false := by
   have := congrArg Tlv.all hn
   unfold ownF at this
   rw [if_neg (by omega), if_neg (by omega), if_neg (by omega), if_neg (by omega), if_neg (by omega), if_neg (by omega), if_pos h] at this
   exact this
 have h3 := (chk_own hc).2.2.2.2.2
 unfold chk3 at h3
 simp only [h, decide_true, Bool.true_and, Bool.or_eq_false_iff, decide_eq_false_iff_not] at h3
 have hp : checkPairB t.pair = true := chk_pair hc (by unfold pairedB; rw [if_neg (by omega)]; exact decide_eq_true h)
 obtain ⟨w0, w1, w2, w3, w4, w5, w6, _⟩ := hw
 have hh : ((UInt8.ofNat t.hops.toNat).toNat : Int) = t.hops := by rw [UInt8.toNat_ofNat']; omega
 unfold routedF headF srcF dstF
 rw [hall]
 simp only [Bool.false_eq_true, if_false]
 rw [if_neg (by omega), if_neg (by omega), if_pos h]
 unfold readF reqF reqHead
 simp only [List.cons_append, List.nil_append, List.append_assoc, nums2_cons, nums_nil, take1, take2, u8F_cons, u16F_cons]
 rw [if_neg (by decide), if_neg (by decide), if_neg (by decide), if_neg (by decide), if_neg (by decide), if_pos (by decide)]
 rw [if_pos (show (tlv0 10).type = 10 by decide)]
 simp only [hilo w3.1 w3.2, hh, (id_back t.id_ _).1, (id_back t.id_ _).2]
 have hb : (false || !(decide (((pxF t.pair.dst).1.toNat : Int) ≠ 0) && (decide (t.hops ≠ 0) && decide (t.id_ ≠ Bs.zero 8)))) = false := by
   rw [decide_eq_true (px_ne t.pair.dst).1, decide_eq_true (show t.hops ≠ 0 from h3.1), decide_eq_true (show t.id_ ≠ Bs.zero 8 from h3.2)]
   rfl
 rw [hb]
 simp only [req_tail hp]
 rfl
/-- An update reads back. -/
theorem read8 {t : Tlv} {x : PrS} (hw : t.WF) (hc : checkF t = 0) (h : t.type = 8) (hx : t.metric ≠ 65535 → x.id = some t.id_ ∧ alook x.hops (n64 (pfamilyB t.pair.dst)) = some t.addr) :
   readF x 8 (routedF t) = ((⟨8, 0, t.interval, t.seqno, 0, t.metric, 0, false, t.all, if t.metric = 65535 then Bs.zero 8 else t.id_, if t.metric = 65535 then Bs.zero 16 else t.addr, if t.all = true then Pair.zero else t.pair, Slc.zero⟩, true, []), x) := by
 have h2 := (chk_own hc).2.2.2.2.1
 unfold chk2 at h2
 simp only [h, decide_true, Bool.true_and, Bool.and_eq_false_iff, decide_eq_false_iff_not, Bool.or_eq_false_iff, Bool.not_eq_false', ne_eq, Classical.not_not] at h2
 obtain ⟨w0, w1, w2, w3, w4, w5, w6, _⟩ := hw
 unfold routedF headF srcF dstF
 cases hall : t.all with
 | true =>
   have hm : t.metric = 65535 := by rcases h2 with h9 | h9; exact h9; rw [hall] at h9; exact absurd h9.1 (by decide)
   simp only [if_true]
   rw [if_pos h]
   unfold readF updF updG updT
   simp only [List.cons_append, List.nil_append, List.append_nil, nums2_cons, nums_nil, take1, take2, u8F_cons, u16F_cons, hilo w2.1 w2.2, hilo w3.1 w3.2, hilo w5.1 w5.2]
   rw [if_neg (by decide), if_neg (by decide), if_neg (by decide), if_neg (by decide), if_pos (by decide)]
   rw [if_pos (show ((0 : UInt8).toNat : Int) = 0 from rfl), if_pos ⟨rfl, rfl, hm⟩, hm]
   rfl
 | false =>
   have hp : checkPairB t.pair = true := chk_pair hc (by unfold pairedB; rw [if_pos (.inl h), hall]; rfl)
   simp only [Bool.false_eq_true, if_false]
   rw [if_pos h]
   have hu : ∀ (bs : Bs 16) (r : List UInt8), prefF ((pxF t.pair.dst).1.toNat : Int) ((pxF t.pair.dst).2.1.toNat : Int) ((0 : UInt8).toNat : Int) bs ⟨(pxF t.pair.dst).2.2 ++ r, 0⟩ (false || !(decide (((0 : UInt8).toNat : Int) = 0) || (alook x.bases (n8 ((pxF t.pair.dst).1.toNat : Int))).isSome)) = (t.pair.dst, ⟨r, 0⟩, false) := fun bs r => pref_back (pair_dst hp) bs r
   have hpr := pair_back hp
   unfold readF updF updG updT
   simp only [List.cons_append, List.nil_append, List.append_assoc, nums2_cons, nums_nil, take1, take2, u8F_cons, u16F_cons, hilo w2.1 w2.2, hilo w3.1 w3.2, hilo w5.1 w5.2]
   rw [if_neg (by decide), if_neg (by decide), if_neg (by decide), if_neg (by decide), if_pos (by decide)]
   rw [if_neg (px_ne t.pair.dst).1]
   simp only [hu]
   rw [if_neg (by rw [sound_ok]; decide)]
   rw [show ((0 : UInt8).toNat : Int) = 0 from rfl, updX_same, show (if specB t.pair = true then rawF 128 ((pxF t.pair.src).2.1 :: (pxF t.pair.src).2.2) else []) = (if specB t.pair = true then rawF 128 ([(pxF t.pair.src).2.1] ++ (pxF t.pair.src).2.2) else []) from rfl, hpr]
   unfold updH
   by_cases hm : t.metric = 65535
   · rw [if_pos hm, if_pos hm, if_pos hm]
     rw [hm]
     rfl
   · obtain ⟨hid, hho⟩ := hx hm
     have hnm : namedB t.id_ = true := by rcases h2 with h9 | h9; exact absurd h9 hm; exact h9.2
     rw [if_neg hm, if_neg hm, if_neg hm, hid, hho]
     simp only [Option.isSome_some, hnm, Bool.and_self, Bool.not_true, Bool.or_false, Option.getD_some]
     rw [if_pos sound_ok]
     rfl
end Slb
