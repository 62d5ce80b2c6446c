/- J44: a part of the proof that a law of this package holds for every input; no condition. -/
import Derived.Test.YtfokodhfjdhdaaaGreatJ39
namespace Slb
open Go Go.Proofs
set_option maxRecDepth 20000
/-! ### What is packed reads back -/
def hiB (n : Int) : UInt8 := UInt8.ofNat (n.toNat / 256)
def loB (n : Int) : UInt8 := UInt8.ofNat n.toNat
theorem nums_nil (k : Nat) : nums k [] = [] := rfl
theorem nums2_cons (n : Int) (ns : List Int) : nums 2 (n :: ns) = hiB n :: loB n :: nums 2 ns := by
 unfold nums hiB loB
 simp [beF]
theorem hilo {n : Int} (h0 : 0 ≤ n) (h1 : n ≤ 65535) : (((hiB n).toNat * 256 + (loB n).toNat : Nat) : Int) = n := by
 unfold hiB loB
 simp only [UInt8.toNat_ofNat']
 omega
theorem takeN {l m : List UInt8} {n : Int} (h : n = l.length) : rdTake ⟨l ++ m, 0⟩ n = (l, ⟨m, 0⟩) := by
 unfold rdTake
 subst h
 rw [if_neg (by simp), if_neg (by omega), if_neg (by simp; omega)]
 simp
theorem splitF_raw {k : UInt8} (hk : k ≠ 0) {l : List UInt8} (hl : l.length ≤ 255) : splitF (rawF k l) = ([((k.toNat : Int), l)], 0) := by
 unfold rawF
 have h : (UInt8.ofNat l.length).toNat = l.length := by rw [UInt8.toNat_ofNat']; omega
 rw [splitF_cons hk (by omega), h, List.take_length, List.drop_length, splitF_nil]
theorem subsF_nil {ts : List UInt8} {r : Rs} (h : r = ⟨[], 0⟩) : subsF ts false r = ([], ⟨[], 0⟩, false) := by
 subst h
 rfl
theorem subsF_raw {ts : List UInt8} {k : UInt8} (hk : k ≠ 0) (hk1 : k ≠ 1) (ht : inT ts (k.toNat : Int) = true) {l : List UInt8} (hl : l.length ≤ 253) : subsF ts false ⟨rawF k l, 0⟩ = ([((k.toNat : Int), l)], ⟨[], 0⟩, false) := by
 have e : rdTake ⟨rawF k l, 0⟩ ((rawF k l).length : Int) = (rawF k l, ⟨[], 0⟩) := by
   have := takeN (l := rawF k l) (m := []) rfl
   rwa [List.append_nil] at this
 have h0 : ¬ (k.toNat : Int) = 0 := fun h => hk (UInt8.toNat_inj.1 (show k.toNat = 0 by omega))
 have h1 : ¬ (k.toNat : Int) = 1 := fun h => hk1 (UInt8.toNat_inj.1 (show k.toNat = 1 by omega))
 unfold subsF
 rw [if_neg (by simp [soundB])]
 simp only [e]
 rw [show splitN (rawF k l).length (rawF k l) = splitF (rawF k l) from rfl, splitF_raw hk (by omega)]
 simp [subK, subO, h1, ht]
 omega
theorem words_nums : ∀ (st : List Int), (∀ n ∈ st, 0 ≤ n ∧ n < 4294967296) → wordsF st.length ⟨nums 4 st, 0⟩ = st
 | [], _ => rfl
 | n :: st, h => by
   have hn := h n (by simp)
   have e : nums 4 (n :: st) = beF n.toNat 4 ++ nums 4 st := by unfold nums; simp
   have ht : rdTake ⟨nums 4 (n :: st), 0⟩ 4 = (beF n.toNat 4, ⟨nums 4 st, 0⟩) := by rw [e]; exact takeN rfl
   have hv : u32F ⟨nums 4 (n :: st), 0⟩ = n := by
     unfold u32F
     rw [ht]
     simp only [beF, numN, List.foldl_cons, List.foldl_nil, UInt8.toNat_ofNat']
     omega
   show u32F ⟨nums 4 (n :: st), 0⟩ :: wordsF st.length (rdTake ⟨nums 4 (n :: st), 0⟩ 4).2 = _
   rw [hv, ht, words_nums st (fun m hm => h m (by simp [hm]))]
theorem subs_times {st : List Int} (hst : st.length ≤ 2) : subsF [3] false ⟨timesF st, 0⟩ = (if st.length = 0 then [] else [(3, nums 4 st)], ⟨[], 0⟩, false) := by
 unfold timesF
 split
 · exact subsF_nil rfl
 · exact subsF_raw (by decide) (by decide) rfl (by rw [nums_len]; omega)
theorem stamps_times {st : List Int} {n : Nat} (hst : st.length = 0 ∨ st.length = n) (hr : ∀ m ∈ st, 0 ≤ m ∧ m < 4294967296) : stampL n (if st.length = 0 then [] else [(3, nums 4 st)]) = st := by
 rcases hst with h | h
 · rw [if_pos h]; exact (List.length_eq_zero_iff.1 h).symm
 · by_cases h0 : st.length = 0
   · rw [if_pos h0]; exact (List.length_eq_zero_iff.1 h0).symm
   · rw [if_neg h0]
     unfold stampL
     rw [List.find?_cons_of_pos (by simp [nums_len]; omega)]
     subst h
     exact words_nums st hr
/-- What has been told, on both sides. -/
def ToldX (td : PackTold) (x : PrS) : Prop := (td.id_ = Bs.zero 8 ∨ x.id = some td.id_) ∧ ∀ a : Bs 16, td.has (placeN a) = true → ∃ b, td.hop (placeN a) = b ∧ placeN b = placeN a ∧ alook x.hops (n64 (familyB b)) = some b
theorem chk_norm {t : Tlv} (h : checkF t = 0) : norm t = norm (ownF t).1 := sameB_iff.1 (chk_own h).2.2.1
theorem chk_times {t : Tlv} (h : checkF t = 0) : t.stamps.n = 0 ∨ (t.stamps.n = 1 ∧ t.type = 4) ∨ (t.stamps.n = 2 ∧ t.type = 5) := by
 have := (chk_own h).2.1
 unfold timesB at this
 simpa only [Bool.or_eq_true, Bool.and_eq_true, decide_eq_true_eq] using this
theorem and16_flag (b : Bool) : decide (and16 (if b = true then 32768 else 0) 32768 ≠ 0) = b := by cases b <;> rfl
section
variable {t : Tlv} {st : List Int} {x : PrS} (hw : t.WF) (hc : checkF t = 0) (hs : t.stamps.n = st.length) (hr : ∀ m ∈ st, 0 ≤ m ∧ m < 4294967296)
include hw hc hs hr
omit hc hs hr in
theorem read2 (h : t.type = 2) : readF x 2 (bodyF t st) = ((⟨2, t.nonce, t.interval, 0, 0, 0, 0, false, false, Bs.zero 8, Bs.zero 16, Pair.zero, Slc.zero⟩, true, []), x) := by
 obtain ⟨w0, w1, w2, w3, w4, w5, w6, _⟩ := hw
 unfold bodyF
 rw [if_pos h]
 unfold readF
 simp only [nums2_cons, nums_nil, take2, u16F_cons, hilo w1.1 w1.2, hilo w2.1 w2.2, subsF_nil, if_pos]
 rfl
omit hc hs hr in
theorem read3 (h : t.type = 3) : readF x 3 (bodyF t st) = ((⟨3, t.nonce, 0, 0, 0, 0, 0, false, false, Bs.zero 8, Bs.zero 16, Pair.zero, Slc.zero⟩, true, []), x) := by
 obtain ⟨w0, w1, w2, w3, w4, w5, w6, _⟩ := hw
 unfold bodyF
 rw [if_neg (by omega), if_pos h]
 unfold readF
 simp only [nums2_cons, nums_nil, take2, u16F_cons, hilo w1.1 w1.2, subsF_nil]
 rfl
theorem read4 (h : t.type = 4) : readF x 4 (bodyF t st) = ((⟨4, 0, t.interval, t.seqno, 0, 0, 0, t.unicast, false, Bs.zero 8, Bs.zero 16, Pair.zero, Slc.zero⟩, true, st), x) := by
 have ht := chk_times hc
 obtain ⟨w0, w1, w2, w3, w4, w5, w6, _⟩ := hw
 have hf : 0 ≤ flagF t ∧ flagF t ≤ 65535 := by unfold flagF; split <;> omega
 unfold bodyF
 rw [if_neg (by omega), if_neg (by omega), if_pos h]
 unfold readF
 simp only [nums2_cons, nums_nil, List.cons_append, List.nil_append, take2, u16F_cons, hilo w2.1 w2.2, hilo w3.1 w3.2, hilo hf.1 hf.2, subs_times (show st.length ≤ 2 by omega), stamps_times (n := 1) (show st.length = 0 ∨ st.length = 1 by omega) hr]
 unfold flagF
 rw [and16_flag]
 rfl
end
theorem patch_back {x a : Bs 16} {i k : Nat} (hi : i + k ≤ 16) (h1 : x.l.take i = a.l.take i) (h2 : x.l.drop (i + k) = a.l.drop (i + k)) : x.patch i ((a.l.drop i).take k) = a := by
 have hl : ((a.l.drop i).take k).length = k := by rw [List.length_take, List.length_drop, a.h]; omega
 have : (x.patch i ((a.l.drop i).take k)).l = a.l := by
   show x.l.take i ++ ((a.l.drop i).take k).take (min ((a.l.drop i).take k).length (16 - i)) ++ x.l.drop (min i 16 + min ((a.l.drop i).take k).length (16 - i)) = a.l
   rw [hl, show min k (16 - i) = k by omega, show min i 16 = i by omega, h1, h2, show ((a.l.drop i).take k).take k = (a.l.drop i).take k from List.take_of_length_le (by omega)]
   rw [← List.drop_drop, List.append_assoc, List.take_append_drop, List.take_append_drop]
 cases hx : x.patch i ((a.l.drop i).take k)
 cases a
 simp_all
theorem fam4 {a : Bs 16} (h : familyB a = 4) : any4.a.l.take 12 = a.l.take 12 := by
 unfold familyB at h
 split at h
 · rename_i h9; rw [h9]; rfl
 · cases h
theorem addr_back (a : Bs 16) (m : List UInt8) : addrF ((adF a).1.toNat : Int) ⟨(adF a).2 ++ m, 0⟩ = (a, ⟨m, 0⟩, false) := by
 have ha := a.h
 unfold adF
 split
 · rename_i h
   show addrF 3 _ = _
   unfold addrF
   rw [if_neg (by decide), if_neg (by decide), if_neg (by decide), if_pos rfl, takeN (by rw [List.length_take, List.length_drop]; omega)]
   exact Prod.ext h.symm rfl
 · split
   · rename_i h
     show addrF 1 _ = _
     unfold addrF
     rw [if_neg (by decide), if_pos rfl, takeN (by rw [List.length_take, List.length_drop]; omega)]
     exact Prod.ext (patch_back (by decide) (fam4 h) (by rw [show a.l.drop (12 + 4) = [] from List.drop_of_length_le (by rw [ha]; decide)]; rfl)) rfl
   · show addrF 2 _ = _
     unfold addrF
     rw [if_neg (by decide), if_neg (by decide), if_pos rfl, takeN (by rw [List.length_take, List.length_drop]; omega)]
     exact Prod.ext (patch_back (by decide) rfl (by rw [show a.l.drop (0 + 16) = [] from List.drop_of_length_le (by rw [ha]; decide)]; rfl)) rfl
theorem ad_ne (a : Bs 16) : ((adF a).1.toNat : Int) ≠ 0 := by
 unfold adF
 split
 · show ((3 : UInt8).toNat : Int) ≠ 0; decide
 · split
   · show ((1 : UInt8).toNat : Int) ≠ 0; decide
   · show ((2 : UInt8).toNat : Int) ≠ 0; decide
theorem tail_zero {a : Bs 16} {n : Int} {j : Nat} (hm : maskedB a n = a) (hn : n ≤ 8 * j) : a.l.drop j = List.replicate (16 - j) 0 := by
 have ha := a.h
 apply List.ext_getElem
 · rw [List.length_drop, List.length_replicate, ha]
 · intro k h1 h2
   rw [List.getElem_replicate, List.getElem_drop]
   have hk : j + k < a.l.length := by rw [List.length_drop] at h1; omega
   have e := congrArg (fun q : Bs 16 => q.l[j + k]?) hm
   simp only [maskedB, List.getElem?_mapIdx, List.getElem?_eq_getElem hk, Option.map_some, Option.some.injEq] at e
   rw [← e]
   have : maskB n (j + k) = 0 := by
     unfold maskB keepN
     rw [show (min (max (n - 8 * ((j + k : Nat) : Int)) 0) 8).toNat = 0 by omega]
     rfl
   rw [this]
   simp
theorem chk_pfx {p : Prefix} (h : checkB p = true) : 0 ≤ p.len.val ∧ p.len.val ≤ 128 ∧ maskedB p.a p.len.val = p.a := by
 unfold checkB at h
 simp only [Bool.not_eq_true', Bool.or_eq_false_iff, decide_eq_false_iff_not] at h
 exact ⟨by omega, by omega, Classical.not_not.1 h.2⟩
theorem sound_ok {m : List UInt8} : soundB false ⟨m, 0⟩ = true := rfl
/-- A prefix reads back. -/
theorem pref_back {p : Prefix} (h : checkB p = true) (base : Bs 16) (m : List UInt8) : prefF ((pxF p).1.toNat : Int) ((pxF p).2.1.toNat : Int) 0 base ⟨(pxF p).2.2 ++ m, 0⟩ false = (p, ⟨m, 0⟩, false) := by
 obtain ⟨h0, h1, hm⟩ := chk_pfx h
 have ha := p.a.h
 unfold pxF
 split
 · rename_i h4
   have h96 := pfam4 h4
   have hf : familyB p.a = 4 := by unfold pfamilyB at h4; rw [if_neg (by omega)] at h4; exact h4
   have hp : ((UInt8.ofNat (p.len.val - 96).toNat).toNat : Int) = p.len.val - 96 := by rw [UInt8.toNat_ofNat']; omega
   show prefF 1 _ 0 base _ false = _
   simp only [hp]
   have hok : pfxOk 1 (p.len.val - 96) 0 = true := by unfold pfxOk offF knownAE; simp; omega
   have hk : ((p.len.val - 96 + 7) / 8).toNat ≤ 4 := by omega
   have ht : rdTake ⟨(p.a.l.drop 12).take ((p.len.val - 96 + 7) / 8).toNat ++ m, 0⟩ ((p.len.val - 96 + 7) / 8 - 0) = ((p.a.l.drop 12).take ((p.len.val - 96 + 7) / 8).toNat, ⟨m, 0⟩) := takeN (by rw [List.length_take, List.length_drop]; omega)
   unfold prefF
   rw [hok]
   rw [if_neg (by simp [soundB])]
   have hA : pfxA 1 (p.len.val - 96) 0 base ⟨(p.a.l.drop 12).take ((p.len.val - 96 + 7) / 8).toNat ++ m, 0⟩ = p.a := by
     unfold pfxA
     rw [ht]
     show ((any4.a).patch 12 ((base.l.drop 12).take 0)).patch (12 + 0) _ = _
     have e0 : (any4.a).patch 12 ((base.l.drop 12).take 0) = any4.a := by rw [List.take_zero]; rfl
     rw [e0]
     refine patch_back (i := 12) (by omega) (fam4 hf) ?_
     rw [tail_zero (n := p.len.val) hm (by omega)]
     have : any4.a.l.drop 12 = List.replicate 4 0 := rfl
     rw [← List.drop_drop, this, List.drop_replicate]
     congr 1
     omega
   rw [hA, ht]
   have hL : pfxL 1 (p.len.val - 96) = p.len := Subtype.ext (by rw [pfxL_val (by omega) (by omega)]; show 8 * ((12 : Nat) : Int) + _ = _; omega)
   rw [hL]
   have hM : maskedB p.a (8 * (offF 1 : Int) + (p.len.val - 96)) = p.a := by rw [show 8 * (offF 1 : Int) + (p.len.val - 96) = p.len.val by show 8 * ((12 : Nat) : Int) + _ = _; omega]; exact hm
   rw [hM]
   rfl
 · have hp : ((UInt8.ofNat p.len.val.toNat).toNat : Int) = p.len.val := by rw [UInt8.toNat_ofNat']; omega
   show prefF 2 _ 0 base _ false = _
   simp only [hp]
   have hok : pfxOk 2 p.len.val 0 = true := by unfold pfxOk offF knownAE; simp; omega
   have hk : ((p.len.val + 7) / 8).toNat ≤ 16 := by omega
   have ht : rdTake ⟨(p.a.l.drop 0).take ((p.len.val + 7) / 8).toNat ++ m, 0⟩ ((p.len.val + 7) / 8 - 0) = ((p.a.l.drop 0).take ((p.len.val + 7) / 8).toNat, ⟨m, 0⟩) := takeN (by rw [List.length_take, List.length_drop]; omega)
   unfold prefF
   rw [hok]
   rw [if_neg (by simp [soundB])]
   have hA : pfxA 2 p.len.val 0 base ⟨(p.a.l.drop 0).take ((p.len.val + 7) / 8).toNat ++ m, 0⟩ = p.a := by
     unfold pfxA
     rw [ht]
     show ((Bs.zero 16).patch 0 ((base.l.drop 0).take 0)).patch (0 + 0) _ = _
     have e0 : (Bs.zero 16).patch 0 ((base.l.drop 0).take 0) = Bs.zero 16 := by rw [List.take_zero]; rfl
     rw [e0]
     refine patch_back (i := 0) (by omega) rfl ?_
     rw [tail_zero (n := p.len.val) hm (by omega)]
     have : (Bs.zero 16).l = List.replicate 16 0 := rfl
     rw [this, List.drop_replicate]
   rw [hA, ht]
   have hL : pfxL 2 p.len.val = p.len := Subtype.ext (by rw [pfxL_val (by omega) (by omega)]; show 8 * ((0 : Nat) : Int) + _ = _; omega)
   rw [hL]
   have hM : maskedB p.a (8 * (offF 2 : Int) + p.len.val) = p.a := by rw [show 8 * (offF 2 : Int) + p.len.val = p.len.val by show 8 * ((0 : Nat) : Int) + _ = _; omega]; exact hm
   rw [hM]
   rfl
theorem px_ne (p : Prefix) : ((pxF p).1.toNat : Int) ≠ 0 ∧ (pfamilyB p = 4 → (pxF p).1 = 1) ∧ (pfamilyB p ≠ 4 → (pxF p).1 = 2) := by
 unfold pxF
 split
 · rename_i h; exact ⟨by show ((1 : UInt8).toNat : Int) ≠ 0; decide, fun _ => rfl, fun h9 => absurd h h9⟩
 · rename_i h; exact ⟨by show ((2 : UInt8).toNat : Int) ≠ 0; decide, fun h9 => absurd h9 h, fun _ => rfl⟩
theorem px_same {p q : Prefix} (h : pfamilyB p = pfamilyB q) : (pxF p).1 = (pxF q).1 := by
 obtain ⟨_, h1, h2⟩ := px_ne p
 obtain ⟨_, h3, h4⟩ := px_ne q
 by_cases h9 : pfamilyB p = 4
 · rw [h1 h9, h3 (h ▸ h9)]
 · rw [h2 h9, h4 (h ▸ h9)]
theorem fam_cases (p : Prefix) : pfamilyB p = 4 ∨ pfamilyB p = 6 := by
 unfold pfamilyB familyB
 split
 · exact .inr rfl
 · split
   · exact .inl rfl
   · exact .inr rfl
theorem masked_zero (a : Bs 16) : maskedB a 0 = Bs.zero 16 := by
 apply Bs.ext
 show a.l.mapIdx (fun i c => c &&& maskB 0 i) = List.replicate 16 0
 have ha := a.h
 apply List.ext_getElem
 · rw [List.length_mapIdx, List.length_replicate, ha]
 · intro k h1 h2
   rw [List.getElem_replicate, List.getElem_mapIdx]
   have : maskB 0 k = 0 := by
     unfold maskB keepN
     rw [show (min (max (0 - 8 * (k : Int)) 0) 8).toNat = 0 by omega]
     rfl
   rw [this]
   simp
/-- A source that says something has a length of its own. -/
theorem spec_len {p : Pair} (hc : checkB p.src = true) (hs : specB p = true) : 0 < ((pxF p.src).2.1.toNat : Int) := by
 obtain ⟨h0, h1, hm⟩ := chk_pfx hc
 unfold specB at hs
 have hne : p.src ≠ anyB (pfamilyB p.src) := of_decide_eq_true hs
 unfold pxF
 split
 · rename_i h4
   have h96 := pfam4 h4
   show 0 < ((UInt8.ofNat (p.src.len.val - 96).toNat).toNat : Int)
   rw [UInt8.toNat_ofNat']
   by_cases h9 : p.src.len.val = 96
   · exfalso
     apply hne
     rw [h4]
     have hf : familyB p.src.a = 4 := by unfold pfamilyB at h4; rw [if_neg (by omega)] at h4; exact h4
     have ht := tail_zero (j := 12) hm (by omega)
     have ha : p.src.a = any4.a := Bs.ext (by
       rw [← List.take_append_drop 12 p.src.a.l, ← fam4 hf, ht]
       rfl)
     have hl : p.src.len = any4.len := Subtype.ext h9
     cases hp : p.src
     rw [hp] at ha hl
     simp only at ha hl
     subst ha hl
     rfl
   · omega
 · rename_i h4
   show 0 < ((UInt8.ofNat p.src.len.val.toNat).toNat : Int)
   rw [UInt8.toNat_ofNat']
   by_cases h9 : p.src.len.val = 0
   · exfalso
     apply hne
     have h6 : pfamilyB p.src = 6 := by rcases fam_cases p.src with h | h; exact absurd h h4; exact h
     rw [h6]
     have ha : p.src.a = Bs.zero 16 := by rw [← hm, h9, masked_zero]
     have hl : p.src.len = ⟨0, by omega⟩ := Subtype.ext h9
     cases hp : p.src
     rw [hp] at ha hl
     simp only at ha hl
     subst ha hl
     rfl
   · omega
/-- A pair reads back. -/
theorem pair_back {p : Pair} (hc : checkPairB p = true) : pairF ((pxF p.dst).1.toNat : Int) p.dst false ⟨if specB p = true then rawF 128 ([(pxF p.src).2.1] ++ (pxF p.src).2.2) else [], 0⟩ = (p, ⟨[], 0⟩, false) := by
 have hc2 := hc
 unfold checkPairB at hc
 simp only [Bool.and_eq_true, decide_eq_true_eq] at hc
 obtain ⟨⟨hd, hs⟩, hf⟩ := hc
 by_cases h : specB p = true
 · rw [if_pos h]
   have hl := px_len p.src
   have e := subsF_raw (ts := [128]) (k := 128) (by decide) (by decide) rfl (l := [(pxF p.src).2.1] ++ (pxF p.src).2.2) (by simp; omega)
   unfold pairF
   rw [e]
   simp only
   rw [if_neg (by simp [soundB])]
   have hp : prefF ((pxF p.dst).1.toNat : Int) (u8F ⟨[(pxF p.src).2.1] ++ (pxF p.src).2.2, 0⟩) 0 (Bs.zero 16) (rdTake ⟨[(pxF p.src).2.1] ++ (pxF p.src).2.2, 0⟩ 1).2 false = (p.src, ⟨[], 0⟩, false) := by
     rw [show [(pxF p.src).2.1] ++ (pxF p.src).2.2 = (pxF p.src).2.1 :: (pxF p.src).2.2 from rfl, u8F_cons, take1, px_same hf]
     have := pref_back hs (Bs.zero 16) []
     rwa [List.append_nil] at this
   rw [hp]
   have hlt : decide (0 < u8F ⟨[(pxF p.src).2.1] ++ (pxF p.src).2.2, 0⟩) = true := by
     rw [show [(pxF p.src).2.1] ++ (pxF p.src).2.2 = (pxF p.src).2.1 :: (pxF p.src).2.2 from rfl, u8F_cons]
     exact decide_eq_true (spec_len hs h)
   rw [hlt]
   show (p, _, _ || !(true && (true && checkPairB p))) = _
   rw [hc2]
   rfl
 · rw [if_neg h]
   unfold pairF
   rw [subsF_nil rfl]
   have hn : p.src = anyB (pfamilyB p.src) := by
     unfold specB at h
     simpa using h
   show (({ dst := p.dst, src := anyB (pfamilyB p.dst) } : Pair), _, _) = _
   rw [hf, ← hn]
end Slb
