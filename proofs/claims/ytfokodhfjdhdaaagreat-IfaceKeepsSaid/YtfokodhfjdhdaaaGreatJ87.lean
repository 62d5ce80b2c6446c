/- J87: a part of the proof that a law of this package holds for every input; no condition. -/
import Derived.Test.YtfokodhfjdhdaaaGreatJ86
namespace Slb
open Go Go.Proofs
set_option maxRecDepth 20000
def gotM (cf : IfConf) (out : List SentM) (t : Bs 16) : List (Tlv × List Int) := (out.filter fun s => decide (s.2.1 = t)).flatMap fun s => (parseF cf.addr s.2.2).1
theorem gotL_eq (cf : IfConf) (us : List SentX) (t : Bs 16) : gotL cf us t = gotM cf (us.map sentM) t := by
 unfold gotL gotM
 rw [List.filter_map, List.flatMap_map]
 rfl
theorem outI_to {k : Nat} {x : OneX} {t : Bs 16} {s : SentM} (h : s ∈ outI k x t) : s.1 = (k : Int) ∧ s.2.1 = t ∧ s.2.2 ∈ flushF x.c.addr x.c.mtu ((alook x.ws t).getD []) := by
 obtain ⟨p, hp, rfl⟩ := List.mem_map.1 h
 exact ⟨rfl, rfl, hp⟩
theorem filt_none {k : Nat} {x : OneX} {t : Bs 16} {ks : List (Bs 16)} (ht : t ∉ ks) : (ks.flatMap (outI k x)).filter (fun s => decide (s.2.1 = t)) = [] := by
 rw [List.filter_eq_nil_iff]
 intro s hs
 obtain ⟨u, hu, hs2⟩ := List.mem_flatMap.1 hs
 have := (outI_to hs2).2.1
 simp only [decide_eq_true_eq]
 intro h9
 exact ht (by rw [← h9, this]; exact hu)
theorem filt_one {k : Nat} {x : OneX} {t : Bs 16} : ∀ {ks : List (Bs 16)}, ks.Nodup → t ∈ ks → (ks.flatMap (outI k x)).filter (fun s => decide (s.2.1 = t)) = outI k x t
 | [], _, h => by cases h
 | u :: ks, hnd, h => by
   rw [List.nodup_cons] at hnd
   rw [List.flatMap_cons, List.filter_append]
   by_cases hu : u = t
   · subst hu
     rw [filt_none hnd.1, List.append_nil, List.filter_eq_self]
     intro s hs
     exact decide_eq_true (outI_to hs).2.1
   · have h0 : (outI k x u).filter (fun s => decide (s.2.1 = t)) = [] := by
       rw [List.filter_eq_nil_iff]
       intro s hs
       simp only [decide_eq_true_eq]
       rw [(outI_to hs).2.1]
       exact hu
     rw [h0, List.nil_append]
     rcases List.mem_cons.1 h with h9 | h9
     · exact absurd h9.symm hu
     · exact filt_one hnd.2 h9
theorem flushS_one (x : OneX) : flushS 0 [x] = (srtA (x.ws.map (·.1))).flatMap (outI 0 x) := by
 show flushI 0 x ++ [] = _
 rw [List.append_nil]
 rfl
section
variable {F : Fr} {cf : IfConf} {i : Nat} {x : OneX} {tos : List (Bs 16)} {wn : List TlsX}
theorem KX.back (h : KX F cf i x tos wn) (hc : IfOk cf) {t : Bs 16} {L : List (Tlv × List Int)} (hl : alook x.ws t = some L) :
   (∀ o ∈ flushF cf.addr cf.mtu L, ∃ q, parseF cf.addr o = (q, 0) ∧ q.length ≤ L.length ∧ (o.length : Int) ≤ cf.mtu) ∧ (flushF cf.addr cf.mtu L).flatMap (fun o => (parseF cf.addr o).1) = L :=
 backW hc.mtu.1 hc.mtu.2 (fun p hp => (h.fit _ (alook_mem hl) p hp).1) (fun p hp => (h.fit _ (alook_mem hl) p hp).2)
theorem KX.outs (h : KX F cf i x tos wn) (hc : IfOk cf) (hi : i ≤ 120) : ∀ s ∈ flushS 0 [x], s.1 = 0 ∧ (∃ j : Nat, tos[j]? = some s.2.1) ∧ ∃ q, parseF cf.addr s.2.2 = (q, 0) ∧ q.length ≤ 14400 ∧ (s.2.2.length : Int) ≤ cf.mtu := fun s hs => by
 rw [flushS_one] at hs
 obtain ⟨t, ht, hs2⟩ := List.mem_flatMap.1 hs
 obtain ⟨h1, h2, h3⟩ := outI_to hs2
 rw [h.c] at h3
 cases hl : alook x.ws t with
 | none => rw [hl] at h3; cases h3
 | some L =>
   rw [hl] at h3
   have h3' : s.2.2 ∈ flushF cf.addr cf.mtu L := h3
   have hL : L ≠ [] := fun h9 => by rw [h9] at h3'; cases h3'
   have htm : t ∈ tos := by
     refine Decidable.byContradiction fun h9 => hL ?_
     have := h.rest t h9
     rw [hl] at this
     exact this
   obtain ⟨j, hj, hje⟩ := List.getElem_of_mem htm
   obtain ⟨q, q1, q2, q3⟩ := (h.back hc hl).1 _ h3'
   refine ⟨h1, ⟨j, by rw [h2, List.getElem?_eq_getElem hj, hje]⟩, q, q1, ?_, q3⟩
   have hjw : j < wn.length := by rw [← h.len]; exact hj
   have hw : wn[j]? = some (wn[j]'hjw) := List.getElem?_eq_getElem hjw
   have hg := h.got j t _ (by rw [List.getElem?_eq_getElem hj, hje]) hw
   rw [hl] at hg
   have hwl := h.wln _ (List.mem_of_getElem? hw)
   rw [Option.some.inj hg, List.length_map] at q2
   have : 120 * i ≤ 120 * 120 := Nat.mul_le_mul_left _ hi
   omega
theorem KX.say (h : KX F cf i x tos wn) (hc : IfOk cf) {k : Nat} {t : Bs 16} {y : TlsX} (ht : tos[k]? = some t) (hy : wn[k]? = some y) {us : List SentX} (hus : us.map sentM = flushS 0 [x]) : gotL cf us t = y.l.map tlvM := by
 have hl := h.got k t y ht hy
 have hm : t ∈ srtA (x.ws.map (·.1)) := (srt_perm _).symm.subset (List.mem_map_of_mem (f := fun e : Bs 16 × List (Tlv × List Int) => e.1) (alook_mem hl))
 rw [gotL_eq, hus, flushS_one]
 unfold gotM
 rw [filt_one ((srt_perm _).nodup_iff.2 h.nd) hm]
 unfold outI
 rw [hl, Option.getD_some, h.c, List.flatMap_map]
 exact (h.back hc hl).2
theorem flat_few {α β : Type} {f : α → List β} {n : Nat} : ∀ {l : List α}, (∀ a ∈ l, (f a).length ≤ n) → (l.flatMap f).length ≤ l.length * n
 | [], _ => by simp
 | a :: l, h => by
   rw [List.flatMap_cons, List.length_append, List.length_cons, Nat.succ_mul]
   have h1 := h a (by simp)
   have h2 := flat_few (l := l) fun b hb => h b (by simp [hb])
   omega
theorem pk_fewK (src : Bs 16) (mtu : Int) (ps : List (Tlv × List Int)) : ∀ s : PackTold × List UInt8 × List (List UInt8), (ps.foldl (pkStep src mtu) s).2.2.length ≤ s.2.2.length + ps.length := by
 induction ps with
 | nil => intro s; simp
 | cons p ps ih =>
   intro s
   have h1 := ih (pkStep src mtu s p)
   have h2 : (pkStep src mtu s p).2.2.length ≤ s.2.2.length + 1 := by
     unfold pkStep
     split
     · show s.2.2.length ≤ _; omega
     · simp
   simp only [List.foldl_cons, List.length_cons]
   omega
theorem flush_few (src : Bs 16) (mtu : Int) (ps : List (Tlv × List Int)) : (flushF src mtu ps).length ≤ ps.length + 1 := by
 unfold flushF
 by_cases h : ps = []
 · rw [if_pos h]; simp
 · rw [if_neg h]
   have h1 := pk_fewK src mtu ps (toldB src, [], [])
   simp only [List.length_nil] at h1
   rw [List.length_append, List.length_singleton]
   unfold pkRun
   omega
theorem KX.few_out (h : KX F cf i x tos wn) (hi : i ≤ 120) : (flushS 0 [x]).length ≤ 4000000000 := by
 rw [flushS_one]
 have h1 : ∀ t ∈ srtA (x.ws.map (·.1)), (outI 0 x t).length ≤ 14401 := fun t ht => by
   unfold outI
   rw [List.length_map]
   have h2 := flush_few x.c.addr x.c.mtu ((alook x.ws t).getD [])
   have h3 : ((alook x.ws t).getD []).length ≤ 14400 := by
     cases hl : alook x.ws t with
     | none => simp
     | some L =>
       rw [Option.getD_some]
       rcases h.all (alook_mem hl) with h0 | ⟨k, y, _, hw, h0⟩
       · have h0' : L = [] := h0
         rw [h0']; simp
       · have h0' : L = y.l.map tlvM := h0
         have := h.wln y (List.mem_of_getElem? hw)
         have : 120 * i ≤ 120 * 120 := Nat.mul_le_mul_left _ hi
         rw [h0', List.length_map]
         omega
   omega
 have h2 := flat_few h1
 have h3 : (srtA (x.ws.map (·.1))).length = x.ws.length := by rw [(srt_perm _).length_eq, List.length_map]
 have h4 := h.cnt
 rw [h3] at h2
 have h5 : x.ws.length * 14401 ≤ 120 * 14401 := Nat.mul_le_mul_right _ (by omega)
 omega
end
theorem KX.nil {F : Fr} {cf : IfConf} : KX F cf 0 ⟨cf, true, 0, []⟩ [] [] :=
 ⟨rfl, rfl, rfl, List.nodup_nil, Nat.le_refl _, fun k t y h => (by simp at h), fun t _ => rfl, List.nodup_nil, Nat.le_refl _, fun y h => (by cases h), fun y h => (by cases h)⟩
end Slb
