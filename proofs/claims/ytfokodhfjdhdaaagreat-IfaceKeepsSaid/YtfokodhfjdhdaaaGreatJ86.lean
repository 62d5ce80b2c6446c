/- J86: a part of the proof that a law of this package holds for every input; no condition. -/
import Derived.Test.YtfokodhfjdhdaaaGreatJ85
import Derived.Test.YtfokodhfjdhdaaaGreatJ47
namespace Slb
open Go Go.Proofs
set_option maxRecDepth 20000
/-- A list of lists, held. -/
structure TlsX where
 a : Option Addr
 c : Nat
 l : List TlvX
@[reducible] def tlsE (y : TlsX) : List Value := [.slice y.a y.l.length y.c]
def nilX : TlsX := ⟨none, 0, []⟩
/-- What a list's packets say. -/
theorem backW {c : IfConf} {L : List (Tlv × List Int)} (h1 : 64 ≤ c.mtu) (h2 : c.mtu ≤ 65539) (hfit : ∀ p ∈ L, fitP c p) (hn : ∀ p ∈ L, norm p.1 = p.1) :
   (∀ o ∈ flushF c.addr c.mtu L, ∃ q, parseF c.addr o = (q, 0) ∧ q.length ≤ L.length ∧ (o.length : Int) ≤ c.mtu) ∧ (flushF c.addr c.mtu L).flatMap (fun o => (parseF c.addr o).1) = L := by
 have hm : (L.map fun p => (⟨p.1, none, 0, p.2⟩ : TlvX)).map tlvM = L := by
   rw [List.map_map]
   conv => rhs; rw [← List.map_id L]
   refine List.map_congr_left fun p hp => ?_
   show (norm p.1, p.2) = p
   rw [hn p hp]
 have hmt : ¬ (c.mtu < 64 ∨ c.mtu > 65539) := by omega
 have hf : ∀ x ∈ (L.map fun p => (⟨p.1, none, 0, p.2⟩ : TlvX)), fitsF c.addr c.mtu (tlvS x) x.l = 0 ∧ (tlvS x).WF ∧ ∀ n ∈ x.l, 0 ≤ n ∧ n < 4294967296 := fun x hx => by
   obtain ⟨p, hp, rfl⟩ := List.mem_map.1 hx
   exact hfit p hp
 have ha : ∀ {ts : List TlvX}, (∀ x ∈ ts, fitsF c.addr c.mtu (tlvS x) x.l = 0) → addErr c.addr c.mtu ts = 0 := fun {ts} => by
   induction ts with
   | nil => intro _; rfl
   | cons x xs ih =>
     intro h
     rw [addErr, if_neg (by rw [h x (by simp)]; decide)]
     exact ih fun z hz => h z (by simp [hz])
 have he : packErr c.addr c.mtu (L.map fun p => (⟨p.1, none, 0, p.2⟩ : TlvX)) = 0 := by
   unfold packErr
   rw [if_neg hmt]
   exact ha fun x hx => (hf x hx).1
 have hp : packF c.addr c.mtu (L.map fun p => (⟨p.1, none, 0, p.2⟩ : TlvX)) = flushF c.addr c.mtu L := by
   unfold packF
   rw [he, if_neg (by decide), hm]
 obtain ⟨gs, g1, g2, g3, g4, _⟩ := back_law he (fun x hx => (hf x hx).2.1) (fun x hx => (hf x hx).2.2)
 rw [hp] at g1 g4
 rw [hm] at g2
 refine ⟨fun o ho => ?_, ?_⟩
 · have h3 : parseF c.addr o ∈ gs.map (fun q => (q, (0 : Int))) := by rw [← g1]; exact List.mem_map_of_mem ho
   obtain ⟨q, hq, hq2⟩ := List.mem_map.1 h3
   refine ⟨q, hq2.symm, ?_, g4 o ho⟩
   rw [← g2]
   exact (List.sublist_flatten_of_mem hq).length_le
 · have h3 : (flushF c.addr c.mtu L).map (fun o => (parseF c.addr o).1) = gs := by
     have := congrArg (List.map Prod.fst) g1
     rw [List.map_map, List.map_map] at this
     rw [show (fun o => (parseF c.addr o).1) = Prod.fst ∘ parseF c.addr from rfl, this]
     conv => rhs; rw [← List.map_id gs]
     rfl
   rw [List.flatMap_def, h3, g2]
/-- What is known of the interface, the addresses and what is wanted of each. -/
structure KX (F : Fr) (cf : IfConf) (i : Nat) (x : OneX) (tos : List (Bs 16)) (wn : List TlsX) : Prop where
 c : x.c = cf
 up : x.up = true
 len : tos.length = wn.length
 tnd : tos.Nodup
 few : tos.length ≤ i
 got : ∀ (k : Nat) t y, tos[k]? = some t → wn[k]? = some y → alook x.ws t = some (y.l.map tlvM)
 rest : ∀ t, t ∉ tos → (alook x.ws t).getD [] = []
 nd : (x.ws.map (·.1)).Nodup
 cnt : x.ws.length ≤ i
 wln : ∀ y ∈ wn, y.l.length ≤ 120 * i
 wok : ∀ y ∈ wn, ∀ z ∈ y.l, TlvIn F z ∧ (tlvS z).WF ∧ (∀ n ∈ z.l, 0 ≤ n ∧ n < 4294967296) ∧ z.l.length ≤ 120 ∧ fitsF cf.addr cf.mtu (tlvS z) z.l = 0
theorem alook_nodup {α : Type} {E : List (Bs 16 × α)} (hnd : (E.map (·.1)).Nodup) {e : Bs 16 × α} (he : e ∈ E) : alook E e.1 = some e.2 := by
 induction E with
 | nil => cases he
 | cons e0 E ih =>
   obtain ⟨k0, v0⟩ := e0
   rw [List.map_cons, List.nodup_cons] at hnd
   rcases List.mem_cons.1 he with rfl | he
   · simp [alook]
   · have hne : ¬ k0 = e.1 := fun h => hnd.1 (by show k0 ∈ E.map (·.1); rw [h]; exact List.mem_map_of_mem (f := fun x : Bs 16 × α => x.1) he)
     simp only [alook, hne, if_false]
     exact ih hnd.2 he
section
variable {F : Fr} {cf : IfConf} {i : Nat} {x : OneX} {tos : List (Bs 16)} {wn : List TlsX}
/-- What waits for an address is what is wanted of it, or nothing. -/
theorem KX.all (h : KX F cf i x tos wn) {e : Bs 16 × List (Tlv × List Int)} (he : e ∈ x.ws) : e.2 = [] ∨ ∃ (k : Nat) (y : TlsX), tos[k]? = some e.1 ∧ wn[k]? = some y ∧ e.2 = y.l.map tlvM := by
 have hl := alook_nodup h.nd he
 by_cases ht : e.1 ∈ tos
 · obtain ⟨k, hk, hke⟩ := List.getElem_of_mem ht
   have hk2 : tos[k]? = some e.1 := by rw [List.getElem?_eq_getElem hk, hke]
   have hkw : k < wn.length := by rw [← h.len]; exact hk
   have hw : wn[k]? = some (wn[k]'hkw) := List.getElem?_eq_getElem hkw
   have := h.got k _ _ hk2 hw
   rw [hl] at this
   exact .inr ⟨k, _, hk2, hw, Option.some.inj this⟩
 · have := h.rest _ ht
   rw [hl] at this
   exact .inl this
theorem KX.fit (h : KX F cf i x tos wn) : ∀ e ∈ x.ws, ∀ p ∈ e.2, fitP cf p ∧ norm p.1 = p.1 := fun e he p hp => by
 rcases h.all he with h0 | ⟨k, y, _, hw, h0⟩
 · rw [h0] at hp; cases hp
 · rw [h0] at hp
   obtain ⟨z, hz, rfl⟩ := List.mem_map.1 hp
   obtain ⟨_, h2, h3, _, h5⟩ := h.wok y (List.mem_of_getElem? hw) z hz
   refine ⟨⟨?_, h2, h3⟩, rfl⟩
   rw [← fits_tlvM]
   exact h5
theorem KX.ok (h : KX F cf i x tos wn) (hc : IfOk cf) (hi : i ≤ 120) : OkX x := by
 refine ⟨h.nd, by rw [h.c]; exact hc.mtu.1, by rw [h.c]; exact hc.mtu.2, fun e he => ?_, fun e he p hp => by rw [h.c]; exact (h.fit e he p hp).1, by have := h.cnt; omega⟩
 rcases h.all he with h0 | ⟨k, y, _, hw, h0⟩
 · rw [h0]; simp
 · rw [h0, List.length_map]
   have := h.wln y (List.mem_of_getElem? hw)
   have : 120 * i ≤ 120 * 120 := Nat.mul_le_mul_left _ hi
   omega
end
theorem aset_keys {α : Type} {E : List (Bs 16 × α)} {k : Bs 16} {v : α} (hnd : (E.map (·.1)).Nodup) : ((aset E k v).map (·.1)).Nodup ∧ (aset E k v).length ≤ E.length + 1 := by
 cases hq : alook E k with
 | none =>
   rw [aset_new hq]
   refine ⟨?_, by simp⟩
   rw [List.map_append, List.nodup_append]
   refine ⟨hnd, by simp, fun a ha b hb => ?_⟩
   obtain rfl : b = k := by simpa using hb
   intro h
   subst h
   obtain ⟨e, he, hek⟩ := List.mem_map.1 ha
   exact alook_none.1 hq e he hek
 | some u =>
   obtain ⟨A, B, rfl, hA⟩ := alook_split hq
   rw [aset_split hA]
   exact ⟨by simpa using hnd, by simp⟩
section
variable {F : Fr} {cf : IfConf} {i : Nat} {x : OneX} {tos : List (Bs 16)} {wn : List TlsX}
theorem KX.put (h : KX F cf i x tos wn) {to : Bs 16} {D : List (Tlv × List Int)} {tos2 : List (Bs 16)} {wn2 : List TlsX} (h1 : tos2.Nodup) (h2 : tos2.length = wn2.length) (h3 : tos2.length ≤ i + 1)
   (h4 : ∀ (k : Nat) t y, tos2[k]? = some t → wn2[k]? = some y → (t = to → y.l.map tlvM = (alook x.ws to).getD [] ++ D) ∧ (t ≠ to → alook x.ws t = some (y.l.map tlvM)))
   (h5 : ∀ t, t ∉ tos2 → t ≠ to → (alook x.ws t).getD [] = []) (h6 : to ∉ tos2 → (alook x.ws to).getD [] ++ D = []) (h7 : ∀ y ∈ wn2, y.l.length ≤ 120 * (i + 1))
   (h8 : ∀ y ∈ wn2, ∀ z ∈ y.l, TlvIn F z ∧ (tlvS z).WF ∧ (∀ n ∈ z.l, 0 ≤ n ∧ n < 4294967296) ∧ z.l.length ≤ 120 ∧ fitsF cf.addr cf.mtu (tlvS z) z.l = 0) :
   KX F cf (i + 1) { x with ws := aset x.ws to ((alook x.ws to).getD [] ++ D) } tos2 wn2 := by
 have hk := aset_keys (k := to) (v := (alook x.ws to).getD [] ++ D) h.nd
 refine ⟨h.c, h.up, h2, h1, h3, fun k t y ht hy => ?_, fun t ht => ?_, hk.1, by have := hk.2; have := h.cnt; show (aset x.ws to _).length ≤ _; omega, h7, h8⟩
 · obtain ⟨g1, g2⟩ := h4 k t y ht hy
   show alook (aset x.ws to _) t = _
   by_cases he : t = to
   · rw [g1 he, he, alook_aset_self]
   · rw [alook_aset_ne (fun h9 => he h9.symm)]
     exact g2 he
 · show (alook (aset x.ws to _) t).getD [] = []
   by_cases he : t = to
   · subst he
     rw [alook_aset_self]
     exact h6 ht
   · rw [alook_aset_ne (fun h9 => he h9.symm)]
     exact h5 t ht he
theorem KX.err (h : KX F cf i x tos wn) (to : Bs 16) {ts : List TlvX} (he : addErr cf.addr cf.mtu ts ≠ 0) : KX F cf (i + 1) (queueX x to ts) tos wn := by
 have e : queueX x to ts = { x with ws := aset x.ws to ((alook x.ws to).getD [] ++ []) } := by
   unfold queueX
   rw [h.c, if_neg he]
 rw [e]
 refine h.put h.tnd h.len (by have := h.few; omega) (fun k t y ht hy => ⟨fun h9 => ?_, fun _ => h.got k t y ht hy⟩) (fun t ht _ => h.rest t ht) (fun ht => by rw [h.rest to ht]; rfl) (fun y hy => by have := h.wln y hy; omega) h.wok
 subst h9
 rw [h.got k t y ht hy]
 simp
theorem nodup_get {α : Type} {L : List α} (h : L.Nodup) {i j : Nat} {t : α} (hi : L[i]? = some t) (hj : L[j]? = some t) : i = j := by
 obtain ⟨h1, e1⟩ := List.getElem?_eq_some_iff.1 hi
 obtain ⟨h2, e2⟩ := List.getElem?_eq_some_iff.1 hj
 rcases Nat.lt_trichotomy i j with h3 | h3 | h3
 · exact absurd (e1.trans e2.symm) (List.pairwise_iff_getElem.1 h i j h1 h2 h3)
 · exact h3
 · exact absurd (e2.trans e1.symm) (List.pairwise_iff_getElem.1 h j i h2 h1 h3)
/-- What a list of Tlvs that was queued is. -/
def OkTs (F : Fr) (cf : IfConf) (ts : List TlvX) : Prop := ts.length ≤ 120 ∧ ∀ z ∈ ts, TlvIn F z ∧ (tlvS z).WF ∧ (∀ n ∈ z.l, 0 ≤ n ∧ n < 4294967296) ∧ z.l.length ≤ 120 ∧ fitsF cf.addr cf.mtu (tlvS z) z.l = 0
theorem KX.old (h : KX F cf i x tos wn) {to : Bs 16} {ts : List TlvX} (he : addErr cf.addr cf.mtu ts = 0) (hts : OkTs F cf ts) {k : Nat} {y y2 : TlsX} (hk : tos[k]? = some to) (hy : wn[k]? = some y) (hy2 : y2.l = y.l ++ ts) : KX F cf (i + 1) (queueX x to ts) tos (wn.set k y2) := by
 have e : queueX x to ts = { x with ws := aset x.ws to ((alook x.ws to).getD [] ++ ts.map tlvM) } := by
   unfold queueX
   rw [h.c, if_pos he]
 have hkl := (List.getElem?_eq_some_iff.1 hy).1
 have hmy := List.mem_of_getElem? hy
 rw [e]
 refine h.put h.tnd (by rw [List.length_set]; exact h.len) (by have := h.few; omega) (fun j t z ht hz => ⟨fun h9 => ?_, fun h9 => ?_⟩) (fun t ht _ => h.rest t ht) (fun ht => absurd (List.mem_of_getElem? hk) ht) (fun z hz => ?_) (fun z hz => ?_)
 · subst h9
   obtain rfl := nodup_get h.tnd hk ht
   rw [List.getElem?_set_self hkl] at hz
   obtain rfl := Option.some.inj hz
   rw [h.got k t y ht hy, hy2, List.map_append]
   rfl
 · have hjk : k ≠ j := fun h8 => by subst h8; rw [hk] at ht; exact h9 (Option.some.inj ht).symm
   rw [List.getElem?_set_ne hjk] at hz
   exact h.got j t z ht hz
 · rcases List.mem_or_eq_of_mem_set hz with h9 | rfl
   · have := h.wln z h9; omega
   · have := h.wln y hmy
     rw [hy2, List.length_append]
     have := hts.1
     omega
 · rcases List.mem_or_eq_of_mem_set hz with h9 | rfl
   · exact h.wok z h9
   · intro u hu
     rw [hy2] at hu
     rcases List.mem_append.1 hu with hu | hu
     · exact h.wok y hmy u hu
     · exact hts.2 u hu
theorem KX.new (h : KX F cf i x tos wn) {to : Bs 16} {ts : List TlvX} (he : addErr cf.addr cf.mtu ts = 0) (hts : OkTs F cf ts) {y2 : TlsX} (hn : to ∉ tos) (hy2 : y2.l = ts) : KX F cf (i + 1) (queueX x to ts) (tos ++ [to]) (wn ++ [y2]) := by
 have e : queueX x to ts = { x with ws := aset x.ws to ((alook x.ws to).getD [] ++ ts.map tlvM) } := by
   unfold queueX
   rw [h.c, if_pos he]
 rw [e]
 refine h.put ?_ (by simp [h.len]) (by have := h.few; simp; omega) (fun j t z ht hz => ?_) (fun t ht hne => h.rest t fun h9 => ht (List.mem_append_left _ h9)) (fun ht => absurd (by simp) ht) (fun z hz => ?_) (fun z hz => ?_)
 · rw [List.nodup_append]
   exact ⟨h.tnd, by simp, fun a ha b hb => by obtain rfl : b = to := (by simpa using hb); intro h9; subst h9; exact hn ha⟩
 · by_cases hj : j < tos.length
   · rw [List.getElem?_append_left hj] at ht
     rw [List.getElem?_append_left (by rw [← h.len]; exact hj)] at hz
     exact ⟨fun h9 => absurd (by rw [← h9]; exact List.mem_of_getElem? ht) hn, fun _ => h.got j t z ht hz⟩
   · have hj2 : j = tos.length := by
       have := (List.getElem?_eq_some_iff.1 ht).1
       rw [List.length_append] at this
       simp at this
       omega
     subst hj2
     rw [List.getElem?_append_right (Nat.le_refl _), Nat.sub_self] at ht
     rw [List.getElem?_append_right (by rw [h.len]; exact Nat.le_refl _), h.len, Nat.sub_self] at hz
     obtain rfl : to = t := by simpa using ht
     obtain rfl : y2 = z := by simpa using hz
     refine ⟨fun _ => ?_, fun h9 => absurd rfl h9⟩
     rw [hy2, h.rest _ hn]
     rfl
 · rcases List.mem_append.1 hz with h9 | h9
   · have := h.wln z h9; omega
   · obtain rfl : z = y2 := by simpa using h9
     rw [hy2]
     have := hts.1
     omega
 · rcases List.mem_append.1 hz with h9 | h9
   · exact h.wok z h9
   · obtain rfl : z = y2 := by simpa using h9
     rw [hy2]
     exact hts.2
end
/-- What the packets for an address said. -/
def gotL (cf : IfConf) (us : List SentX) (t : Bs 16) : List (Tlv × List Int) := (us.filter fun s => decide (s.to = t)).flatMap fun s => (parseF cf.addr s.y.l).1
theorem gotL_snoc (cf : IfConf) (us : List SentX) (s : SentX) (t : Bs 16) : gotL cf (us ++ [s]) t = gotL cf us t ++ if s.to = t then (parseF cf.addr s.y.l).1 else [] := by
 unfold gotL
 rw [List.filter_append, List.flatMap_append]
 congr 1
 by_cases h : s.to = t
 · simp [h]
 · simp [h]
end Slb
