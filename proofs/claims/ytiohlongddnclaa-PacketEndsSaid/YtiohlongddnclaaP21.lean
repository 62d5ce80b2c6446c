/- P21: a part of the proof that a law of this package holds for every input; no condition. -/
import Derived.Test.YtiohlongddnclaaP20
/- packet: the plain law: what a piece says may be (P21): behind P20. -/
namespace Slb
open Go Go.Proofs
theorem masked_twice (x : Bs 16) (n : Int) : maskedB (maskedB x n) n = maskedB x n := by
  apply Bs.ext
  show (x.l.mapIdx _).mapIdx _ = x.l.mapIdx _
  apply List.ext_getElem?
  intro i
  rw [List.getElem?_mapIdx, List.getElem?_mapIdx]
  cases x.l[i]? with
  | none => rfl
  | some c =>
    simp only [Option.map_some]
    rw [UInt8.and_assoc, UInt8.and_self]
theorem of_not_false {b : Bool} (h : ¬ b = false) : b = true := by cases b <;> simp_all
theorem sound_iff {bad : Bool} {r : Rs} : soundB bad r = true ↔ bad = false ∧ r.e = 0 := by
  unfold soundB
  cases bad <;> simp
theorem pref_ok {ae plen om : Int} {base : Bs 16} {r : Rs} {bad : Bool} (hp : 0 ≤ plen ∧ plen < 256) (h : soundB (prefF ae plen om base r bad).2.2 (prefF ae plen om base r bad).2.1 = true) : checkB (prefF ae plen om base r bad).1 = true := by
  unfold prefF at h ⊢
  split at h
  · rename_i h1
    rw [h1] at h; cases h
  · rename_i h1
    rw [if_neg h1]
    have h2 := (sound_iff.1 h).1
    simp only [Bool.or_eq_false_iff, Bool.not_eq_false'] at h2
    have hk := h2.2
    unfold pfxOk at hk
    simp only [Bool.and_eq_true, decide_eq_true_eq] at hk
    have ho := off_le ae
    have hv := pfxL_val (ae := ae) hp.1 hp.2
    unfold checkB
    simp only
    rw [hv, masked_twice, decide_eq_false (show ¬ (8 * (offF ae : Int) + plen < 0) by omega), decide_eq_false (show ¬ (8 * (offF ae : Int) + plen > 128) by omega)]
    simp
theorem subs_sound {ts : List UInt8} {bad : Bool} {r : Rs} (h : soundB (subsF ts bad r).2.2 (subsF ts bad r).2.1 = true) : soundB bad r = true := by
  by_cases h1 : soundB bad r = true
  · exact h1
  · have h2 : soundB bad r = false := by simpa using h1
    unfold subsF at h
    rw [if_pos h2] at h
    exact absurd h (by rw [h2]; simp)
theorem any_ok (dst : Prefix) (h : checkB dst = true) : checkPairB ⟨dst, anyB (pfamilyB dst)⟩ = true := by
  have h2 : pfamilyB dst = 4 ∨ pfamilyB dst = 6 := by
    unfold pfamilyB
    split
    · exact .inr rfl
    · exact familyB_two _
  have e4 : checkB (anyB 4) = true := by decide
  have e6 : checkB (anyB 6) = true := by decide
  have f4 : pfamilyB (anyB 4) = 4 := by decide
  have f6 : pfamilyB (anyB 6) = 6 := by decide
  unfold checkPairB
  simp only
  rcases h2 with h2 | h2
  · rw [h, h2, e4, f4]; rfl
  · rw [h, h2, e6, f6]; rfl
theorem pair_ok {ae : Int} {dst : Prefix} {bad : Bool} {r : Rs} (hd : checkB dst = true) (h : soundB (pairF ae dst bad r).2.2 (pairF ae dst bad r).2.1 = true) : checkPairB (pairF ae dst bad r).1 = true := by
  unfold pairF at h ⊢
  split at h
  · rename_i h1
    exact any_ok dst hd
  · rename_i x l h1
    split at h
    · rename_i h2
      rw [if_pos h2]
      exact any_ok dst hd
    · rename_i h2
      rw [if_neg h2]
      have h3 := (sound_iff.1 h).1
      simp only [Bool.or_eq_false_iff, Bool.not_eq_false', Bool.and_eq_true] at h3
      exact h3.2.2.2
section
variable {a b c d : Int} {s : Slc} {p : Pair} {i : Bs 8} {x : Bs 16} {u : Bool}
theorem chk_ackreq (hs : s.n = 0) : checkF { Tlv.zero with type := 2, nonce := a, interval := b, stamps := s } = 0 := by
  simp [checkF, chk1, chk2, chk3, ownF, ownB, pairedB, timesB, sameB, hs, Tlv.zero]
theorem chk_ack (hs : s.n = 0) : checkF { Tlv.zero with type := 3, nonce := a, stamps := s } = 0 := by
  simp [checkF, chk1, chk2, chk3, ownF, ownB, pairedB, timesB, sameB, hs, Tlv.zero]
theorem chk_hello (hs : s.n = 0 ∨ s.n = 1) : checkF { Tlv.zero with type := 4, unicast := u, seqno := a, interval := b, stamps := s } = 0 := by
  rcases hs with hs | hs <;> simp [checkF, chk1, chk2, chk3, ownF, ownB, pairedB, timesB, sameB, hs, Tlv.zero]
theorem chk_ihu (hs : s.n = 0 ∨ s.n = 2) (hx : u = true → x = Bs.zero 16) : checkF { Tlv.zero with type := 5, rxcost := a, interval := b, addr := x, all := u, stamps := s } = 0 := by
  cases u with
  | true =>
    have h := hx rfl
    subst h
    rcases hs with hs | hs <;> simp [checkF, chk1, chk2, chk3, ownF, ownB, pairedB, timesB, sameB, hs, Tlv.zero]
  | false => rcases hs with hs | hs <;> simp [checkF, chk1, chk2, chk3, ownF, ownB, pairedB, timesB, sameB, hs, Tlv.zero]
theorem chk_updall (hs : s.n = 0) : checkF { Tlv.zero with type := 8, interval := a, seqno := b, metric := 65535, all := true, stamps := s } = 0 := by
  simp [checkF, chk1, chk2, chk3, ownF, ownB, pairedB, timesB, sameB, hs, Tlv.zero]
theorem chk_updinf (hs : s.n = 0) (hp : checkPairB p = true) : checkF { Tlv.zero with type := 8, interval := a, seqno := b, metric := 65535, pair := p, stamps := s } = 0 := by
  simp [checkF, chk1, chk2, chk3, ownF, ownB, pairedB, timesB, sameB, hs, hp, Tlv.zero, ernoB]
theorem chk_upd (hs : s.n = 0) (hp : checkPairB p = true) (hm : c ≠ 65535) (hi : namedB i = true) : checkF { Tlv.zero with type := 8, interval := a, seqno := b, metric := c, id_ := i, addr := x, pair := p, stamps := s } = 0 := by
  simp [checkF, chk1, chk2, chk3, ownF, ownB, pairedB, timesB, sameB, hs, hp, hm, hi, Tlv.zero, ernoB]
theorem chk_reqall (hs : s.n = 0) : checkF { Tlv.zero with type := 9, all := true, stamps := s } = 0 := by
  simp [checkF, chk1, chk2, chk3, ownF, ownB, pairedB, timesB, sameB, hs, Tlv.zero]
theorem chk_req (hs : s.n = 0) (hp : checkPairB p = true) : checkF { Tlv.zero with type := 9, pair := p, stamps := s } = 0 := by
  simp [checkF, chk1, chk2, chk3, ownF, ownB, pairedB, timesB, sameB, hs, hp, Tlv.zero, ernoB]
theorem chk_seq (hs : s.n = 0) (hp : checkPairB p = true) (hh : b ≠ 0) (hi : i ≠ Bs.zero 8) : checkF { Tlv.zero with type := 10, seqno := a, hops := b, id_ := i, pair := p, stamps := s } = 0 := by
  simp [checkF, chk1, chk2, chk3, ownF, ownB, pairedB, timesB, sameB, hs, hp, hh, hi, Tlv.zero, ernoB]
end
theorem upd_chk {x : PrS} {ae fl plen om a b c : Int} {r : Rs} {bad : Bool} {s : Slc} (hs : s.n = 0) (hpl : 0 ≤ plen ∧ plen < 256) (t : Tlv) (ht : t = { Tlv.zero with type := 8, interval := a, seqno := b, metric := c })
    (h : soundB (updG x ae fl plen om t r bad).1.2.2 (updG x ae fl plen om t r bad).1.2.1 = true) : checkF { (updG x ae fl plen om t r bad).1.1 with stamps := s } = 0 := by
  unfold updG at h ⊢
  split at h
  · rename_i hae
    rw [if_pos hae]
    split at h
    · rename_i h1
      rw [if_pos h1]
      have hc : c = 65535 := by rw [ht] at h1; exact h1.2.2
      subst ht hc
      exact chk_updall hs
    · rename_i h1
      exact absurd h (by simp [soundB])
  · rename_i hae
    rw [if_neg hae]
    simp only at h ⊢
    split at h
    · rename_i h1
      rw [h1] at h; cases h
    · rename_i h1
      rw [if_neg h1]
      have hd := pref_ok hpl (of_not_false h1)
      generalize prefF ae plen om ((alook x.bases (n8 ae)).getD (Bs.zero 16)) r (bad || !(decide (om = 0) || (alook x.bases (n8 ae)).isSome)) = pf at h hd ⊢
      generalize updX x ae fl pf.1 = x' at h ⊢
      have hpr : soundB (pairF ae pf.1 pf.2.2 pf.2.1).2.2 (pairF ae pf.1 pf.2.2 pf.2.1).2.1 = true → checkPairB (pairF ae pf.1 pf.2.2 pf.2.1).1 = true := pair_ok hd
      generalize pairF ae pf.1 pf.2.2 pf.2.1 = pr at h hpr ⊢
      unfold updH at h ⊢
      split at h
      · rename_i h2
        rw [if_pos h2]
        have hc : c = 65535 := by rw [ht] at h2; exact h2
        subst ht hc
        exact chk_updinf hs (hpr h)
      · rename_i h2
        rw [if_neg h2]
        have hc : c ≠ 65535 := by rw [ht] at h2; exact h2
        cases hx : x'.id with
        | none =>
          simp only [hx, Bool.and_false, Bool.not_false, Bool.or_true] at h
          exact absurd h (by simp [soundB])
        | some i =>
          simp only [hx] at h ⊢
          by_cases h3 : soundB (pr.2.2 || !((alook x'.hops (n64 (pfamilyB pf.1))).isSome && namedB i)) pr.2.1 = true
          · rw [if_pos h3]
            have h4 := sound_iff.1 h3
            have h5 := h4.1
            simp only [Bool.or_eq_false_iff, Bool.not_eq_false', Bool.and_eq_true] at h5
            subst ht
            exact chk_upd hs (hpr (sound_iff.2 ⟨h5.1, h4.2⟩)) hc h5.2.2
          · rw [if_neg h3] at h
            exact absurd h h3
theorem req_chk {ae plen a b : Int} {i : Bs 8} {r : Rs} {bad : Bool} {s : Slc} (hs : s.n = 0) (hpl : 0 ≤ plen ∧ plen < 256) (t : Tlv) (ht : t = { Tlv.zero with type := 9 } ∨ (t = { Tlv.zero with type := 10, seqno := a, hops := b, id_ := i } ∧ (bad = false → ae ≠ 0 ∧ b ≠ 0 ∧ i ≠ Bs.zero 8)))
    (h : soundB (reqTail ae plen t r bad).2.2 (reqTail ae plen t r bad).2.1 = true) : checkF { (reqTail ae plen t r bad).1 with stamps := s } = 0 := by
  unfold reqTail at h ⊢
  split at h
  · rename_i hae
    rw [if_pos hae]
    split at h
    · rename_i h1
      rw [if_pos h1]
      have h2 := sound_iff.1 h
      have h3 := h2.1
      simp only [Bool.or_eq_false_iff] at h3
      have h4 := sound_iff.1 (subs_sound (sound_iff.2 ⟨h3.1, h2.2⟩))
      rcases ht with rfl | ⟨_, hb⟩
      · exact chk_reqall hs
      · exact absurd hae (hb h4.1).1
    · rename_i h1
      exact absurd h (by simp [soundB])
  · rename_i hae
    rw [if_neg hae]
    split at h
    · rename_i h1
      rw [if_pos h1]
      have hp := pair_ok (pref_ok hpl h1) h
      rcases ht with rfl | ⟨rfl, hb⟩
      · exact chk_req hs hp
      · have hbad : bad = false := by
          have h5 := (sound_iff.1 h1).1
          unfold prefF at h5
          split at h5
          · simp only [Bool.or_eq_false_iff] at h5; exact h5.1
          · simp only [Bool.or_eq_false_iff] at h5; exact h5.1
        exact chk_seq hs hp (hb hbad).2.1 (hb hbad).2.2
    · rename_i h1
      exact absurd h h1
theorem stamp_lens (n : Nat) (l : List (Int × List UInt8)) : (stampL n l).length = 0 ∨ (stampL n l).length = n := by
  have h : ∀ (n : Nat) (r : Rs), (wordsF n r).length = n := by
    intro n
    induction n with
    | zero => intro r; rfl
    | succ n ih => intro r; simp [wordsF, ih]
  unfold stampL
  split
  · exact .inl rfl
  · exact .inr (h _ _)
theorem read_chk {x : PrS} {rt : Int} {body : List UInt8} {a : Option Addr} {c : Nat} (h : (readF x rt body).1.2.1 = true) : checkF { (readF x rt body).1.1 with stamps := ⟨a, (readF x rt body).1.2.2.length, c⟩ } = 0 := by
  unfold readF at h ⊢
  simp only at h ⊢
  by_cases h2 : rt = 2
  · subst h2; rw [if_pos rfl] at h ⊢; exact chk_ackreq rfl
  rw [if_neg h2] at h ⊢
  by_cases h3 : rt = 3
  · subst h3; rw [if_pos rfl] at h ⊢; exact chk_ack rfl
  rw [if_neg h3] at h ⊢
  by_cases h4 : rt = 4
  · subst h4; rw [if_pos rfl] at h ⊢; exact chk_hello (stamp_lens 1 _)
  rw [if_neg h4] at h ⊢
  by_cases h5 : rt = 5
  · subst h5; rw [if_pos rfl] at h ⊢
    refine chk_ihu (stamp_lens 2 _) fun hu => ?_
    have hae : u8F ⟨body, 0⟩ = 0 := by simpa using hu
    unfold addrF
    rw [if_pos hae]
  rw [if_neg h5] at h ⊢
  by_cases h8 : rt = 8
  · subst h8; rw [if_pos rfl] at h ⊢
    exact upd_chk rfl (u8_range _) _ rfl h
  rw [if_neg h8] at h ⊢
  by_cases h9 : rt = 9 ∨ rt = 10
  · rw [if_pos h9] at h ⊢
    rcases h9 with rfl | rfl
    · have e : reqF (tlv0 9) ⟨body, 0⟩ false = reqTail (u8F ⟨body, 0⟩) (u8F (rdTake ⟨body, 0⟩ 1).2) (tlv0 9) (rdTake (rdTake ⟨body, 0⟩ 1).2 1).2 false := by
        unfold reqF reqHead
        rw [if_neg (by decide)]
      rw [e] at h ⊢
      exact req_chk (a := 0) (b := 0) (i := Bs.zero 8) rfl (u8_range _) _ (.inl rfl) h
    · have e : ∀ ae r, reqHead ae (tlv0 10) r false = ({ tlv0 10 with seqno := u16F r, hops := u8F (rdTake r 2).2, id_ := idF (rdTake (rdTake (rdTake r 2).2 1).2 1).2 }, (rdTake (rdTake (rdTake (rdTake r 2).2 1).2 1).2 8).2,
          false || !(decide (ae ≠ 0) && (decide (u8F (rdTake r 2).2 ≠ 0) && decide (idF (rdTake (rdTake (rdTake r 2).2 1).2 1).2 ≠ Bs.zero 8)))) := fun ae r => by
        unfold reqHead
        exact if_pos rfl
      unfold reqF at h ⊢
      rw [e] at h ⊢
      refine req_chk rfl (u8_range _) _ (.inr ⟨rfl, fun hb => ?_⟩) h
      simpa using hb
  rw [if_neg h9] at h ⊢
  by_cases h6 : rt = 6 ∨ rt = 7
  · rw [if_pos h6] at h; cases h
  · rw [if_neg h6] at h; cases h
theorem parse_chk {src : Bs 16} {p : List UInt8} {ts : List TlvX} (hm : ts.map tlvM = (parseF src p).1) : ∀ x ∈ ts, checkF (tlvS x) = 0 := by
  have hrun : ∀ (ps : List (Int × List UInt8)) (x : PrS), ∀ q ∈ (runF x ps).1, ∀ a c, checkF { q.1 with stamps := ⟨a, q.2.length, c⟩ } = 0 := by
    intro ps
    induction ps with
    | nil => intro x q hq; cases hq
    | cons p ps ih =>
      intro x q hq
      rw [runF_cons] at hq
      rcases List.mem_append.1 hq with hq | hq
      · split at hq
        · rename_i h1
          rw [List.mem_singleton.1 hq]
          exact fun a c => read_chk h1
        · cases hq
      · exact ih _ q hq
  intro x hx
  have h9 : tlvM x ∈ (parseF src p).1 := by rw [← hm]; exact List.mem_map_of_mem hx
  unfold parseF at h9
  split at h9
  · cases h9
  · exact hrun _ _ _ h9 x.a x.c
end Slb
