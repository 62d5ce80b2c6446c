/- N12: a part of the proof that a law of this package holds for every input; no condition. -/
import Derived.Test.YtpjndmgdboabfaaN11
namespace Slb
open Go Go.Proofs
set_option maxRecDepth 20000
/-! What stands in a table. -/
structure GoodN (nif : Nat) (M : TabN) : Prop where
  keyed : KeyedN M
  hist : ∀ e ∈ M, OkHist e.2
  rows : ∀ e ∈ M, RowOk e.2
  inIfs : InIfs nif M
theorem GoodN.nil (nif : Nat) : GoodN nif [] := ⟨fun _ h => (by cases h), fun _ h => (by cases h), fun _ h => (by cases h), fun _ h => (by cases h)⟩
theorem GoodN.set {nif : Nat} {M : TabN} (h : GoodN nif M) (s : Neighbour) (h1 : OkHist s) (h2 : RowOk s) (h3 : 0 ≤ s.if_.val ∧ s.if_.val < nif) : GoodN nif (aset M (keyN s) s) := by
  refine ⟨fun e he => ?_, fun e he => ?_, fun e he => ?_, fun e he => ?_⟩
  all_goals rcases mem_aset he with rfl | he
  · rfl
  · exact h.keyed e he
  · exact h1
  · exact h.hist e he
  · exact h2
  · exact h.rows e he
  · exact h3
  · exact h.inIfs e he
theorem hear_ok (h : History) (q : Int) : hBits (hearF h q) := or16_range _ _
theorem hello_key (now : Int) (h : Tlv) (st : List Int) (s : Neighbour) : keyN (helloR now h st s) = keyN s := by
  unfold helloR helloH stampN
  cases st <;> cases h.unicast <;> rfl
theorem hello_hist {now : Int} {h : Tlv} {st : List Int} {s : Neighbour} (ho : OkHist s) : OkHist (helloR now h st s) := by
  unfold helloR helloH stampN
  cases st <;> cases h.unicast <;> first | exact ⟨hear_ok _ _, ho.2⟩ | exact ⟨ho.1, hear_ok _ _⟩
theorem helloAt_nonneg {now iv : Int} (hn : 0 ≤ now) : 0 ≤ helloAt now iv := by
  unfold helloAt
  split <;> omega
theorem hello_rows {now : Int} {h : Tlv} {st : List Int} {s : Neighbour} (hn : 0 ≤ now) (hw : h.WF) (ho : RowOk s) : RowOk (helloR now h st s) := by
  have hiv : 0 ≤ h.interval ∧ h.interval ≤ 65535 := hw.2.2.1
  have h1 : 0 ≤ 10 * h.interval ∧ 10 * h.interval ≤ 655350 := by omega
  have h2 := helloAt_nonneg (iv := h.interval) hn
  unfold helloR helloH stampN
  cases st <;> cases h.unicast <;> first | exact ⟨h1, ho.ug, h2, ho.ua⟩ | exact ⟨ho.mg, h1, ho.ma, h2⟩
theorem rowOk_new (j : I64) (fr : Bs 16) : RowOk (newN j fr) := ⟨⟨Int.le_refl 0, by show (0 : Int) ≤ 655350; decide⟩, ⟨Int.le_refl 0, by show (0 : Int) ≤ 655350; decide⟩, Int.le_refl 0, Int.le_refl 0⟩
theorem badH_false {n : Nat} {i ty want : Int} (h : badH n i ty want = false) : (0 ≤ i ∧ i < n) ∧ ty = want := by
  unfold badH at h
  simpa using h
theorem good_hello {nif : Nat} {most : Int} {M : TabN} (g : GoodN nif M) {now : Int} (hn : 0 ≤ now) (j : I64) (fr : Bs 16) {h : Tlv} (hw : h.WF) (st : List Int) : GoodN nif (helloF nif most M now j fr h st).2 := by
  unfold helloF
  cases hb : badH nif j.val h.type 4 with
  | true => exact g
  | false =>
    simp only [Bool.false_eq_true, if_false]
    obtain ⟨hj, _⟩ := badH_false hb
    cases h0 : alook M ⟨j, fr⟩ with
    | none =>
      simp only
      split
      · exact g
      · have := g.set (helloR now h st (newN j fr)) (hello_hist (okHist_new j fr)) (hello_rows hn hw (rowOk_new j fr)) (by
          have := hello_key now h st (newN j fr)
          rw [show (helloR now h st (newN j fr)).if_ = j from congrArg NeighKey.i this]; exact hj)
        rw [hello_key] at this
        exact this
    | some s =>
      simp only
      have hm := alook_some h0
      have hk : (⟨j, fr⟩ : NeighKey) = keyN s := g.keyed _ hm
      have := g.set (helloR now h st s) (hello_hist (g.hist _ hm)) (hello_rows hn hw (g.rows _ hm)) (by
        rw [show (helloR now h st s).if_ = s.if_ from congrArg NeighKey.i (hello_key now h st s), show s.if_ = j from (congrArg NeighKey.i hk).symm]; exact hj)
      rw [hello_key, ← hk] at this
      exact this
theorem good_ihu {nif : Nat} {M : TabN} (g : GoodN nif M) (now : Int) (j : I64) (fr : Bs 16) (h : Tlv) (rt : Int) (hr : Bool) : GoodN nif (ihuF nif M now j fr h rt hr).2 := by
  unfold ihuF
  cases hb : badH nif j.val h.type 5 with
  | true => exact g
  | false =>
    simp only [Bool.false_eq_true, if_false]
    cases h0 : alook M ⟨j, fr⟩ with
    | none => exact g
    | some s =>
      simp only
      have hm := alook_some h0
      have hk : (⟨j, fr⟩ : NeighKey) = keyN s := g.keyed _ hm
      have hr0 := g.rows _ hm
      have := g.set (ihuR now h rt hr s) (g.hist _ hm) ⟨hr0.mg, hr0.ug, hr0.ma, hr0.ua⟩ (by rw [show (ihuR now h rt hr s).if_ = j from (congrArg NeighKey.i hk).symm]; exact (badH_false hb).1)
      rw [show keyN (ihuR now h rt hr s) = keyN s from rfl, ← hk] at this
      exact this
/-- What missing leaves, by steps. -/
theorem late_ind {now g : Int} (P : History → Int → Prop) (hs : ∀ h a, P h a → 0 < g → h.bits ≠ 0 → a ≤ now → P (missF h) (a + g)) : ∀ (n : Nat) (h : History) (a : Int), (now + 1 - a).toNat ≤ n → P h a → P (lateF h g a now).1 (lateF h g a now).2 := by
  intro n
  induction n with
  | zero =>
    intro h a hn hp
    rw [lateF_step, if_neg (by rintro ⟨_, _, h3⟩; omega)]
    exact hp
  | succ n ih =>
    intro h a hn hp
    rw [lateF_step]
    split
    · rename_i hc
      exact ih _ _ (by omega) (hs h a hp hc.1 hc.2.1 hc.2.2)
    · exact hp
theorem late_hist {h : History} {g a now : Int} (hb : hBits h) : hBits (lateF h g a now).1 := late_ind (fun h _ => hBits h) (fun _ _ h1 _ _ _ => missF_bits h1) _ h a (Nat.le_refl _) hb
theorem late_at {h : History} {g a now : Int} (ha : 0 ≤ a) : 0 ≤ (lateF h g a now).2 := late_ind (fun _ a => 0 ≤ a) (fun _ a h1 h2 _ _ => by show 0 ≤ a + g; omega) _ h a (Nat.le_refl _) ha
theorem late_le {h : History} {g a now : Int} : (lateF h g a now).2 ≤ (if a ≤ now + g then now + g else a) := by
  refine late_ind (fun _ x => x ≤ (if a ≤ now + g then now + g else a)) (fun _ x h1 h2 _ h3 => ?_) _ h a (Nat.le_refl _) (by show a ≤ _; split <;> omega)
  show x + g ≤ _
  split <;> omega
theorem late_stop {h : History} {g a now : Int} : ¬ (0 < g ∧ (lateF h g a now).1.bits ≠ 0 ∧ (lateF h g a now).2 ≤ now) := by
  have : ∀ (n : Nat) (h : History) (a : Int), (now + 1 - a).toNat ≤ n → ¬ (0 < g ∧ (lateF h g a now).1.bits ≠ 0 ∧ (lateF h g a now).2 ≤ now) := by
    intro n
    induction n with
    | zero =>
      intro h a hn
      rw [lateF_step, if_neg (by rintro ⟨_, _, h3⟩; omega)]
      rintro ⟨_, _, h3⟩
      simp only at h3
      omega
    | succ n ih =>
      intro h a hn
      rw [lateF_step]
      split
      · rename_i hc
        exact ih _ _ (by omega)
      · rename_i hc; exact hc
  exact this _ h a (Nat.le_refl _)
theorem late_same {h : History} {g a now : Int} (hc : ¬ (0 < g ∧ h.bits ≠ 0 ∧ a ≤ now)) : lateF h g a now = (h, a) := by rw [lateF_step, if_neg hc]
theorem late_moved {h : History} {g a now : Int} (hc : 0 < g ∧ h.bits ≠ 0 ∧ a ≤ now) : a < (lateF h g a now).2 := by
  rw [lateF_step, if_pos hc]
  refine late_ind (fun _ x => a < x) (fun _ x h1 h2 _ _ => by show a < x + g; omega) _ _ _ (Nat.le_refl _) (by show a < a + g; omega)
theorem miss_known {h : History} : (missF h).known = h.known := by unfold missF; split <;> rfl
theorem late_known {h : History} {g a now : Int} : (lateF h g a now).1.known = h.known := late_ind (fun x _ => x.known = h.known) (fun x _ h1 _ _ _ => by rw [miss_known]; exact h1) _ h a (Nat.le_refl _) rfl
/-- Enough gaps, and nothing is left. -/
theorem late_out {g now : Int} (hg : 0 < g) : ∀ (k : Nat) (h : History) (a : Int), h.known = true → 0 ≤ h.bits → h.bits < 2 ^ k → a + k * g ≤ now + g → (lateF h g a now).1.bits = 0 := by
  intro k
  induction k with
  | zero =>
    intro h a hk h0 h1 h2
    have : h.bits = 0 := by
      have : h.bits < 1 := by simpa using h1
      omega
    rw [late_same (by rintro ⟨_, h3, _⟩; exact h3 this)]
    exact this
  | succ k ih =>
    intro h a hk h0 h1 h2
    by_cases hb : h.bits = 0
    · rw [late_same (by rintro ⟨_, h3, _⟩; exact h3 hb)]
      exact hb
    · have h3 : a + k * g + g ≤ now + g := by
        have : ((k + 1 : Nat) : Int) * g = k * g + g := by rw [Int.natCast_add, Int.add_mul]; simp
        rw [this] at h2; omega
      have h4 : (0 : Int) ≤ k * g := Int.mul_nonneg (by omega) (by omega)
      rw [lateF_step, if_pos ⟨hg, hb, by omega⟩]
      have hm : (missF h).bits = h.bits / 2 := by unfold missF; rw [if_pos hk]; rfl
      refine ih _ _ (by rw [miss_known]; exact hk) (by rw [hm]; omega) (by
        rw [hm]
        have : (2 : Int) ^ (k + 1) = 2 ^ k * 2 := Int.pow_succ _ _
        omega) (by omega)
theorem tick_key (now : Int) (s : Neighbour) : keyN (tickR now s) = keyN s := by
  unfold tickR txR lateU lateM
  split <;> rfl
theorem tick_multi (now : Int) (s : Neighbour) : (tickR now s).multi = (lateF s.multi s.multiGap s.multiAt now).1 ∧ (tickR now s).multiAt = (lateF s.multi s.multiGap s.multiAt now).2 ∧ (tickR now s).multiGap = s.multiGap := by
  unfold tickR txR lateU lateM
  split <;> exact ⟨rfl, rfl, rfl⟩
theorem tick_uni (now : Int) (s : Neighbour) : (tickR now s).uni = (lateF s.uni s.uniGap s.uniAt now).1 ∧ (tickR now s).uniAt = (lateF s.uni s.uniGap s.uniAt now).2 ∧ (tickR now s).uniGap = s.uniGap := by
  unfold tickR txR lateU lateM
  split <;> exact ⟨rfl, rfl, rfl⟩
theorem tick_tx (now : Int) (s : Neighbour) : (tickR now s).txAt = s.txAt ∧ (tickR now s).tx = if s.txAt ≤ now then 65535 else s.tx := by
  unfold tickR txR lateU lateM
  simp only
  split <;> exact ⟨rfl, rfl⟩
theorem mem_tick {now : Int} {M : TabN} {e : NeighKey × Neighbour} (h : e ∈ tickM now M) : ∃ e' ∈ M, goneN now e'.2 = false ∧ e = (e'.1, tickR now e'.2) := by
  unfold tickM at h
  obtain ⟨e', he, h2⟩ := List.mem_filterMap.1 h
  unfold tickG at h2
  cases hg : goneN now e'.2 with
  | true => rw [hg] at h2; cases h2
  | false => rw [hg] at h2; cases h2; exact ⟨e', he, hg, rfl⟩
theorem good_tick {nif : Nat} {M : TabN} (g : GoodN nif M) (now : Int) : GoodN nif (tickM now M) := by
  refine ⟨fun e he => ?_, fun e he => ?_, fun e he => ?_, fun e he => ?_⟩
  all_goals obtain ⟨e', he', hg, rfl⟩ := mem_tick he
  · show e'.1 = keyN (tickR now e'.2)
    rw [tick_key]; exact g.keyed e' he'
  · have := g.hist e' he'
    show OkHist (tickR now e'.2)
    exact ⟨by rw [(tick_multi now e'.2).1]; exact late_hist this.1, by rw [(tick_uni now e'.2).1]; exact late_hist this.2⟩
  · have := g.rows e' he'
    have h1 := tick_multi now e'.2
    have h2 := tick_uni now e'.2
    exact ⟨by rw [h1.2.2]; exact this.mg, by rw [h2.2.2]; exact this.ug, by rw [h1.2.1]; exact late_at this.ma, by rw [h2.2.1]; exact late_at this.ua⟩
  · exact g.inIfs e' he'
theorem tickM_len (now : Int) (M : TabN) : (tickM now M).length ≤ M.length := List.length_filterMap_le _ _
theorem mem_drop {xs : List Int} {M : TabN} {e : NeighKey × Neighbour} (h : e ∈ dropM xs M) : e ∈ M ∧ e.2.if_.val ∉ xs := by
  unfold dropM at h
  obtain ⟨e', he, h2⟩ := List.mem_filterMap.1 h
  unfold dropG at h2
  by_cases hg : e'.2.if_.val ∈ xs
  · rw [if_pos hg] at h2; cases h2
  · rw [if_neg hg] at h2; cases h2; exact ⟨he, hg⟩
theorem good_drop {nif : Nat} {M : TabN} (g : GoodN nif M) (xs : List Int) : GoodN nif (dropM xs M) :=
  ⟨fun e he => g.keyed e (mem_drop he).1, fun e he => g.hist e (mem_drop he).1, fun e he => g.rows e (mem_drop he).1, fun e he => g.inIfs e (mem_drop he).1⟩
theorem dropM_len (xs : List Int) (M : TabN) : (dropM xs M).length ≤ M.length := List.length_filterMap_le _ _
theorem hello_len (nif : Nat) (most : Int) (M : TabN) (now : Int) (j : I64) (fr : Bs 16) (h : Tlv) (st : List Int) : (helloF nif most M now j fr h st).2.length ≤ M.length + 1 := by
  unfold helloF
  split
  · simp
  · split
    · split
      · simp
      · simp only [len_aset]; split <;> omega
    · simp only [len_aset]; split <;> omega
theorem hello_most {nif : Nat} {most : Int} {M : TabN} (hm : (M.length : Int) ≤ most) (now : Int) (j : I64) (fr : Bs 16) (h : Tlv) (st : List Int) : ((helloF nif most M now j fr h st).2.length : Int) ≤ most := by
  unfold helloF
  split
  · exact hm
  · split
    · split
      · exact hm
      · simp only [len_aset]; split <;> omega
    · rename_i h0
      simp only [len_aset]
      rw [h0]
      simpa using hm
theorem ihu_len (nif : Nat) (M : TabN) (now : Int) (j : I64) (fr : Bs 16) (h : Tlv) (rt : Int) (hr : Bool) : (ihuF nif M now j fr h rt hr).2.length ≤ M.length + 1 := by
  unfold ihuF
  split
  · simp
  · split
    · simp
    · simp only [len_aset]; split <;> omega
/-! The contracts of the whole table. -/
section
variable {b : Nat} {most : Int} {ifs : List IfConf} {M : TabN}
theorem newA (F : Fr) (most : Int) {a : Option Addr} {xs : List IfConf} {c : Nat} (hc : xs.length ≤ 1000000) (ha : ArgSl F a 43 IfConf.enc xs) : Spec Try.prog 10 #[.int .i64 most, .slice a xs.length c] [] F fun v S => ∃ b, v = fp b ∧ S = [NA b most xs []] :=
  (newQ F most hc ha).post fun v S w ⟨b, r, q, h1, h2, hq⟩ s => by
    refine ⟨_, ⟨b, h1, rfl⟩, ?_⟩
    subst h2
    obtain ⟨qa, qn, qc⟩ := q
    simp only at hq
    subst hq
    have s2 := s.perm (List.perm_append_comm (l₁ := [blk b (NeighTable.enc ⟨most, ⟨qa, xs.length, qc⟩, some r⟩) 77, mapN r []]) (l₂ := [slA 60 43 IfConf.enc (.slice qa xs.length qc) xs]))
    have s3 : Sat [NTab b most ⟨qa, xs.length, qc⟩ [], slA 60 43 IfConf.enc (.slice qa xs.length qc) xs] F w :=
      s.pack (r := [slA 60 43 IfConf.enc (.slice qa xs.length qc) xs]) (m := [blk b (NeighTable.enc ⟨most, ⟨qa, xs.length, qc⟩, some r⟩) 77, mapN r []]) fun p hp => ⟨r, [], rfl, hp⟩
    exact Sat.pack (r := []) (m := [slA 60 43 IfConf.enc (.slice qa xs.length qc) xs, NTab b most ⟨qa, xs.length, qc⟩ []]) (s3.perm (List.Perm.swap _ _ _)) na_mk
theorem helloA (F : Fr) (g : GoodN ifs.length M) (now : Int) (hn0 : 0 ≤ now) (hn1 : now ≤ 2305843009213693952) (j : I64) (fr : Bs 16) (h : Tlv) (hw : h.WF) (st : List Int) (hsn : h.stamps.n = st.length) (hsl : st.length ≤ 9223372036854775807) (hsa : ArgSl F h.stamps.a 1 (fun n => [Value.int .u32 n]) st) :
    Spec Try.prog 11 #[fp b, .int .i64 now, .int .i64 j.val, .agg (Bs.enc fr).toArray, .agg (Tlv.enc h).toArray] [NA b most ifs M] F
    fun v S => v = .int .i64 (helloF ifs.length most M now j fr h st).1 ∧ S = [NA b most ifs (helloF ifs.length most M now j fr h st).2] :=
  Spec.nei (R1 := fun v M' T => v = .int .i64 (helloF ifs.length most M now j fr h st).1 ∧ M' = (helloF ifs.length most M now j fr h st).2 ∧ T = [])
    (fun F' q hle hq _ => (helloT F' g.hist now hn0 hn1 j fr h hw st hsn hsl (hsa.mono hle)).mono fun v S ⟨h1, h2⟩ => ⟨_, [], ⟨by rw [← hq]; exact h1, by rw [← hq], rfl⟩, h2⟩) fun v M' T ⟨h1, h2, h3⟩ => ⟨h1, by rw [h2, h3]⟩
theorem ihuA (F : Fr) (now : Int) (hn0 : 0 ≤ now) (hn1 : now ≤ 2305843009213693952) (j : I64) (fr : Bs 16) (h : Tlv) (hw : h.WF) (st : List Int) (hsn : h.stamps.n = st.length) (hsl : st.length ≤ 9223372036854775807) (hsa : ArgSl F h.stamps.a 1 (fun n => [Value.int .u32 n]) st) :
    Spec Try.prog 15 #[fp b, .int .i64 now, .int .i64 j.val, .agg (Bs.enc fr).toArray, .agg (Tlv.enc h).toArray] [NA b most ifs M] F
    fun v S => ∃ rt hr, (st.length < 2 → ∀ s, alook M ⟨j, fr⟩ = some s → rt = s.rtt ∧ hr = s.hasRtt) ∧ v = .int .i64 (ihuF ifs.length M now j fr h rt hr).1 ∧ S = [NA b most ifs (ihuF ifs.length M now j fr h rt hr).2] :=
  Spec.nei (R1 := fun v M' T => ∃ rt hr, (st.length < 2 → ∀ s, alook M ⟨j, fr⟩ = some s → rt = s.rtt ∧ hr = s.hasRtt) ∧ v = .int .i64 (ihuF ifs.length M now j fr h rt hr).1 ∧ M' = (ihuF ifs.length M now j fr h rt hr).2 ∧ T = [])
    (fun F' q hle hq hia => (ihuT F' hq hia now hn0 hn1 j fr h hw st hsn hsl (hsa.mono hle)).mono fun v S ⟨rt, hr, h0, h1, h2⟩ => ⟨_, [], ⟨rt, hr, h0, by rw [← hq]; exact h1, by rw [← hq], rfl⟩, h2⟩) fun v M' T ⟨rt, hr, h0, h1, h2, h3⟩ => ⟨rt, hr, h0, h1, by rw [h2, h3]⟩
theorem listA (F : Fr) (g : GoodN ifs.length M) (hM : M.length ≤ 1000000) : Spec Try.prog 13 #[fp b] [NA b most ifs M] F fun v S => ∃ L, OrdN M L ∧ S = [NA b most ifs M, slA 54 34 Neighbour.enc v L] :=
  Spec.nei (R1 := fun v M' T => M' = M ∧ ∃ L, OrdN M L ∧ T = [slA 54 34 Neighbour.enc v L]) (fun F' q hle hq _ => (listT F' g.keyed hM).mono fun v S ⟨L, h1, h2⟩ => ⟨_, _, ⟨rfl, L, h1, rfl⟩, h2⟩) fun v M' T ⟨h1, L, h2, h3⟩ => ⟨L, h2, by rw [h1, h3]⟩
theorem tickA (F : Fr) (g : GoodN ifs.length M) (hM : M.length ≤ 1000000) (now : Int) (hn0 : 0 ≤ now) (hn1 : now ≤ 2305843009213693952) : Spec Try.prog 12 #[fp b, .int .i64 now] [NA b most ifs M] F fun v S => ∃ L, OrdN M L ∧ S = [NA b most ifs (tickM now M), slA 54 34 Neighbour.enc v ((L.filter (goneN now)).map (tickR now))] :=
  Spec.nei (R1 := fun v M' T => M' = tickM now M ∧ ∃ L, OrdN M L ∧ T = [slA 54 34 Neighbour.enc v ((L.filter (goneN now)).map (tickR now))]) (fun F' q hle hq _ => (tickT F' g.keyed hM g.rows now hn0 hn1).mono fun v S ⟨L, h1, h2⟩ => ⟨_, _, ⟨rfl, L, h1, rfl⟩, h2⟩) fun v M' T ⟨h1, L, h2, h3⟩ => ⟨L, h2, by rw [h1, h3]⟩
theorem dropA (F : Fr) (g : GoodN ifs.length M) (hM : M.length ≤ 1000000) {a : Option Addr} {xs : List Int} {c : Nat} (hlen : xs.length ≤ 4294967296) (ha : ArgSl F a 1 (fun n => [Value.int .i64 n]) xs) :
    Spec Try.prog 21 #[fp b, .slice a xs.length c] [NA b most ifs M] F fun v S => ∃ L, OrdN M L ∧ v = .int .i64 (L.filter fun s => decide (s.if_.val ∈ xs)).length ∧ S = [NA b most ifs (dropM xs M)] :=
  Spec.nei (R1 := fun v M' T => M' = dropM xs M ∧ T = [] ∧ ∃ L, OrdN M L ∧ v = .int .i64 (L.filter fun s => decide (s.if_.val ∈ xs)).length) (fun F' q hle hq _ => (dropT F' g.keyed hM hlen (ha.mono hle)).mono fun v S ⟨L, h1, h2, h3⟩ => ⟨_, _, ⟨rfl, rfl, L, h1, h2⟩, h3⟩) fun v M' T ⟨h1, h3, L, h2, h4⟩ => ⟨L, h2, h4, by rw [h1, h3]⟩
theorem nextA (F : Fr) (g : GoodN ifs.length M) (hM : M.length ≤ 1000000) : Spec Try.prog 19 #[fp b] [NA b most ifs M] F fun v S => ∃ L, OrdN M L ∧ v = .tuple #[.int .i64 (nextF L).1, .bool (nextF L).2] ∧ S = [NA b most ifs M] :=
  Spec.nei (R1 := fun v M' T => M' = M ∧ T = [] ∧ ∃ L, OrdN M L ∧ v = .tuple #[.int .i64 (nextF L).1, .bool (nextF L).2]) (fun F' q hle hq _ => (nextT F' g.keyed hM).mono fun v S ⟨L, h1, h2, h3⟩ => ⟨_, _, ⟨rfl, rfl, L, h1, h2⟩, h3⟩) fun v M' T ⟨h1, h3, L, h2, h4⟩ => ⟨L, h2, h4, by rw [h1, h3]⟩
theorem getA (F : Fr) (j : I64) (fr : Bs 16) : Spec Try.prog 17 #[fp b, .int .i64 j.val, .agg (Bs.enc fr).toArray] [NA b most ifs M] F
    fun v S => v = .tuple #[.agg (Neighbour.enc ((alook M ⟨j, fr⟩).getD Neighbour.zero)).toArray, .bool (alook M ⟨j, fr⟩).isSome] ∧ S = [NA b most ifs M] :=
  Spec.nei (R1 := fun v M' T => M' = M ∧ T = [] ∧ v = .tuple #[.agg (Neighbour.enc ((alook M ⟨j, fr⟩).getD Neighbour.zero)).toArray, .bool (alook M ⟨j, fr⟩).isSome]) (fun F' q hle hq _ => (getT F' j fr).mono fun v S ⟨h1, h2⟩ => ⟨_, _, ⟨rfl, rfl, h1⟩, h2⟩) fun v M' T ⟨h1, h3, h4⟩ => ⟨h4, by rw [h1, h3]⟩
theorem rxA (F : Fr) (g : GoodN ifs.length M) (j : I64) (fr : Bs 16) : Spec Try.prog 16 #[fp b, .int .i64 j.val, .agg (Bs.enc fr).toArray] [NA b most ifs M] F fun v S => ∃ n, v = .int .u16 n ∧ RxP ifs M j fr n ∧ S = [NA b most ifs M] :=
  Spec.nei (R1 := fun v M' T => M' = M ∧ T = [] ∧ ∃ n, v = .int .u16 n ∧ RxP ifs M j fr n) (fun F' q hle hq hia => (rxT F' hq hia g.hist g.inIfs j fr).mono fun v S ⟨n, h1, h2, h3⟩ => ⟨_, _, ⟨rfl, rfl, n, h1, h2⟩, h3⟩) fun v M' T ⟨h1, h3, n, h2, h4⟩ => ⟨n, h2, h4, by rw [h1, h3]⟩
theorem costA (F : Fr) (g : GoodN ifs.length M) (hrt : ∀ cf ∈ ifs, RttOk cf.rtt) (j : I64) (fr : Bs 16) : Spec Try.prog 18 #[fp b, .int .i64 j.val, .agg (Bs.enc fr).toArray] [NA b most ifs M] F fun v S => ∃ n, v = .int .u16 n ∧ CostP ifs M j fr n ∧ S = [NA b most ifs M] :=
  Spec.nei (R1 := fun v M' T => M' = M ∧ T = [] ∧ ∃ n, v = .int .u16 n ∧ CostP ifs M j fr n) (fun F' q hle hq hia => (costT F' hq hia g.hist g.inIfs hrt j fr).mono fun v S ⟨n, h1, h2, h3⟩ => ⟨_, _, ⟨rfl, rfl, n, h1, h2⟩, h3⟩) fun v M' T ⟨h1, h3, n, h2, h4⟩ => ⟨n, h2, h4, by rw [h1, h3]⟩
end
end Slb
