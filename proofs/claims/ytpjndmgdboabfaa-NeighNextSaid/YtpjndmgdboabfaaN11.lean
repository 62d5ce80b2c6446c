/- N11: a part of the proof that a law of this package holds for every input; no condition. -/
import Derived.Test.YtpjndmgdboabfaaN10
import Derived.Test.YtpjndmgdboabfaaM2
namespace Slb
open Go Go.Proofs
set_option maxRecDepth 20000
abbrev fp (b : Nat) : Value := .pointer (some ⟨b, 0, none⟩)
theorem ord_of {M : TabN} (hk : KeyedN M) (hn : (M.map (·.1)).Nodup) {L : List Neighbour} (hp : L.Perm (M.map (·.2))) (hs : SortedN L) : OrdN M L := by
  refine ⟨hk, hn, hp, ?_⟩
  have hnd : (L.map keyN).Nodup := by
    have : (L.map keyN).Perm (M.map (·.1)) := by
      have h1 := hp.map keyN
      rw [List.map_map] at h1
      refine h1.trans (List.Perm.of_eq (List.map_congr_left fun e he => ?_))
      exact (hk e he).symm
    exact this.nodup_iff.2 hn
  have h2 : L.Pairwise fun a b => keyN a ≠ keyN b := List.pairwise_map.1 hnd
  refine (hs.and h2).imp fun {a b} ⟨h3, h4⟩ => ?_
  have h5 : cmpNei a b ≠ 0 := fun h => h4 ((keyCmpN.zero _ _).1 h)
  have h6 := keyCmpN.neg b a
  by_cases h7 : cmpNei a b < 0
  · exact h7
  · exact absurd (h6.2 (by omega)) h3
theorem ord_es {M : TabN} (hk : KeyedN M) {E es : EntN} {L : List Neighbour} (hv : vals E = M) (hn : (E.map (·.1)).Nodup) (hp : es.Perm E) (hL : L = es.map (·.2.2)) (hs : SortedN L) : OrdN M L := by
  refine ord_of hk (by rw [← hv, keys_vals]; exact hn) ?_ hs
  rw [hL, ← hv, vals, List.map_map]
  exact hp.map _
section
variable {b : Nat} {most : Int} {q : Slc} {M : TabN}
theorem listT (F : Fr) (hk : KeyedN M) (hM : M.length ≤ 1000000) : Spec Try.prog 13 #[fp b] [NTab b most q M] F fun v S => ∃ L, OrdN M L ∧ S = [NTab b most q M, slA 54 34 Neighbour.enc v L] :=
  (listO F hM).post fun v S w ⟨r, E, es, L, hv, hn, hp, hL, hs, h⟩ s => by
    refine ⟨_, ⟨L, ord_es hk hv hn hp hL hs, rfl⟩, ?_⟩
    subst h
    exact s.pack (r := [slA 54 34 Neighbour.enc v L]) (m := [blk b (NeighTable.enc ⟨most, q, some r⟩) 77, mapN r (ptrs E), rowsA Neighbour.enc 54 E]) fun p g => GTab.close hv g
/-- What the time leaves of the table. -/
def tickM (now : Int) (M : TabN) : TabN := M.filterMap fun e => (tickG now e.2).map fun s => (e.1, s)
theorem tickT (F : Fr) (hk : KeyedN M) (hM : M.length ≤ 1000000) (hr : ∀ e ∈ M, RowOk e.2) (now : Int) (hn0 : 0 ≤ now) (hn1 : now ≤ 2305843009213693952) :
    Spec Try.prog 12 #[fp b, .int .i64 now] [NTab b most q M] F fun v S => ∃ L, OrdN M L ∧ S = [NTab b most q (tickM now M), slA 54 34 Neighbour.enc v ((L.filter (goneN now)).map (tickR now))] :=
  (tickT0 F hM hk hr now hn0 hn1).post fun v S w ⟨r, E, es, L, hv, hn, hp, hL, hs, h⟩ s => by
    refine ⟨_, ⟨L, ord_es hk hv hn hp hL hs, rfl⟩, ?_⟩
    subst h
    refine s.pack (r := [slA 54 34 Neighbour.enc v ((L.filter (goneN now)).map (tickR now))]) (m := [blk b (NeighTable.enc ⟨most, q, some r⟩) 77, mapN r (ptrs (stepE (tickG now) E es)), rowsA Neighbour.enc 54 (stepE (tickG now) E es)]) fun p g => GTab.close ?_ g
    rw [stepE_vals hn hp, hv]
    rfl
def dropM (xs : List Int) (M : TabN) : TabN := M.filterMap fun e => (dropG xs e.2).map fun s => (e.1, s)
theorem dropT (F : Fr) (hk : KeyedN M) (hM : M.length ≤ 1000000) {a : Option Addr} {xs : List Int} {c : Nat} (hlen : xs.length ≤ 4294967296) (ha : ArgSl F a 1 (fun n => [Value.int .i64 n]) xs) :
    Spec Try.prog 21 #[fp b, .slice a xs.length c] [NTab b most q M] F fun v S => ∃ L, OrdN M L ∧ v = .int .i64 (L.filter fun s => decide (s.if_.val ∈ xs)).length ∧ S = [NTab b most q (dropM xs M)] :=
  (dropT0 F hM hk hlen ha).post fun v S w ⟨r, E, es, L, hv, hn, hp, hL, hs, h1, h⟩ s => by
    refine ⟨_, ⟨L, ord_es hk hv hn hp hL hs, h1, rfl⟩, ?_⟩
    subst h
    refine s.pack (r := []) (m := [blk b (NeighTable.enc ⟨most, q, some r⟩) 77, mapN r (ptrs (stepE (dropG xs) E es)), rowsA Neighbour.enc 54 (stepE (dropG xs) E es)]) fun p g => GTab.close ?_ g
    rw [stepE_vals hn hp, hv]
    rfl
theorem nextT (F : Fr) (hk : KeyedN M) (hM : M.length ≤ 1000000) : Spec Try.prog 19 #[fp b] [NTab b most q M] F fun v S => ∃ L, OrdN M L ∧ v = .tuple #[.int .i64 (nextF L).1, .bool (nextF L).2] ∧ S = [NTab b most q M] :=
  (nextT0 F hM hk).post fun v S w ⟨r, E, es, L, hv, hn, hp, hL, hs, h1, h⟩ s => by
    refine ⟨_, ⟨L, ord_es hk hv hn hp hL hs, h1, rfl⟩, ?_⟩
    subst h
    exact s.pack (r := []) (m := [blk b (NeighTable.enc ⟨most, q, some r⟩) 77, mapN r (ptrs E), rowsA Neighbour.enc 54 E]) fun p g => GTab.close hv g
theorem perm_sameN {r : Nat} {E : EntN} {S : List HProp} : ((mapN r (ptrs E) :: S) ++ rows Neighbour.enc 54 E).Perm (mapN r (ptrs E) :: (rows Neighbour.enc 54 E ++ (S ++ []))) := by
  simp only [List.cons_append, List.append_nil]
  exact List.Perm.cons _ List.perm_append_comm
theorem permN_set {r c : Nat} {E : EntN} {k : NeighKey} {x : Neighbour} : ∃ rr, ([mapN r (aset (ptrs E) k c), blk c x.enc 54] ++ rows Neighbour.enc 54 E).Perm (mapN r (ptrs (aset E k (c, x))) :: (rows Neighbour.enc 54 (aset E k (c, x)) ++ ([] ++ rr))) := by
  obtain ⟨rr, hr⟩ := rows_aset Neighbour.enc 54 E k c x
  refine ⟨rr, ?_⟩
  rw [ptrs_aset]
  exact List.Perm.cons _ hr
/-- A hello: what is answered, what it leaves. -/
def helloF (nif : Nat) (most : Int) (M : TabN) (now : Int) (j : I64) (fr : Bs 16) (h : Tlv) (st : List Int) : Int × TabN :=
  if badH nif j.val h.type 4 = true then (2, M) else match alook M ⟨j, fr⟩ with
    | none => if (M.length : Int) ≥ most then (6, M) else (0, aset M ⟨j, fr⟩ (helloR now h st (newN j fr)))
    | some s => (0, aset M ⟨j, fr⟩ (helloR now h st s))
theorem alook_E {E : EntN} {M : TabN} {k : NeighKey} (hv : vals E = M) (h0 : alook M k = none) : alook E k = none := by
  rw [← hv, alook_vals] at h0
  cases he : alook E k with
  | none => rfl
  | some y => rw [he] at h0; cases h0
theorem helloT (F : Fr) (hok : ∀ e ∈ M, OkHist e.2) (now : Int) (hn0 : 0 ≤ now) (hn1 : now ≤ 2305843009213693952) (j : I64) (fr : Bs 16) (h : Tlv) (hw : h.WF) (st : List Int) (hsn : h.stamps.n = st.length) (hsl : st.length ≤ 9223372036854775807) (hsa : ArgSl F h.stamps.a 1 (fun n => [Value.int .u32 n]) st) :
    Spec Try.prog 11 #[fp b, .int .i64 now, .int .i64 j.val, .agg (Bs.enc fr).toArray, .agg (Tlv.enc h).toArray] [NTab b most q M] F
    fun v S => v = .int .i64 (helloF q.n most M now j fr h st).1 ∧ S = [NTab b most q (helloF q.n most M now j fr h st).2] := by
  cases h0 : alook M ⟨j, fr⟩ with
  | none =>
    refine (gtab_spec (A := []) (Q := fun v M' B => v = .int .i64 (helloF q.n most M now j fr h st).1 ∧ M' = (helloF q.n most M now j fr h st).2 ∧ B = []) fun F' r E h1 h2 hv hnd hle => ?_).mono ?_
    · have hlen : (ptrs E).length = M.length := by rw [← hv]; simp [ptrs, vals]
      refine (helloQ_none F' ⟨h1, h2⟩ now hn0 hn1 j fr h hw st hsn hsl (hsa.mono hle) (alook_E hv h0)).mono ?_
      rintro v S (⟨e1, rfl, rfl⟩ | ⟨e1, e2, rfl, rfl⟩ | ⟨e1, e2, rfl, c, rfl⟩)
      · refine ⟨E, [], [], ⟨?_, ?_, rfl⟩, perm_sameN⟩ <;> simp only [helloF, e1, if_true]
        exact hv
      · rw [hlen] at e2
        refine ⟨E, [], [], ⟨?_, ?_, rfl⟩, perm_sameN⟩ <;> simp only [helloF, e1, h0, if_pos e2, Bool.false_eq_true, if_false]
        exact hv
      · rw [hlen] at e2
        obtain ⟨rr, hr⟩ := permN_set (r := r) (c := c) (E := E) (k := ⟨j, fr⟩) (x := helloR now h st (newN j fr))
        refine ⟨_, [], rr, ⟨?_, ?_, rfl⟩, hr⟩ <;> simp only [helloF, e1, h0, if_neg e2, Bool.false_eq_true, if_false]
        rw [vals_aset, hv]
    · rintro v S ⟨M', B, ⟨h1, rfl, rfl⟩, rfl⟩; exact ⟨h1, rfl⟩
  | some s =>
    refine (gtab_at (Q := fun v s2 => (badH q.n j.val h.type 4 = true ∧ v = .int .i64 2 ∧ s2 = s) ∨ (badH q.n j.val h.type 4 = false ∧ v = .int .i64 0 ∧ s2 = helloR now h st s)) h0 fun F' r E c h1 hv hl hle => ?_).mono ?_
    · refine (helloQ_some F' ⟨h1, fun e he => by cases he⟩ now hn0 hn1 j fr h hw st hsn hsl (hsa.mono hle) hl (hok _ (alook_some h0))).mono ?_
      rintro v S (⟨e1, rfl, rfl⟩ | ⟨e1, rfl, rfl⟩)
      · exact ⟨s, .inl ⟨e1, rfl, rfl⟩, rfl⟩
      · exact ⟨_, .inr ⟨e1, rfl, rfl⟩, rfl⟩
    · rintro v S ⟨s2, ⟨e1, rfl, rfl⟩ | ⟨e1, rfl, rfl⟩, rfl⟩
      · rw [aset_same h0]
        simp only [helloF, e1, if_true]
        exact ⟨trivial, trivial⟩
      · simp only [helloF, e1, h0, Bool.false_eq_true, if_false]
        exact ⟨trivial, trivial⟩
/-- An answer. -/
def ihuF (nif : Nat) (M : TabN) (now : Int) (j : I64) (fr : Bs 16) (h : Tlv) (rt : Int) (hr : Bool) : Int × TabN :=
  if badH nif j.val h.type 5 = true then (2, M) else match alook M ⟨j, fr⟩ with
    | none => (7, M)
    | some s => (0, aset M ⟨j, fr⟩ (ihuR now h rt hr s))
theorem ihuT (F : Fr) {ifs : List IfConf} (hqn : q.n = ifs.length) (hia : ArgSl F q.a 43 IfConf.enc ifs) (now : Int) (hn0 : 0 ≤ now) (hn1 : now ≤ 2305843009213693952) (j : I64) (fr : Bs 16) (h : Tlv) (hw : h.WF) (st : List Int) (hsn : h.stamps.n = st.length) (hsl : st.length ≤ 9223372036854775807) (hsa : ArgSl F h.stamps.a 1 (fun n => [Value.int .u32 n]) st) :
    Spec Try.prog 15 #[fp b, .int .i64 now, .int .i64 j.val, .agg (Bs.enc fr).toArray, .agg (Tlv.enc h).toArray] [NTab b most q M] F
    fun v S => ∃ rt hr, (st.length < 2 → ∀ s, alook M ⟨j, fr⟩ = some s → rt = s.rtt ∧ hr = s.hasRtt) ∧ v = .int .i64 (ihuF q.n M now j fr h rt hr).1 ∧ S = [NTab b most q (ihuF q.n M now j fr h rt hr).2] := by
  cases h0 : alook M ⟨j, fr⟩ with
  | none =>
    refine (gtab_spec (A := []) (Q := fun v M' B => v = .int .i64 (ihuF q.n M now j fr h 0 false).1 ∧ M' = (ihuF q.n M now j fr h 0 false).2 ∧ B = []) fun F' r E h1 h2 hv hnd hle => ?_).mono ?_
    · refine (ihuQ_none F' ⟨h1, h2⟩ now j fr h (alook_E hv h0)).mono ?_
      rintro v S (⟨e1, rfl, rfl⟩ | ⟨e1, rfl, rfl⟩)
      · refine ⟨E, [], [], ⟨?_, ?_, rfl⟩, perm_sameN⟩ <;> simp only [ihuF, e1, if_true]
        exact hv
      · refine ⟨E, [], [], ⟨?_, ?_, rfl⟩, perm_sameN⟩ <;> simp only [ihuF, e1, h0, Bool.false_eq_true, if_false]
        exact hv
    · rintro v S ⟨M', B, ⟨h1, rfl, rfl⟩, rfl⟩; exact ⟨0, false, fun _ s hs => (by cases hs), h1, rfl⟩
  | some s =>
    refine (gtab_at (Q := fun v s2 => (badH q.n j.val h.type 5 = true ∧ v = .int .i64 2 ∧ s2 = s) ∨ (badH q.n j.val h.type 5 = false ∧ v = .int .i64 0 ∧ ∃ rt hr, (st.length < 2 → rt = s.rtt ∧ hr = s.hasRtt) ∧ s2 = ihuR now h rt hr s)) h0 fun F' r E c h1 hv hl hle => ?_).mono ?_
    · refine (ihuQ_some F' ⟨h1, fun e he => by cases he⟩ hqn (hia.mono hle) now hn0 hn1 j fr h hw st hsn hsl (hsa.mono hle) hl).mono ?_
      rintro v S (⟨e1, rfl, rfl⟩ | ⟨e1, rfl, rt, hr, e2, rfl⟩)
      · exact ⟨s, .inl ⟨e1, rfl, rfl⟩, rfl⟩
      · exact ⟨_, .inr ⟨e1, rfl, rt, hr, e2, rfl⟩, rfl⟩
    · rintro v S ⟨s2, ⟨e1, rfl, rfl⟩ | ⟨e1, rfl, rt, hr, e2, rfl⟩, rfl⟩
      · rw [aset_same h0]
        refine ⟨_, _, fun _ s3 hs => (by cases hs; exact ⟨rfl, rfl⟩), ?_⟩
        simp only [ihuF, e1, if_true]
        exact ⟨trivial, trivial⟩
      · refine ⟨rt, hr, fun hl s2 hs => (by cases hs; exact e2 hl), ?_⟩
        simp only [ihuF, e1, h0, Bool.false_eq_true, if_false]
        exact ⟨trivial, trivial⟩
theorem getT (F : Fr) (j : I64) (fr : Bs 16) : Spec Try.prog 17 #[fp b, .int .i64 j.val, .agg (Bs.enc fr).toArray] [NTab b most q M] F
    fun v S => v = .tuple #[.agg (Neighbour.enc ((alook M ⟨j, fr⟩).getD Neighbour.zero)).toArray, .bool (alook M ⟨j, fr⟩).isSome] ∧ S = [NTab b most q M] := by
  refine (gtab_spec (A := []) (Q := fun v M' B => M' = M ∧ B = [] ∧ v = .tuple #[.agg (Neighbour.enc ((alook M ⟨j, fr⟩).getD Neighbour.zero)).toArray, .bool (alook M ⟨j, fr⟩).isSome]) fun F' r E h1 h2 hv hnd hle => ?_).mono ?_
  · cases h0 : alook E ⟨j, fr⟩ with
    | none =>
      have hm : alook M ⟨j, fr⟩ = none := by rw [← hv, alook_vals, h0]; rfl
      refine (getQ_none F' ⟨h1, h2⟩ j fr h0).mono ?_
      rintro v S ⟨rfl, rfl⟩
      exact ⟨E, [], [], ⟨hv, rfl, by rw [hm]; rfl⟩, perm_sameN⟩
    | some x =>
      obtain ⟨c, s⟩ := x
      have hm : alook M ⟨j, fr⟩ = some s := by rw [← hv, alook_vals, h0]; rfl
      refine (getQ_some F' ⟨h1, h2⟩ j fr h0).mono ?_
      rintro v S ⟨rfl, rfl⟩
      exact ⟨E, [], [], ⟨hv, rfl, by rw [hm]; rfl⟩, perm_sameN⟩
  · rintro v S ⟨M', B, ⟨rfl, rfl, h1⟩, rfl⟩; exact ⟨h1, rfl⟩
/-- What the table answers of hearing a neighbour, and of its cost. -/
def RxP (ifs : List IfConf) (M : TabN) (j : I64) (fr : Bs 16) (n : Int) : Prop :=
  match alook M ⟨j, fr⟩ with
  | none => n = 65535
  | some s => ∀ cf, ifs[Int.toNat j.val]? = some cf → cf.kind = 0 → n = rxN cf s
def CostP (ifs : List IfConf) (M : TabN) (j : I64) (fr : Bs 16) (n : Int) : Prop :=
  match alook M ⟨j, fr⟩ with
  | none => n = 65535
  | some s => ∀ cf, ifs[Int.toNat j.val]? = some cf → ∃ R, (cf.kind = 0 → R = rxN cf s) ∧ ((R = 65535 ∨ s.tx = 65535) → n = 65535) ∧ (R ≠ 65535 → s.tx ≠ 65535 → cf.kind = 0 → s.hasRtt = false → n = s.tx)
def InIfs (n : Nat) (M : TabN) : Prop := ∀ e ∈ M, 0 ≤ e.1.i.val ∧ e.1.i.val < n
theorem rxT (F : Fr) {ifs : List IfConf} (hqn : q.n = ifs.length) (hia : ArgSl F q.a 43 IfConf.enc ifs) (hok : ∀ e ∈ M, OkHist e.2) (hin : InIfs ifs.length M) (j : I64) (fr : Bs 16) :
    Spec Try.prog 16 #[fp b, .int .i64 j.val, .agg (Bs.enc fr).toArray] [NTab b most q M] F fun v S => ∃ n, v = .int .u16 n ∧ RxP ifs M j fr n ∧ S = [NTab b most q M] := by
  refine (gtab_spec (A := []) (Q := fun v M' B => M' = M ∧ B = [] ∧ ∃ n, v = .int .u16 n ∧ RxP ifs M j fr n) fun F' r E h1 h2 hv hnd hle => ?_).mono ?_
  · cases h0 : alook E ⟨j, fr⟩ with
    | none =>
      have hm : alook M ⟨j, fr⟩ = none := by rw [← hv, alook_vals, h0]; rfl
      refine (rxQ_none F' ⟨h1, h2⟩ j fr h0).mono ?_
      rintro v S ⟨rfl, rfl⟩
      exact ⟨E, [], [], ⟨hv, rfl, _, rfl, by unfold RxP; rw [hm]⟩, perm_sameN⟩
    | some x =>
      obtain ⟨c, s⟩ := x
      have hm : alook M ⟨j, fr⟩ = some s := by rw [← hv, alook_vals, h0]; rfl
      have hj := hin _ (alook_some hm)
      simp only at hj
      obtain ⟨cf, hci⟩ : ∃ x, ifs[Int.toNat j.val]? = some x := ⟨_, List.getElem?_eq_getElem (by omega)⟩
      refine (rxQ_some F' ⟨h1, h2⟩ hqn (hia.mono hle) j fr h0 hci ⟨hj.1, by omega⟩ (hok _ (alook_some hm))).mono ?_
      rintro v S ⟨n, rfl, e1, rfl⟩
      exact ⟨E, [], [], ⟨hv, rfl, n, rfl, by unfold RxP; rw [hm]; intro cf2 e2; rw [hci] at e2; cases e2; exact e1⟩, perm_sameN⟩
  · rintro v S ⟨M', B, ⟨rfl, rfl, n, h1, h2⟩, rfl⟩; exact ⟨n, h1, h2, rfl⟩
theorem costT (F : Fr) {ifs : List IfConf} (hqn : q.n = ifs.length) (hia : ArgSl F q.a 43 IfConf.enc ifs) (hok : ∀ e ∈ M, OkHist e.2) (hin : InIfs ifs.length M) (hrt : ∀ cf ∈ ifs, RttOk cf.rtt) (j : I64) (fr : Bs 16) :
    Spec Try.prog 18 #[fp b, .int .i64 j.val, .agg (Bs.enc fr).toArray] [NTab b most q M] F fun v S => ∃ n, v = .int .u16 n ∧ CostP ifs M j fr n ∧ S = [NTab b most q M] := by
  refine (gtab_spec (A := []) (Q := fun v M' B => M' = M ∧ B = [] ∧ ∃ n, v = .int .u16 n ∧ CostP ifs M j fr n) fun F' r E h1 h2 hv hnd hle => ?_).mono ?_
  · cases h0 : alook E ⟨j, fr⟩ with
    | none =>
      have hm : alook M ⟨j, fr⟩ = none := by rw [← hv, alook_vals, h0]; rfl
      refine (costQ_none F' ⟨h1, h2⟩ j fr h0).mono ?_
      rintro v S ⟨rfl, rfl⟩
      exact ⟨E, [], [], ⟨hv, rfl, _, rfl, by unfold CostP; rw [hm]⟩, perm_sameN⟩
    | some x =>
      obtain ⟨c, s⟩ := x
      have hm : alook M ⟨j, fr⟩ = some s := by rw [← hv, alook_vals, h0]; rfl
      have hj := hin _ (alook_some hm)
      simp only at hj
      obtain ⟨cf, hci⟩ : ∃ x, ifs[Int.toNat j.val]? = some x := ⟨_, List.getElem?_eq_getElem (by omega)⟩
      refine (costQ_some F' ⟨h1, h2⟩ hqn (hia.mono hle) j fr h0 hci ⟨hj.1, by omega⟩ (hok _ (alook_some hm)) (hrt _ (List.mem_of_getElem? hci))).mono ?_
      rintro v S ⟨n, R, rfl, e1, e3, e4, rfl⟩
      exact ⟨E, [], [], ⟨hv, rfl, n, rfl, by unfold CostP; rw [hm]; intro cf2 e2; rw [hci] at e2; cases e2; exact ⟨R, e1, e3, e4⟩⟩, perm_sameN⟩
  · rintro v S ⟨M', B, ⟨rfl, rfl, n, h1, h2⟩, rfl⟩; exact ⟨n, h1, h2, rfl⟩
end
/-! The table, whole: with its interfaces. -/
def NaL (b : Nat) (most : Int) (ifs : List IfConf) (M : TabN) (z : Option Addr × Nat) : List HProp := [slA 60 43 IfConf.enc (.slice z.1 ifs.length z.2) ifs, NTab b most ⟨z.1, ifs.length, z.2⟩ M]
def NA (b : Nat) (most : Int) (ifs : List IfConf) (M : TabN) : HProp := ex fun z : Option Addr × Nat => stars (NaL b most ifs M z)
section
variable {b : Nat} {most : Int} {ifs : List IfConf} {M : TabN}
theorem na_open (p : PH) (h : NA b most ifs M p) : ∃ z, stars (NaL b most ifs M z) p := h
theorem na_mk {a : Option Addr} {c : Nat} (p : PH) (h : stars [slA 60 43 IfConf.enc (.slice a ifs.length c) ifs, NTab b most ⟨a, ifs.length, c⟩ M] p) : NA b most ifs M p := ⟨(a, c), h⟩
theorem Spec.nei {f : FuncId} {args : Array Value} {F : Fr} {R1 : Value → TabN → List HProp → Prop} {R : Value → List HProp → Prop}
    (h : ∀ (F' : Fr) (q : Slc), PH.le F.h F'.h → q.n = ifs.length → ArgSl F' q.a 43 IfConf.enc ifs → Spec Try.prog f args [NTab b most q M] F' (fun v S => ∃ M' T, R1 v M' T ∧ S = NTab b most q M' :: T)) (hR : ∀ v M' T, R1 v M' T → R v (NA b most ifs M' :: T)) : Spec Try.prog f args [NA b most ifs M] F R := by
  refine Spec.open na_open fun ⟨al, cl⟩ => ?_
  refine Spec.post (Spec.lendSl (R := fun v S' => ∃ M' T, R1 v M' T ∧ S' = NTab b most ⟨al, ifs.length, cl⟩ M' :: T) (m := [NTab b most ⟨al, ifs.length, cl⟩ M]) (xs := ifs) IfConf.enc_len (fun F1 hle1 ha => h F1 ⟨al, ifs.length, cl⟩ hle1 rfl ha)) ?_
  rintro v S1 w ⟨S2, ⟨M', T, h1, rfl⟩, rfl⟩ s
  exact ⟨_, hR v M' T h1, Sat.pack (m := [slA 60 43 IfConf.enc (.slice al ifs.length cl) ifs, NTab b most ⟨al, ifs.length, cl⟩ M']) (r := T) s na_mk⟩
end
end Slb
