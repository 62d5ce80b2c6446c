/- K18: a part of the proof that a law of this package holds for every input; no condition. -/
import Derived.Test.YtgcjmamfbcmccaaK17
import Derived.Test.YtgcjmamfbcmccaaK10
namespace Slb
open Go Go.Proofs
set_option maxRecDepth 20000
/-- The best one of a list, and whether there is one. -/
structure Best2 (A : List Entry) (s d : Bs 16) (r : Entry × Bool) : Prop where
  yes : r.2 = true → familyB s = familyB d ∧ r.1 ∈ A ∧ mtD d r.1 = true ∧ containsB r.1.pair.src s = true ∧ (∀ x ∈ A, mtD d x = true → dlen x ≤ dlen r.1) ∧ ∀ x ∈ A, mtD d x = true → dlen x = dlen r.1 → containsB x.pair.src s = true → slen x ≤ slen r.1
  no : r.2 = false → r.1 = Entry.zero ∧ (familyB s = familyB d → ∀ x ∈ A, mtD d x = true → (∀ y ∈ A, mtD d y = true → dlen y ≤ dlen x) → containsB x.pair.src s = false)
theorem look_best (D : List Entry) (s d : Bs 16) : Best2 D s d (lookF D s d) := by
  refine ⟨(look_found D s d).yes, fun h => ⟨(look_found D s d).no h, fun hf x hx hm hmax => ?_⟩⟩
  have h1 := fold_inv d D
  have h2 := fold_invS s (D.foldl (fstep d) [])
  unfold lookF at h
  rw [if_pos hf] at h
  have hx2 := h1.all x hx hm fun y hy => by
    have ha := hmax y (h1.sub y hy).1 (h1.sub y hy).2
    obtain ⟨z, hz, hle⟩ := h1.top x hx hm
    have := h1.same y hy z hz
    omega
  exact (h2.no h).2 x hx2
theorem Best2.mem {A B : List Entry} {s d : Bs 16} {r : Entry × Bool} (h : Best2 A s d r) (hm : ∀ x, x ∈ A ↔ x ∈ B) : Best2 B s d r := by
  refine ⟨fun hy => ?_, fun hn => ?_⟩
  · obtain ⟨a, b, c, d, e, f⟩ := h.yes hy
    exact ⟨a, (hm _).1 b, c, d, fun x hx => e x ((hm x).2 hx), fun x hx => f x ((hm x).2 hx)⟩
  · obtain ⟨a, b⟩ := h.no hn
    exact ⟨a, fun hf x hx hmt hmax => b hf x ((hm x).2 hx) hmt fun y hy => hmax y ((hm y).1 hy)⟩
theorem dlen_eq {d : Bs 16} {x y : Entry} (hx : mtD d x = true) (hy : mtD d y = true) (h : dlen x = dlen y) : x.pair.dst = y.pair.dst := by
  unfold mtD containsB at hx hy
  simp only [Bool.and_eq_true, decide_eq_true_eq] at hx hy
  have hl : x.pair.dst.len.val = y.pair.dst.len.val := h
  have h1 := hx.2.2
  rw [hl, hy.2.2] at h1
  have h2 : x.pair.dst.a = y.pair.dst.a := h1.symm
  generalize x.pair.dst = p at h2 hl
  generalize y.pair.dst = q at h2 hl
  obtain ⟨a, l⟩ := p
  obtain ⟨b, k⟩ := q
  simp only at h2 hl
  subst h2
  obtain rfl := Subtype.ext hl
  rfl
theorem slen_eq {s : Bs 16} {x y : Entry} (hx : containsB x.pair.src s = true) (hy : containsB y.pair.src s = true) (h : slen x = slen y) : x.pair.src = y.pair.src := by
  unfold containsB at hx hy
  simp only [Bool.and_eq_true, decide_eq_true_eq] at hx hy
  have hl : x.pair.src.len.val = y.pair.src.len.val := h
  have h1 := hx.2
  rw [hl, hy.2] at h1
  have h2 : x.pair.src.a = y.pair.src.a := h1.symm
  generalize x.pair.src = p at h2 hl
  generalize y.pair.src = q at h2 hl
  obtain ⟨a, l⟩ := p
  obtain ⟨b, k⟩ := q
  simp only at h2 hl
  subst h2
  obtain rfl := Subtype.ext hl
  rfl
theorem Best2.uniq {A : List Entry} {s d : Bs 16} {r r' : Entry × Bool} (hi : ∀ x ∈ A, ∀ y ∈ A, x.pair = y.pair → x = y) (h : Best2 A s d r) (h' : Best2 A s d r') : r = r' := by
  obtain ⟨e, b⟩ := r
  obtain ⟨e', b'⟩ := r'
  cases b <;> cases b'
  · have e1 : e = Entry.zero := (h.no rfl).1
    have e2 : e' = Entry.zero := (h'.no rfl).1
    rw [e1, e2]
  · exfalso
    obtain ⟨a1, a2, a3, a4, a5, a6⟩ := h'.yes rfl
    have := (h.no rfl).2 a1 _ a2 a3 a5
    rw [a4] at this; cases this
  · exfalso
    obtain ⟨a1, a2, a3, a4, a5, a6⟩ := h.yes rfl
    have := (h'.no rfl).2 a1 _ a2 a3 a5
    rw [a4] at this; cases this
  · obtain ⟨a1, a2, a3, a4, a5, a6⟩ := h.yes rfl
    obtain ⟨b1, b2, b3, b4, b5, b6⟩ := h'.yes rfl
    simp only at a2 a3 a4 a5 a6 b2 b3 b4 b5 b6
    have hd : dlen e = dlen e' := by have h1 := a5 _ b2 b3; have h2 := b5 _ a2 a3; omega
    have hs : slen e = slen e' := by have h1 := a6 _ b2 b3 hd.symm b4; have h2 := b6 _ a2 a3 hd a4; omega
    have hp : e.pair = e'.pair := by
      have h1 := dlen_eq a3 b3 hd
      have h2 := slen_eq a4 b4 hs
      generalize e.pair = p at h1 h2
      generalize e'.pair = q at h1 h2
      obtain ⟨p1, p2⟩ := p
      obtain ⟨q1, q2⟩ := q
      simp only at h1 h2
      subst h1; subst h2; rfl
    rw [hi e a2 e' b2 hp]
theorem mt_len {d : Bs 16} {x : Entry} (h : mtD d x = true) : 0 ≤ dlen x ∧ dlen x ≤ 128 := by
  unfold mtD containsB at h
  simp only [Bool.and_eq_true] at h
  have := checkB_len h.2.1
  exact ⟨this.1, this.2.1⟩
theorem cs_len {s : Bs 16} {x : Entry} (h : containsB x.pair.src s = true) : 0 ≤ slen x ∧ slen x ≤ 128 := by
  unfold containsB at h
  simp only [Bool.and_eq_true] at h
  have := checkB_len h.1
  exact ⟨this.1, this.2.1⟩
/-- The longest destination of the first ones. -/
structure DTop (d : Bs 16) (D : List Entry) (n : Int) : Prop where
  lo : -1 ≤ n
  hi : n ≤ 128
  le : ∀ e ∈ D, mtD d e = true → dlen e ≤ n
  at_ : 0 ≤ n → ∃ e ∈ D, mtD d e = true ∧ dlen e = n
theorem DTop.nil {d : Bs 16} : DTop d [] (-1) := ⟨by omega, by omega, by simp, fun h => by omega⟩
theorem DTop.skip {d : Bs 16} {D : List Entry} {n : Int} (h : DTop d D n) {e : Entry} (he : mtD d e = false) : DTop d (D ++ [e]) n := by
  refine ⟨h.lo, h.hi, fun x hx hm => ?_, fun h0 => ?_⟩
  · rcases List.mem_append.1 hx with hx | hx
    · exact h.le x hx hm
    · simp at hx; subst hx; rw [he] at hm; cases hm
  · obtain ⟨x, hx, h1⟩ := h.at_ h0
    exact ⟨x, List.mem_append_left _ hx, h1⟩
theorem DTop.take {d : Bs 16} {D : List Entry} {n : Int} (h : DTop d D n) {e : Entry} (he : mtD d e = true) : DTop d (D ++ [e]) (if dlen e > n then dlen e else n) := by
  have hl := mt_len he
  have h1 := h.lo
  have h2 := h.hi
  refine ⟨by split <;> omega, by split <;> omega, fun x hx hm => ?_, fun h0 => ?_⟩
  · rcases List.mem_append.1 hx with hx | hx
    · have := h.le x hx hm; split <;> omega
    · simp at hx; subst hx; split <;> omega
  · split
    · exact ⟨e, by simp, he, rfl⟩
    · rename_i hc
      rw [if_neg hc] at h0
      obtain ⟨x, hx, h1⟩ := h.at_ h0
      exact ⟨x, List.mem_append_left _ hx, h1⟩
def candK (s d : Bs 16) (n : Int) (e : Entry) : Prop := mtD d e = true ∧ dlen e = n ∧ containsB e.pair.src s = true
/-- The place of the longest source of the first ones. -/
structure STop (s d : Bs 16) (n : Int) (A : List Entry) (k : Nat) (si ai : Int) : Prop where
  lo : -1 ≤ si
  no : ai < 0 → si = -1 ∧ ∀ x ∈ A.take k, ¬ candK s d n x
  yes : 0 ≤ ai → ∃ (i : Nat) (x : Entry), ai = i ∧ A[i]? = some x ∧ candK s d n x ∧ si = slen x ∧ ∀ y ∈ A.take k, candK s d n y → slen y ≤ si
theorem STop.zero {s d : Bs 16} {n : Int} {A : List Entry} : STop s d n A 0 (-1) (-1) := ⟨by omega, fun _ => ⟨rfl, by simp⟩, fun h => by omega⟩
theorem STop.skip {s d : Bs 16} {n : Int} {A : List Entry} {k : Nat} {si ai : Int} (h : STop s d n A k si ai) {e : Entry} (hk : A[k]? = some e) (he : candK s d n e → slen e ≤ si) : STop s d n A (k + 1) si ai := by
  refine ⟨h.lo, fun h0 => ⟨(h.no h0).1, fun x hx hc => ?_⟩, fun h0 => ?_⟩
  · rw [take_succ_get hk] at hx
    rcases List.mem_append.1 hx with hx | hx
    · exact (h.no h0).2 x hx hc
    · simp at hx; subst hx
      have h1 := he hc
      have h2 := cs_len hc.2.2
      have h3 := (h.no h0).1
      omega
  · obtain ⟨i, x, a, b, c, dd, ee⟩ := h.yes h0
    refine ⟨i, x, a, b, c, dd, fun y hy hc => ?_⟩
    rw [take_succ_get hk] at hy
    rcases List.mem_append.1 hy with hy | hy
    · exact ee y hy hc
    · simp at hy; subst hy; exact he hc
theorem STop.take {s d : Bs 16} {n : Int} {A : List Entry} {k : Nat} {si ai : Int} (h : STop s d n A k si ai) {e : Entry} (hk : A[k]? = some e) (hc : candK s d n e) (hg : slen e > si) : STop s d n A (k + 1) (slen e) k := by
  have h1 := cs_len hc.2.2
  refine ⟨by omega, fun h0 => by omega, fun _ => ⟨k, e, rfl, hk, hc, rfl, fun y hy hcy => ?_⟩⟩
  rw [take_succ_get hk] at hy
  rcases List.mem_append.1 hy with hy | hy
  · by_cases h0 : ai < 0
    · exact absurd hcy ((h.no h0).2 y hy)
    · obtain ⟨i, x, a, b, c, dd, ee⟩ := h.yes (by omega)
      have := ee y hy hcy; omega
  · simp at hy; subst hy; exact Int.le_refl _
theorem best_no {A : List Entry} {s d : Bs 16} {n si ai : Int} (hf : familyB s = familyB d) (hd : DTop d A n) (hs : STop s d n A A.length si ai) (h0 : ai < 0) : Best2 A s d (Entry.zero, false) := by
  refine ⟨fun h => (by cases h), fun _ => ⟨rfl, fun _ x hx hm hmax => ?_⟩⟩
  have hn : dlen x = n := by
    have h1 := hd.le x hx hm
    have h2 := mt_len hm
    obtain ⟨y, hy, hym, hyn⟩ := hd.at_ (by omega)
    have := hmax y hy hym
    omega
  cases hq : containsB x.pair.src s with
  | false => rfl
  | true =>
    have := (hs.no h0).2 x (by rw [List.take_of_length_le (Nat.le_refl _)]; exact hx)
    exact absurd ⟨hm, hn, hq⟩ this
theorem best_yes {A : List Entry} {s d : Bs 16} {n si : Int} {i : Nat} {x : Entry} (hf : familyB s = familyB d) (hd : DTop d A n) (hs : STop s d n A A.length si i) (hi : A[i]? = some x) : Best2 A s d (x, true) := by
  obtain ⟨i', x', a, b, c, dd, ee⟩ := hs.yes (by omega)
  have : i' = i := by omega
  subst this
  rw [hi] at b
  cases b
  refine ⟨fun _ => ⟨hf, List.mem_of_getElem? hi, c.1, c.2.2, fun y hy hm => ?_, fun y hy hm hl hc => ?_⟩, fun h => (by cases h)⟩
  · have := hd.le y hy hm; have := c.2.1; simp only; omega
  · have := ee y (by rw [List.take_of_length_le (Nat.le_refl _)]; exact hy) ⟨hm, by have := c.2.1; simp only at hl; omega, hc⟩
    simp only; omega

set_option maxHeartbeats 1600000 in
theorem rlookup_spec (F : Fr) {b : Nat} {al ai : Option Addr} {cl ci : Nat} {n : Int} {L JJ : List Entry} {M1 M2 : TabE} (hoL : OrdE M1 L) (hoJ : OrdE M2 JJ) (hhl : SlH al cl L) (hhi : SlH ai ci JJ) (hlL : L.length ≤ 100000) (hlJ : JJ.length ≤ 100000) (s d : Bs 16)  : Spec Try.prog 27 #[.pointer (some ⟨b, 0, none⟩), .agg (Bs.enc s).toArray, .agg (Bs.enc d).toArray] [blk b (Ref20Kernel.enc ⟨⟨al, L.length, cl⟩, ⟨ai, JJ.length, ci⟩, n⟩) 55, slA 38 51 Entry.enc (.slice al L.length cl) L, slA 38 51 Entry.enc (.slice ai JJ.length ci) JJ] F (fun v S => ∃ r, v = .tuple #[valE r.1, .bool r.2] ∧ Best2 (L ++ JJ) s d r ∧ S = [blk b (Ref20Kernel.enc ⟨⟨al, L.length, cl⟩, ⟨ai, JJ.length, ci⟩, n⟩) 55, slA 38 51 Entry.enc (.slice al L.length cl) L, slA 38 51 Entry.enc (.slice ai JJ.length ci) JJ]) := by
 refine Spec.intro (N := 115) (args := [.pointer (some ⟨b, 0, none⟩), .agg (Bs.enc s).toArray, .agg (Bs.enc d).toArray]) Try.func27 rfl rfl (by simp) ?_
 refine Run.seq fun k1 hk1 => ?_
 refine Run.region ?_
 show Sq _ _ _ [0, 1, 2, 3] _ _ _ _
 refine Sq.eff (i := 0) rfl (Want.none rfl) rfl (ltN rfl) (EF.boxA rfl rfl) ?_
 rintro _ _ ⟨b4, rfl, rfl⟩
 refine Sq.eff (i := 1) rfl (Want.none rfl) rfl (ltN rfl) (EF.boxA rfl rfl) ?_
 rintro _ _ ⟨b5, rfl, rfl⟩
 refine Sq.eff (i := 2) rfl (Want.none rfl) rfl (ltN rfl) (EF.allocA (l := Entry.enc Entry.zero) rfl zero38) ?_
 rintro _ _ ⟨b6, rfl, rfl⟩
 refine Sq.quiet (i := 3) rfl (Want.none rfl) rfl (ltN rfl) (QP.assign rfl rfl).read ?_
 refine Sq.nil ?_
 refine hk1 _ _ ?_
 refine Run.seq fun k2 hk2 => ?_
 refine Run.seq fun k3 hk3 => ?_
 refine Run.regionD (M := [0, 1, 0, 7, 15]) (q := 21) (r := 5) (by kernel_rfl) ?_
 refine Dw.read (i := 0) rfl (by kernel_rfl) (Want.none rfl) rfl (ltN rfl) (QR.load rfl rfl g30 (Bs.sub _)) ?_
 refine Dw.read (i := 2) rfl (by kernel_rfl) (Want.none rfl) rfl (ltN rfl) (QR.load rfl rfl g30 (Bs.sub _)) ?_
 refine Dw.eff (i := 1) (by kernel_rfl) (by kernel_rfl) ?_
 refine One.mk (o := _) (l := [2]) rfl (by kernel_rfl) (Want.none rfl) rfl (ltN rfl) (EF.call rfl ce35 rfl Takes.nil (fun F' hle hr => rfamily_spec F' (s))) (by kernel_rfl) ?_
 rintro _ _ ⟨_, ⟨rfl, rfl⟩, rfl⟩
 refine ⟨?_, ?_⟩
 ·rw [List.forall_mem_cons]
  refine ⟨?_, fun _ h => (by cases h)⟩
  ·refine Look.app ?_
   exact Look.mk rfl rfl rfl (QR.load rfl rfl g30 (Bs.sub _))
 refine ?_
 refine J.app ?_
 refine Dw.eff (i := 3) (by kernel_rfl) (by kernel_rfl) ?_
 refine One.mk (o := _) (l := []) rfl (by kernel_rfl) (Want.none rfl) rfl (ltN rfl) (EF.call rfl ce35 rfl Takes.nil (fun F' hle hr => rfamily_spec F' (d))) (by kernel_rfl) ?_
 rintro _ _ ⟨_, ⟨rfl, rfl⟩, rfl⟩
 refine ⟨fun _ h => (by cases h), ?_⟩
 refine J.app ?_
 refine Dw.pure (i := 4) rfl (by kernel_rfl) (Want.none rfl) rfl (ltN rfl) (QP.neq rfl rfl rfl) ?_
 refine J.caseD (fun c20 => ?_) (fun c20 => ?_)
 ·skip
  refine Dw.nil (by kernel_rfl) ?_
  refine hk3 _ _ ?_
  refine Run.cond_t rfl ?_
  refine Run.seq fun k4 hk4 => ?_
  refine Run.region ?_
  show Sq _ _ _ [0, 1, 2] _ _ _ _
  refine Sq.quiet (i := 0) rfl (Want.none rfl) rfl (ltN rfl) (QP.build (l := Entry.enc Entry.zero) rfl st38 rfl (by exact trivial) rfl).read ?_
  refine Sq.act (i := 1) rfl (Want.none rfl) rfl (EF.storeA rfl rfl rfl z38 (SetL.all (Entry.enc_len _) (Entry.enc_len _)) (Entry.enc_cell _)) ?_
  rintro _ _ rfl
  refine Sq.quiet (i := 2) rfl (Want.none rfl) rfl (ltN rfl) (QP.assign rfl rfl).read ?_
  refine Sq.nil ?_
  refine hk4 _ _ ?_
  refine Run.ret ?_
  exact J.ends (res_cell2 rfl rfl g38 (Entry.enc_sub _) rfl) (.cons (by repeat constructor) (.cons (by repeat constructor) (.cons (by repeat constructor) Takes.nil))) ⟨(Entry.zero, false), rfl, ⟨fun h => (by cases h), fun _ => ⟨rfl, fun h => absurd h (by omega)⟩⟩, rfl⟩
 ·skip
  refine Dw.nil (by kernel_rfl) ?_
  refine hk3 _ _ ?_
  refine Run.cond_f rfl ?_
  refine Run.skip ?_
  refine hk2 _ _ ?_
  refine Run.seq fun k5 hk5 => ?_
  refine Run.regionD (M := [0, 0, 2, 6, 14, 31, 0, 64, 192, 448, 1023, 2047]) (q := 990) (r := 528) (by kernel_rfl) ?_
  refine Dw.pure (i := 1) rfl (by kernel_rfl) (Want.none rfl) rfl (ltN rfl) (QP.move rfl rfl) ?_
  refine Dw.pure (i := 2) rfl (by kernel_rfl) (Want.none rfl) rfl (ltN rfl) (QP.nilCheck rfl rfl) ?_
  refine Dw.pure (i := 3) rfl (by kernel_rfl) (Want.none rfl) rfl (ltN rfl) (QP.fieldAddr rfl rfl f55_0) ?_
  refine Dw.read (i := 4) rfl (by kernel_rfl) (Want.none rfl) rfl (ltN rfl) (QR.load1 (v := .slice _ L.length _) rfl rfl g22 (Ref20Kernel.sub_l _)) ?_
  refine Dw.pure (i := 6) rfl (by kernel_rfl) (Want.none rfl) rfl (ltN rfl) (QP.move rfl rfl) ?_
  refine Dw.pure (i := 7) rfl (by kernel_rfl) (Want.none rfl) rfl (ltN rfl) (QP.nilCheck rfl rfl) ?_
  refine Dw.pure (i := 8) rfl (by kernel_rfl) (Want.none rfl) rfl (ltN rfl) (QP.fieldAddr rfl rfl f55_1) ?_
  refine Dw.read (i := 9) rfl (by kernel_rfl) (Want.none rfl) rfl (ltN rfl) (QR.load1 (v := .slice _ JJ.length _) rfl rfl g22 (Ref20Kernel.sub_i _)) ?_
  refine Dw.eff (i := 0) (by kernel_rfl) (by kernel_rfl) ?_
  refine One.mk (o := _) (l := [9, 4]) rfl (by kernel_rfl) (Want.none rfl) rfl (ltN rfl) (EF.buildSlice0 (enc := Entry.enc) rfl Try.underlying22 z38 zero38 (by simp [Value.cells, Entry.enc_len]) (by decide)) (by kernel_rfl) ?_
  rintro _ _ ⟨b22, rfl, rfl⟩
  refine ⟨?_, ?_⟩
  ·rw [List.forall_mem_cons, List.forall_mem_cons]
   refine ⟨?_, ?_, fun _ h => (by cases h)⟩
   ·exact Look.mk rfl rfl rfl (QR.load1 (v := .slice _ JJ.length _) rfl rfl g22 (Ref20Kernel.sub_i _))
   ·exact Look.mk rfl rfl rfl (QR.load1 (v := .slice _ L.length _) rfl rfl g22 (Ref20Kernel.sub_l _))
  refine ?_
  refine Dw.eff (i := 5) (by kernel_rfl) (by kernel_rfl) ?_
  refine One.mk (o := _) (l := [9]) rfl (by kernel_rfl) (Want.none rfl) rfl (ltN rfl) (EF.append (xs := []) (ys := L) el38 Entry.enc_len Entry.enc_cell rfl rfl rfl Try.underlying22 Try.underlying22 rfl rfl (by repeat constructor) (RowsAt.ownH Entry.enc_len hhl (by repeat constructor)) (by first | omega | (simp <;> omega))) (by kernel_rfl) ?_
  rintro sl27 _ rfl
  refine ⟨?_, ?_⟩
  ·rw [List.forall_mem_cons]
   refine ⟨?_, fun _ h => (by cases h)⟩
   ·exact Look.mk rfl rfl rfl (QR.load1 (v := .slice _ JJ.length _) rfl rfl g22 (Ref20Kernel.sub_i _))
  refine ?_
  refine Dw.slCase (v := sl27) (xs := [] ++ L) (by repeat constructor) (fun a27 c27 hv27 hh27 => ?_)
  subst hv27
  refine Dw.eff (i := 10) (by kernel_rfl) (by kernel_rfl) ?_
  refine One.mk (o := _) (l := []) rfl (by kernel_rfl) (Want.none rfl) rfl (ltN rfl) (EF.append (xs := _) (ys := JJ) el38 Entry.enc_len Entry.enc_cell rfl rfl rfl Try.underlying22 Try.underlying22 rfl rfl (by repeat constructor) (RowsAt.ownH Entry.enc_len hhi (by repeat constructor)) (by first | omega | (simp <;> omega))) (by kernel_rfl) ?_
  rintro sl32 _ rfl
  refine ⟨fun _ h => (by cases h), ?_⟩
  refine Dw.eff (i := 11) (by kernel_rfl) (by kernel_rfl) ?_
  refine One.mk (o := _) (l := []) rfl (by kernel_rfl) (Want.none rfl) rfl (ltN rfl) ((QP.assign rfl rfl).eff) (by kernel_rfl) ?_
  rintro sl32 _ ⟨rfl, rfl⟩
  refine ⟨fun _ h => (by cases h), ?_⟩
  refine Dw.nil (by kernel_rfl) ?_
  refine hk5 _ _ ?_
  refine Run.seq fun k6 hk6 => ?_
  refine Run.region ?_
  show Sq _ _ _ [0, 1, 2] _ _ _ _
  refine Sq.slCase (v := sl32) (xs := ([] ++ L) ++ JJ) (by repeat constructor) (fun aA cA hvA hhA => ?_)
  subst hvA
  obtain ⟨A, hA⟩ : ∃ A, A = L ++ JJ := ⟨_, rfl⟩
  rw [List.nil_append, ← hA] at hhA ⊢
  have hAl : A.length ≤ 200000 := by rw [hA, List.length_append]; omega
  refine Sq.quiet (i := 0) rfl (Want.none rfl) rfl (ltN rfl) (QP.assign rfl rfl).read ?_
  refine Sq.quiet (i := 1) rfl (Want.none rfl) rfl (ltN rfl) (QP.assign rfl rfl).read ?_
  refine Sq.quiet (i := 2) rfl (Want.none rfl) rfl (ltN rfl) (QP.assign rfl rfl).read ?_
  refine Sq.nil ?_
  refine hk6 _ _ ?_
  refine Run.seq fun k7 hk7 => ?_
  refine Run.seq fun k8 hk8 => ?_
  refine Run.region ?_
  show Sq _ _ _ [0] _ _ _ _
  refine Sq.quiet (i := 0) rfl (Want.none rfl) rfl (ltN rfl) (QP.assign rfl rfl).read ?_
  refine Sq.nil ?_
  refine hk8 _ _ ?_
  refine Run.block ?_
  refine Run.loop2 (fun (i : Nat) (n1 : Int) => i ≤ A.length ∧ DTop d (A.take i) n1) (fun i n1 => .cons 0 (.pointer (some ⟨b, 0, none⟩)) (.cons 4 (.pointer (some ⟨b4, 0, none⟩)) (.cons 5 (.pointer (some ⟨b5, 0, none⟩)) (.cons 6 (.pointer (some ⟨b6, 0, none⟩)) (.cons 8 (.slice aA A.length cA) (.cons 9 (.int .i64 n1) (.cons 10 (.int .i64 (-1)) (.cons 11 (.int .i64 (-1)) (.cons 12 (.int .i64 i) (.nil)))))))))) (fun i n1 => [blk b (Ref20Kernel.enc ⟨⟨al, L.length, cl⟩, ⟨ai, JJ.length, ci⟩, n⟩) 55, slA 38 51 Entry.enc (.slice al L.length cl) L, slA 38 51 Entry.enc (.slice ai JJ.length ci) JJ, blk b4 (Bs.enc s) 30, blk b5 (Bs.enc d) 30, blk b6 (Entry.enc Entry.zero) 38, slA 38 51 Entry.enc (.slice aA A.length cA) A]) (fun i n1 => A.length - i) (0) (-1) (⟨Nat.zero_le _, by simpa using DTop.nil⟩) ?_ ?_
  ·exact fun _ j => J.envJ (J.keep (.cons (by repeat constructor) (.cons (by repeat constructor) (.cons (by repeat constructor) (.cons (by repeat constructor) (.cons (by repeat constructor) (.cons (by repeat constructor) (.cons (by repeat constructor) Takes.nil))))))) j) ⟨rfl, rfl, rfl, rfl, rfl, rfl, rfl, rfl, rfl, trivial⟩
  rintro i n1 ⟨hile, hdt⟩ kl9 hl9
  refine Run.seq fun k10 hk10 => ?_
  refine Run.seq fun k11 hk11 => ?_
  refine Run.region ?_
  show Sq _ _ _ [0, 1, 2, 3] _ _ _ _
  refine Sq.quiet (i := 0) rfl (Want.none rfl) rfl (ltN rfl) (QP.move rfl rfl).read ?_
  refine Sq.quiet (i := 1) rfl (Want.none rfl) rfl (ltN rfl) (QP.move rfl rfl).read ?_
  refine Sq.quiet (i := 2) rfl (Want.none rfl) rfl (ltN rfl) (QP.len rfl rfl rfl Try.underlying22).read ?_
  refine Sq.quiet (i := 3) rfl (Want.none rfl) rfl (ltN rfl) (QP.lss rfl rfl rfl).read ?_
  refine J.caseD (fun c36 => ?_) (fun c36 => ?_)
  ·skip
   refine Sq.nil ?_
   refine hk11 _ _ ?_
   refine Run.cond_t rfl ?_
   refine Run.skip ?_
   refine hk10 _ _ ?_
   refine Run.seq fun k12 hk12 => ?_
   refine Run.block ?_
   refine Run.seq fun k13 hk13 => ?_
   refine Run.region ?_
   show Sq _ _ _ [0, 1, 2, 3, 4, 5, 6] _ _ _ _
   obtain ⟨x, hi⟩ : ∃ x, A[i]? = some x := ⟨_, List.getElem?_eq_getElem (by omega)⟩
   obtain ⟨b0, o0, rfl⟩ := hhA.get (by omega)
   refine Sq.quiet (i := 0) rfl (Want.none rfl) rfl (ltN rfl) (QP.move rfl rfl).read ?_
   refine Sq.quiet (i := 1) rfl (Want.none rfl) rfl (ltN rfl) (QP.move rfl rfl).read ?_
   refine Sq.quiet (i := 2) rfl (Want.none rfl) rfl (ltN rfl) (QP.indexAddr rfl rfl rfl Try.underlying22 z38 (by first | omega | (simp <;> omega)) (by first | omega | (simp <;> omega))).read ?_
   refine Sq.quiet (i := 3) rfl (Want.none rfl) rfl (ltN rfl) (QP.fieldAddr rfl rfl f38_0).read ?_
   refine Sq.quiet (i := 4) rfl (Want.none rfl) rfl (ltN rfl) (QR.loadSlF rfl rfl g36 Entry.enc_len (SlAt.own Entry.enc_len (by repeat constructor)) hi (Entry.sub_pair _)) ?_
   refine Sq.eff (i := 5) rfl (Want.none rfl) rfl (ltN rfl) (EF.allocA (l := Pair.enc Pair.zero) rfl zero36) ?_
   rintro _ _ ⟨b13, rfl, rfl⟩
   refine Sq.act (i := 6) rfl (Want.none rfl) rfl (EF.storeA rfl rfl rfl z36 (SetL.all (Pair.enc_len _) (Pair.enc_len _)) (Pair.enc_cell _)) ?_
   rintro _ _ rfl
   refine Sq.nil ?_
   refine hk13 _ _ ?_
   refine Run.seq fun k14 hk14 => ?_
   refine Run.regionD (M := [0, 1, 3, 0, 15, 31, 63, 127, 255, 127, 1023, 2047]) (q := 3051) (r := 778) (by kernel_rfl) ?_
   refine Dw.pure (i := 0) rfl (by kernel_rfl) (Want.none rfl) rfl (ltN rfl) (QP.fieldAddr rfl rfl f36_0) ?_
   refine Dw.read (i := 1) rfl (by kernel_rfl) (Want.none rfl) rfl (ltN rfl) (QR.load rfl rfl g33 (Pair.sub_dst _)) ?_
   refine Dw.read (i := 3) rfl (by kernel_rfl) (Want.none rfl) rfl (ltN rfl) (QR.load rfl rfl g30 (Bs.sub _)) ?_
   refine Dw.eff (i := 2) (by kernel_rfl) (by kernel_rfl) ?_
   refine One.mk (o := _) (l := [3]) rfl (by kernel_rfl) (Want.none rfl) rfl (ltN rfl) (EF.call rfl ce36 rfl Takes.nil (fun F' hle hr => rpfamily_spec F' (((x).pair).dst))) (by kernel_rfl) ?_
   rintro _ _ ⟨_, ⟨rfl, rfl⟩, rfl⟩
   refine ⟨?_, ?_⟩
   ·rw [List.forall_mem_cons]
    refine ⟨?_, fun _ h => (by cases h)⟩
    ·refine Look.app ?_
     exact Look.mk rfl rfl rfl (QR.load rfl rfl g30 (Bs.sub _))
   refine ?_
   refine J.app ?_
   refine Dw.eff (i := 4) (by kernel_rfl) (by kernel_rfl) ?_
   refine One.mk (o := _) (l := []) rfl (by kernel_rfl) (Want.none rfl) rfl (ltN rfl) (EF.call rfl ce35 rfl Takes.nil (fun F' hle hr => rfamily_spec F' (d))) (by kernel_rfl) ?_
   rintro _ _ ⟨_, ⟨rfl, rfl⟩, rfl⟩
   refine ⟨fun _ h => (by cases h), ?_⟩
   refine J.app ?_
   refine Dw.pure (i := 5) rfl (by kernel_rfl) (Want.none rfl) rfl (ltN rfl) (QP.eql rfl rfl rfl) ?_
   refine J.caseD (fun c49 => ?_) (fun c49 => ?_)
   ·skip
    refine Dw.pure (i := 6) rfl (by kernel_rfl) (Want.none rfl) rfl (ltN rfl) (QP.move rfl rfl) ?_
    refine Dw.pure (i := 7) rfl (by kernel_rfl) (Want.yes rfl rfl rfl rfl) rfl (ltN rfl) (QP.fieldAddr rfl rfl f36_0) ?_
    refine Dw.read (i := 8) rfl (by kernel_rfl) (Want.yes rfl rfl rfl rfl) rfl (ltN rfl) (QR.load rfl rfl g33 (Pair.sub_dst _)) ?_
    refine Dw.read (i := 9) rfl (by kernel_rfl) (Want.yes rfl rfl rfl rfl) rfl (ltN rfl) (QR.load rfl rfl g30 (Bs.sub _)) ?_
    refine Dw.eff (i := 10) (by kernel_rfl) (by kernel_rfl) ?_
    refine One.mk (o := _) (l := []) rfl (by kernel_rfl) (Want.yes rfl rfl rfl rfl) rfl (ltN rfl) (EF.call rfl ce37 rfl Takes.nil (fun F' hle hr => rcontains_spec F' (((x).pair).dst) (d))) (by kernel_rfl) ?_
    rintro _ _ ⟨_, ⟨rfl, rfl⟩, rfl⟩
    refine ⟨fun _ h => (by cases h), ?_⟩
    refine J.app ?_
    refine J.caseB (fun c54 => ?_) (fun c54 => ?_)
    ·skip
     refine Dw.pure (i := 11) rfl (by kernel_rfl) (Want.none rfl) rfl (ltN rfl) (QP.pick_t rfl rfl rfl) ?_
     refine Dw.nil (by kernel_rfl) ?_
     refine hk14 _ _ ?_
     refine Run.cond_t rfl ?_
     refine Run.region ?_
     show Sq _ _ _ [0, 1, 2, 3, 4, 5] _ _ _ _
     refine Sq.quiet (i := 0) rfl (Want.none rfl) rfl (ltN rfl) (QP.move rfl rfl).read ?_
     refine Sq.quiet (i := 1) rfl (Want.none rfl) rfl (ltN rfl) (QP.fieldAddr rfl rfl f36_0).read ?_
     refine Sq.quiet (i := 2) rfl (Want.none rfl) rfl (ltN rfl) (QP.fieldAddr rfl rfl f33_1).read ?_
     refine Sq.quiet (i := 3) rfl (Want.none rfl) rfl (ltN rfl) (QR.load1 rfl rfl g3 ((Pair.sub_dst _).trans (Prefix.sub_len _))) ?_
     refine Sq.quiet (i := 4) rfl (Want.none rfl) rfl (ltN rfl) (QP.max2 rfl rfl rfl).read ?_
     refine Sq.quiet (i := 5) rfl (Want.none rfl) rfl (ltN rfl) (QP.assign rfl rfl).read ?_
     refine Sq.nil ?_
     refine hk12 _ _ ?_
     refine Run.region ?_
     show Sq _ _ _ [0, 1, 2] _ _ _ _
     refine Sq.quiet (i := 0) rfl (Want.none rfl) rfl (ltN rfl) (QP.move rfl rfl).read ?_
     refine Sq.quiet (i := 1) rfl (Want.none rfl) rfl (ltN rfl) (QP.add64 rfl rfl rfl (by first | omega | (simp <;> omega)) (by first | omega | (simp <;> omega))).read ?_
     refine Sq.quiet (i := 2) rfl (Want.none rfl) rfl (ltN rfl) (QP.assign rfl rfl).read ?_
     refine Sq.nil ?_
     exact J.envJ (J.keep (.cons (by repeat constructor) (.cons (by repeat constructor) (.cons (by repeat constructor) (.cons (by repeat constructor) (.cons (by repeat constructor) (.cons (by repeat constructor) (.cons (by repeat constructor) Takes.nil))))))) (hl9 (i + 1) ((if dlen x > n1 then dlen x else n1)) (⟨by omega, by rw [take_succ_get hi]; exact hdt.take (by unfold mtD; rw [decide_eq_true c49, c54]; rfl)⟩) (by omega))) ⟨rfl, rfl, rfl, rfl, rfl, rfl, rfl, rfl, rfl, trivial⟩
    ·skip
     refine Dw.pure (i := 11) rfl (by kernel_rfl) (Want.none rfl) rfl (ltN rfl) (QP.pick_t rfl rfl rfl) ?_
     refine Dw.nil (by kernel_rfl) ?_
     refine hk14 _ _ ?_
     refine Run.cond_f rfl ?_
     refine Run.skip ?_
     refine hk12 _ _ ?_
     refine Run.region ?_
     show Sq _ _ _ [0, 1, 2] _ _ _ _
     refine Sq.quiet (i := 0) rfl (Want.none rfl) rfl (ltN rfl) (QP.move rfl rfl).read ?_
     refine Sq.quiet (i := 1) rfl (Want.none rfl) rfl (ltN rfl) (QP.add64 rfl rfl rfl (by first | omega | (simp <;> omega)) (by first | omega | (simp <;> omega))).read ?_
     refine Sq.quiet (i := 2) rfl (Want.none rfl) rfl (ltN rfl) (QP.assign rfl rfl).read ?_
     refine Sq.nil ?_
     exact J.envJ (J.keep (.cons (by repeat constructor) (.cons (by repeat constructor) (.cons (by repeat constructor) (.cons (by repeat constructor) (.cons (by repeat constructor) (.cons (by repeat constructor) (.cons (by repeat constructor) Takes.nil))))))) (hl9 (i + 1) (n1) (⟨by omega, by rw [take_succ_get hi]; exact hdt.skip (by unfold mtD; rw [c54]; simp)⟩) (by omega))) ⟨rfl, rfl, rfl, rfl, rfl, rfl, rfl, rfl, rfl, trivial⟩
   ·skip
    refine Dw.pure (i := 6) rfl (by kernel_rfl) (Want.none rfl) rfl (ltN rfl) (QP.move rfl rfl) ?_
    refine Dw.skip (i := 7) rfl (by kernel_rfl) (Want.no rfl rfl rfl rfl) rfl (ltN rfl) ?_
    refine Dw.skip (i := 8) rfl (by kernel_rfl) (Want.no rfl rfl rfl rfl) rfl (ltN rfl) ?_
    refine Dw.skip (i := 9) rfl (by kernel_rfl) (Want.no rfl rfl rfl rfl) rfl (ltN rfl) ?_
    refine Dw.eff (i := 10) (by kernel_rfl) (by kernel_rfl) ?_
    refine One.skipD (o := _) rfl (by kernel_rfl) (Want.no rfl rfl rfl rfl) rfl (ltN rfl) ?_
    refine Dw.pure (i := 11) rfl (by kernel_rfl) (Want.none rfl) rfl (ltN rfl) (QP.pick_f rfl rfl rfl) ?_
    refine Dw.nil (by kernel_rfl) ?_
    refine hk14 _ _ ?_
    refine Run.cond_f rfl ?_
    refine Run.skip ?_
    refine hk12 _ _ ?_
    refine Run.region ?_
    show Sq _ _ _ [0, 1, 2] _ _ _ _
    refine Sq.quiet (i := 0) rfl (Want.none rfl) rfl (ltN rfl) (QP.move rfl rfl).read ?_
    refine Sq.quiet (i := 1) rfl (Want.none rfl) rfl (ltN rfl) (QP.add64 rfl rfl rfl (by first | omega | (simp <;> omega)) (by first | omega | (simp <;> omega))).read ?_
    refine Sq.quiet (i := 2) rfl (Want.none rfl) rfl (ltN rfl) (QP.assign rfl rfl).read ?_
    refine Sq.nil ?_
    exact J.envJ (J.keep (.cons (by repeat constructor) (.cons (by repeat constructor) (.cons (by repeat constructor) (.cons (by repeat constructor) (.cons (by repeat constructor) (.cons (by repeat constructor) (.cons (by repeat constructor) Takes.nil))))))) (hl9 (i + 1) (n1) (⟨by omega, by rw [take_succ_get hi]; exact hdt.skip (by unfold mtD; rw [decide_eq_false c49]; rfl)⟩) (by omega))) ⟨rfl, rfl, rfl, rfl, rfl, rfl, rfl, rfl, rfl, trivial⟩
  ·skip
   refine Sq.nil ?_
   refine hk11 _ _ ?_
   refine Run.cond_f rfl ?_
   refine Run.exit rfl ?_
   refine hk7 _ _ ?_
   refine Run.seq fun k15 hk15 => ?_
   refine Run.seq fun k16 hk16 => ?_
   refine Run.region ?_
   show Sq _ _ _ [0] _ _ _ _
   rw [show A.take i = A from List.take_of_length_le (by omega)] at hdt
   refine Sq.quiet (i := 0) rfl (Want.none rfl) rfl (ltN rfl) (QP.assign rfl rfl).read ?_
   refine Sq.nil ?_
   refine hk16 _ _ ?_
   refine Run.block ?_
   refine Run.loop3 (fun (i : Nat) (si : Int) (at1 : Int) => i ≤ A.length ∧ STop s d n1 A i si at1) (fun i si at1 => .cons 0 (.pointer (some ⟨b, 0, none⟩)) (.cons 4 (.pointer (some ⟨b4, 0, none⟩)) (.cons 5 (.pointer (some ⟨b5, 0, none⟩)) (.cons 6 (.pointer (some ⟨b6, 0, none⟩)) (.cons 8 (.slice aA A.length cA) (.cons 9 (.int .i64 n1) (.cons 10 (.int .i64 si) (.cons 11 (.int .i64 at1) (.cons 14 (.int .i64 i) (.nil)))))))))) (fun i si at1 => [blk b (Ref20Kernel.enc ⟨⟨al, L.length, cl⟩, ⟨ai, JJ.length, ci⟩, n⟩) 55, slA 38 51 Entry.enc (.slice al L.length cl) L, slA 38 51 Entry.enc (.slice ai JJ.length ci) JJ, blk b4 (Bs.enc s) 30, blk b5 (Bs.enc d) 30, blk b6 (Entry.enc Entry.zero) 38, slA 38 51 Entry.enc (.slice aA A.length cA) A]) (fun i si at1 => A.length - i) (0) (-1) (-1) (⟨Nat.zero_le _, STop.zero⟩) ?_ ?_
   ·exact fun _ j => J.envJ (J.keep (.cons (by repeat constructor) (.cons (by repeat constructor) (.cons (by repeat constructor) (.cons (by repeat constructor) (.cons (by repeat constructor) (.cons (by repeat constructor) (.cons (by repeat constructor) Takes.nil))))))) j) ⟨rfl, rfl, rfl, rfl, rfl, rfl, rfl, rfl, rfl, trivial⟩
   rintro i si at1 ⟨hile2, hst⟩ kl17 hl17
   refine Run.seq fun k18 hk18 => ?_
   refine Run.seq fun k19 hk19 => ?_
   refine Run.region ?_
   show Sq _ _ _ [0, 1, 2, 3] _ _ _ _
   refine Sq.quiet (i := 0) rfl (Want.none rfl) rfl (ltN rfl) (QP.move rfl rfl).read ?_
   refine Sq.quiet (i := 1) rfl (Want.none rfl) rfl (ltN rfl) (QP.move rfl rfl).read ?_
   refine Sq.quiet (i := 2) rfl (Want.none rfl) rfl (ltN rfl) (QP.len rfl rfl rfl Try.underlying22).read ?_
   refine Sq.quiet (i := 3) rfl (Want.none rfl) rfl (ltN rfl) (QP.lss rfl rfl rfl).read ?_
   refine J.caseD (fun c64 => ?_) (fun c64 => ?_)
   ·skip
    refine Sq.nil ?_
    refine hk19 _ _ ?_
    refine Run.cond_t rfl ?_
    refine Run.skip ?_
    refine hk18 _ _ ?_
    refine Run.seq fun k20 hk20 => ?_
    refine Run.block ?_
    refine Run.seq fun k21 hk21 => ?_
    refine Run.region ?_
    show Sq _ _ _ [0, 1, 2, 3, 4, 5, 6] _ _ _ _
    obtain ⟨x, hi⟩ : ∃ x, A[i]? = some x := ⟨_, List.getElem?_eq_getElem (by omega)⟩
    obtain ⟨b0, o0, rfl⟩ := hhA.get (by omega)
    refine Sq.quiet (i := 0) rfl (Want.none rfl) rfl (ltN rfl) (QP.move rfl rfl).read ?_
    refine Sq.quiet (i := 1) rfl (Want.none rfl) rfl (ltN rfl) (QP.move rfl rfl).read ?_
    refine Sq.quiet (i := 2) rfl (Want.none rfl) rfl (ltN rfl) (QP.indexAddr rfl rfl rfl Try.underlying22 z38 (by first | omega | (simp <;> omega)) (by first | omega | (simp <;> omega))).read ?_
    refine Sq.quiet (i := 3) rfl (Want.none rfl) rfl (ltN rfl) (QP.fieldAddr rfl rfl f38_0).read ?_
    refine Sq.quiet (i := 4) rfl (Want.none rfl) rfl (ltN rfl) (QR.loadSlF rfl rfl g36 Entry.enc_len (SlAt.own Entry.enc_len (by repeat constructor)) hi (Entry.sub_pair _)) ?_
    refine Sq.eff (i := 5) rfl (Want.none rfl) rfl (ltN rfl) (EF.allocA (l := Pair.enc Pair.zero) rfl zero36) ?_
    rintro _ _ ⟨b15, rfl, rfl⟩
    refine Sq.act (i := 6) rfl (Want.none rfl) rfl (EF.storeA rfl rfl rfl z36 (SetL.all (Pair.enc_len _) (Pair.enc_len _)) (Pair.enc_cell _)) ?_
    rintro _ _ rfl
    refine Sq.nil ?_
    refine hk21 _ _ ?_
    refine Run.seq fun k22 hk22 => ?_
    refine Run.regionD (M := [0, 1, 3, 0, 15, 31, 63, 127, 255, 127, 1023, 2047, 4095, 8191, 16383, 32767, 8191, 131071, 262143, 524287, 1048575, 2097151, 1048575, 8388607, 16777215, 33554431, 67108863, 134217727, 268435455, 67108863, 1073741823, 2147483647]) (q := 4286577643) (r := 274760458) (by kernel_rfl) ?_
    refine Dw.pure (i := 0) rfl (by kernel_rfl) (Want.none rfl) rfl (ltN rfl) (QP.fieldAddr rfl rfl f36_0) ?_
    refine Dw.read (i := 1) rfl (by kernel_rfl) (Want.none rfl) rfl (ltN rfl) (QR.load rfl rfl g33 (Pair.sub_dst _)) ?_
    refine Dw.read (i := 3) rfl (by kernel_rfl) (Want.none rfl) rfl (ltN rfl) (QR.load rfl rfl g30 (Bs.sub _)) ?_
    refine Dw.eff (i := 2) (by kernel_rfl) (by kernel_rfl) ?_
    refine One.mk (o := _) (l := [3]) rfl (by kernel_rfl) (Want.none rfl) rfl (ltN rfl) (EF.call rfl ce36 rfl Takes.nil (fun F' hle hr => rpfamily_spec F' (((x).pair).dst))) (by kernel_rfl) ?_
    rintro _ _ ⟨_, ⟨rfl, rfl⟩, rfl⟩
    refine ⟨?_, ?_⟩
    ·rw [List.forall_mem_cons]
     refine ⟨?_, fun _ h => (by cases h)⟩
     ·refine Look.app ?_
      exact Look.mk rfl rfl rfl (QR.load rfl rfl g30 (Bs.sub _))
    refine ?_
    refine J.app ?_
    refine Dw.eff (i := 4) (by kernel_rfl) (by kernel_rfl) ?_
    refine One.mk (o := _) (l := []) rfl (by kernel_rfl) (Want.none rfl) rfl (ltN rfl) (EF.call rfl ce35 rfl Takes.nil (fun F' hle hr => rfamily_spec F' (d))) (by kernel_rfl) ?_
    rintro _ _ ⟨_, ⟨rfl, rfl⟩, rfl⟩
    refine ⟨fun _ h => (by cases h), ?_⟩
    refine J.app ?_
    refine Dw.pure (i := 5) rfl (by kernel_rfl) (Want.none rfl) rfl (ltN rfl) (QP.eql rfl rfl rfl) ?_
    refine J.caseD (fun c77 => ?_) (fun c77 => ?_)
    ·skip
     refine Dw.pure (i := 6) rfl (by kernel_rfl) (Want.none rfl) rfl (ltN rfl) (QP.move rfl rfl) ?_
     refine Dw.pure (i := 7) rfl (by kernel_rfl) (Want.yes rfl rfl rfl rfl) rfl (ltN rfl) (QP.fieldAddr rfl rfl f36_0) ?_
     refine Dw.read (i := 8) rfl (by kernel_rfl) (Want.yes rfl rfl rfl rfl) rfl (ltN rfl) (QR.load rfl rfl g33 (Pair.sub_dst _)) ?_
     refine Dw.read (i := 9) rfl (by kernel_rfl) (Want.yes rfl rfl rfl rfl) rfl (ltN rfl) (QR.load rfl rfl g30 (Bs.sub _)) ?_
     refine Dw.eff (i := 10) (by kernel_rfl) (by kernel_rfl) ?_
     refine One.mk (o := _) (l := []) rfl (by kernel_rfl) (Want.yes rfl rfl rfl rfl) rfl (ltN rfl) (EF.call rfl ce37 rfl Takes.nil (fun F' hle hr => rcontains_spec F' (((x).pair).dst) (d))) (by kernel_rfl) ?_
     rintro _ _ ⟨_, ⟨rfl, rfl⟩, rfl⟩
     refine ⟨fun _ h => (by cases h), ?_⟩
     refine J.app ?_
     refine J.caseB (fun c82 => ?_) (fun c82 => ?_)
     ·skip
      refine Dw.pure (i := 11) rfl (by kernel_rfl) (Want.none rfl) rfl (ltN rfl) (QP.pick_t rfl rfl rfl) ?_
      refine Dw.pure (i := 12) rfl (by kernel_rfl) (Want.none rfl) rfl (ltN rfl) (QP.move rfl rfl) ?_
      refine Dw.pure (i := 13) rfl (by kernel_rfl) (Want.yes rfl rfl rfl rfl) rfl (ltN rfl) (QP.fieldAddr rfl rfl f36_0) ?_
      refine Dw.pure (i := 14) rfl (by kernel_rfl) (Want.yes rfl rfl rfl rfl) rfl (ltN rfl) (QP.fieldAddr rfl rfl f33_1) ?_
      refine Dw.read (i := 15) rfl (by kernel_rfl) (Want.yes rfl rfl rfl rfl) rfl (ltN rfl) (QR.load1 rfl rfl g3 ((Pair.sub_dst _).trans (Prefix.sub_len _))) ?_
      refine Dw.pure (i := 16) rfl (by kernel_rfl) (Want.yes rfl rfl rfl rfl) rfl (ltN rfl) (QP.move rfl rfl) ?_
      refine Dw.pure (i := 17) rfl (by kernel_rfl) (Want.yes rfl rfl rfl rfl) rfl (ltN rfl) (QP.eql rfl rfl rfl) ?_
      refine J.caseD (fun c89 => ?_) (fun c89 => ?_)
      ·skip
       refine Dw.pure (i := 18) rfl (by kernel_rfl) (Want.none rfl) rfl (ltN rfl) (QP.pick_t rfl rfl rfl) ?_
       refine Dw.pure (i := 19) rfl (by kernel_rfl) (Want.none rfl) rfl (ltN rfl) (QP.move rfl rfl) ?_
       refine Dw.pure (i := 20) rfl (by kernel_rfl) (Want.yes rfl rfl rfl rfl) rfl (ltN rfl) (QP.fieldAddr rfl rfl f36_1) ?_
       refine Dw.read (i := 21) rfl (by kernel_rfl) (Want.yes rfl rfl rfl rfl) rfl (ltN rfl) (QR.load rfl rfl g33 (Pair.sub_src _)) ?_
       refine Dw.read (i := 22) rfl (by kernel_rfl) (Want.yes rfl rfl rfl rfl) rfl (ltN rfl) (QR.load rfl rfl g30 (Bs.sub _)) ?_
       refine Dw.eff (i := 23) (by kernel_rfl) (by kernel_rfl) ?_
       refine One.mk (o := _) (l := []) rfl (by kernel_rfl) (Want.yes rfl rfl rfl rfl) rfl (ltN rfl) (EF.call rfl ce37 rfl Takes.nil (fun F' hle hr => rcontains_spec F' (((x).pair).src) (s))) (by kernel_rfl) ?_
       rintro _ _ ⟨_, ⟨rfl, rfl⟩, rfl⟩
       refine ⟨fun _ h => (by cases h), ?_⟩
       refine J.app ?_
       refine J.caseB (fun c95 => ?_) (fun c95 => ?_)
       ·skip
        refine Dw.pure (i := 24) rfl (by kernel_rfl) (Want.none rfl) rfl (ltN rfl) (QP.pick_t rfl rfl rfl) ?_
        refine Dw.pure (i := 25) rfl (by kernel_rfl) (Want.none rfl) rfl (ltN rfl) (QP.move rfl rfl) ?_
        refine Dw.pure (i := 26) rfl (by kernel_rfl) (Want.yes rfl rfl rfl rfl) rfl (ltN rfl) (QP.fieldAddr rfl rfl f36_1) ?_
        refine Dw.pure (i := 27) rfl (by kernel_rfl) (Want.yes rfl rfl rfl rfl) rfl (ltN rfl) (QP.fieldAddr rfl rfl f33_1) ?_
        refine Dw.read (i := 28) rfl (by kernel_rfl) (Want.yes rfl rfl rfl rfl) rfl (ltN rfl) (QR.load1 rfl rfl g3 ((Pair.sub_src _).trans (Prefix.sub_len _))) ?_
        refine Dw.pure (i := 29) rfl (by kernel_rfl) (Want.yes rfl rfl rfl rfl) rfl (ltN rfl) (QP.move rfl rfl) ?_
        refine Dw.pure (i := 30) rfl (by kernel_rfl) (Want.yes rfl rfl rfl rfl) rfl (ltN rfl) (QP.gtr rfl rfl rfl) ?_
        refine J.caseD (fun c102 => ?_) (fun c102 => ?_)
        ·skip
         refine Dw.pure (i := 31) rfl (by kernel_rfl) (Want.none rfl) rfl (ltN rfl) (QP.pick_t rfl rfl rfl) ?_
         refine Dw.nil (by kernel_rfl) ?_
         refine hk22 _ _ ?_
         refine Run.cond_t rfl ?_
         refine Run.seq fun k23 hk23 => ?_
         refine Run.region ?_
         show Sq _ _ _ [0, 1, 2, 3] _ _ _ _
         refine Sq.quiet (i := 0) rfl (Want.none rfl) rfl (ltN rfl) (QP.fieldAddr rfl rfl f36_1).read ?_
         refine Sq.quiet (i := 1) rfl (Want.none rfl) rfl (ltN rfl) (QP.fieldAddr rfl rfl f33_1).read ?_
         refine Sq.quiet (i := 2) rfl (Want.none rfl) rfl (ltN rfl) (QR.load1 rfl rfl g3 ((Pair.sub_src _).trans (Prefix.sub_len _))) ?_
         refine Sq.quiet (i := 3) rfl (Want.none rfl) rfl (ltN rfl) (QP.assign rfl rfl).read ?_
         refine Sq.nil ?_
         refine hk23 _ _ ?_
         refine Run.region ?_
         show Sq _ _ _ [0, 1] _ _ _ _
         refine Sq.quiet (i := 0) rfl (Want.none rfl) rfl (ltN rfl) (QP.move rfl rfl).read ?_
         refine Sq.quiet (i := 1) rfl (Want.none rfl) rfl (ltN rfl) (QP.assign rfl rfl).read ?_
         refine Sq.nil ?_
         refine hk20 _ _ ?_
         refine Run.region ?_
         show Sq _ _ _ [0, 1, 2] _ _ _ _
         refine Sq.quiet (i := 0) rfl (Want.none rfl) rfl (ltN rfl) (QP.move rfl rfl).read ?_
         refine Sq.quiet (i := 1) rfl (Want.none rfl) rfl (ltN rfl) (QP.add64 rfl rfl rfl (by first | omega | (simp <;> omega)) (by first | omega | (simp <;> omega))).read ?_
         refine Sq.quiet (i := 2) rfl (Want.none rfl) rfl (ltN rfl) (QP.assign rfl rfl).read ?_
         refine Sq.nil ?_
         exact J.envJ (J.keep (.cons (by repeat constructor) (.cons (by repeat constructor) (.cons (by repeat constructor) (.cons (by repeat constructor) (.cons (by repeat constructor) (.cons (by repeat constructor) (.cons (by repeat constructor) Takes.nil))))))) (hl17 (i + 1) (slen x) ((i : Int)) (⟨by omega, hst.take hi ⟨by unfold mtD; rw [decide_eq_true c77, c82]; rfl, c89, c95⟩ c102⟩) (by omega))) ⟨rfl, rfl, rfl, rfl, rfl, rfl, rfl, rfl, rfl, trivial⟩
        ·skip
         refine Dw.pure (i := 31) rfl (by kernel_rfl) (Want.none rfl) rfl (ltN rfl) (QP.pick_t rfl rfl rfl) ?_
         refine Dw.nil (by kernel_rfl) ?_
         refine hk22 _ _ ?_
         refine Run.cond_f rfl ?_
         refine Run.skip ?_
         refine hk20 _ _ ?_
         refine Run.region ?_
         show Sq _ _ _ [0, 1, 2] _ _ _ _
         refine Sq.quiet (i := 0) rfl (Want.none rfl) rfl (ltN rfl) (QP.move rfl rfl).read ?_
         refine Sq.quiet (i := 1) rfl (Want.none rfl) rfl (ltN rfl) (QP.add64 rfl rfl rfl (by first | omega | (simp <;> omega)) (by first | omega | (simp <;> omega))).read ?_
         refine Sq.quiet (i := 2) rfl (Want.none rfl) rfl (ltN rfl) (QP.assign rfl rfl).read ?_
         refine Sq.nil ?_
         exact J.envJ (J.keep (.cons (by repeat constructor) (.cons (by repeat constructor) (.cons (by repeat constructor) (.cons (by repeat constructor) (.cons (by repeat constructor) (.cons (by repeat constructor) (.cons (by repeat constructor) Takes.nil))))))) (hl17 (i + 1) (si) (at1) (⟨by omega, hst.skip hi (fun _ => by have : ¬ slen x > si := c102; omega)⟩) (by omega))) ⟨rfl, rfl, rfl, rfl, rfl, rfl, rfl, rfl, rfl, trivial⟩
       ·skip
        refine Dw.pure (i := 24) rfl (by kernel_rfl) (Want.none rfl) rfl (ltN rfl) (QP.pick_t rfl rfl rfl) ?_
        refine Dw.pure (i := 25) rfl (by kernel_rfl) (Want.none rfl) rfl (ltN rfl) (QP.move rfl rfl) ?_
        refine Dw.skip (i := 26) rfl (by kernel_rfl) (Want.no rfl rfl rfl rfl) rfl (ltN rfl) ?_
        refine Dw.skip (i := 27) rfl (by kernel_rfl) (Want.no rfl rfl rfl rfl) rfl (ltN rfl) ?_
        refine Dw.skip (i := 28) rfl (by kernel_rfl) (Want.no rfl rfl rfl rfl) rfl (ltN rfl) ?_
        refine Dw.skip (i := 29) rfl (by kernel_rfl) (Want.no rfl rfl rfl rfl) rfl (ltN rfl) ?_
        refine Dw.skip (i := 30) rfl (by kernel_rfl) (Want.no rfl rfl rfl rfl) rfl (ltN rfl) ?_
        refine Dw.pure (i := 31) rfl (by kernel_rfl) (Want.none rfl) rfl (ltN rfl) (QP.pick_f rfl rfl rfl) ?_
        refine Dw.nil (by kernel_rfl) ?_
        refine hk22 _ _ ?_
        refine Run.cond_f rfl ?_
        refine Run.skip ?_
        refine hk20 _ _ ?_
        refine Run.region ?_
        show Sq _ _ _ [0, 1, 2] _ _ _ _
        refine Sq.quiet (i := 0) rfl (Want.none rfl) rfl (ltN rfl) (QP.move rfl rfl).read ?_
        refine Sq.quiet (i := 1) rfl (Want.none rfl) rfl (ltN rfl) (QP.add64 rfl rfl rfl (by first | omega | (simp <;> omega)) (by first | omega | (simp <;> omega))).read ?_
        refine Sq.quiet (i := 2) rfl (Want.none rfl) rfl (ltN rfl) (QP.assign rfl rfl).read ?_
        refine Sq.nil ?_
        exact J.envJ (J.keep (.cons (by repeat constructor) (.cons (by repeat constructor) (.cons (by repeat constructor) (.cons (by repeat constructor) (.cons (by repeat constructor) (.cons (by repeat constructor) (.cons (by repeat constructor) Takes.nil))))))) (hl17 (i + 1) (si) (at1) (⟨by omega, hst.skip hi (fun h => by have := h.2.2; rw [c95] at this; cases this)⟩) (by omega))) ⟨rfl, rfl, rfl, rfl, rfl, rfl, rfl, rfl, rfl, trivial⟩
      ·skip
       refine Dw.pure (i := 18) rfl (by kernel_rfl) (Want.none rfl) rfl (ltN rfl) (QP.pick_t rfl rfl rfl) ?_
       refine Dw.pure (i := 19) rfl (by kernel_rfl) (Want.none rfl) rfl (ltN rfl) (QP.move rfl rfl) ?_
       refine Dw.skip (i := 20) rfl (by kernel_rfl) (Want.no rfl rfl rfl rfl) rfl (ltN rfl) ?_
       refine Dw.skip (i := 21) rfl (by kernel_rfl) (Want.no rfl rfl rfl rfl) rfl (ltN rfl) ?_
       refine Dw.skip (i := 22) rfl (by kernel_rfl) (Want.no rfl rfl rfl rfl) rfl (ltN rfl) ?_
       refine Dw.eff (i := 23) (by kernel_rfl) (by kernel_rfl) ?_
       refine One.skipD (o := _) rfl (by kernel_rfl) (Want.no rfl rfl rfl rfl) rfl (ltN rfl) ?_
       refine Dw.pure (i := 24) rfl (by kernel_rfl) (Want.none rfl) rfl (ltN rfl) (QP.pick_f rfl rfl rfl) ?_
       refine Dw.pure (i := 25) rfl (by kernel_rfl) (Want.none rfl) rfl (ltN rfl) (QP.move rfl rfl) ?_
       refine Dw.skip (i := 26) rfl (by kernel_rfl) (Want.no rfl rfl rfl rfl) rfl (ltN rfl) ?_
       refine Dw.skip (i := 27) rfl (by kernel_rfl) (Want.no rfl rfl rfl rfl) rfl (ltN rfl) ?_
       refine Dw.skip (i := 28) rfl (by kernel_rfl) (Want.no rfl rfl rfl rfl) rfl (ltN rfl) ?_
       refine Dw.skip (i := 29) rfl (by kernel_rfl) (Want.no rfl rfl rfl rfl) rfl (ltN rfl) ?_
       refine Dw.skip (i := 30) rfl (by kernel_rfl) (Want.no rfl rfl rfl rfl) rfl (ltN rfl) ?_
       refine Dw.pure (i := 31) rfl (by kernel_rfl) (Want.none rfl) rfl (ltN rfl) (QP.pick_f rfl rfl rfl) ?_
       refine Dw.nil (by kernel_rfl) ?_
       refine hk22 _ _ ?_
       refine Run.cond_f rfl ?_
       refine Run.skip ?_
       refine hk20 _ _ ?_
       refine Run.region ?_
       show Sq _ _ _ [0, 1, 2] _ _ _ _
       refine Sq.quiet (i := 0) rfl (Want.none rfl) rfl (ltN rfl) (QP.move rfl rfl).read ?_
       refine Sq.quiet (i := 1) rfl (Want.none rfl) rfl (ltN rfl) (QP.add64 rfl rfl rfl (by first | omega | (simp <;> omega)) (by first | omega | (simp <;> omega))).read ?_
       refine Sq.quiet (i := 2) rfl (Want.none rfl) rfl (ltN rfl) (QP.assign rfl rfl).read ?_
       refine Sq.nil ?_
       exact J.envJ (J.keep (.cons (by repeat constructor) (.cons (by repeat constructor) (.cons (by repeat constructor) (.cons (by repeat constructor) (.cons (by repeat constructor) (.cons (by repeat constructor) (.cons (by repeat constructor) Takes.nil))))))) (hl17 (i + 1) (si) (at1) (⟨by omega, hst.skip hi (fun h => absurd h.2.1 c89)⟩) (by omega))) ⟨rfl, rfl, rfl, rfl, rfl, rfl, rfl, rfl, rfl, trivial⟩
     ·skip
      refine Dw.pure (i := 11) rfl (by kernel_rfl) (Want.none rfl) rfl (ltN rfl) (QP.pick_t rfl rfl rfl) ?_
      refine Dw.pure (i := 12) rfl (by kernel_rfl) (Want.none rfl) rfl (ltN rfl) (QP.move rfl rfl) ?_
      refine Dw.skip (i := 13) rfl (by kernel_rfl) (Want.no rfl rfl rfl rfl) rfl (ltN rfl) ?_
      refine Dw.skip (i := 14) rfl (by kernel_rfl) (Want.no rfl rfl rfl rfl) rfl (ltN rfl) ?_
      refine Dw.skip (i := 15) rfl (by kernel_rfl) (Want.no rfl rfl rfl rfl) rfl (ltN rfl) ?_
      refine Dw.skip (i := 16) rfl (by kernel_rfl) (Want.no rfl rfl rfl rfl) rfl (ltN rfl) ?_
      refine Dw.skip (i := 17) rfl (by kernel_rfl) (Want.no rfl rfl rfl rfl) rfl (ltN rfl) ?_
      refine Dw.pure (i := 18) rfl (by kernel_rfl) (Want.none rfl) rfl (ltN rfl) (QP.pick_f rfl rfl rfl) ?_
      refine Dw.pure (i := 19) rfl (by kernel_rfl) (Want.none rfl) rfl (ltN rfl) (QP.move rfl rfl) ?_
      refine Dw.skip (i := 20) rfl (by kernel_rfl) (Want.no rfl rfl rfl rfl) rfl (ltN rfl) ?_
      refine Dw.skip (i := 21) rfl (by kernel_rfl) (Want.no rfl rfl rfl rfl) rfl (ltN rfl) ?_
      refine Dw.skip (i := 22) rfl (by kernel_rfl) (Want.no rfl rfl rfl rfl) rfl (ltN rfl) ?_
      refine Dw.eff (i := 23) (by kernel_rfl) (by kernel_rfl) ?_
      refine One.skipD (o := _) rfl (by kernel_rfl) (Want.no rfl rfl rfl rfl) rfl (ltN rfl) ?_
      refine Dw.pure (i := 24) rfl (by kernel_rfl) (Want.none rfl) rfl (ltN rfl) (QP.pick_f rfl rfl rfl) ?_
      refine Dw.pure (i := 25) rfl (by kernel_rfl) (Want.none rfl) rfl (ltN rfl) (QP.move rfl rfl) ?_
      refine Dw.skip (i := 26) rfl (by kernel_rfl) (Want.no rfl rfl rfl rfl) rfl (ltN rfl) ?_
      refine Dw.skip (i := 27) rfl (by kernel_rfl) (Want.no rfl rfl rfl rfl) rfl (ltN rfl) ?_
      refine Dw.skip (i := 28) rfl (by kernel_rfl) (Want.no rfl rfl rfl rfl) rfl (ltN rfl) ?_
      refine Dw.skip (i := 29) rfl (by kernel_rfl) (Want.no rfl rfl rfl rfl) rfl (ltN rfl) ?_
      refine Dw.skip (i := 30) rfl (by kernel_rfl) (Want.no rfl rfl rfl rfl) rfl (ltN rfl) ?_
      refine Dw.pure (i := 31) rfl (by kernel_rfl) (Want.none rfl) rfl (ltN rfl) (QP.pick_f rfl rfl rfl) ?_
      refine Dw.nil (by kernel_rfl) ?_
      refine hk22 _ _ ?_
      refine Run.cond_f rfl ?_
      refine Run.skip ?_
      refine hk20 _ _ ?_
      refine Run.region ?_
      show Sq _ _ _ [0, 1, 2] _ _ _ _
      refine Sq.quiet (i := 0) rfl (Want.none rfl) rfl (ltN rfl) (QP.move rfl rfl).read ?_
      refine Sq.quiet (i := 1) rfl (Want.none rfl) rfl (ltN rfl) (QP.add64 rfl rfl rfl (by first | omega | (simp <;> omega)) (by first | omega | (simp <;> omega))).read ?_
      refine Sq.quiet (i := 2) rfl (Want.none rfl) rfl (ltN rfl) (QP.assign rfl rfl).read ?_
      refine Sq.nil ?_
      exact J.envJ (J.keep (.cons (by repeat constructor) (.cons (by repeat constructor) (.cons (by repeat constructor) (.cons (by repeat constructor) (.cons (by repeat constructor) (.cons (by repeat constructor) (.cons (by repeat constructor) Takes.nil))))))) (hl17 (i + 1) (si) (at1) (⟨by omega, hst.skip hi (fun h => by have := h.1; unfold mtD at this; rw [c82] at this; simp at this)⟩) (by omega))) ⟨rfl, rfl, rfl, rfl, rfl, rfl, rfl, rfl, rfl, trivial⟩
    ·skip
     refine Dw.pure (i := 6) rfl (by kernel_rfl) (Want.none rfl) rfl (ltN rfl) (QP.move rfl rfl) ?_
     refine Dw.skip (i := 7) rfl (by kernel_rfl) (Want.no rfl rfl rfl rfl) rfl (ltN rfl) ?_
     refine Dw.skip (i := 8) rfl (by kernel_rfl) (Want.no rfl rfl rfl rfl) rfl (ltN rfl) ?_
     refine Dw.skip (i := 9) rfl (by kernel_rfl) (Want.no rfl rfl rfl rfl) rfl (ltN rfl) ?_
     refine Dw.eff (i := 10) (by kernel_rfl) (by kernel_rfl) ?_
     refine One.skipD (o := _) rfl (by kernel_rfl) (Want.no rfl rfl rfl rfl) rfl (ltN rfl) ?_
     refine Dw.pure (i := 11) rfl (by kernel_rfl) (Want.none rfl) rfl (ltN rfl) (QP.pick_f rfl rfl rfl) ?_
     refine Dw.pure (i := 12) rfl (by kernel_rfl) (Want.none rfl) rfl (ltN rfl) (QP.move rfl rfl) ?_
     refine Dw.skip (i := 13) rfl (by kernel_rfl) (Want.no rfl rfl rfl rfl) rfl (ltN rfl) ?_
     refine Dw.skip (i := 14) rfl (by kernel_rfl) (Want.no rfl rfl rfl rfl) rfl (ltN rfl) ?_
     refine Dw.skip (i := 15) rfl (by kernel_rfl) (Want.no rfl rfl rfl rfl) rfl (ltN rfl) ?_
     refine Dw.skip (i := 16) rfl (by kernel_rfl) (Want.no rfl rfl rfl rfl) rfl (ltN rfl) ?_
     refine Dw.skip (i := 17) rfl (by kernel_rfl) (Want.no rfl rfl rfl rfl) rfl (ltN rfl) ?_
     refine Dw.pure (i := 18) rfl (by kernel_rfl) (Want.none rfl) rfl (ltN rfl) (QP.pick_f rfl rfl rfl) ?_
     refine Dw.pure (i := 19) rfl (by kernel_rfl) (Want.none rfl) rfl (ltN rfl) (QP.move rfl rfl) ?_
     refine Dw.skip (i := 20) rfl (by kernel_rfl) (Want.no rfl rfl rfl rfl) rfl (ltN rfl) ?_
     refine Dw.skip (i := 21) rfl (by kernel_rfl) (Want.no rfl rfl rfl rfl) rfl (ltN rfl) ?_
     refine Dw.skip (i := 22) rfl (by kernel_rfl) (Want.no rfl rfl rfl rfl) rfl (ltN rfl) ?_
     refine Dw.eff (i := 23) (by kernel_rfl) (by kernel_rfl) ?_
     refine One.skipD (o := _) rfl (by kernel_rfl) (Want.no rfl rfl rfl rfl) rfl (ltN rfl) ?_
     refine Dw.pure (i := 24) rfl (by kernel_rfl) (Want.none rfl) rfl (ltN rfl) (QP.pick_f rfl rfl rfl) ?_
     refine Dw.pure (i := 25) rfl (by kernel_rfl) (Want.none rfl) rfl (ltN rfl) (QP.move rfl rfl) ?_
     refine Dw.skip (i := 26) rfl (by kernel_rfl) (Want.no rfl rfl rfl rfl) rfl (ltN rfl) ?_
     refine Dw.skip (i := 27) rfl (by kernel_rfl) (Want.no rfl rfl rfl rfl) rfl (ltN rfl) ?_
     refine Dw.skip (i := 28) rfl (by kernel_rfl) (Want.no rfl rfl rfl rfl) rfl (ltN rfl) ?_
     refine Dw.skip (i := 29) rfl (by kernel_rfl) (Want.no rfl rfl rfl rfl) rfl (ltN rfl) ?_
     refine Dw.skip (i := 30) rfl (by kernel_rfl) (Want.no rfl rfl rfl rfl) rfl (ltN rfl) ?_
     refine Dw.pure (i := 31) rfl (by kernel_rfl) (Want.none rfl) rfl (ltN rfl) (QP.pick_f rfl rfl rfl) ?_
     refine Dw.nil (by kernel_rfl) ?_
     refine hk22 _ _ ?_
     refine Run.cond_f rfl ?_
     refine Run.skip ?_
     refine hk20 _ _ ?_
     refine Run.region ?_
     show Sq _ _ _ [0, 1, 2] _ _ _ _
     refine Sq.quiet (i := 0) rfl (Want.none rfl) rfl (ltN rfl) (QP.move rfl rfl).read ?_
     refine Sq.quiet (i := 1) rfl (Want.none rfl) rfl (ltN rfl) (QP.add64 rfl rfl rfl (by first | omega | (simp <;> omega)) (by first | omega | (simp <;> omega))).read ?_
     refine Sq.quiet (i := 2) rfl (Want.none rfl) rfl (ltN rfl) (QP.assign rfl rfl).read ?_
     refine Sq.nil ?_
     exact J.envJ (J.keep (.cons (by repeat constructor) (.cons (by repeat constructor) (.cons (by repeat constructor) (.cons (by repeat constructor) (.cons (by repeat constructor) (.cons (by repeat constructor) (.cons (by repeat constructor) Takes.nil))))))) (hl17 (i + 1) (si) (at1) (⟨by omega, hst.skip hi (fun h => by have := h.1; unfold mtD at this; rw [decide_eq_false c77] at this; cases this)⟩) (by omega))) ⟨rfl, rfl, rfl, rfl, rfl, rfl, rfl, rfl, rfl, trivial⟩
   ·skip
    refine Sq.nil ?_
    refine hk19 _ _ ?_
    refine Run.cond_f rfl ?_
    refine Run.exit rfl ?_
    refine hk15 _ _ ?_
    refine Run.seq fun k24 hk24 => ?_
    refine Run.seq fun k25 hk25 => ?_
    refine Run.region ?_
    show Sq _ _ _ [0, 1] _ _ _ _
    have hst2 := hst
    have hdt2 := hdt
    rw [show i = A.length by omega] at hst2
    refine Sq.quiet (i := 0) rfl (Want.none rfl) rfl (ltN rfl) (QP.move rfl rfl).read ?_
    refine Sq.quiet (i := 1) rfl (Want.none rfl) rfl (ltN rfl) (QP.lss rfl rfl rfl).read ?_
    refine J.caseD (fun c109 => ?_) (fun c109 => ?_)
    ·skip
     refine Sq.nil ?_
     refine hk25 _ _ ?_
     refine Run.cond_t rfl ?_
     refine Run.seq fun k26 hk26 => ?_
     refine Run.region ?_
     show Sq _ _ _ [0, 1, 2] _ _ _ _
     refine Sq.quiet (i := 0) rfl (Want.none rfl) rfl (ltN rfl) (QP.build (l := Entry.enc Entry.zero) rfl st38 rfl (by exact trivial) rfl).read ?_
     refine Sq.act (i := 1) rfl (Want.none rfl) rfl (EF.storeA rfl rfl rfl z38 (SetL.all (Entry.enc_len _) (Entry.enc_len _)) (Entry.enc_cell _)) ?_
     rintro _ _ rfl
     refine Sq.quiet (i := 2) rfl (Want.none rfl) rfl (ltN rfl) (QP.assign rfl rfl).read ?_
     refine Sq.nil ?_
     refine hk26 _ _ ?_
     refine Run.ret ?_
     exact J.ends (res_cell2 rfl rfl g38 (Entry.enc_sub _) rfl) (.cons (by repeat constructor) (.cons (by repeat constructor) (.cons (by repeat constructor) Takes.nil))) ⟨(Entry.zero, false), rfl, by rw [← hA]; exact best_no (by omega) hdt2 hst2 (by omega), rfl⟩
    ·skip
     refine Sq.nil ?_
     refine hk25 _ _ ?_
     refine Run.cond_f rfl ?_
     refine Run.skip ?_
     refine hk24 _ _ ?_
     refine Run.seq fun k27 hk27 => ?_
     refine Run.region ?_
     show Sq _ _ _ [0, 1, 2, 3, 4, 5] _ _ _ _
     obtain ⟨ik, x, rfl, hxk, hcx, _, _⟩ := hst.yes (by omega)
     have hikl := (List.getElem?_eq_some_iff.1 hxk).1
     obtain ⟨b1, o1, rfl⟩ := hhA.get (by omega)
     refine Sq.quiet (i := 0) rfl (Want.none rfl) rfl (ltN rfl) (QP.move rfl rfl).read ?_
     refine Sq.quiet (i := 1) rfl (Want.none rfl) rfl (ltN rfl) (QP.move rfl rfl).read ?_
     refine Sq.quiet (i := 2) rfl (Want.none rfl) rfl (ltN rfl) (QP.indexAddr rfl rfl rfl Try.underlying22 z38 (by first | omega | (simp <;> omega)) (by first | omega | (simp <;> omega))).read ?_
     refine Sq.quiet (i := 3) rfl (Want.none rfl) rfl (ltN rfl) (QR.loadSl rfl rfl g38 Entry.enc_len (SlAt.own Entry.enc_len (by repeat constructor)) hxk) ?_
     refine Sq.act (i := 4) rfl (Want.none rfl) rfl (EF.storeA rfl rfl rfl z38 (SetL.all (Entry.enc_len _) (Entry.enc_len _)) (Entry.enc_cell _)) ?_
     rintro _ _ rfl
     refine Sq.quiet (i := 5) rfl (Want.none rfl) rfl (ltN rfl) (QP.assign rfl rfl).read ?_
     refine Sq.nil ?_
     refine hk27 _ _ ?_
     refine Run.ret ?_
     exact J.ends (res_cell2 rfl rfl g38 (Entry.enc_sub _) rfl) (.cons (by repeat constructor) (.cons (by repeat constructor) (.cons (by repeat constructor) Takes.nil))) ⟨(x, true), rfl, by rw [← hA]; exact best_yes (by omega) hdt2 hst2 hxk, rfl⟩
end Slb
