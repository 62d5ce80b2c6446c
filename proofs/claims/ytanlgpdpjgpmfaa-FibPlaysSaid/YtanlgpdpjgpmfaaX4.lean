/- X4: a part of the proof that a law of this package holds for every input; no condition. -/
import Derived.Test.YtanlgpdpjgpmfaaX3
namespace Slb
open Go Go.Proofs
set_option maxRecDepth 20000
abbrev valI (n : Int) : Value := .int .i64 n
abbrev TabI := List (Pair × Int)
@[reducible] def mapI (r : Nat) (M : TabI) : HProp := mapT keyE valI r M
structure InX (F : Fr) (b r1 r2 r3 : Nat) (w : Option Addr) : Prop where
  tb : F.h b = some (.cells (FibFib.enc ⟨some r1, some r2, some r3, w⟩).toArray 81 (0, 0))
theorem InX.mono {F F' : Fr} {b r1 r2 r3 : Nat} {w : Option Addr} (h : InX F b r1 r2 r3 w) (hle : PH.le F.h F'.h) : InX F' b r1 r2 r3 w := ⟨hle _ _ h.tb⟩
def tabOf (L : List Entry) : TabE := L.map fun e => (e.pair, e)
theorem tabOf_ord {M : TabE} {L : List Entry} (h : OrdE M L) : OrdE (tabOf L) L := by
  have h2 : (tabOf L).map (·.2) = L := by simp [tabOf, Function.comp_def]
  have h1 : (tabOf L).map (·.1) = L.map Entry.pair := by unfold tabOf; rw [List.map_map]; rfl
  refine ⟨fun e he => ?_, ?_, by rw [h2], h.sort⟩
  · obtain ⟨x, _, rfl⟩ := List.mem_map.1 he; rfl
  · rw [h1]
    have h3 : (M.map (·.1)) = (M.map (·.2)).map Entry.pair := by
      rw [List.map_map]
      exact List.map_congr_left fun e he => h.keyed e he
    have hn := h.nodup
    rw [h3] at hn
    exact ((h.perm.map Entry.pair).nodup_iff).2 hn
theorem tabOf_succ {M : TabE} {L : List Entry} (h : OrdE M L) {i : Nat} {e : Entry} (he : L[i]? = some e) : aset (tabOf (L.take i)) e.pair e = tabOf (L.take (i + 1)) := by
  have hn : alook (tabOf (L.take i)) e.pair = none := by
    refine alook_none.2 fun x hx hc => ?_
    obtain ⟨y, hy, rfl⟩ := List.mem_map.1 hx
    obtain ⟨k, hk, hky⟩ := List.mem_iff_getElem.1 hy
    have hki : k < i := by rw [List.length_take] at hk; omega
    have hy2 : L[k]? = some y := by
      rw [List.getElem_take] at hky
      rw [List.length_take] at hk
      rw [← hky]; exact List.getElem?_eq_getElem (by omega)
    have hye : y = e := h.inj (List.mem_of_getElem? hy2) (List.mem_of_getElem? he) hc
    subst hye
    have := (List.getElem?_inj (List.getElem?_eq_some_iff.1 hy2).1 (h.nodupL keyCmpE)).1 (hy2.trans he.symm)
    omega
  rw [aset_none hn]
  unfold tabOf
  rw [List.take_add_one, he, List.map_append]
  rfl
def remL (Wt : TabE) (L : List Entry) : List Op := (L.filter fun e => !(alook Wt e.pair).isSome).map fun e => ⟨3, e⟩
def addO (H : TabE) (e : Entry) : Option Op := if (alook H e.pair).isSome then if (alook H e.pair).getD Entry.zero ≠ e then some ⟨2, e⟩ else none else some ⟨1, e⟩
def todoL (H Wt : TabE) (LH LW : List Entry) : List Op := remL Wt LH ++ LW.filterMap (addO H)
theorem remL_len (Wt : TabE) (L : List Entry) : (remL Wt L).length ≤ L.length := by unfold remL; rw [List.length_map]; exact List.length_filter_le _ _
theorem remL_succ {Wt : TabE} {L : List Entry} {i : Nat} {e : Entry} (he : L[i]? = some e) : remL Wt (L.take (i + 1)) = remL Wt (L.take i) ++ if (alook Wt e.pair).isSome then [] else [⟨3, e⟩] := by
  unfold remL
  rw [List.take_add_one, he, List.filter_append, List.map_append]
  congr 1
  cases hq : (alook Wt e.pair).isSome
  · rw [Option.toList_some, List.filter_cons_of_pos (by rw [hq]; rfl)]; rfl
  · rw [Option.toList_some, List.filter_cons_of_neg (by rw [hq]; simp)]; rfl
theorem addL_succ {H : TabE} {L : List Entry} {i : Nat} {e : Entry} (he : L[i]? = some e) : (L.take (i + 1)).filterMap (addO H) = (L.take i).filterMap (addO H) ++ (addO H e).toList := by
  rw [List.take_add_one, he, List.filterMap_append]
  cases hq : addO H e <;> simp [hq]
def dueB (Fl : TabI) (now : Int) (o : Op) : Bool := !(alook Fl o.entry.pair).isSome || decide ((alook Fl o.entry.pair).getD 0 ≤ now)
def astep (Fl : TabI) (r : Int × Bool) (o : Op) : Int × Bool := if (alook Fl o.entry.pair).isSome && (!r.2 || decide ((alook Fl o.entry.pair).getD 0 < r.1)) then ((alook Fl o.entry.pair).getD 0, true) else r
def replyH (H : TabE) (o : Op) (ok : Bool) : TabE := if ok then if o.kind = 3 then adel H o.entry.pair else aset H o.entry.pair o.entry else H
def replyF (Fl : TabI) (now : Int) (o : Op) (ok : Bool) : TabI := if ok then adel Fl o.entry.pair else aset (adel Fl o.entry.pair) o.entry.pair (now + 1000)

theorem newX (F : Fr)  : Spec Try.prog 15 #[] [] F (fun v S => ∃ b r1 r2 r3, v = .pointer (some ⟨b, 0, none⟩) ∧ S = [blk b (FibFib.enc ⟨some r1, some r2, some r3, none⟩) 81, mapE r1 [], mapE r2 [], mapI r3 []]) := by
 refine Spec.intro (N := 6) (args := []) Try.func15 rfl rfl (by simp) ?_
 refine Run.seq fun k1 hk1 => ?_
 refine Run.region ?_
 show Sq _ _ _ [0] _ _ _ _
 refine Sq.quiet (i := 0) rfl (Want.none rfl) rfl (ltN rfl) (QP.assign rfl rfl).read ?_
 refine Sq.nil ?_
 refine hk1 _ _ ?_
 refine Run.seq fun k2 hk2 => ?_
 refine Run.region ?_
 show Sq _ _ _ [0, 1, 2, 3, 4, 5] _ _ _ _
 refine Sq.eff (i := 0) rfl (Want.none rfl) rfl (ltN rfl) (EF.makeMap keyE valE rfl) ?_
 rintro _ _ ⟨r1, rfl, rfl⟩
 refine Sq.eff (i := 1) rfl (Want.none rfl) rfl (ltN rfl) (EF.makeMap keyE valE rfl) ?_
 rintro _ _ ⟨r2, rfl, rfl⟩
 refine Sq.eff (i := 2) rfl (Want.none rfl) rfl (ltN rfl) (EF.makeMap keyE valI rfl) ?_
 rintro _ _ ⟨r3, rfl, rfl⟩
 refine Sq.quiet (i := 3) rfl (Want.none rfl) rfl (ltN rfl) (QP.build (l := FibFib.enc ⟨_, _, _, _⟩) rfl st81 rfl (by exact ⟨rfl, ⟨rfl, ⟨rfl, ⟨rfl, trivial⟩⟩⟩⟩) rfl).read ?_
 refine Sq.eff (i := 4) rfl (Want.none rfl) rfl (ltN rfl) (EF.boxA rfl rfl) ?_
 rintro _ _ ⟨b5, rfl, rfl⟩
 refine Sq.quiet (i := 5) rfl (Want.none rfl) rfl (ltN rfl) (QP.assign rfl rfl).read ?_
 refine Sq.nil ?_
 refine hk2 _ _ ?_
 refine Run.ret ?_
 exact J.ends (res_tmp rfl rfl) (.cons (by repeat constructor) (.cons (by repeat constructor) (.cons (by repeat constructor) (.cons (by repeat constructor) Takes.nil)))) ⟨_, _, _, _, rfl, rfl⟩

theorem want_spec (F : Fr) {b r1 r2 r3 : Nat} {w : Option Addr} {a : Option Addr} {c : Nat} {xs : List Entry} (ha : ArgSl F a 51 Entry.enc xs) (hl : xs.length ≤ 700) : Spec Try.prog 16 #[.pointer (some ⟨b, 0, none⟩), .slice a xs.length c] [blk b (FibFib.enc ⟨some r1, some r2, some r3, w⟩) 81] F (fun v S => ∃ r9, ∃ L' : List Entry, v = .tuple #[] ∧ Expands xs L' ∧ S = [blk b (FibFib.enc ⟨some r1, some r9, some r3, w⟩) 81, mapE r9 (tabOf L')]) := by
 refine Spec.intro (N := 27) (args := [.pointer (some ⟨b, 0, none⟩), .slice a xs.length c]) Try.func16 rfl rfl (by simp) ?_
 refine Run.seq fun k1 hk1 => ?_
 refine Run.seq fun k2 hk2 => ?_
 refine Run.region ?_
 show Sq _ _ _ [0, 1] _ _ _ _
 refine Sq.quiet (i := 0) rfl (Want.none rfl) rfl (ltN rfl) (QP.move rfl rfl).read ?_
 refine Sq.quiet (i := 1) rfl (Want.none rfl) rfl (ltN rfl) (QP.ptr_eq_nil rfl rfl rfl Try.underlying30).read ?_
 refine Sq.nil ?_
 refine hk2 _ _ ?_
 refine Run.cond_f rfl ?_
 refine Run.skip ?_
 refine hk1 _ _ ?_
 refine Run.seq fun k3 hk3 => ?_
 refine Run.region ?_
 show Sq _ _ _ [0, 1, 2, 3, 4] _ _ _ _
 refine Sq.quiet (i := 0) rfl (Want.none rfl) rfl (ltN rfl) (QP.move rfl rfl).read ?_
 refine Sq.eff (i := 1) rfl (Want.none rfl) rfl (ltN rfl) (EF.makeMap keyE valE rfl) ?_
 rintro _ _ ⟨r9, rfl, rfl⟩
 refine Sq.quiet (i := 2) rfl (Want.none rfl) rfl (ltN rfl) (QP.nilCheck rfl rfl).read ?_
 refine Sq.quiet (i := 3) rfl (Want.none rfl) rfl (ltN rfl) (QP.fieldAddr rfl rfl f81_1).read ?_
 refine Sq.act (i := 4) rfl (Want.none rfl) rfl (EF.store rfl rfl rfl z74 (FibFib.set_want _ _) (cell_one rfl)) ?_
 rintro _ _ rfl
 refine Sq.nil ?_
 refine hk3 _ _ ?_
 refine Run.seq fun k4 hk4 => ?_
 refine Run.region ?_
 show Sq _ _ _ [0, 1, 2, 3] _ _ _ _
 refine Sq.quiet (i := 0) rfl (Want.none rfl) rfl (ltN rfl) (QP.move rfl rfl).read ?_
 refine Sq.eff (i := 1) rfl (Want.none rfl) rfl (ltN rfl) (EF.call rfl ce12 rfl Takes.nil (fun F' hle hr => expand_spec F' (ha.mono hle) hl)) ?_
 rintro v13 _ ⟨_, ⟨L', hex, rfl⟩, rfl⟩
 refine J.app ?_
 obtain ⟨L0, hL0, hL'⟩ := hex
 refine Sq.slCase (v := v13) (xs := L') (by repeat constructor) (fun a13 c13 hv13 hh13 => ?_)
 subst hv13
 have hLl : L'.length ≤ 600000 := by
   rw [hL'.length]
   have h1 := expM_len L0 L0 []
   have h2 : L0.length ≤ 700 := by rw [hL0.length]; have := (imp_len [] xs []).2; simp only [List.length_nil] at this; omega
   have h3 : L0.length * L0.length ≤ 700 * 700 := Nat.mul_le_mul h2 h2
   simp only [List.length_nil] at h1
   unfold expM
   omega
 refine Sq.quiet (i := 2) rfl (Want.none rfl) rfl (ltN rfl) (QP.len rfl rfl rfl Try.underlying22).read ?_
 refine Sq.quiet (i := 3) rfl (Want.none rfl) rfl (ltN rfl) (QP.move rfl rfl).read ?_
 refine Sq.nil ?_
 refine hk4 _ _ ?_
 refine Run.block ?_
 refine Run.loop1 (fun (i : Nat) => i ≤ L'.length) (fun i => .cons 0 (.pointer (some ⟨b, 0, none⟩)) (.cons 13 (.slice a13 L'.length c13) (.cons 14 (.int .i64 L'.length) (.cons 15 (.int .i64 i) (.nil))))) (fun i => [blk b (FibFib.enc ⟨some r1, some r9, some r3, w⟩) 81, mapE r9 (tabOf (L'.take i)), slA 41 51 Entry.enc (.slice a13 L'.length c13) L']) (fun i => L'.length - i) (0) (Nat.zero_le _) ?_ ?_
 ·exact fun _ j => J.envJ (J.keep (.cons (by repeat constructor) (.cons (by repeat constructor) (.cons (by repeat constructor) Takes.nil))) j) ⟨rfl, rfl, rfl, rfl, trivial⟩
 rintro i hile kl5 hl5
 refine Run.seq fun k6 hk6 => ?_
 refine Run.region ?_
 show Sq _ _ _ [0] _ _ _ _
 refine Sq.quiet (i := 0) rfl (Want.none rfl) rfl (ltN rfl) (QP.lss rfl rfl rfl).read ?_
 refine J.caseD (fun c16 => ?_) (fun c16 => ?_)
 ·skip
  refine Sq.nil ?_
  refine hk6 _ _ ?_
  refine Run.seq fun k7 hk7 => ?_
  refine Run.cond_t rfl ?_
  refine Run.skip ?_
  refine hk7 _ _ ?_
  refine Run.seq fun k8 hk8 => ?_
  refine Run.block ?_
  refine Run.seq fun k9 hk9 => ?_
  refine Run.region ?_
  show Sq _ _ _ [0, 1, 2, 3] _ _ _ _
  obtain ⟨e, hi⟩ : ∃ e, L'[i]? = some e := ⟨_, List.getElem?_eq_getElem (by omega)⟩
  obtain ⟨b0, o0, rfl⟩ := hh13.get (by omega)
  refine Sq.quiet (i := 0) rfl (Want.none rfl) rfl (ltN rfl) (QP.indexAddr rfl rfl rfl Try.underlying22 z41 (by first | omega | (simp <;> omega)) (by first | omega | (simp <;> omega))).read ?_
  refine Sq.quiet (i := 1) rfl (Want.none rfl) rfl (ltN rfl) (QR.loadSl rfl rfl g41 Entry.enc_len (SlAt.own Entry.enc_len (by repeat constructor)) hi) ?_
  refine Sq.eff (i := 2) rfl (Want.none rfl) rfl (ltN rfl) (EF.allocA (l := Entry.enc Entry.zero) rfl zero41) ?_
  rintro _ _ ⟨b5, rfl, rfl⟩
  refine Sq.act (i := 3) rfl (Want.none rfl) rfl (EF.storeA rfl rfl rfl z41 (SetL.all (Entry.enc_len _) (Entry.enc_len _)) (Entry.enc_cell _)) ?_
  rintro _ _ rfl
  refine Sq.nil ?_
  refine hk9 _ _ ?_
  refine Run.regionD (M := [0, 1, 3, 7, 0, 16, 0, 127]) (q := 127) (r := 104) (by kernel_rfl) ?_
  refine Dw.pure (i := 0) rfl (by kernel_rfl) (Want.none rfl) rfl (ltN rfl) (QP.move rfl rfl) ?_
  refine Dw.pure (i := 1) rfl (by kernel_rfl) (Want.none rfl) rfl (ltN rfl) (QP.nilCheck rfl rfl) ?_
  refine Dw.pure (i := 2) rfl (by kernel_rfl) (Want.none rfl) rfl (ltN rfl) (QP.fieldAddr rfl rfl f81_1) ?_
  refine Dw.read (i := 3) rfl (by kernel_rfl) (Want.none rfl) rfl (ltN rfl) (QR.load1 rfl rfl g74 (FibFib.sub_want _)) ?_
  refine Dw.pure (i := 4) rfl (by kernel_rfl) (Want.none rfl) rfl (ltN rfl) (QP.fieldAddr rfl rfl f41_0) ?_
  refine Dw.read (i := 5) rfl (by kernel_rfl) (Want.none rfl) rfl (ltN rfl) (QR.load rfl rfl g39 (Entry.sub_pair _)) ?_
  refine Dw.read (i := 6) rfl (by kernel_rfl) (Want.none rfl) rfl (ltN rfl) (QR.load rfl rfl g41 (Entry.enc_sub _)) ?_
  refine Dw.eff (i := 7) (by kernel_rfl) (by kernel_rfl) ?_
  refine One.act (o := _) (l := []) rfl (by kernel_rfl) (Want.none rfl) rfl (EF.mapUpdate (ev := valE) (v := e) key39 rfl rfl rfl rfl Try.underlying74) (by kernel_rfl) ?_
  rintro _ _ rfl
  refine ⟨fun _ h => (by cases h), ?_⟩
  refine Dw.nil (by kernel_rfl) ?_
  refine hk8 _ _ ?_
  refine Run.region ?_
  show Sq _ _ _ [0, 1] _ _ _ _
  refine Sq.quiet (i := 0) rfl (Want.none rfl) rfl (ltN rfl) (QP.add64 rfl rfl rfl (by first | omega | (simp <;> omega)) (by first | omega | (simp <;> omega))).read ?_
  refine Sq.quiet (i := 1) rfl (Want.none rfl) rfl (ltN rfl) (QP.move rfl rfl).read ?_
  refine Sq.nil ?_
  refine J.mapEq (M := aset (tabOf (L'.take i)) e.pair e) (by repeat constructor) (tabOf_succ hL' hi) ?_
  exact J.envJ (J.keep (.cons (by repeat constructor) (.cons (by repeat constructor) (.cons (by repeat constructor) Takes.nil))) (hl5 (i + 1) (by omega) (by omega))) ⟨rfl, rfl, rfl, rfl, trivial⟩
 ·skip
  refine Sq.nil ?_
  refine hk6 _ _ ?_
  refine Run.seq fun k10 hk10 => ?_
  refine Run.cond_f rfl ?_
  refine Run.exit rfl ?_
  have hty : L'.take i = L' := List.take_of_length_le (by omega)
  rw [hty]
  exact J.ends (res_none rfl) (.cons (by repeat constructor) (.cons (by repeat constructor) Takes.nil)) ⟨r9, L', rfl, ⟨L0, hL0, hL'⟩, rfl⟩

theorem want_nil (F : Fr) (x : Value) : Spec Try.prog 16 #[.pointer none, x] [] F (fun v S => v = .tuple #[] ∧ S = []) := by
 refine Spec.intro (N := 27) (args := [.pointer none, x]) Try.func16 rfl rfl (by simp) ?_
 refine Run.seq fun k1 hk1 => ?_
 refine Run.seq fun k2 hk2 => ?_
 refine Run.region ?_
 show Sq _ _ _ [0, 1] _ _ _ _
 refine Sq.quiet (i := 0) rfl (Want.none rfl) rfl (ltN rfl) (QP.move rfl rfl).read ?_
 refine Sq.quiet (i := 1) rfl (Want.none rfl) rfl (ltN rfl) (QP.ptr_eq_nil rfl rfl rfl Try.underlying30).read ?_
 refine Sq.nil ?_
 refine hk2 _ _ ?_
 refine Run.cond_t rfl ?_
 refine Run.ret ?_
 exact J.ends (res_none rfl) Takes.nil ⟨rfl, rfl⟩

theorem todo_spec (F : Fr) {b r1 r2 r3 : Nat} {w : Option Addr} (hf : InX F b r1 r2 r3 w) {H Wt : TabE} (hH : H.length ≤ 100000) (hW : Wt.length ≤ 600000) {LH LW : List Entry} (hoH : OrdE H LH) (hoW : OrdE Wt LW)  : Spec Try.prog 45 #[.pointer (some ⟨b, 0, none⟩)] [mapE r1 H, mapE r2 Wt] F (fun v S => S = [mapE r1 H, mapE r2 Wt, slA 43 52 Op.enc v (todoL H Wt LH LW)]) := by
 refine Spec.intro (N := 80) (args := [.pointer (some ⟨b, 0, none⟩)]) Try.func45 rfl rfl (by simp) ?_
 refine Run.seq fun k1 hk1 => ?_
 refine Run.region ?_
 show Sq _ _ _ [0] _ _ _ _
 refine J.addSl 43 52 Op.enc ?_
 have hlH := hoH.length
 have hlW := hoW.length
 refine Sq.quiet (i := 0) rfl (Want.none rfl) rfl (ltN rfl) (QP.assign rfl rfl).read ?_
 refine Sq.nil ?_
 refine hk1 _ _ ?_
 refine Run.seq fun k2 hk2 => ?_
 refine Run.seq fun k3 hk3 => ?_
 refine Run.region ?_
 show Sq _ _ _ [0, 1] _ _ _ _
 refine Sq.quiet (i := 0) rfl (Want.none rfl) rfl (ltN rfl) (QP.move rfl rfl).read ?_
 refine Sq.quiet (i := 1) rfl (Want.none rfl) rfl (ltN rfl) (QP.ptr_eq_nil rfl rfl rfl Try.underlying30).read ?_
 refine Sq.nil ?_
 refine hk3 _ _ ?_
 refine Run.cond_f rfl ?_
 refine Run.skip ?_
 refine hk2 _ _ ?_
 refine Run.seq fun k4 hk4 => ?_
 refine Run.seq fun k5 hk5 => ?_
 refine Run.region ?_
 show Sq _ _ _ [0, 1, 2, 3, 4, 5, 6] _ _ _ _
 refine Sq.quiet (i := 0) rfl (Want.none rfl) rfl (ltN rfl) (QP.move rfl rfl).read ?_
 refine Sq.quiet (i := 1) rfl (Want.none rfl) rfl (ltN rfl) (QP.nilCheck rfl rfl).read ?_
 refine Sq.quiet (i := 2) rfl (Want.none rfl) rfl (ltN rfl) (QP.fieldAddr rfl rfl f81_0).read ?_
 refine Sq.quiet (i := 3) rfl (Want.none rfl) rfl (ltN rfl) (QR.load1F rfl rfl g74 hf.tb (FibFib.sub_has _)) ?_
 refine Sq.eff (i := 4) rfl (Want.none rfl) rfl (ltN rfl) (EF.call rfl ce39 rfl (.cons (by repeat constructor) Takes.nil) (fun F' hle hr => list_spec F' (by omega) hoH)) ?_
 rintro v17 _ ⟨_, rfl, rfl⟩
 refine J.app ?_
 refine Sq.slCase (v := v17) (xs := LH) (by repeat constructor) (fun a17 c17 hv17 hh17 => ?_)
 subst hv17
 refine Sq.quiet (i := 5) rfl (Want.none rfl) rfl (ltN rfl) (QP.len rfl rfl rfl Try.underlying22).read ?_
 refine Sq.quiet (i := 6) rfl (Want.none rfl) rfl (ltN rfl) (QP.move rfl rfl).read ?_
 refine Sq.nil ?_
 refine hk5 _ _ ?_
 refine Run.block ?_
 refine Run.loop2 (fun (i : Nat) (vo : Value) => i ≤ LH.length) (fun i vo => .cons 0 (.pointer (some ⟨b, 0, none⟩)) (.cons 2 (vo) (.cons 17 (.slice a17 LH.length c17) (.cons 18 (.int .i64 LH.length) (.cons 19 (.int .i64 i) (.nil)))))) (fun i vo => [mapE r1 H, mapE r2 Wt, slA 41 51 Entry.enc (.slice a17 LH.length c17) LH, slA 43 52 Op.enc vo (remL Wt (LH.take i))]) (fun i vo => LH.length - i) (0) (.slice none 0 0) (Nat.zero_le _) ?_ ?_
 ·exact fun _ j => J.envJ (J.keep (.cons (by repeat constructor) (.cons (by repeat constructor) (.cons (by repeat constructor) (.cons (by repeat constructor) Takes.nil)))) j) ⟨rfl, rfl, rfl, rfl, rfl, trivial⟩
 rintro i vo hile kl6 hl6
 refine Run.seq fun k7 hk7 => ?_
 refine Run.region ?_
 show Sq _ _ _ [0] _ _ _ _
 refine Sq.quiet (i := 0) rfl (Want.none rfl) rfl (ltN rfl) (QP.lss rfl rfl rfl).read ?_
 refine J.caseD (fun c20 => ?_) (fun c20 => ?_)
 ·skip
  refine Sq.nil ?_
  refine hk7 _ _ ?_
  refine Run.seq fun k8 hk8 => ?_
  refine Run.cond_t rfl ?_
  refine Run.skip ?_
  refine hk8 _ _ ?_
  refine Run.seq fun k9 hk9 => ?_
  refine Run.block ?_
  refine Run.seq fun k10 hk10 => ?_
  refine Run.region ?_
  show Sq _ _ _ [0, 1, 2, 3] _ _ _ _
  obtain ⟨e, hi⟩ : ∃ e, LH[i]? = some e := ⟨_, List.getElem?_eq_getElem (by omega)⟩
  obtain ⟨b0, o0, rfl⟩ := hh17.get (by omega)
  have hsu := remL_succ (Wt := Wt) hi
  have hrl := remL_len Wt (LH.take i)
  have htl : (LH.take i).length ≤ 100000 := by rw [List.length_take]; omega
  refine Sq.quiet (i := 0) rfl (Want.none rfl) rfl (ltN rfl) (QP.indexAddr rfl rfl rfl Try.underlying22 z41 (by first | omega | (simp <;> omega)) (by first | omega | (simp <;> omega))).read ?_
  refine Sq.quiet (i := 1) rfl (Want.none rfl) rfl (ltN rfl) (QR.loadSl rfl rfl g41 Entry.enc_len (SlAt.own Entry.enc_len (by repeat constructor)) hi) ?_
  refine Sq.eff (i := 2) rfl (Want.none rfl) rfl (ltN rfl) (EF.allocA (l := Entry.enc Entry.zero) rfl zero41) ?_
  rintro _ _ ⟨b4, rfl, rfl⟩
  refine Sq.act (i := 3) rfl (Want.none rfl) rfl (EF.storeA rfl rfl rfl z41 (SetL.all (Entry.enc_len _) (Entry.enc_len _)) (Entry.enc_cell _)) ?_
  rintro _ _ rfl
  refine Sq.nil ?_
  refine hk10 _ _ ?_
  refine Run.seq fun k11 hk11 => ?_
  refine Run.regionM (M := [0, 1, 3, 7, 0, 16, 63, 127, 255, 255, 0, 1535, 4095]) (q := 1023) (r := 104) mixedT (by kernel_rfl) ?_
  refine Dw.pure (i := 0) rfl (by kernel_rfl) (Want.none rfl) rfl (ltN rfl) (QP.move rfl rfl) ?_
  refine Dw.pure (i := 1) rfl (by kernel_rfl) (Want.none rfl) rfl (ltN rfl) (QP.nilCheck rfl rfl) ?_
  refine Dw.pure (i := 2) rfl (by kernel_rfl) (Want.none rfl) rfl (ltN rfl) (QP.fieldAddr rfl rfl f81_1) ?_
  refine Dw.read (i := 3) rfl (by kernel_rfl) (Want.none rfl) rfl (ltN rfl) (QR.load1F rfl rfl g74 hf.tb (FibFib.sub_want _)) ?_
  refine Dw.pure (i := 4) rfl (by kernel_rfl) (Want.none rfl) rfl (ltN rfl) (QP.fieldAddr rfl rfl f41_0) ?_
  refine Dw.read (i := 5) rfl (by kernel_rfl) (Want.none rfl) rfl (ltN rfl) (QR.load rfl rfl g39 (Entry.sub_pair _)) ?_
  refine Dw.read (i := 6) rfl (by kernel_rfl) (Want.none rfl) rfl (ltN rfl) (QR.lookup2V key39 rfl rfl rfl Try.underlying74 (z := Entry.zero) zero41) ?_
  refine Dw.pure (i := 7) rfl (by kernel_rfl) (Want.none rfl) rfl (ltN rfl) (QP.move rfl rfl) ?_
  refine Dw.pure (i := 8) rfl (by kernel_rfl) (Want.none rfl) rfl (ltN rfl) (QP.extract rfl rfl rfl) ?_
  refine Dw.pure (i := 9) rfl (by kernel_rfl) (Want.none rfl) rfl (ltN rfl) (QP.extract rfl rfl rfl) ?_
  refine J.caseB (fun c32 => ?_) (fun c32 => ?_)
  ·skip
   refine Dw.eff (i := 10) (by kernel_rfl) (by kernel_rfl) ?_
   refine One.mk (o := _) (l := [6, 5, 3]) rfl (by kernel_rfl) (Want.none rfl) rfl (ltN rfl) (EF.allocA (l := Entry.enc Entry.zero) rfl zero41) (by kernel_rfl) ?_
   rintro _ _ ⟨b5, rfl, rfl⟩
   refine ⟨?_, ?_⟩
   ·rw [List.forall_mem_cons, List.forall_mem_cons, List.forall_mem_cons]
    refine ⟨?_, ?_, ?_, fun _ h => (by cases h)⟩
    ·exact Look.mk rfl rfl rfl (QR.lookup2V key39 rfl rfl rfl Try.underlying74 (z := Entry.zero) zero41)
    ·exact Look.mk rfl rfl rfl (QR.load rfl rfl g39 (Entry.sub_pair _))
    ·exact Look.mk rfl rfl rfl (QR.load1F rfl rfl g74 hf.tb (FibFib.sub_want _))
   refine ?_
   refine Dw.eff (i := 11) (by kernel_rfl) (by kernel_rfl) ?_
   refine One.act (o := _) (l := []) rfl (by kernel_rfl) (Want.none rfl) rfl (EF.storeA rfl rfl rfl z41 (SetL.all (Entry.enc_len _) (Entry.enc_len _)) (Entry.enc_cell _)) (by kernel_rfl) ?_
   rintro _ _ rfl
   refine ⟨fun _ h => (by cases h), ?_⟩
   refine Dw.eff (i := 12) (by kernel_rfl) (by kernel_rfl) ?_
   refine One.mk (o := _) (l := []) rfl (by kernel_rfl) (Want.none rfl) rfl (ltN rfl) ((QP.assign rfl rfl).eff) (by kernel_rfl) ?_
   rintro _ _ ⟨rfl, rfl⟩
   refine ⟨fun _ h => (by cases h), ?_⟩
   refine Dw.nil (by kernel_rfl) ?_
   refine hk11 _ _ ?_
   refine Run.seq fun k12 hk12 => ?_
   refine Run.region ?_
   show Sq _ _ _ [0, 1] _ _ _ _
   refine Sq.quiet (i := 0) rfl (Want.none rfl) rfl (ltN rfl) (QP.move rfl rfl).read ?_
   refine Sq.quiet (i := 1) rfl (Want.none rfl) rfl (ltN rfl) (QP.not rfl rfl).read ?_
   refine Sq.nil ?_
   refine hk12 _ _ ?_
   refine Run.cond_f rfl ?_
   refine Run.skip ?_
   refine hk9 _ _ ?_
   refine Run.region ?_
   show Sq _ _ _ [0, 1] _ _ _ _
   rw [c32] at hsu
   simp only [if_true, Bool.false_eq_true, if_false, List.append_nil] at hsu
   refine J.slEq (v := vo) (by repeat constructor) hsu.symm ?_
   refine Sq.quiet (i := 0) rfl (Want.none rfl) rfl (ltN rfl) (QP.add64 rfl rfl rfl (by first | omega | (simp <;> omega)) (by first | omega | (simp <;> omega))).read ?_
   refine Sq.quiet (i := 1) rfl (Want.none rfl) rfl (ltN rfl) (QP.move rfl rfl).read ?_
   refine Sq.nil ?_
   exact J.envJ (J.keep (.cons (by repeat constructor) (.cons (by repeat constructor) (.cons (by repeat constructor) (.cons (by repeat constructor) Takes.nil)))) (hl6 (i + 1) (vo) (by omega) (by omega))) ⟨rfl, rfl, rfl, rfl, rfl, trivial⟩
  ·skip
   refine Dw.eff (i := 10) (by kernel_rfl) (by kernel_rfl) ?_
   refine One.mk (o := _) (l := [6, 5, 3]) rfl (by kernel_rfl) (Want.none rfl) rfl (ltN rfl) (EF.allocA (l := Entry.enc Entry.zero) rfl zero41) (by kernel_rfl) ?_
   rintro _ _ ⟨b5, rfl, rfl⟩
   refine ⟨?_, ?_⟩
   ·rw [List.forall_mem_cons, List.forall_mem_cons, List.forall_mem_cons]
    refine ⟨?_, ?_, ?_, fun _ h => (by cases h)⟩
    ·exact Look.mk rfl rfl rfl (QR.lookup2V key39 rfl rfl rfl Try.underlying74 (z := Entry.zero) zero41)
    ·exact Look.mk rfl rfl rfl (QR.load rfl rfl g39 (Entry.sub_pair _))
    ·exact Look.mk rfl rfl rfl (QR.load1F rfl rfl g74 hf.tb (FibFib.sub_want _))
   refine ?_
   refine Dw.eff (i := 11) (by kernel_rfl) (by kernel_rfl) ?_
   refine One.act (o := _) (l := []) rfl (by kernel_rfl) (Want.none rfl) rfl (EF.storeA rfl rfl rfl z41 (SetL.all (Entry.enc_len _) (Entry.enc_len _)) (Entry.enc_cell _)) (by kernel_rfl) ?_
   rintro _ _ rfl
   refine ⟨fun _ h => (by cases h), ?_⟩
   refine Dw.eff (i := 12) (by kernel_rfl) (by kernel_rfl) ?_
   refine One.mk (o := _) (l := []) rfl (by kernel_rfl) (Want.none rfl) rfl (ltN rfl) ((QP.assign rfl rfl).eff) (by kernel_rfl) ?_
   rintro _ _ ⟨rfl, rfl⟩
   refine ⟨fun _ h => (by cases h), ?_⟩
   refine Dw.nil (by kernel_rfl) ?_
   refine hk11 _ _ ?_
   refine Run.seq fun k13 hk13 => ?_
   refine Run.region ?_
   show Sq _ _ _ [0, 1] _ _ _ _
   refine Sq.quiet (i := 0) rfl (Want.none rfl) rfl (ltN rfl) (QP.move rfl rfl).read ?_
   refine Sq.quiet (i := 1) rfl (Want.none rfl) rfl (ltN rfl) (QP.not rfl rfl).read ?_
   refine Sq.nil ?_
   refine hk13 _ _ ?_
   refine Run.cond_t rfl ?_
   refine Run.region ?_
   show Sq _ _ _ [0, 1, 2, 3, 4, 5] _ _ _ _
   refine Sq.quiet (i := 0) rfl (Want.none rfl) rfl (ltN rfl) (QP.move rfl rfl).read ?_
   refine Sq.quiet (i := 1) rfl (Want.none rfl) rfl (ltN rfl) (QR.load rfl rfl g41 (Entry.enc_sub _)) ?_
   refine Sq.quiet (i := 2) rfl (Want.none rfl) rfl (ltN rfl) (QP.build (l := Op.enc ⟨(3), (e)⟩) rfl st43 rfl (by exact ⟨rfl, ⟨(congrArg some (Entry.enc_len _).symm), trivial⟩⟩) rfl).read ?_
   refine Sq.eff (i := 3) rfl (Want.none rfl) rfl (ltN rfl) (EF.buildSlice1 rfl Try.underlying82 z43 zero43 (by simp [Value.cells, Op.enc_len]) (by decide) rfl rfl (Op.enc_len _) (by decide)) ?_
   rintro _ _ ⟨b38, rfl, rfl⟩
   refine Sq.eff (i := 4) rfl (Want.none rfl) rfl (ltN rfl) (EF.append1 (xs := (remL Wt (LH.take i))) (s := (⟨(3), (e)⟩ : Op)) el43 Op.enc_len Op.enc_cell rfl rfl rfl Try.underlying82 Try.underlying82 rfl rfl (by repeat constructor) (by repeat constructor) (by first | omega | (simp <;> omega))) ?_
   rintro sl39 _ rfl
   refine Sq.quiet (i := 5) rfl (Want.none rfl) rfl (ltN rfl) (QP.assign rfl rfl).read ?_
   refine Sq.nil ?_
   refine hk9 _ _ ?_
   refine Run.region ?_
   show Sq _ _ _ [0, 1] _ _ _ _
   rw [c32] at hsu
   simp only [if_true, Bool.false_eq_true, if_false, List.append_nil] at hsu
   refine J.slEq (v := sl39) (by repeat constructor) hsu.symm ?_
   refine Sq.quiet (i := 0) rfl (Want.none rfl) rfl (ltN rfl) (QP.add64 rfl rfl rfl (by first | omega | (simp <;> omega)) (by first | omega | (simp <;> omega))).read ?_
   refine Sq.quiet (i := 1) rfl (Want.none rfl) rfl (ltN rfl) (QP.move rfl rfl).read ?_
   refine Sq.nil ?_
   exact J.envJ (J.keep (.cons (by repeat constructor) (.cons (by repeat constructor) (.cons (by repeat constructor) (.cons (by repeat constructor) Takes.nil)))) (hl6 (i + 1) (sl39) (by omega) (by omega))) ⟨rfl, rfl, rfl, rfl, rfl, trivial⟩
 ·skip
  refine Sq.nil ?_
  refine hk7 _ _ ?_
  refine Run.seq fun k14 hk14 => ?_
  refine Run.cond_f rfl ?_
  refine Run.exit rfl ?_
  refine hk4 _ _ ?_
  refine Run.seq fun k15 hk15 => ?_
  refine Run.seq fun k16 hk16 => ?_
  refine Run.region ?_
  show Sq _ _ _ [0, 1, 2, 3, 4, 5, 6] _ _ _ _
  have hty : LH.take i = LH := List.take_of_length_le (by omega)
  rw [hty]
  have hrl := remL_len Wt LH
  refine Sq.quiet (i := 0) rfl (Want.none rfl) rfl (ltN rfl) (QP.move rfl rfl).read ?_
  refine Sq.quiet (i := 1) rfl (Want.none rfl) rfl (ltN rfl) (QP.nilCheck rfl rfl).read ?_
  refine Sq.quiet (i := 2) rfl (Want.none rfl) rfl (ltN rfl) (QP.fieldAddr rfl rfl f81_1).read ?_
  refine Sq.quiet (i := 3) rfl (Want.none rfl) rfl (ltN rfl) (QR.load1F rfl rfl g74 hf.tb (FibFib.sub_want _)) ?_
  refine Sq.eff (i := 4) rfl (Want.none rfl) rfl (ltN rfl) (EF.call rfl ce39 rfl (.cons (by repeat constructor) Takes.nil) (fun F' hle hr => list_spec F' (by omega) hoW)) ?_
  rintro v45 _ ⟨_, rfl, rfl⟩
  refine J.app ?_
  refine Sq.slCase (v := v45) (xs := LW) (by repeat constructor) (fun a45 c45 hv45 hh45 => ?_)
  subst hv45
  refine J.slEq (v := vo) (by repeat constructor) (show remL Wt LH = remL Wt LH ++ (LW.take 0).filterMap (addO H) by simp) ?_
  refine Sq.quiet (i := 5) rfl (Want.none rfl) rfl (ltN rfl) (QP.len rfl rfl rfl Try.underlying22).read ?_
  refine Sq.quiet (i := 6) rfl (Want.none rfl) rfl (ltN rfl) (QP.move rfl rfl).read ?_
  refine Sq.nil ?_
  refine hk16 _ _ ?_
  refine Run.block ?_
  refine Run.loop2 (fun (i : Nat) (vo : Value) => i ≤ LW.length) (fun i vo => .cons 0 (.pointer (some ⟨b, 0, none⟩)) (.cons 2 (vo) (.cons 45 (.slice a45 LW.length c45) (.cons 46 (.int .i64 LW.length) (.cons 47 (.int .i64 i) (.nil)))))) (fun i vo => [mapE r1 H, mapE r2 Wt, slA 41 51 Entry.enc (.slice a45 LW.length c45) LW, slA 43 52 Op.enc vo (remL Wt LH ++ (LW.take i).filterMap (addO H))]) (fun i vo => LW.length - i) (0) (vo) (Nat.zero_le _) ?_ ?_
  ·exact fun _ j => J.envJ (J.keep (.cons (by repeat constructor) (.cons (by repeat constructor) (.cons (by repeat constructor) (.cons (by repeat constructor) Takes.nil)))) j) ⟨rfl, rfl, rfl, rfl, rfl, trivial⟩
  rintro i vo hile2 kl17 hl17
  refine Run.seq fun k18 hk18 => ?_
  refine Run.region ?_
  show Sq _ _ _ [0] _ _ _ _
  refine Sq.quiet (i := 0) rfl (Want.none rfl) rfl (ltN rfl) (QP.lss rfl rfl rfl).read ?_
  refine J.caseD (fun c48 => ?_) (fun c48 => ?_)
  ·skip
   refine Sq.nil ?_
   refine hk18 _ _ ?_
   refine Run.seq fun k19 hk19 => ?_
   refine Run.cond_t rfl ?_
   refine Run.skip ?_
   refine hk19 _ _ ?_
   refine Run.seq fun k20 hk20 => ?_
   refine Run.block ?_
   refine Run.seq fun k21 hk21 => ?_
   refine Run.region ?_
   show Sq _ _ _ [0, 1, 2, 3] _ _ _ _
   obtain ⟨e, hi⟩ : ∃ e, LW[i]? = some e := ⟨_, List.getElem?_eq_getElem (by omega)⟩
   obtain ⟨b0, o0, rfl⟩ := hh45.get (by omega)
   have hsu := addL_succ (H := H) hi
   have htl : (LW.take i).length ≤ 600000 := by rw [List.length_take]; omega
   have hfl := List.length_filterMap_le (addO H) (LW.take i)
   have hvl : (remL Wt LH ++ (LW.take i).filterMap (addO H)).length ≤ 900000 := by rw [List.length_append]; omega
   refine Sq.quiet (i := 0) rfl (Want.none rfl) rfl (ltN rfl) (QP.indexAddr rfl rfl rfl Try.underlying22 z41 (by first | omega | (simp <;> omega)) (by first | omega | (simp <;> omega))).read ?_
   refine Sq.quiet (i := 1) rfl (Want.none rfl) rfl (ltN rfl) (QR.loadSl rfl rfl g41 Entry.enc_len (SlAt.own Entry.enc_len (by repeat constructor)) hi) ?_
   refine Sq.eff (i := 2) rfl (Want.none rfl) rfl (ltN rfl) (EF.allocA (l := Entry.enc Entry.zero) rfl zero41) ?_
   rintro _ _ ⟨b8, rfl, rfl⟩
   refine Sq.act (i := 3) rfl (Want.none rfl) rfl (EF.storeA rfl rfl rfl z41 (SetL.all (Entry.enc_len _) (Entry.enc_len _)) (Entry.enc_cell _)) ?_
   rintro _ _ rfl
   refine Sq.nil ?_
   refine hk21 _ _ ?_
   refine Run.seq fun k22 hk22 => ?_
   refine Run.regionM (M := [0, 1, 3, 7, 0, 16, 63, 127, 255, 255, 0, 1535, 4095]) (q := 1023) (r := 104) mixedT (by kernel_rfl) ?_
   refine Dw.pure (i := 0) rfl (by kernel_rfl) (Want.none rfl) rfl (ltN rfl) (QP.move rfl rfl) ?_
   refine Dw.pure (i := 1) rfl (by kernel_rfl) (Want.none rfl) rfl (ltN rfl) (QP.nilCheck rfl rfl) ?_
   refine Dw.pure (i := 2) rfl (by kernel_rfl) (Want.none rfl) rfl (ltN rfl) (QP.fieldAddr rfl rfl f81_0) ?_
   refine Dw.read (i := 3) rfl (by kernel_rfl) (Want.none rfl) rfl (ltN rfl) (QR.load1F rfl rfl g74 hf.tb (FibFib.sub_has _)) ?_
   refine Dw.pure (i := 4) rfl (by kernel_rfl) (Want.none rfl) rfl (ltN rfl) (QP.fieldAddr rfl rfl f41_0) ?_
   refine Dw.read (i := 5) rfl (by kernel_rfl) (Want.none rfl) rfl (ltN rfl) (QR.load rfl rfl g39 (Entry.sub_pair _)) ?_
   refine Dw.read (i := 6) rfl (by kernel_rfl) (Want.none rfl) rfl (ltN rfl) (QR.lookup2V key39 rfl rfl rfl Try.underlying74 (z := Entry.zero) zero41) ?_
   refine Dw.pure (i := 7) rfl (by kernel_rfl) (Want.none rfl) rfl (ltN rfl) (QP.move rfl rfl) ?_
   refine Dw.pure (i := 8) rfl (by kernel_rfl) (Want.none rfl) rfl (ltN rfl) (QP.extract rfl rfl rfl) ?_
   refine Dw.pure (i := 9) rfl (by kernel_rfl) (Want.none rfl) rfl (ltN rfl) (QP.extract rfl rfl rfl) ?_
   refine J.caseB (fun c60 => ?_) (fun c60 => ?_)
   ·skip
    refine Dw.eff (i := 10) (by kernel_rfl) (by kernel_rfl) ?_
    refine One.mk (o := _) (l := [6, 5, 3]) rfl (by kernel_rfl) (Want.none rfl) rfl (ltN rfl) (EF.allocA (l := Entry.enc Entry.zero) rfl zero41) (by kernel_rfl) ?_
    rintro _ _ ⟨b9, rfl, rfl⟩
    refine ⟨?_, ?_⟩
    ·rw [List.forall_mem_cons, List.forall_mem_cons, List.forall_mem_cons]
     refine ⟨?_, ?_, ?_, fun _ h => (by cases h)⟩
     ·exact Look.mk rfl rfl rfl (QR.lookup2V key39 rfl rfl rfl Try.underlying74 (z := Entry.zero) zero41)
     ·exact Look.mk rfl rfl rfl (QR.load rfl rfl g39 (Entry.sub_pair _))
     ·exact Look.mk rfl rfl rfl (QR.load1F rfl rfl g74 hf.tb (FibFib.sub_has _))
    refine ?_
    refine Dw.eff (i := 11) (by kernel_rfl) (by kernel_rfl) ?_
    refine One.act (o := _) (l := []) rfl (by kernel_rfl) (Want.none rfl) rfl (EF.storeA rfl rfl rfl z41 (SetL.all (Entry.enc_len _) (Entry.enc_len _)) (Entry.enc_cell _)) (by kernel_rfl) ?_
    rintro _ _ rfl
    refine ⟨fun _ h => (by cases h), ?_⟩
    refine Dw.eff (i := 12) (by kernel_rfl) (by kernel_rfl) ?_
    refine One.mk (o := _) (l := []) rfl (by kernel_rfl) (Want.none rfl) rfl (ltN rfl) ((QP.assign rfl rfl).eff) (by kernel_rfl) ?_
    rintro _ _ ⟨rfl, rfl⟩
    refine ⟨fun _ h => (by cases h), ?_⟩
    refine Dw.nil (by kernel_rfl) ?_
    refine hk22 _ _ ?_
    refine Run.block ?_
    refine Run.seq fun k23 hk23 => ?_
    refine Run.region ?_
    show Sq _ _ _ [0, 1, 2] _ _ _ _
    refine Sq.quiet (i := 0) rfl (Want.none rfl) rfl (ltN rfl) (QP.move rfl rfl).read ?_
    refine Sq.quiet (i := 1) rfl (Want.none rfl) rfl (ltN rfl) (QP.not rfl rfl).read ?_
    refine Sq.quiet (i := 2) rfl (Want.none rfl) rfl (ltN rfl) (QP.assign rfl rfl).read ?_
    refine Sq.nil ?_
    refine hk23 _ _ ?_
    refine Run.cond_f rfl ?_
    refine Run.seq fun k24 hk24 => ?_
    refine Run.region ?_
    show Sq _ _ _ [0, 1, 2, 3] _ _ _ _
    refine Sq.quiet (i := 0) rfl (Want.none rfl) rfl (ltN rfl) (QR.load rfl rfl g41 (Entry.enc_sub _)) ?_
    refine Sq.quiet (i := 1) rfl (Want.none rfl) rfl (ltN rfl) (QR.load rfl rfl g41 (Entry.enc_sub _)) ?_
    refine Sq.quiet (i := 2) rfl (Want.none rfl) rfl (ltN rfl) (QP.neq_agg eq41 rfl rfl rfl).read ?_
    refine J.caseD (fun c72 => ?_) (fun c72 => ?_)
    ·skip
     refine Sq.quiet (i := 3) rfl (Want.none rfl) rfl (ltN rfl) (QP.assign rfl rfl).read ?_
     refine Sq.nil ?_
     refine hk24 _ _ ?_
     refine Run.cond_t rfl ?_
     refine Run.region ?_
     show Sq _ _ _ [0, 1, 2, 3, 4, 5] _ _ _ _
     refine Sq.quiet (i := 0) rfl (Want.none rfl) rfl (ltN rfl) (QP.move rfl rfl).read ?_
     refine Sq.quiet (i := 1) rfl (Want.none rfl) rfl (ltN rfl) (QR.load rfl rfl g41 (Entry.enc_sub _)) ?_
     refine Sq.quiet (i := 2) rfl (Want.none rfl) rfl (ltN rfl) (QP.build (l := Op.enc ⟨(2), (e)⟩) rfl st43 rfl (by exact ⟨rfl, ⟨(congrArg some (Entry.enc_len _).symm), trivial⟩⟩) rfl).read ?_
     refine Sq.eff (i := 3) rfl (Want.none rfl) rfl (ltN rfl) (EF.buildSlice1 rfl Try.underlying82 z43 zero43 (by simp [Value.cells, Op.enc_len]) (by decide) rfl rfl (Op.enc_len _) (by decide)) ?_
     rintro _ _ ⟨b76, rfl, rfl⟩
     refine Sq.eff (i := 4) rfl (Want.none rfl) rfl (ltN rfl) (EF.append1 (xs := (remL Wt LH ++ (LW.take i).filterMap (addO H))) (s := (⟨(2), (e)⟩ : Op)) el43 Op.enc_len Op.enc_cell rfl rfl rfl Try.underlying82 Try.underlying82 rfl rfl (by repeat constructor) (by repeat constructor) (by first | omega | (simp <;> omega))) ?_
     rintro sl77 _ rfl
     refine Sq.quiet (i := 5) rfl (Want.none rfl) rfl (ltN rfl) (QP.assign rfl rfl).read ?_
     refine Sq.nil ?_
     refine hk20 _ _ ?_
     refine Run.region ?_
     show Sq _ _ _ [0, 1] _ _ _ _
     have hao : addO H e = some ⟨2, e⟩ := by unfold addO; rw [c60, if_pos rfl, if_pos c72]
     rw [hao] at hsu
     simp only [Option.toList_some, Option.toList_none, List.append_nil] at hsu
     have hsu2 : (remL Wt LH ++ (LW.take i).filterMap (addO H)) ++ [⟨2, e⟩] = remL Wt LH ++ (LW.take (i + 1)).filterMap (addO H) := by rw [hsu]; rw [List.append_assoc]
     refine J.slEq (v := sl77) (by repeat constructor) hsu2 ?_
     refine Sq.quiet (i := 0) rfl (Want.none rfl) rfl (ltN rfl) (QP.add64 rfl rfl rfl (by first | omega | (simp <;> omega)) (by first | omega | (simp <;> omega))).read ?_
     refine Sq.quiet (i := 1) rfl (Want.none rfl) rfl (ltN rfl) (QP.move rfl rfl).read ?_
     refine Sq.nil ?_
     exact J.envJ (J.keep (.cons (by repeat constructor) (.cons (by repeat constructor) (.cons (by repeat constructor) (.cons (by repeat constructor) Takes.nil)))) (hl17 (i + 1) (sl77) (by omega) (by omega))) ⟨rfl, rfl, rfl, rfl, rfl, trivial⟩
    ·skip
     refine Sq.quiet (i := 3) rfl (Want.none rfl) rfl (ltN rfl) (QP.assign rfl rfl).read ?_
     refine Sq.nil ?_
     refine hk24 _ _ ?_
     refine Run.cond_f rfl ?_
     refine Run.skip ?_
     refine hk20 _ _ ?_
     refine Run.region ?_
     show Sq _ _ _ [0, 1] _ _ _ _
     have hao : addO H e = none := by unfold addO; rw [c60, if_pos rfl, if_neg c72]
     rw [hao] at hsu
     simp only [Option.toList_some, Option.toList_none, List.append_nil] at hsu
     have hsu2 : (remL Wt LH ++ (LW.take i).filterMap (addO H)) = remL Wt LH ++ (LW.take (i + 1)).filterMap (addO H) := by rw [hsu]; skip
     refine J.slEq (v := vo) (by repeat constructor) hsu2 ?_
     refine Sq.quiet (i := 0) rfl (Want.none rfl) rfl (ltN rfl) (QP.add64 rfl rfl rfl (by first | omega | (simp <;> omega)) (by first | omega | (simp <;> omega))).read ?_
     refine Sq.quiet (i := 1) rfl (Want.none rfl) rfl (ltN rfl) (QP.move rfl rfl).read ?_
     refine Sq.nil ?_
     exact J.envJ (J.keep (.cons (by repeat constructor) (.cons (by repeat constructor) (.cons (by repeat constructor) (.cons (by repeat constructor) Takes.nil)))) (hl17 (i + 1) (vo) (by omega) (by omega))) ⟨rfl, rfl, rfl, rfl, rfl, trivial⟩
   ·skip
    refine Dw.eff (i := 10) (by kernel_rfl) (by kernel_rfl) ?_
    refine One.mk (o := _) (l := [6, 5, 3]) rfl (by kernel_rfl) (Want.none rfl) rfl (ltN rfl) (EF.allocA (l := Entry.enc Entry.zero) rfl zero41) (by kernel_rfl) ?_
    rintro _ _ ⟨b9, rfl, rfl⟩
    refine ⟨?_, ?_⟩
    ·rw [List.forall_mem_cons, List.forall_mem_cons, List.forall_mem_cons]
     refine ⟨?_, ?_, ?_, fun _ h => (by cases h)⟩
     ·exact Look.mk rfl rfl rfl (QR.lookup2V key39 rfl rfl rfl Try.underlying74 (z := Entry.zero) zero41)
     ·exact Look.mk rfl rfl rfl (QR.load rfl rfl g39 (Entry.sub_pair _))
     ·exact Look.mk rfl rfl rfl (QR.load1F rfl rfl g74 hf.tb (FibFib.sub_has _))
    refine ?_
    refine Dw.eff (i := 11) (by kernel_rfl) (by kernel_rfl) ?_
    refine One.act (o := _) (l := []) rfl (by kernel_rfl) (Want.none rfl) rfl (EF.storeA rfl rfl rfl z41 (SetL.all (Entry.enc_len _) (Entry.enc_len _)) (Entry.enc_cell _)) (by kernel_rfl) ?_
    rintro _ _ rfl
    refine ⟨fun _ h => (by cases h), ?_⟩
    refine Dw.eff (i := 12) (by kernel_rfl) (by kernel_rfl) ?_
    refine One.mk (o := _) (l := []) rfl (by kernel_rfl) (Want.none rfl) rfl (ltN rfl) ((QP.assign rfl rfl).eff) (by kernel_rfl) ?_
    rintro _ _ ⟨rfl, rfl⟩
    refine ⟨fun _ h => (by cases h), ?_⟩
    refine Dw.nil (by kernel_rfl) ?_
    refine hk22 _ _ ?_
    refine Run.block ?_
    refine Run.seq fun k25 hk25 => ?_
    refine Run.region ?_
    show Sq _ _ _ [0, 1, 2] _ _ _ _
    refine Sq.quiet (i := 0) rfl (Want.none rfl) rfl (ltN rfl) (QP.move rfl rfl).read ?_
    refine Sq.quiet (i := 1) rfl (Want.none rfl) rfl (ltN rfl) (QP.not rfl rfl).read ?_
    refine Sq.quiet (i := 2) rfl (Want.none rfl) rfl (ltN rfl) (QP.assign rfl rfl).read ?_
    refine Sq.nil ?_
    refine hk25 _ _ ?_
    refine Run.cond_t rfl ?_
    refine Run.region ?_
    show Sq _ _ _ [0, 1, 2, 3, 4, 5] _ _ _ _
    refine Sq.quiet (i := 0) rfl (Want.none rfl) rfl (ltN rfl) (QP.move rfl rfl).read ?_
    refine Sq.quiet (i := 1) rfl (Want.none rfl) rfl (ltN rfl) (QR.load rfl rfl g41 (Entry.enc_sub _)) ?_
    refine Sq.quiet (i := 2) rfl (Want.none rfl) rfl (ltN rfl) (QP.build (l := Op.enc ⟨(1), (e)⟩) rfl st43 rfl (by exact ⟨rfl, ⟨(congrArg some (Entry.enc_len _).symm), trivial⟩⟩) rfl).read ?_
    refine Sq.eff (i := 3) rfl (Want.none rfl) rfl (ltN rfl) (EF.buildSlice1 rfl Try.underlying82 z43 zero43 (by simp [Value.cells, Op.enc_len]) (by decide) rfl rfl (Op.enc_len _) (by decide)) ?_
    rintro _ _ ⟨b67, rfl, rfl⟩
    refine Sq.eff (i := 4) rfl (Want.none rfl) rfl (ltN rfl) (EF.append1 (xs := (remL Wt LH ++ (LW.take i).filterMap (addO H))) (s := (⟨(1), (e)⟩ : Op)) el43 Op.enc_len Op.enc_cell rfl rfl rfl Try.underlying82 Try.underlying82 rfl rfl (by repeat constructor) (by repeat constructor) (by first | omega | (simp <;> omega))) ?_
    rintro sl68 _ rfl
    refine Sq.quiet (i := 5) rfl (Want.none rfl) rfl (ltN rfl) (QP.assign rfl rfl).read ?_
    refine Sq.nil ?_
    refine hk20 _ _ ?_
    refine Run.region ?_
    show Sq _ _ _ [0, 1] _ _ _ _
    have hao : addO H e = some ⟨1, e⟩ := by unfold addO; rw [c60]; rfl
    rw [hao] at hsu
    simp only [Option.toList_some, Option.toList_none, List.append_nil] at hsu
    have hsu2 : (remL Wt LH ++ (LW.take i).filterMap (addO H)) ++ [⟨1, e⟩] = remL Wt LH ++ (LW.take (i + 1)).filterMap (addO H) := by rw [hsu]; rw [List.append_assoc]
    refine J.slEq (v := sl68) (by repeat constructor) hsu2 ?_
    refine Sq.quiet (i := 0) rfl (Want.none rfl) rfl (ltN rfl) (QP.add64 rfl rfl rfl (by first | omega | (simp <;> omega)) (by first | omega | (simp <;> omega))).read ?_
    refine Sq.quiet (i := 1) rfl (Want.none rfl) rfl (ltN rfl) (QP.move rfl rfl).read ?_
    refine Sq.nil ?_
    exact J.envJ (J.keep (.cons (by repeat constructor) (.cons (by repeat constructor) (.cons (by repeat constructor) (.cons (by repeat constructor) Takes.nil)))) (hl17 (i + 1) (sl68) (by omega) (by omega))) ⟨rfl, rfl, rfl, rfl, rfl, trivial⟩
  ·skip
   refine Sq.nil ?_
   refine hk18 _ _ ?_
   refine Run.seq fun k26 hk26 => ?_
   refine Run.cond_f rfl ?_
   refine Run.exit rfl ?_
   refine hk15 _ _ ?_
   refine Run.seq fun k27 hk27 => ?_
   refine Run.region ?_
   show Sq _ _ _ [0, 1] _ _ _ _
   refine Sq.quiet (i := 0) rfl (Want.none rfl) rfl (ltN rfl) (QP.move rfl rfl).read ?_
   refine Sq.quiet (i := 1) rfl (Want.none rfl) rfl (ltN rfl) (QP.assign rfl rfl).read ?_
   refine Sq.nil ?_
   refine hk27 _ _ ?_
   refine Run.ret ?_
   have hty2 : LW.take i = LW := List.take_of_length_le (by omega)
   rw [hty2]
   exact J.ends (res_tmp rfl rfl) (.cons (by repeat constructor) (.cons (by repeat constructor) (.cons (by repeat constructor) Takes.nil))) rfl

theorem todo_nil (F : Fr)  : Spec Try.prog 45 #[.pointer none] [] F (fun v S => v = .slice none 0 0 ∧ S = []) := by
 refine Spec.intro (N := 80) (args := [.pointer none]) Try.func45 rfl rfl (by simp) ?_
 refine Run.seq fun k1 hk1 => ?_
 refine Run.region ?_
 show Sq _ _ _ [0] _ _ _ _
 refine Sq.quiet (i := 0) rfl (Want.none rfl) rfl (ltN rfl) (QP.assign rfl rfl).read ?_
 refine Sq.nil ?_
 refine hk1 _ _ ?_
 refine Run.seq fun k2 hk2 => ?_
 refine Run.seq fun k3 hk3 => ?_
 refine Run.region ?_
 show Sq _ _ _ [0, 1] _ _ _ _
 refine Sq.quiet (i := 0) rfl (Want.none rfl) rfl (ltN rfl) (QP.move rfl rfl).read ?_
 refine Sq.quiet (i := 1) rfl (Want.none rfl) rfl (ltN rfl) (QP.ptr_eq_nil rfl rfl rfl Try.underlying30).read ?_
 refine Sq.nil ?_
 refine hk3 _ _ ?_
 refine Run.cond_t rfl ?_
 refine Run.seq fun k4 hk4 => ?_
 refine Run.region ?_
 show Sq _ _ _ [0] _ _ _ _
 refine Sq.quiet (i := 0) rfl (Want.none rfl) rfl (ltN rfl) (QP.assign rfl rfl).read ?_
 refine Sq.nil ?_
 refine hk4 _ _ ?_
 refine Run.ret ?_
 exact J.ends (res_tmp rfl rfl) Takes.nil ⟨rfl, rfl⟩

theorem has_spec (F : Fr) {b r1 r2 r3 : Nat} {w : Option Addr} (hf : InX F b r1 r2 r3 w) {M : TabE} (hm : M.length ≤ 1000000) {L : List Entry} (ho : OrdE M L) : Spec Try.prog 27 #[.pointer (some ⟨b, 0, none⟩)] [mapE r1 M] F (fun v S => S = [mapE r1 M, slA 41 51 Entry.enc v L]) := by
 refine Spec.intro (N := 10) (args := [.pointer (some ⟨b, 0, none⟩)]) Try.func27 rfl rfl (by simp) ?_
 refine Run.seq fun k1 hk1 => ?_
 refine Run.region ?_
 show Sq _ _ _ [0] _ _ _ _
 refine Sq.quiet (i := 0) rfl (Want.none rfl) rfl (ltN rfl) (QP.assign rfl rfl).read ?_
 refine Sq.nil ?_
 refine hk1 _ _ ?_
 refine Run.seq fun k2 hk2 => ?_
 refine Run.seq fun k3 hk3 => ?_
 refine Run.region ?_
 show Sq _ _ _ [0, 1] _ _ _ _
 refine Sq.quiet (i := 0) rfl (Want.none rfl) rfl (ltN rfl) (QP.move rfl rfl).read ?_
 refine Sq.quiet (i := 1) rfl (Want.none rfl) rfl (ltN rfl) (QP.ptr_eq_nil rfl rfl rfl Try.underlying30).read ?_
 refine Sq.nil ?_
 refine hk3 _ _ ?_
 refine Run.cond_f rfl ?_
 refine Run.skip ?_
 refine hk2 _ _ ?_
 refine Run.seq fun k4 hk4 => ?_
 refine Run.region ?_
 show Sq _ _ _ [0, 1, 2, 3, 4, 5] _ _ _ _
 refine Sq.quiet (i := 0) rfl (Want.none rfl) rfl (ltN rfl) (QP.move rfl rfl).read ?_
 refine Sq.quiet (i := 1) rfl (Want.none rfl) rfl (ltN rfl) (QP.nilCheck rfl rfl).read ?_
 refine Sq.quiet (i := 2) rfl (Want.none rfl) rfl (ltN rfl) (QP.fieldAddr rfl rfl f81_0).read ?_
 refine Sq.quiet (i := 3) rfl (Want.none rfl) rfl (ltN rfl) (QR.load1F rfl rfl g74 hf.tb (FibFib.sub_has _)) ?_
 refine Sq.eff (i := 4) rfl (Want.none rfl) rfl (ltN rfl) (EF.call rfl ce39 rfl (.cons (by repeat constructor) Takes.nil) (fun F' hle hr => list_spec F' hm ho)) ?_
 rintro v9 _ ⟨_, rfl, rfl⟩
 refine J.app ?_
 refine Sq.quiet (i := 5) rfl (Want.none rfl) rfl (ltN rfl) (QP.assign rfl rfl).read ?_
 refine Sq.nil ?_
 refine hk4 _ _ ?_
 refine Run.ret ?_
 exact J.ends (res_tmp rfl rfl) (.cons (by repeat constructor) (.cons (by repeat constructor) Takes.nil)) rfl

theorem has_nil (F : Fr)  : Spec Try.prog 27 #[.pointer none] [] F (fun v S => v = .slice none 0 0 ∧ S = []) := by
 refine Spec.intro (N := 10) (args := [.pointer none]) Try.func27 rfl rfl (by simp) ?_
 refine Run.seq fun k1 hk1 => ?_
 refine Run.region ?_
 show Sq _ _ _ [0] _ _ _ _
 refine Sq.quiet (i := 0) rfl (Want.none rfl) rfl (ltN rfl) (QP.assign rfl rfl).read ?_
 refine Sq.nil ?_
 refine hk1 _ _ ?_
 refine Run.seq fun k2 hk2 => ?_
 refine Run.seq fun k3 hk3 => ?_
 refine Run.region ?_
 show Sq _ _ _ [0, 1] _ _ _ _
 refine Sq.quiet (i := 0) rfl (Want.none rfl) rfl (ltN rfl) (QP.move rfl rfl).read ?_
 refine Sq.quiet (i := 1) rfl (Want.none rfl) rfl (ltN rfl) (QP.ptr_eq_nil rfl rfl rfl Try.underlying30).read ?_
 refine Sq.nil ?_
 refine hk3 _ _ ?_
 refine Run.cond_t rfl ?_
 refine Run.seq fun k4 hk4 => ?_
 refine Run.region ?_
 show Sq _ _ _ [0] _ _ _ _
 refine Sq.quiet (i := 0) rfl (Want.none rfl) rfl (ltN rfl) (QP.assign rfl rfl).read ?_
 refine Sq.nil ?_
 refine hk4 _ _ ?_
 refine Run.ret ?_
 exact J.ends (res_tmp rfl rfl) Takes.nil ⟨rfl, rfl⟩

theorem wanted_spec (F : Fr) {b r1 r2 r3 : Nat} {w : Option Addr} (hf : InX F b r1 r2 r3 w) {M : TabE} (hm : M.length ≤ 1000000) {L : List Entry} (ho : OrdE M L) : Spec Try.prog 28 #[.pointer (some ⟨b, 0, none⟩)] [mapE r2 M] F (fun v S => S = [mapE r2 M, slA 41 51 Entry.enc v L]) := by
 refine Spec.intro (N := 10) (args := [.pointer (some ⟨b, 0, none⟩)]) Try.func28 rfl rfl (by simp) ?_
 refine Run.seq fun k1 hk1 => ?_
 refine Run.region ?_
 show Sq _ _ _ [0] _ _ _ _
 refine Sq.quiet (i := 0) rfl (Want.none rfl) rfl (ltN rfl) (QP.assign rfl rfl).read ?_
 refine Sq.nil ?_
 refine hk1 _ _ ?_
 refine Run.seq fun k2 hk2 => ?_
 refine Run.seq fun k3 hk3 => ?_
 refine Run.region ?_
 show Sq _ _ _ [0, 1] _ _ _ _
 refine Sq.quiet (i := 0) rfl (Want.none rfl) rfl (ltN rfl) (QP.move rfl rfl).read ?_
 refine Sq.quiet (i := 1) rfl (Want.none rfl) rfl (ltN rfl) (QP.ptr_eq_nil rfl rfl rfl Try.underlying30).read ?_
 refine Sq.nil ?_
 refine hk3 _ _ ?_
 refine Run.cond_f rfl ?_
 refine Run.skip ?_
 refine hk2 _ _ ?_
 refine Run.seq fun k4 hk4 => ?_
 refine Run.region ?_
 show Sq _ _ _ [0, 1, 2, 3, 4, 5] _ _ _ _
 refine Sq.quiet (i := 0) rfl (Want.none rfl) rfl (ltN rfl) (QP.move rfl rfl).read ?_
 refine Sq.quiet (i := 1) rfl (Want.none rfl) rfl (ltN rfl) (QP.nilCheck rfl rfl).read ?_
 refine Sq.quiet (i := 2) rfl (Want.none rfl) rfl (ltN rfl) (QP.fieldAddr rfl rfl f81_1).read ?_
 refine Sq.quiet (i := 3) rfl (Want.none rfl) rfl (ltN rfl) (QR.load1F rfl rfl g74 hf.tb (FibFib.sub_want _)) ?_
 refine Sq.eff (i := 4) rfl (Want.none rfl) rfl (ltN rfl) (EF.call rfl ce39 rfl (.cons (by repeat constructor) Takes.nil) (fun F' hle hr => list_spec F' hm ho)) ?_
 rintro v9 _ ⟨_, rfl, rfl⟩
 refine J.app ?_
 refine Sq.quiet (i := 5) rfl (Want.none rfl) rfl (ltN rfl) (QP.assign rfl rfl).read ?_
 refine Sq.nil ?_
 refine hk4 _ _ ?_
 refine Run.ret ?_
 exact J.ends (res_tmp rfl rfl) (.cons (by repeat constructor) (.cons (by repeat constructor) Takes.nil)) rfl

theorem wanted_nil (F : Fr)  : Spec Try.prog 28 #[.pointer none] [] F (fun v S => v = .slice none 0 0 ∧ S = []) := by
 refine Spec.intro (N := 10) (args := [.pointer none]) Try.func28 rfl rfl (by simp) ?_
 refine Run.seq fun k1 hk1 => ?_
 refine Run.region ?_
 show Sq _ _ _ [0] _ _ _ _
 refine Sq.quiet (i := 0) rfl (Want.none rfl) rfl (ltN rfl) (QP.assign rfl rfl).read ?_
 refine Sq.nil ?_
 refine hk1 _ _ ?_
 refine Run.seq fun k2 hk2 => ?_
 refine Run.seq fun k3 hk3 => ?_
 refine Run.region ?_
 show Sq _ _ _ [0, 1] _ _ _ _
 refine Sq.quiet (i := 0) rfl (Want.none rfl) rfl (ltN rfl) (QP.move rfl rfl).read ?_
 refine Sq.quiet (i := 1) rfl (Want.none rfl) rfl (ltN rfl) (QP.ptr_eq_nil rfl rfl rfl Try.underlying30).read ?_
 refine Sq.nil ?_
 refine hk3 _ _ ?_
 refine Run.cond_t rfl ?_
 refine Run.seq fun k4 hk4 => ?_
 refine Run.region ?_
 show Sq _ _ _ [0] _ _ _ _
 refine Sq.quiet (i := 0) rfl (Want.none rfl) rfl (ltN rfl) (QP.assign rfl rfl).read ?_
 refine Sq.nil ?_
 refine hk4 _ _ ?_
 refine Run.ret ?_
 exact J.ends (res_tmp rfl rfl) Takes.nil ⟨rfl, rfl⟩
end Slb
