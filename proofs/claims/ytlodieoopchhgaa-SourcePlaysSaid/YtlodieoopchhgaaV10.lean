/- V10: a part of the proof that a law of this package holds for every input; no condition. -/
import Derived.Test.YtlodieoopchhgaaV9
import Derived.Test.YtlodieoopchhgaaB19
namespace Slb
open Go Go.Proofs
set_option maxRecDepth 20000
/-- When the first is due. -/
def NextIs (L : List Source) (n : Int) (ok : Bool) : Prop := (L = [] ∧ n = 0 ∧ ok = false) ∨ (ok = true ∧ (∃ x ∈ L, x.at_ + 180000 = n) ∧ ∀ x ∈ L, n ≤ x.at_ + 180000)
theorem NextIs.uniq {L : List Source} {n m : Int} {a b : Bool} (h : NextIs L n a) (k : NextIs L m b) : n = m ∧ a = b := by
  rcases h with ⟨rfl, rfl, rfl⟩ | ⟨rfl, ⟨x, hx, rfl⟩, hl⟩
  · rcases k with ⟨_, rfl, rfl⟩ | ⟨_, ⟨x, hx, _⟩, _⟩
    · exact ⟨rfl, rfl⟩
    · cases hx
  · rcases k with ⟨rfl, _, _⟩ | ⟨rfl, ⟨y, hy, rfl⟩, kl⟩
    · cases hx
    · have := hl y hy
      have := kl x hx
      exact ⟨by omega, rfl⟩
theorem NextIs.less {L : List Source} {i : Nat} {x : Source} {n : Int} {ok : Bool} (h : NextIs (L.take i) n ok) (hi : L[i]? = some x) (hx : ok = false ∨ x.at_ + 180000 < n) : NextIs (L.take (i + 1)) (x.at_ + 180000) true := by
  rw [List.take_add_one, hi]
  refine .inr ⟨rfl, ⟨x, by simp, rfl⟩, fun y hy => ?_⟩
  rcases List.mem_append.1 hy with hy | hy
  · rcases h with ⟨h1, _, _⟩ | ⟨rfl, _, hl⟩
    · rw [h1] at hy; cases hy
    · have := hl y hy
      rcases hx with hx | hx
      · cases hx
      · omega
  · simp at hy; subst hy; exact Int.le_refl _
theorem NextIs.keep {L : List Source} {i : Nat} {x : Source} {n : Int} (h : NextIs (L.take i) n true) (hi : L[i]? = some x) (hx : ¬ x.at_ + 180000 < n) : NextIs (L.take (i + 1)) n true := by
  rcases h with ⟨_, _, h⟩ | ⟨_, ⟨y, hy, hn⟩, hl⟩
  · cases h
  · rw [List.take_add_one, hi]
    refine .inr ⟨rfl, ⟨y, List.mem_append_left _ hy, hn⟩, fun z hz => ?_⟩
    rcases List.mem_append.1 hz with hz | hz
    · exact hl z hz
    · simp at hz; subst hz; omega

theorem rnext_spec (F : Fr) {b : Nat} {most : Int} {a : Option Addr} {c : Nat} {L : List Source} (hh : SlH a c L) (hL : L.length ≤ 1000000) (hT : ∀ x ∈ L, 0 ≤ x.at_ ∧ x.at_ ≤ 2305843009213693952) : Spec Try.prog 24 #[.pointer (some ⟨b, 0, none⟩)] [blk b (Ref15Table.enc ⟨most, ⟨a, L.length, c⟩⟩) 56, slA 45 45 Source.enc (.slice a L.length c) L] F (fun v S => S = [blk b (Ref15Table.enc ⟨most, ⟨a, L.length, c⟩⟩) 56, slA 45 45 Source.enc (.slice a L.length c) L] ∧ ∃ n ok, v = .tuple #[.int .i64 n, .bool ok] ∧ NextIs L n ok) := by
  refine Spec.intro (N := 42) (args := [.pointer (some ⟨b, 0, none⟩)]) Try.func24 rfl rfl (by simp) ?_
  refine Run.seq fun k1 hk1 => ?_
  refine Run.region ?_
  show Sq _ _ _ [0, 1] _ _ _ _
  refine Sq.quiet (i := 0) rfl (Want.none rfl) rfl (ltN rfl) (QP.assign rfl rfl).read ?_
  refine Sq.quiet (i := 1) rfl (Want.none rfl) rfl (ltN rfl) (QP.assign rfl rfl).read ?_
  refine Sq.nil ?_
  refine hk1 _ _ ?_
  refine Run.seq fun k2 hk2 => ?_
  refine Run.region ?_
  show Sq _ _ _ [0, 1] _ _ _ _
  refine Sq.quiet (i := 0) rfl (Want.none rfl) rfl (ltN rfl) (QP.assign rfl rfl).read ?_
  refine Sq.quiet (i := 1) rfl (Want.none rfl) rfl (ltN rfl) (QP.assign rfl rfl).read ?_
  refine Sq.nil ?_
  refine hk2 _ _ ?_
  refine Run.seq fun k3 hk3 => ?_
  refine Run.seq fun k4 hk4 => ?_
  refine Run.region ?_
  show Sq _ _ _ [0] _ _ _ _
  refine Sq.quiet (i := 0) rfl (Want.none rfl) rfl (ltN rfl) (QP.assign rfl rfl).read ?_
  refine Sq.nil ?_
  refine hk4 _ _ ?_
  refine Run.block ?_
  refine Run.loop3 (fun (i : Nat) (n : Int) (ok : Bool) => i ≤ L.length ∧ NextIs (L.take i) n ok) (fun i n ok => .cons 0 (.pointer (some ⟨b, 0, none⟩)) (.cons 4 (.int .i64 n) (.cons 5 (.bool ok) (.cons 6 (.int .i64 i) (.nil))))) (fun i n ok => [blk b (Ref15Table.enc ⟨most, ⟨a, L.length, c⟩⟩) 56, slA 45 45 Source.enc (.slice a L.length c) L]) (fun i n ok => L.length - i) (0) (0) (false) (⟨Nat.zero_le _, .inl ⟨by simp, rfl, rfl⟩⟩) ?_ ?_
  · exact fun _ j => J.envJ (J.keep (.cons (by repeat (first | exact Pick.head | apply Pick.tail)) (.cons (by repeat (first | exact Pick.head | apply Pick.tail)) Takes.nil)) j) ⟨rfl, rfl, rfl, rfl, trivial⟩
  rintro i n ok ⟨hile, hnx⟩ kl5 hl5
  refine Run.seq fun k6 hk6 => ?_
  refine Run.seq fun k7 hk7 => ?_
  refine Run.region ?_
  show Sq _ _ _ [0, 1, 2, 3, 4, 5, 6] _ _ _ _
  refine Sq.quiet (i := 0) rfl (Want.none rfl) rfl (ltN rfl) (QP.move rfl rfl).read ?_
  refine Sq.quiet (i := 1) rfl (Want.none rfl) rfl (ltN rfl) (QP.move rfl rfl).read ?_
  refine Sq.quiet (i := 2) rfl (Want.none rfl) rfl (ltN rfl) (QP.nilCheck rfl rfl).read ?_
  refine Sq.quiet (i := 3) rfl (Want.none rfl) rfl (ltN rfl) (QP.fieldAddr rfl rfl f56_1).read ?_
  refine Sq.quiet (i := 4) rfl (Want.none rfl) rfl (ltN rfl) (QR.load1 (v := .slice _ L.length _) rfl rfl g42 (Ref15Table.sub_l _)) ?_
  refine Sq.quiet (i := 5) rfl (Want.none rfl) rfl (ltN rfl) (QP.len rfl rfl rfl Try.underlying42).read ?_
  refine Sq.quiet (i := 6) rfl (Want.none rfl) rfl (ltN rfl) (QP.lss rfl rfl rfl).read ?_
  refine J.caseD (fun c13 => ?_) (fun c13 => ?_)
  · skip
    refine Sq.nil ?_
    refine hk7 _ _ ?_
    refine Run.cond_t rfl ?_
    refine Run.skip ?_
    refine hk6 _ _ ?_
    refine Run.seq fun k8 hk8 => ?_
    refine Run.block ?_
    refine Run.seq fun k9 hk9 => ?_
    refine Run.region ?_
    show Sq _ _ _ [0, 1, 2, 3, 4, 5, 6, 7, 8, 9, 10, 11, 12, 13, 14] _ _ _ _
    have hlt : i < L.length := by omega
    obtain ⟨x, hi⟩ : ∃ x, L[i]? = some x := ⟨_, List.getElem?_eq_getElem hlt⟩
    obtain ⟨b0, o0, rfl⟩ := hh.get (by omega)
    have hat := hT x (List.mem_of_getElem? hi)
    refine Sq.quiet (i := 0) rfl (Want.none rfl) rfl (ltN rfl) (QP.move rfl rfl).read ?_
    refine J.caseB (fun c16 => ?_) (fun c16 => ?_)
    · skip
      refine Sq.quiet (i := 1) rfl (Want.none rfl) rfl (ltN rfl) (QP.not rfl rfl).read ?_
      refine Sq.quiet (i := 2) rfl (Want.none rfl) rfl (ltN rfl) (QP.move rfl rfl).read ?_
      refine Sq.quiet (i := 3) rfl (Want.yes rfl rfl rfl rfl) rfl (ltN rfl) (QP.move rfl rfl).read ?_
      refine Sq.quiet (i := 4) rfl (Want.yes rfl rfl rfl rfl) rfl (ltN rfl) (QP.nilCheck rfl rfl).read ?_
      refine Sq.quiet (i := 5) rfl (Want.yes rfl rfl rfl rfl) rfl (ltN rfl) (QP.fieldAddr rfl rfl f56_1).read ?_
      refine Sq.quiet (i := 6) rfl (Want.yes rfl rfl rfl rfl) rfl (ltN rfl) (QR.load1 (v := .slice _ L.length _) rfl rfl g42 (Ref15Table.sub_l _)) ?_
      refine Sq.quiet (i := 7) rfl (Want.yes rfl rfl rfl rfl) rfl (ltN rfl) (QP.move rfl rfl).read ?_
      refine Sq.quiet (i := 8) rfl (Want.yes rfl rfl rfl rfl) rfl (ltN rfl) (QP.indexAddr rfl rfl rfl Try.underlying42 z45 (by first | omega | (simp <;> omega)) (by first | omega | (simp <;> omega))).read ?_
      refine Sq.quiet (i := 9) rfl (Want.yes rfl rfl rfl rfl) rfl (ltN rfl) (QP.fieldAddr rfl rfl f45_3).read ?_
      refine Sq.quiet (i := 10) rfl (Want.yes rfl rfl rfl rfl) rfl (ltN rfl) (QR.loadSlF1 rfl rfl g3 Source.enc_len (SlAt.own Source.enc_len (by repeat (first | exact List.Mem.head _ | apply List.Mem.tail))) hi (Source.sub_at_ _)) ?_
      refine Sq.quiet (i := 11) rfl (Want.yes rfl rfl rfl rfl) rfl (ltN rfl) (QP.add64 rfl rfl rfl (by first | omega | (simp <;> omega)) (by first | omega | (simp <;> omega))).read ?_
      refine Sq.quiet (i := 12) rfl (Want.yes rfl rfl rfl rfl) rfl (ltN rfl) (QP.move rfl rfl).read ?_
      refine Sq.quiet (i := 13) rfl (Want.yes rfl rfl rfl rfl) rfl (ltN rfl) (QP.lss rfl rfl rfl).read ?_
      refine J.caseD (fun c29 => ?_) (fun c29 => ?_)
      · skip
        refine Sq.quiet (i := 14) rfl (Want.none rfl) rfl (ltN rfl) (QP.pick_f rfl rfl rfl).read ?_
        refine Sq.nil ?_
        refine hk9 _ _ ?_
        refine Run.cond_t rfl ?_
        refine Run.region ?_
        show Sq _ _ _ [0, 1, 2, 3, 4, 5, 6, 7, 8, 9, 10] _ _ _ _
        refine Sq.quiet (i := 0) rfl (Want.none rfl) rfl (ltN rfl) (QP.move rfl rfl).read ?_
        refine Sq.quiet (i := 1) rfl (Want.none rfl) rfl (ltN rfl) (QP.nilCheck rfl rfl).read ?_
        refine Sq.quiet (i := 2) rfl (Want.none rfl) rfl (ltN rfl) (QP.fieldAddr rfl rfl f56_1).read ?_
        refine Sq.quiet (i := 3) rfl (Want.none rfl) rfl (ltN rfl) (QR.load1 (v := .slice _ L.length _) rfl rfl g42 (Ref15Table.sub_l _)) ?_
        refine Sq.quiet (i := 4) rfl (Want.none rfl) rfl (ltN rfl) (QP.move rfl rfl).read ?_
        refine Sq.quiet (i := 5) rfl (Want.none rfl) rfl (ltN rfl) (QP.indexAddr rfl rfl rfl Try.underlying42 z45 (by first | omega | (simp <;> omega)) (by first | omega | (simp <;> omega))).read ?_
        refine Sq.quiet (i := 6) rfl (Want.none rfl) rfl (ltN rfl) (QP.fieldAddr rfl rfl f45_3).read ?_
        refine Sq.quiet (i := 7) rfl (Want.none rfl) rfl (ltN rfl) (QR.loadSlF1 rfl rfl g3 Source.enc_len (SlAt.own Source.enc_len (by repeat (first | exact List.Mem.head _ | apply List.Mem.tail))) hi (Source.sub_at_ _)) ?_
        refine Sq.quiet (i := 8) rfl (Want.none rfl) rfl (ltN rfl) (QP.add64 rfl rfl rfl (by first | omega | (simp <;> omega)) (by first | omega | (simp <;> omega))).read ?_
        refine Sq.quiet (i := 9) rfl (Want.none rfl) rfl (ltN rfl) (QP.assign rfl rfl).read ?_
        refine Sq.quiet (i := 10) rfl (Want.none rfl) rfl (ltN rfl) (QP.assign rfl rfl).read ?_
        refine Sq.nil ?_
        refine hk8 _ _ ?_
        refine Run.region ?_
        show Sq _ _ _ [0, 1, 2] _ _ _ _
        refine Sq.quiet (i := 0) rfl (Want.none rfl) rfl (ltN rfl) (QP.move rfl rfl).read ?_
        refine Sq.quiet (i := 1) rfl (Want.none rfl) rfl (ltN rfl) (QP.add64 rfl rfl rfl (by first | omega | (simp <;> omega)) (by first | omega | (simp <;> omega))).read ?_
        refine Sq.quiet (i := 2) rfl (Want.none rfl) rfl (ltN rfl) (QP.assign rfl rfl).read ?_
        refine Sq.nil ?_
        exact J.envJ (J.keep (.cons (by repeat (first | exact Pick.head | apply Pick.tail)) (.cons (by repeat (first | exact Pick.head | apply Pick.tail)) Takes.nil)) (hl5 (i + 1) (x.at_ + 180000) (true) (⟨by omega, hnx.less hi (.inr c29)⟩) (by omega))) ⟨rfl, rfl, rfl, rfl, trivial⟩
      · skip
        refine Sq.quiet (i := 14) rfl (Want.none rfl) rfl (ltN rfl) (QP.pick_f rfl rfl rfl).read ?_
        refine Sq.nil ?_
        refine hk9 _ _ ?_
        refine Run.cond_f rfl ?_
        refine Run.skip ?_
        refine hk8 _ _ ?_
        refine Run.region ?_
        show Sq _ _ _ [0, 1, 2] _ _ _ _
        refine Sq.quiet (i := 0) rfl (Want.none rfl) rfl (ltN rfl) (QP.move rfl rfl).read ?_
        refine Sq.quiet (i := 1) rfl (Want.none rfl) rfl (ltN rfl) (QP.add64 rfl rfl rfl (by first | omega | (simp <;> omega)) (by first | omega | (simp <;> omega))).read ?_
        refine Sq.quiet (i := 2) rfl (Want.none rfl) rfl (ltN rfl) (QP.assign rfl rfl).read ?_
        refine Sq.nil ?_
        exact J.envJ (J.keep (.cons (by repeat (first | exact Pick.head | apply Pick.tail)) (.cons (by repeat (first | exact Pick.head | apply Pick.tail)) Takes.nil)) (hl5 (i + 1) (n) (ok) (⟨by omega, by rw [c16] at hnx ⊢; exact hnx.keep hi c29⟩) (by omega))) ⟨rfl, rfl, rfl, rfl, trivial⟩
    · skip
      refine Sq.quiet (i := 1) rfl (Want.none rfl) rfl (ltN rfl) (QP.not rfl rfl).read ?_
      refine Sq.quiet (i := 2) rfl (Want.none rfl) rfl (ltN rfl) (QP.move rfl rfl).read ?_
      refine Sq.skip (i := 3) rfl (Want.no rfl rfl rfl rfl) rfl (ltN rfl) ?_
      refine Sq.skip (i := 4) rfl (Want.no rfl rfl rfl rfl) rfl (ltN rfl) ?_
      refine Sq.skip (i := 5) rfl (Want.no rfl rfl rfl rfl) rfl (ltN rfl) ?_
      refine Sq.skip (i := 6) rfl (Want.no rfl rfl rfl rfl) rfl (ltN rfl) ?_
      refine Sq.skip (i := 7) rfl (Want.no rfl rfl rfl rfl) rfl (ltN rfl) ?_
      refine Sq.skip (i := 8) rfl (Want.no rfl rfl rfl rfl) rfl (ltN rfl) ?_
      refine Sq.skip (i := 9) rfl (Want.no rfl rfl rfl rfl) rfl (ltN rfl) ?_
      refine Sq.skip (i := 10) rfl (Want.no rfl rfl rfl rfl) rfl (ltN rfl) ?_
      refine Sq.skip (i := 11) rfl (Want.no rfl rfl rfl rfl) rfl (ltN rfl) ?_
      refine Sq.skip (i := 12) rfl (Want.no rfl rfl rfl rfl) rfl (ltN rfl) ?_
      refine Sq.skip (i := 13) rfl (Want.no rfl rfl rfl rfl) rfl (ltN rfl) ?_
      refine Sq.quiet (i := 14) rfl (Want.none rfl) rfl (ltN rfl) (QP.pick_t rfl rfl rfl).read ?_
      refine Sq.nil ?_
      refine hk9 _ _ ?_
      refine Run.cond_t rfl ?_
      refine Run.region ?_
      show Sq _ _ _ [0, 1, 2, 3, 4, 5, 6, 7, 8, 9, 10] _ _ _ _
      refine Sq.quiet (i := 0) rfl (Want.none rfl) rfl (ltN rfl) (QP.move rfl rfl).read ?_
      refine Sq.quiet (i := 1) rfl (Want.none rfl) rfl (ltN rfl) (QP.nilCheck rfl rfl).read ?_
      refine Sq.quiet (i := 2) rfl (Want.none rfl) rfl (ltN rfl) (QP.fieldAddr rfl rfl f56_1).read ?_
      refine Sq.quiet (i := 3) rfl (Want.none rfl) rfl (ltN rfl) (QR.load1 (v := .slice _ L.length _) rfl rfl g42 (Ref15Table.sub_l _)) ?_
      refine Sq.quiet (i := 4) rfl (Want.none rfl) rfl (ltN rfl) (QP.move rfl rfl).read ?_
      refine Sq.quiet (i := 5) rfl (Want.none rfl) rfl (ltN rfl) (QP.indexAddr rfl rfl rfl Try.underlying42 z45 (by first | omega | (simp <;> omega)) (by first | omega | (simp <;> omega))).read ?_
      refine Sq.quiet (i := 6) rfl (Want.none rfl) rfl (ltN rfl) (QP.fieldAddr rfl rfl f45_3).read ?_
      refine Sq.quiet (i := 7) rfl (Want.none rfl) rfl (ltN rfl) (QR.loadSlF1 rfl rfl g3 Source.enc_len (SlAt.own Source.enc_len (by repeat (first | exact List.Mem.head _ | apply List.Mem.tail))) hi (Source.sub_at_ _)) ?_
      refine Sq.quiet (i := 8) rfl (Want.none rfl) rfl (ltN rfl) (QP.add64 rfl rfl rfl (by first | omega | (simp <;> omega)) (by first | omega | (simp <;> omega))).read ?_
      refine Sq.quiet (i := 9) rfl (Want.none rfl) rfl (ltN rfl) (QP.assign rfl rfl).read ?_
      refine Sq.quiet (i := 10) rfl (Want.none rfl) rfl (ltN rfl) (QP.assign rfl rfl).read ?_
      refine Sq.nil ?_
      refine hk8 _ _ ?_
      refine Run.region ?_
      show Sq _ _ _ [0, 1, 2] _ _ _ _
      refine Sq.quiet (i := 0) rfl (Want.none rfl) rfl (ltN rfl) (QP.move rfl rfl).read ?_
      refine Sq.quiet (i := 1) rfl (Want.none rfl) rfl (ltN rfl) (QP.add64 rfl rfl rfl (by first | omega | (simp <;> omega)) (by first | omega | (simp <;> omega))).read ?_
      refine Sq.quiet (i := 2) rfl (Want.none rfl) rfl (ltN rfl) (QP.assign rfl rfl).read ?_
      refine Sq.nil ?_
      exact J.envJ (J.keep (.cons (by repeat (first | exact Pick.head | apply Pick.tail)) (.cons (by repeat (first | exact Pick.head | apply Pick.tail)) Takes.nil)) (hl5 (i + 1) (x.at_ + 180000) (true) (⟨by omega, hnx.less hi (.inl c16)⟩) (by omega))) ⟨rfl, rfl, rfl, rfl, trivial⟩
  · skip
    refine Sq.nil ?_
    refine hk7 _ _ ?_
    refine Run.cond_f rfl ?_
    refine Run.exit rfl ?_
    refine hk3 _ _ ?_
    refine Run.seq fun k10 hk10 => ?_
    refine Run.region ?_
    show Sq _ _ _ [0, 1, 2, 3] _ _ _ _
    refine Sq.quiet (i := 0) rfl (Want.none rfl) rfl (ltN rfl) (QP.move rfl rfl).read ?_
    refine Sq.quiet (i := 1) rfl (Want.none rfl) rfl (ltN rfl) (QP.move rfl rfl).read ?_
    refine Sq.quiet (i := 2) rfl (Want.none rfl) rfl (ltN rfl) (QP.assign rfl rfl).read ?_
    refine Sq.quiet (i := 3) rfl (Want.none rfl) rfl (ltN rfl) (QP.assign rfl rfl).read ?_
    refine Sq.nil ?_
    refine hk10 _ _ ?_
    refine Run.ret ?_
    exact J.ends (res_tmp2 rfl rfl rfl) (.cons (by repeat (first | exact Pick.head | apply Pick.tail)) (.cons (by repeat (first | exact Pick.head | apply Pick.tail)) Takes.nil)) ⟨rfl, _, _, rfl, by rw [List.take_of_length_le (by omega)] at hnx; exact hnx⟩

theorem same_spec (F : Fr) {a a2 : Option Addr} {c c2 : Nat} {xs ys : List Source} (h1 : SlH a c xs) (h2 : SlH a2 c2 ys) (hl1 : xs.length ≤ 1000000) (hl2 : ys.length ≤ 1000000)  : Spec Try.prog 19 #[.slice a xs.length c, .slice a2 ys.length c2] [slA 45 45 Source.enc (.slice a xs.length c) xs, slA 45 45 Source.enc (.slice a2 ys.length c2) ys] F (fun v S => v = .bool (decide (xs = ys)) ∧ S = [slA 45 45 Source.enc (.slice a xs.length c) xs, slA 45 45 Source.enc (.slice a2 ys.length c2) ys]) := by
  refine Spec.intro (N := 26) (args := [.slice a xs.length c, .slice a2 ys.length c2]) Try.func19 rfl rfl (by simp) ?_
  refine Run.seq fun k1 hk1 => ?_
  refine Run.region ?_
  show Sq _ _ _ [0] _ _ _ _
  refine Sq.quiet (i := 0) rfl (Want.none rfl) rfl (ltN rfl) (QP.assign rfl rfl).read ?_
  refine Sq.nil ?_
  refine hk1 _ _ ?_
  refine Run.seq fun k2 hk2 => ?_
  refine Run.seq fun k3 hk3 => ?_
  refine Run.region ?_
  show Sq _ _ _ [0, 1, 2, 3, 4] _ _ _ _
  refine Sq.quiet (i := 0) rfl (Want.none rfl) rfl (ltN rfl) (QP.move rfl rfl).read ?_
  refine Sq.quiet (i := 1) rfl (Want.none rfl) rfl (ltN rfl) (QP.len rfl rfl rfl Try.underlying42).read ?_
  refine Sq.quiet (i := 2) rfl (Want.none rfl) rfl (ltN rfl) (QP.move rfl rfl).read ?_
  refine Sq.quiet (i := 3) rfl (Want.none rfl) rfl (ltN rfl) (QP.len rfl rfl rfl Try.underlying42).read ?_
  refine Sq.quiet (i := 4) rfl (Want.none rfl) rfl (ltN rfl) (QP.neq rfl rfl rfl).read ?_
  refine J.caseD (fun c10 => ?_) (fun c10 => ?_)
  · skip
    refine Sq.nil ?_
    refine hk3 _ _ ?_
    refine Run.cond_t rfl ?_
    refine Run.seq fun k4 hk4 => ?_
    refine Run.region ?_
    show Sq _ _ _ [0] _ _ _ _
    refine Sq.quiet (i := 0) rfl (Want.none rfl) rfl (ltN rfl) (QP.assign rfl rfl).read ?_
    refine Sq.nil ?_
    refine hk4 _ _ ?_
    refine Run.ret ?_
    exact J.ends (res_tmp rfl rfl) (.cons (by repeat (first | exact Pick.head | apply Pick.tail)) (.cons (by repeat (first | exact Pick.head | apply Pick.tail)) Takes.nil)) ⟨by rw [decide_eq_false]; intro h; subst h; exact c10 rfl, rfl⟩
  · skip
    refine Sq.nil ?_
    refine hk3 _ _ ?_
    refine Run.cond_f rfl ?_
    refine Run.skip ?_
    refine hk2 _ _ ?_
    refine Run.seq fun k5 hk5 => ?_
    refine Run.seq fun k6 hk6 => ?_
    refine Run.region ?_
    show Sq _ _ _ [0] _ _ _ _
    refine Sq.quiet (i := 0) rfl (Want.none rfl) rfl (ltN rfl) (QP.assign rfl rfl).read ?_
    refine Sq.nil ?_
    refine hk6 _ _ ?_
    refine Run.block ?_
    refine Run.loop1 (fun (i : Nat) => i ≤ xs.length ∧ xs.length = ys.length ∧ xs.take i = ys.take i) (fun i => .cons 0 (.slice a xs.length c) (.cons 1 (.slice a2 ys.length c2) (.cons 5 (.int .i64 i) (.nil)))) (fun i => [slA 45 45 Source.enc (.slice a xs.length c) xs, slA 45 45 Source.enc (.slice a2 ys.length c2) ys]) (fun i => xs.length - i) (0) (⟨Nat.zero_le _, by omega, rfl⟩) ?_ ?_
    · exact fun _ j => J.envJ (J.keep (.cons (by repeat (first | exact Pick.head | apply Pick.tail)) (.cons (by repeat (first | exact Pick.head | apply Pick.tail)) Takes.nil)) j) ⟨rfl, rfl, rfl, trivial⟩
    rintro i ⟨hile, hlen, heq⟩ kl7 hl7
    refine Run.seq fun k8 hk8 => ?_
    refine Run.seq fun k9 hk9 => ?_
    refine Run.region ?_
    show Sq _ _ _ [0, 1, 2, 3] _ _ _ _
    refine Sq.quiet (i := 0) rfl (Want.none rfl) rfl (ltN rfl) (QP.move rfl rfl).read ?_
    refine Sq.quiet (i := 1) rfl (Want.none rfl) rfl (ltN rfl) (QP.move rfl rfl).read ?_
    refine Sq.quiet (i := 2) rfl (Want.none rfl) rfl (ltN rfl) (QP.len rfl rfl rfl Try.underlying42).read ?_
    refine Sq.quiet (i := 3) rfl (Want.none rfl) rfl (ltN rfl) (QP.lss rfl rfl rfl).read ?_
    refine J.caseD (fun c14 => ?_) (fun c14 => ?_)
    · skip
      refine Sq.nil ?_
      refine hk9 _ _ ?_
      refine Run.cond_t rfl ?_
      refine Run.skip ?_
      refine hk8 _ _ ?_
      refine Run.seq fun k10 hk10 => ?_
      refine Run.block ?_
      refine Run.seq fun k11 hk11 => ?_
      refine Run.regionD (M := [0, 0, 3, 7, 0, 0, 48, 112, 255]) (q := 511) (r := 136) (by kernel_rfl) ?_
      obtain ⟨x, hx⟩ : ∃ x, xs[i]? = some x := ⟨_, List.getElem?_eq_getElem (by omega)⟩
      obtain ⟨y, hy⟩ : ∃ y, ys[i]? = some y := ⟨_, List.getElem?_eq_getElem (by omega)⟩
      obtain ⟨b0, o0, rfl⟩ := h1.get (by omega)
      obtain ⟨b1, o1, rfl⟩ := h2.get (by omega)
      refine Dw.pure (i := 0) rfl (by kernel_rfl) (Want.none rfl) rfl (ltN rfl) (QP.move rfl rfl) ?_
      refine Dw.pure (i := 1) rfl (by kernel_rfl) (Want.none rfl) rfl (ltN rfl) (QP.move rfl rfl) ?_
      refine Dw.pure (i := 2) rfl (by kernel_rfl) (Want.none rfl) rfl (ltN rfl) (QP.indexAddr rfl rfl rfl Try.underlying42 z45 (by first | omega | (simp <;> omega)) (by first | omega | (simp <;> omega))) ?_
      refine Dw.read (i := 3) rfl (by kernel_rfl) (Want.none rfl) rfl (ltN rfl) (QR.loadSl rfl rfl g45 Source.enc_len (SlAt.own Source.enc_len (by repeat (first | exact List.Mem.head _ | apply List.Mem.tail))) hx) ?_
      refine Dw.pure (i := 4) rfl (by kernel_rfl) (Want.none rfl) rfl (ltN rfl) (QP.move rfl rfl) ?_
      refine Dw.pure (i := 5) rfl (by kernel_rfl) (Want.none rfl) rfl (ltN rfl) (QP.move rfl rfl) ?_
      refine Dw.pure (i := 6) rfl (by kernel_rfl) (Want.none rfl) rfl (ltN rfl) (QP.indexAddr rfl rfl rfl Try.underlying42 z45 (by first | omega | (simp <;> omega)) (by first | omega | (simp <;> omega))) ?_
      refine Dw.read (i := 7) rfl (by kernel_rfl) (Want.none rfl) rfl (ltN rfl) (QR.loadSl rfl rfl g45 Source.enc_len (SlAt.own Source.enc_len (by repeat (first | exact List.Mem.head _ | apply List.Mem.tail))) hy) ?_
      refine Dw.pure (i := 8) rfl (by kernel_rfl) (Want.none rfl) rfl (ltN rfl) (QP.neq_agg eq45 rfl rfl rfl) ?_
      refine J.caseD (fun c25 => ?_) (fun c25 => ?_)
      · skip
        refine Dw.nil (by kernel_rfl) ?_
        refine hk11 _ _ ?_
        refine Run.cond_t rfl ?_
        refine Run.seq fun k12 hk12 => ?_
        refine Run.region ?_
        show Sq _ _ _ [0] _ _ _ _
        refine Sq.quiet (i := 0) rfl (Want.none rfl) rfl (ltN rfl) (QP.assign rfl rfl).read ?_
        refine Sq.nil ?_
        refine hk12 _ _ ?_
        refine Run.ret ?_
        exact J.ends (res_tmp rfl rfl) (.cons (by repeat (first | exact Pick.head | apply Pick.tail)) (.cons (by repeat (first | exact Pick.head | apply Pick.tail)) Takes.nil)) ⟨by rw [decide_eq_false]; intro h; subst h; rw [hx] at hy; cases hy; exact c25 rfl, rfl⟩
      · skip
        refine Dw.nil (by kernel_rfl) ?_
        refine hk11 _ _ ?_
        refine Run.cond_f rfl ?_
        refine Run.skip ?_
        refine hk10 _ _ ?_
        refine Run.region ?_
        show Sq _ _ _ [0, 1, 2] _ _ _ _
        refine Sq.quiet (i := 0) rfl (Want.none rfl) rfl (ltN rfl) (QP.move rfl rfl).read ?_
        refine Sq.quiet (i := 1) rfl (Want.none rfl) rfl (ltN rfl) (QP.add64 rfl rfl rfl (by first | omega | (simp <;> omega)) (by first | omega | (simp <;> omega))).read ?_
        refine Sq.quiet (i := 2) rfl (Want.none rfl) rfl (ltN rfl) (QP.assign rfl rfl).read ?_
        refine Sq.nil ?_
        exact J.envJ (J.keep (.cons (by repeat (first | exact Pick.head | apply Pick.tail)) (.cons (by repeat (first | exact Pick.head | apply Pick.tail)) Takes.nil)) (hl7 (i + 1) (⟨by omega, hlen, by rw [List.take_add_one, List.take_add_one, heq, hx, hy, show x = y by simpa using c25]⟩) (by omega))) ⟨rfl, rfl, rfl, trivial⟩
    · skip
      refine Sq.nil ?_
      refine hk9 _ _ ?_
      refine Run.cond_f rfl ?_
      refine Run.exit rfl ?_
      refine hk5 _ _ ?_
      refine Run.seq fun k13 hk13 => ?_
      refine Run.region ?_
      show Sq _ _ _ [0] _ _ _ _
      refine Sq.quiet (i := 0) rfl (Want.none rfl) rfl (ltN rfl) (QP.assign rfl rfl).read ?_
      refine Sq.nil ?_
      refine hk13 _ _ ?_
      refine Run.ret ?_
      exact J.ends (res_tmp rfl rfl) (.cons (by repeat (first | exact Pick.head | apply Pick.tail)) (.cons (by repeat (first | exact Pick.head | apply Pick.tail)) Takes.nil)) ⟨by rw [decide_eq_true]; rw [List.take_of_length_le (by omega), List.take_of_length_le (by omega)] at heq; exact heq, rfl⟩

theorem cmpAt_spec (F : Fr) (x y : Source) : Spec Try.prog 34 #[.agg (Source.enc x).toArray, .agg (Source.enc y).toArray] [] F (fun v S => v = .int .i64 (cmpF x.at_ y.at_) ∧ S = []) := by
  refine Spec.intro (N := 10) (args := [.agg (Source.enc x).toArray, .agg (Source.enc y).toArray]) Try.func34 rfl rfl (by simp) ?_
  refine Run.seq fun k1 hk1 => ?_
  refine Run.region ?_
  show Sq _ _ _ [0, 1, 2] _ _ _ _
  refine Sq.eff (i := 0) rfl (Want.none rfl) rfl (ltN rfl) (EF.boxA rfl rfl) ?_
  rintro _ _ ⟨b2, rfl, rfl⟩
  refine Sq.eff (i := 1) rfl (Want.none rfl) rfl (ltN rfl) (EF.boxA rfl rfl) ?_
  rintro _ _ ⟨b3, rfl, rfl⟩
  refine Sq.quiet (i := 2) rfl (Want.none rfl) rfl (ltN rfl) (QP.assign rfl rfl).read ?_
  refine Sq.nil ?_
  refine hk1 _ _ ?_
  refine Run.seq fun k2 hk2 => ?_
  refine Run.region ?_
  show Sq _ _ _ [0, 1, 2, 3, 4, 5] _ _ _ _
  refine Sq.quiet (i := 0) rfl (Want.none rfl) rfl (ltN rfl) (QP.fieldAddr rfl rfl f45_3).read ?_
  refine Sq.quiet (i := 1) rfl (Want.none rfl) rfl (ltN rfl) (QR.load1 rfl rfl g3 (Source.sub_at_ _)) ?_
  refine Sq.quiet (i := 2) rfl (Want.none rfl) rfl (ltN rfl) (QP.fieldAddr rfl rfl f45_3).read ?_
  refine Sq.quiet (i := 3) rfl (Want.none rfl) rfl (ltN rfl) (QR.load1 rfl rfl g3 (Source.sub_at_ _)) ?_
  refine Sq.eff (i := 4) rfl (Want.none rfl) rfl (ltN rfl) (EF.call rfl ce35 rfl Takes.nil (fun F' hle hr => cmpCompare_spec F' (x).at_ (y).at_)) ?_
  rintro _ _ ⟨_, ⟨rfl, rfl⟩, rfl⟩
  refine J.app ?_
  refine Sq.quiet (i := 5) rfl (Want.none rfl) rfl (ltN rfl) (QP.assign rfl rfl).read ?_
  refine Sq.nil ?_
  refine hk2 _ _ ?_
  refine Run.ret ?_
  exact J.ends (res_tmp rfl rfl) Takes.nil ⟨rfl, rfl⟩

theorem minfunc_spec (F : Fr) {a : Option Addr} {c : Nat} {xs : List Source} (hh : SlH a c xs) (h0 : 0 < xs.length) (hl : xs.length ≤ 1000000) : Spec Try.prog 33 #[.slice a xs.length c, .func (.func 34) #[] #[]] [slA 45 45 Source.enc (.slice a xs.length c) xs] F (fun v S => ∃ m : Source, v = .agg m.enc.toArray ∧ NextIs xs (m.at_ + 180000) true ∧ m ∈ xs ∧ S = [slA 45 45 Source.enc (.slice a xs.length c) xs]) := by
  refine Spec.intro (N := 33) (args := [.slice a xs.length c, .func (.func 34) #[] #[]]) Try.func33 rfl rfl (by simp) ?_
  refine Run.seq fun k1 hk1 => ?_
  refine Run.region ?_
  show Sq _ _ _ [0] _ _ _ _
  refine Sq.eff (i := 0) rfl (Want.none rfl) rfl (ltN rfl) (EF.allocA (l := Source.enc Source.zero) rfl zero45) ?_
  rintro _ _ ⟨b4, rfl, rfl⟩
  refine Sq.nil ?_
  refine hk1 _ _ ?_
  refine Run.seq fun k2 hk2 => ?_
  refine Run.seq fun k3 hk3 => ?_
  refine Run.region ?_
  show Sq _ _ _ [0, 1, 2] _ _ _ _
  refine Sq.quiet (i := 0) rfl (Want.none rfl) rfl (ltN rfl) (QP.move rfl rfl).read ?_
  refine Sq.quiet (i := 1) rfl (Want.none rfl) rfl (ltN rfl) (QP.len rfl rfl rfl Try.underlying42).read ?_
  refine Sq.quiet (i := 2) rfl (Want.none rfl) rfl (ltN rfl) (QP.lss rfl rfl rfl).read ?_
  refine J.decF (by omega) ?_
  refine Sq.nil ?_
  refine hk3 _ _ ?_
  refine Run.cond_f rfl ?_
  refine Run.skip ?_
  refine hk2 _ _ ?_
  refine Run.seq fun k4 hk4 => ?_
  refine Run.region ?_
  show Sq _ _ _ [0, 1, 2, 3, 4] _ _ _ _
  obtain ⟨b0, o0, rfl⟩ := hh.get (by omega)
  obtain ⟨m0, hm0⟩ : ∃ x, xs[0]? = some x := ⟨_, List.getElem?_eq_getElem (by omega)⟩
  refine Sq.quiet (i := 0) rfl (Want.none rfl) rfl (ltN rfl) (QP.move rfl rfl).read ?_
  refine Sq.quiet (i := 1) rfl (Want.none rfl) rfl (ltN rfl) (QP.indexAddr rfl rfl rfl Try.underlying42 z45 (by omega) (by omega)).read ?_
  refine Sq.quiet (i := 2) rfl (Want.none rfl) rfl (ltN rfl) (QR.loadSl rfl rfl g45 Source.enc_len (SlAt.own Source.enc_len (by repeat (first | exact List.Mem.head _ | apply List.Mem.tail))) hm0) ?_
  refine Sq.eff (i := 3) rfl (Want.none rfl) rfl (ltN rfl) (EF.allocA (l := Source.enc Source.zero) rfl zero45) ?_
  rintro _ _ ⟨b5, rfl, rfl⟩
  refine Sq.act (i := 4) rfl (Want.none rfl) rfl (EF.storeA rfl rfl rfl z45 (SetL.all (Source.enc_len _) (Source.enc_len _)) (Source.enc_cell _)) ?_
  rintro _ _ rfl
  refine Sq.nil ?_
  refine hk4 _ _ ?_
  refine Run.seq fun k5 hk5 => ?_
  refine Run.seq fun k6 hk6 => ?_
  refine Run.region ?_
  show Sq _ _ _ [0] _ _ _ _
  refine Sq.quiet (i := 0) rfl (Want.none rfl) rfl (ltN rfl) (QP.assign rfl rfl).read ?_
  refine Sq.nil ?_
  refine hk6 _ _ ?_
  refine Run.block ?_
  refine Run.loop2 (fun (i : Nat) (m : Source) => 1 ≤ i ∧ i ≤ xs.length ∧ NextIs (xs.take i) (m.at_ + 180000) true ∧ m ∈ xs) (fun i m => .cons 0 (.slice (some ⟨b0, o0, none⟩) xs.length c) (.cons 1 (.func (.func 34) #[] #[]) (.cons 4 (.pointer (some ⟨b4, 0, none⟩)) (.cons 5 (.pointer (some ⟨b5, 0, none⟩)) (.cons 6 (.int .i64 i) (.nil)))))) (fun i m => [slA 45 45 Source.enc (.slice (some ⟨b0, o0, none⟩) xs.length c) xs, blk b4 (Source.enc Source.zero) 45, blk b5 (Source.enc m) 45]) (fun i m => xs.length - i) (1) (m0) (⟨Nat.le_refl _, by omega, by rw [List.take_add_one, hm0]; exact .inr ⟨rfl, ⟨m0, by simp, rfl⟩, fun y hy => by simp at hy; subst hy; exact Int.le_refl _⟩, List.mem_of_getElem? hm0⟩) ?_ ?_
  · exact fun _ j => J.envJ (J.keep (.cons (by repeat (first | exact Pick.head | apply Pick.tail)) (.cons (by repeat (first | exact Pick.head | apply Pick.tail)) (.cons (by repeat (first | exact Pick.head | apply Pick.tail)) Takes.nil))) j) ⟨rfl, rfl, rfl, rfl, rfl, trivial⟩
  rintro i m ⟨h1i, hile, hnx, hmx⟩ kl7 hl7
  refine Run.seq fun k8 hk8 => ?_
  refine Run.seq fun k9 hk9 => ?_
  refine Run.region ?_
  show Sq _ _ _ [0, 1, 2, 3] _ _ _ _
  refine Sq.quiet (i := 0) rfl (Want.none rfl) rfl (ltN rfl) (QP.move rfl rfl).read ?_
  refine Sq.quiet (i := 1) rfl (Want.none rfl) rfl (ltN rfl) (QP.move rfl rfl).read ?_
  refine Sq.quiet (i := 2) rfl (Want.none rfl) rfl (ltN rfl) (QP.len rfl rfl rfl Try.underlying42).read ?_
  refine Sq.quiet (i := 3) rfl (Want.none rfl) rfl (ltN rfl) (QP.lss rfl rfl rfl).read ?_
  refine J.caseD (fun c17 => ?_) (fun c17 => ?_)
  · skip
    refine Sq.nil ?_
    refine hk9 _ _ ?_
    refine Run.cond_t rfl ?_
    refine Run.skip ?_
    refine hk8 _ _ ?_
    refine Run.seq fun k10 hk10 => ?_
    refine Run.block ?_
    refine Run.seq fun k11 hk11 => ?_
    refine Run.regionD (M := [0, 0, 0, 6, 14, 0, 63, 127]) (q := 191) (r := 48) (by kernel_rfl) ?_
    obtain ⟨x, hi⟩ : ∃ x, xs[i]? = some x := ⟨_, List.getElem?_eq_getElem (by omega)⟩
    refine Dw.pure (i := 0) rfl (by kernel_rfl) (Want.none rfl) rfl (ltN rfl) (QP.move rfl rfl) ?_
    refine Dw.pure (i := 1) rfl (by kernel_rfl) (Want.none rfl) rfl (ltN rfl) (QP.move rfl rfl) ?_
    refine Dw.pure (i := 2) rfl (by kernel_rfl) (Want.none rfl) rfl (ltN rfl) (QP.move rfl rfl) ?_
    refine Dw.pure (i := 3) rfl (by kernel_rfl) (Want.none rfl) rfl (ltN rfl) (QP.indexAddr rfl rfl rfl Try.underlying42 z45 (by first | omega | (simp <;> omega)) (by first | omega | (simp <;> omega))) ?_
    refine Dw.read (i := 4) rfl (by kernel_rfl) (Want.none rfl) rfl (ltN rfl) (QR.loadSl rfl rfl g45 Source.enc_len (SlAt.own Source.enc_len (by repeat (first | exact List.Mem.head _ | apply List.Mem.tail))) hi) ?_
    refine Dw.read (i := 5) rfl (by kernel_rfl) (Want.none rfl) rfl (ltN rfl) (QR.load rfl rfl g45 (Source.enc_sub _)) ?_
    refine Dw.eff (i := 6) (by kernel_rfl) (by kernel_rfl) ?_
    refine One.mk (o := _) (l := []) rfl (by kernel_rfl) (Want.none rfl) rfl (ltN rfl) (EF.callV rfl rfl ce34 rfl Takes.nil (fun F' hle hr => cmpAt_spec F' x m)) (by kernel_rfl) ?_
    rintro _ _ ⟨_, ⟨rfl, rfl⟩, rfl⟩
    refine ⟨fun _ h => (by cases h), ?_⟩
    refine J.app ?_
    refine Dw.pure (i := 7) rfl (by kernel_rfl) (Want.none rfl) rfl (ltN rfl) (QP.lss rfl rfl rfl) ?_
    refine J.caseD (fun c27 => ?_) (fun c27 => ?_)
    · skip
      refine Dw.nil (by kernel_rfl) ?_
      refine hk11 _ _ ?_
      refine Run.cond_t rfl ?_
      refine Run.region ?_
      show Sq _ _ _ [0, 1, 2, 3, 4] _ _ _ _
      refine Sq.quiet (i := 0) rfl (Want.none rfl) rfl (ltN rfl) (QP.move rfl rfl).read ?_
      refine Sq.quiet (i := 1) rfl (Want.none rfl) rfl (ltN rfl) (QP.move rfl rfl).read ?_
      refine Sq.quiet (i := 2) rfl (Want.none rfl) rfl (ltN rfl) (QP.indexAddr rfl rfl rfl Try.underlying42 z45 (by first | omega | (simp <;> omega)) (by first | omega | (simp <;> omega))).read ?_
      refine Sq.quiet (i := 3) rfl (Want.none rfl) rfl (ltN rfl) (QR.loadSl rfl rfl g45 Source.enc_len (SlAt.own Source.enc_len (by repeat (first | exact List.Mem.head _ | apply List.Mem.tail))) hi) ?_
      refine Sq.act (i := 4) rfl (Want.none rfl) rfl (EF.storeA rfl rfl rfl z45 (SetL.all (Source.enc_len _) (Source.enc_len _)) (Source.enc_cell _)) ?_
      rintro _ _ rfl
      refine Sq.nil ?_
      refine hk10 _ _ ?_
      refine Run.region ?_
      show Sq _ _ _ [0, 1, 2] _ _ _ _
      refine Sq.quiet (i := 0) rfl (Want.none rfl) rfl (ltN rfl) (QP.move rfl rfl).read ?_
      refine Sq.quiet (i := 1) rfl (Want.none rfl) rfl (ltN rfl) (QP.add64 rfl rfl rfl (by first | omega | (simp <;> omega)) (by first | omega | (simp <;> omega))).read ?_
      refine Sq.quiet (i := 2) rfl (Want.none rfl) rfl (ltN rfl) (QP.assign rfl rfl).read ?_
      refine Sq.nil ?_
      exact J.envJ (J.keep (.cons (by repeat (first | exact Pick.head | apply Pick.tail)) (.cons (by repeat (first | exact Pick.head | apply Pick.tail)) (.cons (by repeat (first | exact Pick.head | apply Pick.tail)) Takes.nil))) (hl7 (i + 1) (x) (⟨by omega, by omega, hnx.less hi (.inr (by unfold cmpF at c27; split at c27; omega; split at c27 <;> omega)), List.mem_of_getElem? hi⟩) (by omega))) ⟨rfl, rfl, rfl, rfl, rfl, trivial⟩
    · skip
      refine Dw.nil (by kernel_rfl) ?_
      refine hk11 _ _ ?_
      refine Run.cond_f rfl ?_
      refine Run.skip ?_
      refine hk10 _ _ ?_
      refine Run.region ?_
      show Sq _ _ _ [0, 1, 2] _ _ _ _
      refine Sq.quiet (i := 0) rfl (Want.none rfl) rfl (ltN rfl) (QP.move rfl rfl).read ?_
      refine Sq.quiet (i := 1) rfl (Want.none rfl) rfl (ltN rfl) (QP.add64 rfl rfl rfl (by first | omega | (simp <;> omega)) (by first | omega | (simp <;> omega))).read ?_
      refine Sq.quiet (i := 2) rfl (Want.none rfl) rfl (ltN rfl) (QP.assign rfl rfl).read ?_
      refine Sq.nil ?_
      exact J.envJ (J.keep (.cons (by repeat (first | exact Pick.head | apply Pick.tail)) (.cons (by repeat (first | exact Pick.head | apply Pick.tail)) (.cons (by repeat (first | exact Pick.head | apply Pick.tail)) Takes.nil))) (hl7 (i + 1) (m) (⟨by omega, by omega, hnx.keep hi (by unfold cmpF at c27; split at c27 <;> omega), hmx⟩) (by omega))) ⟨rfl, rfl, rfl, rfl, rfl, trivial⟩
  · skip
    refine Sq.nil ?_
    refine hk9 _ _ ?_
    refine Run.cond_f rfl ?_
    refine Run.exit rfl ?_
    refine hk5 _ _ ?_
    refine Run.seq fun k12 hk12 => ?_
    refine Run.region ?_
    show Sq _ _ _ [0, 1] _ _ _ _
    refine Sq.quiet (i := 0) rfl (Want.none rfl) rfl (ltN rfl) (QR.load rfl rfl g45 (Source.enc_sub _)) ?_
    refine Sq.act (i := 1) rfl (Want.none rfl) rfl (EF.storeA rfl rfl rfl z45 (SetL.all (Source.enc_len _) (Source.enc_len _)) (Source.enc_cell _)) ?_
    rintro _ _ rfl
    refine Sq.nil ?_
    refine hk12 _ _ ?_
    refine Run.ret ?_
    exact J.ends (res_cell rfl rfl g45 (Source.enc_sub _)) (.cons (by repeat (first | exact Pick.head | apply Pick.tail)) Takes.nil) ⟨m, rfl, by rw [List.take_of_length_le (by omega)] at hnx; exact hnx, hmx, rfl⟩

theorem nextQ (F : Fr) {b r : Nat} {most : Int} {E : EntS} (hf : InF F b r most E) (hE : E.length ≤ 1000000) (hT : ∀ e ∈ E, 0 ≤ e.2.2.at_ ∧ e.2.2.at_ ≤ 2305843009213693952) : Spec Try.prog 16 #[.pointer (some ⟨b, 0, none⟩)] [mapS r (ptrs E)] F (fun v S => ∃ ys, ys.Perm (E.map (·.2.2)) ∧ SortedS ys ∧ ∃ n ok, v = .tuple #[.int .i64 n, .bool ok] ∧ NextIs ys n ok ∧ S = [mapS r (ptrs E)]) := by
  refine Spec.intro (N := 16) (args := [.pointer (some ⟨b, 0, none⟩)]) Try.func16 rfl rfl (by simp) ?_
  refine Run.seq fun k1 hk1 => ?_
  refine Run.region ?_
  show Sq _ _ _ [0, 1] _ _ _ _
  refine Sq.quiet (i := 0) rfl (Want.none rfl) rfl (ltN rfl) (QP.assign rfl rfl).read ?_
  refine Sq.quiet (i := 1) rfl (Want.none rfl) rfl (ltN rfl) (QP.assign rfl rfl).read ?_
  refine Sq.nil ?_
  refine hk1 _ _ ?_
  refine Run.seq fun k2 hk2 => ?_
  refine Run.region ?_
  show Sq _ _ _ [0, 1, 2] _ _ _ _
  refine Sq.quiet (i := 0) rfl (Want.none rfl) rfl (ltN rfl) (QP.move rfl rfl).read ?_
  refine Sq.eff (i := 1) rfl (Want.none rfl) rfl (ltN rfl) (EF.call rfl ce15 rfl (.cons (by repeat (first | exact Pick.head | apply Pick.tail)) Takes.nil) (fun F' hle hr => listS F' (hf.mono hle) hE)) ?_
  rintro v7 _ ⟨_, ⟨ys, hp, hs, rfl⟩, rfl⟩
  refine J.app ?_
  refine Sq.slCase (v := v7) (xs := ys) (by repeat (first | exact List.Mem.head _ | apply List.Mem.tail)) (fun a8 c8 hv8 hh8 => ?_)
  subst hv8
  have hyl : ys.length = E.length := by simpa using hp.length_eq
  refine Sq.quiet (i := 2) rfl (Want.none rfl) rfl (ltN rfl) (QP.assign rfl rfl).read ?_
  refine Sq.nil ?_
  refine hk2 _ _ ?_
  refine Run.seq fun k3 hk3 => ?_
  refine Run.seq fun k4 hk4 => ?_
  refine Run.region ?_
  show Sq _ _ _ [0, 1, 2] _ _ _ _
  refine Sq.quiet (i := 0) rfl (Want.none rfl) rfl (ltN rfl) (QP.move rfl rfl).read ?_
  refine Sq.quiet (i := 1) rfl (Want.none rfl) rfl (ltN rfl) (QP.len rfl rfl rfl Try.underlying42).read ?_
  refine Sq.quiet (i := 2) rfl (Want.none rfl) rfl (ltN rfl) (QP.eql rfl rfl rfl).read ?_
  refine J.caseD (fun c10 => ?_) (fun c10 => ?_)
  · skip
    refine Sq.nil ?_
    refine hk4 _ _ ?_
    refine Run.cond_t rfl ?_
    refine Run.seq fun k5 hk5 => ?_
    refine Run.region ?_
    show Sq _ _ _ [0, 1] _ _ _ _
    refine Sq.quiet (i := 0) rfl (Want.none rfl) rfl (ltN rfl) (QP.assign rfl rfl).read ?_
    refine Sq.quiet (i := 1) rfl (Want.none rfl) rfl (ltN rfl) (QP.assign rfl rfl).read ?_
    refine Sq.nil ?_
    refine hk5 _ _ ?_
    refine Run.ret ?_
    exact J.ends (res_tmp2 rfl rfl rfl) (.cons (by repeat (first | exact Pick.head | apply Pick.tail)) Takes.nil) ⟨ys, hp, hs, 0, false, rfl, .inl ⟨List.eq_nil_of_length_eq_zero (by omega), rfl, rfl⟩, rfl⟩
  · skip
    refine Sq.nil ?_
    refine hk4 _ _ ?_
    refine Run.cond_f rfl ?_
    refine Run.skip ?_
    refine hk3 _ _ ?_
    refine Run.seq fun k6 hk6 => ?_
    refine Run.region ?_
    show Sq _ _ _ [0, 1, 2, 3] _ _ _ _
    refine Sq.quiet (i := 0) rfl (Want.none rfl) rfl (ltN rfl) (QP.move rfl rfl).read ?_
    refine Sq.eff (i := 1) rfl (Want.none rfl) rfl (ltN rfl) (EF.call rfl ce33 rfl (.cons (by repeat (first | exact Pick.head | apply Pick.tail)) Takes.nil) (fun F' hle hr => minfunc_spec F' hh8 (by omega) (by omega))) ?_
    rintro _ _ ⟨_, ⟨m, rfl, hnx, hmm, rfl⟩, rfl⟩
    refine J.app ?_
    refine Sq.eff (i := 2) rfl (Want.none rfl) rfl (ltN rfl) (EF.allocA (l := Source.enc Source.zero) rfl zero45) ?_
    rintro _ _ ⟨b5, rfl, rfl⟩
    refine Sq.act (i := 3) rfl (Want.none rfl) rfl (EF.storeA rfl rfl rfl z45 (SetL.all (Source.enc_len _) (Source.enc_len _)) (Source.enc_cell _)) ?_
    rintro _ _ rfl
    refine Sq.nil ?_
    refine hk6 _ _ ?_
    refine Run.seq fun k7 hk7 => ?_
    refine Run.region ?_
    show Sq _ _ _ [0, 1, 2, 3, 4] _ _ _ _
    have hmt : 0 ≤ m.at_ ∧ m.at_ ≤ 2305843009213693952 := by
      obtain ⟨e, he, rfl⟩ := List.mem_map.1 (hp.subset hmm)
      exact hT e he
    refine Sq.quiet (i := 0) rfl (Want.none rfl) rfl (ltN rfl) (QP.fieldAddr rfl rfl f45_3).read ?_
    refine Sq.quiet (i := 1) rfl (Want.none rfl) rfl (ltN rfl) (QR.load1 rfl rfl g3 (Source.sub_at_ _)) ?_
    refine Sq.quiet (i := 2) rfl (Want.none rfl) rfl (ltN rfl) (QP.add64 rfl rfl rfl (by first | omega | (simp <;> omega)) (by first | omega | (simp <;> omega))).read ?_
    refine Sq.quiet (i := 3) rfl (Want.none rfl) rfl (ltN rfl) (QP.assign rfl rfl).read ?_
    refine Sq.quiet (i := 4) rfl (Want.none rfl) rfl (ltN rfl) (QP.assign rfl rfl).read ?_
    refine Sq.nil ?_
    refine hk7 _ _ ?_
    refine Run.ret ?_
    exact J.ends (res_tmp2 rfl rfl rfl) (.cons (by repeat (first | exact Pick.head | apply Pick.tail)) Takes.nil) ⟨ys, hp, hs, _, _, rfl, hnx, rfl⟩

theorem tab_g (b : Nat) (most : Int) (M : TabM) : Tab b most M = GTab (fun r => SourceTable.enc ⟨most, some r⟩) 66 (fun x => .agg (SourceKey.enc x).toArray) Source.enc 45 b M := rfl
theorem getT2 (F : Fr) {b : Nat} {most : Int} {M : TabM} (p : Pair) (id : Bs 8) : Spec Try.prog 13 #[.pointer (some ⟨b, 0, none⟩), .agg (Pair.enc p).toArray, .agg (Bs.enc id).toArray] [Tab b most M] F
    fun v S => (alook M ⟨p, id⟩ = none ∧ v = .tuple #[.agg Source.zero.enc.toArray, .bool false] ∧ S = [Tab b most M]) ∨ (∃ s, alook M ⟨p, id⟩ = some s ∧ v = .tuple #[.agg (Source.enc s).toArray, .bool true] ∧ S = [Tab b most M]) :=
  (getT F p id).mono fun v S ⟨h1, h2⟩ => by
    cases h : alook M ⟨p, id⟩ with
    | none => left; rw [h] at h1; exact ⟨rfl, h1, h2⟩
    | some s => right; rw [h] at h1; exact ⟨s, rfl, h1, h2⟩
/-- What a touch leaves. -/
def touchF (M : TabM) (now : Int) (k : SourceKey) : TabM := match alook M k with | none => M | some s => aset M k { s with at_ := now }
theorem touch_twice (M : TabM) (now : Int) (k : SourceKey) : touchF (touchF M now k) now k = touchF M now k := by
  unfold touchF
  cases h : alook M k with
  | none => simp only [h]
  | some s => simp only [alook_aset_self, aset_aset]
theorem touch_look (M : TabM) (now : Int) (k : SourceKey) : (alook (touchF M now k) k).isSome = (alook M k).isSome := by
  unfold touchF
  cases h : alook M k with
  | none => simp only [h]
  | some s => simp [alook_aset_self]
def touchN (M : TabM) (k : SourceKey) (i : Nat) : Int := if (alook M k).isSome then i else 0

section
variable {M M1 : TabM} {now : Int} {k : SourceKey} {i : Nat}
theorem touch_is (hM : (i = 0 ∧ M1 = M) ∨ (0 < i ∧ M1 = touchF M now k)) : touchF M1 now k = touchF M now k ∧ (alook M1 k).isSome = (alook M k).isSome := by
  rcases hM with ⟨_, rfl⟩ | ⟨_, rfl⟩
  · exact ⟨rfl, rfl⟩
  · exact ⟨touch_twice _ _ _, touch_look _ _ _⟩
theorem touch_more (hM : (i = 0 ∧ M1 = M) ∨ (0 < i ∧ M1 = touchF M now k)) {s : Source} (h0 : alook M1 k = some s) : touchN M k i + 1 = touchN M k (i + 1) := by
  have := (touch_is hM).2
  rw [h0] at this
  simp only [touchN, ← this]
  rfl
theorem touch_none (hM : (i = 0 ∧ M1 = M) ∨ (0 < i ∧ M1 = touchF M now k)) (h0 : alook M1 k = none) : touchN M k i = touchN M k (i + 1) := by
  have := (touch_is hM).2
  rw [h0] at this
  simp only [touchN, ← this]
  rfl
theorem touch_set (hM : (i = 0 ∧ M1 = M) ∨ (0 < i ∧ M1 = touchF M now k)) {s : Source} (h0 : alook M1 k = some s) : aset M1 k { s with at_ := now } = touchF M now k := by
  rw [← (touch_is hM).1]
  simp only [touchF, h0]
theorem touch_no (hM : (i = 0 ∧ M1 = M) ∨ (0 < i ∧ M1 = touchF M now k)) (h0 : alook M1 k = none) : M1 = touchF M now k := by
  rw [← (touch_is hM).1]
  simp only [touchF, h0]
theorem touchN_zero (M : TabM) (k : SourceKey) : touchN M k 0 = 0 := by unfold touchN; split <;> rfl
theorem touchN_lim (M : TabM) (k : SourceKey) (i : Nat) : 0 ≤ touchN M k i ∧ touchN M k i ≤ i := by unfold touchN; split <;> omega
end

theorem touchT (F : Fr) {b : Nat} {most : Int} {M : TabM} (now : Int) (p : Pair) (id : Bs 8){a : Option Addr} {c : Nat} (ha : ArgSl F a 8 Bs.enc [id, id]) : Spec Try.prog 21 #[.pointer (some ⟨b, 0, none⟩), .int .i64 now, .agg (Pair.enc p).toArray, .slice a 2 c] [Tab b most M] F (fun v S => v = .int .i64 (touchN M ⟨p, id⟩ 2) ∧ S = [Tab b most (touchF M now ⟨p, id⟩)]) := by
  refine Spec.intro (N := 42) (args := [.pointer (some ⟨b, 0, none⟩), .int .i64 now, .agg (Pair.enc p).toArray, .slice a 2 c]) Try.func21 rfl rfl (by simp) ?_
  refine Run.seq fun k1 hk1 => ?_
  refine Run.region ?_
  show Sq _ _ _ [0, 1] _ _ _ _
  refine Sq.eff (i := 0) rfl (Want.none rfl) rfl (ltN rfl) (EF.boxA rfl rfl) ?_
  rintro _ _ ⟨b6, rfl, rfl⟩
  refine Sq.quiet (i := 1) rfl (Want.none rfl) rfl (ltN rfl) (QP.assign rfl rfl).read ?_
  refine Sq.nil ?_
  refine hk1 _ _ ?_
  refine Run.seq fun k2 hk2 => ?_
  refine Run.seq fun k3 hk3 => ?_
  refine Run.region ?_
  show Sq _ _ _ [0, 1, 2] _ _ _ _
  refine Sq.quiet (i := 0) rfl (Want.none rfl) rfl (ltN rfl) (QP.move rfl rfl).read ?_
  refine Sq.quiet (i := 1) rfl (Want.none rfl) rfl (ltN rfl) (QP.len rfl rfl rfl Try.underlying82).read ?_
  refine Sq.quiet (i := 2) rfl (Want.none rfl) rfl (ltN rfl) (QP.move rfl rfl).read ?_
  refine Sq.nil ?_
  refine hk3 _ _ ?_
  refine Run.block ?_
  refine Run.loop2 (fun (i : Nat) (M1 : TabM) => i ≤ 2 ∧ ((i = 0 ∧ M1 = M) ∨ (0 < i ∧ M1 = touchF M now ⟨p, id⟩))) (fun i M1 => .cons 0 (.pointer (some ⟨b, 0, none⟩)) (.cons 1 (.int .i64 now) (.cons 6 (.pointer (some ⟨b6, 0, none⟩)) (.cons 8 (.int .i64 (touchN M ⟨p, id⟩ i)) (.cons 13 (.slice a 2 c) (.cons 14 (.int .i64 2) (.cons 15 (.int .i64 i) (.nil)))))))) (fun i M1 => [Tab b most M1, blk b6 (Pair.enc p) 28]) (fun i M1 => 2 - i) (0) (M) (⟨by omega, .inl ⟨rfl, rfl⟩⟩) ?_ ?_
  · exact fun _ j => J.envJ (J.keep (.cons (by repeat (first | exact Pick.head | apply Pick.tail)) (.cons (by repeat (first | exact Pick.head | apply Pick.tail)) Takes.nil)) j) ⟨rfl, rfl, rfl, (congrArg (fun n => some (Value.int .i64 n)) (touchN_zero M ⟨p, id⟩).symm), rfl, rfl, rfl, trivial⟩
  rintro i M1 ⟨hile, hM⟩ kl4 hl4
  refine Run.seq fun k5 hk5 => ?_
  refine Run.region ?_
  show Sq _ _ _ [0] _ _ _ _
  refine Sq.quiet (i := 0) rfl (Want.none rfl) rfl (ltN rfl) (QP.lss rfl rfl rfl).read ?_
  refine J.caseD (fun c16 => ?_) (fun c16 => ?_)
  · skip
    refine Sq.nil ?_
    refine hk5 _ _ ?_
    refine Run.seq fun k6 hk6 => ?_
    refine Run.cond_t rfl ?_
    refine Run.skip ?_
    refine hk6 _ _ ?_
    refine Run.seq fun k7 hk7 => ?_
    refine Run.block ?_
    refine Run.seq fun k8 hk8 => ?_
    refine Run.region ?_
    show Sq _ _ _ [0, 1, 2, 3] _ _ _ _
    have hlt : i < 2 := by omega
    have hi : [id, id][i]? = some id := by rcases (show i = 0 ∨ i = 1 by omega) with rfl | rfl <;> rfl
    obtain ⟨b0, o0, rfl, hs0⟩ := ha.get (by simp)
    refine Sq.quiet (i := 0) rfl (Want.none rfl) rfl (ltN rfl) (QP.indexAddr rfl rfl rfl Try.underlying82 z30 (by first | omega | (simp <;> omega)) (by first | omega | (simp <;> omega))).read ?_
    refine Sq.quiet (i := 1) rfl (Want.none rfl) rfl (ltN rfl) (QR.loadSl rfl rfl g30 Bs.len (hs0 _) hi) ?_
    refine Sq.eff (i := 2) rfl (Want.none rfl) rfl (ltN rfl) (EF.allocA (l := (Bs.zero 8).enc) rfl zero30) ?_
    rintro _ _ ⟨b10, rfl, rfl⟩
    refine Sq.act (i := 3) rfl (Want.none rfl) rfl (EF.storeA rfl rfl rfl z30 (SetL.all (Bs.len _) (Bs.len _)) (Bs.cell _)) ?_
    rintro _ _ rfl
    refine Sq.nil ?_
    refine hk8 _ _ ?_
    refine Run.seq fun k9 hk9 => ?_
    refine Run.region ?_
    show Sq _ _ _ [0, 1, 2, 3, 4, 5, 6, 7, 8, 9] _ _ _ _
    refine Sq.quiet (i := 0) rfl (Want.none rfl) rfl (ltN rfl) (QP.move rfl rfl).read ?_
    refine Sq.quiet (i := 1) rfl (Want.none rfl) rfl (ltN rfl) (QR.load rfl rfl g28 (Pair.enc_sub _)) ?_
    refine Sq.quiet (i := 2) rfl (Want.none rfl) rfl (ltN rfl) (QR.load rfl rfl g30 (Bs.sub _)) ?_
    refine Sq.eff (i := 3) rfl (Want.none rfl) rfl (ltN rfl) (EF.call rfl ce13 rfl (.cons (by repeat (first | exact Pick.head | apply Pick.tail)) Takes.nil) (fun F' hle hr => getT2 F' p id)) ?_
    rintro _ _ ⟨_, (⟨h0, rfl, rfl⟩ | ⟨s, h0, rfl, rfl⟩), rfl⟩
    · skip
      refine J.app ?_
      refine Sq.quiet (i := 4) rfl (Want.none rfl) rfl (ltN rfl) (QP.move rfl rfl).read ?_
      refine Sq.quiet (i := 5) rfl (Want.none rfl) rfl (ltN rfl) (QP.extract rfl rfl rfl).read ?_
      refine Sq.quiet (i := 6) rfl (Want.none rfl) rfl (ltN rfl) (QP.extract rfl rfl rfl).read ?_
      refine Sq.eff (i := 7) rfl (Want.none rfl) rfl (ltN rfl) (EF.allocA (l := Source.enc Source.zero) rfl zero45) ?_
      rintro _ _ ⟨b11, rfl, rfl⟩
      refine Sq.act (i := 8) rfl (Want.none rfl) rfl (EF.storeA rfl rfl rfl z45 (SetL.all (Source.enc_len _) (Source.enc_len _)) (Source.enc_cell _)) ?_
      rintro _ _ rfl
      refine Sq.quiet (i := 9) rfl (Want.none rfl) rfl (ltN rfl) (QP.assign rfl rfl).read ?_
      refine Sq.nil ?_
      refine hk9 _ _ ?_
      refine Run.seq fun k10 hk10 => ?_
      refine Run.region ?_
      show Sq _ _ _ [0] _ _ _ _
      refine Sq.quiet (i := 0) rfl (Want.none rfl) rfl (ltN rfl) (QP.move rfl rfl).read ?_
      refine Sq.nil ?_
      refine hk10 _ _ ?_
      refine Run.cond_f rfl ?_
      refine Run.skip ?_
      refine hk7 _ _ ?_
      refine Run.region ?_
      show Sq _ _ _ [0, 1] _ _ _ _
      refine Sq.quiet (i := 0) rfl (Want.none rfl) rfl (ltN rfl) (QP.add64 rfl rfl rfl (by first | omega | (simp <;> omega)) (by first | omega | (simp <;> omega))).read ?_
      refine Sq.quiet (i := 1) rfl (Want.none rfl) rfl (ltN rfl) (QP.move rfl rfl).read ?_
      refine Sq.nil ?_
      have hnn : True := trivial
      exact J.envJ (J.keep (.cons (by repeat (first | exact Pick.head | apply Pick.tail)) (.cons (by repeat (first | exact Pick.head | apply Pick.tail)) Takes.nil)) (hl4 (i + 1) (M1) (⟨by omega, .inr ⟨by omega, touch_no hM h0⟩⟩) (by omega))) ⟨rfl, rfl, rfl, (congrArg (fun n => some (Value.int .i64 n)) (touch_none hM h0)), rfl, rfl, rfl, trivial⟩
    · skip
      refine J.app ?_
      refine Sq.quiet (i := 4) rfl (Want.none rfl) rfl (ltN rfl) (QP.move rfl rfl).read ?_
      refine Sq.quiet (i := 5) rfl (Want.none rfl) rfl (ltN rfl) (QP.extract rfl rfl rfl).read ?_
      refine Sq.quiet (i := 6) rfl (Want.none rfl) rfl (ltN rfl) (QP.extract rfl rfl rfl).read ?_
      refine Sq.eff (i := 7) rfl (Want.none rfl) rfl (ltN rfl) (EF.allocA (l := Source.enc Source.zero) rfl zero45) ?_
      rintro _ _ ⟨b11, rfl, rfl⟩
      refine Sq.act (i := 8) rfl (Want.none rfl) rfl (EF.storeA rfl rfl rfl z45 (SetL.all (Source.enc_len _) (Source.enc_len _)) (Source.enc_cell _)) ?_
      rintro _ _ rfl
      refine Sq.quiet (i := 9) rfl (Want.none rfl) rfl (ltN rfl) (QP.assign rfl rfl).read ?_
      refine Sq.nil ?_
      refine hk9 _ _ ?_
      refine Run.seq fun k11 hk11 => ?_
      refine Run.region ?_
      show Sq _ _ _ [0] _ _ _ _
      refine Sq.quiet (i := 0) rfl (Want.none rfl) rfl (ltN rfl) (QP.move rfl rfl).read ?_
      refine Sq.nil ?_
      refine hk11 _ _ ?_
      refine Run.cond_t rfl ?_
      refine Run.seq fun k12 hk12 => ?_
      refine Run.regionD (M := [0, 1, 3, 7, 0, 0, 48, 127, 0, 511, 1023, 2047]) (q := 2047) (r := 184) (by kernel_rfl) ?_
      refine Dw.openE (by repeat (first | exact Pick.head | apply Pick.tail)) (fun _ g => GTab.openAt h0 g) fun x => ?_
      obtain ⟨r, E, bc⟩ := x
      refine Dw.app ?_
      refine Dw.fact Pick.head fun hx => ?_
      have hl : alook (ptrs E) ⟨p, id⟩ = some bc := by rw [alook_ptrs, hx.2]; rfl
      refine Dw.pure (i := 0) rfl (by kernel_rfl) (Want.none rfl) rfl (ltN rfl) (QP.move rfl rfl) ?_
      refine Dw.pure (i := 1) rfl (by kernel_rfl) (Want.none rfl) rfl (ltN rfl) (QP.nilCheck rfl rfl) ?_
      refine Dw.pure (i := 2) rfl (by kernel_rfl) (Want.none rfl) rfl (ltN rfl) (QP.fieldAddr rfl rfl f66_1) ?_
      refine Dw.read (i := 3) rfl (by kernel_rfl) (Want.none rfl) rfl (ltN rfl) (QR.load1 rfl rfl g64 (SourceTable.sub_m _)) ?_
      refine Dw.read (i := 4) rfl (by kernel_rfl) (Want.none rfl) rfl (ltN rfl) (QR.load rfl rfl g28 (Pair.enc_sub _)) ?_
      refine Dw.read (i := 5) rfl (by kernel_rfl) (Want.none rfl) rfl (ltN rfl) (QR.load rfl rfl g30 (Bs.sub _)) ?_
      refine Dw.pure (i := 6) rfl (by kernel_rfl) (Want.none rfl) rfl (ltN rfl) (QP.build (l := SourceKey.enc ⟨(p), (id)⟩) rfl st69 rfl (by exact ⟨(congrArg some (Pair.enc_len _).symm), ⟨(congrArg some (Bs.len _).symm), trivial⟩⟩) rfl) ?_
      refine Dw.read (i := 7) rfl (by kernel_rfl) (Want.none rfl) rfl (ltN rfl) (QR.lookupSome key69 rfl rfl rfl Try.underlying64 zero67 hl) ?_
      refine Dw.pure (i := 8) rfl (by kernel_rfl) (Want.none rfl) rfl (ltN rfl) (QP.move rfl rfl) ?_
      refine Dw.pure (i := 9) rfl (by kernel_rfl) (Want.none rfl) rfl (ltN rfl) (QP.nilCheck rfl rfl) ?_
      refine Dw.pure (i := 10) rfl (by kernel_rfl) (Want.none rfl) rfl (ltN rfl) (QP.fieldAddr rfl rfl f45_3) ?_
      refine Dw.eff (i := 11) (by kernel_rfl) (by kernel_rfl) ?_
      refine One.act (o := _) (l := []) rfl (by kernel_rfl) (Want.none rfl) rfl (EF.store rfl rfl rfl z3 (Source.set_at_ _ _) (cell_one rfl)) (by kernel_rfl) ?_
      rintro _ _ rfl
      refine ⟨fun _ h => (by cases h), ?_⟩
      refine Dw.close (A := Tab b most (aset M1 ⟨p, id⟩ { s with at_ := now })) (m := [blk b (SourceTable.enc ⟨most, some r⟩) 66, mapS r (ptrs E), blk bc (Source.enc { s with at_ := now }) 45, rowsA Source.enc 45 (adel E ⟨p, id⟩)]) (.cons (by repeat (first | exact Pick.head | apply Pick.tail)) (.cons (by repeat (first | exact Pick.head | apply Pick.tail)) (.cons (by repeat (first | exact Pick.head | apply Pick.tail)) (.cons (by repeat (first | exact Pick.head | apply Pick.tail)) Takes.nil)))) (fun _ g => GTab.closeAt hx g) ?_
      refine Dw.nil (by kernel_rfl) ?_
      refine hk12 _ _ ?_
      refine Run.region ?_
      show Sq _ _ _ [0, 1, 2] _ _ _ _
      have htl := touchN_lim M ⟨p, id⟩ i
      refine Sq.quiet (i := 0) rfl (Want.none rfl) rfl (ltN rfl) (QP.move rfl rfl).read ?_
      refine Sq.quiet (i := 1) rfl (Want.none rfl) rfl (ltN rfl) (QP.add64 rfl rfl rfl (by first | omega | (simp <;> omega)) (by first | omega | (simp <;> omega))).read ?_
      refine Sq.quiet (i := 2) rfl (Want.none rfl) rfl (ltN rfl) (QP.assign rfl rfl).read ?_
      refine Sq.nil ?_
      refine hk7 _ _ ?_
      refine Run.region ?_
      show Sq _ _ _ [0, 1] _ _ _ _
      refine Sq.quiet (i := 0) rfl (Want.none rfl) rfl (ltN rfl) (QP.add64 rfl rfl rfl (by first | omega | (simp <;> omega)) (by first | omega | (simp <;> omega))).read ?_
      refine Sq.quiet (i := 1) rfl (Want.none rfl) rfl (ltN rfl) (QP.move rfl rfl).read ?_
      refine Sq.nil ?_
      have hnn : True := trivial
      exact J.envJ (J.keep (.cons (by repeat (first | exact Pick.head | apply Pick.tail)) (.cons (by repeat (first | exact Pick.head | apply Pick.tail)) Takes.nil)) (hl4 (i + 1) (aset M1 ⟨p, id⟩ { s with at_ := now }) (⟨by omega, .inr ⟨by omega, touch_set hM h0⟩⟩) (by omega))) ⟨rfl, rfl, rfl, (congrArg (fun n => some (Value.int .i64 n)) (touch_more hM h0)), rfl, rfl, rfl, trivial⟩
  · skip
    refine Sq.nil ?_
    refine hk5 _ _ ?_
    refine Run.seq fun k13 hk13 => ?_
    refine Run.cond_f rfl ?_
    refine Run.exit rfl ?_
    refine hk2 _ _ ?_
    refine Run.seq fun k14 hk14 => ?_
    refine Run.region ?_
    show Sq _ _ _ [0, 1] _ _ _ _
    refine Sq.quiet (i := 0) rfl (Want.none rfl) rfl (ltN rfl) (QP.move rfl rfl).read ?_
    refine Sq.quiet (i := 1) rfl (Want.none rfl) rfl (ltN rfl) (QP.assign rfl rfl).read ?_
    refine Sq.nil ?_
    refine hk14 _ _ ?_
    refine Run.ret ?_
    have hi2 : i = 2 := by omega
    subst hi2
    obtain ⟨h1, _⟩ | ⟨_, rfl⟩ := hM
    · omega
    exact J.ends (res_tmp rfl rfl) (.cons (by repeat (first | exact Pick.head | apply Pick.tail)) Takes.nil) ⟨rfl, rfl⟩
end Slb
