/- K8: a part of the proof that a law of this package holds for every input; no condition. -/
import Derived.Test.YtgcjmamfbcmccaaK5
import Derived.Test.YtgcjmamfbcmccaaB28
namespace Slb
open Go Go.Proofs
set_option maxRecDepth 20000
/-- What all entries of a table are like. -/
structure GoodE (M : TabE) : Prop where
  keyed : ∀ e ∈ M, e.1 = e.2.pair
  nodup : (M.map (·.1)).Nodup
  ok : ∀ e ∈ M, checkPairB e.1 = true
theorem GoodE.nil : GoodE [] := ⟨by simp, by simp, by simp⟩
theorem GoodE.set {M : TabE} (h : GoodE M) {e : Entry} (he : checkPairB e.pair = true) : GoodE (aset M e.pair e) :=
  ⟨InOrder.keyed_set rfl h.keyed, nodup_set h.nodup _ _, fun x hx => by
    rcases mem_aset hx with rfl | hx
    · exact he
    · exact h.ok x hx⟩
theorem GoodE.imp {M1 M2 : TabE} (h : GoodE M2) (e : Entry) : GoodE (impK M1 M2 e) := by
  cases hq : impOk M1 M2 e with
  | false => rw [impK_no hq]; exact h
  | true =>
    rw [impK_yes hq]
    refine h.set ?_
    unfold impOk at hq
    simp only [Bool.and_eq_true] at hq
    exact hq.2.2
theorem GoodE.imps {M1 : TabE} (xs : List Entry) : ∀ {M2 : TabE}, GoodE M2 → GoodE (xs.foldl (impK M1) M2) := by
  induction xs with
  | nil => exact fun h => h
  | cons e xs ih => exact fun h => ih (h.imp e)
theorem GoodE.ord {M : TabE} (h : GoodE M) : ∃ L, OrdE M L := ord_ex keyCmpE M.length rfl h.keyed h.nodup
def eF : Entry := ⟨⟨⟨addr4 9 9 9 9, ⟨128, by omega⟩⟩, any4⟩, ⟨7, by omega⟩, Bs.zero 16⟩
theorem okF : checkPairB eF.pair = true := by kernel_rfl
theorem doFail {m : Int} (h : m > 0) (M1 M2 : TabE) (o : Op) : doK m M1 M2 o = (false, m - 1, M1) := by unfold doK; rw [if_pos h]
theorem doFree {M2 : TabE} (h : alook M2 eF.pair = none) : doK 0 [] M2 ⟨1, eF⟩ = (true, 0, [(eF.pair, eF)]) := by
  unfold doK
  rw [if_neg (by omega), if_pos okF, if_pos (.inl ⟨rfl, rfl, by rw [show (⟨1, eF⟩ : Op).entry.pair = eF.pair from rfl, h]; rfl⟩)]
  rfl
theorem doHeld {M2 : TabE} {x : Entry} (h : alook M2 eF.pair = some x) : doK 0 [] M2 ⟨1, eF⟩ = (false, 0, []) := by
  unfold doK
  rw [if_neg (by omega), if_pos okF, if_neg (by
    rintro (⟨_, _, h3⟩ | ⟨h1, _⟩)
    · rw [show (⟨1, eF⟩ : Op).entry.pair = eF.pair from rfl, h] at h3; cases h3
    · cases h1), if_neg (by rintro ⟨h1, _⟩; cases h1)]

theorem law_fails (F : Fr) {a : Option Addr} {c : Nat} {xs : List Entry} (hc : xs.length ≤ 9223372036854775807) (ha : ArgSl F a 51 Entry.enc xs) (n : Int) : Spec Try.prog 3 #[.slice a xs.length c, .int .i64 n] [] F (fun v S => v = .bool true ∧ S = []) := by
 refine Spec.intro (N := 81) (args := [.slice a xs.length c, .int .i64 n]) Try.func3 rfl rfl (by simp) ?_
 refine Run.seq fun k1 hk1 => ?_
 refine Run.region ?_
 show Sq _ _ _ [0] _ _ _ _
 refine Sq.quiet (i := 0) rfl (Want.none rfl) rfl (ltN rfl) (QP.assign rfl rfl).read ?_
 refine Sq.nil ?_
 refine hk1 _ _ ?_
 refine Run.seq fun k2 hk2 => ?_
 refine Run.seq fun k3 hk3 => ?_
 refine Run.region ?_
 show Sq _ _ _ [0, 1, 2, 3, 4, 5, 6, 7, 8, 9, 10] _ _ _ _
 refine Sq.quiet (i := 0) rfl (Want.none rfl) rfl (ltN rfl) (QP.move rfl rfl).read ?_
 refine Sq.quiet (i := 1) rfl (Want.none rfl) rfl (ltN rfl) (QP.len rfl rfl rfl Try.underlying22).read ?_
 refine Sq.quiet (i := 2) rfl (Want.none rfl) rfl (ltN rfl) (QP.gtr rfl rfl rfl).read ?_
 refine J.caseD (fun c12 => ?_) (fun c12 => ?_)
 ·skip
  refine Sq.quiet (i := 3) rfl (Want.none rfl) rfl (ltN rfl) (QP.move rfl rfl).read ?_
  refine Sq.skip (i := 4) rfl (Want.no rfl rfl rfl rfl) rfl (ltN rfl) ?_
  refine Sq.skip (i := 5) rfl (Want.no rfl rfl rfl rfl) rfl (ltN rfl) ?_
  refine Sq.quiet (i := 6) rfl (Want.none rfl) rfl (ltN rfl) (QP.pick_t rfl rfl rfl).read ?_
  refine Sq.quiet (i := 7) rfl (Want.none rfl) rfl (ltN rfl) (QP.move rfl rfl).read ?_
  refine Sq.skip (i := 8) rfl (Want.no rfl rfl rfl rfl) rfl (ltN rfl) ?_
  refine Sq.skip (i := 9) rfl (Want.no rfl rfl rfl rfl) rfl (ltN rfl) ?_
  refine Sq.quiet (i := 10) rfl (Want.none rfl) rfl (ltN rfl) (QP.pick_t rfl rfl rfl).read ?_
  refine Sq.nil ?_
  refine hk3 _ _ ?_
  refine Run.cond_t rfl ?_
  refine Run.seq fun k4 hk4 => ?_
  refine Run.region ?_
  show Sq _ _ _ [0, 1] _ _ _ _
  refine Sq.eff (i := 0) rfl (Want.none rfl) rfl (ltN rfl) (EF.call rfl ce8 rfl Takes.nil (fun F' hle hr => live_spec F')) ?_
  rintro _ _ ⟨_, ⟨rfl, rfl⟩, rfl⟩
  refine J.app ?_
  refine Sq.quiet (i := 1) rfl (Want.none rfl) rfl (ltN rfl) (QP.assign rfl rfl).read ?_
  refine Sq.nil ?_
  refine hk4 _ _ ?_
  refine Run.ret ?_
  exact J.ends (res_tmp rfl rfl) Takes.nil ⟨rfl, rfl⟩
 ·skip
  refine Sq.quiet (i := 3) rfl (Want.none rfl) rfl (ltN rfl) (QP.move rfl rfl).read ?_
  refine Sq.quiet (i := 4) rfl (Want.yes rfl rfl rfl rfl) rfl (ltN rfl) (QP.move rfl rfl).read ?_
  refine Sq.quiet (i := 5) rfl (Want.yes rfl rfl rfl rfl) rfl (ltN rfl) (QP.lss rfl rfl rfl).read ?_
  refine J.caseD (fun c15 => ?_) (fun c15 => ?_)
  ·skip
   refine Sq.quiet (i := 6) rfl (Want.none rfl) rfl (ltN rfl) (QP.pick_f rfl rfl rfl).read ?_
   refine Sq.quiet (i := 7) rfl (Want.none rfl) rfl (ltN rfl) (QP.move rfl rfl).read ?_
   refine Sq.skip (i := 8) rfl (Want.no rfl rfl rfl rfl) rfl (ltN rfl) ?_
   refine Sq.skip (i := 9) rfl (Want.no rfl rfl rfl rfl) rfl (ltN rfl) ?_
   refine Sq.quiet (i := 10) rfl (Want.none rfl) rfl (ltN rfl) (QP.pick_t rfl rfl rfl).read ?_
   refine Sq.nil ?_
   refine hk3 _ _ ?_
   refine Run.cond_t rfl ?_
   refine Run.seq fun k5 hk5 => ?_
   refine Run.region ?_
   show Sq _ _ _ [0, 1] _ _ _ _
   refine Sq.eff (i := 0) rfl (Want.none rfl) rfl (ltN rfl) (EF.call rfl ce8 rfl Takes.nil (fun F' hle hr => live_spec F')) ?_
   rintro _ _ ⟨_, ⟨rfl, rfl⟩, rfl⟩
   refine J.app ?_
   refine Sq.quiet (i := 1) rfl (Want.none rfl) rfl (ltN rfl) (QP.assign rfl rfl).read ?_
   refine Sq.nil ?_
   refine hk5 _ _ ?_
   refine Run.ret ?_
   exact J.ends (res_tmp rfl rfl) Takes.nil ⟨rfl, rfl⟩
  ·skip
   refine Sq.quiet (i := 6) rfl (Want.none rfl) rfl (ltN rfl) (QP.pick_f rfl rfl rfl).read ?_
   refine Sq.quiet (i := 7) rfl (Want.none rfl) rfl (ltN rfl) (QP.move rfl rfl).read ?_
   refine Sq.quiet (i := 8) rfl (Want.yes rfl rfl rfl rfl) rfl (ltN rfl) (QP.move rfl rfl).read ?_
   refine Sq.quiet (i := 9) rfl (Want.yes rfl rfl rfl rfl) rfl (ltN rfl) (QP.gtr rfl rfl rfl).read ?_
   refine J.caseD (fun c19 => ?_) (fun c19 => ?_)
   ·skip
    refine Sq.quiet (i := 10) rfl (Want.none rfl) rfl (ltN rfl) (QP.pick_f rfl rfl rfl).read ?_
    refine Sq.nil ?_
    refine hk3 _ _ ?_
    refine Run.cond_t rfl ?_
    refine Run.seq fun k6 hk6 => ?_
    refine Run.region ?_
    show Sq _ _ _ [0, 1] _ _ _ _
    refine Sq.eff (i := 0) rfl (Want.none rfl) rfl (ltN rfl) (EF.call rfl ce8 rfl Takes.nil (fun F' hle hr => live_spec F')) ?_
    rintro _ _ ⟨_, ⟨rfl, rfl⟩, rfl⟩
    refine J.app ?_
    refine Sq.quiet (i := 1) rfl (Want.none rfl) rfl (ltN rfl) (QP.assign rfl rfl).read ?_
    refine Sq.nil ?_
    refine hk6 _ _ ?_
    refine Run.ret ?_
    exact J.ends (res_tmp rfl rfl) Takes.nil ⟨rfl, rfl⟩
   ·skip
    refine Sq.quiet (i := 10) rfl (Want.none rfl) rfl (ltN rfl) (QP.pick_f rfl rfl rfl).read ?_
    refine Sq.nil ?_
    refine hk3 _ _ ?_
    refine Run.cond_f rfl ?_
    refine Run.skip ?_
    refine hk2 _ _ ?_
    refine Run.seq fun k7 hk7 => ?_
    refine Run.region ?_
    show Sq _ _ _ [0, 1] _ _ _ _
    refine Sq.eff (i := 0) rfl (Want.none rfl) rfl (ltN rfl) (EF.call rfl ce9 rfl Takes.nil (fun F' hle hr => newK F')) ?_
    rintro _ _ ⟨_, ⟨kb, kr1, kr2, rfl, rfl⟩, rfl⟩
    refine J.app ?_
    refine Sq.quiet (i := 1) rfl (Want.none rfl) rfl (ltN rfl) (QP.assign rfl rfl).read ?_
    refine Sq.nil ?_
    refine hk7 _ _ ?_
    refine Run.seq fun k8 hk8 => ?_
    refine Run.seq fun k9 hk9 => ?_
    refine Run.region ?_
    show Sq _ _ _ [0, 1] _ _ _ _
    refine Sq.quiet (i := 0) rfl (Want.none rfl) rfl (ltN rfl) (QP.move rfl rfl).read ?_
    refine Sq.quiet (i := 1) rfl (Want.none rfl) rfl (ltN rfl) (QP.ptr_eq_nil rfl rfl rfl Try.underlying24).read ?_
    refine Sq.nil ?_
    refine hk9 _ _ ?_
    refine Run.cond_f rfl ?_
    refine Run.skip ?_
    refine hk8 _ _ ?_
    refine Run.seq fun k10 hk10 => ?_
    refine Run.region ?_
    show Sq _ _ _ [0, 1, 2] _ _ _ _
    have hl150 : xs.length ≤ 150 := by omega
    refine Sq.quiet (i := 0) rfl (Want.none rfl) rfl (ltN rfl) (QP.move rfl rfl).read ?_
    refine Sq.quiet (i := 1) rfl (Want.none rfl) rfl (ltN rfl) (QP.move rfl rfl).read ?_
    refine Sq.eff (i := 2) rfl (Want.none rfl) rfl (ltN rfl) (EF.call rfl ce10 rfl (.cons (by repeat constructor) (.cons (by repeat constructor) Takes.nil)) (fun F' hle hr => import_spec F' ⟨hr _ _ (by repeat constructor)⟩ (ha.mono hle) (by omega) (by decide))) ?_
    rintro _ _ ⟨_, ⟨rfl, rfl⟩, rfl⟩
    refine J.app ?_
    refine Sq.nil ?_
    refine hk10 _ _ ?_
    refine Run.seq fun k11 hk11 => ?_
    refine Run.region ?_
    show Sq _ _ _ [0, 1, 2] _ _ _ _
    have hgood : GoodE (xs.foldl (impK []) []) := GoodE.imps xs GoodE.nil
    obtain ⟨L, hL⟩ := hgood.ord
    have hMl : (xs.foldl (impK []) []).length ≤ 1000000 := by have := (imp_len [] xs []).2; simp only [List.length_nil] at this; omega
    have hLl : L.length ≤ 1000000 := by rw [hL.length]; exact hMl
    generalize hM : xs.foldl (impK []) [] = M2 at hgood hL hMl ⊢
    refine Sq.quiet (i := 0) rfl (Want.none rfl) rfl (ltN rfl) (QP.move rfl rfl).read ?_
    refine Sq.eff (i := 1) rfl (Want.none rfl) rfl (ltN rfl) (EF.call rfl ce11 rfl (.cons (by repeat constructor) Takes.nil) (fun F' hle hr => imported_spec F' ⟨hr _ _ (by repeat constructor)⟩ hMl hL)) ?_
    rintro v29 _ ⟨_, rfl, rfl⟩
    refine J.app ?_
    refine Sq.slCase (v := v29) (xs := L) (by repeat constructor) (fun a29 c29 hv29 hh29 => ?_)
    subst hv29
    refine Sq.quiet (i := 2) rfl (Want.none rfl) rfl (ltN rfl) (QP.assign rfl rfl).read ?_
    refine Sq.nil ?_
    refine hk11 _ _ ?_
    refine Run.seq fun k12 hk12 => ?_
    refine Run.region ?_
    show Sq _ _ _ [0, 1, 2] _ _ _ _
    refine Sq.quiet (i := 0) rfl (Want.none rfl) rfl (ltN rfl) (QP.move rfl rfl).read ?_
    refine Sq.quiet (i := 1) rfl (Want.none rfl) rfl (ltN rfl) (QP.move rfl rfl).read ?_
    refine Sq.eff (i := 2) rfl (Want.none rfl) rfl (ltN rfl) (EF.call rfl ce12 rfl (.cons (by repeat constructor) Takes.nil) (fun F' hle hr => fail_spec F' _)) ?_
    rintro _ _ ⟨_, ⟨rfl, rfl⟩, rfl⟩
    refine J.app ?_
    refine Sq.nil ?_
    refine hk12 _ _ ?_
    refine Run.seq fun k13 hk13 => ?_
    refine Run.region ?_
    show Sq _ _ _ [0, 1, 2, 3, 4, 5, 6] _ _ _ _
    refine Sq.eff (i := 0) rfl (Want.none rfl) rfl (ltN rfl) (EF.call rfl ce13 rfl Takes.nil (fun F' hle hr => func4_spec F' 9 9 9 9)) ?_
    rintro _ _ ⟨_, ⟨rfl, rfl⟩, rfl⟩
    refine J.app ?_
    refine Sq.quiet (i := 1) rfl (Want.none rfl) rfl (ltN rfl) (QP.build (l := Prefix.enc ⟨((addr4 9 9 9 9)), (⟨128, by omega⟩ : I64)⟩) rfl st33 rfl (by exact ⟨(congrArg some (Bs.len _).symm), ⟨rfl, trivial⟩⟩) rfl).read ?_
    refine Sq.eff (i := 2) rfl (Want.none rfl) rfl (ltN rfl) (EF.call rfl ce14 rfl Takes.nil (fun F' hle hr => any4_spec F')) ?_
    rintro _ _ ⟨_, ⟨rfl, rfl⟩, rfl⟩
    refine J.app ?_
    refine Sq.quiet (i := 3) rfl (Want.none rfl) rfl (ltN rfl) (QP.build (l := Pair.enc ⟨((⟨((addr4 9 9 9 9)), (⟨128, by omega⟩ : I64)⟩ : Prefix)), (any4)⟩) rfl st36 rfl (by exact ⟨(congrArg some (Prefix.enc_len _).symm), ⟨(congrArg some (Prefix.enc_len _).symm), trivial⟩⟩) rfl).read ?_
    refine Sq.quiet (i := 4) rfl (Want.none rfl) rfl (ltN rfl) (QP.build (l := Entry.enc ⟨((⟨((⟨((addr4 9 9 9 9)), (⟨128, by omega⟩ : I64)⟩ : Prefix)), (any4)⟩ : Pair)), (⟨7, by omega⟩ : I64), (Bs.zero 16)⟩) rfl st38 rfl (by exact ⟨(congrArg some (Pair.enc_len _).symm), ⟨rfl, trivial⟩⟩) rfl).read ?_
    refine Sq.eff (i := 5) rfl (Want.none rfl) rfl (ltN rfl) (EF.allocA (l := Entry.enc Entry.zero) rfl zero38) ?_
    rintro _ _ ⟨b7, rfl, rfl⟩
    rw [show (⟨((⟨((⟨((addr4 9 9 9 9)), (⟨128, by omega⟩ : I64)⟩ : Prefix)), (any4)⟩ : Pair)), (⟨7, by omega⟩ : I64), (Bs.zero 16)⟩ : Entry) = eF from rfl]
    refine Sq.act (i := 6) rfl (Want.none rfl) rfl (EF.storeA rfl rfl rfl z38 (SetL.all (Entry.enc_len _) (Entry.enc_len _)) (Entry.enc_cell _)) ?_
    rintro _ _ rfl
    refine Sq.nil ?_
    refine hk13 _ _ ?_
    refine Run.seq fun k14 hk14 => ?_
    refine Run.region ?_
    show Sq _ _ _ [0, 1, 2, 3, 4, 5] _ _ _ _
    refine Sq.quiet (i := 0) rfl (Want.none rfl) rfl (ltN rfl) (QP.move rfl rfl).read ?_
    refine Sq.quiet (i := 1) rfl (Want.none rfl) rfl (ltN rfl) (QP.fieldAddr rfl rfl f38_0).read ?_
    refine Sq.quiet (i := 2) rfl (Want.none rfl) rfl (ltN rfl) (QR.load rfl rfl g36 (Entry.sub_pair _)) ?_
    refine Sq.eff (i := 3) rfl (Want.none rfl) rfl (ltN rfl) (EF.call rfl ce15 rfl (.cons (by repeat constructor) Takes.nil) (fun F' hle hr => find_spec F' hLl hh29 _)) ?_
    rintro _ _ ⟨_, ⟨rfl, n41, rfl, hfind⟩, rfl⟩
    refine J.app ?_
    rcases hfind with ⟨rfl, hno⟩ | ⟨i41, x41, rfl, hi41, hk41⟩
    ·skip
     refine Sq.quiet (i := 4) rfl (Want.none rfl) rfl (ltN rfl) (QP.lss rfl rfl rfl).read ?_
     refine Sq.quiet (i := 5) rfl (Want.none rfl) rfl (ltN rfl) (QP.assign rfl rfl).read ?_
     refine Sq.nil ?_
     refine hk14 _ _ ?_
     refine Run.seq fun k15 hk15 => ?_
     refine Run.seq fun k16 hk16 => ?_
     refine Run.region ?_
     show Sq _ _ _ [0] _ _ _ _
     rw [show (if 0 > n then 0 else n) = n - ((0 : Nat) : Int) by rw [if_neg (by omega)]; omega]
     have hlk : alook M2 eF.pair = none := hL.look_none.2 hno
     refine Sq.quiet (i := 0) rfl (Want.none rfl) rfl (ltN rfl) (QP.assign rfl rfl).read ?_
     refine Sq.nil ?_
     refine hk16 _ _ ?_
     refine Run.block ?_
     refine Run.loop1 (fun (j : Nat) => (j : Int) ≤ n) (fun j => .cons 1 (.int .i64 n) (.cons 5 (.pointer (some ⟨kb, 0, none⟩)) (.cons 6 (.slice a29 L.length c29) (.cons 7 (.pointer (some ⟨b7, 0, none⟩)) (.cons 8 (.bool true) (.cons 9 (.int .i64 j) (.nil))))))) (fun j => [blk kb (KernelKernel.enc ⟨some kr1, some kr2, n - (j : Int)⟩) 64, mapE kr1 [], mapE kr2 M2, slA 38 51 Entry.enc (.slice a29 L.length c29) L, blk b7 (Entry.enc eF) 38]) (fun j => n.toNat - j) (0) (by omega) ?_ ?_
     ·exact fun _ j => J.envJ (J.keep (.cons (by repeat constructor) (.cons (by repeat constructor) (.cons (by repeat constructor) (.cons (by repeat constructor) (.cons (by repeat constructor) Takes.nil))))) j) ⟨rfl, rfl, rfl, rfl, rfl, rfl, trivial⟩
     rintro j hjn kl17 hl17
     refine Run.seq fun k18 hk18 => ?_
     refine Run.seq fun k19 hk19 => ?_
     refine Run.region ?_
     show Sq _ _ _ [0, 1, 2] _ _ _ _
     refine Sq.quiet (i := 0) rfl (Want.none rfl) rfl (ltN rfl) (QP.move rfl rfl).read ?_
     refine Sq.quiet (i := 1) rfl (Want.none rfl) rfl (ltN rfl) (QP.move rfl rfl).read ?_
     refine Sq.quiet (i := 2) rfl (Want.none rfl) rfl (ltN rfl) (QP.lss rfl rfl rfl).read ?_
     refine J.caseD (fun c45 => ?_) (fun c45 => ?_)
     ·skip
      refine Sq.nil ?_
      refine hk19 _ _ ?_
      refine Run.cond_t rfl ?_
      refine Run.skip ?_
      refine hk18 _ _ ?_
      refine Run.seq fun k20 hk20 => ?_
      refine Run.block ?_
      refine Run.seq fun k21 hk21 => ?_
      refine Run.region ?_
      show Sq _ _ _ [0, 1, 2, 3, 4, 5, 6, 7, 8, 9] _ _ _ _
      refine Sq.quiet (i := 0) rfl (Want.none rfl) rfl (ltN rfl) (QP.move rfl rfl).read ?_
      refine Sq.quiet (i := 1) rfl (Want.none rfl) rfl (ltN rfl) (QR.load rfl rfl g38 (Entry.enc_sub _)) ?_
      refine Sq.quiet (i := 2) rfl (Want.none rfl) rfl (ltN rfl) (QP.build (l := Op.enc ⟨(1), (eF)⟩) rfl st42 rfl (by exact ⟨rfl, ⟨(congrArg some (Entry.enc_len _).symm), trivial⟩⟩) rfl).read ?_
      refine Sq.eff (i := 3) rfl (Want.none rfl) rfl (ltN rfl) (EF.call rfl ce16 rfl (.cons (by repeat constructor) (.cons (by repeat constructor) (.cons (by repeat constructor) Takes.nil))) (fun F' hle hr => do_spec F' (by first | omega | decide) _)) ?_
      rintro _ _ ⟨_, ⟨rfl, rfl⟩, rfl⟩
      refine J.app ?_
      rw [doFail (by omega), show n - (j : Int) - 1 = n - ((j + 1 : Nat) : Int) by omega]
      refine Sq.quiet (i := 4) rfl (Want.none rfl) rfl (ltN rfl) (QP.move rfl rfl).read ?_
      refine Sq.quiet (i := 5) rfl (Want.yes rfl rfl rfl rfl) rfl (ltN rfl) (QP.move rfl rfl).read ?_
      refine Sq.eff (i := 6) rfl (Want.yes rfl rfl rfl rfl) rfl (ltN rfl) (EF.call rfl ce17 rfl (.cons (by repeat constructor) Takes.nil) (fun F' hle hr => list1_spec F' ⟨hr _ _ (by repeat constructor)⟩ (by decide) (L := []) InOrder.nil)) ?_
      rintro v54 _ ⟨_, rfl, rfl⟩
      refine J.app ?_
      refine Sq.slCase (v := v54) (xs := ([] : List Entry)) (by repeat constructor) (fun a54 c54 hv54 hh54 => ?_)
      subst hv54
      refine Sq.quiet (i := 7) rfl (Want.yes rfl rfl rfl rfl) rfl (ltN rfl) (QP.len rfl rfl rfl Try.underlying22).read ?_
      refine Sq.quiet (i := 8) rfl (Want.yes rfl rfl rfl rfl) rfl (ltN rfl) (QP.neq rfl rfl rfl).read ?_
      refine J.decF (by simp) ?_
      refine Sq.quiet (i := 9) rfl (Want.none rfl) rfl (ltN rfl) (QP.pick_f rfl rfl rfl).read ?_
      refine Sq.nil ?_
      refine hk21 _ _ ?_
      refine Run.cond_f rfl ?_
      refine Run.skip ?_
      refine hk20 _ _ ?_
      refine Run.region ?_
      show Sq _ _ _ [0, 1, 2] _ _ _ _
      refine Sq.quiet (i := 0) rfl (Want.none rfl) rfl (ltN rfl) (QP.move rfl rfl).read ?_
      refine Sq.quiet (i := 1) rfl (Want.none rfl) rfl (ltN rfl) (QP.add64 rfl rfl rfl (by first | omega | (simp <;> omega)) (by first | omega | (simp <;> omega))).read ?_
      refine Sq.quiet (i := 2) rfl (Want.none rfl) rfl (ltN rfl) (QP.assign rfl rfl).read ?_
      refine Sq.nil ?_
      exact J.envJ (J.keep (.cons (by repeat constructor) (.cons (by repeat constructor) (.cons (by repeat constructor) (.cons (by repeat constructor) (.cons (by repeat constructor) Takes.nil))))) (hl17 (j + 1) (by omega) (by omega))) ⟨rfl, rfl, rfl, rfl, rfl, rfl, trivial⟩
     ·skip
      refine Sq.nil ?_
      refine hk19 _ _ ?_
      refine Run.cond_f rfl ?_
      refine Run.exit rfl ?_
      refine hk15 _ _ ?_
      refine Run.seq fun k22 hk22 => ?_
      refine Run.region ?_
      show Sq _ _ _ [0, 1, 2, 3, 4, 5, 6, 7, 8, 9, 10, 11, 12, 13, 14, 15, 16, 17, 18, 19, 20, 21, 22, 23] _ _ _ _
      rw [show n - (j : Int) = 0 by omega]
      refine Sq.quiet (i := 0) rfl (Want.none rfl) rfl (ltN rfl) (QP.move rfl rfl).read ?_
      refine Sq.quiet (i := 1) rfl (Want.none rfl) rfl (ltN rfl) (QR.load rfl rfl g38 (Entry.enc_sub _)) ?_
      refine Sq.quiet (i := 2) rfl (Want.none rfl) rfl (ltN rfl) (QP.build (l := Op.enc ⟨(1), (eF)⟩) rfl st42 rfl (by exact ⟨rfl, ⟨(congrArg some (Entry.enc_len _).symm), trivial⟩⟩) rfl).read ?_
      refine Sq.eff (i := 3) rfl (Want.none rfl) rfl (ltN rfl) (EF.call rfl ce16 rfl (.cons (by repeat constructor) (.cons (by repeat constructor) (.cons (by repeat constructor) Takes.nil))) (fun F' hle hr => do_spec F' (by first | omega | decide) _)) ?_
      rintro _ _ ⟨_, ⟨rfl, rfl⟩, rfl⟩
      refine J.app ?_
      rw [doFree hlk]
      refine Sq.quiet (i := 4) rfl (Want.none rfl) rfl (ltN rfl) (QP.move rfl rfl).read ?_
      refine Sq.quiet (i := 5) rfl (Want.none rfl) rfl (ltN rfl) (QP.eqlB rfl rfl rfl Try.underlying4).read ?_
      refine J.boolT (rfl) ?_
      refine Sq.quiet (i := 6) rfl (Want.none rfl) rfl (ltN rfl) (QP.move rfl rfl).read ?_
      refine Sq.quiet (i := 7) rfl (Want.yes rfl rfl rfl rfl) rfl (ltN rfl) (QP.move rfl rfl).read ?_
      refine Sq.eff (i := 8) rfl (Want.yes rfl rfl rfl rfl) rfl (ltN rfl) (EF.call rfl ce11 rfl (.cons (by repeat constructor) Takes.nil) (fun F' hle hr => imported_spec F' ⟨hr _ _ (by repeat constructor)⟩ hMl hL)) ?_
      rintro v66 _ ⟨_, rfl, rfl⟩
      refine J.app ?_
      refine Sq.slCase (v := v66) (xs := L) (by repeat constructor) (fun a66 c66 hv66 hh66 => ?_)
      subst hv66
      refine Sq.quiet (i := 9) rfl (Want.yes rfl rfl rfl rfl) rfl (ltN rfl) (QP.move rfl rfl).read ?_
      refine Sq.eff (i := 10) rfl (Want.yes rfl rfl rfl rfl) rfl (ltN rfl) (EF.call rfl ce18 rfl (.cons (by repeat constructor) (.cons (by repeat constructor) Takes.nil)) (fun F' hle hr => sameE F' hh66 hh29 hLl hLl)) ?_
      rintro _ _ ⟨_, ⟨rfl, rfl⟩, rfl⟩
      refine J.app ?_
      refine J.boolT (by simp) ?_
      refine Sq.quiet (i := 11) rfl (Want.none rfl) rfl (ltN rfl) (QP.pick_t rfl rfl rfl).read ?_
      refine Sq.quiet (i := 12) rfl (Want.none rfl) rfl (ltN rfl) (QP.move rfl rfl).read ?_
      refine Sq.quiet (i := 13) rfl (Want.yes rfl rfl rfl rfl) rfl (ltN rfl) (QP.move rfl rfl).read ?_
      refine Sq.eff (i := 14) rfl (Want.yes rfl rfl rfl rfl) rfl (ltN rfl) (EF.call rfl ce17 rfl (.cons (by repeat constructor) Takes.nil) (fun F' hle hr => list1_spec F' ⟨hr _ _ (by repeat constructor)⟩ (by decide) (ord_one eF))) ?_
      rintro v72 _ ⟨_, rfl, rfl⟩
      refine J.app ?_
      refine Sq.slCase (v := v72) (xs := [eF]) (by repeat constructor) (fun a72 c72 hv72 hh72 => ?_)
      subst hv72
      refine Sq.quiet (i := 15) rfl (Want.yes rfl rfl rfl rfl) rfl (ltN rfl) (QP.len rfl rfl rfl Try.underlying22).read ?_
      refine Sq.quiet (i := 16) rfl (Want.yes rfl rfl rfl rfl) rfl (ltN rfl) (QP.eql rfl rfl rfl).read ?_
      refine J.decT (by rfl) ?_
      refine Sq.quiet (i := 17) rfl (Want.yes rfl rfl rfl rfl) rfl (ltN rfl) (QP.move rfl rfl).read ?_
      refine Sq.quiet (i := 18) rfl (Want.yes rfl rfl rfl rfl) rfl (ltN rfl) (QP.eqlB rfl rfl rfl Try.underlying4).read ?_
      refine J.boolT (rfl) ?_
      refine Sq.quiet (i := 19) rfl (Want.none rfl) rfl (ltN rfl) (QP.pick_t rfl rfl rfl).read ?_
      refine Sq.quiet (i := 20) rfl (Want.none rfl) rfl (ltN rfl) (QP.move rfl rfl).read ?_
      refine Sq.eff (i := 21) rfl (Want.yes rfl rfl rfl rfl) rfl (ltN rfl) (EF.call rfl ce8 rfl Takes.nil (fun F' hle hr => live_spec F')) ?_
      rintro _ _ ⟨_, ⟨rfl, rfl⟩, rfl⟩
      refine J.app ?_
      refine Sq.quiet (i := 22) rfl (Want.none rfl) rfl (ltN rfl) (QP.pick_t rfl rfl rfl).read ?_
      refine Sq.quiet (i := 23) rfl (Want.none rfl) rfl (ltN rfl) (QP.assign rfl rfl).read ?_
      refine Sq.nil ?_
      refine hk22 _ _ ?_
      refine Run.ret ?_
      exact J.ends (res_tmp rfl rfl) Takes.nil ⟨rfl, rfl⟩
    ·skip
     refine Sq.quiet (i := 4) rfl (Want.none rfl) rfl (ltN rfl) (QP.lss rfl rfl rfl).read ?_
     refine J.decF (by omega) ?_
     refine Sq.quiet (i := 5) rfl (Want.none rfl) rfl (ltN rfl) (QP.assign rfl rfl).read ?_
     refine Sq.nil ?_
     refine hk14 _ _ ?_
     refine Run.seq fun k23 hk23 => ?_
     refine Run.seq fun k24 hk24 => ?_
     refine Run.region ?_
     show Sq _ _ _ [0] _ _ _ _
     rw [show (if 0 > n then 0 else n) = n - ((0 : Nat) : Int) by rw [if_neg (by omega)]; omega]
     have hlk : alook M2 eF.pair = some x41 := hL.look_iff.2 ⟨List.mem_of_getElem? hi41, hk41⟩
     refine Sq.quiet (i := 0) rfl (Want.none rfl) rfl (ltN rfl) (QP.assign rfl rfl).read ?_
     refine Sq.nil ?_
     refine hk24 _ _ ?_
     refine Run.block ?_
     refine Run.loop1 (fun (j : Nat) => (j : Int) ≤ n) (fun j => .cons 1 (.int .i64 n) (.cons 5 (.pointer (some ⟨kb, 0, none⟩)) (.cons 6 (.slice a29 L.length c29) (.cons 7 (.pointer (some ⟨b7, 0, none⟩)) (.cons 8 (.bool false) (.cons 9 (.int .i64 j) (.nil))))))) (fun j => [blk kb (KernelKernel.enc ⟨some kr1, some kr2, n - (j : Int)⟩) 64, mapE kr1 [], mapE kr2 M2, slA 38 51 Entry.enc (.slice a29 L.length c29) L, blk b7 (Entry.enc eF) 38]) (fun j => n.toNat - j) (0) (by omega) ?_ ?_
     ·exact fun _ j => J.envJ (J.keep (.cons (by repeat constructor) (.cons (by repeat constructor) (.cons (by repeat constructor) (.cons (by repeat constructor) (.cons (by repeat constructor) Takes.nil))))) j) ⟨rfl, rfl, rfl, rfl, rfl, rfl, trivial⟩
     rintro j hjn kl25 hl25
     refine Run.seq fun k26 hk26 => ?_
     refine Run.seq fun k27 hk27 => ?_
     refine Run.region ?_
     show Sq _ _ _ [0, 1, 2] _ _ _ _
     refine Sq.quiet (i := 0) rfl (Want.none rfl) rfl (ltN rfl) (QP.move rfl rfl).read ?_
     refine Sq.quiet (i := 1) rfl (Want.none rfl) rfl (ltN rfl) (QP.move rfl rfl).read ?_
     refine Sq.quiet (i := 2) rfl (Want.none rfl) rfl (ltN rfl) (QP.lss rfl rfl rfl).read ?_
     refine J.caseD (fun c45 => ?_) (fun c45 => ?_)
     ·skip
      refine Sq.nil ?_
      refine hk27 _ _ ?_
      refine Run.cond_t rfl ?_
      refine Run.skip ?_
      refine hk26 _ _ ?_
      refine Run.seq fun k28 hk28 => ?_
      refine Run.block ?_
      refine Run.seq fun k29 hk29 => ?_
      refine Run.region ?_
      show Sq _ _ _ [0, 1, 2, 3, 4, 5, 6, 7, 8, 9] _ _ _ _
      refine Sq.quiet (i := 0) rfl (Want.none rfl) rfl (ltN rfl) (QP.move rfl rfl).read ?_
      refine Sq.quiet (i := 1) rfl (Want.none rfl) rfl (ltN rfl) (QR.load rfl rfl g38 (Entry.enc_sub _)) ?_
      refine Sq.quiet (i := 2) rfl (Want.none rfl) rfl (ltN rfl) (QP.build (l := Op.enc ⟨(1), (eF)⟩) rfl st42 rfl (by exact ⟨rfl, ⟨(congrArg some (Entry.enc_len _).symm), trivial⟩⟩) rfl).read ?_
      refine Sq.eff (i := 3) rfl (Want.none rfl) rfl (ltN rfl) (EF.call rfl ce16 rfl (.cons (by repeat constructor) (.cons (by repeat constructor) (.cons (by repeat constructor) Takes.nil))) (fun F' hle hr => do_spec F' (by first | omega | decide) _)) ?_
      rintro _ _ ⟨_, ⟨rfl, rfl⟩, rfl⟩
      refine J.app ?_
      rw [doFail (by omega), show n - (j : Int) - 1 = n - ((j + 1 : Nat) : Int) by omega]
      refine Sq.quiet (i := 4) rfl (Want.none rfl) rfl (ltN rfl) (QP.move rfl rfl).read ?_
      refine Sq.quiet (i := 5) rfl (Want.yes rfl rfl rfl rfl) rfl (ltN rfl) (QP.move rfl rfl).read ?_
      refine Sq.eff (i := 6) rfl (Want.yes rfl rfl rfl rfl) rfl (ltN rfl) (EF.call rfl ce17 rfl (.cons (by repeat constructor) Takes.nil) (fun F' hle hr => list1_spec F' ⟨hr _ _ (by repeat constructor)⟩ (by decide) (L := []) InOrder.nil)) ?_
      rintro v54 _ ⟨_, rfl, rfl⟩
      refine J.app ?_
      refine Sq.slCase (v := v54) (xs := ([] : List Entry)) (by repeat constructor) (fun a54 c54 hv54 hh54 => ?_)
      subst hv54
      refine Sq.quiet (i := 7) rfl (Want.yes rfl rfl rfl rfl) rfl (ltN rfl) (QP.len rfl rfl rfl Try.underlying22).read ?_
      refine Sq.quiet (i := 8) rfl (Want.yes rfl rfl rfl rfl) rfl (ltN rfl) (QP.neq rfl rfl rfl).read ?_
      refine J.decF (by simp) ?_
      refine Sq.quiet (i := 9) rfl (Want.none rfl) rfl (ltN rfl) (QP.pick_f rfl rfl rfl).read ?_
      refine Sq.nil ?_
      refine hk29 _ _ ?_
      refine Run.cond_f rfl ?_
      refine Run.skip ?_
      refine hk28 _ _ ?_
      refine Run.region ?_
      show Sq _ _ _ [0, 1, 2] _ _ _ _
      refine Sq.quiet (i := 0) rfl (Want.none rfl) rfl (ltN rfl) (QP.move rfl rfl).read ?_
      refine Sq.quiet (i := 1) rfl (Want.none rfl) rfl (ltN rfl) (QP.add64 rfl rfl rfl (by first | omega | (simp <;> omega)) (by first | omega | (simp <;> omega))).read ?_
      refine Sq.quiet (i := 2) rfl (Want.none rfl) rfl (ltN rfl) (QP.assign rfl rfl).read ?_
      refine Sq.nil ?_
      exact J.envJ (J.keep (.cons (by repeat constructor) (.cons (by repeat constructor) (.cons (by repeat constructor) (.cons (by repeat constructor) (.cons (by repeat constructor) Takes.nil))))) (hl25 (j + 1) (by omega) (by omega))) ⟨rfl, rfl, rfl, rfl, rfl, rfl, trivial⟩
     ·skip
      refine Sq.nil ?_
      refine hk27 _ _ ?_
      refine Run.cond_f rfl ?_
      refine Run.exit rfl ?_
      refine hk23 _ _ ?_
      refine Run.seq fun k30 hk30 => ?_
      refine Run.region ?_
      show Sq _ _ _ [0, 1, 2, 3, 4, 5, 6, 7, 8, 9, 10, 11, 12, 13, 14, 15, 16, 17, 18, 19, 20, 21, 22, 23] _ _ _ _
      rw [show n - (j : Int) = 0 by omega]
      refine Sq.quiet (i := 0) rfl (Want.none rfl) rfl (ltN rfl) (QP.move rfl rfl).read ?_
      refine Sq.quiet (i := 1) rfl (Want.none rfl) rfl (ltN rfl) (QR.load rfl rfl g38 (Entry.enc_sub _)) ?_
      refine Sq.quiet (i := 2) rfl (Want.none rfl) rfl (ltN rfl) (QP.build (l := Op.enc ⟨(1), (eF)⟩) rfl st42 rfl (by exact ⟨rfl, ⟨(congrArg some (Entry.enc_len _).symm), trivial⟩⟩) rfl).read ?_
      refine Sq.eff (i := 3) rfl (Want.none rfl) rfl (ltN rfl) (EF.call rfl ce16 rfl (.cons (by repeat constructor) (.cons (by repeat constructor) (.cons (by repeat constructor) Takes.nil))) (fun F' hle hr => do_spec F' (by first | omega | decide) _)) ?_
      rintro _ _ ⟨_, ⟨rfl, rfl⟩, rfl⟩
      refine J.app ?_
      rw [doHeld hlk]
      refine Sq.quiet (i := 4) rfl (Want.none rfl) rfl (ltN rfl) (QP.move rfl rfl).read ?_
      refine Sq.quiet (i := 5) rfl (Want.none rfl) rfl (ltN rfl) (QP.eqlB rfl rfl rfl Try.underlying4).read ?_
      refine J.boolT (rfl) ?_
      refine Sq.quiet (i := 6) rfl (Want.none rfl) rfl (ltN rfl) (QP.move rfl rfl).read ?_
      refine Sq.quiet (i := 7) rfl (Want.yes rfl rfl rfl rfl) rfl (ltN rfl) (QP.move rfl rfl).read ?_
      refine Sq.eff (i := 8) rfl (Want.yes rfl rfl rfl rfl) rfl (ltN rfl) (EF.call rfl ce11 rfl (.cons (by repeat constructor) Takes.nil) (fun F' hle hr => imported_spec F' ⟨hr _ _ (by repeat constructor)⟩ hMl hL)) ?_
      rintro v66 _ ⟨_, rfl, rfl⟩
      refine J.app ?_
      refine Sq.slCase (v := v66) (xs := L) (by repeat constructor) (fun a66 c66 hv66 hh66 => ?_)
      subst hv66
      refine Sq.quiet (i := 9) rfl (Want.yes rfl rfl rfl rfl) rfl (ltN rfl) (QP.move rfl rfl).read ?_
      refine Sq.eff (i := 10) rfl (Want.yes rfl rfl rfl rfl) rfl (ltN rfl) (EF.call rfl ce18 rfl (.cons (by repeat constructor) (.cons (by repeat constructor) Takes.nil)) (fun F' hle hr => sameE F' hh66 hh29 hLl hLl)) ?_
      rintro _ _ ⟨_, ⟨rfl, rfl⟩, rfl⟩
      refine J.app ?_
      refine J.boolT (by simp) ?_
      refine Sq.quiet (i := 11) rfl (Want.none rfl) rfl (ltN rfl) (QP.pick_t rfl rfl rfl).read ?_
      refine Sq.quiet (i := 12) rfl (Want.none rfl) rfl (ltN rfl) (QP.move rfl rfl).read ?_
      refine Sq.quiet (i := 13) rfl (Want.yes rfl rfl rfl rfl) rfl (ltN rfl) (QP.move rfl rfl).read ?_
      refine Sq.eff (i := 14) rfl (Want.yes rfl rfl rfl rfl) rfl (ltN rfl) (EF.call rfl ce17 rfl (.cons (by repeat constructor) Takes.nil) (fun F' hle hr => list1_spec F' ⟨hr _ _ (by repeat constructor)⟩ (by decide) (L := []) InOrder.nil)) ?_
      rintro v72 _ ⟨_, rfl, rfl⟩
      refine J.app ?_
      refine Sq.slCase (v := v72) (xs := ([] : List Entry)) (by repeat constructor) (fun a72 c72 hv72 hh72 => ?_)
      subst hv72
      refine Sq.quiet (i := 15) rfl (Want.yes rfl rfl rfl rfl) rfl (ltN rfl) (QP.len rfl rfl rfl Try.underlying22).read ?_
      refine Sq.quiet (i := 16) rfl (Want.yes rfl rfl rfl rfl) rfl (ltN rfl) (QP.eql rfl rfl rfl).read ?_
      refine J.decF (by simp) ?_
      refine Sq.quiet (i := 17) rfl (Want.yes rfl rfl rfl rfl) rfl (ltN rfl) (QP.move rfl rfl).read ?_
      refine Sq.quiet (i := 18) rfl (Want.yes rfl rfl rfl rfl) rfl (ltN rfl) (QP.eqlB rfl rfl rfl Try.underlying4).read ?_
      refine J.boolT (rfl) ?_
      refine Sq.quiet (i := 19) rfl (Want.none rfl) rfl (ltN rfl) (QP.pick_t rfl rfl rfl).read ?_
      refine Sq.quiet (i := 20) rfl (Want.none rfl) rfl (ltN rfl) (QP.move rfl rfl).read ?_
      refine Sq.eff (i := 21) rfl (Want.yes rfl rfl rfl rfl) rfl (ltN rfl) (EF.call rfl ce8 rfl Takes.nil (fun F' hle hr => live_spec F')) ?_
      rintro _ _ ⟨_, ⟨rfl, rfl⟩, rfl⟩
      refine J.app ?_
      refine Sq.quiet (i := 22) rfl (Want.none rfl) rfl (ltN rfl) (QP.pick_t rfl rfl rfl).read ?_
      refine Sq.quiet (i := 23) rfl (Want.none rfl) rfl (ltN rfl) (QP.assign rfl rfl).read ?_
      refine Sq.nil ?_
      refine hk30 _ _ ?_
      refine Run.ret ?_
      exact J.ends (res_tmp rfl rfl) Takes.nil ⟨rfl, rfl⟩
end Slb
