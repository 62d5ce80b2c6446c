/- K1: a part of the proof that a law of this package holds for every input; no condition. -/
import Derived.Test.YtgcjmamfbcmccaaC4
import Derived.Test.YtgcjmamfbcmccaaB25
import Derived.Test.YtgcjmamfbcmccaaB21
import Derived.Test.YtgcjmamfbcmccaaB26
import Derived.RangeFuncLeaves
import Derived.Shelf.SlGeneric
namespace Go.Proofs
open Go.Shelf
def Try.sortL_ren : Go.Shelf.Ren := ⟨fun | 6 => 46 | 15 => 54 | 14 => 53 | 28 => 66 | 29 => 67 | 20 => 58 | 21 => 59 | 22 => 60 | 23 => 61 | 24 => 62 | 25 => 63 | 26 => 64 | 27 => 65 | 46 => 70 | 47 => 71 | 48 => 72 | 49 => 73 | 50 => 74 | 57 => 76 | n => n, fun | 22 => 74 | 24 => 36 | 25 => 79 | 3 => 3 | 39 => 88 | 0 => 0 | 53 => 104 | 55 => 106 | 4 => 4 | 46 => 97 | 45 => 96 | 50 => 101 | 5 => 5 | 9 => 9 | 66 => 109 | 70 => 113 | 76 => 115 | 77 => 116 | n => n, fun | n => n⟩
theorem Try.sortL : Go.Proofs.SlLaysF0.n6 Try.prog Try.sortL_ren := {
  mixed := by kernel_rfl
  f6 := ⟨Try.f46.name, by decide, Try.func46.trans (congrArg some (by kernel_rfl))⟩
  f14 := ⟨Try.f53.name, by decide, Try.func53.trans (congrArg some (by kernel_rfl))⟩
  f15 := Try.func54.trans (congrArg some (by kernel_rfl))
  f20 := ⟨Try.f58.name, by decide, Try.func58.trans (congrArg some (by kernel_rfl))⟩
  f21 := ⟨Try.f59.name, by decide, Try.func59.trans (congrArg some (by kernel_rfl))⟩
  f22 := ⟨Try.f60.name, by decide, Try.func60.trans (congrArg some (by kernel_rfl))⟩
  f23 := ⟨Try.f61.name, by decide, Try.func61.trans (congrArg some (by kernel_rfl))⟩
  f24 := ⟨Try.f62.name, by decide, Try.func62.trans (congrArg some (by kernel_rfl))⟩
  f25 := ⟨Try.f63.name, by decide, Try.func63.trans (congrArg some (by kernel_rfl))⟩
  f26 := ⟨Try.f64.name, by decide, Try.func64.trans (congrArg some (by kernel_rfl))⟩
  f27 := ⟨Try.f65.name, by decide, Try.func65.trans (congrArg some (by kernel_rfl))⟩
  f28 := Try.func66.trans (congrArg some (by kernel_rfl))
  f29 := Try.func67.trans (congrArg some (by kernel_rfl))
  f46 := ⟨Try.f70.name, by decide, Try.func70.trans (congrArg some (by kernel_rfl))⟩
  f47 := Try.func71.trans (congrArg some (by kernel_rfl))
  f48 := Try.func72.trans (congrArg some (by kernel_rfl))
  f49 := ⟨Try.f73.name, by decide, Try.func73.trans (congrArg some (by kernel_rfl))⟩
  f50 := ⟨Try.f74.name, by decide, Try.func74.trans (congrArg some (by kernel_rfl))⟩
  f57 := ⟨Try.f76.name, by decide, Try.func76.trans (congrArg some (by kernel_rfl))⟩
  t0 := Try.underlying0
  a0 := Try.isAgg0
  z0 := Try.sizeOf0
  v0 := Try.zeroValue0
  t3 := Try.underlying3
  a3 := Try.isAgg3
  z3 := Try.sizeOf3
  v3 := Try.zeroValue3
  t4 := Try.underlying4
  a4 := Try.isAgg4
  z4 := Try.sizeOf4
  v4 := Try.zeroValue4
  t5 := Try.underlying5
  a5 := Try.isAgg5
  z5 := Try.sizeOf5
  v5 := Try.zeroValue5
  t9 := Try.underlying9
  a9 := Try.isAgg9
  z9 := Try.sizeOf9
  v9 := Try.zeroValue9
  t22 := Try.underlying74
  a22 := Try.isAgg74
  z22 := Try.sizeOf74
  v22 := Try.zeroValue74
  t25 := Try.underlying79
  a25 := Try.isAgg79
  z25 := Try.sizeOf79
  v25 := Try.zeroValue79
  t39 := Try.underlying88
  a39 := Try.isAgg88
  z39 := Try.sizeOf88
  v39 := Try.zeroValue88
  t45 := Try.underlying96
  a45 := Try.isAgg96
  z45 := Try.sizeOf96
  v45 := Try.zeroValue96
  t46 := Try.underlying97
  a46 := Try.isAgg97
  z46 := Try.sizeOf97
  v46 := Try.zeroValue97
  t50 := Try.underlying101
  a50 := Try.isAgg101
  z50 := Try.sizeOf101
  v50 := Try.zeroValue101
  t53 := Try.underlying104
  a53 := Try.isAgg104
  z53 := Try.sizeOf104
  v53 := Try.zeroValue104
  t55 := Try.underlying106
  a55 := Try.isAgg106
  z55 := Try.sizeOf106
  v55 := Try.zeroValue106
  t66 := Try.underlying109
  a66 := Try.isAgg109
  z66 := Try.sizeOf109
  v66 := Try.zeroValue109
  t70 := Try.underlying113
  a70 := Try.isAgg113
  z70 := Try.sizeOf113
  v70 := Try.zeroValue113
  t76 := Try.underlying115
  a76 := Try.isAgg115
  z76 := Try.sizeOf115
  v76 := Try.zeroValue115
  t77 := Try.underlying116
  a77 := Try.isAgg116
  z77 := Try.sizeOf116
  v77 := Try.zeroValue116 }
end Go.Proofs
namespace Slb
open Go Go.Proofs
set_option maxRecDepth 20000
abbrev keyE (x : Pair) : Value := .agg (Pair.enc x).toArray
abbrev valE (e : Entry) : Value := .agg (Entry.enc e).toArray
@[reducible] def mapE (r : Nat) (M : List (Pair × Entry)) : HProp := mapT keyE valE r M
abbrev TabE := List (Pair × Entry)
instance : Inhabited Pair := ⟨Pair.zero⟩
theorem swoPair : Sort.SWO (Go.Proofs.ltOf cmpPair) := totPair.swo

theorem keysf_spec (F : Fr) {lp bx r : Nat} {M : TabE} (A : List Pair → HProp) (hy : ∀ pre x, pre.length < M.length → ∀ F', PH.le F.h F'.h → Yields Try.prog lp (keyE x) [A pre] F' [A (pre ++ [x])]) : Spec Try.prog 47 #[.func (.yield lp) #[] #[], .pointer (some ⟨bx, 0, none⟩)] [blk bx [.map (some r)] 62, mapE r M, A []] F (fun v S => ∃ ks : List Pair, ks.Perm (M.map (·.1)) ∧ S = [blk bx [.map (some r)] 62, mapE r M, A ks]) := by
 refine Spec.intro (N := 14) (args := [.func (.yield lp) #[] #[], .pointer (some ⟨bx, 0, none⟩)]) Try.func47 rfl rfl (by simp) ?_
 refine Run.seq fun k1 hk1 => ?_
 refine Run.region ?_
 show Sq _ _ _ [0, 1] _ _ _ _
 refine Sq.quiet (i := 0) rfl (Want.none rfl) rfl (ltN rfl) (QR.load1 rfl rfl g62 SubL.one) ?_
 refine Sq.eff (i := 1) rfl (Want.none rfl) rfl (ltN rfl) (EF.range rfl rfl Try.underlying62 (by repeat constructor)) ?_
 rintro _ _ ⟨it5, rfl, rfl⟩
 refine Sq.nil ?_
 refine hk1 _ _ ?_
 refine Run.block ?_
 refine Run.loop3 (fun (ks : List Pair) (todo : TabE) (cur : Option (Pair × Entry)) => (ks ++ todo.map (·.1)).Perm (M.map (·.1))) (fun ks todo cur => .cons 0 (.func (.yield lp) #[] #[]) (.cons 5 (.pointer (some ⟨it5, 0, none⟩)) (.nil))) (fun ks todo cur => [rangeT keyE valE r it5 M todo cur, A ks, blk bx [.map (some r)] 62]) (fun ks todo cur => todo.length) ([]) (M) (none) (List.Perm.refl _) ?_ ?_
 ·exact fun _ j => J.envJ (J.keep (.cons (by repeat constructor) (.cons (by repeat constructor) (.cons (by repeat constructor) Takes.nil))) j) ⟨rfl, rfl, trivial⟩
 rintro ks todo cur hperm kl2 hl2
 refine Run.seq fun k3 hk3 => ?_
 refine Run.region ?_
 show Sq _ _ _ [0, 1] _ _ _ _
 refine Sq.eff (i := 0) rfl (Want.none rfl) rfl (ltN rfl) (EF.next rfl rfl (by repeat constructor)) ?_
 rintro _ _ (⟨hn6, rfl, rfl⟩ | ⟨ix, px, hn6, rfl, rfl⟩)
 ·skip
  subst hn6
  have hdone : ks.Perm (M.map (·.1)) := by simpa using hperm
  refine Sq.quiet (i := 1) rfl (Want.none rfl) rfl (ltN rfl) (QP.extract rfl rfl rfl).read ?_
  refine Sq.nil ?_
  refine hk3 _ _ ?_
  refine Run.seq fun k4 hk4 => ?_
  refine Run.cond_f rfl ?_
  refine Run.exit rfl ?_
  refine J.rangeEnd (by repeat constructor) ?_
  exact J.ends (res_none rfl) (.cons (by repeat constructor) (.cons (by repeat constructor) (.cons (by repeat constructor) Takes.nil))) ⟨ks, hdone, rfl⟩
 ·skip
  have hlt : ks.length < M.length := by
    have h1 := hperm.length_eq
    have h2 := (List.getElem?_eq_some_iff.1 hn6).1
    simp at h1
    omega
  refine Sq.quiet (i := 1) rfl (Want.none rfl) rfl (ltN rfl) (QP.extract rfl rfl rfl).read ?_
  refine Sq.nil ?_
  refine hk3 _ _ ?_
  refine Run.seq fun k5 hk5 => ?_
  refine Run.cond_t rfl ?_
  refine Run.skip ?_
  refine hk5 _ _ ?_
  refine Run.block ?_
  refine Run.seq fun k6 hk6 => ?_
  refine Run.region ?_
  show Sq _ _ _ [0, 1, 2, 3] _ _ _ _
  refine Sq.quiet (i := 0) rfl (Want.none rfl) rfl (ltN rfl) (QR.entry rfl rfl) ?_
  refine Sq.quiet (i := 1) rfl (Want.none rfl) rfl (ltN rfl) (QP.extract rfl rfl rfl).read ?_
  refine Sq.eff (i := 2) rfl (Want.none rfl) rfl (ltN rfl) (EF.allocA (l := Pair.enc Pair.zero) rfl zero36) ?_
  rintro _ _ ⟨b3, rfl, rfl⟩
  refine Sq.act (i := 3) rfl (Want.none rfl) rfl (EF.storeA rfl rfl rfl z36 (SetL.all (Pair.enc_len _) (Pair.enc_len _)) (Pair.enc_cell _)) ?_
  rintro _ _ rfl
  refine Sq.nil ?_
  refine hk6 _ _ ?_
  refine Run.seq fun k7 hk7 => ?_
  refine Run.regionY ?_
  show SqI _ _ _ _ [0, 1, 2, 3] _ _ _ _
  refine SqI.quiet open_wide (i := 0) rfl (fun _ h => by cases h) (Want.none rfl) rfl (ltN rfl) (QP.move rfl rfl).read ?_
  refine SqI.quiet open_wide (i := 1) rfl (fun _ h => by cases h) (Want.none rfl) rfl (ltN rfl) (QR.load rfl rfl g36 (Pair.enc_sub _)) ?_
  refine SqI.yield (i := 2) rfl (Want.none rfl) rfl (ltN rfl) rfl rfl rfl (.cons (by repeat constructor) Takes.nil) (fun F' hle => hy ks px.1 hlt F' hle) ?_
  refine SqI.quiet open_wide (i := 3) rfl (fun _ h => by cases h) (Want.none rfl) rfl (ltN rfl) (QP.not rfl rfl).read ?_
  refine SqI.nil ?_
  refine hk7 _ _ ?_
  refine Run.cond_f rfl ?_
  refine Run.skip ?_
  exact J.envJ (J.keep (.cons (by repeat constructor) (.cons (by repeat constructor) (.cons (by repeat constructor) Takes.nil))) (hl2 (ks ++ [px.1]) (todo.eraseIdx ix) (some px) (by rw [List.append_assoc]; exact (List.Perm.append_left _ ((erase_perm hn6).map (·.1))).trans hperm) (by have h1 := (erase_perm hn6).length_eq; simp at h1; omega))) ⟨rfl, rfl, trivial⟩

theorem keys_spec (F : Fr) {r : Nat} : Spec Try.prog 39 #[.map (some r)] [] F (fun v S => ∃ bx, v = .func (.func 47) #[] #[.pointer (some ⟨bx, 0, none⟩)] ∧ S = [blk bx [.map (some r)] 62]) := by
 refine Spec.intro (N := 4) (args := [.map (some r)]) Try.func39 rfl rfl (by simp) ?_
 refine Run.seq fun k1 hk1 => ?_
 refine Run.region ?_
 show Sq _ _ _ [0, 1] _ _ _ _
 refine Sq.eff (i := 0) rfl (Want.none rfl) rfl (ltN rfl) (EF.box1 rfl rfl rfl) ?_
 rintro _ _ ⟨b1, rfl, rfl⟩
 refine Sq.quiet (i := 1) rfl (Want.none rfl) rfl (ltN rfl) (QP.assign rfl rfl).read ?_
 refine Sq.nil ?_
 refine hk1 _ _ ?_
 refine Run.seq fun k2 hk2 => ?_
 refine Run.region ?_
 show Sq _ _ _ [0, 1] _ _ _ _
 refine Sq.quiet (i := 0) rfl (Want.none rfl) rfl (ltN rfl) (QP.makeFunc rfl rfl).read ?_
 refine Sq.quiet (i := 1) rfl (Want.none rfl) rfl (ltN rfl) (QP.assign rfl rfl).read ?_
 refine Sq.nil ?_
 refine hk2 _ _ ?_
 refine Run.ret ?_
 exact J.ends (res_tmp rfl rfl) (.cons (by repeat constructor) Takes.nil) ⟨_, rfl, rfl⟩

/-- What AppendSeq keeps between two rounds. -/
def ApB (b2 : Nat) (pre : List Pair) : HProp := ex fun u => stars [blk b2 [u] 74, slA 36 34 Pair.enc u pre]
theorem foldB {F : Fr} {w : World} {A : HProp} {R : List HProp} {b2 : Nat} {u : Value} {pre : List Pair} (s : Sat (blk b2 [u] 74 :: slA 36 34 Pair.enc u pre :: A :: R) F w) : Sat [A, ApB b2 pre] F w := by
  have s1 : Sat ([blk b2 [u] 74, slA 36 34 Pair.enc u pre, A] ++ R) F w := s
  have s2 := s1.dropR
  have s3 : Sat [stars [blk b2 [u] 74, slA 36 34 Pair.enc u pre], A] F w := Sat.unflat (L := [_, _]) s2
  exact (s3.head fun h hh => ⟨u, hh⟩).perm (List.Perm.swap _ _ _)
set_option maxRecDepth 20000 in
theorem appendSeq_spec (F : Fr) {bx r : Nat} {M : TabE} (hM : M.length ≤ 1000000) :
    Spec Try.prog 52 #[.slice none 0 0, .func (.func 47) #[] #[.pointer (some ⟨bx, 0, none⟩)]] [blk bx [.map (some r)] 62, mapE r M] F fun v S => ∃ ks : List Pair, ks.Perm (M.map (·.1)) ∧ S = [mapE r M, slA 36 34 Pair.enc v ks] := by
  refine Spec.introM (N := 13) (args := [.slice none 0 0, .func (.func 47) #[] #[.pointer (some ⟨bx, 0, none⟩)]]) Try.func52 rfl rfl (by simp) fun Q hQ => ?_
  refine RunI.seq fun k1 hk1 => ?_
  refine RunI.region ?_
  show SqI _ _ _ _ [0, 1] _ _ _ _
  refine SqI.eff open_wide (i := 0) rfl (fun _ h => by cases h) (Want.none rfl) rfl (ltN rfl) (EF.box1 rfl rfl rfl) ?_
  rintro _ _ ⟨b2, rfl, rfl⟩
  refine SqI.quiet open_wide (i := 1) rfl (fun _ h => by cases h) (Want.none rfl) rfl (ltN rfl) (QP.assign rfl rfl).read ?_
  refine SqI.nil ?_
  refine J.mono ?_ hk1
  refine RunI.seq fun k2 hk2 => ?_
  refine RunI.seq fun k3 hk3 => ?_
  refine RunI.region ?_
  show SqI _ _ _ _ [0] _ _ _ _
  refine SqI.quiet open_wide (i := 0) rfl (fun _ h => by cases h) (Want.none rfl) rfl (ltN rfl) (QP.move rfl rfl).read ?_
  refine SqI.nil ?_
  refine J.mono ?_ hk3
  refine RunI.block ?_
  refine J.addSl 36 34 Pair.enc ?_
  refine range_over (X := { ks : List Pair // ks.Perm (M.map (·.1)) }) (T := fun ks => [ApB b2 ks.1, blk bx [.map (some r)] 62, mapE r M]) rfl ce47 (fun F' fn tmps l D hle hsz hG => ?_) (fun D x a w st => ?_)
  · generalize hL : lrec fn tmps 7 _ _ D = L
    have hy : ∀ (pre : List Pair) (x : Pair), pre.length < M.length → ∀ F2 : Fr, PH.le F'.h F2.h → Yields Try.prog l (keyE x) [stars [pts l (.loop L), ApB b2 pre]] F2 [stars [pts l (.loop L), ApB b2 (pre ++ [x])]] := by
      intro pre x hlt F2 hle2
      subst hL
      refine Yields.flat ?_
      refine yields_of (d := 5) (A1 := fun b5 => blk b5 (Pair.enc x) 36) hsz (by decide) hG ?_ ?_
      · intro S K hK
        refine RunI.region ?_
        show SqI _ _ _ _ [0, 1] _ _ _ _
        refine SqI.eff (open_round _) (i := 0) rfl (fun _ h => by cases h) (Want.none rfl) rfl (ltN rfl) (EF.allocA (l := Pair.enc Pair.zero) rfl zero36) ?_
        rintro _ _ ⟨b5, rfl, rfl⟩
        refine SqI.act (open_round _) (i := 1) rfl (fun _ h => by cases h) (Want.none rfl) rfl (EF.storeA rfl rfl rfl z36 (SetL.all (Pair.enc_len _) (Pair.enc_len _)) (Pair.enc_cell _)) ?_
        rintro _ _ rfl
        refine SqI.nil ?_
        exact hK b5
      · intro b5 A Q2 hQ2
        refine RunI.block ?_
        refine J.ex (by repeat constructor) (fun u => ?_)
        refine J.conseq (fun w s => Sat.flat s) ?_
        show J _ _ [blk b2 [u] 74, slA 36 34 Pair.enc u pre, blk b5 (Pair.enc x) 36, A] _ _
        refine RunI.region ?_
        show SqI _ _ _ _ [0, 1, 2, 3, 4] _ _ _ _
        refine SqI.quiet (open_round _) (i := 0) rfl (fun _ h => by cases h) (Want.none rfl) rfl (ltN rfl) (QR.load1 rfl rfl g74 SubL.one) ?_
        refine SqI.quiet (open_round _) (i := 1) rfl (fun _ h => by cases h) (Want.none rfl) rfl (ltN rfl) (QR.load rfl rfl g36 (Pair.enc_sub _)) ?_
        refine SqI.eff (open_round _) (i := 2) rfl (fun _ h => by cases h) (Want.none rfl) rfl (ltN rfl) (EF.buildSlice1 rfl Try.underlying74 z36 zero36 (by simp [Value.cells, Pair.enc_len]) (by decide) rfl rfl (Pair.enc_len _) (by decide)) ?_
        rintro _ _ ⟨b10, rfl, rfl⟩
        refine SqI.eff (open_round _) (i := 3) rfl (fun _ h => by cases h) (Want.none rfl) rfl (ltN rfl) (EF.append1 (xs := pre) (s := x) el36 Pair.enc_len Pair.enc_cell rfl rfl rfl Try.underlying74 Try.underlying74 rfl rfl (by repeat constructor) (by repeat constructor) (by first | omega | (simp <;> omega))) ?_
        rintro sl11 _ rfl
        refine J.slCase (v := sl11) (by repeat constructor) (fun a11 c11 hv11 hh11 => ?_)
        subst hv11
        refine SqI.act (open_round _) (i := 4) rfl (fun _ h => by cases h) (Want.none rfl) rfl (EF.store rfl rfl rfl z74 SetL.one (cell_one rfl)) ?_
        rintro _ _ rfl
        refine SqI.nil ?_
        refine J.keep (m := [blk b2 [_] 74, slA 36 34 Pair.enc _ (pre ++ [x]), A]) (.cons (by repeat constructor) (.cons (by repeat constructor) (.cons (by repeat constructor) Takes.nil))) ?_
        exact J.conseq (fun w s => foldB (R := []) s) (hQ2 _)
    refine Spec.conseq (S1 := [blk bx [.map (some r)] 62, mapE r M, stars [pts l (.loop L), ApB b2 []]]) (fun w s => ?_) (keysf_spec F' (fun pre => stars [pts l (.loop L), ApB b2 pre]) hy) ?_
    · have s1 : Sat ([pts l (.loop L)] ++ [slA 36 34 Pair.enc (.slice none 0 0) [], blk b2 [.slice none 0 0] 74] ++ [blk bx [.map (some r)] 62, mapE r M]) F' w := s
      have s2 : Sat ([blk b2 [.slice none 0 0] 74, slA 36 34 Pair.enc (.slice none 0 0) []] ++ ([pts l (.loop L)] ++ [blk bx [.map (some r)] 62, mapE r M])) F' w := s1.perm (by
        refine (List.Perm.append_right _ List.perm_append_comm).trans ?_
        simp only [List.append_assoc]
        exact List.Perm.append_right _ (List.Perm.swap _ _ _))
      have s3 : Sat (ApB b2 [] :: ([pts l (.loop L)] ++ [blk bx [.map (some r)] 62, mapE r M])) F' w := (Sat.unflat s2).head fun h hh => ⟨_, hh⟩
      have s4 : Sat ([pts l (.loop L), ApB b2 []] ++ [blk bx [.map (some r)] 62, mapE r M]) F' w := s3.perm (List.Perm.swap _ _ _)
      exact (Sat.unflat s4).perm ((List.perm_append_comm (l₁ := [_]) (l₂ := [_, _])))
    · rintro v S' w ⟨ks, hp, rfl⟩ s
      refine ⟨_, ⟨⟨ks, hp⟩, rfl⟩, ?_⟩
      have s1 := Sat.flat (s.perm (List.perm_append_comm (l₁ := [_, _]) (l₂ := [_])))
      exact s1
  · refine (?_ : J 13 _ (pts D (.deferred (some [])) :: [ApB b2 x.1, blk bx [.map (some r)] 62, mapE r M]) F fun a w => k2 { a with defers := [{ target := .collected D, args := #[] }] } w) a w st
    refine J.ex (by repeat constructor) (fun u => ?_)
    refine J.conseq (fun w s => Sat.flat s) ?_
    show J _ _ [blk b2 [u] 74, slA 36 34 Pair.enc u x.1, pts D (.deferred (some [])), blk bx [.map (some r)] 62, mapE r M] _ _
    refine J.mono (Φ := fun a w => Code.wpIn Fence.wide 0 Try.prog _ Q { a with defers := [{ target := .collected D, args := #[] }] } w) ?_ (fun a w h => hk2 _ _ h)
    refine fun a w s => wpIn_seq_k fun k4 hk4 => wpIn_region ?_
    refine (?_ : J 13 _ _ F fun a w => wpOpsIn Fence.wide 0 Try.prog _ (Exit.then k4 Q) [0, 1] { a with defers := [{ target := .collected D, args := #[] }] } w) a w s
    refine SqM.quiet open_wide (i := 0) rfl (fun _ h => by cases h) rfl rfl (ltN rfl) (QR.load1 rfl rfl g74 SubL.one) ?_
    refine SqM.quiet open_wide (i := 1) rfl (fun _ h => by cases h) rfl rfl (ltN rfl) (QP.assign rfl rfl).read ?_
    refine J.mono (Φ := fun a w => Q .ret { a with defers := [{ target := .collected D, args := #[] }] } w) ?_ (fun a w h => hk4 _ _ (wpIn_ret h))
    refine J.keep (m := [pts D (.deferred (some [])), mapE r M, slA 36 34 Pair.enc u x.1]) (.cons (by repeat constructor) (.cons (by repeat constructor) (.cons (by repeat constructor) Takes.nil))) ?_
    exact hQ D _ _ u (resM rfl rfl) ⟨x.1, x.2, rfl⟩

theorem collect_spec (F : Fr) {bx r : Nat} {M : TabE} (hM : M.length ≤ 1000000) : Spec Try.prog 45 #[.func (.func 47) #[] #[.pointer (some ⟨bx, 0, none⟩)]] [blk bx [.map (some r)] 62, mapE r M] F (fun v S => ∃ ks : List Pair, ks.Perm (M.map (·.1)) ∧ S = [mapE r M, slA 36 34 Pair.enc v ks]) := by
 refine Spec.intro (N := 5) (args := [.func (.func 47) #[] #[.pointer (some ⟨bx, 0, none⟩)]]) Try.func45 rfl rfl (by simp) ?_
 refine Run.seq fun k1 hk1 => ?_
 refine Run.region ?_
 show Sq _ _ _ [0] _ _ _ _
 refine Sq.quiet (i := 0) rfl (Want.none rfl) rfl (ltN rfl) (QP.assign rfl rfl).read ?_
 refine Sq.nil ?_
 refine hk1 _ _ ?_
 refine Run.seq fun k2 hk2 => ?_
 refine Run.region ?_
 show Sq _ _ _ [0, 1, 2] _ _ _ _
 refine Sq.quiet (i := 0) rfl (Want.none rfl) rfl (ltN rfl) (QP.move rfl rfl).read ?_
 refine Sq.eff (i := 1) rfl (Want.none rfl) rfl (ltN rfl) (EF.call rfl ce52 rfl (.cons (by repeat constructor) (.cons (by repeat constructor) Takes.nil)) (fun F' hle hr => appendSeq_spec F' hM)) ?_
 rintro v4 _ ⟨_, ⟨ks, hp, rfl⟩, rfl⟩
 refine J.app ?_
 refine Sq.quiet (i := 2) rfl (Want.none rfl) rfl (ltN rfl) (QP.assign rfl rfl).read ?_
 refine Sq.nil ?_
 refine hk2 _ _ ?_
 refine Run.ret ?_
 exact J.ends (res_tmp rfl rfl) (.cons (by repeat constructor) (.cons (by repeat constructor) Takes.nil)) ⟨ks, hp, rfl⟩

theorem sortP (F : Fr) {v : Value} {xs : List Pair} (hn : xs.length ≤ 4294967296) : Spec Try.prog 46 #[v, .func (.func 40) #[] #[]] [slA 36 34 Pair.enc v xs] F fun u S => u = .tuple #[] ∧ ∃ ys : List Pair, ys.Perm xs ∧ (ys.Pairwise fun a b => ¬ cmpPair b a < 0) ∧ S = [slA 36 34 Pair.enc v ys] :=
  Spec.sortFunc Try.sortL (fun w => g36.agg w) (fun w => g36.size w) Pair.enc_len Pair.enc_cell swoPair ce40 (fun F x y => cmpPair_spec F x y) (by omega) F
def cmpE (x y : Entry) : Int := cmpPair x.pair y.pair
theorem keyCmpE : KeyCmp Entry.pair cmpE := KeyCmp.of totPair (fun _ _ => rfl)
abbrev OrdE (M : TabE) (L : List Entry) : Prop := InOrder Entry.pair cmpE M L

theorem sortedFunc_spec (F : Fr) {bx r : Nat} {M : TabE} (hM : M.length ≤ 1000000) {L : List Entry} (ho : OrdE M L) : Spec Try.prog 38 #[.func (.func 47) #[] #[.pointer (some ⟨bx, 0, none⟩)], .func (.func 40) #[] #[]] [blk bx [.map (some r)] 62, mapE r M] F (fun v S => S = [mapE r M, slA 36 34 Pair.enc v (L.map Entry.pair)]) := by
 refine Spec.intro (N := 12) (args := [.func (.func 47) #[] #[.pointer (some ⟨bx, 0, none⟩)], .func (.func 40) #[] #[]]) Try.func38 rfl rfl (by simp) ?_
 refine Run.seq fun k1 hk1 => ?_
 refine Run.region ?_
 show Sq _ _ _ [0] _ _ _ _
 refine Sq.quiet (i := 0) rfl (Want.none rfl) rfl (ltN rfl) (QP.assign rfl rfl).read ?_
 refine Sq.nil ?_
 refine hk1 _ _ ?_
 refine Run.seq fun k2 hk2 => ?_
 refine Run.region ?_
 show Sq _ _ _ [0, 1, 2] _ _ _ _
 refine Sq.quiet (i := 0) rfl (Want.none rfl) rfl (ltN rfl) (QP.move rfl rfl).read ?_
 refine Sq.eff (i := 1) rfl (Want.none rfl) rfl (ltN rfl) (EF.call rfl ce45 rfl (.cons (by repeat constructor) (.cons (by repeat constructor) Takes.nil)) (fun F' hle hr => collect_spec F' hM)) ?_
 rintro v7 _ ⟨_, ⟨ks, hp, rfl⟩, rfl⟩
 refine J.app ?_
 refine Sq.quiet (i := 2) rfl (Want.none rfl) rfl (ltN rfl) (QP.assign rfl rfl).read ?_
 refine Sq.nil ?_
 refine hk2 _ _ ?_
 refine Run.seq fun k3 hk3 => ?_
 refine Run.region ?_
 show Sq _ _ _ [0, 1, 2] _ _ _ _
 refine Sq.quiet (i := 0) rfl (Want.none rfl) rfl (ltN rfl) (QP.move rfl rfl).read ?_
 refine Sq.quiet (i := 1) rfl (Want.none rfl) rfl (ltN rfl) (QP.move rfl rfl).read ?_
 refine Sq.eff (i := 2) rfl (Want.none rfl) rfl (ltN rfl) (EF.call rfl ce46 rfl (.cons (by repeat constructor) Takes.nil) (fun F' hle hr => sortP F' (by have := hp.length_eq; simp at this; omega))) ?_
 rintro _ _ ⟨_, ⟨rfl, ys, hys, hso, rfl⟩, rfl⟩
 refine J.app ?_
 refine Sq.nil ?_
 refine hk3 _ _ ?_
 refine Run.seq fun k4 hk4 => ?_
 refine Run.region ?_
 show Sq _ _ _ [0, 1] _ _ _ _
 obtain rfl := ho.keys totPair (fun _ _ => rfl) (hys.trans hp) hso
 refine Sq.quiet (i := 0) rfl (Want.none rfl) rfl (ltN rfl) (QP.move rfl rfl).read ?_
 refine Sq.quiet (i := 1) rfl (Want.none rfl) rfl (ltN rfl) (QP.assign rfl rfl).read ?_
 refine Sq.nil ?_
 refine hk4 _ _ ?_
 refine Run.ret ?_
 exact J.ends (res_tmp rfl rfl) (.cons (by repeat constructor) (.cons (by repeat constructor) Takes.nil)) rfl

theorem list_spec (F : Fr) {r : Nat} {M : TabE} (hM : M.length ≤ 1000000) {L : List Entry} (ho : OrdE M L) : Spec Try.prog 29 #[.map (some r)] [mapE r M] F (fun v S => S = [mapE r M, slA 38 51 Entry.enc v L]) := by
 refine Spec.intro (N := 21) (args := [.map (some r)]) Try.func29 rfl rfl (by simp) ?_
 refine Run.seq fun k1 hk1 => ?_
 refine Run.region ?_
 show Sq _ _ _ [0] _ _ _ _
 refine J.addSl 38 51 Entry.enc ?_
 refine Sq.quiet (i := 0) rfl (Want.none rfl) rfl (ltN rfl) (QP.assign rfl rfl).read ?_
 refine Sq.nil ?_
 refine hk1 _ _ ?_
 refine Run.seq fun k2 hk2 => ?_
 refine Run.seq fun k3 hk3 => ?_
 refine Run.region ?_
 show Sq _ _ _ [0, 1, 2, 3, 4] _ _ _ _
 refine Sq.quiet (i := 0) rfl (Want.none rfl) rfl (ltN rfl) (QP.move rfl rfl).read ?_
 refine Sq.eff (i := 1) rfl (Want.none rfl) rfl (ltN rfl) (EF.call rfl ce39 rfl Takes.nil (fun F' hle hr => keys_spec F')) ?_
 rintro _ _ ⟨_, ⟨bx, rfl, rfl⟩, rfl⟩
 refine J.app ?_
 refine Sq.eff (i := 2) rfl (Want.none rfl) rfl (ltN rfl) (EF.call rfl ce38 rfl (.cons (by repeat constructor) (.cons (by repeat constructor) Takes.nil)) (fun F' hle hr => sortedFunc_spec F' hM ho)) ?_
 rintro v7 _ ⟨_, rfl, rfl⟩
 refine J.app ?_
 refine Sq.slCase (v := v7) (xs := L.map Entry.pair) (by repeat constructor) (fun a7 c7 hv7 hh7 => ?_)
 subst hv7
 have hll : (L.map Entry.pair).length = L.length := List.length_map _
 have hlm := ho.length
 refine Sq.quiet (i := 3) rfl (Want.none rfl) rfl (ltN rfl) (QP.len rfl rfl rfl Try.underlying74).read ?_
 refine Sq.quiet (i := 4) rfl (Want.none rfl) rfl (ltN rfl) (QP.move rfl rfl).read ?_
 refine Sq.nil ?_
 refine hk3 _ _ ?_
 refine Run.block ?_
 refine Run.loop2 (fun (i : Nat) (vl : Value) => i ≤ L.length) (fun i vl => .cons 0 (.map (some r)) (.cons 2 (vl) (.cons 7 (.slice a7 (L.map Entry.pair).length c7) (.cons 8 (.int .i64 (L.map Entry.pair).length) (.cons 9 (.int .i64 i) (.nil)))))) (fun i vl => [mapE r M, slA 36 34 Pair.enc (.slice a7 (L.map Entry.pair).length c7) (L.map Entry.pair), slA 38 51 Entry.enc vl (L.take i)]) (fun i vl => L.length - i) (0) (.slice none 0 0) (Nat.zero_le _) ?_ ?_
 ·exact fun _ j => J.envJ (J.keep (.cons (by repeat constructor) (.cons (by repeat constructor) (.cons (by repeat constructor) Takes.nil))) j) ⟨rfl, rfl, rfl, rfl, rfl, trivial⟩
 rintro i vl hile kl4 hl4
 refine Run.seq fun k5 hk5 => ?_
 refine Run.region ?_
 show Sq _ _ _ [0] _ _ _ _
 refine Sq.quiet (i := 0) rfl (Want.none rfl) rfl (ltN rfl) (QP.lss rfl rfl rfl).read ?_
 refine J.caseD (fun c10 => ?_) (fun c10 => ?_)
 ·skip
  refine Sq.nil ?_
  refine hk5 _ _ ?_
  refine Run.seq fun k6 hk6 => ?_
  refine Run.cond_t rfl ?_
  refine Run.skip ?_
  refine hk6 _ _ ?_
  refine Run.seq fun k7 hk7 => ?_
  refine Run.block ?_
  refine Run.seq fun k8 hk8 => ?_
  refine Run.region ?_
  show Sq _ _ _ [0, 1, 2, 3] _ _ _ _
  have hlt : i < L.length := by omega
  obtain ⟨e, he⟩ : ∃ e, L[i]? = some e := ⟨_, List.getElem?_eq_getElem hlt⟩
  have hi : (L.map Entry.pair)[i]? = some e.pair := by rw [List.getElem?_map, he]; rfl
  obtain ⟨b0, o0, rfl⟩ := hh7.get (by omega)
  have htl : (L.take i).length ≤ 1000000 := by rw [List.length_take]; omega
  have hlk : alook M e.pair = some e := ho.mem.1 (List.mem_of_getElem? he)
  refine Sq.quiet (i := 0) rfl (Want.none rfl) rfl (ltN rfl) (QP.indexAddr rfl rfl rfl Try.underlying74 z36 (by first | omega | (simp <;> omega)) (by first | omega | (simp <;> omega))).read ?_
  refine Sq.quiet (i := 1) rfl (Want.none rfl) rfl (ltN rfl) (QR.loadSl rfl rfl g36 Pair.enc_len (SlAt.own Pair.enc_len (by repeat constructor)) hi) ?_
  refine Sq.eff (i := 2) rfl (Want.none rfl) rfl (ltN rfl) (EF.allocA (l := Pair.enc Pair.zero) rfl zero36) ?_
  rintro _ _ ⟨b4, rfl, rfl⟩
  refine Sq.act (i := 3) rfl (Want.none rfl) rfl (EF.storeA rfl rfl rfl z36 (SetL.all (Pair.enc_len _) (Pair.enc_len _)) (Pair.enc_cell _)) ?_
  rintro _ _ rfl
  refine Sq.nil ?_
  refine hk8 _ _ ?_
  refine Run.region ?_
  show Sq _ _ _ [0, 1, 2, 3, 4, 5, 6] _ _ _ _
  refine Sq.quiet (i := 0) rfl (Want.none rfl) rfl (ltN rfl) (QP.move rfl rfl).read ?_
  refine Sq.quiet (i := 1) rfl (Want.none rfl) rfl (ltN rfl) (QP.move rfl rfl).read ?_
  refine Sq.quiet (i := 2) rfl (Want.none rfl) rfl (ltN rfl) (QR.load rfl rfl g36 (Pair.enc_sub _)) ?_
  refine Sq.quiet (i := 3) rfl (Want.none rfl) rfl (ltN rfl) (QR.lookupV key36 rfl rfl rfl Try.underlying62 (z := Entry.zero) zero38) ?_
  rw [hlk, Option.getD_some]
  refine Sq.eff (i := 4) rfl (Want.none rfl) rfl (ltN rfl) (EF.buildSlice1 rfl Try.underlying22 z38 zero38 (by simp [Value.cells, Entry.enc_len]) (by decide) rfl rfl (Entry.enc_len _) (by decide)) ?_
  rintro _ _ ⟨b17, rfl, rfl⟩
  refine Sq.eff (i := 5) rfl (Want.none rfl) rfl (ltN rfl) (EF.append1 (xs := (L.take i)) (s := e) el38 Entry.enc_len Entry.enc_cell rfl rfl rfl Try.underlying22 Try.underlying22 rfl rfl (by repeat constructor) (by repeat constructor) (by first | omega | (simp <;> omega))) ?_
  rintro sl18 _ rfl
  refine Sq.quiet (i := 6) rfl (Want.none rfl) rfl (ltN rfl) (QP.assign rfl rfl).read ?_
  refine Sq.nil ?_
  refine hk7 _ _ ?_
  refine Run.region ?_
  show Sq _ _ _ [0, 1] _ _ _ _
  refine Sq.quiet (i := 0) rfl (Want.none rfl) rfl (ltN rfl) (QP.add64 rfl rfl rfl (by first | omega | (simp <;> omega)) (by first | omega | (simp <;> omega))).read ?_
  refine Sq.quiet (i := 1) rfl (Want.none rfl) rfl (ltN rfl) (QP.move rfl rfl).read ?_
  refine Sq.nil ?_
  refine J.slEq (v := sl18) (by repeat constructor) (show L.take i ++ [e] = L.take (i + 1) by rw [List.take_add_one, he]; rfl) ?_
  exact J.envJ (J.keep (.cons (by repeat constructor) (.cons (by repeat constructor) (.cons (by repeat constructor) Takes.nil))) (hl4 (i + 1) (sl18) (by omega) (by omega))) ⟨rfl, rfl, rfl, rfl, rfl, trivial⟩
 ·skip
  refine Sq.nil ?_
  refine hk5 _ _ ?_
  refine Run.seq fun k9 hk9 => ?_
  refine Run.cond_f rfl ?_
  refine Run.exit rfl ?_
  refine hk2 _ _ ?_
  refine Run.seq fun k10 hk10 => ?_
  refine Run.region ?_
  show Sq _ _ _ [0, 1] _ _ _ _
  refine Sq.quiet (i := 0) rfl (Want.none rfl) rfl (ltN rfl) (QP.move rfl rfl).read ?_
  refine Sq.quiet (i := 1) rfl (Want.none rfl) rfl (ltN rfl) (QP.assign rfl rfl).read ?_
  refine Sq.nil ?_
  refine hk10 _ _ ?_
  refine Run.ret ?_
  have hty : L.take i = L := List.take_of_length_le (by omega)
  rw [hty]
  exact J.ends (res_tmp rfl rfl) (.cons (by repeat constructor) (.cons (by repeat constructor) Takes.nil)) rfl
end Slb
