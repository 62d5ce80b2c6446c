/- I70: a part of the proof that a law of this package holds for every input; no condition. -/
import Derived.Test.YtfokodhfjdhdaaaM2
import Derived.Test.YtfokodhfjdhdaaaI39
import Derived.RangeFuncLeaves
import Derived.Shelf.SlGeneric
namespace Go.Proofs
open Go.Shelf
open Slb (Kr)
def Try.sortL_ren : Go.Shelf.Ren := ⟨fun | 6 => 41 | 15 => 59 | 14 => 58 | 28 => 83 | 29 => 84 | 20 => 75 | 21 => 76 | 22 => 77 | 23 => 78 | 24 => 79 | 25 => 80 | 26 => 81 | 27 => 82 | 46 => 90 | 47 => 91 | 48 => 92 | 49 => 93 | 50 => 94 | 57 => 98 | n => n, fun | 22 => 86 | 24 => 23 | 25 => 91 | 3 => 3 | 39 => 134 | 0 => 0 | 53 => 94 | 55 => 156 | 4 => 4 | 46 => 149 | 45 => 148 | 50 => 61 | 5 => 5 | 9 => 9 | 66 => 164 | 70 => 168 | 76 => 175 | 77 => 127 | n => n, fun | n => n⟩
theorem Try.sortL : Go.Proofs.SlLaysF0.n6 Try.prog Try.sortL_ren := {
  mixed := by kernel_rfl
  f6 := ⟨Try.f41.name, by decide, Try.func41.trans (congrArg some Kr)⟩
  f14 := ⟨Try.f58.name, by decide, Try.func58.trans (congrArg some Kr)⟩
  f15 := Try.func59.trans (congrArg some Kr)
  f20 := ⟨Try.f75.name, by decide, Try.func75.trans (congrArg some Kr)⟩
  f21 := ⟨Try.f76.name, by decide, Try.func76.trans (congrArg some Kr)⟩
  f22 := ⟨Try.f77.name, by decide, Try.func77.trans (congrArg some Kr)⟩
  f23 := ⟨Try.f78.name, by decide, Try.func78.trans (congrArg some Kr)⟩
  f24 := ⟨Try.f79.name, by decide, Try.func79.trans (congrArg some Kr)⟩
  f25 := ⟨Try.f80.name, by decide, Try.func80.trans (congrArg some Kr)⟩
  f26 := ⟨Try.f81.name, by decide, Try.func81.trans (congrArg some Kr)⟩
  f27 := ⟨Try.f82.name, by decide, Try.func82.trans (congrArg some Kr)⟩
  f28 := Try.func83.trans (congrArg some Kr)
  f29 := Try.func84.trans (congrArg some Kr)
  f46 := ⟨Try.f90.name, by decide, Try.func90.trans (congrArg some Kr)⟩
  f47 := Try.func91.trans (congrArg some Kr)
  f48 := Try.func92.trans (congrArg some Kr)
  f49 := ⟨Try.f93.name, by decide, Try.func93.trans (congrArg some Kr)⟩
  f50 := ⟨Try.f94.name, by decide, Try.func94.trans (congrArg some Kr)⟩
  f57 := ⟨Try.f98.name, by decide, Try.func98.trans (congrArg some Kr)⟩
  t0 := Try.underlying0
  a0 := Try.isAgg0
  z0 := Try.sizeOf0
  v0 := Try.zeroValue0
  t3 := Try.underlying3
  a3 := Try.isAgg3
  z3 := Try.sizeOf3
  v3 := Try.zeroValue3
  t4 := Try.underlying4
  a4 := Try.isAgg4
  z4 := Try.sizeOf4
  v4 := Try.zeroValue4
  t5 := Try.underlying5
  a5 := Try.isAgg5
  z5 := Try.sizeOf5
  v5 := Try.zeroValue5
  t9 := Try.underlying9
  a9 := Try.isAgg9
  z9 := Try.sizeOf9
  v9 := Try.zeroValue9
  t22 := Try.underlying86
  a22 := Try.isAgg86
  z22 := Try.sizeOf86
  v22 := Try.zeroValue86
  t25 := Try.underlying91
  a25 := Try.isAgg91
  z25 := Try.sizeOf91
  v25 := Try.zeroValue91
  t39 := Try.underlying134
  a39 := Try.isAgg134
  z39 := Try.sizeOf134
  v39 := Try.zeroValue134
  t45 := Try.underlying148
  a45 := Try.isAgg148
  z45 := Try.sizeOf148
  v45 := Try.zeroValue148
  t46 := Try.underlying149
  a46 := Try.isAgg149
  z46 := Try.sizeOf149
  v46 := Try.zeroValue149
  t50 := Try.underlying61
  a50 := Try.isAgg61
  z50 := Try.sizeOf61
  v50 := Try.zeroValue61
  t53 := Try.underlying94
  a53 := Try.isAgg94
  z53 := Try.sizeOf94
  v53 := Try.zeroValue94
  t55 := Try.underlying156
  a55 := Try.isAgg156
  z55 := Try.sizeOf156
  v55 := Try.zeroValue156
  t66 := Try.underlying164
  a66 := Try.isAgg164
  z66 := Try.sizeOf164
  v66 := Try.zeroValue164
  t70 := Try.underlying168
  a70 := Try.isAgg168
  z70 := Try.sizeOf168
  v70 := Try.zeroValue168
  t76 := Try.underlying175
  a76 := Try.isAgg175
  z76 := Try.sizeOf175
  v76 := Try.zeroValue175
  t77 := Try.underlying127
  a77 := Try.isAgg127
  z77 := Try.sizeOf127
  v77 := Try.zeroValue127 }
end Go.Proofs
namespace Slb
open Go Go.Proofs
set_option maxRecDepth 20000
abbrev akE (x : Bs 16) : Value := .agg (Bs.enc x).toArray
@[reducible] def mapE (r : Option Nat) (M : List (Bs 16 × Nat)) : HProp := mapW akE pv r M
abbrev TabM := List (Bs 16 × Nat)
def cmpAd (x y : Bs 16) : Int := Lib.compareBytes x.l y.l
theorem totAd : TotCmp cmpAd := TotCmp.bytes 16
theorem swoAd : Sort.SWO (Go.Proofs.ltOf cmpAd) := totAd.swo
instance : Inhabited (Bs 16) := ⟨Bs.zero 16⟩

theorem keysf_spec (F : Fr) {lp bx : Nat} {r : Option Nat} {M : TabM} (A : List (Bs 16) → HProp) (hy : ∀ pre x, pre.length < M.length → ∀ F', PH.le F.h F'.h → Yields Try.prog lp (akE x) [A pre] F' [A (pre ++ [x])]) : Spec Try.prog 42 #[.func (.yield lp) #[] #[], .pointer (some ⟨bx, 0, none⟩)] [blk bx [.map r] 74, mapE r M, A []] F (fun v S => ∃ ks : List (Bs 16), ks.Perm (M.map (·.1)) ∧ S = [blk bx [.map r] 74, mapE r M, A ks]) := by
 refine Spec.intro (N := 14) (args := [.func (.yield lp) #[] #[], .pointer (some ⟨bx, 0, none⟩)]) Try.func42 rfl rfl (by simp) ?_
 refine Run.seq fun k1 hk1 => Run.region ?_
 show Sq _ _ _ [0, 1] _ _ _ _
 refine Qq 0 rfl rfl (QR.load1 rfl rfl g74 SubL.one) ?_
 refine Ef 1 rfl rfl (EF.rangeW rfl rfl Try.underlying74 Rc) ?_
 rintro _ _ ⟨it5, rfl, rfl⟩
 refine Sq.nil <| hk1 _ _ <| Run.block <| Run.loop3 (fun (ks : List (Bs 16)) (todo : TabM) (cur : Option (Bs 16 × Nat)) => (ks ++ todo.map (·.1)).Perm (M.map (·.1))) (fun ks todo cur => .cons 0 (.func (.yield lp) #[] #[]) (.cons 5 (.pointer (some ⟨it5, 0, none⟩)) (.nil))) (fun ks todo cur => [rangeW akE pv r it5 M todo cur, A ks, blk bx [.map r] 74]) (fun ks todo cur => todo.length) ([]) (M) (none) (List.Perm.refl _) ?_ ?_
 ·exact fun _ j => J.envJ (J.keep Tk3 j) ⟨rfl, rfl, trivial⟩
 rintro ks todo cur hperm kl2 hl2
 refine Run.seq fun k3 hk3 => Run.region ?_
 show Sq _ _ _ [0, 1] _ _ _ _
 refine Ef 0 rfl rfl (EF.nextW rfl rfl Rc) ?_
 rintro _ _ (⟨hn6, rfl, rfl⟩ | ⟨ix, px, hn6, rfl, rfl⟩)
 ·subst hn6
  have hdone : ks.Perm (M.map (·.1)) := by simpa using hperm
  refine Qp 1 rfl rfl (QP.extract rfl rfl rfl) <| Sq.nil <| hk3 _ _ <| Run.seq fun k4 hk4 => Run.cond_f rfl <| Run.exit rfl ?_
  refine J.rangeEndW Rc ?_
  exact J.ends (res_none rfl) Tk3 ⟨ks, hdone, rfl⟩
 ·have hlt : ks.length < M.length := by
    have h1 := hperm.length_eq
    have h2 := (List.getElem?_eq_some_iff.1 hn6).1
    simp at h1
    omega
  refine Qp 1 rfl rfl (QP.extract rfl rfl rfl) <| Sq.nil <| hk3 _ _ <| Run.seq fun k5 hk5 => Run.cond_t rfl <| Run.skip <| hk5 _ _ <| Run.block <| Run.seq fun k6 hk6 => Run.region ?_
  show Sq _ _ _ [0, 1, 2, 3] _ _ _ _
  refine Qq 0 rfl rfl (QR.entryW rfl rfl (w := r) (M := M) (todo := _) (ek := akE) (ev := pv) Rc) ?_
  refine Qp 1 rfl rfl (QP.extract rfl rfl rfl) <| Ef 2 rfl rfl (EF.allocA (l := (Bs.zero 16).enc) rfl zero23) ?_
  rintro _ _ ⟨b3, rfl, rfl⟩
  refine Ac 3 rfl (EF.storeA rfl rfl rfl z23 (SetL.all (Bs.len _) (Bs.len _)) (Bs.cell _)) ?_
  rintro _ _ rfl
  refine Sq.nil <| hk6 _ _ <| Run.seq fun k7 hk7 => Run.regionY ?_
  show SqI _ _ _ _ [0, 1, 2, 3] _ _ _ _
  refine SqI.quiet open_wide (i := 0) rfl (fun _ h => by cases h) (Want.none rfl) rfl (ltN rfl) (QP.move rfl rfl).read ?_
  refine SqI.quiet open_wide (i := 1) rfl (fun _ h => by cases h) (Want.none rfl) rfl (ltN rfl) (QR.load rfl rfl g23 (Bs.sub _)) ?_
  refine SqI.yield (i := 2) rfl (Want.none rfl) rfl (ltN rfl) rfl rfl rfl Tk1 (fun F' hle => hy ks px.1 hlt F' hle) ?_
  refine SqI.quiet open_wide (i := 3) rfl (fun _ h => by cases h) (Want.none rfl) rfl (ltN rfl) (QP.not rfl rfl).read ?_
  refine SqI.nil ?_
  refine hk7 _ _ <| Run.cond_f rfl <| Run.skip ?_
  exact J.envJ (J.keep Tk3 (hl2 (ks ++ [px.1]) (todo.eraseIdx ix) (some px) (by rw [List.append_assoc]; exact (List.Perm.append_left _ ((erase_perm hn6).map (·.1))).trans hperm) (by have h1 := (erase_perm hn6).length_eq; simp at h1; omega))) ⟨rfl, rfl, trivial⟩

theorem keys_spec (F : Fr) {r : Option Nat} : Spec Try.prog 28 #[.map r] [] F (fun v S => ∃ bx, v = .func (.func 42) #[] #[.pointer (some ⟨bx, 0, none⟩)] ∧ S = [blk bx [.map r] 74]) := by
 refine Spec.intro (N := 4) (args := [.map r]) Try.func28 rfl rfl (by simp) ?_
 refine Run.seq fun k1 hk1 => Run.region ?_
 show Sq _ _ _ [0, 1] _ _ _ _
 refine Ef 0 rfl rfl (EF.box1 rfl rfl rfl) ?_
 rintro _ _ ⟨b1, rfl, rfl⟩
 refine Sg 1 rfl rfl rfl <| Sq.nil <| hk1 _ _ <| Run.seq fun k2 hk2 => Run.region ?_
 show Sq _ _ _ [0, 1] _ _ _ _
 refine Qp 0 rfl rfl (QP.makeFunc rfl rfl) <| Sg 1 rfl rfl rfl <| Sq.nil <| hk2 _ _ <| Run.ret ?_
 exact J.ends (res_tmp rfl rfl) Tk1 ⟨_, rfl, rfl⟩

/-- What AppendSeq keeps between two rounds. -/
def ApB (b2 : Nat) (pre : List (Bs 16)) : HProp := ex fun u => stars [blk b2 [u] 86, slA 23 16 Bs.enc u pre]
theorem foldB {F : Fr} {w : World} {A : HProp} {R : List HProp} {b2 : Nat} {u : Value} {pre : List (Bs 16)} (s : Sat (blk b2 [u] 86 :: slA 23 16 Bs.enc u pre :: A :: R) F w) : Sat [A, ApB b2 pre] F w := by
  have s1 : Sat ([blk b2 [u] 86, slA 23 16 Bs.enc u pre, A] ++ R) F w := s
  have s2 := s1.dropR
  have s3 : Sat [stars [blk b2 [u] 86, slA 23 16 Bs.enc u pre], A] F w := Sat.unflat (L := [_, _]) s2
  exact (s3.head fun h hh => ⟨u, hh⟩).perm (List.Perm.swap _ _ _)
set_option maxRecDepth 20000 in
theorem appendSeq_spec (F : Fr) {bx : Nat} {r : Option Nat} {M : TabM} (hM : M.length ≤ 1000000) :
    Spec Try.prog 57 #[.slice none 0 0, .func (.func 42) #[] #[.pointer (some ⟨bx, 0, none⟩)]] [blk bx [.map r] 74, mapE r M] F fun v S => ∃ ks : List (Bs 16), ks.Perm (M.map (·.1)) ∧ S = [mapE r M, slA 23 16 Bs.enc v ks] := by
  refine Spec.introM (N := 13) (args := [.slice none 0 0, .func (.func 42) #[] #[.pointer (some ⟨bx, 0, none⟩)]]) Try.func57 rfl rfl (by simp) fun Q hQ => ?_
  refine RunI.seq fun k1 hk1 => ?_
  refine RunI.region ?_
  show SqI _ _ _ _ [0, 1] _ _ _ _
  refine SqI.eff open_wide (i := 0) rfl (fun _ h => by cases h) (Want.none rfl) rfl (ltN rfl) (EF.box1 rfl rfl rfl) ?_
  rintro _ _ ⟨b2, rfl, rfl⟩
  refine SqI.quiet open_wide (i := 1) rfl (fun _ h => by cases h) (Want.none rfl) rfl (ltN rfl) (QP.assign rfl rfl).read ?_
  refine SqI.nil ?_
  refine J.mono ?_ hk1
  refine RunI.seq fun k2 hk2 => ?_
  refine RunI.seq fun k3 hk3 => ?_
  refine RunI.region ?_
  show SqI _ _ _ _ [0] _ _ _ _
  refine SqI.quiet open_wide (i := 0) rfl (fun _ h => by cases h) (Want.none rfl) rfl (ltN rfl) (QP.move rfl rfl).read ?_
  refine SqI.nil ?_
  refine J.mono ?_ hk3
  refine RunI.block ?_
  refine J.addSl 23 16 (Bs.enc (n := 16)) ?_
  refine range_over (X := { ks : List (Bs 16) // ks.Perm (M.map (·.1)) }) (T := fun ks => [ApB b2 ks.1, blk bx [.map r] 74, mapE r M]) rfl ce42 (fun F' fn tmps l D hle hsz hG => ?_) (fun D x a w st => ?_)
  · generalize hL : lrec fn tmps 7 _ _ D = L
    have hy : ∀ (pre : List (Bs 16)) (x : Bs 16), pre.length < M.length → ∀ F2 : Fr, PH.le F'.h F2.h → Yields Try.prog l (akE x) [stars [pts l (.loop L), ApB b2 pre]] F2 [stars [pts l (.loop L), ApB b2 (pre ++ [x])]] := by
      intro pre x hlt F2 hle2
      subst hL
      refine Yields.flat ?_
      refine yields_of (d := 5) (A1 := fun b5 => blk b5 (Bs.enc x) 23) hsz (by decide) hG ?_ ?_
      · intro S K hK
        refine RunI.region ?_
        show SqI _ _ _ _ [0, 1] _ _ _ _
        refine SqI.eff (open_round _) (i := 0) rfl (fun _ h => by cases h) (Want.none rfl) rfl (ltN rfl) (EF.allocA (l := (Bs.zero 16).enc) rfl zero23) ?_
        rintro _ _ ⟨b5, rfl, rfl⟩
        refine SqI.act (open_round _) (i := 1) rfl (fun _ h => by cases h) (Want.none rfl) rfl (EF.storeA rfl rfl rfl z23 (SetL.all (Bs.len _) (Bs.len _)) (Bs.cell _)) ?_
        rintro _ _ rfl
        refine SqI.nil ?_
        exact hK b5
      · intro b5 A Q2 hQ2
        refine RunI.block ?_
        refine J.ex Rc (fun u => ?_)
        refine J.conseq (fun w s => Sat.flat s) ?_
        show J _ _ [blk b2 [u] 86, slA 23 16 Bs.enc u pre, blk b5 (Bs.enc x) 23, A] _ _
        refine RunI.region ?_
        show SqI _ _ _ _ [0, 1, 2, 3, 4] _ _ _ _
        refine SqI.quiet (open_round _) (i := 0) rfl (fun _ h => by cases h) (Want.none rfl) rfl (ltN rfl) (QR.load1 rfl rfl g86 SubL.one) ?_
        refine SqI.quiet (open_round _) (i := 1) rfl (fun _ h => by cases h) (Want.none rfl) rfl (ltN rfl) (QR.load rfl rfl g23 (Bs.sub _)) ?_
        refine SqI.eff (open_round _) (i := 2) rfl (fun _ h => by cases h) (Want.none rfl) rfl (ltN rfl) (EF.buildSlice1 rfl Try.underlying86 z23 zero23 (by simp [Value.cells, Bs.len]) (by decide) rfl rfl (Bs.len _) (by decide)) ?_
        rintro _ _ ⟨b10, rfl, rfl⟩
        refine SqI.eff (open_round _) (i := 3) rfl (fun _ h => by cases h) (Want.none rfl) rfl (ltN rfl) (EF.append1 (xs := pre) (s := x) el23 Bs.len Bs.cell rfl rfl rfl Try.underlying86 Try.underlying86 rfl rfl Rc Rc Og) ?_
        rintro sl11 _ rfl
        refine J.slCase (v := sl11) Rc (fun a11 c11 hv11 hh11 => ?_)
        subst hv11
        refine SqI.act (open_round _) (i := 4) rfl (fun _ h => by cases h) (Want.none rfl) rfl (EF.store rfl rfl rfl z86 SetL.one (cell_one rfl)) ?_
        rintro _ _ rfl
        refine SqI.nil ?_
        refine J.keep (m := [blk b2 [_] 86, slA 23 16 Bs.enc _ (pre ++ [x]), A]) Tk3 ?_
        exact J.conseq (fun w s => foldB (R := []) s) (hQ2 _)
    refine Spec.conseq (S1 := [blk bx [.map r] 74, mapE r M, stars [pts l (.loop L), ApB b2 []]]) (fun w s => ?_) (keysf_spec F' (fun pre => stars [pts l (.loop L), ApB b2 pre]) hy) ?_
    · have s1 : Sat ([pts l (.loop L)] ++ [slA 23 16 Bs.enc (.slice none 0 0) [], blk b2 [.slice none 0 0] 86] ++ [blk bx [.map r] 74, mapE r M]) F' w := s
      have s2 : Sat ([blk b2 [.slice none 0 0] 86, slA 23 16 Bs.enc (.slice none 0 0) []] ++ ([pts l (.loop L)] ++ [blk bx [.map r] 74, mapE r M])) F' w := s1.perm (by
        refine (List.Perm.append_right _ List.perm_append_comm).trans ?_
        simp only [List.append_assoc]
        exact List.Perm.append_right _ (List.Perm.swap _ _ _))
      have s3 : Sat (ApB b2 [] :: ([pts l (.loop L)] ++ [blk bx [.map r] 74, mapE r M])) F' w := (Sat.unflat s2).head fun h hh => ⟨_, hh⟩
      have s4 : Sat ([pts l (.loop L), ApB b2 []] ++ [blk bx [.map r] 74, mapE r M]) F' w := s3.perm (List.Perm.swap _ _ _)
      exact (Sat.unflat s4).perm ((List.perm_append_comm (l₁ := [_]) (l₂ := [_, _])))
    · rintro v S' w ⟨ks, hp, rfl⟩ s
      refine ⟨_, ⟨⟨ks, hp⟩, rfl⟩, ?_⟩
      have s1 := Sat.flat (s.perm (List.perm_append_comm (l₁ := [_, _]) (l₂ := [_])))
      exact s1
  · refine (?_ : J 13 _ (pts D (.deferred (some [])) :: [ApB b2 x.1, blk bx [.map r] 74, mapE r M]) F fun a w => k2 { a with defers := [{ target := .collected D, args := #[] }] } w) a w st
    refine J.ex Rc (fun u => ?_)
    refine J.conseq (fun w s => Sat.flat s) ?_
    show J _ _ [blk b2 [u] 86, slA 23 16 Bs.enc u x.1, pts D (.deferred (some [])), blk bx [.map r] 74, mapE r M] _ _
    refine J.mono (Φ := fun a w => Code.wpIn Fence.wide 0 Try.prog _ Q { a with defers := [{ target := .collected D, args := #[] }] } w) ?_ (fun a w h => hk2 _ _ h)
    refine fun a w s => wpIn_seq_k fun k4 hk4 => wpIn_region ?_
    refine (?_ : J 13 _ _ F fun a w => wpOpsIn Fence.wide 0 Try.prog _ (Exit.then k4 Q) [0, 1] { a with defers := [{ target := .collected D, args := #[] }] } w) a w s
    refine SqM.quiet open_wide (i := 0) rfl (fun _ h => by cases h) rfl rfl (ltN rfl) (QR.load1 rfl rfl g86 SubL.one) ?_
    refine SqM.quiet open_wide (i := 1) rfl (fun _ h => by cases h) rfl rfl (ltN rfl) (QP.assign rfl rfl).read ?_
    refine J.mono (Φ := fun a w => Q .ret { a with defers := [{ target := .collected D, args := #[] }] } w) ?_ (fun a w h => hk4 _ _ (wpIn_ret h))
    refine J.keep (m := [pts D (.deferred (some [])), mapE r M, slA 23 16 Bs.enc u x.1]) Tk3 ?_
    exact hQ D _ _ u (resM rfl rfl) ⟨x.1, x.2, rfl⟩

theorem collect_spec (F : Fr) {bx : Nat} {r : Option Nat} {M : TabM} (hM : M.length ≤ 1000000) : Spec Try.prog 40 #[.func (.func 42) #[] #[.pointer (some ⟨bx, 0, none⟩)]] [blk bx [.map r] 74, mapE r M] F (fun v S => ∃ ks : List (Bs 16), ks.Perm (M.map (·.1)) ∧ S = [mapE r M, slA 23 16 Bs.enc v ks]) := by
 refine Spec.intro (N := 5) (args := [.func (.func 42) #[] #[.pointer (some ⟨bx, 0, none⟩)]]) Try.func40 rfl rfl (by simp) ?_
 refine Run.seq fun k1 hk1 => Run.region ?_
 show Sq _ _ _ [0] _ _ _ _
 refine Sg 0 rfl rfl rfl <| Sq.nil <| hk1 _ _ <| Run.seq fun k2 hk2 => Run.region ?_
 show Sq _ _ _ [0, 1, 2] _ _ _ _
 refine Mv 0 rfl rfl rfl <| Ef 1 rfl rfl (EF.call rfl ce57 rfl Tk2 (fun F' hle hr => appendSeq_spec F' hM)) ?_
 rintro v4 _ ⟨_, ⟨ks, hp, rfl⟩, rfl⟩
 refine J.app ?_
 refine Sg 2 rfl rfl rfl <| Sq.nil <| hk2 _ _ <| Run.ret ?_
 exact J.ends (res_tmp rfl rfl) Tk2 ⟨ks, hp, rfl⟩

theorem sortA (F : Fr) {v : Value} {xs : List (Bs 16)} (hn : xs.length ≤ 4294967296) : Spec Try.prog 41 #[v, .func (.func 29) #[] #[]] [slA 23 16 Bs.enc v xs] F fun u S => u = .tuple #[] ∧ ∃ ys : List (Bs 16), ys.Perm xs ∧ (ys.Pairwise fun a b => ¬ cmpAd b a < 0) ∧ S = [slA 23 16 Bs.enc v ys] :=
  Spec.sortFunc Try.sortL (fun w => g23.agg w) (fun w => g23.size w) Bs.len Bs.cell swoAd ce29 (fun F x y => addrCompare_spec F x y) (by omega) F
/-- A table's keys, in order. -/
def KeysOf (M : TabM) (ks : List (Bs 16)) : Prop := ks.Perm (M.map (·.1)) ∧ ks.Pairwise fun a b => ¬ cmpAd b a < 0

theorem sortedFunc_spec (F : Fr) {bx : Nat} {r : Option Nat} {M : TabM} (hM : M.length ≤ 1000000) : Spec Try.prog 27 #[.func (.func 42) #[] #[.pointer (some ⟨bx, 0, none⟩)], .func (.func 29) #[] #[]] [blk bx [.map r] 74, mapE r M] F (fun v S => ∃ ks, KeysOf M ks ∧ S = [mapE r M, slA 23 16 Bs.enc v ks]) := by
 refine Spec.intro (N := 12) (args := [.func (.func 42) #[] #[.pointer (some ⟨bx, 0, none⟩)], .func (.func 29) #[] #[]]) Try.func27 rfl rfl (by simp) ?_
 refine Run.seq fun k1 hk1 => Run.region ?_
 show Sq _ _ _ [0] _ _ _ _
 refine Sg 0 rfl rfl rfl <| Sq.nil <| hk1 _ _ <| Run.seq fun k2 hk2 => Run.region ?_
 show Sq _ _ _ [0, 1, 2] _ _ _ _
 refine Mv 0 rfl rfl rfl <| Ef 1 rfl rfl (EF.call rfl ce40 rfl Tk2 (fun F' hle hr => collect_spec F' hM)) ?_
 rintro v7 _ ⟨_, ⟨ks, hp, rfl⟩, rfl⟩
 refine J.app ?_
 refine Sg 2 rfl rfl rfl <| Sq.nil <| hk2 _ _ <| Run.seq fun k3 hk3 => Run.region ?_
 show Sq _ _ _ [0, 1, 2] _ _ _ _
 refine Mv 0 rfl rfl rfl <| Mv 1 rfl rfl rfl <| Ef 2 rfl rfl (EF.call rfl ce41 rfl Tk1 (fun F' hle hr => sortA F' (by have := hp.length_eq; simp at this; omega))) ?_
 rintro _ _ ⟨_, ⟨rfl, ys, hys, hso, rfl⟩, rfl⟩
 refine J.app ?_
 refine Sq.nil <| hk3 _ _ <| Run.seq fun k4 hk4 => Run.region ?_
 show Sq _ _ _ [0, 1] _ _ _ _
 refine Mv 0 rfl rfl rfl <| Sg 1 rfl rfl rfl <| Sq.nil <| hk4 _ _ <| Run.ret ?_
 exact J.ends (res_tmp rfl rfl) Tk2 ⟨ys, ⟨hys.trans hp, hso⟩, rfl⟩
end Slb
