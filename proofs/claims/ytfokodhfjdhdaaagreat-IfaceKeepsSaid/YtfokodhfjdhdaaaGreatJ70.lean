/- J70: a part of the proof that a law of this package holds for every input; no condition. -/
import Derived.Test.YtfokodhfjdhdaaaGreatM2
import Derived.Test.YtfokodhfjdhdaaaGreatJ39
import Derived.RangeFuncLeaves
import Derived.Shelf.SlGeneric
namespace Go.Proofs
open Go.Shelf
open Slb (Kr)
def Tryz.sortL_ren : Go.Shelf.Ren := ⟨fun | 6 => 63 | 15 => 98 | 14 => 97 | 28 => 140 | 29 => 141 | 20 => 132 | 21 => 133 | 22 => 134 | 23 => 135 | 24 => 136 | 25 => 137 | 26 => 138 | 27 => 139 | 46 => 154 | 47 => 155 | 48 => 156 | 49 => 157 | 50 => 158 | 57 => 164 | n => n, fun | 22 => 71 | 24 => 32 | 25 => 111 | 3 => 3 | 39 => 204 | 0 => 0 | 53 => 101 | 55 => 245 | 4 => 4 | 46 => 238 | 45 => 237 | 50 => 68 | 5 => 5 | 9 => 9 | 66 => 256 | 70 => 260 | 76 => 265 | 77 => 191 | n => n, fun | n => n⟩
theorem Tryz.sortL : Go.Proofs.SlLaysF0.n6 Tryz.prog Tryz.sortL_ren := {
 mixed := by kernel_rfl
 f6 := ⟨Tryz.f63.name, by decide, Tryz.func63.trans (congrArg some Kr)⟩
 f14 := ⟨Tryz.f97.name, by decide, Tryz.func97.trans (congrArg some Kr)⟩
 f15 := Tryz.func98.trans (congrArg some Kr)
 f20 := ⟨Tryz.f132.name, by decide, Tryz.func132.trans (congrArg some Kr)⟩
 f21 := ⟨Tryz.f133.name, by decide, Tryz.func133.trans (congrArg some Kr)⟩
 f22 := ⟨Tryz.f134.name, by decide, Tryz.func134.trans (congrArg some Kr)⟩
 f23 := ⟨Tryz.f135.name, by decide, Tryz.func135.trans (congrArg some Kr)⟩
 f24 := ⟨Tryz.f136.name, by decide, Tryz.func136.trans (congrArg some Kr)⟩
 f25 := ⟨Tryz.f137.name, by decide, Tryz.func137.trans (congrArg some Kr)⟩
 f26 := ⟨Tryz.f138.name, by decide, Tryz.func138.trans (congrArg some Kr)⟩
 f27 := ⟨Tryz.f139.name, by decide, Tryz.func139.trans (congrArg some Kr)⟩
 f28 := Tryz.func140.trans (congrArg some Kr)
 f29 := Tryz.func141.trans (congrArg some Kr)
 f46 := ⟨Tryz.f154.name, by decide, Tryz.func154.trans (congrArg some Kr)⟩
 f47 := Tryz.func155.trans (congrArg some Kr)
 f48 := Tryz.func156.trans (congrArg some Kr)
 f49 := ⟨Tryz.f157.name, by decide, Tryz.func157.trans (congrArg some Kr)⟩
 f50 := ⟨Tryz.f158.name, by decide, Tryz.func158.trans (congrArg some Kr)⟩
 f57 := ⟨Tryz.f164.name, by decide, Tryz.func164.trans (congrArg some Kr)⟩
 t0 := Tryz.underlying0
 a0 := Tryz.isAgg0
 z0 := Tryz.sizeOf0
 v0 := Tryz.zeroValue0
 t3 := Tryz.underlying3
 a3 := Tryz.isAgg3
 z3 := Tryz.sizeOf3
 v3 := Tryz.zeroValue3
 t4 := Tryz.underlying4
 a4 := Tryz.isAgg4
 z4 := Tryz.sizeOf4
 v4 := Tryz.zeroValue4
 t5 := Tryz.underlying5
 a5 := Tryz.isAgg5
 z5 := Tryz.sizeOf5
 v5 := Tryz.zeroValue5
 t9 := Tryz.underlying9
 a9 := Tryz.isAgg9
 z9 := Tryz.sizeOf9
 v9 := Tryz.zeroValue9
 t22 := Tryz.underlying71
 a22 := Tryz.isAgg71
 z22 := Tryz.sizeOf71
 v22 := Tryz.zeroValue71
 t25 := Tryz.underlying111
 a25 := Tryz.isAgg111
 z25 := Tryz.sizeOf111
 v25 := Tryz.zeroValue111
 t39 := Tryz.underlying204
 a39 := Tryz.isAgg204
 z39 := Tryz.sizeOf204
 v39 := Tryz.zeroValue204
 t45 := Tryz.underlying237
 a45 := Tryz.isAgg237
 z45 := Tryz.sizeOf237
 v45 := Tryz.zeroValue237
 t46 := Tryz.underlying238
 a46 := Tryz.isAgg238
 z46 := Tryz.sizeOf238
 v46 := Tryz.zeroValue238
 t50 := Tryz.underlying68
 a50 := Tryz.isAgg68
 z50 := Tryz.sizeOf68
 v50 := Tryz.zeroValue68
 t53 := Tryz.underlying101
 a53 := Tryz.isAgg101
 z53 := Tryz.sizeOf101
 v53 := Tryz.zeroValue101
 t55 := Tryz.underlying245
 a55 := Tryz.isAgg245
 z55 := Tryz.sizeOf245
 v55 := Tryz.zeroValue245
 t66 := Tryz.underlying256
 a66 := Tryz.isAgg256
 z66 := Tryz.sizeOf256
 v66 := Tryz.zeroValue256
 t70 := Tryz.underlying260
 a70 := Tryz.isAgg260
 z70 := Tryz.sizeOf260
 v70 := Tryz.zeroValue260
 t76 := Tryz.underlying265
 a76 := Tryz.isAgg265
 z76 := Tryz.sizeOf265
 v76 := Tryz.zeroValue265
 t77 := Tryz.underlying191
 a77 := Tryz.isAgg191
 z77 := Tryz.sizeOf191
 v77 := Tryz.zeroValue191 }
end Go.Proofs
namespace Slb
open Go Go.Proofs
set_option maxRecDepth 20000
abbrev akE (x : Bs 16) : Value := .agg (Bs.enc x).toArray
@[reducible] def mapE (r : Option Nat) (M : List (Bs 16 × Nat)) : HProp := mapW akE pv r M
abbrev TabM := List (Bs 16 × Nat)
def cmpAd (x y : Bs 16) : Int := Lib.compareBytes x.l y.l
theorem totAd : TotCmp cmpAd := TotCmp.bytes 16
theorem swoAd : Sort.SWO (Go.Proofs.ltOf cmpAd) := totAd.swo
instance : Inhabited (Bs 16) := ⟨Bs.zero 16⟩

theorem keysf_spec (F : Fr) {lp bx : Nat} {r : Option Nat} {M : TabM} (A : List (Bs 16) → HProp) (hy : ∀ pre x, pre.length < M.length → ∀ F', PH.le F.h F'.h → Yields Tryz.prog lp (akE x) [A pre] F' [A (pre ++ [x])]) : Spec Tryz.prog 64 #[.func (.yield lp) #[] #[], .pointer (some ⟨bx, 0, none⟩)] [blk bx [.map r] 89, mapE r M, A []] F (fun v S => ∃ ks : List (Bs 16), ks.Perm (M.map (·.1)) ∧ S = [blk bx [.map r] 89, mapE r M, A ks]) := by
 refine Spec.intro (N := 14) (args := [.func (.yield lp) #[] #[], .pointer (some ⟨bx, 0, none⟩)]) Tryz.func64 rfl rfl (by simp) ?_
 refine Zs fun _ hk1 => Qq 0 E2 (Z1 E2 g89 SubL.one) ?_
 refine Ef 1 E2 (EF.rangeW rfl rfl Tryz.underlying89 Rc) ?_
 rintro _ _ ⟨it5, rfl, rfl⟩
 refine Zl hk1 <| Run.block <| Run.loop3 (fun (ks : List (Bs 16)) (todo : TabM) (cur : Option (Bs 16 × Nat)) => (ks ++ todo.map (·.1)).Perm (M.map (·.1))) (fun ks todo cur => .cons 0 (.func (.yield lp) #[] #[]) (.cons 5 (.pointer (some ⟨it5, 0, none⟩)) (.nil))) (fun ks todo cur => [rangeW akE pv r it5 M todo cur, A ks, blk bx [.map r] 89]) (fun ks todo cur => todo.length) ([]) (M) (none) (List.Perm.refl _) ?_ ?_
 ·exact fun _ j => J.envJ (J.keep Tk3 j) ⟨rfl, rfl, trivial⟩
 rintro ks todo cur hperm kl2 hl2
 refine Zs fun _ hk3 => Ef 0 E2 (EF.nextW rfl rfl Rc) ?_
 rintro _ _ (⟨hn6, rfl, rfl⟩ | ⟨ix, px, hn6, rfl, rfl⟩)
 ·subst hn6
  have hdone : ks.Perm (M.map (·.1)) := by simpa using hperm
  refine Qp 1 E2 (Zx E3) <| Zl hk3 <| Run.seq fun k4 hk4 => Zf <| Run.exit rfl <| J.rangeEndW Rc ?_
  exact J.ends (res_none rfl) Tk3 ⟨ks, hdone, rfl⟩
 ·have hlt : ks.length < M.length := by
    have h1 := hperm.length_eq
    have h2 := (List.getElem?_eq_some_iff.1 hn6).1
    simp at h1
    omega
  refine Qp 1 E2 (Zx E3) <| Zl hk3 <| Run.seq fun _ hk5 => Zt <| Run.skip <| hk5 _ _ <| Run.block <| Zs fun _ hk6 => Qq 0 E2 (QR.entryW rfl rfl (w := r) (M := M) (todo := _) (ek := akE) (ev := pv) Rc) ?_
  refine Qp 1 E2 (Zx E3) <| Ef 2 E2 (EF.allocA (l := (Bs.zero 16).enc) rfl zero32) ?_
  rintro _ _ ⟨b3, rfl, rfl⟩
  refine Ac 3 rfl (EF.storeA rfl rfl rfl z32 (SetL.all (Bs.len _) (Bs.len _)) (Bs.cell _)) ?_
  rintro _ _ rfl
  refine Zl hk6 <| Run.seq fun _ hk7 => Run.regionY ?_
  show SqI _ _ _ _ [0, 1, 2, 3] _ _ _ _
  refine SqI.quiet open_wide (i := 0) rfl (fun _ h => by cases h) (Want.none rfl) rfl (ltN rfl) (Zm E2).read ?_
  refine SqI.quiet open_wide (i := 1) rfl (fun _ h => by cases h) (Want.none rfl) rfl (ltN rfl) (Z0 E2 g32 (Bs.sub _)) ?_
  refine SqI.yield (i := 2) rfl (Want.none rfl) rfl (ltN rfl) rfl rfl rfl Tk1 (fun F' hle => hy ks px.1 hlt F' hle) ?_
  refine SqI.quiet open_wide (i := 3) rfl (fun _ h => by cases h) (Want.none rfl) rfl (ltN rfl) (Zu E2).read ?_
  refine SqI.nil ?_
  exact hk7 _ _ <| Zf <| Run.skip <| J.envJ (J.keep Tk3 (hl2 (ks ++ [px.1]) (todo.eraseIdx ix) (some px) (by rw [List.append_assoc]; exact (List.Perm.append_left _ ((erase_perm hn6).map (·.1))).trans hperm) (by have h1 := (erase_perm hn6).length_eq; simp at h1; omega))) ⟨rfl, rfl, trivial⟩

theorem keys_spec (F : Fr) {r : Option Nat} : Spec Tryz.prog 41 #[.map r] [] F (fun v S => ∃ bx, v = .func (.func 64) #[] #[.pointer (some ⟨bx, 0, none⟩)] ∧ S = [blk bx [.map r] 89]) := by
 refine Spec.intro (N := 4) (args := [.map r]) Tryz.func41 rfl rfl (by simp) ?_
 refine Zs fun _ hk1 => Ef 0 E2 (EF.box1 rfl rfl rfl) ?_
 rintro _ _ ⟨b1, rfl, rfl⟩
 exact Sg 1 E3 <| Zl hk1 <| Run.seq fun k2 hk2 => Run.region <| Qp 0 E2 (QP.makeFunc rfl rfl) <| Sg 1 E3 <| Zl hk2 <| Run.ret <| J.ends (res_tmp rfl rfl) Tk1 ⟨_, rfl, rfl⟩

/-- What AppendSeq keeps between two rounds. -/
def ApB (b2 : Nat) (pre : List (Bs 16)) : HProp := ex fun u => stars [blk b2 [u] 71, slA 32 16 Bs.enc u pre]
theorem foldB {F : Fr} {w : World} {A : HProp} {R : List HProp} {b2 : Nat} {u : Value} {pre : List (Bs 16)} (s : Sat (blk b2 [u] 71 :: slA 32 16 Bs.enc u pre :: A :: R) F w) : Sat [A, ApB b2 pre] F w := by
 have s1 : Sat ([blk b2 [u] 71, slA 32 16 Bs.enc u pre, A] ++ R) F w := s
 have s2 := s1.dropR
 have s3 : Sat [stars [blk b2 [u] 71, slA 32 16 Bs.enc u pre], A] F w := Sat.unflat (L := [_, _]) s2
 exact (s3.head fun h hh => ⟨u, hh⟩).perm (List.Perm.swap _ _ _)
set_option maxRecDepth 20000 in
theorem appendSeq_spec (F : Fr) {bx : Nat} {r : Option Nat} {M : TabM} (hM : M.length ≤ 1000000) :
   Spec Tryz.prog 96 #[.slice none 0 0, .func (.func 64) #[] #[.pointer (some ⟨bx, 0, none⟩)]] [blk bx [.map r] 89, mapE r M] F fun v S => ∃ ks : List (Bs 16), ks.Perm (M.map (·.1)) ∧ S = [mapE r M, slA 32 16 Bs.enc v ks] := by
 refine Spec.introM (N := 13) (args := [.slice none 0 0, .func (.func 64) #[] #[.pointer (some ⟨bx, 0, none⟩)]]) Tryz.func96 rfl rfl (by simp) fun Q hQ => ?_
 refine RunI.seq fun _ hk1 => ?_
 refine RunI.region ?_
 show SqI _ _ _ _ [0, 1] _ _ _ _
 refine SqI.eff open_wide (i := 0) rfl (fun _ h => by cases h) (Want.none rfl) rfl (ltN rfl) (EF.box1 rfl rfl rfl) ?_
 rintro _ _ ⟨b2, rfl, rfl⟩
 refine SqI.quiet open_wide (i := 1) rfl (fun _ h => by cases h) (Want.none rfl) rfl (ltN rfl) (Zg E2).read ?_
 refine SqI.nil ?_
 refine J.mono ?_ hk1
 refine RunI.seq fun k2 hk2 => ?_
 refine RunI.seq fun _ hk3 => ?_
 refine RunI.region ?_
 show SqI _ _ _ _ [0] _ _ _ _
 refine SqI.quiet open_wide (i := 0) rfl (fun _ h => by cases h) (Want.none rfl) rfl (ltN rfl) (Zm E2).read ?_
 refine SqI.nil ?_
 refine J.mono ?_ hk3
 refine RunI.block ?_
 refine J.addSl 32 16 (Bs.enc (n := 16)) ?_
 refine range_over (X := { ks : List (Bs 16) // ks.Perm (M.map (·.1)) }) (T := fun ks => [ApB b2 ks.1, blk bx [.map r] 89, mapE r M]) rfl ce64 (fun F' fn tmps l D hle hsz hG => ?_) (fun D x a w st => ?_)
 · generalize hL : lrec fn tmps 7 _ _ D = L
   have hy : ∀ (pre : List (Bs 16)) (x : Bs 16), pre.length < M.length → ∀ F2 : Fr, PH.le F'.h F2.h → Yields Tryz.prog l (akE x) [stars [pts l (.loop L), ApB b2 pre]] F2 [stars [pts l (.loop L), ApB b2 (pre ++ [x])]] := by
     intro pre x hlt F2 hle2
     subst hL
     refine Yields.flat ?_
     refine yields_of (d := 5) (A1 := fun b5 => blk b5 (Bs.enc x) 32) hsz (by decide) hG ?_ ?_
     · intro S K hK
       refine RunI.region ?_
       show SqI _ _ _ _ [0, 1] _ _ _ _
       refine SqI.eff (open_round _) (i := 0) rfl (fun _ h => by cases h) (Want.none rfl) rfl (ltN rfl) (EF.allocA (l := (Bs.zero 16).enc) rfl zero32) ?_
       rintro _ _ ⟨b5, rfl, rfl⟩
       refine SqI.act (open_round _) (i := 1) rfl (fun _ h => by cases h) (Want.none rfl) rfl (EF.storeA rfl rfl rfl z32 (SetL.all (Bs.len _) (Bs.len _)) (Bs.cell _)) ?_
       rintro _ _ rfl
       refine SqI.nil ?_
       exact hK b5
     · intro b5 A Q2 hQ2
       refine RunI.block ?_
       refine J.ex Rc (fun u => ?_)
       refine J.conseq (fun w s => Sat.flat s) ?_
       show J _ _ [blk b2 [u] 71, slA 32 16 Bs.enc u pre, blk b5 (Bs.enc x) 32, A] _ _
       refine RunI.region ?_
       show SqI _ _ _ _ [0, 1, 2, 3, 4] _ _ _ _
       refine SqI.quiet (open_round _) (i := 0) rfl (fun _ h => by cases h) (Want.none rfl) rfl (ltN rfl) (Z1 E2 g71 SubL.one) ?_
       refine SqI.quiet (open_round _) (i := 1) rfl (fun _ h => by cases h) (Want.none rfl) rfl (ltN rfl) (Z0 E2 g32 (Bs.sub _)) ?_
       refine SqI.eff (open_round _) (i := 2) rfl (fun _ h => by cases h) (Want.none rfl) rfl (ltN rfl) (EF.buildSlice1 rfl Tryz.underlying71 z32 zero32 (by simp [Value.cells, Bs.len]) (by decide) rfl rfl (Bs.len _) (by decide)) ?_
       rintro _ _ ⟨b10, rfl, rfl⟩
       refine SqI.eff (open_round _) (i := 3) rfl (fun _ h => by cases h) (Want.none rfl) rfl (ltN rfl) (EF.append1 (xs := pre) (s := x) el32 Bs.len Bs.cell rfl rfl rfl Tryz.underlying71 Tryz.underlying71 rfl rfl Rc Rc Og) ?_
       rintro sl11 _ rfl
       refine J.slCase (v := sl11) Rc (fun a11 c11 hv11 hh11 => ?_)
       subst hv11
       refine SqI.act (open_round _) (i := 4) rfl (fun _ h => by cases h) (Want.none rfl) rfl (EF.store rfl rfl rfl z71 SetL.one (cell_one rfl)) ?_
       rintro _ _ rfl
       refine SqI.nil ?_
       refine J.keep (m := [blk b2 [_] 71, slA 32 16 Bs.enc _ (pre ++ [x]), A]) Tk3 ?_
       exact J.conseq (fun w s => foldB (R := []) s) (hQ2 _)
   refine Spec.conseq (S1 := [blk bx [.map r] 89, mapE r M, stars [pts l (.loop L), ApB b2 []]]) (fun w s => ?_) (keysf_spec F' (fun pre => stars [pts l (.loop L), ApB b2 pre]) hy) ?_
   · have s1 : Sat ([pts l (.loop L)] ++ [slA 32 16 Bs.enc (.slice none 0 0) [], blk b2 [.slice none 0 0] 71] ++ [blk bx [.map r] 89, mapE r M]) F' w := s
     have s2 : Sat ([blk b2 [.slice none 0 0] 71, slA 32 16 Bs.enc (.slice none 0 0) []] ++ ([pts l (.loop L)] ++ [blk bx [.map r] 89, mapE r M])) F' w := s1.perm (by
       refine (List.Perm.append_right _ List.perm_append_comm).trans ?_
       simp only [List.append_assoc]
       exact List.Perm.append_right _ (List.Perm.swap _ _ _))
     have s3 : Sat (ApB b2 [] :: ([pts l (.loop L)] ++ [blk bx [.map r] 89, mapE r M])) F' w := (Sat.unflat s2).head fun h hh => ⟨_, hh⟩
     have s4 : Sat ([pts l (.loop L), ApB b2 []] ++ [blk bx [.map r] 89, mapE r M]) F' w := s3.perm (List.Perm.swap _ _ _)
     exact (Sat.unflat s4).perm ((List.perm_append_comm (l₁ := [_]) (l₂ := [_, _])))
   · rintro v S' w ⟨ks, hp, rfl⟩ s
     refine ⟨_, ⟨⟨ks, hp⟩, rfl⟩, ?_⟩
     have s1 := Sat.flat (s.perm (List.perm_append_comm (l₁ := [_, _]) (l₂ := [_])))
     exact s1
 · refine (?_ : J 13 _ (pts D (.deferred (some [])) :: [ApB b2 x.1, blk bx [.map r] 89, mapE r M]) F fun a w => k2 { a with defers := [{ target := .collected D, args := #[] }] } w) a w st
   refine J.ex Rc (fun u => ?_)
   refine J.conseq (fun w s => Sat.flat s) ?_
   show J _ _ [blk b2 [u] 71, slA 32 16 Bs.enc u x.1, pts D (.deferred (some [])), blk bx [.map r] 89, mapE r M] _ _
   refine J.mono (Φ := fun a w => Code.wpIn Fence.wide 0 Tryz.prog _ Q { a with defers := [{ target := .collected D, args := #[] }] } w) ?_ (fun a w h => hk2 _ _ h)
   refine fun a w s => wpIn_seq_k fun k4 hk4 => wpIn_region ?_
   refine (?_ : J 13 _ _ F fun a w => wpOpsIn Fence.wide 0 Tryz.prog _ (Exit.then k4 Q) [0, 1] { a with defers := [{ target := .collected D, args := #[] }] } w) a w s
   refine SqM.quiet open_wide (i := 0) rfl (fun _ h => by cases h) rfl rfl (ltN rfl) (Z1 E2 g71 SubL.one) ?_
   refine SqM.quiet open_wide (i := 1) rfl (fun _ h => by cases h) rfl rfl (ltN rfl) (Zg E2).read ?_
   refine J.mono (Φ := fun a w => Q .ret { a with defers := [{ target := .collected D, args := #[] }] } w) ?_ (fun a w h => hk4 _ _ (wpIn_ret h))
   refine J.keep (m := [pts D (.deferred (some [])), mapE r M, slA 32 16 Bs.enc u x.1]) Tk3 ?_
   exact hQ D _ _ u (resM rfl rfl) ⟨x.1, x.2, rfl⟩

theorem collect_spec (F : Fr) {bx : Nat} {r : Option Nat} {M : TabM} (hM : M.length ≤ 1000000) : Spec Tryz.prog 62 #[.func (.func 64) #[] #[.pointer (some ⟨bx, 0, none⟩)]] [blk bx [.map r] 89, mapE r M] F (fun v S => ∃ ks : List (Bs 16), ks.Perm (M.map (·.1)) ∧ S = [mapE r M, slA 32 16 Bs.enc v ks]) := by
 refine Spec.intro (N := 5) (args := [.func (.func 64) #[] #[.pointer (some ⟨bx, 0, none⟩)]]) Tryz.func62 rfl rfl (by simp) ?_
 refine Zs fun _ hk1 => Sg 0 E3 <| Zl hk1 <| Run.seq fun k2 hk2 => Run.region <| Mv 0 E3 <| Ef 1 E2 (Zc E2 ce96 Tk2 (fun F' hle hr => appendSeq_spec F' hM)) ?_
 rintro v4 _ ⟨_, ⟨ks, hp, rfl⟩, rfl⟩
 exact J.app <| Sg 2 E3 <| Zl hk2 <| Run.ret <| J.ends (res_tmp rfl rfl) Tk2 ⟨ks, hp, rfl⟩

theorem sortA (F : Fr) {v : Value} {xs : List (Bs 16)} (hn : xs.length ≤ 4294967296) : Spec Tryz.prog 63 #[v, .func (.func 42) #[] #[]] [slA 32 16 Bs.enc v xs] F fun u S => u = .tuple #[] ∧ ∃ ys : List (Bs 16), ys.Perm xs ∧ (ys.Pairwise fun a b => ¬ cmpAd b a < 0) ∧ S = [slA 32 16 Bs.enc v ys] :=
 Spec.sortFunc Tryz.sortL (fun w => g32.agg w) (fun w => g32.size w) Bs.len Bs.cell swoAd ce42 (fun F x y => addrCompare_spec F x y) (by omega) F
/-- A table's keys, in order. -/
def KeysOf (M : TabM) (ks : List (Bs 16)) : Prop := ks.Perm (M.map (·.1)) ∧ ks.Pairwise fun a b => ¬ cmpAd b a < 0

theorem sortedFunc_spec (F : Fr) {bx : Nat} {r : Option Nat} {M : TabM} (hM : M.length ≤ 1000000) : Spec Tryz.prog 40 #[.func (.func 64) #[] #[.pointer (some ⟨bx, 0, none⟩)], .func (.func 42) #[] #[]] [blk bx [.map r] 89, mapE r M] F (fun v S => ∃ ks, KeysOf M ks ∧ S = [mapE r M, slA 32 16 Bs.enc v ks]) := by
 refine Spec.intro (N := 12) (args := [.func (.func 64) #[] #[.pointer (some ⟨bx, 0, none⟩)], .func (.func 42) #[] #[]]) Tryz.func40 rfl rfl (by simp) ?_
 refine Zs fun _ hk1 => Sg 0 E3 <| Zl hk1 <| Run.seq fun k2 hk2 => Run.region <| Mv 0 E3 <| Ef 1 E2 (Zc E2 ce62 Tk2 (fun F' hle hr => collect_spec F' hM)) ?_
 rintro v7 _ ⟨_, ⟨ks, hp, rfl⟩, rfl⟩
 refine J.app <| Sg 2 E3 <| Zl hk2 <| Zs fun _ hk3 => Mv 0 E3 <| Mv 1 E3 <| Ef 2 E2 (Zc E2 ce63 Tk1 (fun F' hle hr => sortA F' (by have := hp.length_eq; simp at this; omega))) ?_
 rintro _ _ ⟨_, ⟨rfl, ys, hys, hso, rfl⟩, rfl⟩
 exact J.app <| Zl hk3 <| Run.seq fun k4 hk4 => Run.region <| Mv 0 E3 <| Sg 1 E3 <| Zl hk4 <| Run.ret <| J.ends (res_tmp rfl rfl) Tk2 ⟨ys, ⟨hys.trans hp, hso⟩, rfl⟩
end Slb
