/- A1: a part of the proof that a law of this package holds for every input; no condition. -/
import Derived.Test.YtjieokfcpbillaaC6
import Derived.Test.YtjieokfcpbillaaB25
import Derived.Test.YtjieokfcpbillaaB21
import Derived.Test.YtjieokfcpbillaaB26
import Derived.RangeFuncLeaves
import Derived.Shelf.SlGeneric
namespace Go.Proofs
open Go.Shelf
def Try.sortL_ren : Go.Shelf.Ren := ⟨fun | 6 => 44 | 15 => 56 | 14 => 55 | 28 => 66 | 29 => 67 | 20 => 58 | 21 => 59 | 22 => 60 | 23 => 61 | 24 => 62 | 25 => 63 | 26 => 64 | 27 => 65 | 46 => 68 | 47 => 69 | 48 => 70 | 49 => 71 | 50 => 72 | 57 => 73 | n => n, fun | 22 => 35 | 24 => 45 | 25 => 53 | 3 => 3 | 39 => 123 | 0 => 0 | 53 => 107 | 55 => 134 | 4 => 4 | 46 => 126 | 45 => 125 | 50 => 130 | 5 => 5 | 9 => 9 | 66 => 135 | 70 => 139 | 76 => 141 | 77 => 114 | n => n, fun | n => n⟩
theorem Try.sortL : Go.Proofs.SlLaysF0.n6 Try.prog Try.sortL_ren := {
  mixed := by kernel_rfl
  f6 := ⟨Try.f44.name, by decide, Try.func44.trans (congrArg some (by kernel_rfl))⟩
  f14 := ⟨Try.f55.name, by decide, Try.func55.trans (congrArg some (by kernel_rfl))⟩
  f15 := Try.func56.trans (congrArg some (by kernel_rfl))
  f20 := ⟨Try.f58.name, by decide, Try.func58.trans (congrArg some (by kernel_rfl))⟩
  f21 := ⟨Try.f59.name, by decide, Try.func59.trans (congrArg some (by kernel_rfl))⟩
  f22 := ⟨Try.f60.name, by decide, Try.func60.trans (congrArg some (by kernel_rfl))⟩
  f23 := ⟨Try.f61.name, by decide, Try.func61.trans (congrArg some (by kernel_rfl))⟩
  f24 := ⟨Try.f62.name, by decide, Try.func62.trans (congrArg some (by kernel_rfl))⟩
  f25 := ⟨Try.f63.name, by decide, Try.func63.trans (congrArg some (by kernel_rfl))⟩
  f26 := ⟨Try.f64.name, by decide, Try.func64.trans (congrArg some (by kernel_rfl))⟩
  f27 := ⟨Try.f65.name, by decide, Try.func65.trans (congrArg some (by kernel_rfl))⟩
  f28 := Try.func66.trans (congrArg some (by kernel_rfl))
  f29 := Try.func67.trans (congrArg some (by kernel_rfl))
  f46 := ⟨Try.f68.name, by decide, Try.func68.trans (congrArg some (by kernel_rfl))⟩
  f47 := Try.func69.trans (congrArg some (by kernel_rfl))
  f48 := Try.func70.trans (congrArg some (by kernel_rfl))
  f49 := ⟨Try.f71.name, by decide, Try.func71.trans (congrArg some (by kernel_rfl))⟩
  f50 := ⟨Try.f72.name, by decide, Try.func72.trans (congrArg some (by kernel_rfl))⟩
  f57 := ⟨Try.f73.name, by decide, Try.func73.trans (congrArg some (by kernel_rfl))⟩
  t0 := Try.underlying0
  a0 := Try.isAgg0
  z0 := Try.sizeOf0
  v0 := Try.zeroValue0
  t3 := Try.underlying3
  a3 := Try.isAgg3
  z3 := Try.sizeOf3
  v3 := Try.zeroValue3
  t4 := Try.underlying4
  a4 := Try.isAgg4
  z4 := Try.sizeOf4
  v4 := Try.zeroValue4
  t5 := Try.underlying5
  a5 := Try.isAgg5
  z5 := Try.sizeOf5
  v5 := Try.zeroValue5
  t9 := Try.underlying9
  a9 := Try.isAgg9
  z9 := Try.sizeOf9
  v9 := Try.zeroValue9
  t22 := Try.underlying35
  a22 := Try.isAgg35
  z22 := Try.sizeOf35
  v22 := Try.zeroValue35
  t25 := Try.underlying53
  a25 := Try.isAgg53
  z25 := Try.sizeOf53
  v25 := Try.zeroValue53
  t39 := Try.underlying123
  a39 := Try.isAgg123
  z39 := Try.sizeOf123
  v39 := Try.zeroValue123
  t45 := Try.underlying125
  a45 := Try.isAgg125
  z45 := Try.sizeOf125
  v45 := Try.zeroValue125
  t46 := Try.underlying126
  a46 := Try.isAgg126
  z46 := Try.sizeOf126
  v46 := Try.zeroValue126
  t50 := Try.underlying130
  a50 := Try.isAgg130
  z50 := Try.sizeOf130
  v50 := Try.zeroValue130
  t53 := Try.underlying107
  a53 := Try.isAgg107
  z53 := Try.sizeOf107
  v53 := Try.zeroValue107
  t55 := Try.underlying134
  a55 := Try.isAgg134
  z55 := Try.sizeOf134
  v55 := Try.zeroValue134
  t66 := Try.underlying135
  a66 := Try.isAgg135
  z66 := Try.sizeOf135
  v66 := Try.zeroValue135
  t70 := Try.underlying139
  a70 := Try.isAgg139
  z70 := Try.sizeOf139
  v70 := Try.zeroValue139
  t76 := Try.underlying141
  a76 := Try.isAgg141
  z76 := Try.sizeOf141
  v76 := Try.zeroValue141
  t77 := Try.underlying114
  a77 := Try.isAgg114
  z77 := Try.sizeOf114
  v77 := Try.zeroValue114 }
end Go.Proofs
namespace Slb
open Go Go.Proofs
set_option maxRecDepth 20000
abbrev keyE (x : Pair) : Value := .agg (Pair.enc x).toArray
abbrev valB (b : Bool) : Value := .bool b
@[reducible] def mapE (r : Nat) (M : List (Pair × Bool)) : HProp := mapT keyE valB r M
abbrev TabB := List (Pair × Bool)
instance : Inhabited Pair := ⟨Pair.zero⟩
theorem swoPair : Sort.SWO (Go.Proofs.ltOf cmpPair) := totPair.swo
theorem mixedT : Try.prog.follows .mixedOrders = true := by kernel_rfl

theorem keysf_spec (F : Fr) {lp bx r : Nat} {M : TabB} (A : List Pair → HProp) (hy : ∀ pre x, pre.length < M.length → ∀ F', PH.le F.h F'.h → Yields Try.prog lp (keyE x) [A pre] F' [A (pre ++ [x])]) : Spec Try.prog 45 #[.func (.yield lp) #[] #[], .pointer (some ⟨bx, 0, none⟩)] [blk bx [.map (some r)] 76, mapE r M, A []] F (fun v S => ∃ ks : List Pair, ks.Perm (M.map (·.1)) ∧ S = [blk bx [.map (some r)] 76, mapE r M, A ks]) := by
 refine Spec.intro (N := 14) (args := [.func (.yield lp) #[] #[], .pointer (some ⟨bx, 0, none⟩)]) Try.func45 rfl rfl (by simp) ?_
 refine Run.seq fun k1 hk1 => ?_
 refine Run.region ?_
 show Sq _ _ _ [0, 1] _ _ _ _
 refine Sq.quiet (i := 0) rfl (Want.none rfl) rfl (ltN rfl) (QR.load1 rfl rfl g76 SubL.one) ?_
 refine Sq.eff (i := 1) rfl (Want.none rfl) rfl (ltN rfl) (EF.range rfl rfl Try.underlying76 (by repeat constructor)) ?_
 rintro _ _ ⟨it5, rfl, rfl⟩
 refine Sq.nil ?_
 refine hk1 _ _ ?_
 refine Run.block ?_
 refine Run.loop3 (fun (ks : List Pair) (todo : TabB) (cur : Option (Pair × Bool)) => (ks ++ todo.map (·.1)).Perm (M.map (·.1))) (fun ks todo cur => .cons 0 (.func (.yield lp) #[] #[]) (.cons 5 (.pointer (some ⟨it5, 0, none⟩)) (.nil))) (fun ks todo cur => [rangeT keyE valB r it5 M todo cur, A ks, blk bx [.map (some r)] 76]) (fun ks todo cur => todo.length) ([]) (M) (none) (List.Perm.refl _) ?_ ?_
 ·exact fun _ j => J.envJ (J.keep (.cons (by repeat constructor) (.cons (by repeat constructor) (.cons (by repeat constructor) Takes.nil))) j) ⟨rfl, rfl, trivial⟩
 rintro ks todo cur hperm kl2 hl2
 refine Run.seq fun k3 hk3 => ?_
 refine Run.region ?_
 show Sq _ _ _ [0, 1] _ _ _ _
 refine Sq.eff (i := 0) rfl (Want.none rfl) rfl (ltN rfl) (EF.next rfl rfl (by repeat constructor)) ?_
 rintro _ _ (⟨hn6, rfl, rfl⟩ | ⟨ix, px, hn6, rfl, rfl⟩)
 ·skip
  subst hn6
  have hdone : ks.Perm (M.map (·.1)) := by simpa using hperm
  refine Sq.quiet (i := 1) rfl (Want.none rfl) rfl (ltN rfl) (QP.extract rfl rfl rfl).read ?_
  refine Sq.nil ?_
  refine hk3 _ _ ?_
  refine Run.seq fun k4 hk4 => ?_
  refine Run.cond_f rfl ?_
  refine Run.exit rfl ?_
  refine J.rangeEnd (by repeat constructor) ?_
  exact J.ends (res_none rfl) (.cons (by repeat constructor) (.cons (by repeat constructor) (.cons (by repeat constructor) Takes.nil))) ⟨ks, hdone, rfl⟩
 ·skip
  have hlt : ks.length < M.length := by
    have h1 := hperm.length_eq
    have h2 := (List.getElem?_eq_some_iff.1 hn6).1
    simp at h1
    omega
  refine Sq.quiet (i := 1) rfl (Want.none rfl) rfl (ltN rfl) (QP.extract rfl rfl rfl).read ?_
  refine Sq.nil ?_
  refine hk3 _ _ ?_
  refine Run.seq fun k5 hk5 => ?_
  refine Run.cond_t rfl ?_
  refine Run.skip ?_
  refine hk5 _ _ ?_
  refine Run.block ?_
  refine Run.seq fun k6 hk6 => ?_
  refine Run.region ?_
  show Sq _ _ _ [0, 1, 2, 3] _ _ _ _
  refine Sq.quiet (i := 0) rfl (Want.none rfl) rfl (ltN rfl) (QR.entry rfl rfl) ?_
  refine Sq.quiet (i := 1) rfl (Want.none rfl) rfl (ltN rfl) (QP.extract rfl rfl rfl).read ?_
  refine Sq.eff (i := 2) rfl (Want.none rfl) rfl (ltN rfl) (EF.allocA (l := Pair.enc Pair.zero) rfl zero45) ?_
  rintro _ _ ⟨b3, rfl, rfl⟩
  refine Sq.act (i := 3) rfl (Want.none rfl) rfl (EF.storeA rfl rfl rfl z45 (SetL.all (Pair.enc_len _) (Pair.enc_len _)) (Pair.enc_cell _)) ?_
  rintro _ _ rfl
  refine Sq.nil ?_
  refine hk6 _ _ ?_
  refine Run.seq fun k7 hk7 => ?_
  refine Run.regionY ?_
  show SqI _ _ _ _ [0, 1, 2, 3] _ _ _ _
  refine SqI.quiet open_wide (i := 0) rfl (fun _ h => by cases h) (Want.none rfl) rfl (ltN rfl) (QP.move rfl rfl).read ?_
  refine SqI.quiet open_wide (i := 1) rfl (fun _ h => by cases h) (Want.none rfl) rfl (ltN rfl) (QR.load rfl rfl g45 (Pair.enc_sub _)) ?_
  refine SqI.yield (i := 2) rfl (Want.none rfl) rfl (ltN rfl) rfl rfl rfl (.cons (by repeat constructor) Takes.nil) (fun F' hle => hy ks px.1 hlt F' hle) ?_
  refine SqI.quiet open_wide (i := 3) rfl (fun _ h => by cases h) (Want.none rfl) rfl (ltN rfl) (QP.not rfl rfl).read ?_
  refine SqI.nil ?_
  refine hk7 _ _ ?_
  refine Run.cond_f rfl ?_
  refine Run.skip ?_
  exact J.envJ (J.keep (.cons (by repeat constructor) (.cons (by repeat constructor) (.cons (by repeat constructor) Takes.nil))) (hl2 (ks ++ [px.1]) (todo.eraseIdx ix) (some px) (by rw [List.append_assoc]; exact (List.Perm.append_left _ ((erase_perm hn6).map (·.1))).trans hperm) (by have h1 := (erase_perm hn6).length_eq; simp at h1; omega))) ⟨rfl, rfl, trivial⟩

theorem keys_spec (F : Fr) {r : Nat} : Spec Try.prog 33 #[.map (some r)] [] F (fun v S => ∃ bx, v = .func (.func 45) #[] #[.pointer (some ⟨bx, 0, none⟩)] ∧ S = [blk bx [.map (some r)] 76]) := by
 refine Spec.intro (N := 4) (args := [.map (some r)]) Try.func33 rfl rfl (by simp) ?_
 refine Run.seq fun k1 hk1 => ?_
 refine Run.region ?_
 show Sq _ _ _ [0, 1] _ _ _ _
 refine Sq.eff (i := 0) rfl (Want.none rfl) rfl (ltN rfl) (EF.box1 rfl rfl rfl) ?_
 rintro _ _ ⟨b1, rfl, rfl⟩
 refine Sq.quiet (i := 1) rfl (Want.none rfl) rfl (ltN rfl) (QP.assign rfl rfl).read ?_
 refine Sq.nil ?_
 refine hk1 _ _ ?_
 refine Run.seq fun k2 hk2 => ?_
 refine Run.region ?_
 show Sq _ _ _ [0, 1] _ _ _ _
 refine Sq.quiet (i := 0) rfl (Want.none rfl) rfl (ltN rfl) (QP.makeFunc rfl rfl).read ?_
 refine Sq.quiet (i := 1) rfl (Want.none rfl) rfl (ltN rfl) (QP.assign rfl rfl).read ?_
 refine Sq.nil ?_
 refine hk2 _ _ ?_
 refine Run.ret ?_
 exact J.ends (res_tmp rfl rfl) (.cons (by repeat constructor) Takes.nil) ⟨_, rfl, rfl⟩

/-- What AppendSeq keeps between two rounds. -/
def ApB (b2 : Nat) (pre : List Pair) : HProp := ex fun u => stars [blk b2 [u] 35, slA 45 34 Pair.enc u pre]
theorem foldB {F : Fr} {w : World} {A : HProp} {R : List HProp} {b2 : Nat} {u : Value} {pre : List Pair} (s : Sat (blk b2 [u] 35 :: slA 45 34 Pair.enc u pre :: A :: R) F w) : Sat [A, ApB b2 pre] F w := by
  have s1 : Sat ([blk b2 [u] 35, slA 45 34 Pair.enc u pre, A] ++ R) F w := s
  have s2 := s1.dropR
  have s3 : Sat [stars [blk b2 [u] 35, slA 45 34 Pair.enc u pre], A] F w := Sat.unflat (L := [_, _]) s2
  exact (s3.head fun h hh => ⟨u, hh⟩).perm (List.Perm.swap _ _ _)
set_option maxRecDepth 20000 in
theorem appendSeq_spec (F : Fr) {bx r : Nat} {M : TabB} (hM : M.length ≤ 1000000) :
    Spec Try.prog 54 #[.slice none 0 0, .func (.func 45) #[] #[.pointer (some ⟨bx, 0, none⟩)]] [blk bx [.map (some r)] 76, mapE r M] F fun v S => ∃ ks : List Pair, ks.Perm (M.map (·.1)) ∧ S = [mapE r M, slA 45 34 Pair.enc v ks] := by
  refine Spec.introM (N := 13) (args := [.slice none 0 0, .func (.func 45) #[] #[.pointer (some ⟨bx, 0, none⟩)]]) Try.func54 rfl rfl (by simp) fun Q hQ => ?_
  refine RunI.seq fun k1 hk1 => ?_
  refine RunI.region ?_
  show SqI _ _ _ _ [0, 1] _ _ _ _
  refine SqI.eff open_wide (i := 0) rfl (fun _ h => by cases h) (Want.none rfl) rfl (ltN rfl) (EF.box1 rfl rfl rfl) ?_
  rintro _ _ ⟨b2, rfl, rfl⟩
  refine SqI.quiet open_wide (i := 1) rfl (fun _ h => by cases h) (Want.none rfl) rfl (ltN rfl) (QP.assign rfl rfl).read ?_
  refine SqI.nil ?_
  refine J.mono ?_ hk1
  refine RunI.seq fun k2 hk2 => ?_
  refine RunI.seq fun k3 hk3 => ?_
  refine RunI.region ?_
  show SqI _ _ _ _ [0] _ _ _ _
  refine SqI.quiet open_wide (i := 0) rfl (fun _ h => by cases h) (Want.none rfl) rfl (ltN rfl) (QP.move rfl rfl).read ?_
  refine SqI.nil ?_
  refine J.mono ?_ hk3
  refine RunI.block ?_
  refine J.addSl 45 34 Pair.enc ?_
  refine range_over (X := { ks : List Pair // ks.Perm (M.map (·.1)) }) (T := fun ks => [ApB b2 ks.1, blk bx [.map (some r)] 76, mapE r M]) rfl ce45 (fun F' fn tmps l D hle hsz hG => ?_) (fun D x a w st => ?_)
  · generalize hL : lrec fn tmps 7 _ _ D = L
    have hy : ∀ (pre : List Pair) (x : Pair), pre.length < M.length → ∀ F2 : Fr, PH.le F'.h F2.h → Yields Try.prog l (keyE x) [stars [pts l (.loop L), ApB b2 pre]] F2 [stars [pts l (.loop L), ApB b2 (pre ++ [x])]] := by
      intro pre x hlt F2 hle2
      subst hL
      refine Yields.flat ?_
      refine yields_of (d := 5) (A1 := fun b5 => blk b5 (Pair.enc x) 45) hsz (by decide) hG ?_ ?_
      · intro S K hK
        refine RunI.region ?_
        show SqI _ _ _ _ [0, 1] _ _ _ _
        refine SqI.eff (open_round _) (i := 0) rfl (fun _ h => by cases h) (Want.none rfl) rfl (ltN rfl) (EF.allocA (l := Pair.enc Pair.zero) rfl zero45) ?_
        rintro _ _ ⟨b5, rfl, rfl⟩
        refine SqI.act (open_round _) (i := 1) rfl (fun _ h => by cases h) (Want.none rfl) rfl (EF.storeA rfl rfl rfl z45 (SetL.all (Pair.enc_len _) (Pair.enc_len _)) (Pair.enc_cell _)) ?_
        rintro _ _ rfl
        refine SqI.nil ?_
        exact hK b5
      · intro b5 A Q2 hQ2
        refine RunI.block ?_
        refine J.ex (by repeat constructor) (fun u => ?_)
        refine J.conseq (fun w s => Sat.flat s) ?_
        show J _ _ [blk b2 [u] 35, slA 45 34 Pair.enc u pre, blk b5 (Pair.enc x) 45, A] _ _
        refine RunI.region ?_
        show SqI _ _ _ _ [0, 1, 2, 3, 4] _ _ _ _
        refine SqI.quiet (open_round _) (i := 0) rfl (fun _ h => by cases h) (Want.none rfl) rfl (ltN rfl) (QR.load1 rfl rfl g35 SubL.one) ?_
        refine SqI.quiet (open_round _) (i := 1) rfl (fun _ h => by cases h) (Want.none rfl) rfl (ltN rfl) (QR.load rfl rfl g45 (Pair.enc_sub _)) ?_
        refine SqI.eff (open_round _) (i := 2) rfl (fun _ h => by cases h) (Want.none rfl) rfl (ltN rfl) (EF.buildSlice1 rfl Try.underlying35 z45 zero45 (by simp [Value.cells, Pair.enc_len]) (by decide) rfl rfl (Pair.enc_len _) (by decide)) ?_
        rintro _ _ ⟨b10, rfl, rfl⟩
        refine SqI.eff (open_round _) (i := 3) rfl (fun _ h => by cases h) (Want.none rfl) rfl (ltN rfl) (EF.append1 (xs := pre) (s := x) el45 Pair.enc_len Pair.enc_cell rfl rfl rfl Try.underlying35 Try.underlying35 rfl rfl (by repeat constructor) (by repeat constructor) (by first | omega | (simp <;> omega))) ?_
        rintro sl11 _ rfl
        refine J.slCase (v := sl11) (by repeat constructor) (fun a11 c11 hv11 hh11 => ?_)
        subst hv11
        refine SqI.act (open_round _) (i := 4) rfl (fun _ h => by cases h) (Want.none rfl) rfl (EF.store rfl rfl rfl z35 SetL.one (cell_one rfl)) ?_
        rintro _ _ rfl
        refine SqI.nil ?_
        refine J.keep (m := [blk b2 [_] 35, slA 45 34 Pair.enc _ (pre ++ [x]), A]) (.cons (by repeat constructor) (.cons (by repeat constructor) (.cons (by repeat constructor) Takes.nil))) ?_
        exact J.conseq (fun w s => foldB (R := []) s) (hQ2 _)
    refine Spec.conseq (S1 := [blk bx [.map (some r)] 76, mapE r M, stars [pts l (.loop L), ApB b2 []]]) (fun w s => ?_) (keysf_spec F' (fun pre => stars [pts l (.loop L), ApB b2 pre]) hy) ?_
    · have s1 : Sat ([pts l (.loop L)] ++ [slA 45 34 Pair.enc (.slice none 0 0) [], blk b2 [.slice none 0 0] 35] ++ [blk bx [.map (some r)] 76, mapE r M]) F' w := s
      have s2 : Sat ([blk b2 [.slice none 0 0] 35, slA 45 34 Pair.enc (.slice none 0 0) []] ++ ([pts l (.loop L)] ++ [blk bx [.map (some r)] 76, mapE r M])) F' w := s1.perm (by
        refine (List.Perm.append_right _ List.perm_append_comm).trans ?_
        simp only [List.append_assoc]
        exact List.Perm.append_right _ (List.Perm.swap _ _ _))
      have s3 : Sat (ApB b2 [] :: ([pts l (.loop L)] ++ [blk bx [.map (some r)] 76, mapE r M])) F' w := (Sat.unflat s2).head fun h hh => ⟨_, hh⟩
      have s4 : Sat ([pts l (.loop L), ApB b2 []] ++ [blk bx [.map (some r)] 76, mapE r M]) F' w := s3.perm (List.Perm.swap _ _ _)
      exact (Sat.unflat s4).perm ((List.perm_append_comm (l₁ := [_]) (l₂ := [_, _])))
    · rintro v S' w ⟨ks, hp, rfl⟩ s
      refine ⟨_, ⟨⟨ks, hp⟩, rfl⟩, ?_⟩
      have s1 := Sat.flat (s.perm (List.perm_append_comm (l₁ := [_, _]) (l₂ := [_])))
      exact s1
  · refine (?_ : J 13 _ (pts D (.deferred (some [])) :: [ApB b2 x.1, blk bx [.map (some r)] 76, mapE r M]) F fun a w => k2 { a with defers := [{ target := .collected D, args := #[] }] } w) a w st
    refine J.ex (by repeat constructor) (fun u => ?_)
    refine J.conseq (fun w s => Sat.flat s) ?_
    show J _ _ [blk b2 [u] 35, slA 45 34 Pair.enc u x.1, pts D (.deferred (some [])), blk bx [.map (some r)] 76, mapE r M] _ _
    refine J.mono (Φ := fun a w => Code.wpIn Fence.wide 0 Try.prog _ Q { a with defers := [{ target := .collected D, args := #[] }] } w) ?_ (fun a w h => hk2 _ _ h)
    refine fun a w s => wpIn_seq_k fun k4 hk4 => wpIn_region ?_
    refine (?_ : J 13 _ _ F fun a w => wpOpsIn Fence.wide 0 Try.prog _ (Exit.then k4 Q) [0, 1] { a with defers := [{ target := .collected D, args := #[] }] } w) a w s
    refine SqM.quiet open_wide (i := 0) rfl (fun _ h => by cases h) rfl rfl (ltN rfl) (QR.load1 rfl rfl g35 SubL.one) ?_
    refine SqM.quiet open_wide (i := 1) rfl (fun _ h => by cases h) rfl rfl (ltN rfl) (QP.assign rfl rfl).read ?_
    refine J.mono (Φ := fun a w => Q .ret { a with defers := [{ target := .collected D, args := #[] }] } w) ?_ (fun a w h => hk4 _ _ (wpIn_ret h))
    refine J.keep (m := [pts D (.deferred (some [])), mapE r M, slA 45 34 Pair.enc u x.1]) (.cons (by repeat constructor) (.cons (by repeat constructor) (.cons (by repeat constructor) Takes.nil))) ?_
    exact hQ D _ _ u (resM rfl rfl) ⟨x.1, x.2, rfl⟩

theorem collect_spec (F : Fr) {bx r : Nat} {M : TabB} (hM : M.length ≤ 1000000) : Spec Try.prog 43 #[.func (.func 45) #[] #[.pointer (some ⟨bx, 0, none⟩)]] [blk bx [.map (some r)] 76, mapE r M] F (fun v S => ∃ ks : List Pair, ks.Perm (M.map (·.1)) ∧ S = [mapE r M, slA 45 34 Pair.enc v ks]) := by
 refine Spec.intro (N := 5) (args := [.func (.func 45) #[] #[.pointer (some ⟨bx, 0, none⟩)]]) Try.func43 rfl rfl (by simp) ?_
 refine Run.seq fun k1 hk1 => ?_
 refine Run.region ?_
 show Sq _ _ _ [0] _ _ _ _
 refine Sq.quiet (i := 0) rfl (Want.none rfl) rfl (ltN rfl) (QP.assign rfl rfl).read ?_
 refine Sq.nil ?_
 refine hk1 _ _ ?_
 refine Run.seq fun k2 hk2 => ?_
 refine Run.region ?_
 show Sq _ _ _ [0, 1, 2] _ _ _ _
 refine Sq.quiet (i := 0) rfl (Want.none rfl) rfl (ltN rfl) (QP.move rfl rfl).read ?_
 refine Sq.eff (i := 1) rfl (Want.none rfl) rfl (ltN rfl) (EF.call rfl ce54 rfl (.cons (by repeat constructor) (.cons (by repeat constructor) Takes.nil)) (fun F' hle hr => appendSeq_spec F' hM)) ?_
 rintro v4 _ ⟨_, ⟨ks, hp, rfl⟩, rfl⟩
 refine J.app ?_
 refine Sq.quiet (i := 2) rfl (Want.none rfl) rfl (ltN rfl) (QP.assign rfl rfl).read ?_
 refine Sq.nil ?_
 refine hk2 _ _ ?_
 refine Run.ret ?_
 exact J.ends (res_tmp rfl rfl) (.cons (by repeat constructor) (.cons (by repeat constructor) Takes.nil)) ⟨ks, hp, rfl⟩

theorem sortP (F : Fr) {v : Value} {xs : List Pair} (hn : xs.length ≤ 4294967296) : Spec Try.prog 44 #[v, .func (.func 12) #[] #[]] [slA 45 34 Pair.enc v xs] F fun u S => u = .tuple #[] ∧ ∃ ys : List Pair, ys.Perm xs ∧ (ys.Pairwise fun a b => ¬ cmpPair b a < 0) ∧ S = [slA 45 34 Pair.enc v ys] :=
  Spec.sortFunc Try.sortL (fun w => g45.agg w) (fun w => g45.size w) Pair.enc_len Pair.enc_cell swoPair ce12 (fun F x y => cmpPair_spec F x y) (by omega) F
/-- A table's keys, in order. -/
def KeysOf (M : TabB) (ks : List Pair) : Prop := ks.Perm (M.map (·.1)) ∧ ks.Pairwise fun a b => ¬ cmpPair b a < 0

theorem sortedFunc_spec (F : Fr) {bx r : Nat} {M : TabB} (hM : M.length ≤ 1000000) : Spec Try.prog 32 #[.func (.func 45) #[] #[.pointer (some ⟨bx, 0, none⟩)], .func (.func 12) #[] #[]] [blk bx [.map (some r)] 76, mapE r M] F (fun v S => ∃ ks, KeysOf M ks ∧ S = [mapE r M, slA 45 34 Pair.enc v ks]) := by
 refine Spec.intro (N := 12) (args := [.func (.func 45) #[] #[.pointer (some ⟨bx, 0, none⟩)], .func (.func 12) #[] #[]]) Try.func32 rfl rfl (by simp) ?_
 refine Run.seq fun k1 hk1 => ?_
 refine Run.region ?_
 show Sq _ _ _ [0] _ _ _ _
 refine Sq.quiet (i := 0) rfl (Want.none rfl) rfl (ltN rfl) (QP.assign rfl rfl).read ?_
 refine Sq.nil ?_
 refine hk1 _ _ ?_
 refine Run.seq fun k2 hk2 => ?_
 refine Run.region ?_
 show Sq _ _ _ [0, 1, 2] _ _ _ _
 refine Sq.quiet (i := 0) rfl (Want.none rfl) rfl (ltN rfl) (QP.move rfl rfl).read ?_
 refine Sq.eff (i := 1) rfl (Want.none rfl) rfl (ltN rfl) (EF.call rfl ce43 rfl (.cons (by repeat constructor) (.cons (by repeat constructor) Takes.nil)) (fun F' hle hr => collect_spec F' hM)) ?_
 rintro v7 _ ⟨_, ⟨ks, hp, rfl⟩, rfl⟩
 refine J.app ?_
 refine Sq.quiet (i := 2) rfl (Want.none rfl) rfl (ltN rfl) (QP.assign rfl rfl).read ?_
 refine Sq.nil ?_
 refine hk2 _ _ ?_
 refine Run.seq fun k3 hk3 => ?_
 refine Run.region ?_
 show Sq _ _ _ [0, 1, 2] _ _ _ _
 refine Sq.quiet (i := 0) rfl (Want.none rfl) rfl (ltN rfl) (QP.move rfl rfl).read ?_
 refine Sq.quiet (i := 1) rfl (Want.none rfl) rfl (ltN rfl) (QP.move rfl rfl).read ?_
 refine Sq.eff (i := 2) rfl (Want.none rfl) rfl (ltN rfl) (EF.call rfl ce44 rfl (.cons (by repeat constructor) Takes.nil) (fun F' hle hr => sortP F' (by have := hp.length_eq; simp at this; omega))) ?_
 rintro _ _ ⟨_, ⟨rfl, ys, hys, hso, rfl⟩, rfl⟩
 refine J.app ?_
 refine Sq.nil ?_
 refine hk3 _ _ ?_
 refine Run.seq fun k4 hk4 => ?_
 refine Run.region ?_
 show Sq _ _ _ [0, 1] _ _ _ _
 refine Sq.quiet (i := 0) rfl (Want.none rfl) rfl (ltN rfl) (QP.move rfl rfl).read ?_
 refine Sq.quiet (i := 1) rfl (Want.none rfl) rfl (ltN rfl) (QP.assign rfl rfl).read ?_
 refine Sq.nil ?_
 refine hk4 _ _ ?_
 refine Run.ret ?_
 exact J.ends (res_tmp rfl rfl) (.cons (by repeat constructor) (.cons (by repeat constructor) Takes.nil)) ⟨ys, ⟨hys.trans hp, hso⟩, rfl⟩
end Slb
