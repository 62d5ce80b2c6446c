/- R1: a part of the proof that a law of this package holds for every input; no condition. -/
import Derived.Test.YtfjmefldilponaaC3
import Derived.Test.YtfjmefldilponaaB21
import Derived.Shelf.SlGeneric
namespace Go.Proofs
open Go.Shelf
def Try.sortL_ren : Go.Shelf.Ren := ⟨fun | 6 => 54 | 15 => 64 | 14 => 63 | 28 => 77 | 29 => 78 | 20 => 69 | 21 => 70 | 22 => 71 | 23 => 72 | 24 => 73 | 25 => 74 | 26 => 75 | 27 => 76 | 46 => 81 | 47 => 82 | 48 => 83 | 49 => 84 | 50 => 85 | 57 => 86 | n => n, fun | 22 => 80 | 24 => 77 | 25 => 92 | 3 => 3 | 39 => 105 | 0 => 0 | 53 => 118 | 55 => 120 | 4 => 4 | 46 => 112 | 45 => 111 | 50 => 64 | 5 => 5 | 9 => 9 | 66 => 121 | 70 => 125 | 76 => 127 | 77 => 85 | n => n, fun | n => n⟩
theorem Try.sortL : Go.Proofs.SlLaysF.n6 Try.prog Try.sortL_ren := {
  mixed := by kernel_rfl
  f6 := ⟨Try.f54.name, by decide, Try.func54.trans (congrArg some (by kernel_rfl))⟩
  f14 := ⟨Try.f63.name, by decide, Try.func63.trans (congrArg some (by kernel_rfl))⟩
  f15 := Try.func64.trans (congrArg some (by kernel_rfl))
  f20 := ⟨Try.f69.name, by decide, Try.func69.trans (congrArg some (by kernel_rfl))⟩
  f21 := ⟨Try.f70.name, by decide, Try.func70.trans (congrArg some (by kernel_rfl))⟩
  f22 := ⟨Try.f71.name, by decide, Try.func71.trans (congrArg some (by kernel_rfl))⟩
  f23 := ⟨Try.f72.name, by decide, Try.func72.trans (congrArg some (by kernel_rfl))⟩
  f24 := ⟨Try.f73.name, by decide, Try.func73.trans (congrArg some (by kernel_rfl))⟩
  f25 := ⟨Try.f74.name, by decide, Try.func74.trans (congrArg some (by kernel_rfl))⟩
  f26 := ⟨Try.f75.name, by decide, Try.func75.trans (congrArg some (by kernel_rfl))⟩
  f27 := ⟨Try.f76.name, by decide, Try.func76.trans (congrArg some (by kernel_rfl))⟩
  f28 := Try.func77.trans (congrArg some (by kernel_rfl))
  f29 := Try.func78.trans (congrArg some (by kernel_rfl))
  f46 := ⟨Try.f81.name, by decide, Try.func81.trans (congrArg some (by kernel_rfl))⟩
  f47 := Try.func82.trans (congrArg some (by kernel_rfl))
  f48 := Try.func83.trans (congrArg some (by kernel_rfl))
  f49 := ⟨Try.f84.name, by decide, Try.func84.trans (congrArg some (by kernel_rfl))⟩
  f50 := ⟨Try.f85.name, by decide, Try.func85.trans (congrArg some (by kernel_rfl))⟩
  f57 := ⟨Try.f86.name, by decide, Try.func86.trans (congrArg some (by kernel_rfl))⟩
  t0 := Try.underlying0
  a0 := Try.isAgg0
  z0 := Try.sizeOf0
  v0 := Try.zeroValue0
  t3 := Try.underlying3
  a3 := Try.isAgg3
  z3 := Try.sizeOf3
  v3 := Try.zeroValue3
  t4 := Try.underlying4
  a4 := Try.isAgg4
  z4 := Try.sizeOf4
  v4 := Try.zeroValue4
  t5 := Try.underlying5
  a5 := Try.isAgg5
  z5 := Try.sizeOf5
  v5 := Try.zeroValue5
  t9 := Try.underlying9
  a9 := Try.isAgg9
  z9 := Try.sizeOf9
  v9 := Try.zeroValue9
  t22 := Try.underlying80
  a22 := Try.isAgg80
  z22 := Try.sizeOf80
  v22 := Try.zeroValue80
  a24 := Try.isAgg77
  z24 := Try.sizeOf77
  t25 := Try.underlying92
  a25 := Try.isAgg92
  z25 := Try.sizeOf92
  v25 := Try.zeroValue92
  t39 := Try.underlying105
  a39 := Try.isAgg105
  z39 := Try.sizeOf105
  v39 := Try.zeroValue105
  t45 := Try.underlying111
  a45 := Try.isAgg111
  z45 := Try.sizeOf111
  v45 := Try.zeroValue111
  t46 := Try.underlying112
  a46 := Try.isAgg112
  z46 := Try.sizeOf112
  v46 := Try.zeroValue112
  t50 := Try.underlying64
  a50 := Try.isAgg64
  z50 := Try.sizeOf64
  v50 := Try.zeroValue64
  t53 := Try.underlying118
  a53 := Try.isAgg118
  z53 := Try.sizeOf118
  v53 := Try.zeroValue118
  t55 := Try.underlying120
  a55 := Try.isAgg120
  z55 := Try.sizeOf120
  v55 := Try.zeroValue120
  t66 := Try.underlying121
  a66 := Try.isAgg121
  z66 := Try.sizeOf121
  v66 := Try.zeroValue121
  t70 := Try.underlying125
  a70 := Try.isAgg125
  z70 := Try.sizeOf125
  v70 := Try.zeroValue125
  t76 := Try.underlying127
  a76 := Try.isAgg127
  z76 := Try.sizeOf127
  v76 := Try.zeroValue127
  t77 := Try.underlying85
  a77 := Try.isAgg85
  z77 := Try.sizeOf85
  v77 := Try.zeroValue85 }
end Go.Proofs
namespace Slb
open Go Go.Proofs
set_option maxRecDepth 20000
@[reducible] def mapR (r : Nat) (M : List (RouteKey × Nat)) : HProp := mapT (fun x => .agg (RouteKey.enc x).toArray) pv r M
abbrev EntR := List (RouteKey × (Nat × Route))
abbrev TabR := List (RouteKey × Route)
def keyR (s : Route) : RouteKey := ⟨s.pair, s.if_, s.from_⟩
@[reducible] def RTab (b : Nat) (most : Int) (M : TabR) : HProp := GTab (fun r => RouteTable.enc ⟨most, some r⟩) 76 (fun x => .agg (RouteKey.enc x).toArray) Route.enc 37 b M
structure InR (F : Fr) (b r : Nat) (most : Int) (E : EntR) : Prop where
  tb : F.h b = some (.cells (RouteTable.enc ⟨most, some r⟩).toArray 76 (0, 0))
  row : ∀ e ∈ E, F.h e.2.1 = some (.cells (Route.enc e.2.2).toArray 37 (0, 0))
theorem InR.mono {F F' : Fr} {b r : Nat} {most : Int} {E : EntR} (h : InR F b r most E) (hle : PH.le F.h F'.h) : InR F' b r most E := ⟨hle _ _ h.tb, fun e he => hle _ _ (h.row e he)⟩
def cmpRoute (x y : Route) : Int := orF [cmpPair x.pair y.pair, cmpF x.if_.val y.if_.val, Lib.compareBytes x.from_.l y.from_.l]
theorem orF3 (a b c : Int) : orF [a, b, c] = orF [a, orF [b, c]] := by
  simp only [orF]
  split
  · rfl
  · split
    · rfl
    · rename_i h; simp at h
      split <;> simp_all
theorem totRK : TotCmp (fun (x y : RouteKey) => orF [cmpPair x.p y.p, cmpF x.i.val y.i.val, Lib.compareBytes x.from_.l y.from_.l]) :=
  TotCmp.lex (c2 := fun (x y : I64 × Bs 16) => orF [cmpF x.1.val y.1.val, Lib.compareBytes x.2.l y.2.l]) totPair (TotCmp.lex (TotCmp.int) (TotCmp.bytes 16) (fun x => x.1.val) (fun x => x.2) (fun x y h1 h2 => Prod.ext (Subtype.ext h1) h2) (fun _ _ => rfl)) (fun k => k.p) (fun k => (k.i, k.from_)) (fun x y h1 h2 => by
    obtain ⟨a, b, c⟩ := x; obtain ⟨a', b', c'⟩ := y
    simp only [Prod.mk.injEq] at h1 h2
    obtain ⟨rfl, rfl⟩ := h2
    subst h1; rfl) (fun _ _ => orF3 _ _ _)
theorem keyCmpR : KeyCmp keyR cmpRoute := KeyCmp.of totRK (fun _ _ => rfl)
theorem swoE : Sort.SWO (Go.Proofs.ltOf fun (x y : RouteKey × (Nat × Route)) => cmpRoute x.2.2 y.2.2) := ⟨fun x => totRK.swo.irrefl (keyR x.2.2), fun x y z => totRK.swo.trans (keyR x.2.2) (keyR y.2.2) (keyR z.2.2), fun x y z => totRK.swo.ntrans (keyR x.2.2) (keyR y.2.2) (keyR z.2.2)⟩
abbrev evE (e : RouteKey × (Nat × Route)) : Value := .pointer (some ⟨e.2.1, 0, none⟩)
abbrev pvE (e : RouteKey × (Nat × Route)) : List Value := [evE e]
def SortedE (es : EntR) : Prop := es.Pairwise fun a b => ¬ cmpRoute b.2.2 a.2.2 < 0
def SortedR (ys : List Route) : Prop := ys.Pairwise fun a b => ¬ cmpRoute b a < 0

theorem cmpE_spec (F : Fr) {c1 c2 : Nat} (x y : Route) (h1 : F.h c1 = some (.cells (Route.enc x).toArray 37 (0, 0))) (h2 : F.h c2 = some (.cells (Route.enc y).toArray 37 (0, 0))) : Spec Try.prog 55 #[.pointer (some ⟨c1, 0, none⟩), .pointer (some ⟨c2, 0, none⟩)] [] F (fun v S => v = .int .i64 (cmpRoute x y) ∧ S = []) := by
 refine Spec.intro (N := 34) (args := [.pointer (some ⟨c1, 0, none⟩), .pointer (some ⟨c2, 0, none⟩)]) Try.func55 rfl rfl (by simp) ?_
 refine Run.seq fun k1 hk1 => ?_
 refine Run.region ?_
 show Sq _ _ _ [0] _ _ _ _
 refine Sq.quiet (i := 0) rfl (Want.none rfl) rfl (ltN rfl) (QP.assign rfl rfl).read ?_
 refine Sq.nil ?_
 refine hk1 _ _ ?_
 refine Run.seq fun k2 hk2 => ?_
 refine Run.regionD (M := [0, 1, 3, 7, 0, 16, 48, 112, 255, 0, 512, 1536, 3584, 0, 8192, 24576, 57344, 131071, 0, 262144, 786432, 1835008, 0, 4194304, 12582912, 29360128, 67108863, 134217727, 268435455, 536870911]) (q := 66977535) (r := 35721352) (by kernel_rfl) ?_
 refine Dw.pure (i := 0) rfl (by kernel_rfl) (Want.none rfl) rfl (ltN rfl) (QP.move rfl rfl) ?_
 refine Dw.pure (i := 1) rfl (by kernel_rfl) (Want.none rfl) rfl (ltN rfl) (QP.nilCheck rfl rfl) ?_
 refine Dw.pure (i := 2) rfl (by kernel_rfl) (Want.none rfl) rfl (ltN rfl) (QP.fieldAddr rfl rfl f37_0) ?_
 refine Dw.read (i := 3) rfl (by kernel_rfl) (Want.none rfl) rfl (ltN rfl) (QR.loadF rfl rfl g32 h1 (Route.sub_pair _)) ?_
 refine Dw.pure (i := 4) rfl (by kernel_rfl) (Want.none rfl) rfl (ltN rfl) (QP.move rfl rfl) ?_
 refine Dw.pure (i := 5) rfl (by kernel_rfl) (Want.none rfl) rfl (ltN rfl) (QP.nilCheck rfl rfl) ?_
 refine Dw.pure (i := 6) rfl (by kernel_rfl) (Want.none rfl) rfl (ltN rfl) (QP.fieldAddr rfl rfl f37_0) ?_
 refine Dw.read (i := 7) rfl (by kernel_rfl) (Want.none rfl) rfl (ltN rfl) (QR.loadF rfl rfl g32 h2 (Route.sub_pair _)) ?_
 refine Dw.pure (i := 9) rfl (by kernel_rfl) (Want.none rfl) rfl (ltN rfl) (QP.move rfl rfl) ?_
 refine Dw.pure (i := 10) rfl (by kernel_rfl) (Want.none rfl) rfl (ltN rfl) (QP.nilCheck rfl rfl) ?_
 refine Dw.pure (i := 11) rfl (by kernel_rfl) (Want.none rfl) rfl (ltN rfl) (QP.fieldAddr rfl rfl f37_1) ?_
 refine Dw.read (i := 12) rfl (by kernel_rfl) (Want.none rfl) rfl (ltN rfl) (QR.load1F rfl rfl g3 h1 (Route.sub_if_ _)) ?_
 refine Dw.pure (i := 13) rfl (by kernel_rfl) (Want.none rfl) rfl (ltN rfl) (QP.move rfl rfl) ?_
 refine Dw.pure (i := 14) rfl (by kernel_rfl) (Want.none rfl) rfl (ltN rfl) (QP.nilCheck rfl rfl) ?_
 refine Dw.pure (i := 15) rfl (by kernel_rfl) (Want.none rfl) rfl (ltN rfl) (QP.fieldAddr rfl rfl f37_1) ?_
 refine Dw.read (i := 16) rfl (by kernel_rfl) (Want.none rfl) rfl (ltN rfl) (QR.load1F rfl rfl g3 h2 (Route.sub_if_ _)) ?_
 refine Dw.pure (i := 18) rfl (by kernel_rfl) (Want.none rfl) rfl (ltN rfl) (QP.move rfl rfl) ?_
 refine Dw.pure (i := 19) rfl (by kernel_rfl) (Want.none rfl) rfl (ltN rfl) (QP.nilCheck rfl rfl) ?_
 refine Dw.pure (i := 20) rfl (by kernel_rfl) (Want.none rfl) rfl (ltN rfl) (QP.fieldAddr rfl rfl f37_2) ?_
 refine Dw.read (i := 21) rfl (by kernel_rfl) (Want.none rfl) rfl (ltN rfl) (QR.loadF rfl rfl g28 h1 (Route.sub_from_ _)) ?_
 refine Dw.pure (i := 22) rfl (by kernel_rfl) (Want.none rfl) rfl (ltN rfl) (QP.move rfl rfl) ?_
 refine Dw.pure (i := 23) rfl (by kernel_rfl) (Want.none rfl) rfl (ltN rfl) (QP.nilCheck rfl rfl) ?_
 refine Dw.pure (i := 24) rfl (by kernel_rfl) (Want.none rfl) rfl (ltN rfl) (QP.fieldAddr rfl rfl f37_2) ?_
 refine Dw.read (i := 25) rfl (by kernel_rfl) (Want.none rfl) rfl (ltN rfl) (QR.loadF rfl rfl g28 h2 (Route.sub_from_ _)) ?_
 refine Dw.eff (i := 8) (by kernel_rfl) (by kernel_rfl) ?_
 refine One.mk (o := _) (l := [25, 21, 16, 12]) rfl (by kernel_rfl) (Want.none rfl) rfl (ltN rfl) (EF.call rfl ce57 rfl Takes.nil (fun F' hle hr => cmpPair_spec F' (x).pair (y).pair)) (by kernel_rfl) ?_
 rintro _ _ ⟨_, ⟨rfl, rfl⟩, rfl⟩
 refine ⟨?_, ?_⟩
 ·rw [List.forall_mem_cons, List.forall_mem_cons, List.forall_mem_cons, List.forall_mem_cons]
  refine ⟨?_, ?_, ?_, ?_, fun _ h => (by cases h)⟩
  ·refine Look.app ?_
   exact Look.mk rfl rfl rfl (QR.loadF rfl rfl g28 h2 (Route.sub_from_ _))
  ·refine Look.app ?_
   exact Look.mk rfl rfl rfl (QR.loadF rfl rfl g28 h1 (Route.sub_from_ _))
  ·refine Look.app ?_
   exact Look.mk rfl rfl rfl (QR.load1F rfl rfl g3 h2 (Route.sub_if_ _))
  ·refine Look.app ?_
   exact Look.mk rfl rfl rfl (QR.load1F rfl rfl g3 h1 (Route.sub_if_ _))
 refine ?_
 refine J.app ?_
 refine Dw.eff (i := 17) (by kernel_rfl) (by kernel_rfl) ?_
 refine One.mk (o := _) (l := [25, 21]) rfl (by kernel_rfl) (Want.none rfl) rfl (ltN rfl) (EF.call rfl ce49 rfl Takes.nil (fun F' hle hr => cmpCompare_spec F' ((x).if_).val ((y).if_).val)) (by kernel_rfl) ?_
 rintro _ _ ⟨_, ⟨rfl, rfl⟩, rfl⟩
 refine ⟨?_, ?_⟩
 ·rw [List.forall_mem_cons, List.forall_mem_cons]
  refine ⟨?_, ?_, fun _ h => (by cases h)⟩
  ·refine Look.app ?_
   exact Look.mk rfl rfl rfl (QR.loadF rfl rfl g28 h2 (Route.sub_from_ _))
  ·refine Look.app ?_
   exact Look.mk rfl rfl rfl (QR.loadF rfl rfl g28 h1 (Route.sub_from_ _))
 refine ?_
 refine J.app ?_
 refine Dw.eff (i := 26) (by kernel_rfl) (by kernel_rfl) ?_
 refine One.mk (o := _) (l := []) rfl (by kernel_rfl) (Want.none rfl) rfl (ltN rfl) (EF.call rfl ce58 rfl Takes.nil (fun F' hle hr => addrCompare_spec F' (x).from_ (y).from_)) (by kernel_rfl) ?_
 rintro _ _ ⟨_, ⟨rfl, rfl⟩, rfl⟩
 refine ⟨fun _ h => (by cases h), ?_⟩
 refine J.app ?_
 refine Dw.eff (i := 27) (by kernel_rfl) (by kernel_rfl) ?_
 refine One.mk (o := _) (l := []) rfl (by kernel_rfl) (Want.none rfl) rfl (ltN rfl) (EF.buildSliceS rfl Try.underlying106 z3 zero3 rfl (by decide) rfl rfl rfl rfl) (by kernel_rfl) ?_
 rintro _ _ ⟨b32, rfl, rfl⟩
 refine ⟨fun _ h => (by cases h), ?_⟩
 refine Dw.eff (i := 28) (by kernel_rfl) (by kernel_rfl) ?_
 refine One.mk (o := _) (l := []) rfl (by kernel_rfl) (Want.none rfl) rfl (ltN rfl) (EF.call rfl ce56 rfl Takes.nil (fun F' hle hr => or_spec F' [(cmpPair (x).pair (y).pair), (cmpF ((x).if_).val ((y).if_).val), (Lib.compareBytes ((x).from_).l ((y).from_).l)] (by simp) (fun _ => SlAt.frZ (fun _ => rfl) (hr _ _ (by repeat constructor)) [] [] rfl rfl))) (by kernel_rfl) ?_
 rintro _ _ ⟨_, ⟨rfl, rfl⟩, rfl⟩
 refine ⟨fun _ h => (by cases h), ?_⟩
 refine J.app ?_
 refine Dw.eff (i := 29) (by kernel_rfl) (by kernel_rfl) ?_
 refine One.mk (o := _) (l := []) rfl (by kernel_rfl) (Want.none rfl) rfl (ltN rfl) ((QP.assign rfl rfl).eff) (by kernel_rfl) ?_
 rintro _ _ ⟨rfl, rfl⟩
 refine ⟨fun _ h => (by cases h), ?_⟩
 refine Dw.nil (by kernel_rfl) ?_
 refine hk2 _ _ ?_
 refine Run.ret ?_
 exact J.ends (res_tmp rfl rfl) Takes.nil ⟨rfl, rfl⟩

theorem sortE (F : Fr) {E : EntR} (hrow : ∀ e ∈ E, F.h e.2.1 = some (.cells (Route.enc e.2.2).toArray 37 (0, 0))) {v : Value} {xs : EntR} (hx : ∀ x ∈ xs, x ∈ E) (hn : xs.length ≤ 4294967296) :
    Spec Try.prog 54 #[v, .func (.func 55) #[] #[]] [slA 77 1 pvE v xs] F fun u S => u = .tuple #[] ∧ ∃ ys, ys.Perm xs ∧ SortedE ys ∧ S = [slA 77 1 pvE v ys] := by
  have hxs : xs = (xs.attach.map fun x => (⟨x.1, hx x.1 x.2⟩ : { e // e ∈ E })).map (·.1) := by
    rw [List.map_map]
    exact (List.attach_map_subtype_val xs).symm
  generalize (xs.attach.map fun x => (⟨x.1, hx x.1 x.2⟩ : { e // e ∈ E })) = zs at hxs
  rw [hxs, slA_map]
  refine (Spec.sortFunc1 Try.sortL (ev := fun x : { e // e ∈ E } => evE x.1) (fun _ => rfl) (cf := fun x y => cmpRoute x.1.2.2 y.1.2.2) ⟨fun x => swoE.irrefl x.1, fun x y z => swoE.trans x.1 y.1 z.1, fun x y z => swoE.ntrans x.1 y.1 z.1⟩ ce55 F (fun F' x y hle => cmpE_spec F' x.1.2.2 y.1.2.2 (hle _ _ (hrow _ x.2)) (hle _ _ (hrow _ y.2))) (by
    have : zs.length = xs.length := by rw [hxs, List.length_map]
    omega)).mono ?_
  rintro u S ⟨h1, ys, h2, h3, rfl⟩
  refine ⟨h1, ys.map (·.1), h2.map _, ?_, by rw [slA_map]⟩
  exact List.pairwise_map.2 h3

theorem newQ (F : Fr) (most : Int) : Spec Try.prog 11 #[.int .i64 most] [] F (fun v S => ∃ b r, v = .pointer (some ⟨b, 0, none⟩) ∧ S = [blk b (RouteTable.enc ⟨most, some r⟩) 76, mapR r []]) := by
 refine Spec.intro (N := 7) (args := [.int .i64 most]) Try.func11 rfl rfl (by simp) ?_
 refine Run.seq fun k1 hk1 => ?_
 refine Run.region ?_
 show Sq _ _ _ [0] _ _ _ _
 refine Sq.quiet (i := 0) rfl (Want.none rfl) rfl (ltN rfl) (QP.assign rfl rfl).read ?_
 refine Sq.nil ?_
 refine hk1 _ _ ?_
 refine Run.seq fun k2 hk2 => ?_
 refine Run.region ?_
 show Sq _ _ _ [0, 1, 2, 3, 4] _ _ _ _
 refine Sq.quiet (i := 0) rfl (Want.none rfl) rfl (ltN rfl) (QP.move rfl rfl).read ?_
 refine Sq.eff (i := 1) rfl (Want.none rfl) rfl (ltN rfl) (EF.makeMap (fun x => .agg (RouteKey.enc x).toArray) pv rfl) ?_
 rintro _ _ ⟨r4, rfl, rfl⟩
 refine Sq.quiet (i := 2) rfl (Want.none rfl) rfl (ltN rfl) (QP.build (l := RouteTable.enc ⟨(most), _⟩) rfl st76 rfl (by exact ⟨rfl, ⟨rfl, trivial⟩⟩) rfl).read ?_
 refine Sq.eff (i := 3) rfl (Want.none rfl) rfl (ltN rfl) (EF.boxA rfl rfl) ?_
 rintro _ _ ⟨b6, rfl, rfl⟩
 refine Sq.quiet (i := 4) rfl (Want.none rfl) rfl (ltN rfl) (QP.assign rfl rfl).read ?_
 refine Sq.nil ?_
 refine hk2 _ _ ?_
 refine Run.ret ?_
 exact J.ends (res_tmp rfl rfl) (.cons (by repeat constructor) (.cons (by repeat constructor) Takes.nil)) ⟨_, _, rfl, rfl⟩

theorem allQ_nil (F : Fr)  : Spec Try.prog 35 #[.pointer none] [] F (fun v S => v = .slice none 0 0 ∧ S = []) := by
 refine Spec.intro (N := 23) (args := [.pointer none]) Try.func35 rfl rfl (by simp) ?_
 refine Run.seq fun k1 hk1 => ?_
 refine Run.region ?_
 show Sq _ _ _ [0] _ _ _ _
 refine Sq.quiet (i := 0) rfl (Want.none rfl) rfl (ltN rfl) (QP.assign rfl rfl).read ?_
 refine Sq.nil ?_
 refine hk1 _ _ ?_
 refine Run.seq fun k2 hk2 => ?_
 refine Run.seq fun k3 hk3 => ?_
 refine Run.region ?_
 show Sq _ _ _ [0, 1] _ _ _ _
 refine Sq.quiet (i := 0) rfl (Want.none rfl) rfl (ltN rfl) (QP.move rfl rfl).read ?_
 refine Sq.quiet (i := 1) rfl (Want.none rfl) rfl (ltN rfl) (QP.ptr_eq_nil rfl rfl rfl Try.underlying25).read ?_
 refine Sq.nil ?_
 refine hk3 _ _ ?_
 refine Run.cond_t rfl ?_
 refine Run.seq fun k4 hk4 => ?_
 refine Run.region ?_
 show Sq _ _ _ [0] _ _ _ _
 refine Sq.quiet (i := 0) rfl (Want.none rfl) rfl (ltN rfl) (QP.assign rfl rfl).read ?_
 refine Sq.nil ?_
 refine hk4 _ _ ?_
 refine Run.ret ?_
 exact J.ends (res_tmp rfl rfl) Takes.nil ⟨rfl, rfl⟩

theorem allQ (F : Fr) {b r : Nat} {most : Int} {E : EntR} (hf : InR F b r most E) (hE : E.length ≤ 1000000) : Spec Try.prog 35 #[.pointer (some ⟨b, 0, none⟩)] [mapR r (ptrs E)] F (fun v S => ∃ es, es.Perm E ∧ SortedE es ∧ S = [mapR r (ptrs E), slA 77 1 pvE v es]) := by
 refine Spec.intro (N := 23) (args := [.pointer (some ⟨b, 0, none⟩)]) Try.func35 rfl rfl (by simp) ?_
 refine Run.seq fun k1 hk1 => ?_
 refine Run.region ?_
 show Sq _ _ _ [0] _ _ _ _
 refine Sq.quiet (i := 0) rfl (Want.none rfl) rfl (ltN rfl) (QP.assign rfl rfl).read ?_
 refine Sq.nil ?_
 refine hk1 _ _ ?_
 refine Run.seq fun k2 hk2 => ?_
 refine Run.seq fun k3 hk3 => ?_
 refine Run.region ?_
 show Sq _ _ _ [0, 1] _ _ _ _
 refine Sq.quiet (i := 0) rfl (Want.none rfl) rfl (ltN rfl) (QP.move rfl rfl).read ?_
 refine Sq.quiet (i := 1) rfl (Want.none rfl) rfl (ltN rfl) (QP.ptr_eq_nil rfl rfl rfl Try.underlying25).read ?_
 refine Sq.nil ?_
 refine hk3 _ _ ?_
 refine Run.cond_f rfl ?_
 refine Run.skip ?_
 refine hk2 _ _ ?_
 refine Run.seq fun k4 hk4 => ?_
 refine Run.seq fun k5 hk5 => ?_
 refine Run.region ?_
 show Sq _ _ _ [0, 1, 2, 3, 4] _ _ _ _
 refine J.addSl 77 1 pvE ?_
 refine Sq.quiet (i := 0) rfl (Want.none rfl) rfl (ltN rfl) (QP.move rfl rfl).read ?_
 refine Sq.quiet (i := 1) rfl (Want.none rfl) rfl (ltN rfl) (QP.nilCheck rfl rfl).read ?_
 refine Sq.quiet (i := 2) rfl (Want.none rfl) rfl (ltN rfl) (QP.fieldAddr rfl rfl f76_1).read ?_
 refine Sq.quiet (i := 3) rfl (Want.none rfl) rfl (ltN rfl) (QR.load1F rfl rfl g74 hf.tb (RouteTable.sub_m _)) ?_
 refine Sq.eff (i := 4) rfl (Want.none rfl) rfl (ltN rfl) (EF.range rfl rfl Try.underlying74 (by repeat constructor)) ?_
 rintro _ _ ⟨it11, rfl, rfl⟩
 refine Sq.nil ?_
 refine hk5 _ _ ?_
 refine Run.block ?_
 refine Run.loop4 (fun (done : EntR) (todo : EntR) (cur : Option (RouteKey × Nat)) (v : Value) => (done ++ todo).Perm E) (fun done todo cur v => .cons 2 (v) (.cons 11 (.pointer (some ⟨it11, 0, none⟩)) (.nil))) (fun done todo cur v => [rangeT (fun x => .agg (RouteKey.enc x).toArray) pv r it11 (ptrs E) (ptrs todo) cur, slA 77 1 pvE v done]) (fun done todo cur v => todo.length) ([]) (E) (none) (.slice none 0 0) (List.Perm.refl _) ?_ ?_
 ·exact fun _ j => J.envJ (J.keep (.cons (by repeat constructor) (.cons (by repeat constructor) Takes.nil)) j) ⟨rfl, rfl, trivial⟩
 rintro done todo cur v hperm kl6 hl6
 have hlen : done.length + todo.length = E.length := by simpa using hperm.length_eq
 refine Run.seq fun k7 hk7 => ?_
 refine Run.region ?_
 show Sq _ _ _ [0, 1] _ _ _ _
 refine Sq.eff (i := 0) rfl (Want.none rfl) rfl (ltN rfl) (EF.next rfl rfl (by repeat constructor)) ?_
 rintro _ _ (⟨hn12, rfl, rfl⟩ | ⟨ix, px, hn12, rfl, rfl⟩)
 ·skip
  have htodo := ptrs_nil hn12
  subst htodo
  have hdone : done.Perm E := by simpa using hperm
  refine Sq.quiet (i := 1) rfl (Want.none rfl) rfl (ltN rfl) (QP.extract rfl rfl rfl).read ?_
  refine Sq.nil ?_
  refine hk7 _ _ ?_
  refine Run.seq fun k8 hk8 => ?_
  refine Run.cond_f rfl ?_
  refine Run.exit rfl ?_
  refine hk4 _ _ ?_
  refine Run.seq fun k9 hk9 => ?_
  refine Run.region ?_
  show Sq _ _ _ [0, 1] _ _ _ _
  refine Sq.quiet (i := 0) rfl (Want.none rfl) rfl (ltN rfl) (QP.move rfl rfl).read ?_
  refine Sq.eff (i := 1) rfl (Want.none rfl) rfl (ltN rfl) (EF.call rfl ce54 rfl (.cons (by repeat constructor) Takes.nil) (fun F' hle hr => sortE F' (fun e he => hle _ _ (hf.row e he)) (fun x hx => hdone.subset hx) (by have := hdone.length_eq; omega))) ?_
  rintro _ _ ⟨_, ⟨rfl, es, hp, hs, rfl⟩, rfl⟩
  refine J.app ?_
  refine Sq.nil ?_
  refine hk9 _ _ ?_
  refine Run.seq fun k10 hk10 => ?_
  refine Run.region ?_
  show Sq _ _ _ [0, 1] _ _ _ _
  refine Sq.quiet (i := 0) rfl (Want.none rfl) rfl (ltN rfl) (QP.move rfl rfl).read ?_
  refine Sq.quiet (i := 1) rfl (Want.none rfl) rfl (ltN rfl) (QP.assign rfl rfl).read ?_
  refine Sq.nil ?_
  refine hk10 _ _ ?_
  refine Run.ret ?_
  refine J.rangeEnd (by repeat constructor) ?_
  exact J.ends (res_tmp rfl rfl) (.cons (by repeat constructor) (.cons (by repeat constructor) Takes.nil)) ⟨es, hp.trans hdone, hs, rfl⟩
 ·skip
  obtain ⟨e, he, rfl⟩ := ptrs_get hn12
  have hmem : e ∈ E := hperm.subset (List.mem_append_right _ (List.mem_of_getElem? he))
  have hrow := hf.row e hmem
  refine Sq.quiet (i := 1) rfl (Want.none rfl) rfl (ltN rfl) (QP.extract rfl rfl rfl).read ?_
  refine Sq.nil ?_
  refine hk7 _ _ ?_
  refine Run.seq fun k11 hk11 => ?_
  refine Run.cond_t rfl ?_
  refine Run.skip ?_
  refine hk11 _ _ ?_
  refine Run.block ?_
  refine Run.seq fun k12 hk12 => ?_
  refine Run.region ?_
  show Sq _ _ _ [0, 1, 2] _ _ _ _
  refine Sq.quiet (i := 0) rfl (Want.none rfl) rfl (ltN rfl) (QR.entry rfl rfl) ?_
  refine Sq.quiet (i := 1) rfl (Want.none rfl) rfl (ltN rfl) (QP.extract rfl rfl rfl).read ?_
  refine Sq.quiet (i := 2) rfl (Want.none rfl) rfl (ltN rfl) (QP.assign rfl rfl).read ?_
  refine Sq.nil ?_
  refine hk12 _ _ ?_
  refine Run.region ?_
  show Sq _ _ _ [0, 1, 2, 3, 4] _ _ _ _
  refine Sq.quiet (i := 0) rfl (Want.none rfl) rfl (ltN rfl) (QP.move rfl rfl).read ?_
  refine Sq.quiet (i := 1) rfl (Want.none rfl) rfl (ltN rfl) (QP.move rfl rfl).read ?_
  refine Sq.eff (i := 2) rfl (Want.none rfl) rfl (ltN rfl) (EF.buildSliceS rfl Try.underlying80 z77 zero77 rfl (by decide) rfl rfl rfl rfl) ?_
  rintro _ _ ⟨b18, rfl, rfl⟩
  refine Sq.eff (i := 3) rfl (Want.none rfl) rfl (ltN rfl) (EF.append1 (xs := done) (s := e) el77 (fun _ => rfl) (fun _ => cell_one rfl) rfl rfl rfl Try.underlying80 Try.underlying80 rfl rfl (by repeat constructor) (by repeat constructor) (by first | omega | (simp <;> omega))) ?_
  rintro sl19 _ rfl
  refine Sq.quiet (i := 4) rfl (Want.none rfl) rfl (ltN rfl) (QP.assign rfl rfl).read ?_
  refine Sq.nil ?_
  rw [ptrs_erase]
  exact J.envJ (J.keep (.cons (by repeat constructor) (.cons (by repeat constructor) Takes.nil)) (hl6 (done ++ [e]) (todo.eraseIdx ix) (some (e.1, e.2.1)) (sl19) (by rw [List.append_assoc]; exact (List.Perm.append_left _ (erase_perm he)).trans hperm) (by have h1 := (erase_perm he).length_eq; simp at h1; omega))) ⟨rfl, rfl, trivial⟩

theorem list1_spec (F : Fr) (x : Value) : Spec Try.prog 38 #[x] [] F (fun v S => v = .bool true ∧ S = []) := by
 refine Spec.intro (N := 3) (args := [x]) Try.func38 rfl rfl (by simp) ?_
 refine Run.seq fun k1 hk1 => ?_
 refine Run.region ?_
 show Sq _ _ _ [0] _ _ _ _
 refine Sq.quiet (i := 0) rfl (Want.none rfl) rfl (ltN rfl) (QP.assign rfl rfl).read ?_
 refine Sq.nil ?_
 refine hk1 _ _ ?_
 refine Run.seq fun k2 hk2 => ?_
 refine Run.region ?_
 show Sq _ _ _ [0] _ _ _ _
 refine Sq.quiet (i := 0) rfl (Want.none rfl) rfl (ltN rfl) (QP.assign rfl rfl).read ?_
 refine Sq.nil ?_
 refine hk2 _ _ ?_
 refine Run.ret ?_
 exact J.ends (res_tmp rfl rfl) Takes.nil ⟨rfl, rfl⟩

theorem someQ_nil (F : Fr) (f : Value) : Spec Try.prog 37 #[.pointer none, f] [] F (fun v S => v = .slice none 0 0 ∧ S = []) := by
 refine Spec.intro (N := 25) (args := [.pointer none, f]) Try.func37 rfl rfl (by simp) ?_
 refine Run.seq fun k1 hk1 => ?_
 refine Run.region ?_
 show Sq _ _ _ [0] _ _ _ _
 refine Sq.quiet (i := 0) rfl (Want.none rfl) rfl (ltN rfl) (QP.assign rfl rfl).read ?_
 refine Sq.nil ?_
 refine hk1 _ _ ?_
 refine Run.seq fun k2 hk2 => ?_
 refine Run.seq fun k3 hk3 => ?_
 refine Run.region ?_
 show Sq _ _ _ [0, 1, 2, 3] _ _ _ _
 refine Sq.quiet (i := 0) rfl (Want.none rfl) rfl (ltN rfl) (QP.move rfl rfl).read ?_
 refine Sq.eff (i := 1) rfl (Want.none rfl) rfl (ltN rfl) (EF.call rfl ce35 rfl Takes.nil (fun F' hle hr => allQ_nil F')) ?_
 rintro _ _ ⟨_, ⟨rfl, rfl⟩, rfl⟩
 refine J.app ?_
 refine Sq.quiet (i := 2) rfl (Want.none rfl) rfl (ltN rfl) (QP.len rfl rfl rfl Try.underlying80).read ?_
 refine Sq.quiet (i := 3) rfl (Want.none rfl) rfl (ltN rfl) (QP.move rfl rfl).read ?_
 refine Sq.nil ?_
 refine hk3 _ _ ?_
 refine Run.block ?_
 refine Run.loop1 (fun (u : Unit) => True) (fun u => .cons 4 (.slice none 0 0) (.cons 9 (.int .i64 0) (.cons 10 (.int .i64 0) (.nil)))) (fun u => []) (fun u => 0) (()) (trivial) ?_ ?_
 ·exact fun _ j => J.envJ (J.keep Takes.nil j) ⟨rfl, rfl, rfl, trivial⟩
 rintro u _ kl4 hl4
 refine Run.seq fun k5 hk5 => ?_
 refine Run.region ?_
 show Sq _ _ _ [0] _ _ _ _
 refine Sq.quiet (i := 0) rfl (Want.none rfl) rfl (ltN rfl) (QP.lss rfl rfl rfl).read ?_
 refine Sq.nil ?_
 refine hk5 _ _ ?_
 refine Run.seq fun k6 hk6 => ?_
 refine Run.cond_f rfl ?_
 refine Run.exit rfl ?_
 refine hk2 _ _ ?_
 refine Run.seq fun k7 hk7 => ?_
 refine Run.region ?_
 show Sq _ _ _ [0, 1] _ _ _ _
 refine Sq.quiet (i := 0) rfl (Want.none rfl) rfl (ltN rfl) (QP.move rfl rfl).read ?_
 refine Sq.quiet (i := 1) rfl (Want.none rfl) rfl (ltN rfl) (QP.assign rfl rfl).read ?_
 refine Sq.nil ?_
 refine hk7 _ _ ?_
 refine Run.ret ?_
 exact J.ends (res_tmp rfl rfl) Takes.nil ⟨rfl, rfl⟩

theorem someQ (F : Fr) {b r : Nat} {most : Int} {E : EntR} (hf : InR F b r most E) (hE : E.length ≤ 1000000) : Spec Try.prog 37 #[.pointer (some ⟨b, 0, none⟩), .func (.func 38) #[] #[]] [mapR r (ptrs E)] F (fun v S => ∃ es, es.Perm E ∧ SortedE es ∧ S = [mapR r (ptrs E), slA 37 81 Route.enc v (es.map (·.2.2))]) := by
 refine Spec.intro (N := 25) (args := [.pointer (some ⟨b, 0, none⟩), .func (.func 38) #[] #[]]) Try.func37 rfl rfl (by simp) ?_
 refine Run.seq fun k1 hk1 => ?_
 refine Run.region ?_
 show Sq _ _ _ [0] _ _ _ _
 refine J.addSl 37 81 Route.enc ?_
 refine Sq.quiet (i := 0) rfl (Want.none rfl) rfl (ltN rfl) (QP.assign rfl rfl).read ?_
 refine Sq.nil ?_
 refine hk1 _ _ ?_
 refine Run.seq fun k2 hk2 => ?_
 refine Run.seq fun k3 hk3 => ?_
 refine Run.region ?_
 show Sq _ _ _ [0, 1, 2, 3] _ _ _ _
 refine Sq.quiet (i := 0) rfl (Want.none rfl) rfl (ltN rfl) (QP.move rfl rfl).read ?_
 refine Sq.eff (i := 1) rfl (Want.none rfl) rfl (ltN rfl) (EF.call rfl ce35 rfl (.cons (by repeat constructor) Takes.nil) (fun F' hle hr => allQ F' (hf.mono hle) hE)) ?_
 rintro v8 _ ⟨_, ⟨es, hp, hs, rfl⟩, rfl⟩
 refine J.app ?_
 refine Sq.slCase (v := v8) (xs := es) (by repeat constructor) (fun a8 c8 hv8 hh8 => ?_)
 subst hv8
 have hyl : es.length = E.length := hp.length_eq
 refine Sq.quiet (i := 2) rfl (Want.none rfl) rfl (ltN rfl) (QP.len rfl rfl rfl Try.underlying80).read ?_
 refine Sq.quiet (i := 3) rfl (Want.none rfl) rfl (ltN rfl) (QP.move rfl rfl).read ?_
 refine Sq.nil ?_
 refine hk3 _ _ ?_
 refine Run.block ?_
 refine Run.loop2 (fun (i : Nat) (va : Value) => i ≤ es.length) (fun i va => .cons 0 (.pointer (some ⟨b, 0, none⟩)) (.cons 1 (.func (.func 38) #[] #[]) (.cons 4 (va) (.cons 8 (.slice a8 es.length c8) (.cons 9 (.int .i64 es.length) (.cons 10 (.int .i64 i) (.nil))))))) (fun i va => [mapR r (ptrs E), slA 77 1 pvE (.slice a8 es.length c8) es, slA 37 81 Route.enc va ((es.take i).map (·.2.2))]) (fun i va => es.length - i) (0) (.slice none 0 0) (Nat.zero_le _) ?_ ?_
 ·exact fun _ j => J.envJ (J.keep (.cons (by repeat constructor) (.cons (by repeat constructor) (.cons (by repeat constructor) Takes.nil))) j) ⟨rfl, rfl, rfl, rfl, rfl, rfl, trivial⟩
 rintro i va hile kl4 hl4
 refine Run.seq fun k5 hk5 => ?_
 refine Run.region ?_
 show Sq _ _ _ [0] _ _ _ _
 refine Sq.quiet (i := 0) rfl (Want.none rfl) rfl (ltN rfl) (QP.lss rfl rfl rfl).read ?_
 refine J.caseD (fun c11 => ?_) (fun c11 => ?_)
 ·skip
  refine Sq.nil ?_
  refine hk5 _ _ ?_
  refine Run.seq fun k6 hk6 => ?_
  refine Run.cond_t rfl ?_
  refine Run.skip ?_
  refine hk6 _ _ ?_
  refine Run.seq fun k7 hk7 => ?_
  refine Run.block ?_
  refine Run.seq fun k8 hk8 => ?_
  refine Run.region ?_
  show Sq _ _ _ [0, 1, 2] _ _ _ _
  have hlt : i < es.length := by omega
  obtain ⟨e, hi⟩ : ∃ e, es[i]? = some e := ⟨_, List.getElem?_eq_getElem hlt⟩
  obtain ⟨b0, o0, rfl⟩ := hh8.get (by omega)
  have hrow := hf.row e (hp.subset (List.mem_of_getElem? hi))
  have htl : ((es.take i).map (·.2.2)).length ≤ 1000000 := by simp; omega
  refine Sq.quiet (i := 0) rfl (Want.none rfl) rfl (ltN rfl) (QP.indexAddr rfl rfl rfl Try.underlying80 z77 (by first | omega | (simp <;> omega)) (by first | omega | (simp <;> omega))).read ?_
  refine Sq.quiet (i := 1) rfl (Want.none rfl) rfl (ltN rfl) (QR.loadSl1 (ev := evE) rfl rfl g77 (SlAt.own (enc := pvE) (fun _ => rfl) (by repeat constructor)) hi) ?_
  refine Sq.quiet (i := 2) rfl (Want.none rfl) rfl (ltN rfl) (QP.assign rfl rfl).read ?_
  refine Sq.nil ?_
  refine hk8 _ _ ?_
  refine Run.seq fun k9 hk9 => ?_
  refine Run.region ?_
  show Sq _ _ _ [0, 1, 2] _ _ _ _
  refine Sq.quiet (i := 0) rfl (Want.none rfl) rfl (ltN rfl) (QP.move rfl rfl).read ?_
  refine Sq.quiet (i := 1) rfl (Want.none rfl) rfl (ltN rfl) (QP.move rfl rfl).read ?_
  refine Sq.eff (i := 2) rfl (Want.none rfl) rfl (ltN rfl) (EF.callV rfl rfl ce38 rfl Takes.nil (fun F' hle hr => list1_spec F' _)) ?_
  rintro _ _ ⟨_, ⟨rfl, rfl⟩, rfl⟩
  refine J.app ?_
  refine Sq.nil ?_
  refine hk9 _ _ ?_
  refine Run.cond_t rfl ?_
  refine Run.region ?_
  show Sq _ _ _ [0, 1, 2, 3, 4, 5, 6] _ _ _ _
  refine Sq.quiet (i := 0) rfl (Want.none rfl) rfl (ltN rfl) (QP.move rfl rfl).read ?_
  refine Sq.quiet (i := 1) rfl (Want.none rfl) rfl (ltN rfl) (QP.move rfl rfl).read ?_
  refine Sq.quiet (i := 2) rfl (Want.none rfl) rfl (ltN rfl) (QP.nilCheck rfl rfl).read ?_
  refine Sq.quiet (i := 3) rfl (Want.none rfl) rfl (ltN rfl) (QR.loadF rfl rfl g37 hrow (Route.enc_sub _)) ?_
  refine Sq.eff (i := 4) rfl (Want.none rfl) rfl (ltN rfl) (EF.buildSlice1 rfl Try.underlying46 z37 zero37 (by simp [Value.cells, Route.enc_len]) (by decide) rfl rfl (Route.enc_len _) (by decide)) ?_
  rintro _ _ ⟨b21, rfl, rfl⟩
  refine Sq.eff (i := 5) rfl (Want.none rfl) rfl (ltN rfl) (EF.append1 (xs := ((es.take i).map (·.2.2))) (s := e.2.2) el37 Route.enc_len Route.enc_cell rfl rfl rfl Try.underlying46 Try.underlying46 rfl rfl (by repeat constructor) (by repeat constructor) (by first | omega | (simp <;> omega))) ?_
  rintro sl22 _ rfl
  refine Sq.quiet (i := 6) rfl (Want.none rfl) rfl (ltN rfl) (QP.assign rfl rfl).read ?_
  refine Sq.nil ?_
  refine hk7 _ _ ?_
  refine Run.region ?_
  show Sq _ _ _ [0, 1] _ _ _ _
  refine Sq.quiet (i := 0) rfl (Want.none rfl) rfl (ltN rfl) (QP.add64 rfl rfl rfl (by first | omega | (simp <;> omega)) (by first | omega | (simp <;> omega))).read ?_
  refine Sq.quiet (i := 1) rfl (Want.none rfl) rfl (ltN rfl) (QP.move rfl rfl).read ?_
  refine Sq.nil ?_
  refine J.slEq (v := sl22) (by repeat constructor) (show ((es.take i).map (·.2.2)) ++ [e.2.2] = (es.take (i + 1)).map (·.2.2) by rw [List.take_add_one, hi]; simp) ?_
  exact J.envJ (J.keep (.cons (by repeat constructor) (.cons (by repeat constructor) (.cons (by repeat constructor) Takes.nil))) (hl4 (i + 1) (sl22) (by omega) (by omega))) ⟨rfl, rfl, rfl, rfl, rfl, rfl, trivial⟩
 ·skip
  refine Sq.nil ?_
  refine hk5 _ _ ?_
  refine Run.seq fun k10 hk10 => ?_
  refine Run.cond_f rfl ?_
  refine Run.exit rfl ?_
  refine hk2 _ _ ?_
  refine Run.seq fun k11 hk11 => ?_
  refine Run.region ?_
  show Sq _ _ _ [0, 1] _ _ _ _
  refine Sq.quiet (i := 0) rfl (Want.none rfl) rfl (ltN rfl) (QP.move rfl rfl).read ?_
  refine Sq.quiet (i := 1) rfl (Want.none rfl) rfl (ltN rfl) (QP.assign rfl rfl).read ?_
  refine Sq.nil ?_
  refine hk11 _ _ ?_
  refine Run.ret ?_
  have hty : es.take i = es := List.take_of_length_le (by omega)
  rw [hty]
  exact J.ends (res_tmp rfl rfl) (.cons (by repeat constructor) (.cons (by repeat constructor) Takes.nil)) ⟨es, hp, hs, rfl⟩

theorem listQ_nil (F : Fr)  : Spec Try.prog 15 #[.pointer none] [] F (fun v S => v = .slice none 0 0 ∧ S = []) := by
 refine Spec.intro (N := 5) (args := [.pointer none]) Try.func15 rfl rfl (by simp) ?_
 refine Run.seq fun k1 hk1 => ?_
 refine Run.region ?_
 show Sq _ _ _ [0] _ _ _ _
 refine Sq.quiet (i := 0) rfl (Want.none rfl) rfl (ltN rfl) (QP.assign rfl rfl).read ?_
 refine Sq.nil ?_
 refine hk1 _ _ ?_
 refine Run.seq fun k2 hk2 => ?_
 refine Run.region ?_
 show Sq _ _ _ [0, 1, 2] _ _ _ _
 refine Sq.quiet (i := 0) rfl (Want.none rfl) rfl (ltN rfl) (QP.move rfl rfl).read ?_
 refine Sq.eff (i := 1) rfl (Want.none rfl) rfl (ltN rfl) (EF.call rfl ce37 rfl Takes.nil (fun F' hle hr => someQ_nil F' _)) ?_
 rintro _ _ ⟨_, ⟨rfl, rfl⟩, rfl⟩
 refine J.app ?_
 refine Sq.quiet (i := 2) rfl (Want.none rfl) rfl (ltN rfl) (QP.assign rfl rfl).read ?_
 refine Sq.nil ?_
 refine hk2 _ _ ?_
 refine Run.ret ?_
 exact J.ends (res_tmp rfl rfl) Takes.nil ⟨rfl, rfl⟩

theorem listQ (F : Fr) {b r : Nat} {most : Int} {E : EntR} (hf : InR F b r most E) (hE : E.length ≤ 1000000) : Spec Try.prog 15 #[.pointer (some ⟨b, 0, none⟩)] [mapR r (ptrs E)] F (fun v S => ∃ es, es.Perm E ∧ SortedE es ∧ S = [mapR r (ptrs E), slA 37 81 Route.enc v (es.map (·.2.2))]) := by
 refine Spec.intro (N := 5) (args := [.pointer (some ⟨b, 0, none⟩)]) Try.func15 rfl rfl (by simp) ?_
 refine Run.seq fun k1 hk1 => ?_
 refine Run.region ?_
 show Sq _ _ _ [0] _ _ _ _
 refine Sq.quiet (i := 0) rfl (Want.none rfl) rfl (ltN rfl) (QP.assign rfl rfl).read ?_
 refine Sq.nil ?_
 refine hk1 _ _ ?_
 refine Run.seq fun k2 hk2 => ?_
 refine Run.region ?_
 show Sq _ _ _ [0, 1, 2] _ _ _ _
 refine Sq.quiet (i := 0) rfl (Want.none rfl) rfl (ltN rfl) (QP.move rfl rfl).read ?_
 refine Sq.eff (i := 1) rfl (Want.none rfl) rfl (ltN rfl) (EF.call rfl ce37 rfl (.cons (by repeat constructor) Takes.nil) (fun F' hle hr => someQ F' (hf.mono hle) hE)) ?_
 rintro v4 _ ⟨_, ⟨es, hp, hs, rfl⟩, rfl⟩
 refine J.app ?_
 refine Sq.quiet (i := 2) rfl (Want.none rfl) rfl (ltN rfl) (QP.assign rfl rfl).read ?_
 refine Sq.nil ?_
 refine hk2 _ _ ?_
 refine Run.ret ?_
 exact J.ends (res_tmp rfl rfl) (.cons (by repeat constructor) (.cons (by repeat constructor) Takes.nil)) ⟨es, hp, hs, rfl⟩
end Slb
