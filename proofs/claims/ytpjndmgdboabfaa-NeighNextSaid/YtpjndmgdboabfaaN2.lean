/- N2: a part of the proof that a law of this package holds for every input; no condition. -/
import Derived.Test.YtpjndmgdboabfaaN1
import Derived.Test.YtpjndmgdboabfaaM2
import Derived.Shelf.SlGeneric
namespace Go.Proofs
open Go.Shelf
def Try.sortL_ren : Go.Shelf.Ren := ⟨fun | 6 => 28 | 15 => 49 | 14 => 48 | 28 => 68 | 29 => 69 | 20 => 60 | 21 => 61 | 22 => 62 | 23 => 63 | 24 => 64 | 25 => 65 | 26 => 66 | 27 => 67 | 46 => 73 | 47 => 74 | 48 => 75 | 49 => 76 | 50 => 77 | 57 => 78 | n => n, fun | 22 => 44 | 24 => 54 | 25 => 89 | 3 => 3 | 39 => 110 | 0 => 0 | 53 => 52 | 55 => 134 | 4 => 4 | 46 => 127 | 45 => 126 | 50 => 62 | 5 => 5 | 9 => 9 | 66 => 137 | 70 => 83 | 76 => 142 | 77 => 122 | n => n, fun | n => n⟩
theorem Try.sortL : Go.Proofs.SlLaysF0.n6 Try.prog Try.sortL_ren := {
  mixed := by kernel_rfl
  f6 := ⟨Try.f28.name, by decide, Try.func28.trans (congrArg some (by kernel_rfl))⟩
  f14 := ⟨Try.f48.name, by decide, Try.func48.trans (congrArg some (by kernel_rfl))⟩
  f15 := Try.func49.trans (congrArg some (by kernel_rfl))
  f20 := ⟨Try.f60.name, by decide, Try.func60.trans (congrArg some (by kernel_rfl))⟩
  f21 := ⟨Try.f61.name, by decide, Try.func61.trans (congrArg some (by kernel_rfl))⟩
  f22 := ⟨Try.f62.name, by decide, Try.func62.trans (congrArg some (by kernel_rfl))⟩
  f23 := ⟨Try.f63.name, by decide, Try.func63.trans (congrArg some (by kernel_rfl))⟩
  f24 := ⟨Try.f64.name, by decide, Try.func64.trans (congrArg some (by kernel_rfl))⟩
  f25 := ⟨Try.f65.name, by decide, Try.func65.trans (congrArg some (by kernel_rfl))⟩
  f26 := ⟨Try.f66.name, by decide, Try.func66.trans (congrArg some (by kernel_rfl))⟩
  f27 := ⟨Try.f67.name, by decide, Try.func67.trans (congrArg some (by kernel_rfl))⟩
  f28 := Try.func68.trans (congrArg some (by kernel_rfl))
  f29 := Try.func69.trans (congrArg some (by kernel_rfl))
  f46 := ⟨Try.f73.name, by decide, Try.func73.trans (congrArg some (by kernel_rfl))⟩
  f47 := Try.func74.trans (congrArg some (by kernel_rfl))
  f48 := Try.func75.trans (congrArg some (by kernel_rfl))
  f49 := ⟨Try.f76.name, by decide, Try.func76.trans (congrArg some (by kernel_rfl))⟩
  f50 := ⟨Try.f77.name, by decide, Try.func77.trans (congrArg some (by kernel_rfl))⟩
  f57 := ⟨Try.f78.name, by decide, Try.func78.trans (congrArg some (by kernel_rfl))⟩
  t0 := Try.underlying0
  a0 := Try.isAgg0
  z0 := Try.sizeOf0
  v0 := Try.zeroValue0
  t3 := Try.underlying3
  a3 := Try.isAgg3
  z3 := Try.sizeOf3
  v3 := Try.zeroValue3
  t4 := Try.underlying4
  a4 := Try.isAgg4
  z4 := Try.sizeOf4
  v4 := Try.zeroValue4
  t5 := Try.underlying5
  a5 := Try.isAgg5
  z5 := Try.sizeOf5
  v5 := Try.zeroValue5
  t9 := Try.underlying9
  a9 := Try.isAgg9
  z9 := Try.sizeOf9
  v9 := Try.zeroValue9
  t22 := Try.underlying44
  a22 := Try.isAgg44
  z22 := Try.sizeOf44
  v22 := Try.zeroValue44
  t25 := Try.underlying89
  a25 := Try.isAgg89
  z25 := Try.sizeOf89
  v25 := Try.zeroValue89
  t39 := Try.underlying110
  a39 := Try.isAgg110
  z39 := Try.sizeOf110
  v39 := Try.zeroValue110
  t45 := Try.underlying126
  a45 := Try.isAgg126
  z45 := Try.sizeOf126
  v45 := Try.zeroValue126
  t46 := Try.underlying127
  a46 := Try.isAgg127
  z46 := Try.sizeOf127
  v46 := Try.zeroValue127
  t50 := Try.underlying62
  a50 := Try.isAgg62
  z50 := Try.sizeOf62
  v50 := Try.zeroValue62
  t53 := Try.underlying52
  a53 := Try.isAgg52
  z53 := Try.sizeOf52
  v53 := Try.zeroValue52
  t55 := Try.underlying134
  a55 := Try.isAgg134
  z55 := Try.sizeOf134
  v55 := Try.zeroValue134
  t66 := Try.underlying137
  a66 := Try.isAgg137
  z66 := Try.sizeOf137
  v66 := Try.zeroValue137
  t70 := Try.underlying83
  a70 := Try.isAgg83
  z70 := Try.sizeOf83
  v70 := Try.zeroValue83
  t76 := Try.underlying142
  a76 := Try.isAgg142
  z76 := Try.sizeOf142
  v76 := Try.zeroValue142
  t77 := Try.underlying122
  a77 := Try.isAgg122
  z77 := Try.sizeOf122
  v77 := Try.zeroValue122 }
end Go.Proofs
namespace Slb
open Go Go.Proofs
set_option maxRecDepth 20000
@[reducible] def mapN (r : Nat) (M : List (NeighKey × Nat)) : HProp := mapT (fun x => .agg (NeighKey.enc x).toArray) pv r M
abbrev EntN := List (NeighKey × (Nat × Neighbour))
abbrev TabN := List (NeighKey × Neighbour)
def keyN (s : Neighbour) : NeighKey := ⟨s.if_, s.addr⟩
@[reducible] def NTab (b : Nat) (most : Int) (q : Slc) (M : TabN) : HProp := GTab (fun r => NeighTable.enc ⟨most, q, some r⟩) 77 (fun x => .agg (NeighKey.enc x).toArray) Neighbour.enc 54 b M
/-- The table and its rows lie in the frame. -/
structure InN (F : Fr) (b r : Nat) (most : Int) (q : Slc) (E : EntN) : Prop where
  tb : F.h b = some (.cells (NeighTable.enc ⟨most, q, some r⟩).toArray 77 (0, 0))
  row : ∀ e ∈ E, F.h e.2.1 = some (.cells (Neighbour.enc e.2.2).toArray 54 (0, 0))
theorem InN.mono {F F' : Fr} {b r : Nat} {most : Int} {q : Slc} {E : EntN} (h : InN F b r most q E) (hle : PH.le F.h F'.h) : InN F' b r most q E := ⟨hle _ _ h.tb, fun e he => hle _ _ (h.row e he)⟩
def cmpNei (x y : Neighbour) : Int := orF [cmpF x.if_.val y.if_.val, Lib.compareBytes x.addr.l y.addr.l]
theorem totNK : TotCmp (fun (x y : NeighKey) => orF [cmpF x.i.val y.i.val, Lib.compareBytes x.from_.l y.from_.l]) :=
  TotCmp.lex (TotCmp.int) (TotCmp.bytes 16) (fun x => x.i.val) (fun x => x.from_) (fun x y h1 h2 => by
    obtain ⟨a, b⟩ := x; obtain ⟨a', b'⟩ := y
    simp only at h1 h2
    obtain rfl := Subtype.ext h1
    subst h2; rfl) (fun _ _ => rfl)
theorem keyCmpN : KeyCmp keyN cmpNei := KeyCmp.of totNK (fun _ _ => rfl)
theorem swoN : Sort.SWO (Go.Proofs.ltOf cmpNei) := ⟨fun x => totNK.swo.irrefl (keyN x), fun x y z => totNK.swo.trans (keyN x) (keyN y) (keyN z), fun x y z => totNK.swo.ntrans (keyN x) (keyN y) (keyN z)⟩
def SortedN (ys : List Neighbour) : Prop := ys.Pairwise fun a b => ¬ cmpNei b a < 0
def KeyedN (M : TabN) : Prop := ∀ e ∈ M, e.1 = keyN e.2
abbrev OrdN (M : TabN) (L : List Neighbour) : Prop := InOrder keyN cmpNei M L
instance : Inhabited Neighbour := ⟨Neighbour.zero⟩
theorem mixedT : Try.prog.follows .mixedOrders = true := by kernel_rfl

theorem cmpNei_spec (F : Fr) (x y : Neighbour) : Spec Try.prog 29 #[.agg (Neighbour.enc x).toArray, .agg (Neighbour.enc y).toArray] [] F (fun v S => v = .int .i64 (cmpNei x y) ∧ S = []) := by
 refine Spec.intro (N := 17) (args := [.agg (Neighbour.enc x).toArray, .agg (Neighbour.enc y).toArray]) Try.func29 rfl rfl (by simp) ?_
 refine Run.seq fun k1 hk1 => ?_
 refine Run.region ?_
 show Sq _ _ _ [0, 1, 2] _ _ _ _
 refine Sq.eff (i := 0) rfl (Want.none rfl) rfl (ltN rfl) (EF.boxA rfl rfl) ?_
 rintro _ _ ⟨b2, rfl, rfl⟩
 refine Sq.eff (i := 1) rfl (Want.none rfl) rfl (ltN rfl) (EF.boxA rfl rfl) ?_
 rintro _ _ ⟨b3, rfl, rfl⟩
 refine Sq.quiet (i := 2) rfl (Want.none rfl) rfl (ltN rfl) (QP.assign rfl rfl).read ?_
 refine Sq.nil ?_
 refine hk1 _ _ ?_
 refine Run.seq fun k2 hk2 => ?_
 refine Run.regionD (M := [0, 1, 0, 4, 15, 0, 32, 0, 128, 511, 1023, 2047, 4095]) (q := 495) (r := 330) (by kernel_rfl) ?_
 refine Dw.pure (i := 0) rfl (by kernel_rfl) (Want.none rfl) rfl (ltN rfl) (QP.fieldAddr rfl rfl f54_0) ?_
 refine Dw.read (i := 1) rfl (by kernel_rfl) (Want.none rfl) rfl (ltN rfl) (QR.load1 rfl rfl g3 (Neighbour.sub_if_ _)) ?_
 refine Dw.pure (i := 2) rfl (by kernel_rfl) (Want.none rfl) rfl (ltN rfl) (QP.fieldAddr rfl rfl f54_0) ?_
 refine Dw.read (i := 3) rfl (by kernel_rfl) (Want.none rfl) rfl (ltN rfl) (QR.load1 rfl rfl g3 (Neighbour.sub_if_ _)) ?_
 refine Dw.pure (i := 5) rfl (by kernel_rfl) (Want.none rfl) rfl (ltN rfl) (QP.fieldAddr rfl rfl f54_1) ?_
 refine Dw.read (i := 6) rfl (by kernel_rfl) (Want.none rfl) rfl (ltN rfl) (QR.load rfl rfl g29 (Neighbour.sub_addr _)) ?_
 refine Dw.pure (i := 7) rfl (by kernel_rfl) (Want.none rfl) rfl (ltN rfl) (QP.fieldAddr rfl rfl f54_1) ?_
 refine Dw.read (i := 8) rfl (by kernel_rfl) (Want.none rfl) rfl (ltN rfl) (QR.load rfl rfl g29 (Neighbour.sub_addr _)) ?_
 refine Dw.eff (i := 4) (by kernel_rfl) (by kernel_rfl) ?_
 refine One.mk (o := _) (l := [8, 6]) rfl (by kernel_rfl) (Want.none rfl) rfl (ltN rfl) (EF.call rfl ce31 rfl Takes.nil (fun F' hle hr => cmpCompare_spec F' ((x).if_).val ((y).if_).val)) (by kernel_rfl) ?_
 rintro _ _ ⟨_, ⟨rfl, rfl⟩, rfl⟩
 refine ⟨?_, ?_⟩
 ·rw [List.forall_mem_cons, List.forall_mem_cons]
  refine ⟨?_, ?_, fun _ h => (by cases h)⟩
  ·refine Look.app ?_
   exact Look.mk rfl rfl rfl (QR.load rfl rfl g29 (Neighbour.sub_addr _))
  ·refine Look.app ?_
   exact Look.mk rfl rfl rfl (QR.load rfl rfl g29 (Neighbour.sub_addr _))
 refine ?_
 refine J.app ?_
 refine Dw.eff (i := 9) (by kernel_rfl) (by kernel_rfl) ?_
 refine One.mk (o := _) (l := []) rfl (by kernel_rfl) (Want.none rfl) rfl (ltN rfl) (EF.call rfl ce32 rfl Takes.nil (fun F' hle hr => addrCompare_spec F' (x).addr (y).addr)) (by kernel_rfl) ?_
 rintro _ _ ⟨_, ⟨rfl, rfl⟩, rfl⟩
 refine ⟨fun _ h => (by cases h), ?_⟩
 refine J.app ?_
 refine Dw.eff (i := 10) (by kernel_rfl) (by kernel_rfl) ?_
 refine One.mk (o := _) (l := []) rfl (by kernel_rfl) (Want.none rfl) rfl (ltN rfl) (EF.buildSliceS rfl Try.underlying98 z3 zero3 rfl (by decide) rfl rfl rfl rfl) (by kernel_rfl) ?_
 rintro _ _ ⟨b15, rfl, rfl⟩
 refine ⟨fun _ h => (by cases h), ?_⟩
 refine Dw.eff (i := 11) (by kernel_rfl) (by kernel_rfl) ?_
 refine One.mk (o := _) (l := []) rfl (by kernel_rfl) (Want.none rfl) rfl (ltN rfl) (EF.call rfl ce30 rfl Takes.nil (fun F' hle hr => or_spec F' [(cmpF ((x).if_).val ((y).if_).val), (Lib.compareBytes ((x).addr).l ((y).addr).l)] (by simp) (fun _ => SlAt.frZ (fun _ => rfl) (hr _ _ (by repeat constructor)) [] [] rfl rfl))) (by kernel_rfl) ?_
 rintro _ _ ⟨_, ⟨rfl, rfl⟩, rfl⟩
 refine ⟨fun _ h => (by cases h), ?_⟩
 refine J.app ?_
 refine Dw.eff (i := 12) (by kernel_rfl) (by kernel_rfl) ?_
 refine One.mk (o := _) (l := []) rfl (by kernel_rfl) (Want.none rfl) rfl (ltN rfl) ((QP.assign rfl rfl).eff) (by kernel_rfl) ?_
 rintro _ _ ⟨rfl, rfl⟩
 refine ⟨fun _ h => (by cases h), ?_⟩
 refine Dw.nil (by kernel_rfl) ?_
 refine hk2 _ _ ?_
 refine Run.ret ?_
 exact J.ends (res_tmp rfl rfl) Takes.nil ⟨rfl, rfl⟩

theorem sortN (F : Fr) {v : Value} {xs : List Neighbour} (hn : xs.length ≤ 4294967296) : Spec Try.prog 28 #[v, .func (.func 29) #[] #[]] [slA 54 34 Neighbour.enc v xs] F fun u S => u = .tuple #[] ∧ ∃ ys, ys.Perm xs ∧ SortedN ys ∧ S = [slA 54 34 Neighbour.enc v ys] :=
  Spec.sortFunc Try.sortL (fun w => g54.agg w) (fun w => g54.size w) Neighbour.enc_len Neighbour.enc_cell swoN ce29 (fun F x y => cmpNei_spec F x y) (by omega) F

theorem cloneI_spec (F : Fr) {a : Option Addr} {xs : List IfConf} {c : Nat} (hc : xs.length ≤ 1000000) (ha : ArgSl F a 43 IfConf.enc xs)  : Spec Try.prog 24 #[.slice a xs.length c] [] F (fun v S => S = [slA 60 43 IfConf.enc v xs]) := by
 refine Spec.intro (N := 8) (args := [.slice a xs.length c]) Try.func24 rfl rfl (by simp) ?_
 refine Run.seq fun k1 hk1 => ?_
 refine Run.region ?_
 show Sq _ _ _ [0] _ _ _ _
 refine Sq.quiet (i := 0) rfl (Want.none rfl) rfl (ltN rfl) (QP.assign rfl rfl).read ?_
 refine Sq.nil ?_
 refine hk1 _ _ ?_
 refine Run.seq fun k2 hk2 => ?_
 refine Run.seq fun k3 hk3 => ?_
 refine Run.region ?_
 show Sq _ _ _ [0, 1] _ _ _ _
 refine Sq.quiet (i := 0) rfl (Want.none rfl) rfl (ltN rfl) (QP.move rfl rfl).read ?_
 refine Sq.quiet (i := 1) rfl (Want.none rfl) rfl (ltN rfl) (QP.sl_eq_nil rfl rfl rfl Try.underlying22).read ?_
 refine J.caseB (fun c4 => ?_) (fun c4 => ?_)
 ·skip
  refine Sq.nil ?_
  refine hk3 _ _ ?_
  refine Run.cond_t rfl ?_
  refine Run.seq fun k4 hk4 => ?_
  refine Run.region ?_
  show Sq _ _ _ [0] _ _ _ _
  obtain rfl := ha.nilLen c4
  refine J.addSl 60 43 IfConf.enc ?_
  refine Sq.quiet (i := 0) rfl (Want.none rfl) rfl (ltN rfl) (QP.assign rfl rfl).read ?_
  refine Sq.nil ?_
  refine hk4 _ _ ?_
  refine Run.ret ?_
  exact J.ends (res_tmp rfl rfl) (.cons (by repeat constructor) Takes.nil) rfl
 ·skip
  refine Sq.nil ?_
  refine hk3 _ _ ?_
  refine Run.cond_f rfl ?_
  refine Run.skip ?_
  refine hk2 _ _ ?_
  refine Run.seq fun k5 hk5 => ?_
  refine Run.region ?_
  show Sq _ _ _ [0, 1, 2, 3] _ _ _ _
  refine Sq.eff (i := 0) rfl (Want.none rfl) rfl (ltN rfl) (EF.buildSlice0 (enc := IfConf.enc) rfl Try.underlying22 z60 zero60 (by simp [Value.cells, IfConf.enc_len]) (by decide)) ?_
  rintro _ _ ⟨b5, rfl, rfl⟩
  refine Sq.quiet (i := 1) rfl (Want.none rfl) rfl (ltN rfl) (QP.move rfl rfl).read ?_
  refine Sq.eff (i := 2) rfl (Want.none rfl) rfl (ltN rfl) (EF.appendArg (xs := []) (ys := xs) el60 IfConf.enc_len IfConf.enc_cell rfl rfl rfl Try.underlying22 Try.underlying22 rfl rfl (by repeat constructor) ha (by simp; omega)) ?_
  rintro sl7 _ rfl
  refine Sq.quiet (i := 3) rfl (Want.none rfl) rfl (ltN rfl) (QP.assign rfl rfl).read ?_
  refine Sq.nil ?_
  refine hk5 _ _ ?_
  refine Run.ret ?_
  exact J.ends (res_tmp rfl rfl) (.cons (by repeat constructor) Takes.nil) rfl

theorem newQ (F : Fr) (most : Int) {a : Option Addr} {xs : List IfConf} {c : Nat} (hc : xs.length ≤ 1000000) (ha : ArgSl F a 43 IfConf.enc xs)  : Spec Try.prog 10 #[.int .i64 most, .slice a xs.length c] [] F (fun v S => ∃ b r q, v = .pointer (some ⟨b, 0, none⟩) ∧ S = [blk b (NeighTable.enc ⟨most, q, some r⟩) 77, mapN r [], slA 60 43 IfConf.enc (Slc.v q) xs] ∧ q.n = xs.length) := by
 refine Spec.intro (N := 11) (args := [.int .i64 most, .slice a xs.length c]) Try.func10 rfl rfl (by simp) ?_
 refine Run.seq fun k1 hk1 => ?_
 refine Run.region ?_
 show Sq _ _ _ [0] _ _ _ _
 refine Sq.quiet (i := 0) rfl (Want.none rfl) rfl (ltN rfl) (QP.assign rfl rfl).read ?_
 refine Sq.nil ?_
 refine hk1 _ _ ?_
 refine Run.seq fun k2 hk2 => ?_
 refine Run.region ?_
 show Sq _ _ _ [0, 1, 2, 3, 4, 5, 6] _ _ _ _
 refine Sq.quiet (i := 0) rfl (Want.none rfl) rfl (ltN rfl) (QP.move rfl rfl).read ?_
 refine Sq.quiet (i := 1) rfl (Want.none rfl) rfl (ltN rfl) (QP.move rfl rfl).read ?_
 refine Sq.eff (i := 2) rfl (Want.none rfl) rfl (ltN rfl) (EF.call rfl ce24 rfl Takes.nil (fun F' hle hr => cloneI_spec F' hc (ha.mono hle))) ?_
 rintro v7 _ ⟨_, rfl, rfl⟩
 refine J.app ?_
 refine Sq.slCase (v := v7) (xs := xs) (by repeat constructor) (fun a7 c7 hv7 hh7 => ?_)
 subst hv7
 refine Sq.eff (i := 3) rfl (Want.none rfl) rfl (ltN rfl) (EF.makeMap (fun x => .agg (NeighKey.enc x).toArray) pv rfl) ?_
 rintro _ _ ⟨r8, rfl, rfl⟩
 refine Sq.quiet (i := 4) rfl (Want.none rfl) rfl (ltN rfl) (QP.build (l := NeighTable.enc ⟨most, ⟨a7, xs.length, c7⟩, some r8⟩) rfl st77 rfl (by exact ⟨rfl, ⟨rfl, ⟨rfl, trivial⟩⟩⟩) rfl).read ?_
 refine Sq.eff (i := 5) rfl (Want.none rfl) rfl (ltN rfl) (EF.boxA rfl rfl) ?_
 rintro _ _ ⟨b10, rfl, rfl⟩
 refine Sq.quiet (i := 6) rfl (Want.none rfl) rfl (ltN rfl) (QP.assign rfl rfl).read ?_
 refine Sq.nil ?_
 refine hk2 _ _ ?_
 refine Run.ret ?_
 exact J.ends (res_tmp rfl rfl) (.cons (by repeat constructor) (.cons (by repeat constructor) (.cons (by repeat constructor) Takes.nil))) ⟨_, _, ⟨a7, xs.length, c7⟩, rfl, rfl, rfl⟩

theorem listQ_nil (F : Fr)  : Spec Try.prog 13 #[.pointer none] [] F (fun v S => v = .slice none 0 0 ∧ S = []) := by
 refine Spec.intro (N := 25) (args := [.pointer none]) Try.func13 rfl rfl (by simp) ?_
 refine Run.seq fun k1 hk1 => ?_
 refine Run.region ?_
 show Sq _ _ _ [0] _ _ _ _
 refine Sq.quiet (i := 0) rfl (Want.none rfl) rfl (ltN rfl) (QP.assign rfl rfl).read ?_
 refine Sq.nil ?_
 refine hk1 _ _ ?_
 refine Run.seq fun k2 hk2 => ?_
 refine Run.seq fun k3 hk3 => ?_
 refine Run.region ?_
 show Sq _ _ _ [0, 1] _ _ _ _
 refine Sq.quiet (i := 0) rfl (Want.none rfl) rfl (ltN rfl) (QP.move rfl rfl).read ?_
 refine Sq.quiet (i := 1) rfl (Want.none rfl) rfl (ltN rfl) (QP.ptr_eq_nil rfl rfl rfl Try.underlying26).read ?_
 refine Sq.nil ?_
 refine hk3 _ _ ?_
 refine Run.cond_t rfl ?_
 refine Run.seq fun k4 hk4 => ?_
 refine Run.region ?_
 show Sq _ _ _ [0] _ _ _ _
 refine Sq.quiet (i := 0) rfl (Want.none rfl) rfl (ltN rfl) (QP.assign rfl rfl).read ?_
 refine Sq.nil ?_
 refine hk4 _ _ ?_
 refine Run.ret ?_
 exact J.ends (res_tmp rfl rfl) Takes.nil ⟨rfl, rfl⟩

theorem listQ (F : Fr) {b r : Nat} {most : Int} {q : Slc} {E : EntN} (hf : InN F b r most q E) (hE : E.length ≤ 1000000) : Spec Try.prog 13 #[.pointer (some ⟨b, 0, none⟩)] [mapN r (ptrs E)] F (fun v S => ∃ es : EntN, es.Perm E ∧ SortedN (es.map (·.2.2)) ∧ S = [mapN r (ptrs E), slA 54 34 Neighbour.enc v (es.map (·.2.2))]) := by
 refine Spec.intro (N := 25) (args := [.pointer (some ⟨b, 0, none⟩)]) Try.func13 rfl rfl (by simp) ?_
 refine Run.seq fun k1 hk1 => ?_
 refine Run.region ?_
 show Sq _ _ _ [0] _ _ _ _
 refine Sq.quiet (i := 0) rfl (Want.none rfl) rfl (ltN rfl) (QP.assign rfl rfl).read ?_
 refine Sq.nil ?_
 refine hk1 _ _ ?_
 refine Run.seq fun k2 hk2 => ?_
 refine Run.seq fun k3 hk3 => ?_
 refine Run.region ?_
 show Sq _ _ _ [0, 1] _ _ _ _
 refine Sq.quiet (i := 0) rfl (Want.none rfl) rfl (ltN rfl) (QP.move rfl rfl).read ?_
 refine Sq.quiet (i := 1) rfl (Want.none rfl) rfl (ltN rfl) (QP.ptr_eq_nil rfl rfl rfl Try.underlying26).read ?_
 refine Sq.nil ?_
 refine hk3 _ _ ?_
 refine Run.cond_f rfl ?_
 refine Run.skip ?_
 refine hk2 _ _ ?_
 refine Run.seq fun k4 hk4 => ?_
 refine Run.seq fun k5 hk5 => ?_
 refine Run.region ?_
 show Sq _ _ _ [0, 1, 2, 3, 4] _ _ _ _
 refine J.addSl 54 34 Neighbour.enc ?_
 refine Sq.quiet (i := 0) rfl (Want.none rfl) rfl (ltN rfl) (QP.move rfl rfl).read ?_
 refine Sq.quiet (i := 1) rfl (Want.none rfl) rfl (ltN rfl) (QP.nilCheck rfl rfl).read ?_
 refine Sq.quiet (i := 2) rfl (Want.none rfl) rfl (ltN rfl) (QP.fieldAddr rfl rfl f77_2).read ?_
 refine Sq.quiet (i := 3) rfl (Want.none rfl) rfl (ltN rfl) (QR.load1F rfl rfl g75 hf.tb (NeighTable.sub_m _)) ?_
 refine Sq.eff (i := 4) rfl (Want.none rfl) rfl (ltN rfl) (EF.range rfl rfl Try.underlying75 (by repeat constructor)) ?_
 rintro _ _ ⟨it11, rfl, rfl⟩
 refine Sq.nil ?_
 refine hk5 _ _ ?_
 refine Run.block ?_
 refine Run.loop4 (fun (done : EntN) (todo : EntN) (cur : Option (NeighKey × Nat)) (v : Value) => (done ++ todo).Perm E) (fun done todo cur v => .cons 2 (v) (.cons 11 (.pointer (some ⟨it11, 0, none⟩)) (.nil))) (fun done todo cur v => [rangeT (fun x => .agg (NeighKey.enc x).toArray) pv r it11 (ptrs E) (ptrs todo) cur, slA 54 34 Neighbour.enc v (done.map (·.2.2))]) (fun done todo cur v => todo.length) ([]) (E) (none) (.slice none 0 0) (List.Perm.refl _) ?_ ?_
 ·exact fun _ j => J.envJ (J.keep (.cons (by repeat constructor) (.cons (by repeat constructor) Takes.nil)) j) ⟨rfl, rfl, trivial⟩
 rintro done todo cur v hperm kl6 hl6
 have hlen : done.length + todo.length = E.length := by simpa using hperm.length_eq
 refine Run.seq fun k7 hk7 => ?_
 refine Run.region ?_
 show Sq _ _ _ [0, 1] _ _ _ _
 refine Sq.eff (i := 0) rfl (Want.none rfl) rfl (ltN rfl) (EF.next rfl rfl (by repeat constructor)) ?_
 rintro _ _ (⟨hn12, rfl, rfl⟩ | ⟨ix, px, hn12, rfl, rfl⟩)
 ·skip
  have htodo := ptrs_nil hn12
  subst htodo
  have hdone : done.Perm E := by simpa using hperm
  refine Sq.quiet (i := 1) rfl (Want.none rfl) rfl (ltN rfl) (QP.extract rfl rfl rfl).read ?_
  refine Sq.nil ?_
  refine hk7 _ _ ?_
  refine Run.seq fun k8 hk8 => ?_
  refine Run.cond_f rfl ?_
  refine Run.exit rfl ?_
  refine hk4 _ _ ?_
  refine Run.seq fun k9 hk9 => ?_
  refine Run.region ?_
  show Sq _ _ _ [0, 1] _ _ _ _
  refine Sq.quiet (i := 0) rfl (Want.none rfl) rfl (ltN rfl) (QP.move rfl rfl).read ?_
  refine Sq.eff (i := 1) rfl (Want.none rfl) rfl (ltN rfl) (EF.call rfl ce28 rfl (.cons (by repeat constructor) Takes.nil) (fun F' hle hr => sortN F' (by first | omega | (simp <;> omega)))) ?_
  rintro _ _ ⟨_, ⟨rfl, ys, hp, hs, rfl⟩, rfl⟩
  refine J.app ?_
  refine Sq.nil ?_
  refine hk9 _ _ ?_
  refine Run.seq fun k10 hk10 => ?_
  refine Run.region ?_
  show Sq _ _ _ [0, 1] _ _ _ _
  refine Sq.quiet (i := 0) rfl (Want.none rfl) rfl (ltN rfl) (QP.move rfl rfl).read ?_
  refine Sq.quiet (i := 1) rfl (Want.none rfl) rfl (ltN rfl) (QP.assign rfl rfl).read ?_
  refine Sq.nil ?_
  refine hk10 _ _ ?_
  refine Run.ret ?_
  obtain ⟨es, hes, rfl⟩ := perm_lift ys (hp.trans (hdone.map _))
  refine J.rangeEnd (by repeat constructor) ?_
  exact J.ends (res_tmp rfl rfl) (.cons (by repeat constructor) (.cons (by repeat constructor) Takes.nil)) ⟨es, hes, hs, rfl⟩
 ·skip
  obtain ⟨e, he, rfl⟩ := ptrs_get hn12
  have hmem : e ∈ E := hperm.subset (List.mem_append_right _ (List.mem_of_getElem? he))
  have hrow := hf.row e hmem
  refine Sq.quiet (i := 1) rfl (Want.none rfl) rfl (ltN rfl) (QP.extract rfl rfl rfl).read ?_
  refine Sq.nil ?_
  refine hk7 _ _ ?_
  refine Run.seq fun k11 hk11 => ?_
  refine Run.cond_t rfl ?_
  refine Run.skip ?_
  refine hk11 _ _ ?_
  refine Run.block ?_
  refine Run.seq fun k12 hk12 => ?_
  refine Run.region ?_
  show Sq _ _ _ [0, 1, 2] _ _ _ _
  refine Sq.quiet (i := 0) rfl (Want.none rfl) rfl (ltN rfl) (QR.entry rfl rfl) ?_
  refine Sq.quiet (i := 1) rfl (Want.none rfl) rfl (ltN rfl) (QP.extract rfl rfl rfl).read ?_
  refine Sq.quiet (i := 2) rfl (Want.none rfl) rfl (ltN rfl) (QP.assign rfl rfl).read ?_
  refine Sq.nil ?_
  refine hk12 _ _ ?_
  refine Run.region ?_
  show Sq _ _ _ [0, 1, 2, 3, 4, 5, 6] _ _ _ _
  refine Sq.quiet (i := 0) rfl (Want.none rfl) rfl (ltN rfl) (QP.move rfl rfl).read ?_
  refine Sq.quiet (i := 1) rfl (Want.none rfl) rfl (ltN rfl) (QP.move rfl rfl).read ?_
  refine Sq.quiet (i := 2) rfl (Want.none rfl) rfl (ltN rfl) (QP.nilCheck rfl rfl).read ?_
  refine Sq.quiet (i := 3) rfl (Want.none rfl) rfl (ltN rfl) (QR.loadF rfl rfl g54 hrow (Neighbour.enc_sub _)) ?_
  refine Sq.eff (i := 4) rfl (Want.none rfl) rfl (ltN rfl) (EF.buildSlice1 rfl Try.underlying44 z54 zero54 (by simp [Value.cells, Neighbour.enc_len]) (by decide) rfl rfl (Neighbour.enc_len _) (by decide)) ?_
  rintro _ _ ⟨b20, rfl, rfl⟩
  refine Sq.eff (i := 5) rfl (Want.none rfl) rfl (ltN rfl) (EF.append1 (xs := (done.map (·.2.2))) (s := e.2.2) el54 Neighbour.enc_len Neighbour.enc_cell rfl rfl rfl Try.underlying44 Try.underlying44 rfl rfl (by repeat constructor) (by repeat constructor) (by first | omega | (simp <;> omega))) ?_
  rintro sl21 _ rfl
  refine Sq.quiet (i := 6) rfl (Want.none rfl) rfl (ltN rfl) (QP.assign rfl rfl).read ?_
  refine Sq.nil ?_
  rw [ptrs_erase, show done.map (·.2.2) ++ [e.2.2] = (done ++ [e]).map (·.2.2) by simp]
  exact J.envJ (J.keep (.cons (by repeat constructor) (.cons (by repeat constructor) Takes.nil)) (hl6 (done ++ [e]) (todo.eraseIdx ix) (some (e.1, e.2.1)) (sl21) (by rw [List.append_assoc]; exact (List.Perm.append_left _ (erase_perm he)).trans hperm) (by have h1 := (erase_perm he).length_eq; simp at h1; omega))) ⟨rfl, rfl, trivial⟩

theorem onQ (F : Fr) {b r : Nat} {most : Int} {q : Slc} {E : EntN} (hf : InN F b r most q E) (i : Int) : Spec Try.prog 25 #[.pointer (some ⟨b, 0, none⟩), .int .i64 i] [] F (fun v S => v = .bool (decide (0 ≤ i) && decide (i < q.n)) ∧ S = []) := by
 refine Spec.intro (N := 16) (args := [.pointer (some ⟨b, 0, none⟩), .int .i64 i]) Try.func25 rfl rfl (by simp) ?_
 refine Run.seq fun k1 hk1 => ?_
 refine Run.region ?_
 show Sq _ _ _ [0] _ _ _ _
 refine Sq.quiet (i := 0) rfl (Want.none rfl) rfl (ltN rfl) (QP.assign rfl rfl).read ?_
 refine Sq.nil ?_
 refine hk1 _ _ ?_
 refine Run.seq fun k2 hk2 => ?_
 refine Run.region ?_
 show Sq _ _ _ [0, 1, 2, 3, 4, 5, 6, 7, 8, 9, 10, 11] _ _ _ _
 refine Sq.quiet (i := 0) rfl (Want.none rfl) rfl (ltN rfl) (QP.move rfl rfl).read ?_
 refine Sq.quiet (i := 1) rfl (Want.none rfl) rfl (ltN rfl) (QP.geq rfl rfl rfl).read ?_
 refine J.caseD (fun c6 => ?_) (fun c6 => ?_)
 ·skip
  refine Sq.quiet (i := 2) rfl (Want.none rfl) rfl (ltN rfl) (QP.move rfl rfl).read ?_
  refine Sq.quiet (i := 3) rfl (Want.yes rfl rfl rfl rfl) rfl (ltN rfl) (QP.move rfl rfl).read ?_
  refine Sq.quiet (i := 4) rfl (Want.yes rfl rfl rfl rfl) rfl (ltN rfl) (QP.move rfl rfl).read ?_
  refine Sq.quiet (i := 5) rfl (Want.yes rfl rfl rfl rfl) rfl (ltN rfl) (QP.nilCheck rfl rfl).read ?_
  refine Sq.quiet (i := 6) rfl (Want.yes rfl rfl rfl rfl) rfl (ltN rfl) (QP.fieldAddr rfl rfl f77_1).read ?_
  refine Sq.quiet (i := 7) rfl (Want.yes rfl rfl rfl rfl) rfl (ltN rfl) (QR.load1F rfl rfl g22 hf.tb (NeighTable.sub_ifs _)) ?_
  refine Sq.quiet (i := 8) rfl (Want.yes rfl rfl rfl rfl) rfl (ltN rfl) (QP.len rfl rfl rfl Try.underlying22).read ?_
  refine Sq.quiet (i := 9) rfl (Want.yes rfl rfl rfl rfl) rfl (ltN rfl) (QP.lss rfl rfl rfl).read ?_
  refine Sq.quiet (i := 10) rfl (Want.none rfl) rfl (ltN rfl) (QP.pick_t rfl rfl rfl).read ?_
  refine Sq.quiet (i := 11) rfl (Want.none rfl) rfl (ltN rfl) (QP.assign rfl rfl).read ?_
  refine Sq.nil ?_
  refine hk2 _ _ ?_
  refine Run.ret ?_
  exact J.ends (res_tmp rfl rfl) Takes.nil ⟨by simp_all <;> omega, rfl⟩
 ·skip
  refine Sq.quiet (i := 2) rfl (Want.none rfl) rfl (ltN rfl) (QP.move rfl rfl).read ?_
  refine Sq.skip (i := 3) rfl (Want.no rfl rfl rfl rfl) rfl (ltN rfl) ?_
  refine Sq.skip (i := 4) rfl (Want.no rfl rfl rfl rfl) rfl (ltN rfl) ?_
  refine Sq.skip (i := 5) rfl (Want.no rfl rfl rfl rfl) rfl (ltN rfl) ?_
  refine Sq.skip (i := 6) rfl (Want.no rfl rfl rfl rfl) rfl (ltN rfl) ?_
  refine Sq.skip (i := 7) rfl (Want.no rfl rfl rfl rfl) rfl (ltN rfl) ?_
  refine Sq.skip (i := 8) rfl (Want.no rfl rfl rfl rfl) rfl (ltN rfl) ?_
  refine Sq.skip (i := 9) rfl (Want.no rfl rfl rfl rfl) rfl (ltN rfl) ?_
  refine Sq.quiet (i := 10) rfl (Want.none rfl) rfl (ltN rfl) (QP.pick_f rfl rfl rfl).read ?_
  refine Sq.quiet (i := 11) rfl (Want.none rfl) rfl (ltN rfl) (QP.assign rfl rfl).read ?_
  refine Sq.nil ?_
  refine hk2 _ _ ?_
  refine Run.ret ?_
  exact J.ends (res_tmp rfl rfl) Takes.nil ⟨by simp_all <;> omega, rfl⟩

theorem getQ_nil (F : Fr) (i : Int) (fr : Bs 16) : Spec Try.prog 17 #[.pointer none, .int .i64 i, .agg (Bs.enc (fr : Bs 16)).toArray] [] F (fun v S => v = .tuple #[.agg Neighbour.zero.enc.toArray, .bool false] ∧ S = []) := by
 refine Spec.intro (N := 32) (args := [.pointer none, .int .i64 i, .agg (Bs.enc (fr : Bs 16)).toArray]) Try.func17 rfl rfl (by simp) ?_
 refine Run.seq fun k1 hk1 => ?_
 refine Run.region ?_
 show Sq _ _ _ [0, 1, 2] _ _ _ _
 refine Sq.eff (i := 0) rfl (Want.none rfl) rfl (ltN rfl) (EF.boxA rfl rfl) ?_
 rintro _ _ ⟨b5, rfl, rfl⟩
 refine Sq.eff (i := 1) rfl (Want.none rfl) rfl (ltN rfl) (EF.allocA (l := Neighbour.enc Neighbour.zero) rfl zero54) ?_
 rintro _ _ ⟨b6, rfl, rfl⟩
 refine Sq.quiet (i := 2) rfl (Want.none rfl) rfl (ltN rfl) (QP.assign rfl rfl).read ?_
 refine Sq.nil ?_
 refine hk1 _ _ ?_
 refine Run.seq fun k2 hk2 => ?_
 refine Run.seq fun k3 hk3 => ?_
 refine Run.regionD (M := [0, 1, 3, 7, 15, 31, 63, 7, 7, 391, 1023, 2047, 4095]) (q := 8191) (r := 1344) (by kernel_rfl) ?_
 refine Dw.pure (i := 0) rfl (by kernel_rfl) (Want.none rfl) rfl (ltN rfl) (QP.move rfl rfl) ?_
 refine Dw.pure (i := 1) rfl (by kernel_rfl) (Want.none rfl) rfl (ltN rfl) (QP.ptr_eq_nil rfl rfl rfl Try.underlying26) ?_
 refine Dw.pure (i := 2) rfl (by kernel_rfl) (Want.none rfl) rfl (ltN rfl) (QP.move rfl rfl) ?_
 refine Dw.skip (i := 3) rfl (by kernel_rfl) (Want.no rfl rfl rfl rfl) rfl (ltN rfl) ?_
 refine Dw.skip (i := 4) rfl (by kernel_rfl) (Want.no rfl rfl rfl rfl) rfl (ltN rfl) ?_
 refine Dw.skip (i := 5) rfl (by kernel_rfl) (Want.no rfl rfl rfl rfl) rfl (ltN rfl) ?_
 refine Dw.skip (i := 6) rfl (by kernel_rfl) (Want.no rfl rfl rfl rfl) rfl (ltN rfl) ?_
 refine Dw.skip (i := 7) rfl (by kernel_rfl) (Want.no rfl rfl rfl rfl) rfl (ltN rfl) ?_
 refine Dw.skip (i := 8) rfl (by kernel_rfl) (Want.no rfl rfl rfl rfl) rfl (ltN rfl) ?_
 refine Dw.skip (i := 9) rfl (by kernel_rfl) (Want.no rfl rfl rfl rfl) rfl (ltN rfl) ?_
 refine Dw.skip (i := 10) rfl (by kernel_rfl) (Want.no rfl rfl rfl rfl) rfl (ltN rfl) ?_
 refine Dw.skip (i := 11) rfl (by kernel_rfl) (Want.no rfl rfl rfl rfl) rfl (ltN rfl) ?_
 refine Dw.pure (i := 12) rfl (by kernel_rfl) (Want.none rfl) rfl (ltN rfl) (QP.pick_t rfl rfl rfl) ?_
 refine Dw.nil (by kernel_rfl) ?_
 refine hk3 _ _ ?_
 refine Run.cond_t rfl ?_
 refine Run.seq fun k4 hk4 => ?_
 refine Run.region ?_
 show Sq _ _ _ [0, 1, 2] _ _ _ _
 refine Sq.quiet (i := 0) rfl (Want.none rfl) rfl (ltN rfl) (QP.build (l := Neighbour.enc Neighbour.zero) rfl st54 rfl (by exact trivial) rfl).read ?_
 refine Sq.act (i := 1) rfl (Want.none rfl) rfl (EF.storeA rfl rfl rfl z54 (SetL.all (Neighbour.enc_len _) (Neighbour.enc_len _)) (Neighbour.enc_cell _)) ?_
 rintro _ _ rfl
 refine Sq.quiet (i := 2) rfl (Want.none rfl) rfl (ltN rfl) (QP.assign rfl rfl).read ?_
 refine Sq.nil ?_
 refine hk4 _ _ ?_
 refine Run.ret ?_
 exact J.ends (res_cell2 rfl rfl g54 (Neighbour.enc_sub _) rfl) Takes.nil ⟨rfl, rfl⟩

theorem getQ_none (F : Fr) {b r : Nat} {most : Int} {q : Slc} {E : EntN} (hf : InN F b r most q E)(j : I64) (fr : Bs 16) (h0 : alook E ⟨j, fr⟩ = none)  : Spec Try.prog 17 #[.pointer (some ⟨b, 0, none⟩), .int .i64 (j : I64).val, .agg (Bs.enc (fr : Bs 16)).toArray] [mapN r (ptrs E)] F (fun v S => v = .tuple #[.agg Neighbour.zero.enc.toArray, .bool false] ∧ S = [mapN r (ptrs E)]) := by
 have hl : alook (ptrs E) ⟨j, fr⟩ = none := by rw [alook_ptrs, h0]; rfl
 refine Spec.intro (N := 32) (args := [.pointer (some ⟨b, 0, none⟩), .int .i64 (j : I64).val, .agg (Bs.enc (fr : Bs 16)).toArray]) Try.func17 rfl rfl (by simp) ?_
 refine Run.seq fun k1 hk1 => ?_
 refine Run.region ?_
 show Sq _ _ _ [0, 1, 2] _ _ _ _
 refine Sq.eff (i := 0) rfl (Want.none rfl) rfl (ltN rfl) (EF.boxA rfl rfl) ?_
 rintro _ _ ⟨b5, rfl, rfl⟩
 refine Sq.eff (i := 1) rfl (Want.none rfl) rfl (ltN rfl) (EF.allocA (l := Neighbour.enc Neighbour.zero) rfl zero54) ?_
 rintro _ _ ⟨b6, rfl, rfl⟩
 refine Sq.quiet (i := 2) rfl (Want.none rfl) rfl (ltN rfl) (QP.assign rfl rfl).read ?_
 refine Sq.nil ?_
 refine hk1 _ _ ?_
 refine Run.seq fun k2 hk2 => ?_
 refine Run.seq fun k3 hk3 => ?_
 refine Run.regionD (M := [0, 1, 3, 7, 15, 31, 63, 7, 7, 391, 1023, 2047, 4095]) (q := 8191) (r := 1344) (by kernel_rfl) ?_
 refine Dw.pure (i := 0) rfl (by kernel_rfl) (Want.none rfl) rfl (ltN rfl) (QP.move rfl rfl) ?_
 refine Dw.pure (i := 1) rfl (by kernel_rfl) (Want.none rfl) rfl (ltN rfl) (QP.ptr_eq_nil rfl rfl rfl Try.underlying26) ?_
 refine Dw.pure (i := 2) rfl (by kernel_rfl) (Want.none rfl) rfl (ltN rfl) (QP.move rfl rfl) ?_
 refine Dw.pure (i := 3) rfl (by kernel_rfl) (Want.yes rfl rfl rfl rfl) rfl (ltN rfl) (QP.move rfl rfl) ?_
 refine Dw.pure (i := 4) rfl (by kernel_rfl) (Want.yes rfl rfl rfl rfl) rfl (ltN rfl) (QP.nilCheck rfl rfl) ?_
 refine Dw.pure (i := 5) rfl (by kernel_rfl) (Want.yes rfl rfl rfl rfl) rfl (ltN rfl) (QP.fieldAddr rfl rfl f77_2) ?_
 refine Dw.read (i := 6) rfl (by kernel_rfl) (Want.yes rfl rfl rfl rfl) rfl (ltN rfl) (QR.load1F rfl rfl g75 hf.tb (NeighTable.sub_m _)) ?_
 refine Dw.pure (i := 7) rfl (by kernel_rfl) (Want.yes rfl rfl rfl rfl) rfl (ltN rfl) (QP.move rfl rfl) ?_
 refine Dw.read (i := 8) rfl (by kernel_rfl) (Want.yes rfl rfl rfl rfl) rfl (ltN rfl) (QR.load rfl rfl g29 (Bs.sub _)) ?_
 refine Dw.pure (i := 9) rfl (by kernel_rfl) (Want.yes rfl rfl rfl rfl) rfl (ltN rfl) (QP.build (l := NeighKey.enc ⟨j, (fr)⟩) rfl st81 rfl (by exact ⟨rfl, ⟨(congrArg some (Bs.len _).symm), trivial⟩⟩) rfl) ?_
 refine Dw.read (i := 10) rfl (by kernel_rfl) (Want.yes rfl rfl rfl rfl) rfl (ltN rfl) (QR.lookupNone key81 rfl rfl rfl Try.underlying75 zero79 hl) ?_
 refine Dw.pure (i := 11) rfl (by kernel_rfl) (Want.yes rfl rfl rfl rfl) rfl (ltN rfl) (QP.ptr_eq_nil rfl rfl rfl Try.underlying79) ?_
 refine Dw.pure (i := 12) rfl (by kernel_rfl) (Want.none rfl) rfl (ltN rfl) (QP.pick_f rfl rfl rfl) ?_
 refine Dw.nil (by kernel_rfl) ?_
 refine hk3 _ _ ?_
 refine Run.cond_t rfl ?_
 refine Run.seq fun k4 hk4 => ?_
 refine Run.region ?_
 show Sq _ _ _ [0, 1, 2] _ _ _ _
 refine Sq.quiet (i := 0) rfl (Want.none rfl) rfl (ltN rfl) (QP.build (l := Neighbour.enc Neighbour.zero) rfl st54 rfl (by exact trivial) rfl).read ?_
 refine Sq.act (i := 1) rfl (Want.none rfl) rfl (EF.storeA rfl rfl rfl z54 (SetL.all (Neighbour.enc_len _) (Neighbour.enc_len _)) (Neighbour.enc_cell _)) ?_
 rintro _ _ rfl
 refine Sq.quiet (i := 2) rfl (Want.none rfl) rfl (ltN rfl) (QP.assign rfl rfl).read ?_
 refine Sq.nil ?_
 refine hk4 _ _ ?_
 refine Run.ret ?_
 exact J.ends (res_cell2 rfl rfl g54 (Neighbour.enc_sub _) rfl) (.cons (by repeat constructor) Takes.nil) ⟨rfl, rfl⟩

theorem getQ_some (F : Fr) {b r : Nat} {most : Int} {q : Slc} {E : EntN} (hf : InN F b r most q E)(j : I64) (fr : Bs 16) {c : Nat} {s : Neighbour} (h0 : alook E ⟨j, fr⟩ = some (c, s))  : Spec Try.prog 17 #[.pointer (some ⟨b, 0, none⟩), .int .i64 (j : I64).val, .agg (Bs.enc (fr : Bs 16)).toArray] [mapN r (ptrs E)] F (fun v S => v = .tuple #[.agg s.enc.toArray, .bool true] ∧ S = [mapN r (ptrs E)]) := by
 have hl : alook (ptrs E) ⟨j, fr⟩ = some c := by rw [alook_ptrs, h0]; rfl
 have hrow := hf.row _ (alook_some h0)
 refine Spec.intro (N := 32) (args := [.pointer (some ⟨b, 0, none⟩), .int .i64 (j : I64).val, .agg (Bs.enc (fr : Bs 16)).toArray]) Try.func17 rfl rfl (by simp) ?_
 refine Run.seq fun k1 hk1 => ?_
 refine Run.region ?_
 show Sq _ _ _ [0, 1, 2] _ _ _ _
 refine Sq.eff (i := 0) rfl (Want.none rfl) rfl (ltN rfl) (EF.boxA rfl rfl) ?_
 rintro _ _ ⟨b5, rfl, rfl⟩
 refine Sq.eff (i := 1) rfl (Want.none rfl) rfl (ltN rfl) (EF.allocA (l := Neighbour.enc Neighbour.zero) rfl zero54) ?_
 rintro _ _ ⟨b6, rfl, rfl⟩
 refine Sq.quiet (i := 2) rfl (Want.none rfl) rfl (ltN rfl) (QP.assign rfl rfl).read ?_
 refine Sq.nil ?_
 refine hk1 _ _ ?_
 refine Run.seq fun k2 hk2 => ?_
 refine Run.seq fun k3 hk3 => ?_
 refine Run.regionD (M := [0, 1, 3, 7, 15, 31, 63, 7, 7, 391, 1023, 2047, 4095]) (q := 8191) (r := 1344) (by kernel_rfl) ?_
 refine Dw.pure (i := 0) rfl (by kernel_rfl) (Want.none rfl) rfl (ltN rfl) (QP.move rfl rfl) ?_
 refine Dw.pure (i := 1) rfl (by kernel_rfl) (Want.none rfl) rfl (ltN rfl) (QP.ptr_eq_nil rfl rfl rfl Try.underlying26) ?_
 refine Dw.pure (i := 2) rfl (by kernel_rfl) (Want.none rfl) rfl (ltN rfl) (QP.move rfl rfl) ?_
 refine Dw.pure (i := 3) rfl (by kernel_rfl) (Want.yes rfl rfl rfl rfl) rfl (ltN rfl) (QP.move rfl rfl) ?_
 refine Dw.pure (i := 4) rfl (by kernel_rfl) (Want.yes rfl rfl rfl rfl) rfl (ltN rfl) (QP.nilCheck rfl rfl) ?_
 refine Dw.pure (i := 5) rfl (by kernel_rfl) (Want.yes rfl rfl rfl rfl) rfl (ltN rfl) (QP.fieldAddr rfl rfl f77_2) ?_
 refine Dw.read (i := 6) rfl (by kernel_rfl) (Want.yes rfl rfl rfl rfl) rfl (ltN rfl) (QR.load1F rfl rfl g75 hf.tb (NeighTable.sub_m _)) ?_
 refine Dw.pure (i := 7) rfl (by kernel_rfl) (Want.yes rfl rfl rfl rfl) rfl (ltN rfl) (QP.move rfl rfl) ?_
 refine Dw.read (i := 8) rfl (by kernel_rfl) (Want.yes rfl rfl rfl rfl) rfl (ltN rfl) (QR.load rfl rfl g29 (Bs.sub _)) ?_
 refine Dw.pure (i := 9) rfl (by kernel_rfl) (Want.yes rfl rfl rfl rfl) rfl (ltN rfl) (QP.build (l := NeighKey.enc ⟨j, (fr)⟩) rfl st81 rfl (by exact ⟨rfl, ⟨(congrArg some (Bs.len _).symm), trivial⟩⟩) rfl) ?_
 refine Dw.read (i := 10) rfl (by kernel_rfl) (Want.yes rfl rfl rfl rfl) rfl (ltN rfl) (QR.lookupSome key81 rfl rfl rfl Try.underlying75 zero79 hl) ?_
 refine Dw.pure (i := 11) rfl (by kernel_rfl) (Want.yes rfl rfl rfl rfl) rfl (ltN rfl) (QP.ptr_eq_nil rfl rfl rfl Try.underlying79) ?_
 refine Dw.pure (i := 12) rfl (by kernel_rfl) (Want.none rfl) rfl (ltN rfl) (QP.pick_f rfl rfl rfl) ?_
 refine Dw.nil (by kernel_rfl) ?_
 refine hk3 _ _ ?_
 refine Run.cond_f rfl ?_
 refine Run.skip ?_
 refine hk2 _ _ ?_
 refine Run.seq fun k4 hk4 => ?_
 refine Run.regionD (M := [0, 1, 3, 7, 0, 0, 48, 127, 255, 511, 1023, 2047]) (q := 1023) (r := 680) (by kernel_rfl) ?_
 refine Dw.pure (i := 0) rfl (by kernel_rfl) (Want.none rfl) rfl (ltN rfl) (QP.move rfl rfl) ?_
 refine Dw.pure (i := 1) rfl (by kernel_rfl) (Want.none rfl) rfl (ltN rfl) (QP.nilCheck rfl rfl) ?_
 refine Dw.pure (i := 2) rfl (by kernel_rfl) (Want.none rfl) rfl (ltN rfl) (QP.fieldAddr rfl rfl f77_2) ?_
 refine Dw.read (i := 3) rfl (by kernel_rfl) (Want.none rfl) rfl (ltN rfl) (QR.load1F rfl rfl g75 hf.tb (NeighTable.sub_m _)) ?_
 refine Dw.pure (i := 4) rfl (by kernel_rfl) (Want.none rfl) rfl (ltN rfl) (QP.move rfl rfl) ?_
 refine Dw.read (i := 5) rfl (by kernel_rfl) (Want.none rfl) rfl (ltN rfl) (QR.load rfl rfl g29 (Bs.sub _)) ?_
 refine Dw.pure (i := 6) rfl (by kernel_rfl) (Want.none rfl) rfl (ltN rfl) (QP.build (l := NeighKey.enc ⟨j, (fr)⟩) rfl st81 rfl (by exact ⟨rfl, ⟨(congrArg some (Bs.len _).symm), trivial⟩⟩) rfl) ?_
 refine Dw.read (i := 7) rfl (by kernel_rfl) (Want.none rfl) rfl (ltN rfl) (QR.lookupSome key81 rfl rfl rfl Try.underlying75 zero79 hl) ?_
 refine Dw.pure (i := 8) rfl (by kernel_rfl) (Want.none rfl) rfl (ltN rfl) (QP.nilCheck rfl rfl) ?_
 refine Dw.read (i := 9) rfl (by kernel_rfl) (Want.none rfl) rfl (ltN rfl) (QR.loadF rfl rfl g54 hrow (Neighbour.enc_sub _)) ?_
 refine Dw.eff (i := 10) (by kernel_rfl) (by kernel_rfl) ?_
 refine One.act (o := _) (l := []) rfl (by kernel_rfl) (Want.none rfl) rfl (EF.storeA rfl rfl rfl z54 (SetL.all (Neighbour.enc_len _) (Neighbour.enc_len _)) (Neighbour.enc_cell _)) (by kernel_rfl) ?_
 rintro _ _ rfl
 refine ⟨fun _ h => (by cases h), ?_⟩
 refine Dw.eff (i := 11) (by kernel_rfl) (by kernel_rfl) ?_
 refine One.mk (o := _) (l := []) rfl (by kernel_rfl) (Want.none rfl) rfl (ltN rfl) ((QP.assign rfl rfl).eff) (by kernel_rfl) ?_
 rintro _ _ ⟨rfl, rfl⟩
 refine ⟨fun _ h => (by cases h), ?_⟩
 refine Dw.nil (by kernel_rfl) ?_
 refine hk4 _ _ ?_
 refine Run.ret ?_
 exact J.ends (res_cell2 rfl rfl g54 (Neighbour.enc_sub _) rfl) (.cons (by repeat constructor) Takes.nil) ⟨rfl, rfl⟩

theorem indexI (F : Fr) {a : Option Addr} {xs : List Int} {c : Nat} (hlen : xs.length ≤ 4294967296) (ha : ArgSl F a 1 (fun n => [Value.int .i64 n]) xs) (p : Int) : Spec Try.prog 53 #[.slice a xs.length c, .int .i64 p] [] F (fun v S => S = [] ∧ ∃ n : Int, v = .int .i64 n ∧ (0 ≤ n ↔ p ∈ xs)) := by
 refine Spec.intro (N := 19) (args := [.slice a xs.length c, .int .i64 p]) Try.func53 rfl rfl (by simp) ?_
 refine Run.seq fun k1 hk1 => ?_
 refine Run.region ?_
 show Sq _ _ _ [0] _ _ _ _
 refine Sq.quiet (i := 0) rfl (Want.none rfl) rfl (ltN rfl) (QP.assign rfl rfl).read ?_
 refine Sq.nil ?_
 refine hk1 _ _ ?_
 refine Run.seq fun k2 hk2 => ?_
 refine Run.seq fun k3 hk3 => ?_
 refine Run.region ?_
 show Sq _ _ _ [0, 1, 2] _ _ _ _
 refine Sq.quiet (i := 0) rfl (Want.none rfl) rfl (ltN rfl) (QP.move rfl rfl).read ?_
 refine Sq.quiet (i := 1) rfl (Want.none rfl) rfl (ltN rfl) (QP.len rfl rfl rfl Try.underlying98).read ?_
 refine Sq.quiet (i := 2) rfl (Want.none rfl) rfl (ltN rfl) (QP.move rfl rfl).read ?_
 refine Sq.nil ?_
 refine hk3 _ _ ?_
 refine Run.block ?_
 refine Run.loop1 (fun (i : Nat) => i ≤ xs.length ∧ p ∉ xs.take i) (fun i => .cons 0 (.slice a xs.length c) (.cons 1 (.int .i64 p) (.cons 7 (.int .i64 xs.length) (.cons 8 (.int .i64 i) (.nil))))) (fun i => []) (fun i => xs.length - i) (0) (⟨Nat.zero_le _, by simp⟩) ?_ ?_
 ·exact fun _ j => J.envJ (J.keep Takes.nil j) ⟨rfl, rfl, rfl, rfl, trivial⟩
 rintro i ⟨hile, hno⟩ kl4 hl4
 refine Run.seq fun k5 hk5 => ?_
 refine Run.region ?_
 show Sq _ _ _ [0] _ _ _ _
 refine Sq.quiet (i := 0) rfl (Want.none rfl) rfl (ltN rfl) (QP.lss rfl rfl rfl).read ?_
 refine J.caseD (fun c9 => ?_) (fun c9 => ?_)
 ·skip
  refine Sq.nil ?_
  refine hk5 _ _ ?_
  refine Run.seq fun k6 hk6 => ?_
  refine Run.cond_t rfl ?_
  refine Run.skip ?_
  refine hk6 _ _ ?_
  refine Run.seq fun k7 hk7 => ?_
  refine Run.block ?_
  refine Run.seq fun k8 hk8 => ?_
  refine Run.region ?_
  show Sq _ _ _ [0, 1] _ _ _ _
  have hlt : i < xs.length := by omega
  obtain ⟨x, hi⟩ : ∃ x, xs[i]? = some x := ⟨_, List.getElem?_eq_getElem hlt⟩
  obtain ⟨b0, o0, rfl, hs0⟩ := ha.get (by omega)
  refine Sq.quiet (i := 0) rfl (Want.none rfl) rfl (ltN rfl) (QP.move rfl rfl).read ?_
  refine Sq.quiet (i := 1) rfl (Want.none rfl) rfl (ltN rfl) (QP.assign rfl rfl).read ?_
  refine Sq.nil ?_
  refine hk8 _ _ ?_
  refine Run.seq fun k9 hk9 => ?_
  refine Run.region ?_
  show Sq _ _ _ [0, 1, 2, 3, 4, 5] _ _ _ _
  refine Sq.quiet (i := 0) rfl (Want.none rfl) rfl (ltN rfl) (QP.move rfl rfl).read ?_
  refine Sq.quiet (i := 1) rfl (Want.none rfl) rfl (ltN rfl) (QP.move rfl rfl).read ?_
  refine Sq.quiet (i := 2) rfl (Want.none rfl) rfl (ltN rfl) (QP.move rfl rfl).read ?_
  refine Sq.quiet (i := 3) rfl (Want.none rfl) rfl (ltN rfl) (QP.indexAddr rfl rfl rfl Try.underlying98 z3 (by first | omega | (simp <;> omega)) (by first | omega | (simp <;> omega))).read ?_
  refine Sq.quiet (i := 4) rfl (Want.none rfl) rfl (ltN rfl) (QR.loadSl1 (ev := .int .i64) rfl rfl g3 (hs0 _) hi) ?_
  refine Sq.quiet (i := 5) rfl (Want.none rfl) rfl (ltN rfl) (QP.eql rfl rfl rfl).read ?_
  refine J.caseD (fun c16 => ?_) (fun c16 => ?_)
  ·skip
   refine Sq.nil ?_
   refine hk9 _ _ ?_
   refine Run.cond_t rfl ?_
   refine Run.seq fun k10 hk10 => ?_
   refine Run.region ?_
   show Sq _ _ _ [0, 1] _ _ _ _
   refine Sq.quiet (i := 0) rfl (Want.none rfl) rfl (ltN rfl) (QP.move rfl rfl).read ?_
   refine Sq.quiet (i := 1) rfl (Want.none rfl) rfl (ltN rfl) (QP.assign rfl rfl).read ?_
   refine Sq.nil ?_
   refine hk10 _ _ ?_
   refine Run.ret ?_
   exact J.ends (res_tmp rfl rfl) Takes.nil ⟨rfl, _, rfl, ⟨fun _ => by rw [c16]; exact List.mem_of_getElem? hi, fun _ => by omega⟩⟩
  ·skip
   refine Sq.nil ?_
   refine hk9 _ _ ?_
   refine Run.cond_f rfl ?_
   refine Run.skip ?_
   refine hk7 _ _ ?_
   refine Run.region ?_
   show Sq _ _ _ [0, 1] _ _ _ _
   refine Sq.quiet (i := 0) rfl (Want.none rfl) rfl (ltN rfl) (QP.add64 rfl rfl rfl (by first | omega | (simp <;> omega)) (by first | omega | (simp <;> omega))).read ?_
   refine Sq.quiet (i := 1) rfl (Want.none rfl) rfl (ltN rfl) (QP.move rfl rfl).read ?_
   refine Sq.nil ?_
   exact J.envJ (J.keep Takes.nil (hl4 (i + 1) (⟨by omega, fun h => by rw [List.take_add_one, hi] at h; rcases List.mem_append.1 h with h | h; exact hno h; simp at h; exact c16 h⟩) (by omega))) ⟨rfl, rfl, rfl, rfl, trivial⟩
 ·skip
  refine Sq.nil ?_
  refine hk5 _ _ ?_
  refine Run.seq fun k11 hk11 => ?_
  refine Run.cond_f rfl ?_
  refine Run.exit rfl ?_
  refine hk2 _ _ ?_
  refine Run.seq fun k12 hk12 => ?_
  refine Run.region ?_
  show Sq _ _ _ [0] _ _ _ _
  refine Sq.quiet (i := 0) rfl (Want.none rfl) rfl (ltN rfl) (QP.assign rfl rfl).read ?_
  refine Sq.nil ?_
  refine hk12 _ _ ?_
  refine Run.ret ?_
  exact J.ends (res_tmp rfl rfl) Takes.nil ⟨rfl, _, rfl, ⟨fun h => by omega, fun h => by rw [List.take_of_length_le (by omega)] at hno; exact absurd h hno⟩⟩

theorem containsI (F : Fr) {a : Option Addr} {xs : List Int} {c : Nat} (hlen : xs.length ≤ 4294967296) (ha : ArgSl F a 1 (fun n => [Value.int .i64 n]) xs) (p : Int) : Spec Try.prog 41 #[.slice a xs.length c, .int .i64 p] [] F (fun v S => v = .bool (decide (p ∈ xs)) ∧ S = []) := by
 refine Spec.intro (N := 9) (args := [.slice a xs.length c, .int .i64 p]) Try.func41 rfl rfl (by simp) ?_
 refine Run.seq fun k1 hk1 => ?_
 refine Run.region ?_
 show Sq _ _ _ [0] _ _ _ _
 refine Sq.quiet (i := 0) rfl (Want.none rfl) rfl (ltN rfl) (QP.assign rfl rfl).read ?_
 refine Sq.nil ?_
 refine hk1 _ _ ?_
 refine Run.seq fun k2 hk2 => ?_
 refine Run.region ?_
 show Sq _ _ _ [0, 1, 2, 3, 4] _ _ _ _
 refine Sq.quiet (i := 0) rfl (Want.none rfl) rfl (ltN rfl) (QP.move rfl rfl).read ?_
 refine Sq.quiet (i := 1) rfl (Want.none rfl) rfl (ltN rfl) (QP.move rfl rfl).read ?_
 refine Sq.eff (i := 2) rfl (Want.none rfl) rfl (ltN rfl) (EF.call rfl ce53 rfl Takes.nil (fun F' hle hr => indexI F' hlen (ha.mono hle) p)) ?_
 rintro _ _ ⟨_, ⟨rfl, n, rfl, hn⟩, rfl⟩
 refine J.app ?_
 refine Sq.quiet (i := 3) rfl (Want.none rfl) rfl (ltN rfl) (QP.geq rfl rfl rfl).read ?_
 refine Sq.quiet (i := 4) rfl (Want.none rfl) rfl (ltN rfl) (QP.assign rfl rfl).read ?_
 refine Sq.nil ?_
 refine hk2 _ _ ?_
 refine Run.ret ?_
 exact J.ends (res_tmp rfl rfl) Takes.nil ⟨congrArg Value.bool (decide_eq_decide.2 hn), rfl⟩
end Slb
