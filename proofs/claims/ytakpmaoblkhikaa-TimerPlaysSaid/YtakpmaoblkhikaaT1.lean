/- T1: a part of the proof that a law of this package holds for every input; no condition. -/
import Derived.Test.YtakpmaoblkhikaaC8
import Derived.Test.YtakpmaoblkhikaaM2
import Derived.Shelf.SlGeneric
namespace Go.Proofs
open Go.Shelf
def Try.sortL_ren : Go.Shelf.Ren := ⟨fun | 6 => 30 | 15 => 36 | 14 => 35 | 28 => 48 | 29 => 49 | 20 => 40 | 21 => 41 | 22 => 42 | 23 => 43 | 24 => 44 | 25 => 45 | 26 => 46 | 27 => 47 | 46 => 52 | 47 => 53 | 48 => 54 | 49 => 55 | 50 => 56 | 57 => 57 | n => n, fun | 22 => 44 | 24 => 40 | 25 => 73 | 3 => 3 | 39 => 25 | 0 => 0 | 53 => 94 | 55 => 96 | 4 => 4 | 46 => 88 | 45 => 87 | 50 => 37 | 5 => 5 | 9 => 9 | 66 => 99 | 70 => 103 | 76 => 105 | 77 => 106 | n => n, fun | n => n⟩
theorem Try.sortL : Go.Proofs.SlLaysF0.n6 Try.prog Try.sortL_ren := {
  mixed := by kernel_rfl
  f6 := ⟨Try.f30.name, by decide, Try.func30.trans (congrArg some (by kernel_rfl))⟩
  f14 := ⟨Try.f35.name, by decide, Try.func35.trans (congrArg some (by kernel_rfl))⟩
  f15 := Try.func36.trans (congrArg some (by kernel_rfl))
  f20 := ⟨Try.f40.name, by decide, Try.func40.trans (congrArg some (by kernel_rfl))⟩
  f21 := ⟨Try.f41.name, by decide, Try.func41.trans (congrArg some (by kernel_rfl))⟩
  f22 := ⟨Try.f42.name, by decide, Try.func42.trans (congrArg some (by kernel_rfl))⟩
  f23 := ⟨Try.f43.name, by decide, Try.func43.trans (congrArg some (by kernel_rfl))⟩
  f24 := ⟨Try.f44.name, by decide, Try.func44.trans (congrArg some (by kernel_rfl))⟩
  f25 := ⟨Try.f45.name, by decide, Try.func45.trans (congrArg some (by kernel_rfl))⟩
  f26 := ⟨Try.f46.name, by decide, Try.func46.trans (congrArg some (by kernel_rfl))⟩
  f27 := ⟨Try.f47.name, by decide, Try.func47.trans (congrArg some (by kernel_rfl))⟩
  f28 := Try.func48.trans (congrArg some (by kernel_rfl))
  f29 := Try.func49.trans (congrArg some (by kernel_rfl))
  f46 := ⟨Try.f52.name, by decide, Try.func52.trans (congrArg some (by kernel_rfl))⟩
  f47 := Try.func53.trans (congrArg some (by kernel_rfl))
  f48 := Try.func54.trans (congrArg some (by kernel_rfl))
  f49 := ⟨Try.f55.name, by decide, Try.func55.trans (congrArg some (by kernel_rfl))⟩
  f50 := ⟨Try.f56.name, by decide, Try.func56.trans (congrArg some (by kernel_rfl))⟩
  f57 := ⟨Try.f57.name, by decide, Try.func57.trans (congrArg some (by kernel_rfl))⟩
  t0 := Try.underlying0
  a0 := Try.isAgg0
  z0 := Try.sizeOf0
  v0 := Try.zeroValue0
  t3 := Try.underlying3
  a3 := Try.isAgg3
  z3 := Try.sizeOf3
  v3 := Try.zeroValue3
  t4 := Try.underlying4
  a4 := Try.isAgg4
  z4 := Try.sizeOf4
  v4 := Try.zeroValue4
  t5 := Try.underlying5
  a5 := Try.isAgg5
  z5 := Try.sizeOf5
  v5 := Try.zeroValue5
  t9 := Try.underlying9
  a9 := Try.isAgg9
  z9 := Try.sizeOf9
  v9 := Try.zeroValue9
  t22 := Try.underlying44
  a22 := Try.isAgg44
  z22 := Try.sizeOf44
  v22 := Try.zeroValue44
  t25 := Try.underlying73
  a25 := Try.isAgg73
  z25 := Try.sizeOf73
  v25 := Try.zeroValue73
  t39 := Try.underlying25
  a39 := Try.isAgg25
  z39 := Try.sizeOf25
  v39 := Try.zeroValue25
  t45 := Try.underlying87
  a45 := Try.isAgg87
  z45 := Try.sizeOf87
  v45 := Try.zeroValue87
  t46 := Try.underlying88
  a46 := Try.isAgg88
  z46 := Try.sizeOf88
  v46 := Try.zeroValue88
  t50 := Try.underlying37
  a50 := Try.isAgg37
  z50 := Try.sizeOf37
  v50 := Try.zeroValue37
  t53 := Try.underlying94
  a53 := Try.isAgg94
  z53 := Try.sizeOf94
  v53 := Try.zeroValue94
  t55 := Try.underlying96
  a55 := Try.isAgg96
  z55 := Try.sizeOf96
  v55 := Try.zeroValue96
  t66 := Try.underlying99
  a66 := Try.isAgg99
  z66 := Try.sizeOf99
  v66 := Try.zeroValue99
  t70 := Try.underlying103
  a70 := Try.isAgg103
  z70 := Try.sizeOf103
  v70 := Try.zeroValue103
  t76 := Try.underlying105
  a76 := Try.isAgg105
  z76 := Try.sizeOf105
  v76 := Try.zeroValue105
  t77 := Try.underlying106
  a77 := Try.isAgg106
  z77 := Try.sizeOf106
  v77 := Try.zeroValue106 }
end Go.Proofs
namespace Slb
open Go Go.Proofs
set_option maxRecDepth 20000
theorem mixedT : Try.prog.follows .mixedOrders = true := by kernel_rfl
theorem key9 : KeyTy Try.prog 9 Str (fun s => .string s.val) := KeyTy.str Try.underlying9
def cmpDue (x y : Due) : Int := orF [cmpF x.at_ y.at_, cmpS x.name y.name]
theorem totD : TotCmp cmpDue := TotCmp.lex TotCmp.int totS Due.at_ Due.name (fun x y h1 h2 => by obtain ⟨a, b⟩ := x; obtain ⟨c, d⟩ := y; simp only at h1 h2; subst h1; subst h2; rfl) (fun _ _ => rfl)
theorem swoD : Sort.SWO (Go.Proofs.ltOf cmpDue) := totD.swo
instance : Inhabited Due := ⟨Due.zero⟩

theorem isNaNS_spec (F : Fr) (a : ByteArray) : Spec Try.prog 51 #[.string a] [] F (fun v S => v = .bool false ∧ S = []) := by
 refine Spec.intro (N := 6) (args := [.string a]) Try.func51 rfl rfl (by simp) ?_
 refine Run.seq fun k1 hk1 => ?_
 refine Run.region ?_
 show Sq _ _ _ [0] _ _ _ _
 refine Sq.quiet (i := 0) rfl (Want.none rfl) rfl (ltN rfl) (QP.assign rfl rfl).read ?_
 refine Sq.nil ?_
 refine hk1 _ _ ?_
 refine Run.seq fun k2 hk2 => ?_
 refine Run.region ?_
 show Sq _ _ _ [0, 1, 2, 3] _ _ _ _
 refine Sq.quiet (i := 0) rfl (Want.none rfl) rfl (ltN rfl) (QP.move rfl rfl).read ?_
 refine Sq.quiet (i := 1) rfl (Want.none rfl) rfl (ltN rfl) (QP.move rfl rfl).read ?_
 refine Sq.quiet (i := 2) rfl (Want.none rfl) rfl (ltN rfl) (QP.neqSame rfl rfl rfl).read ?_
 refine Sq.quiet (i := 3) rfl (Want.none rfl) rfl (ltN rfl) (QP.assign rfl rfl).read ?_
 refine Sq.nil ?_
 refine hk2 _ _ ?_
 refine Run.ret ?_
 exact J.ends (res_tmp rfl rfl) Takes.nil ⟨rfl, rfl⟩

theorem compareS_spec (F : Fr) (a b : ByteArray) : Spec Try.prog 39 #[.string a, .string b] [] F (fun v S => v = .int .i64 (if cmpS a b < 0 then -1 else if cmpS b a < 0 then 1 else 0) ∧ S = []) := by
 refine Spec.intro (N := 20) (args := [.string a, .string b]) Try.func39 rfl rfl (by simp) ?_
 refine Run.seq fun k1 hk1 => ?_
 refine Run.region ?_
 show Sq _ _ _ [0] _ _ _ _
 refine Sq.quiet (i := 0) rfl (Want.none rfl) rfl (ltN rfl) (QP.assign rfl rfl).read ?_
 refine Sq.nil ?_
 refine hk1 _ _ ?_
 refine Run.seq fun k2 hk2 => ?_
 refine Run.region ?_
 show Sq _ _ _ [0, 1, 2] _ _ _ _
 refine Sq.quiet (i := 0) rfl (Want.none rfl) rfl (ltN rfl) (QP.move rfl rfl).read ?_
 refine Sq.eff (i := 1) rfl (Want.none rfl) rfl (ltN rfl) (EF.call rfl ce51 rfl Takes.nil (fun F' hle hr => isNaNS_spec F' _)) ?_
 rintro _ _ ⟨_, ⟨rfl, rfl⟩, rfl⟩
 refine J.app ?_
 refine Sq.quiet (i := 2) rfl (Want.none rfl) rfl (ltN rfl) (QP.assign rfl rfl).read ?_
 refine Sq.nil ?_
 refine hk2 _ _ ?_
 refine Run.seq fun k3 hk3 => ?_
 refine Run.region ?_
 show Sq _ _ _ [0, 1, 2] _ _ _ _
 refine Sq.quiet (i := 0) rfl (Want.none rfl) rfl (ltN rfl) (QP.move rfl rfl).read ?_
 refine Sq.eff (i := 1) rfl (Want.none rfl) rfl (ltN rfl) (EF.call rfl ce51 rfl Takes.nil (fun F' hle hr => isNaNS_spec F' _)) ?_
 rintro _ _ ⟨_, ⟨rfl, rfl⟩, rfl⟩
 refine J.app ?_
 refine Sq.quiet (i := 2) rfl (Want.none rfl) rfl (ltN rfl) (QP.assign rfl rfl).read ?_
 refine Sq.nil ?_
 refine hk3 _ _ ?_
 refine Run.seq fun k4 hk4 => ?_
 refine Run.seq fun k5 hk5 => ?_
 refine Run.region ?_
 show Sq _ _ _ [0] _ _ _ _
 refine Sq.quiet (i := 0) rfl (Want.none rfl) rfl (ltN rfl) (QP.move rfl rfl).read ?_
 refine Sq.nil ?_
 refine hk5 _ _ ?_
 refine Run.cond_f rfl ?_
 refine Run.skip ?_
 refine hk4 _ _ ?_
 refine Run.seq fun k6 hk6 => ?_
 refine Run.seq fun k7 hk7 => ?_
 refine Run.region ?_
 show Sq _ _ _ [0] _ _ _ _
 refine Sq.quiet (i := 0) rfl (Want.none rfl) rfl (ltN rfl) (QP.move rfl rfl).read ?_
 refine Sq.nil ?_
 refine hk7 _ _ ?_
 refine Run.cond_f rfl ?_
 refine Run.skip ?_
 refine hk6 _ _ ?_
 refine Run.seq fun k8 hk8 => ?_
 refine Run.seq fun k9 hk9 => ?_
 refine Run.region ?_
 show Sq _ _ _ [0, 1, 2] _ _ _ _
 refine Sq.quiet (i := 0) rfl (Want.none rfl) rfl (ltN rfl) (QP.move rfl rfl).read ?_
 refine Sq.quiet (i := 1) rfl (Want.none rfl) rfl (ltN rfl) (QP.move rfl rfl).read ?_
 refine Sq.quiet (i := 2) rfl (Want.none rfl) rfl (ltN rfl) (QP.lssS rfl rfl rfl).read ?_
 refine J.caseD (fun c16 => ?_) (fun c16 => ?_)
 ·skip
  refine Sq.nil ?_
  refine hk9 _ _ ?_
  refine Run.cond_t rfl ?_
  refine Run.seq fun k10 hk10 => ?_
  refine Run.region ?_
  show Sq _ _ _ [0] _ _ _ _
  refine Sq.quiet (i := 0) rfl (Want.none rfl) rfl (ltN rfl) (QP.assign rfl rfl).read ?_
  refine Sq.nil ?_
  refine hk10 _ _ ?_
  refine Run.ret ?_
  exact J.ends (res_tmp rfl rfl) Takes.nil ⟨by rw [if_pos c16], rfl⟩
 ·skip
  refine Sq.nil ?_
  refine hk9 _ _ ?_
  refine Run.cond_f rfl ?_
  refine Run.skip ?_
  refine hk8 _ _ ?_
  refine Run.seq fun k11 hk11 => ?_
  refine Run.seq fun k12 hk12 => ?_
  refine Run.region ?_
  show Sq _ _ _ [0, 1, 2] _ _ _ _
  refine Sq.quiet (i := 0) rfl (Want.none rfl) rfl (ltN rfl) (QP.move rfl rfl).read ?_
  refine Sq.quiet (i := 1) rfl (Want.none rfl) rfl (ltN rfl) (QP.move rfl rfl).read ?_
  refine Sq.quiet (i := 2) rfl (Want.none rfl) rfl (ltN rfl) (QP.gtrS rfl rfl rfl).read ?_
  refine J.caseD (fun c19 => ?_) (fun c19 => ?_)
  ·skip
   refine Sq.nil ?_
   refine hk12 _ _ ?_
   refine Run.cond_t rfl ?_
   refine Run.seq fun k13 hk13 => ?_
   refine Run.region ?_
   show Sq _ _ _ [0] _ _ _ _
   refine Sq.quiet (i := 0) rfl (Want.none rfl) rfl (ltN rfl) (QP.assign rfl rfl).read ?_
   refine Sq.nil ?_
   refine hk13 _ _ ?_
   refine Run.ret ?_
   exact J.ends (res_tmp rfl rfl) Takes.nil ⟨by rw [if_neg c16, if_pos c19], rfl⟩
  ·skip
   refine Sq.nil ?_
   refine hk12 _ _ ?_
   refine Run.cond_f rfl ?_
   refine Run.skip ?_
   refine hk11 _ _ ?_
   refine Run.seq fun k14 hk14 => ?_
   refine Run.region ?_
   show Sq _ _ _ [0] _ _ _ _
   refine Sq.quiet (i := 0) rfl (Want.none rfl) rfl (ltN rfl) (QP.assign rfl rfl).read ?_
   refine Sq.nil ?_
   refine hk14 _ _ ?_
   refine Run.ret ?_
   exact J.ends (res_tmp rfl rfl) Takes.nil ⟨by rw [if_neg c16, if_neg c19], rfl⟩

theorem cmpS_three (a b : ByteArray) : (if cmpS a b < 0 then -1 else if cmpS b a < 0 then 1 else 0) = cmpS a b := by
  unfold cmpS
  have key : ∀ x y : List UInt8, Lib.compareBytes x y = -1 ∨ Lib.compareBytes x y = 0 ∨ Lib.compareBytes x y = 1 := by
    intro x
    induction x with
    | nil => intro y; cases y <;> simp [Lib.compareBytes]
    | cons u x ih =>
      intro y
      cases y with
      | nil => simp [Lib.compareBytes]
      | cons v y =>
        unfold Lib.compareBytes
        split
        · exact .inl rfl
        · split
          · exact .inr (.inr rfl)
          · exact ih y
  have h1 := TotCmp.bytesNeg b.data.toList a.data.toList
  rcases key a.data.toList b.data.toList with h | h | h <;> rw [h] at h1 ⊢
  · simp
  · simp [h1]
  · simp [h1]

theorem cmpDue_spec (F : Fr) (x y : Due) : Spec Try.prog 31 #[.agg (Due.enc x).toArray, .agg (Due.enc y).toArray] [] F (fun v S => v = .int .i64 (cmpDue x y) ∧ S = []) := by
 refine Spec.intro (N := 17) (args := [.agg (Due.enc x).toArray, .agg (Due.enc y).toArray]) Try.func31 rfl rfl (by simp) ?_
 refine Run.seq fun k1 hk1 => ?_
 refine Run.region ?_
 show Sq _ _ _ [0, 1, 2] _ _ _ _
 refine Sq.eff (i := 0) rfl (Want.none rfl) rfl (ltN rfl) (EF.boxA rfl rfl) ?_
 rintro _ _ ⟨b2, rfl, rfl⟩
 refine Sq.eff (i := 1) rfl (Want.none rfl) rfl (ltN rfl) (EF.boxA rfl rfl) ?_
 rintro _ _ ⟨b3, rfl, rfl⟩
 refine Sq.quiet (i := 2) rfl (Want.none rfl) rfl (ltN rfl) (QP.assign rfl rfl).read ?_
 refine Sq.nil ?_
 refine hk1 _ _ ?_
 refine Run.seq fun k2 hk2 => ?_
 refine Run.regionD (M := [0, 1, 0, 4, 15, 0, 32, 0, 128, 511, 1023, 2047, 4095]) (q := 495) (r := 330) (by kernel_rfl) ?_
 refine Dw.pure (i := 0) rfl (by kernel_rfl) (Want.none rfl) rfl (ltN rfl) (QP.fieldAddr rfl rfl f40_1) ?_
 refine Dw.read (i := 1) rfl (by kernel_rfl) (Want.none rfl) rfl (ltN rfl) (QR.load1 rfl rfl g3 (Due.sub_at_ _)) ?_
 refine Dw.pure (i := 2) rfl (by kernel_rfl) (Want.none rfl) rfl (ltN rfl) (QP.fieldAddr rfl rfl f40_1) ?_
 refine Dw.read (i := 3) rfl (by kernel_rfl) (Want.none rfl) rfl (ltN rfl) (QR.load1 rfl rfl g3 (Due.sub_at_ _)) ?_
 refine Dw.pure (i := 5) rfl (by kernel_rfl) (Want.none rfl) rfl (ltN rfl) (QP.fieldAddr rfl rfl f40_0) ?_
 refine Dw.read (i := 6) rfl (by kernel_rfl) (Want.none rfl) rfl (ltN rfl) (QR.load1 rfl rfl g9 (Due.sub_name _)) ?_
 refine Dw.pure (i := 7) rfl (by kernel_rfl) (Want.none rfl) rfl (ltN rfl) (QP.fieldAddr rfl rfl f40_0) ?_
 refine Dw.read (i := 8) rfl (by kernel_rfl) (Want.none rfl) rfl (ltN rfl) (QR.load1 rfl rfl g9 (Due.sub_name _)) ?_
 refine Dw.eff (i := 4) (by kernel_rfl) (by kernel_rfl) ?_
 refine One.mk (o := _) (l := [8, 6]) rfl (by kernel_rfl) (Want.none rfl) rfl (ltN rfl) (EF.call rfl ce38 rfl Takes.nil (fun F' hle hr => cmpCompare_spec F' (x).at_ (y).at_)) (by kernel_rfl) ?_
 rintro _ _ ⟨_, ⟨rfl, rfl⟩, rfl⟩
 refine ⟨?_, ?_⟩
 ·rw [List.forall_mem_cons, List.forall_mem_cons]
  refine ⟨?_, ?_, fun _ h => (by cases h)⟩
  ·refine Look.app ?_
   exact Look.mk rfl rfl rfl (QR.load1 rfl rfl g9 (Due.sub_name _))
  ·refine Look.app ?_
   exact Look.mk rfl rfl rfl (QR.load1 rfl rfl g9 (Due.sub_name _))
 refine ?_
 refine J.app ?_
 refine Dw.eff (i := 9) (by kernel_rfl) (by kernel_rfl) ?_
 refine One.mk (o := _) (l := []) rfl (by kernel_rfl) (Want.none rfl) rfl (ltN rfl) (EF.call rfl ce39 rfl Takes.nil (fun F' hle hr => (compareS_spec F' (x.name) (y.name)).mono (R' := fun v S => v = .int .i64 (cmpS (x.name) (y.name)) ∧ S = []) (fun v S h => by rw [cmpS_three] at h; exact h))) (by kernel_rfl) ?_
 rintro _ _ ⟨_, ⟨rfl, rfl⟩, rfl⟩
 refine ⟨fun _ h => (by cases h), ?_⟩
 refine J.app ?_
 refine Dw.eff (i := 10) (by kernel_rfl) (by kernel_rfl) ?_
 refine One.mk (o := _) (l := []) rfl (by kernel_rfl) (Want.none rfl) rfl (ltN rfl) (EF.buildSliceS rfl Try.underlying97 z3 zero3 rfl (by decide) rfl rfl rfl rfl) (by kernel_rfl) ?_
 rintro _ _ ⟨b15, rfl, rfl⟩
 refine ⟨fun _ h => (by cases h), ?_⟩
 refine Dw.eff (i := 11) (by kernel_rfl) (by kernel_rfl) ?_
 refine One.mk (o := _) (l := []) rfl (by kernel_rfl) (Want.none rfl) rfl (ltN rfl) (EF.call rfl ce37 rfl Takes.nil (fun F' hle hr => or_spec F' [(cmpF (x).at_ (y).at_), (cmpS (x.name) (y.name))] (by simp) (fun _ => SlAt.frZ (fun _ => rfl) (hr _ _ (by repeat constructor)) [] [] rfl rfl))) (by kernel_rfl) ?_
 rintro _ _ ⟨_, ⟨rfl, rfl⟩, rfl⟩
 refine ⟨fun _ h => (by cases h), ?_⟩
 refine J.app ?_
 refine Dw.eff (i := 12) (by kernel_rfl) (by kernel_rfl) ?_
 refine One.mk (o := _) (l := []) rfl (by kernel_rfl) (Want.none rfl) rfl (ltN rfl) ((QP.assign rfl rfl).eff) (by kernel_rfl) ?_
 rintro _ _ ⟨rfl, rfl⟩
 refine ⟨fun _ h => (by cases h), ?_⟩
 refine Dw.nil (by kernel_rfl) ?_
 refine hk2 _ _ ?_
 refine Run.ret ?_
 exact J.ends (res_tmp rfl rfl) Takes.nil ⟨rfl, rfl⟩

abbrev Ent := Nat × TimerOne
abbrev pvN (b : Nat) : List Value := [pv b]
abbrev bsOf (es : List Ent) : List Nat := es.map (·.1)
@[reducible] def arrA (a : Option Addr) (c : Nat) (es : List Ent) : HProp := slA 64 1 pvN (.slice a (bsOf es).length c) (bsOf es)
@[reducible] def rowsT (es : List Ent) : HProp := rowsO TimerOne.enc 67 es
def atE (es : List Ent) (i : Nat) (p : Int) : Ent → Ent := fun e => (e.1, { e.2 with place := p })
def swapE (es : List Ent) (i k : Nat) (x y : Ent) : List Ent := (es.set i (y.1, { y.2 with place := i })).set k (x.1, { x.2 with place := k })
theorem bs_get {es : List Ent} {i : Nat} {x : Ent} (h : es[i]? = some x) : (bsOf es)[i]? = some x.1 := by
  unfold bsOf
  rw [List.getElem?_map, h]
  rfl
theorem swap_bs (es : List Ent) (i k : Nat) (x y : Ent) : bsOf (swapE es i k x y) = ((bsOf es).set i y.1).set k x.1 := by
  unfold bsOf swapE
  rw [List.map_set, List.map_set]
theorem EF.storePtr {N : Nat} {G : Env} {S : List HProp} {F : Fr} {o : Oper} {t e : TypeId} {x y : Operand} {b off i n c : Nat} {xs : List Nat} {s : Nat} {S1 : List HProp} (ho : o.op = .store t x y) (hx : opv G x = some (.pointer (some ⟨b, off + i * 1, none⟩))) (hy : opv G y = some (pv s))
    (hz : Sz Try.prog t 1) (pk : Pick S (slA e 1 pvN (.slice (some ⟨b, off, none⟩) n c) xs) S1) (hi : i < xs.length) :
    EF Try.prog N G S F o fun _ S2 => S2 = slA e 1 pvN (.slice (some ⟨b, off, none⟩) n c) (xs.set i s) :: S1 :=
  EF.storeSlF (fo := 0) ho hx hy hz pk (fun _ => rfl) hi (fun x _ => SetL.one) (cell_one rfl)

theorem len_spec (F : Fr) {a : Option Addr} {n c : Nat} : Spec Try.prog 74 #[.slice a n c] [] F (fun v S => v = .int .i64 n ∧ S = []) := by
 refine Spec.intro (N := 5) (args := [.slice a n c]) Try.func74 rfl rfl (by simp) ?_
 refine Run.seq fun k1 hk1 => ?_
 refine Run.region ?_
 show Sq _ _ _ [0] _ _ _ _
 refine Sq.quiet (i := 0) rfl (Want.none rfl) rfl (ltN rfl) (QP.assign rfl rfl).read ?_
 refine Sq.nil ?_
 refine hk1 _ _ ?_
 refine Run.seq fun k2 hk2 => ?_
 refine Run.region ?_
 show Sq _ _ _ [0, 1, 2] _ _ _ _
 refine Sq.quiet (i := 0) rfl (Want.none rfl) rfl (ltN rfl) (QP.move rfl rfl).read ?_
 refine Sq.quiet (i := 1) rfl (Want.none rfl) rfl (ltN rfl) (QP.len rfl rfl rfl Try.underlying61).read ?_
 refine Sq.quiet (i := 2) rfl (Want.none rfl) rfl (ltN rfl) (QP.assign rfl rfl).read ?_
 refine Sq.nil ?_
 refine hk2 _ _ ?_
 refine Run.ret ?_
 exact J.ends (res_tmp rfl rfl) Takes.nil ⟨rfl, rfl⟩

theorem less0 (F : Fr) {a : Option Addr} {c : Nat} {es : List Ent} (ha : ArgSl F a 1 pvN (bsOf es)) (hrow : ∀ e ∈ es, F.h e.1 = some (.cells (TimerOne.enc e.2).toArray 67 (0, 0))) {i k : Nat} {x y : Ent} (hi : es[i]? = some x) (hk : es[k]? = some y) : Spec Try.prog 75 #[.slice a (bsOf es).length c, .int .i64 (i : Int), .int .i64 (k : Int)] [] F (fun v S => v = .bool (decide (cmpDue x.2.due y.2.due < 0)) ∧ S = []) := by
 have hbi := bs_get hi
 have hbk := bs_get hk
 have hli := (List.getElem?_eq_some_iff.1 hbi).1
 have hlk := (List.getElem?_eq_some_iff.1 hbk).1
 have hrx := hrow _ (List.mem_of_getElem? hi)
 have hry := hrow _ (List.mem_of_getElem? hk)
 refine Spec.intro (N := 23) (args := [.slice a (bsOf es).length c, .int .i64 (i : Int), .int .i64 (k : Int)]) Try.func75 rfl rfl (by simp) ?_
 refine Run.seq fun k1 hk1 => ?_
 refine Run.region ?_
 show Sq _ _ _ [0] _ _ _ _
 obtain ⟨b0, o0, rfl, hs0⟩ := ha.get (by omega)
 refine Sq.quiet (i := 0) rfl (Want.none rfl) rfl (ltN rfl) (QP.assign rfl rfl).read ?_
 refine Sq.nil ?_
 refine hk1 _ _ ?_
 refine Run.seq fun k2 hk2 => ?_
 refine Run.regionD (M := [0, 0, 3, 7, 15, 31, 63, 0, 0, 384, 896, 1920, 3968, 8064, 16383, 32767, 65535]) (q := 49151) (r := 9288) (by kernel_rfl) ?_
 refine Dw.pure (i := 0) rfl (by kernel_rfl) (Want.none rfl) rfl (ltN rfl) (QP.move rfl rfl) ?_
 refine Dw.pure (i := 1) rfl (by kernel_rfl) (Want.none rfl) rfl (ltN rfl) (QP.move rfl rfl) ?_
 refine Dw.pure (i := 2) rfl (by kernel_rfl) (Want.none rfl) rfl (ltN rfl) (QP.indexAddr rfl rfl rfl Try.underlying61 z64 (by first | omega | (simp <;> omega)) (by first | omega | (simp <;> omega))) ?_
 refine Dw.read (i := 3) rfl (by kernel_rfl) (Want.none rfl) rfl (ltN rfl) (QR.loadSl1 (ev := pv) rfl rfl g64 (hs0 _) hbi) ?_
 refine Dw.pure (i := 4) rfl (by kernel_rfl) (Want.none rfl) rfl (ltN rfl) (QP.nilCheck rfl rfl) ?_
 refine Dw.pure (i := 5) rfl (by kernel_rfl) (Want.none rfl) rfl (ltN rfl) (QP.fieldAddr rfl rfl f67_0) ?_
 refine Dw.read (i := 6) rfl (by kernel_rfl) (Want.none rfl) rfl (ltN rfl) (QR.loadF rfl rfl g40 hrx (TimerOne.sub_due _)) ?_
 refine Dw.pure (i := 7) rfl (by kernel_rfl) (Want.none rfl) rfl (ltN rfl) (QP.move rfl rfl) ?_
 refine Dw.pure (i := 8) rfl (by kernel_rfl) (Want.none rfl) rfl (ltN rfl) (QP.move rfl rfl) ?_
 refine Dw.pure (i := 9) rfl (by kernel_rfl) (Want.none rfl) rfl (ltN rfl) (QP.indexAddr rfl rfl rfl Try.underlying61 z64 (by first | omega | (simp <;> omega)) (by first | omega | (simp <;> omega))) ?_
 refine Dw.read (i := 10) rfl (by kernel_rfl) (Want.none rfl) rfl (ltN rfl) (QR.loadSl1 (ev := pv) rfl rfl g64 (hs0 _) hbk) ?_
 refine Dw.pure (i := 11) rfl (by kernel_rfl) (Want.none rfl) rfl (ltN rfl) (QP.nilCheck rfl rfl) ?_
 refine Dw.pure (i := 12) rfl (by kernel_rfl) (Want.none rfl) rfl (ltN rfl) (QP.fieldAddr rfl rfl f67_0) ?_
 refine Dw.read (i := 13) rfl (by kernel_rfl) (Want.none rfl) rfl (ltN rfl) (QR.loadF rfl rfl g40 hry (TimerOne.sub_due _)) ?_
 refine Dw.eff (i := 14) (by kernel_rfl) (by kernel_rfl) ?_
 refine One.mk (o := _) (l := []) rfl (by kernel_rfl) (Want.none rfl) rfl (ltN rfl) (EF.call rfl ce31 rfl Takes.nil (fun F' hle hr => cmpDue_spec F' ((x.2).due) ((y.2).due))) (by kernel_rfl) ?_
 rintro _ _ ⟨_, ⟨rfl, rfl⟩, rfl⟩
 refine ⟨fun _ h => (by cases h), ?_⟩
 refine J.app ?_
 refine Dw.pure (i := 15) rfl (by kernel_rfl) (Want.none rfl) rfl (ltN rfl) (QP.lss rfl rfl rfl) ?_
 refine Dw.eff (i := 16) (by kernel_rfl) (by kernel_rfl) ?_
 refine One.mk (o := _) (l := []) rfl (by kernel_rfl) (Want.none rfl) rfl (ltN rfl) ((QP.assign rfl rfl).eff) (by kernel_rfl) ?_
 rintro _ _ ⟨rfl, rfl⟩
 refine ⟨fun _ h => (by cases h), ?_⟩
 refine Dw.nil (by kernel_rfl) ?_
 refine hk2 _ _ ?_
 refine Run.ret ?_
 exact J.ends (res_tmp rfl rfl) Takes.nil ⟨rfl, rfl⟩

theorem lessT (F : Fr) {a : Option Addr} {c : Nat} {es : List Ent} {i k : Nat} {x y : Ent} (hi : es[i]? = some x) (hk : es[k]? = some y) : Spec Try.prog 75 #[.slice a (bsOf es).length c, .int .i64 (i : Int), .int .i64 (k : Int)] [arrA a c es, rowsT es] F fun v S => v = .bool (decide (cmpDue x.2.due y.2.due < 0)) ∧ S = [arrA a c es, rowsT es] :=
  Spec.post (Spec.lendSl (m := [rowsT es]) (xs := bsOf es) (fun _ => rfl) fun F1 _ ha => Spec.lendRows (m := []) fun F2 hle hr => less0 F2 (ha.mono hle) hr hi hk) fun v S w ⟨S1, ⟨S2, ⟨h1, h2⟩, h3⟩, h4⟩ s => ⟨_, ⟨h1, rfl⟩, by subst h2; subst h3; subst h4; exact s⟩

theorem swap0 (F : Fr) {a : Option Addr} {c : Nat} {es : List Ent} {i k : Nat} {x y : Ent} (hik : i ≠ k) (hi : es[i]? = some x) (hk : es[k]? = some y) : Spec Try.prog 76 #[.slice a (bsOf es).length c, .int .i64 (i : Int), .int .i64 (k : Int)] [arrA a c es, rowsT es] F (fun v S => v = .tuple #[] ∧ S = [arrA a c (swapE es i k x y), rowsT (swapE es i k x y)]) := by
 have hbi := bs_get hi
 have hbk := bs_get hk
 have hli := (List.getElem?_eq_some_iff.1 hbi).1
 have hlk := (List.getElem?_eq_some_iff.1 hbk).1
 have hbi2 : (((bsOf es).set i y.1).set k x.1)[i]? = some y.1 := by rw [List.getElem?_set_ne (Ne.symm hik), List.getElem?_set_self hli]
 have hbk2 : (((bsOf es).set i y.1).set k x.1)[k]? = some x.1 := by rw [List.getElem?_set_self (by rw [List.length_set]; exact hlk)]
 obtain ⟨rest, hp1, hp2⟩ := two_out hik hi hk
 have hp3 := hp2 (x.1, { x.2 with place := (k : Int) }) (y.1, { y.2 with place := (i : Int) })
 refine Spec.intro (N := 34) (args := [.slice a (bsOf es).length c, .int .i64 (i : Int), .int .i64 (k : Int)]) Try.func76 rfl rfl (by simp) ?_
 refine Run.seq fun k1 hk1 => ?_
 refine Run.regionM (M := [0, 0, 0, 0, 0, 0, 48, 112, 0, 0, 768, 1792, 4083, 8179, 16383, 32767]) (q := 24575) (r := 2176) mixedT (by kernel_rfl) ?_
 refine J.slCase (v := .slice a (bsOf es).length c) (xs := bsOf es) (by repeat constructor) (fun a1 c1 hv1 hh1 => ?_)
 cases hv1
 obtain ⟨b0, o0, rfl⟩ := hh1.get (by omega)
 refine Dw.pure (i := 0) rfl (by kernel_rfl) (Want.none rfl) rfl (ltN rfl) (QP.move rfl rfl) ?_
 refine Dw.pure (i := 1) rfl (by kernel_rfl) (Want.none rfl) rfl (ltN rfl) (QP.move rfl rfl) ?_
 refine Dw.pure (i := 2) rfl (by kernel_rfl) (Want.none rfl) rfl (ltN rfl) (QP.move rfl rfl) ?_
 refine Dw.pure (i := 3) rfl (by kernel_rfl) (Want.none rfl) rfl (ltN rfl) (QP.move rfl rfl) ?_
 refine Dw.pure (i := 4) rfl (by kernel_rfl) (Want.none rfl) rfl (ltN rfl) (QP.move rfl rfl) ?_
 refine Dw.pure (i := 5) rfl (by kernel_rfl) (Want.none rfl) rfl (ltN rfl) (QP.move rfl rfl) ?_
 refine Dw.pure (i := 6) rfl (by kernel_rfl) (Want.none rfl) rfl (ltN rfl) (QP.indexAddr rfl rfl rfl Try.underlying61 z64 (by first | omega | (simp <;> omega)) (by first | omega | (simp <;> omega))) ?_
 refine Dw.read (i := 7) rfl (by kernel_rfl) (Want.none rfl) rfl (ltN rfl) (QR.loadSl1 (ev := pv) rfl rfl g64 (SlAt.own (enc := pvN) (fun _ => rfl) (by repeat constructor)) hbk) ?_
 refine Dw.pure (i := 8) rfl (by kernel_rfl) (Want.none rfl) rfl (ltN rfl) (QP.move rfl rfl) ?_
 refine Dw.pure (i := 9) rfl (by kernel_rfl) (Want.none rfl) rfl (ltN rfl) (QP.move rfl rfl) ?_
 refine Dw.pure (i := 10) rfl (by kernel_rfl) (Want.none rfl) rfl (ltN rfl) (QP.indexAddr rfl rfl rfl Try.underlying61 z64 (by first | omega | (simp <;> omega)) (by first | omega | (simp <;> omega))) ?_
 refine Dw.read (i := 11) rfl (by kernel_rfl) (Want.none rfl) rfl (ltN rfl) (QR.loadSl1 (ev := pv) rfl rfl g64 (SlAt.own (enc := pvN) (fun _ => rfl) (by repeat constructor)) hbi) ?_
 refine Dw.pure (i := 12) rfl (by kernel_rfl) (Want.none rfl) rfl (ltN rfl) (QP.indexAddr rfl rfl rfl Try.underlying61 z64 (by first | omega | (simp <;> omega)) (by first | omega | (simp <;> omega))) ?_
 refine Dw.eff (i := 13) (by kernel_rfl) (by kernel_rfl) ?_
 refine One.act (o := _) (l := []) rfl (by kernel_rfl) (Want.none rfl) rfl (EF.storePtr (i := Int.toNat (i : Int)) (s := y.1) rfl rfl rfl z64 (by repeat constructor) (by rw [Int.toNat_natCast]; first | omega | (rw [List.length_set]; omega))) (by kernel_rfl) ?_
 rintro _ _ rfl
 refine ⟨fun _ h => (by cases h), ?_⟩
 refine Dw.pure (i := 14) rfl (by kernel_rfl) (Want.none rfl) rfl (ltN rfl) (QP.indexAddr rfl rfl rfl Try.underlying61 z64 (by first | omega | (simp <;> omega)) (by first | omega | (simp <;> omega))) ?_
 refine Dw.eff (i := 15) (by kernel_rfl) (by kernel_rfl) ?_
 refine One.act (o := _) (l := []) rfl (by kernel_rfl) (Want.none rfl) rfl (EF.storePtr (i := Int.toNat (k : Int)) (s := x.1) rfl rfl rfl z64 (by repeat constructor) (by rw [Int.toNat_natCast]; first | omega | (rw [List.length_set]; omega))) (by kernel_rfl) ?_
 rintro _ _ rfl
 refine ⟨fun _ h => (by cases h), ?_⟩
 rw [Int.toNat_natCast, Int.toNat_natCast]
 refine Dw.nil (by kernel_rfl) ?_
 refine hk1 _ _ ?_
 refine Run.regionM (M := [0, 0, 3, 7, 0, 0, 48, 112, 0, 0, 511, 1535, 3583, 8191, 16383, 32767]) (q := 28671) (r := 136) mixedT (by kernel_rfl) ?_
 refine J.openE (by repeat constructor) (fun _ g => (⟨(), rowsO_two hp1 g⟩ : ∃ _ : Unit, _)) fun _ => ?_
 refine J.app ?_
 refine Dw.pure (i := 0) rfl (by kernel_rfl) (Want.none rfl) rfl (ltN rfl) (QP.move rfl rfl) ?_
 refine Dw.pure (i := 1) rfl (by kernel_rfl) (Want.none rfl) rfl (ltN rfl) (QP.move rfl rfl) ?_
 refine Dw.pure (i := 2) rfl (by kernel_rfl) (Want.none rfl) rfl (ltN rfl) (QP.indexAddr rfl rfl rfl Try.underlying61 z64 (by first | omega | (simp <;> omega)) (by first | omega | (simp <;> omega))) ?_
 refine Dw.read (i := 3) rfl (by kernel_rfl) (Want.none rfl) rfl (ltN rfl) (QR.loadSl1 (ev := pv) rfl rfl g64 (SlAt.own (enc := pvN) (fun _ => rfl) (by repeat constructor)) hbi2) ?_
 refine Dw.pure (i := 4) rfl (by kernel_rfl) (Want.none rfl) rfl (ltN rfl) (QP.move rfl rfl) ?_
 refine Dw.pure (i := 5) rfl (by kernel_rfl) (Want.none rfl) rfl (ltN rfl) (QP.move rfl rfl) ?_
 refine Dw.pure (i := 6) rfl (by kernel_rfl) (Want.none rfl) rfl (ltN rfl) (QP.indexAddr rfl rfl rfl Try.underlying61 z64 (by first | omega | (simp <;> omega)) (by first | omega | (simp <;> omega))) ?_
 refine Dw.read (i := 7) rfl (by kernel_rfl) (Want.none rfl) rfl (ltN rfl) (QR.loadSl1 (ev := pv) rfl rfl g64 (SlAt.own (enc := pvN) (fun _ => rfl) (by repeat constructor)) hbk2) ?_
 refine Dw.pure (i := 8) rfl (by kernel_rfl) (Want.none rfl) rfl (ltN rfl) (QP.move rfl rfl) ?_
 refine Dw.pure (i := 9) rfl (by kernel_rfl) (Want.none rfl) rfl (ltN rfl) (QP.move rfl rfl) ?_
 refine Dw.pure (i := 10) rfl (by kernel_rfl) (Want.none rfl) rfl (ltN rfl) (QP.nilCheck rfl rfl) ?_
 refine Dw.pure (i := 11) rfl (by kernel_rfl) (Want.none rfl) rfl (ltN rfl) (QP.fieldAddr rfl rfl f67_1) ?_
 refine Dw.eff (i := 12) (by kernel_rfl) (by kernel_rfl) ?_
 refine One.act (o := _) (l := []) rfl (by kernel_rfl) (Want.none rfl) rfl (EF.store rfl rfl rfl z3 (TimerOne.set_place _ _) (cell_one rfl)) (by kernel_rfl) ?_
 rintro _ _ rfl
 refine ⟨fun _ h => (by cases h), ?_⟩
 refine Dw.pure (i := 13) rfl (by kernel_rfl) (Want.none rfl) rfl (ltN rfl) (QP.nilCheck rfl rfl) ?_
 refine Dw.pure (i := 14) rfl (by kernel_rfl) (Want.none rfl) rfl (ltN rfl) (QP.fieldAddr rfl rfl f67_1) ?_
 refine Dw.eff (i := 15) (by kernel_rfl) (by kernel_rfl) ?_
 refine One.act (o := _) (l := []) rfl (by kernel_rfl) (Want.none rfl) rfl (EF.store rfl rfl rfl z3 (TimerOne.set_place _ _) (cell_one rfl)) (by kernel_rfl) ?_
 rintro _ _ rfl
 refine ⟨fun _ h => (by cases h), ?_⟩
 refine Dw.nil (by kernel_rfl) ?_
 refine J.close (A := rowsT (swapE es i k x y)) (m := [blk x.1 (TimerOne.enc { x.2 with place := (k : Int) }) 67, blk y.1 (TimerOne.enc { y.2 with place := (i : Int) }) 67, rowsO TimerOne.enc 67 rest]) (.cons (by repeat constructor) (.cons (by repeat constructor) (.cons (by repeat constructor) Takes.nil))) (fun _ g => rowsO_of_two hp3 g) ?_
 refine J.slEq (by repeat constructor) (swap_bs es i k x y).symm ?_
 exact J.ends (res_none rfl) (.cons (by repeat constructor) (.cons (by repeat constructor) Takes.nil)) ⟨rfl, by unfold arrA; rw [show (bsOf (swapE es i k x y)).length = (bsOf es).length by rw [swap_bs, List.length_set, List.length_set]]⟩
end Slb
