/- F8: a part of the proof that a law of this package holds for every input; no condition. -/
import Derived.Test.YtakpmaoblkhikaaRows
import Derived.Test.YtakpmaoblkhikaaS8
namespace Slb
open Go Go.Proofs
theorem g3 : Sca Try.prog 3 := ⟨fun _ => by kernel_rfl, fun _ => by kernel_rfl⟩
theorem z3 : Sz Try.prog 3 1 := g3.size
theorem zero3 : Zero Try.prog 3 (.int .i64 0) := fun _ => by kernel_rfl
theorem g4 : Sca Try.prog 4 := ⟨fun _ => by kernel_rfl, fun _ => by kernel_rfl⟩
theorem z4 : Sz Try.prog 4 1 := g4.size
theorem zero4 : Zero Try.prog 4 (.bool false) := fun _ => by kernel_rfl
theorem g5 : Sca Try.prog 5 := ⟨fun _ => by kernel_rfl, fun _ => by kernel_rfl⟩
theorem z5 : Sz Try.prog 5 1 := g5.size
theorem zero5 : Zero Try.prog 5 (.int .u8 0) := fun _ => by kernel_rfl
theorem g9 : Sca Try.prog 9 := ⟨fun _ => by kernel_rfl, fun _ => by kernel_rfl⟩
theorem z9 : Sz Try.prog 9 1 := g9.size
theorem zero9 : Zero Try.prog 9 (.string ByteArray.empty) := fun _ => by kernel_rfl
theorem g23 : Sca Try.prog 23 := ⟨fun _ => by kernel_rfl, fun _ => by kernel_rfl⟩
theorem z23 : Sz Try.prog 23 1 := g23.size
theorem zero23 : Zero Try.prog 23 (.pointer none) := fun _ => by kernel_rfl
theorem g25 : Sca Try.prog 25 := ⟨fun _ => by kernel_rfl, fun _ => by kernel_rfl⟩
theorem z25 : Sz Try.prog 25 1 := g25.size
theorem zero25 : Zero Try.prog 25 (.int .u64 0) := fun _ => by kernel_rfl
theorem g26 : Sca Try.prog 26 := ⟨fun _ => by kernel_rfl, fun _ => by kernel_rfl⟩
theorem z26 : Sz Try.prog 26 1 := g26.size
theorem zero26 : Zero Try.prog 26 (.slice none 0 0) := fun _ => by kernel_rfl
theorem g27 : Sca Try.prog 27 := ⟨fun _ => by kernel_rfl, fun _ => by kernel_rfl⟩
theorem z27 : Sz Try.prog 27 1 := g27.size
theorem zero27 : Zero Try.prog 27 (.int .i64 0) := fun _ => by kernel_rfl
theorem g32 : Sca Try.prog 32 := ⟨fun _ => by kernel_rfl, fun _ => by kernel_rfl⟩
theorem z32 : Sz Try.prog 32 1 := g32.size
theorem zero32 : Zero Try.prog 32 (.slice none 0 0) := fun _ => by kernel_rfl
theorem g33 : Sca Try.prog 33 := ⟨fun _ => by kernel_rfl, fun _ => by kernel_rfl⟩
theorem z33 : Sz Try.prog 33 1 := g33.size
theorem zero33 : Zero Try.prog 33 (.slice none 0 0) := fun _ => by kernel_rfl
theorem g35 : Agg Try.prog 35 3 := ⟨fun _ => by kernel_rfl, fun _ => by kernel_rfl⟩
theorem z35 : Sz Try.prog 35 3 := g35.size
theorem f35_0 : FieldA Try.prog 35 0 0 := fun _ _ => by kernel_rfl
theorem f35_1 : FieldA Try.prog 35 1 1 := fun _ _ => by kernel_rfl
theorem f35_2 : FieldA Try.prog 35 2 2 := fun _ _ => by kernel_rfl
theorem st35 : StructTy Try.prog 35 Law04Act.segs := ⟨fun _ => by kernel_rfl, _, Try.underlying35, fun _ => by kernel_rfl⟩
theorem zero35 : Zero Try.prog 35 (.agg Law04Act.zero.enc.toArray) := fun _ => by kernel_rfl
theorem g40 : Agg Try.prog 40 2 := ⟨fun _ => by kernel_rfl, fun _ => by kernel_rfl⟩
theorem z40 : Sz Try.prog 40 2 := g40.size
theorem f40_0 : FieldA Try.prog 40 0 0 := fun _ _ => by kernel_rfl
theorem f40_1 : FieldA Try.prog 40 1 1 := fun _ _ => by kernel_rfl
theorem st40 : StructTy Try.prog 40 Due.segs := ⟨fun _ => by kernel_rfl, _, Try.underlying40, fun _ => by kernel_rfl⟩
theorem zero40 : Zero Try.prog 40 (.agg Due.zero.enc.toArray) := fun _ => by kernel_rfl
theorem g44 : Sca Try.prog 44 := ⟨fun _ => by kernel_rfl, fun _ => by kernel_rfl⟩
theorem z44 : Sz Try.prog 44 1 := g44.size
theorem zero44 : Zero Try.prog 44 (.slice none 0 0) := fun _ => by kernel_rfl
theorem g50 : Sca Try.prog 50 := ⟨fun _ => by kernel_rfl, fun _ => by kernel_rfl⟩
theorem z50 : Sz Try.prog 50 1 := g50.size
theorem zero50 : Zero Try.prog 50 (.pointer none) := fun _ => by kernel_rfl
theorem g52 : Agg Try.prog 52 1 := ⟨fun _ => by kernel_rfl, fun _ => by kernel_rfl⟩
theorem z52 : Sz Try.prog 52 1 := g52.size
theorem f52_0 : FieldA Try.prog 52 0 0 := fun _ _ => by kernel_rfl
theorem st52 : StructTy Try.prog 52 Ref04Queue.segs := ⟨fun _ => by kernel_rfl, _, Try.underlying52, fun _ => by kernel_rfl⟩
theorem zero52 : Zero Try.prog 52 (.agg Ref04Queue.zero.enc.toArray) := fun _ => by kernel_rfl
theorem g59 : Sca Try.prog 59 := ⟨fun _ => by kernel_rfl, fun _ => by kernel_rfl⟩
theorem z59 : Sz Try.prog 59 1 := g59.size
theorem zero59 : Zero Try.prog 59 (.map none) := fun _ => by kernel_rfl
theorem g61 : Sca Try.prog 61 := ⟨fun _ => by kernel_rfl, fun _ => by kernel_rfl⟩
theorem z61 : Sz Try.prog 61 1 := g61.size
theorem zero61 : Zero Try.prog 61 (.slice none 0 0) := fun _ => by kernel_rfl
theorem g63 : Agg Try.prog 63 2 := ⟨fun _ => by kernel_rfl, fun _ => by kernel_rfl⟩
theorem z63 : Sz Try.prog 63 2 := g63.size
theorem f63_0 : FieldA Try.prog 63 0 0 := fun _ _ => by kernel_rfl
theorem f63_1 : FieldA Try.prog 63 1 1 := fun _ _ => by kernel_rfl
theorem st63 : StructTy Try.prog 63 TimerQueue.segs := ⟨fun _ => by kernel_rfl, _, Try.underlying63, fun _ => by kernel_rfl⟩
theorem zero63 : Zero Try.prog 63 (.agg TimerQueue.zero.enc.toArray) := fun _ => by kernel_rfl
theorem g64 : Sca Try.prog 64 := ⟨fun _ => by kernel_rfl, fun _ => by kernel_rfl⟩
theorem z64 : Sz Try.prog 64 1 := g64.size
theorem zero64 : Zero Try.prog 64 (.pointer none) := fun _ => by kernel_rfl
theorem g67 : Agg Try.prog 67 3 := ⟨fun _ => by kernel_rfl, fun _ => by kernel_rfl⟩
theorem z67 : Sz Try.prog 67 3 := g67.size
theorem f67_0 : FieldA Try.prog 67 0 0 := fun _ _ => by kernel_rfl
theorem f67_1 : FieldA Try.prog 67 1 2 := fun _ _ => by kernel_rfl
theorem st67 : StructTy Try.prog 67 TimerOne.segs := ⟨fun _ => by kernel_rfl, _, Try.underlying67, fun _ => by kernel_rfl⟩
theorem zero67 : Zero Try.prog 67 (.agg TimerOne.zero.enc.toArray) := fun _ => by kernel_rfl
theorem g69 : Sca Try.prog 69 := ⟨fun _ => by kernel_rfl, fun _ => by kernel_rfl⟩
theorem z69 : Sz Try.prog 69 1 := g69.size
theorem zero69 : Zero Try.prog 69 (.pointer none) := fun _ => by kernel_rfl
theorem g73 : Sca Try.prog 73 := ⟨fun _ => by kernel_rfl, fun _ => by kernel_rfl⟩
theorem z73 : Sz Try.prog 73 1 := g73.size
theorem zero73 : Zero Try.prog 73 (.nilFunc) := fun _ => by kernel_rfl
theorem g87 : Sca Try.prog 87 := ⟨fun _ => by kernel_rfl, fun _ => by kernel_rfl⟩
theorem z87 : Sz Try.prog 87 1 := g87.size
theorem zero87 : Zero Try.prog 87 (.int .i64 0) := fun _ => by kernel_rfl
theorem g94 : Sca Try.prog 94 := ⟨fun _ => by kernel_rfl, fun _ => by kernel_rfl⟩
theorem z94 : Sz Try.prog 94 1 := g94.size
theorem zero94 : Zero Try.prog 94 (.int .u32 0) := fun _ => by kernel_rfl
theorem g96 : Sca Try.prog 96 := ⟨fun _ => by kernel_rfl, fun _ => by kernel_rfl⟩
theorem z96 : Sz Try.prog 96 1 := g96.size
theorem zero96 : Zero Try.prog 96 (.int .u64 0) := fun _ => by kernel_rfl
theorem g97 : Sca Try.prog 97 := ⟨fun _ => by kernel_rfl, fun _ => by kernel_rfl⟩
theorem z97 : Sz Try.prog 97 1 := g97.size
theorem zero97 : Zero Try.prog 97 (.slice none 0 0) := fun _ => by kernel_rfl
theorem g99 : Sca Try.prog 99 := ⟨fun _ => by kernel_rfl, fun _ => by kernel_rfl⟩
theorem z99 : Sz Try.prog 99 1 := g99.size
theorem zero99 : Zero Try.prog 99 (.int .u64 0) := fun _ => by kernel_rfl
theorem g103 : Sca Try.prog 103 := ⟨fun _ => by kernel_rfl, fun _ => by kernel_rfl⟩
theorem z103 : Sz Try.prog 103 1 := g103.size
theorem zero103 : Zero Try.prog 103 (.pointer none) := fun _ => by kernel_rfl
theorem g105 : Sca Try.prog 105 := ⟨fun _ => by kernel_rfl, fun _ => by kernel_rfl⟩
theorem z105 : Sz Try.prog 105 1 := g105.size
theorem zero105 : Zero Try.prog 105 (.pointer none) := fun _ => by kernel_rfl
theorem el3 : ElemTy Try.prog 3 1 := .of (by kernel_rfl)
theorem el5 : ElemTy Try.prog 5 1 := .of (by kernel_rfl)
theorem el9 : ElemTy Try.prog 9 1 := .of (by kernel_rfl)
theorem el35 : ElemTy Try.prog 35 3 := .of (by kernel_rfl)
theorem el40 : ElemTy Try.prog 40 2 := .of (by kernel_rfl)
theorem el64 : ElemTy Try.prog 64 1 := .of (by kernel_rfl)
theorem eqs40 (d : Nat) (x y : Due) : EqA Try.prog (d + 2) 40 x.enc y.enc (decide (x = y)) := by
  have h : EqA Try.prog (d + 2) 40 x.enc y.enc (decide (x.name = y.name) && (decide (x.at_ = y.at_) && true)) := EqA.struct (sa := [[.string x.name], [.int .i64 x.at_]]) (sb := [[.string y.name], [.int .i64 y.at_]]) Try.underlying40 (by kernel_rfl) ⟨by decide, by simp , by simp , _, _, EqP.string (d := d + 0) g9 Try.underlying9 x.name y.name, ⟨by decide, by simp , by simp , _, _, EqP.int (d := d + 0) g3 Try.underlying3 x.at_ y.at_, rfl, rfl⟩, rfl⟩
  rwa [show (decide (x.name = y.name) && (decide (x.at_ = y.at_) && true)) = decide (x = y) from (by cases x; cases y; simp [Subtype.ext_iff])] at h
theorem eq40 : EqTy Try.prog 40 (Due) Due.enc := ⟨fun x y => eqs40 9998 x y, by kernel_rfl⟩
theorem ce3 : CanEnter Try.prog 3 := ⟨_, Try.func3, by kernel_rfl, by kernel_rfl⟩
theorem ce4 : CanEnter Try.prog 4 := ⟨_, Try.func4, by kernel_rfl, by kernel_rfl⟩
theorem ce5 : CanEnter Try.prog 5 := ⟨_, Try.func5, by kernel_rfl, by kernel_rfl⟩
theorem ce6 : CanEnter Try.prog 6 := ⟨_, Try.func6, by kernel_rfl, by kernel_rfl⟩
theorem ce7 : CanEnter Try.prog 7 := ⟨_, Try.func7, by kernel_rfl, by kernel_rfl⟩
theorem ce8 : CanEnter Try.prog 8 := ⟨_, Try.func8, by kernel_rfl, by kernel_rfl⟩
theorem ce9 : CanEnter Try.prog 9 := ⟨_, Try.func9, by kernel_rfl, by kernel_rfl⟩
theorem ce10 : CanEnter Try.prog 10 := ⟨_, Try.func10, by kernel_rfl, by kernel_rfl⟩
theorem ce11 : CanEnter Try.prog 11 := ⟨_, Try.func11, by kernel_rfl, by kernel_rfl⟩
theorem ce12 : CanEnter Try.prog 12 := ⟨_, Try.func12, by kernel_rfl, by kernel_rfl⟩
theorem ce13 : CanEnter Try.prog 13 := ⟨_, Try.func13, by kernel_rfl, by kernel_rfl⟩
theorem ce14 : CanEnter Try.prog 14 := ⟨_, Try.func14, by kernel_rfl, by kernel_rfl⟩
theorem ce15 : CanEnter Try.prog 15 := ⟨_, Try.func15, by kernel_rfl, by kernel_rfl⟩
theorem ce16 : CanEnter Try.prog 16 := ⟨_, Try.func16, by kernel_rfl, by kernel_rfl⟩
theorem ce17 : CanEnter Try.prog 17 := ⟨_, Try.func17, by kernel_rfl, by kernel_rfl⟩
theorem ce18 : CanEnter Try.prog 18 := ⟨_, Try.func18, by kernel_rfl, by kernel_rfl⟩
theorem ce19 : CanEnter Try.prog 19 := ⟨_, Try.func19, by kernel_rfl, by kernel_rfl⟩
theorem ce20 : CanEnter Try.prog 20 := ⟨_, Try.func20, by kernel_rfl, by kernel_rfl⟩
theorem ce21 : CanEnter Try.prog 21 := ⟨_, Try.func21, by kernel_rfl, by kernel_rfl⟩
theorem ce22 : CanEnter Try.prog 22 := ⟨_, Try.func22, by kernel_rfl, by kernel_rfl⟩
theorem ce23 : CanEnter Try.prog 23 := ⟨_, Try.func23, by kernel_rfl, by kernel_rfl⟩
theorem ce24 : CanEnter Try.prog 24 := ⟨_, Try.func24, by kernel_rfl, by kernel_rfl⟩
theorem ce25 : CanEnter Try.prog 25 := ⟨_, Try.func25, by kernel_rfl, by kernel_rfl⟩
theorem ce26 : CanEnter Try.prog 26 := ⟨_, Try.func26, by kernel_rfl, by kernel_rfl⟩
theorem ce27 : CanEnter Try.prog 27 := ⟨_, Try.func27, by kernel_rfl, by kernel_rfl⟩
theorem ce28 : CanEnter Try.prog 28 := ⟨_, Try.func28, by kernel_rfl, by kernel_rfl⟩
theorem ce29 : CanEnter Try.prog 29 := ⟨_, Try.func29, by kernel_rfl, by kernel_rfl⟩
theorem ce30 : CanEnter Try.prog 30 := ⟨_, Try.func30, by kernel_rfl, by kernel_rfl⟩
theorem ce31 : CanEnter Try.prog 31 := ⟨_, Try.func31, by kernel_rfl, by kernel_rfl⟩
theorem ce32 : CanEnter Try.prog 32 := ⟨_, Try.func32, by kernel_rfl, by kernel_rfl⟩
theorem ce33 : CanEnter Try.prog 33 := ⟨_, Try.func33, by kernel_rfl, by kernel_rfl⟩
theorem ce34 : CanEnter Try.prog 34 := ⟨_, Try.func34, by kernel_rfl, by kernel_rfl⟩
theorem ce35 : CanEnter Try.prog 35 := ⟨_, Try.func35, by kernel_rfl, by kernel_rfl⟩
theorem ce36 : CanEnter Try.prog 36 := ⟨_, Try.func36, by kernel_rfl, by kernel_rfl⟩
theorem ce37 : CanEnter Try.prog 37 := ⟨_, Try.func37, by kernel_rfl, by kernel_rfl⟩
theorem ce38 : CanEnter Try.prog 38 := ⟨_, Try.func38, by kernel_rfl, by kernel_rfl⟩
theorem ce39 : CanEnter Try.prog 39 := ⟨_, Try.func39, by kernel_rfl, by kernel_rfl⟩
theorem ce40 : CanEnter Try.prog 40 := ⟨_, Try.func40, by kernel_rfl, by kernel_rfl⟩
theorem ce41 : CanEnter Try.prog 41 := ⟨_, Try.func41, by kernel_rfl, by kernel_rfl⟩
theorem ce42 : CanEnter Try.prog 42 := ⟨_, Try.func42, by kernel_rfl, by kernel_rfl⟩
theorem ce43 : CanEnter Try.prog 43 := ⟨_, Try.func43, by kernel_rfl, by kernel_rfl⟩
theorem ce44 : CanEnter Try.prog 44 := ⟨_, Try.func44, by kernel_rfl, by kernel_rfl⟩
theorem ce45 : CanEnter Try.prog 45 := ⟨_, Try.func45, by kernel_rfl, by kernel_rfl⟩
theorem ce46 : CanEnter Try.prog 46 := ⟨_, Try.func46, by kernel_rfl, by kernel_rfl⟩
theorem ce47 : CanEnter Try.prog 47 := ⟨_, Try.func47, by kernel_rfl, by kernel_rfl⟩
theorem ce48 : CanEnter Try.prog 48 := ⟨_, Try.func48, by kernel_rfl, by kernel_rfl⟩
theorem ce49 : CanEnter Try.prog 49 := ⟨_, Try.func49, by kernel_rfl, by kernel_rfl⟩
theorem ce50 : CanEnter Try.prog 50 := ⟨_, Try.func50, by kernel_rfl, by kernel_rfl⟩
theorem ce51 : CanEnter Try.prog 51 := ⟨_, Try.func51, by kernel_rfl, by kernel_rfl⟩
theorem ce52 : CanEnter Try.prog 52 := ⟨_, Try.func52, by kernel_rfl, by kernel_rfl⟩
theorem ce53 : CanEnter Try.prog 53 := ⟨_, Try.func53, by kernel_rfl, by kernel_rfl⟩
theorem ce54 : CanEnter Try.prog 54 := ⟨_, Try.func54, by kernel_rfl, by kernel_rfl⟩
theorem ce55 : CanEnter Try.prog 55 := ⟨_, Try.func55, by kernel_rfl, by kernel_rfl⟩
theorem ce56 : CanEnter Try.prog 56 := ⟨_, Try.func56, by kernel_rfl, by kernel_rfl⟩
theorem ce57 : CanEnter Try.prog 57 := ⟨_, Try.func57, by kernel_rfl, by kernel_rfl⟩
theorem ce74 : CanEnter Try.prog 74 := ⟨_, Try.func74, by kernel_rfl, by kernel_rfl⟩
theorem ce75 : CanEnter Try.prog 75 := ⟨_, Try.func75, by kernel_rfl, by kernel_rfl⟩
theorem ce76 : CanEnter Try.prog 76 := ⟨_, Try.func76, by kernel_rfl, by kernel_rfl⟩
theorem ce77 : CanEnter Try.prog 77 := ⟨_, Try.func77, by kernel_rfl, by kernel_rfl⟩
theorem ce78 : CanEnter Try.prog 78 := ⟨_, Try.func78, by kernel_rfl, by kernel_rfl⟩
end Slb
