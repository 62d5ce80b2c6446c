/- F9: a part of the proof that a law of this package holds for every input; no condition. -/
import Derived.Test.YtiohlongddnclaaRows
import Derived.Test.YtiohlongddnclaaS9
namespace Slb
open Go Go.Proofs
theorem g3 : Sca Try.prog 3 := ⟨fun _ => by kernel_rfl, fun _ => by kernel_rfl⟩
theorem z3 : Sz Try.prog 3 1 := g3.size
theorem zero3 : Zero Try.prog 3 (.int .i64 0) := fun _ => by kernel_rfl
theorem g4 : Sca Try.prog 4 := ⟨fun _ => by kernel_rfl, fun _ => by kernel_rfl⟩
theorem z4 : Sz Try.prog 4 1 := g4.size
theorem zero4 : Zero Try.prog 4 (.bool false) := fun _ => by kernel_rfl
theorem g5 : Sca Try.prog 5 := ⟨fun _ => by kernel_rfl, fun _ => by kernel_rfl⟩
theorem z5 : Sz Try.prog 5 1 := g5.size
theorem zero5 : Zero Try.prog 5 (.int .u8 0) := fun _ => by kernel_rfl
theorem g9 : Sca Try.prog 9 := ⟨fun _ => by kernel_rfl, fun _ => by kernel_rfl⟩
theorem z9 : Sz Try.prog 9 1 := g9.size
theorem zero9 : Zero Try.prog 9 (.string ByteArray.empty) := fun _ => by kernel_rfl
theorem g23 : Agg Try.prog 23 16 := ⟨fun _ => by kernel_rfl, fun _ => by kernel_rfl⟩
theorem z23 : Sz Try.prog 23 16 := g23.size
theorem zero23 : Zero Try.prog 23 (.agg (Bs.zero 16).enc.toArray) := fun _ => by kernel_rfl
theorem g24 : Sca Try.prog 24 := ⟨fun _ => by kernel_rfl, fun _ => by kernel_rfl⟩
theorem z24 : Sz Try.prog 24 1 := g24.size
theorem zero24 : Zero Try.prog 24 (.slice none 0 0) := fun _ => by kernel_rfl
theorem g26 : Sca Try.prog 26 := ⟨fun _ => by kernel_rfl, fun _ => by kernel_rfl⟩
theorem z26 : Sz Try.prog 26 1 := g26.size
theorem zero26 : Zero Try.prog 26 (.slice none 0 0) := fun _ => by kernel_rfl
theorem g27 : Sca Try.prog 27 := ⟨fun _ => by kernel_rfl, fun _ => by kernel_rfl⟩
theorem z27 : Sz Try.prog 27 1 := g27.size
theorem zero27 : Zero Try.prog 27 (.int .i64 0) := fun _ => by kernel_rfl
theorem g32 : Sca Try.prog 32 := ⟨fun _ => by kernel_rfl, fun _ => by kernel_rfl⟩
theorem z32 : Sz Try.prog 32 1 := g32.size
theorem zero32 : Zero Try.prog 32 (.int .u16 0) := fun _ => by kernel_rfl
theorem g34 : Agg Try.prog 34 8 := ⟨fun _ => by kernel_rfl, fun _ => by kernel_rfl⟩
theorem z34 : Sz Try.prog 34 8 := g34.size
theorem zero34 : Zero Try.prog 34 (.agg (Bs.zero 8).enc.toArray) := fun _ => by kernel_rfl
theorem g36 : Agg Try.prog 36 17 := ⟨fun _ => by kernel_rfl, fun _ => by kernel_rfl⟩
theorem z36 : Sz Try.prog 36 17 := g36.size
theorem f36_0 : FieldA Try.prog 36 0 0 := fun _ _ => by kernel_rfl
theorem f36_1 : FieldA Try.prog 36 1 16 := fun _ _ => by kernel_rfl
theorem st36 : StructTy Try.prog 36 Prefix.segs := ⟨fun _ => by kernel_rfl, _, Try.underlying36, fun _ => by kernel_rfl⟩
theorem zero36 : Zero Try.prog 36 (.agg Prefix.zero.enc.toArray) := fun _ => by kernel_rfl
theorem g38 : Agg Try.prog 38 34 := ⟨fun _ => by kernel_rfl, fun _ => by kernel_rfl⟩
theorem z38 : Sz Try.prog 38 34 := g38.size
theorem f38_0 : FieldA Try.prog 38 0 0 := fun _ _ => by kernel_rfl
theorem f38_1 : FieldA Try.prog 38 1 17 := fun _ _ => by kernel_rfl
theorem st38 : StructTy Try.prog 38 Pair.segs := ⟨fun _ => by kernel_rfl, _, Try.underlying38, fun _ => by kernel_rfl⟩
theorem zero38 : Zero Try.prog 38 (.agg Pair.zero.enc.toArray) := fun _ => by kernel_rfl
theorem g39 : Sca Try.prog 39 := ⟨fun _ => by kernel_rfl, fun _ => by kernel_rfl⟩
theorem z39 : Sz Try.prog 39 1 := g39.size
theorem zero39 : Zero Try.prog 39 (.slice none 0 0) := fun _ => by kernel_rfl
theorem g41 : Agg Try.prog 41 68 := ⟨fun _ => by kernel_rfl, fun _ => by kernel_rfl⟩
theorem z41 : Sz Try.prog 41 68 := g41.size
theorem f41_0 : FieldA Try.prog 41 0 0 := fun _ _ => by kernel_rfl
theorem f41_1 : FieldA Try.prog 41 1 1 := fun _ _ => by kernel_rfl
theorem f41_2 : FieldA Try.prog 41 2 2 := fun _ _ => by kernel_rfl
theorem f41_3 : FieldA Try.prog 41 3 3 := fun _ _ => by kernel_rfl
theorem f41_4 : FieldA Try.prog 41 4 4 := fun _ _ => by kernel_rfl
theorem f41_5 : FieldA Try.prog 41 5 5 := fun _ _ => by kernel_rfl
theorem f41_6 : FieldA Try.prog 41 6 6 := fun _ _ => by kernel_rfl
theorem f41_7 : FieldA Try.prog 41 7 7 := fun _ _ => by kernel_rfl
theorem f41_8 : FieldA Try.prog 41 8 8 := fun _ _ => by kernel_rfl
theorem f41_9 : FieldA Try.prog 41 9 9 := fun _ _ => by kernel_rfl
theorem f41_10 : FieldA Try.prog 41 10 17 := fun _ _ => by kernel_rfl
theorem f41_11 : FieldA Try.prog 41 11 33 := fun _ _ => by kernel_rfl
theorem f41_12 : FieldA Try.prog 41 12 67 := fun _ _ => by kernel_rfl
theorem st41 : StructTy Try.prog 41 Tlv.segs := ⟨fun _ => by kernel_rfl, _, Try.underlying41, fun _ => by kernel_rfl⟩
theorem zero41 : Zero Try.prog 41 (.agg Tlv.zero.enc.toArray) := fun _ => by kernel_rfl
theorem g42 : Sca Try.prog 42 := ⟨fun _ => by kernel_rfl, fun _ => by kernel_rfl⟩
theorem z42 : Sz Try.prog 42 1 := g42.size
theorem zero42 : Zero Try.prog 42 (.int .u64 0) := fun _ => by kernel_rfl
theorem g51 : Sca Try.prog 51 := ⟨fun _ => by kernel_rfl, fun _ => by kernel_rfl⟩
theorem z51 : Sz Try.prog 51 1 := g51.size
theorem zero51 : Zero Try.prog 51 (.pointer none) := fun _ => by kernel_rfl
theorem g53 : Sca Try.prog 53 := ⟨fun _ => by kernel_rfl, fun _ => by kernel_rfl⟩
theorem z53 : Sz Try.prog 53 1 := g53.size
theorem zero53 : Zero Try.prog 53 (.map none) := fun _ => by kernel_rfl
theorem g54 : Sca Try.prog 54 := ⟨fun _ => by kernel_rfl, fun _ => by kernel_rfl⟩
theorem z54 : Sz Try.prog 54 1 := g54.size
theorem zero54 : Zero Try.prog 54 (.map none) := fun _ => by kernel_rfl
theorem g55 : Sca Try.prog 55 := ⟨fun _ => by kernel_rfl, fun _ => by kernel_rfl⟩
theorem z55 : Sz Try.prog 55 1 := g55.size
theorem zero55 : Zero Try.prog 55 (.pointer none) := fun _ => by kernel_rfl
theorem g57 : Agg Try.prog 57 3 := ⟨fun _ => by kernel_rfl, fun _ => by kernel_rfl⟩
theorem z57 : Sz Try.prog 57 3 := g57.size
theorem f57_0 : FieldA Try.prog 57 0 0 := fun _ _ => by kernel_rfl
theorem f57_1 : FieldA Try.prog 57 1 1 := fun _ _ => by kernel_rfl
theorem f57_2 : FieldA Try.prog 57 2 2 := fun _ _ => by kernel_rfl
theorem st57 : StructTy Try.prog 57 PacketKnown.segs := ⟨fun _ => by kernel_rfl, _, Try.underlying57, fun _ => by kernel_rfl⟩
theorem zero57 : Zero Try.prog 57 (.agg PacketKnown.zero.enc.toArray) := fun _ => by kernel_rfl
theorem g59 : Agg Try.prog 59 3 := ⟨fun _ => by kernel_rfl, fun _ => by kernel_rfl⟩
theorem z59 : Sz Try.prog 59 3 := g59.size
theorem f59_0 : FieldA Try.prog 59 0 0 := fun _ _ => by kernel_rfl
theorem st59 : StructTy Try.prog 59 PacketParser.segs := ⟨fun _ => by kernel_rfl, _, Try.underlying59, fun _ => by kernel_rfl⟩
theorem zero59 : Zero Try.prog 59 (.agg PacketParser.zero.enc.toArray) := fun _ => by kernel_rfl
theorem g60 : Sca Try.prog 60 := ⟨fun _ => by kernel_rfl, fun _ => by kernel_rfl⟩
theorem z60 : Sz Try.prog 60 1 := g60.size
theorem zero60 : Zero Try.prog 60 (.slice none 0 0) := fun _ => by kernel_rfl
theorem g64 : Agg Try.prog 64 2 := ⟨fun _ => by kernel_rfl, fun _ => by kernel_rfl⟩
theorem z64 : Sz Try.prog 64 2 := g64.size
theorem f64_0 : FieldA Try.prog 64 0 0 := fun _ _ => by kernel_rfl
theorem f64_1 : FieldA Try.prog 64 1 1 := fun _ _ => by kernel_rfl
theorem st64 : StructTy Try.prog 64 Raw.segs := ⟨fun _ => by kernel_rfl, _, Try.underlying64, fun _ => by kernel_rfl⟩
theorem zero64 : Zero Try.prog 64 (.agg Raw.zero.enc.toArray) := fun _ => by kernel_rfl
theorem g76 : Sca Try.prog 76 := ⟨fun _ => by kernel_rfl, fun _ => by kernel_rfl⟩
theorem z76 : Sz Try.prog 76 1 := g76.size
theorem zero76 : Zero Try.prog 76 (.int .u32 0) := fun _ => by kernel_rfl
theorem g77 : Sca Try.prog 77 := ⟨fun _ => by kernel_rfl, fun _ => by kernel_rfl⟩
theorem z77 : Sz Try.prog 77 1 := g77.size
theorem zero77 : Zero Try.prog 77 (.pointer none) := fun _ => by kernel_rfl
theorem g86 : Sca Try.prog 86 := ⟨fun _ => by kernel_rfl, fun _ => by kernel_rfl⟩
theorem z86 : Sz Try.prog 86 1 := g86.size
theorem zero86 : Zero Try.prog 86 (.pointer none) := fun _ => by kernel_rfl
theorem g88 : Agg Try.prog 88 70 := ⟨fun _ => by kernel_rfl, fun _ => by kernel_rfl⟩
theorem z88 : Sz Try.prog 88 70 := g88.size
theorem f88_0 : FieldA Try.prog 88 0 0 := fun _ _ => by kernel_rfl
theorem f88_1 : FieldA Try.prog 88 1 1 := fun _ _ => by kernel_rfl
theorem f88_2 : FieldA Try.prog 88 2 69 := fun _ _ => by kernel_rfl
theorem st88 : StructTy Try.prog 88 PacketPiece.segs := ⟨fun _ => by kernel_rfl, _, Try.underlying88, fun _ => by kernel_rfl⟩
theorem zero88 : Zero Try.prog 88 (.agg PacketPiece.zero.enc.toArray) := fun _ => by kernel_rfl
theorem g97 : Agg Try.prog 97 4 := ⟨fun _ => by kernel_rfl, fun _ => by kernel_rfl⟩
theorem z97 : Sz Try.prog 97 4 := g97.size
theorem f97_0 : FieldA Try.prog 97 0 0 := fun _ _ => by kernel_rfl
theorem f97_1 : FieldA Try.prog 97 1 1 := fun _ _ => by kernel_rfl
theorem f97_2 : FieldA Try.prog 97 2 2 := fun _ _ => by kernel_rfl
theorem f97_3 : FieldA Try.prog 97 3 3 := fun _ _ => by kernel_rfl
theorem st97 : StructTy Try.prog 97 OctetReader.segs := ⟨fun _ => by kernel_rfl, _, Try.underlying97, fun _ => by kernel_rfl⟩
theorem zero97 : Zero Try.prog 97 (.agg OctetReader.zero.enc.toArray) := fun _ => by kernel_rfl
theorem el5 : ElemTy Try.prog 5 1 := .of (by kernel_rfl)
theorem el41 : ElemTy Try.prog 41 68 := .of (by kernel_rfl)
theorem el64 : ElemTy Try.prog 64 2 := .of (by kernel_rfl)
theorem el76 : ElemTy Try.prog 76 1 := .of (by kernel_rfl)
theorem eqs23 (d : Nat) (x y : Bs 16) : EqA Try.prog (d + 2) 23 x.enc y.enc (decide (x = y)) := EqA.bs Try.underlying23 Try.underlying5 (by kernel_rfl) (by kernel_rfl) g5 x y
theorem eq23 : EqTy Try.prog 23 (Bs 16) Bs.enc := ⟨fun x y => eqs23 9998 x y, by kernel_rfl⟩
theorem eqs34 (d : Nat) (x y : Bs 8) : EqA Try.prog (d + 2) 34 x.enc y.enc (decide (x = y)) := EqA.bs Try.underlying34 Try.underlying5 (by kernel_rfl) (by kernel_rfl) g5 x y
theorem eq34 : EqTy Try.prog 34 (Bs 8) Bs.enc := ⟨fun x y => eqs34 9998 x y, by kernel_rfl⟩
theorem eqs36 (d : Nat) (x y : Prefix) : EqA Try.prog (d + 3) 36 x.enc y.enc (decide (x = y)) := by
  have h : EqA Try.prog (d + 3) 36 x.enc y.enc (decide (x.a = y.a) && (decide (x.len.val = y.len.val) && true)) := EqA.struct (sa := [x.a.enc, [I64.v x.len]]) (sb := [y.a.enc, [I64.v y.len]]) Try.underlying36 (by kernel_rfl) ⟨by decide, by simp [Bs.len], by simp [Bs.len], _, _, EqP.agg g23 (Bs.len _) (Bs.len _) (eqs23 (d + 0) _ _), ⟨by decide, by simp [Bs.len], by simp [Bs.len], _, _, EqP.int (d := d + 1) g3 Try.underlying3 x.len.val y.len.val, rfl, rfl⟩, rfl⟩
  rwa [show (decide (x.a = y.a) && (decide (x.len.val = y.len.val) && true)) = decide (x = y) from (by cases x; cases y; simp [Subtype.ext_iff])] at h
theorem eq36 : EqTy Try.prog 36 (Prefix) Prefix.enc := ⟨fun x y => eqs36 9997 x y, by kernel_rfl⟩
theorem eqs38 (d : Nat) (x y : Pair) : EqA Try.prog (d + 4) 38 x.enc y.enc (decide (x = y)) := by
  have h : EqA Try.prog (d + 4) 38 x.enc y.enc (decide (x.dst = y.dst) && (decide (x.src = y.src) && true)) := EqA.struct (sa := [x.dst.enc, x.src.enc]) (sb := [y.dst.enc, y.src.enc]) Try.underlying38 (by kernel_rfl) ⟨by decide, by simp [Prefix.enc_len], by simp [Prefix.enc_len], _, _, EqP.agg g36 (Prefix.enc_len _) (Prefix.enc_len _) (eqs36 (d + 0) _ _), ⟨by decide, by simp [Prefix.enc_len], by simp [Prefix.enc_len], _, _, EqP.agg g36 (Prefix.enc_len _) (Prefix.enc_len _) (eqs36 (d + 0) _ _), rfl, rfl⟩, rfl⟩
  rwa [show (decide (x.dst = y.dst) && (decide (x.src = y.src) && true)) = decide (x = y) from (by cases x; cases y; simp [Subtype.ext_iff])] at h
theorem eq38 : EqTy Try.prog 38 (Pair) Pair.enc := ⟨fun x y => eqs38 9996 x y, by kernel_rfl⟩
theorem ce3 : CanEnter Try.prog 3 := ⟨_, Try.func3, by kernel_rfl, by kernel_rfl⟩
theorem ce4 : CanEnter Try.prog 4 := ⟨_, Try.func4, by kernel_rfl, by kernel_rfl⟩
theorem ce5 : CanEnter Try.prog 5 := ⟨_, Try.func5, by kernel_rfl, by kernel_rfl⟩
theorem ce6 : CanEnter Try.prog 6 := ⟨_, Try.func6, by kernel_rfl, by kernel_rfl⟩
theorem ce7 : CanEnter Try.prog 7 := ⟨_, Try.func7, by kernel_rfl, by kernel_rfl⟩
theorem ce8 : CanEnter Try.prog 8 := ⟨_, Try.func8, by kernel_rfl, by kernel_rfl⟩
theorem ce9 : CanEnter Try.prog 9 := ⟨_, Try.func9, by kernel_rfl, by kernel_rfl⟩
theorem ce10 : CanEnter Try.prog 10 := ⟨_, Try.func10, by kernel_rfl, by kernel_rfl⟩
theorem ce11 : CanEnter Try.prog 11 := ⟨_, Try.func11, by kernel_rfl, by kernel_rfl⟩
theorem ce12 : CanEnter Try.prog 12 := ⟨_, Try.func12, by kernel_rfl, by kernel_rfl⟩
theorem ce13 : CanEnter Try.prog 13 := ⟨_, Try.func13, by kernel_rfl, by kernel_rfl⟩
theorem ce14 : CanEnter Try.prog 14 := ⟨_, Try.func14, by kernel_rfl, by kernel_rfl⟩
theorem ce15 : CanEnter Try.prog 15 := ⟨_, Try.func15, by kernel_rfl, by kernel_rfl⟩
theorem ce16 : CanEnter Try.prog 16 := ⟨_, Try.func16, by kernel_rfl, by kernel_rfl⟩
theorem ce17 : CanEnter Try.prog 17 := ⟨_, Try.func17, by kernel_rfl, by kernel_rfl⟩
theorem ce18 : CanEnter Try.prog 18 := ⟨_, Try.func18, by kernel_rfl, by kernel_rfl⟩
theorem ce19 : CanEnter Try.prog 19 := ⟨_, Try.func19, by kernel_rfl, by kernel_rfl⟩
theorem ce20 : CanEnter Try.prog 20 := ⟨_, Try.func20, by kernel_rfl, by kernel_rfl⟩
theorem ce21 : CanEnter Try.prog 21 := ⟨_, Try.func21, by kernel_rfl, by kernel_rfl⟩
theorem ce22 : CanEnter Try.prog 22 := ⟨_, Try.func22, by kernel_rfl, by kernel_rfl⟩
theorem ce23 : CanEnter Try.prog 23 := ⟨_, Try.func23, by kernel_rfl, by kernel_rfl⟩
theorem ce24 : CanEnter Try.prog 24 := ⟨_, Try.func24, by kernel_rfl, by kernel_rfl⟩
theorem ce25 : CanEnter Try.prog 25 := ⟨_, Try.func25, by kernel_rfl, by kernel_rfl⟩
theorem ce26 : CanEnter Try.prog 26 := ⟨_, Try.func26, by kernel_rfl, by kernel_rfl⟩
theorem ce27 : CanEnter Try.prog 27 := ⟨_, Try.func27, by kernel_rfl, by kernel_rfl⟩
theorem ce28 : CanEnter Try.prog 28 := ⟨_, Try.func28, by kernel_rfl, by kernel_rfl⟩
theorem ce29 : CanEnter Try.prog 29 := ⟨_, Try.func29, by kernel_rfl, by kernel_rfl⟩
theorem ce30 : CanEnter Try.prog 30 := ⟨_, Try.func30, by kernel_rfl, by kernel_rfl⟩
theorem ce31 : CanEnter Try.prog 31 := ⟨_, Try.func31, by kernel_rfl, by kernel_rfl⟩
theorem ce32 : CanEnter Try.prog 32 := ⟨_, Try.func32, by kernel_rfl, by kernel_rfl⟩
theorem ce33 : CanEnter Try.prog 33 := ⟨_, Try.func33, by kernel_rfl, by kernel_rfl⟩
theorem ce34 : CanEnter Try.prog 34 := ⟨_, Try.func34, by kernel_rfl, by kernel_rfl⟩
theorem ce35 : CanEnter Try.prog 35 := ⟨_, Try.func35, by kernel_rfl, by kernel_rfl⟩
theorem ce36 : CanEnter Try.prog 36 := ⟨_, Try.func36, by kernel_rfl, by kernel_rfl⟩
theorem ce37 : CanEnter Try.prog 37 := ⟨_, Try.func37, by kernel_rfl, by kernel_rfl⟩
theorem ce38 : CanEnter Try.prog 38 := ⟨_, Try.func38, by kernel_rfl, by kernel_rfl⟩
theorem ce39 : CanEnter Try.prog 39 := ⟨_, Try.func39, by kernel_rfl, by kernel_rfl⟩
theorem ce40 : CanEnter Try.prog 40 := ⟨_, Try.func40, by kernel_rfl, by kernel_rfl⟩
theorem ce41 : CanEnter Try.prog 41 := ⟨_, Try.func41, by kernel_rfl, by kernel_rfl⟩
theorem ce42 : CanEnter Try.prog 42 := ⟨_, Try.func42, by kernel_rfl, by kernel_rfl⟩
theorem ce43 : CanEnter Try.prog 43 := ⟨_, Try.func43, by kernel_rfl, by kernel_rfl⟩
theorem ce44 : CanEnter Try.prog 44 := ⟨_, Try.func44, by kernel_rfl, by kernel_rfl⟩
theorem ce45 : CanEnter Try.prog 45 := ⟨_, Try.func45, by kernel_rfl, by kernel_rfl⟩
theorem ce46 : CanEnter Try.prog 46 := ⟨_, Try.func46, by kernel_rfl, by kernel_rfl⟩
theorem ce47 : CanEnter Try.prog 47 := ⟨_, Try.func47, by kernel_rfl, by kernel_rfl⟩
theorem ce48 : CanEnter Try.prog 48 := ⟨_, Try.func48, by kernel_rfl, by kernel_rfl⟩
theorem ce49 : CanEnter Try.prog 49 := ⟨_, Try.func49, by kernel_rfl, by kernel_rfl⟩
theorem ce50 : CanEnter Try.prog 50 := ⟨_, Try.func50, by kernel_rfl, by kernel_rfl⟩
theorem ce51 : CanEnter Try.prog 51 := ⟨_, Try.func51, by kernel_rfl, by kernel_rfl⟩
theorem ce52 : CanEnter Try.prog 52 := ⟨_, Try.func52, by kernel_rfl, by kernel_rfl⟩
theorem ce53 : CanEnter Try.prog 53 := ⟨_, Try.func53, by kernel_rfl, by kernel_rfl⟩
theorem ce54 : CanEnter Try.prog 54 := ⟨_, Try.func54, by kernel_rfl, by kernel_rfl⟩
theorem ce55 : CanEnter Try.prog 55 := ⟨_, Try.func55, by kernel_rfl, by kernel_rfl⟩
theorem ce56 : CanEnter Try.prog 56 := ⟨_, Try.func56, by kernel_rfl, by kernel_rfl⟩
theorem ce57 : CanEnter Try.prog 57 := ⟨_, Try.func57, by kernel_rfl, by kernel_rfl⟩
theorem ce58 : CanEnter Try.prog 58 := ⟨_, Try.func58, by kernel_rfl, by kernel_rfl⟩
theorem ce59 : CanEnter Try.prog 59 := ⟨_, Try.func59, by kernel_rfl, by kernel_rfl⟩
theorem ce60 : CanEnter Try.prog 60 := ⟨_, Try.func60, by kernel_rfl, by kernel_rfl⟩
theorem ce61 : CanEnter Try.prog 61 := ⟨_, Try.func61, by kernel_rfl, by kernel_rfl⟩
theorem ce62 : CanEnter Try.prog 62 := ⟨_, Try.func62, by kernel_rfl, by kernel_rfl⟩
theorem ce63 : CanEnter Try.prog 63 := ⟨_, Try.func63, by kernel_rfl, by kernel_rfl⟩
end Slb
