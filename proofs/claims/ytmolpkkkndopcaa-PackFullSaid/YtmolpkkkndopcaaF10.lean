/- F10: a part of the proof that a law of this package holds for every input; no condition. -/
import Derived.Test.YtmolpkkkndopcaaRows
import Derived.Test.YtmolpkkkndopcaaS10
namespace Slb
open Go Go.Proofs
theorem g1 : Sca Try.prog 1 := ⟨fun _ => by kernel_rfl, fun _ => by kernel_rfl⟩
theorem z1 : Sz Try.prog 1 1 := g1.size
theorem zero1 : Zero Try.prog 1 (.nilFunc) := fun _ => by kernel_rfl
theorem g3 : Sca Try.prog 3 := ⟨fun _ => by kernel_rfl, fun _ => by kernel_rfl⟩
theorem z3 : Sz Try.prog 3 1 := g3.size
theorem zero3 : Zero Try.prog 3 (.int .i64 0) := fun _ => by kernel_rfl
theorem g4 : Sca Try.prog 4 := ⟨fun _ => by kernel_rfl, fun _ => by kernel_rfl⟩
theorem z4 : Sz Try.prog 4 1 := g4.size
theorem zero4 : Zero Try.prog 4 (.bool false) := fun _ => by kernel_rfl
theorem g5 : Sca Try.prog 5 := ⟨fun _ => by kernel_rfl, fun _ => by kernel_rfl⟩
theorem z5 : Sz Try.prog 5 1 := g5.size
theorem zero5 : Zero Try.prog 5 (.int .u8 0) := fun _ => by kernel_rfl
theorem g9 : Sca Try.prog 9 := ⟨fun _ => by kernel_rfl, fun _ => by kernel_rfl⟩
theorem z9 : Sz Try.prog 9 1 := g9.size
theorem zero9 : Zero Try.prog 9 (.string ByteArray.empty) := fun _ => by kernel_rfl
theorem g23 : Agg Try.prog 23 16 := ⟨fun _ => by kernel_rfl, fun _ => by kernel_rfl⟩
theorem z23 : Sz Try.prog 23 16 := g23.size
theorem zero23 : Zero Try.prog 23 (.agg (Bs.zero 16).enc.toArray) := fun _ => by kernel_rfl
theorem g24 : Sca Try.prog 24 := ⟨fun _ => by kernel_rfl, fun _ => by kernel_rfl⟩
theorem z24 : Sz Try.prog 24 1 := g24.size
theorem zero24 : Zero Try.prog 24 (.slice none 0 0) := fun _ => by kernel_rfl
theorem g27 : Sca Try.prog 27 := ⟨fun _ => by kernel_rfl, fun _ => by kernel_rfl⟩
theorem z27 : Sz Try.prog 27 1 := g27.size
theorem zero27 : Zero Try.prog 27 (.slice none 0 0) := fun _ => by kernel_rfl
theorem g28 : Sca Try.prog 28 := ⟨fun _ => by kernel_rfl, fun _ => by kernel_rfl⟩
theorem z28 : Sz Try.prog 28 1 := g28.size
theorem zero28 : Zero Try.prog 28 (.int .i64 0) := fun _ => by kernel_rfl
theorem g34 : Sca Try.prog 34 := ⟨fun _ => by kernel_rfl, fun _ => by kernel_rfl⟩
theorem z34 : Sz Try.prog 34 1 := g34.size
theorem zero34 : Zero Try.prog 34 (.slice none 0 0) := fun _ => by kernel_rfl
theorem g37 : Sca Try.prog 37 := ⟨fun _ => by kernel_rfl, fun _ => by kernel_rfl⟩
theorem z37 : Sz Try.prog 37 1 := g37.size
theorem zero37 : Zero Try.prog 37 (.int .u16 0) := fun _ => by kernel_rfl
theorem g39 : Agg Try.prog 39 8 := ⟨fun _ => by kernel_rfl, fun _ => by kernel_rfl⟩
theorem z39 : Sz Try.prog 39 8 := g39.size
theorem zero39 : Zero Try.prog 39 (.agg (Bs.zero 8).enc.toArray) := fun _ => by kernel_rfl
theorem g41 : Agg Try.prog 41 17 := ⟨fun _ => by kernel_rfl, fun _ => by kernel_rfl⟩
theorem z41 : Sz Try.prog 41 17 := g41.size
theorem f41_0 : FieldA Try.prog 41 0 0 := fun _ _ => by kernel_rfl
theorem f41_1 : FieldA Try.prog 41 1 16 := fun _ _ => by kernel_rfl
theorem st41 : StructTy Try.prog 41 Prefix.segs := ⟨fun _ => by kernel_rfl, _, Try.underlying41, fun _ => by kernel_rfl⟩
theorem zero41 : Zero Try.prog 41 (.agg Prefix.zero.enc.toArray) := fun _ => by kernel_rfl
theorem g43 : Agg Try.prog 43 34 := ⟨fun _ => by kernel_rfl, fun _ => by kernel_rfl⟩
theorem z43 : Sz Try.prog 43 34 := g43.size
theorem f43_0 : FieldA Try.prog 43 0 0 := fun _ _ => by kernel_rfl
theorem f43_1 : FieldA Try.prog 43 1 17 := fun _ _ => by kernel_rfl
theorem st43 : StructTy Try.prog 43 Pair.segs := ⟨fun _ => by kernel_rfl, _, Try.underlying43, fun _ => by kernel_rfl⟩
theorem zero43 : Zero Try.prog 43 (.agg Pair.zero.enc.toArray) := fun _ => by kernel_rfl
theorem g44 : Sca Try.prog 44 := ⟨fun _ => by kernel_rfl, fun _ => by kernel_rfl⟩
theorem z44 : Sz Try.prog 44 1 := g44.size
theorem zero44 : Zero Try.prog 44 (.slice none 0 0) := fun _ => by kernel_rfl
theorem g46 : Agg Try.prog 46 68 := ⟨fun _ => by kernel_rfl, fun _ => by kernel_rfl⟩
theorem z46 : Sz Try.prog 46 68 := g46.size
theorem f46_0 : FieldA Try.prog 46 0 0 := fun _ _ => by kernel_rfl
theorem f46_1 : FieldA Try.prog 46 1 1 := fun _ _ => by kernel_rfl
theorem f46_2 : FieldA Try.prog 46 2 2 := fun _ _ => by kernel_rfl
theorem f46_3 : FieldA Try.prog 46 3 3 := fun _ _ => by kernel_rfl
theorem f46_4 : FieldA Try.prog 46 4 4 := fun _ _ => by kernel_rfl
theorem f46_5 : FieldA Try.prog 46 5 5 := fun _ _ => by kernel_rfl
theorem f46_6 : FieldA Try.prog 46 6 6 := fun _ _ => by kernel_rfl
theorem f46_7 : FieldA Try.prog 46 7 7 := fun _ _ => by kernel_rfl
theorem f46_8 : FieldA Try.prog 46 8 8 := fun _ _ => by kernel_rfl
theorem f46_9 : FieldA Try.prog 46 9 9 := fun _ _ => by kernel_rfl
theorem f46_10 : FieldA Try.prog 46 10 17 := fun _ _ => by kernel_rfl
theorem f46_11 : FieldA Try.prog 46 11 33 := fun _ _ => by kernel_rfl
theorem f46_12 : FieldA Try.prog 46 12 67 := fun _ _ => by kernel_rfl
theorem st46 : StructTy Try.prog 46 Tlv.segs := ⟨fun _ => by kernel_rfl, _, Try.underlying46, fun _ => by kernel_rfl⟩
theorem zero46 : Zero Try.prog 46 (.agg Tlv.zero.enc.toArray) := fun _ => by kernel_rfl
theorem g49 : Sca Try.prog 49 := ⟨fun _ => by kernel_rfl, fun _ => by kernel_rfl⟩
theorem z49 : Sz Try.prog 49 1 := g49.size
theorem zero49 : Zero Try.prog 49 (.pointer none) := fun _ => by kernel_rfl
theorem g56 : Sca Try.prog 56 := ⟨fun _ => by kernel_rfl, fun _ => by kernel_rfl⟩
theorem z56 : Sz Try.prog 56 1 := g56.size
theorem zero56 : Zero Try.prog 56 (.pointer none) := fun _ => by kernel_rfl
theorem g58 : Sca Try.prog 58 := ⟨fun _ => by kernel_rfl, fun _ => by kernel_rfl⟩
theorem z58 : Sz Try.prog 58 1 := g58.size
theorem zero58 : Zero Try.prog 58 (.map none) := fun _ => by kernel_rfl
theorem g59 : Sca Try.prog 59 := ⟨fun _ => by kernel_rfl, fun _ => by kernel_rfl⟩
theorem z59 : Sz Try.prog 59 1 := g59.size
theorem zero59 : Zero Try.prog 59 (.map none) := fun _ => by kernel_rfl
theorem g60 : Sca Try.prog 60 := ⟨fun _ => by kernel_rfl, fun _ => by kernel_rfl⟩
theorem z60 : Sz Try.prog 60 1 := g60.size
theorem zero60 : Zero Try.prog 60 (.pointer none) := fun _ => by kernel_rfl
theorem g62 : Agg Try.prog 62 3 := ⟨fun _ => by kernel_rfl, fun _ => by kernel_rfl⟩
theorem z62 : Sz Try.prog 62 3 := g62.size
theorem f62_0 : FieldA Try.prog 62 0 0 := fun _ _ => by kernel_rfl
theorem f62_1 : FieldA Try.prog 62 1 1 := fun _ _ => by kernel_rfl
theorem f62_2 : FieldA Try.prog 62 2 2 := fun _ _ => by kernel_rfl
theorem st62 : StructTy Try.prog 62 PacketKnown.segs := ⟨fun _ => by kernel_rfl, _, Try.underlying62, fun _ => by kernel_rfl⟩
theorem zero62 : Zero Try.prog 62 (.agg PacketKnown.zero.enc.toArray) := fun _ => by kernel_rfl
theorem g64 : Agg Try.prog 64 3 := ⟨fun _ => by kernel_rfl, fun _ => by kernel_rfl⟩
theorem z64 : Sz Try.prog 64 3 := g64.size
theorem f64_0 : FieldA Try.prog 64 0 0 := fun _ _ => by kernel_rfl
theorem st64 : StructTy Try.prog 64 PacketParser.segs := ⟨fun _ => by kernel_rfl, _, Try.underlying64, fun _ => by kernel_rfl⟩
theorem zero64 : Zero Try.prog 64 (.agg PacketParser.zero.enc.toArray) := fun _ => by kernel_rfl
theorem g65 : Sca Try.prog 65 := ⟨fun _ => by kernel_rfl, fun _ => by kernel_rfl⟩
theorem z65 : Sz Try.prog 65 1 := g65.size
theorem zero65 : Zero Try.prog 65 (.slice none 0 0) := fun _ => by kernel_rfl
theorem g69 : Agg Try.prog 69 2 := ⟨fun _ => by kernel_rfl, fun _ => by kernel_rfl⟩
theorem z69 : Sz Try.prog 69 2 := g69.size
theorem f69_0 : FieldA Try.prog 69 0 0 := fun _ _ => by kernel_rfl
theorem f69_1 : FieldA Try.prog 69 1 1 := fun _ _ => by kernel_rfl
theorem st69 : StructTy Try.prog 69 Raw.segs := ⟨fun _ => by kernel_rfl, _, Try.underlying69, fun _ => by kernel_rfl⟩
theorem zero69 : Zero Try.prog 69 (.agg Raw.zero.enc.toArray) := fun _ => by kernel_rfl
theorem g76 : Agg Try.prog 76 18 := ⟨fun _ => by kernel_rfl, fun _ => by kernel_rfl⟩
theorem z76 : Sz Try.prog 76 18 := g76.size
theorem f76_0 : FieldA Try.prog 76 0 0 := fun _ _ => by kernel_rfl
theorem f76_1 : FieldA Try.prog 76 1 16 := fun _ _ => by kernel_rfl
theorem f76_2 : FieldA Try.prog 76 2 17 := fun _ _ => by kernel_rfl
theorem st76 : StructTy Try.prog 76 PackBuffer.segs := ⟨fun _ => by kernel_rfl, _, Try.underlying76, fun _ => by kernel_rfl⟩
theorem zero76 : Zero Try.prog 76 (.agg PackBuffer.zero.enc.toArray) := fun _ => by kernel_rfl
theorem g79 : Sca Try.prog 79 := ⟨fun _ => by kernel_rfl, fun _ => by kernel_rfl⟩
theorem z79 : Sz Try.prog 79 1 := g79.size
theorem zero79 : Zero Try.prog 79 (.pointer none) := fun _ => by kernel_rfl
theorem g83 : Agg Try.prog 83 32 := ⟨fun _ => by kernel_rfl, fun _ => by kernel_rfl⟩
theorem z83 : Sz Try.prog 83 32 := g83.size
theorem g84 : Agg Try.prog 84 2 := ⟨fun _ => by kernel_rfl, fun _ => by kernel_rfl⟩
theorem z84 : Sz Try.prog 84 2 := g84.size
theorem g86 : Agg Try.prog 86 42 := ⟨fun _ => by kernel_rfl, fun _ => by kernel_rfl⟩
theorem z86 : Sz Try.prog 86 42 := g86.size
theorem f86_0 : FieldA Try.prog 86 0 0 := fun _ _ => by kernel_rfl
theorem f86_1 : FieldA Try.prog 86 1 8 := fun _ _ => by kernel_rfl
theorem f86_2 : FieldA Try.prog 86 2 40 := fun _ _ => by kernel_rfl
theorem g88 : Agg Try.prog 88 43 := ⟨fun _ => by kernel_rfl, fun _ => by kernel_rfl⟩
theorem z88 : Sz Try.prog 88 43 := g88.size
theorem f88_0 : FieldA Try.prog 88 0 0 := fun _ _ => by kernel_rfl
theorem f88_1 : FieldA Try.prog 88 1 42 := fun _ _ => by kernel_rfl
theorem g90 : Sca Try.prog 90 := ⟨fun _ => by kernel_rfl, fun _ => by kernel_rfl⟩
theorem z90 : Sz Try.prog 90 1 := g90.size
theorem zero90 : Zero Try.prog 90 (.pointer none) := fun _ => by kernel_rfl
theorem g98 : Sca Try.prog 98 := ⟨fun _ => by kernel_rfl, fun _ => by kernel_rfl⟩
theorem z98 : Sz Try.prog 98 1 := g98.size
theorem zero98 : Zero Try.prog 98 (.pointer none) := fun _ => by kernel_rfl
theorem g100 : Agg Try.prog 100 70 := ⟨fun _ => by kernel_rfl, fun _ => by kernel_rfl⟩
theorem z100 : Sz Try.prog 100 70 := g100.size
theorem f100_0 : FieldA Try.prog 100 0 0 := fun _ _ => by kernel_rfl
theorem f100_1 : FieldA Try.prog 100 1 1 := fun _ _ => by kernel_rfl
theorem f100_2 : FieldA Try.prog 100 2 69 := fun _ _ => by kernel_rfl
theorem st100 : StructTy Try.prog 100 PacketPiece.segs := ⟨fun _ => by kernel_rfl, _, Try.underlying100, fun _ => by kernel_rfl⟩
theorem zero100 : Zero Try.prog 100 (.agg PacketPiece.zero.enc.toArray) := fun _ => by kernel_rfl
theorem g105 : Sca Try.prog 105 := ⟨fun _ => by kernel_rfl, fun _ => by kernel_rfl⟩
theorem z105 : Sz Try.prog 105 1 := g105.size
theorem zero105 : Zero Try.prog 105 (.int .u32 0) := fun _ => by kernel_rfl
theorem g120 : Agg Try.prog 120 4 := ⟨fun _ => by kernel_rfl, fun _ => by kernel_rfl⟩
theorem z120 : Sz Try.prog 120 4 := g120.size
theorem f120_0 : FieldA Try.prog 120 0 0 := fun _ _ => by kernel_rfl
theorem f120_1 : FieldA Try.prog 120 1 1 := fun _ _ => by kernel_rfl
theorem f120_2 : FieldA Try.prog 120 2 2 := fun _ _ => by kernel_rfl
theorem f120_3 : FieldA Try.prog 120 3 3 := fun _ _ => by kernel_rfl
theorem st120 : StructTy Try.prog 120 OctetReader.segs := ⟨fun _ => by kernel_rfl, _, Try.underlying120, fun _ => by kernel_rfl⟩
theorem zero120 : Zero Try.prog 120 (.agg OctetReader.zero.enc.toArray) := fun _ => by kernel_rfl
theorem g135 : Sca Try.prog 135 := ⟨fun _ => by kernel_rfl, fun _ => by kernel_rfl⟩
theorem z135 : Sz Try.prog 135 1 := g135.size
theorem zero135 : Zero Try.prog 135 (.slice none 0 0) := fun _ => by kernel_rfl
theorem el5 : ElemTy Try.prog 5 1 := .of (by kernel_rfl)
theorem el34 : ElemTy Try.prog 34 1 := .of (by kernel_rfl)
theorem el37 : ElemTy Try.prog 37 1 := .of (by kernel_rfl)
theorem el46 : ElemTy Try.prog 46 68 := .of (by kernel_rfl)
theorem el69 : ElemTy Try.prog 69 2 := .of (by kernel_rfl)
theorem el105 : ElemTy Try.prog 105 1 := .of (by kernel_rfl)
theorem eqs23 (d : Nat) (x y : Bs 16) : EqA Try.prog (d + 2) 23 x.enc y.enc (decide (x = y)) := EqA.bs Try.underlying23 Try.underlying5 (by kernel_rfl) (by kernel_rfl) g5 x y
theorem eq23 : EqTy Try.prog 23 (Bs 16) Bs.enc := ⟨fun x y => eqs23 9998 x y, by kernel_rfl⟩
theorem eqs39 (d : Nat) (x y : Bs 8) : EqA Try.prog (d + 2) 39 x.enc y.enc (decide (x = y)) := EqA.bs Try.underlying39 Try.underlying5 (by kernel_rfl) (by kernel_rfl) g5 x y
theorem eq39 : EqTy Try.prog 39 (Bs 8) Bs.enc := ⟨fun x y => eqs39 9998 x y, by kernel_rfl⟩
theorem eqs41 (d : Nat) (x y : Prefix) : EqA Try.prog (d + 3) 41 x.enc y.enc (decide (x = y)) := by
  have h : EqA Try.prog (d + 3) 41 x.enc y.enc (decide (x.a = y.a) && (decide (x.len.val = y.len.val) && true)) := EqA.struct (sa := [x.a.enc, [I64.v x.len]]) (sb := [y.a.enc, [I64.v y.len]]) Try.underlying41 (by kernel_rfl) ⟨by decide, by simp [Bs.len], by simp [Bs.len], _, _, EqP.agg g23 (Bs.len _) (Bs.len _) (eqs23 (d + 0) _ _), ⟨by decide, by simp [Bs.len], by simp [Bs.len], _, _, EqP.int (d := d + 1) g3 Try.underlying3 x.len.val y.len.val, rfl, rfl⟩, rfl⟩
  rwa [show (decide (x.a = y.a) && (decide (x.len.val = y.len.val) && true)) = decide (x = y) from (by cases x; cases y; simp [Subtype.ext_iff])] at h
theorem eq41 : EqTy Try.prog 41 (Prefix) Prefix.enc := ⟨fun x y => eqs41 9997 x y, by kernel_rfl⟩
theorem eqs43 (d : Nat) (x y : Pair) : EqA Try.prog (d + 4) 43 x.enc y.enc (decide (x = y)) := by
  have h : EqA Try.prog (d + 4) 43 x.enc y.enc (decide (x.dst = y.dst) && (decide (x.src = y.src) && true)) := EqA.struct (sa := [x.dst.enc, x.src.enc]) (sb := [y.dst.enc, y.src.enc]) Try.underlying43 (by kernel_rfl) ⟨by decide, by simp [Prefix.enc_len], by simp [Prefix.enc_len], _, _, EqP.agg g41 (Prefix.enc_len _) (Prefix.enc_len _) (eqs41 (d + 0) _ _), ⟨by decide, by simp [Prefix.enc_len], by simp [Prefix.enc_len], _, _, EqP.agg g41 (Prefix.enc_len _) (Prefix.enc_len _) (eqs41 (d + 0) _ _), rfl, rfl⟩, rfl⟩
  rwa [show (decide (x.dst = y.dst) && (decide (x.src = y.src) && true)) = decide (x = y) from (by cases x; cases y; simp [Subtype.ext_iff])] at h
theorem eq43 : EqTy Try.prog 43 (Pair) Pair.enc := ⟨fun x y => eqs43 9996 x y, by kernel_rfl⟩
theorem ce3 : CanEnter Try.prog 3 := ⟨_, Try.func3, by kernel_rfl, by kernel_rfl⟩
theorem ce4 : CanEnter Try.prog 4 := ⟨_, Try.func4, by kernel_rfl, by kernel_rfl⟩
theorem ce5 : CanEnter Try.prog 5 := ⟨_, Try.func5, by kernel_rfl, by kernel_rfl⟩
theorem ce6 : CanEnter Try.prog 6 := ⟨_, Try.func6, by kernel_rfl, by kernel_rfl⟩
theorem ce7 : CanEnter Try.prog 7 := ⟨_, Try.func7, by kernel_rfl, by kernel_rfl⟩
theorem ce8 : CanEnter Try.prog 8 := ⟨_, Try.func8, by kernel_rfl, by kernel_rfl⟩
theorem ce9 : CanEnter Try.prog 9 := ⟨_, Try.func9, by kernel_rfl, by kernel_rfl⟩
theorem ce10 : CanEnter Try.prog 10 := ⟨_, Try.func10, by kernel_rfl, by kernel_rfl⟩
theorem ce11 : CanEnter Try.prog 11 := ⟨_, Try.func11, by kernel_rfl, by kernel_rfl⟩
theorem ce12 : CanEnter Try.prog 12 := ⟨_, Try.func12, by kernel_rfl, by kernel_rfl⟩
theorem ce13 : CanEnter Try.prog 13 := ⟨_, Try.func13, by kernel_rfl, by kernel_rfl⟩
theorem ce14 : CanEnter Try.prog 14 := ⟨_, Try.func14, by kernel_rfl, by kernel_rfl⟩
theorem ce15 : CanEnter Try.prog 15 := ⟨_, Try.func15, by kernel_rfl, by kernel_rfl⟩
theorem ce16 : CanEnter Try.prog 16 := ⟨_, Try.func16, by kernel_rfl, by kernel_rfl⟩
theorem ce17 : CanEnter Try.prog 17 := ⟨_, Try.func17, by kernel_rfl, by kernel_rfl⟩
theorem ce18 : CanEnter Try.prog 18 := ⟨_, Try.func18, by kernel_rfl, by kernel_rfl⟩
theorem ce19 : CanEnter Try.prog 19 := ⟨_, Try.func19, by kernel_rfl, by kernel_rfl⟩
theorem ce20 : CanEnter Try.prog 20 := ⟨_, Try.func20, by kernel_rfl, by kernel_rfl⟩
theorem ce21 : CanEnter Try.prog 21 := ⟨_, Try.func21, by kernel_rfl, by kernel_rfl⟩
theorem ce22 : CanEnter Try.prog 22 := ⟨_, Try.func22, by kernel_rfl, by kernel_rfl⟩
theorem ce23 : CanEnter Try.prog 23 := ⟨_, Try.func23, by kernel_rfl, by kernel_rfl⟩
theorem ce24 : CanEnter Try.prog 24 := ⟨_, Try.func24, by kernel_rfl, by kernel_rfl⟩
theorem ce25 : CanEnter Try.prog 25 := ⟨_, Try.func25, by kernel_rfl, by kernel_rfl⟩
theorem ce26 : CanEnter Try.prog 26 := ⟨_, Try.func26, by kernel_rfl, by kernel_rfl⟩
theorem ce27 : CanEnter Try.prog 27 := ⟨_, Try.func27, by kernel_rfl, by kernel_rfl⟩
theorem ce28 : CanEnter Try.prog 28 := ⟨_, Try.func28, by kernel_rfl, by kernel_rfl⟩
theorem ce29 : CanEnter Try.prog 29 := ⟨_, Try.func29, by kernel_rfl, by kernel_rfl⟩
theorem ce30 : CanEnter Try.prog 30 := ⟨_, Try.func30, by kernel_rfl, by kernel_rfl⟩
theorem ce31 : CanEnter Try.prog 31 := ⟨_, Try.func31, by kernel_rfl, by kernel_rfl⟩
theorem ce32 : CanEnter Try.prog 32 := ⟨_, Try.func32, by kernel_rfl, by kernel_rfl⟩
theorem ce33 : CanEnter Try.prog 33 := ⟨_, Try.func33, by kernel_rfl, by kernel_rfl⟩
theorem ce34 : CanEnter Try.prog 34 := ⟨_, Try.func34, by kernel_rfl, by kernel_rfl⟩
theorem ce35 : CanEnter Try.prog 35 := ⟨_, Try.func35, by kernel_rfl, by kernel_rfl⟩
theorem ce36 : CanEnter Try.prog 36 := ⟨_, Try.func36, by kernel_rfl, by kernel_rfl⟩
theorem ce37 : CanEnter Try.prog 37 := ⟨_, Try.func37, by kernel_rfl, by kernel_rfl⟩
theorem ce38 : CanEnter Try.prog 38 := ⟨_, Try.func38, by kernel_rfl, by kernel_rfl⟩
theorem ce39 : CanEnter Try.prog 39 := ⟨_, Try.func39, by kernel_rfl, by kernel_rfl⟩
theorem ce40 : CanEnter Try.prog 40 := ⟨_, Try.func40, by kernel_rfl, by kernel_rfl⟩
theorem ce41 : CanEnter Try.prog 41 := ⟨_, Try.func41, by kernel_rfl, by kernel_rfl⟩
theorem ce42 : CanEnter Try.prog 42 := ⟨_, Try.func42, by kernel_rfl, by kernel_rfl⟩
theorem ce43 : CanEnter Try.prog 43 := ⟨_, Try.func43, by kernel_rfl, by kernel_rfl⟩
theorem ce44 : CanEnter Try.prog 44 := ⟨_, Try.func44, by kernel_rfl, by kernel_rfl⟩
theorem ce45 : CanEnter Try.prog 45 := ⟨_, Try.func45, by kernel_rfl, by kernel_rfl⟩
theorem ce46 : CanEnter Try.prog 46 := ⟨_, Try.func46, by kernel_rfl, by kernel_rfl⟩
theorem ce47 : CanEnter Try.prog 47 := ⟨_, Try.func47, by kernel_rfl, by kernel_rfl⟩
theorem ce48 : CanEnter Try.prog 48 := ⟨_, Try.func48, by kernel_rfl, by kernel_rfl⟩
theorem ce49 : CanEnter Try.prog 49 := ⟨_, Try.func49, by kernel_rfl, by kernel_rfl⟩
theorem ce50 : CanEnter Try.prog 50 := ⟨_, Try.func50, by kernel_rfl, by kernel_rfl⟩
theorem ce51 : CanEnter Try.prog 51 := ⟨_, Try.func51, by kernel_rfl, by kernel_rfl⟩
theorem ce52 : CanEnter Try.prog 52 := ⟨_, Try.func52, by kernel_rfl, by kernel_rfl⟩
theorem ce53 : CanEnter Try.prog 53 := ⟨_, Try.func53, by kernel_rfl, by kernel_rfl⟩
theorem ce54 : CanEnter Try.prog 54 := ⟨_, Try.func54, by kernel_rfl, by kernel_rfl⟩
theorem ce55 : CanEnter Try.prog 55 := ⟨_, Try.func55, by kernel_rfl, by kernel_rfl⟩
theorem ce56 : CanEnter Try.prog 56 := ⟨_, Try.func56, by kernel_rfl, by kernel_rfl⟩
theorem ce57 : CanEnter Try.prog 57 := ⟨_, Try.func57, by kernel_rfl, by kernel_rfl⟩
theorem ce58 : CanEnter Try.prog 58 := ⟨_, Try.func58, by kernel_rfl, by kernel_rfl⟩
theorem ce59 : CanEnter Try.prog 59 := ⟨_, Try.func59, by kernel_rfl, by kernel_rfl⟩
theorem ce60 : CanEnter Try.prog 60 := ⟨_, Try.func60, by kernel_rfl, by kernel_rfl⟩
theorem ce61 : CanEnter Try.prog 61 := ⟨_, Try.func61, by kernel_rfl, by kernel_rfl⟩
theorem ce62 : CanEnter Try.prog 62 := ⟨_, Try.func62, by kernel_rfl, by kernel_rfl⟩
theorem ce63 : CanEnter Try.prog 63 := ⟨_, Try.func63, by kernel_rfl, by kernel_rfl⟩
theorem ce64 : CanEnter Try.prog 64 := ⟨_, Try.func64, by kernel_rfl, by kernel_rfl⟩
theorem ce65 : CanEnter Try.prog 65 := ⟨_, Try.func65, by kernel_rfl, by kernel_rfl⟩
theorem ce66 : CanEnter Try.prog 66 := ⟨_, Try.func66, by kernel_rfl, by kernel_rfl⟩
theorem ce67 : CanEnter Try.prog 67 := ⟨_, Try.func67, by kernel_rfl, by kernel_rfl⟩
theorem ce68 : CanEnter Try.prog 68 := ⟨_, Try.func68, by kernel_rfl, by kernel_rfl⟩
theorem ce69 : CanEnter Try.prog 69 := ⟨_, Try.func69, by kernel_rfl, by kernel_rfl⟩
theorem ce70 : CanEnter Try.prog 70 := ⟨_, Try.func70, by kernel_rfl, by kernel_rfl⟩
theorem ce71 : CanEnter Try.prog 71 := ⟨_, Try.func71, by kernel_rfl, by kernel_rfl⟩
theorem ce72 : CanEnter Try.prog 72 := ⟨_, Try.func72, by kernel_rfl, by kernel_rfl⟩
theorem ce73 : CanEnter Try.prog 73 := ⟨_, Try.func73, by kernel_rfl, by kernel_rfl⟩
theorem ce74 : CanEnter Try.prog 74 := ⟨_, Try.func74, by kernel_rfl, by kernel_rfl⟩
theorem ce75 : CanEnter Try.prog 75 := ⟨_, Try.func75, by kernel_rfl, by kernel_rfl⟩
theorem ce76 : CanEnter Try.prog 76 := ⟨_, Try.func76, by kernel_rfl, by kernel_rfl⟩
end Slb
