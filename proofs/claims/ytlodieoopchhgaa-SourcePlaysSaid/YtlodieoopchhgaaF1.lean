/- F1: a part of the proof that a law of this package holds for every input; no condition. -/
import Derived.Test.YtlodieoopchhgaaRows
import Derived.Test.YtlodieoopchhgaaS1
namespace Slb
open Go Go.Proofs
theorem g3 : Sca Try.prog 3 := ⟨fun _ => by kernel_rfl, fun _ => by kernel_rfl⟩
theorem z3 : Sz Try.prog 3 1 := g3.size
theorem zero3 : Zero Try.prog 3 (.int .i64 0) := fun _ => by kernel_rfl
theorem g4 : Sca Try.prog 4 := ⟨fun _ => by kernel_rfl, fun _ => by kernel_rfl⟩
theorem z4 : Sz Try.prog 4 1 := g4.size
theorem zero4 : Zero Try.prog 4 (.bool false) := fun _ => by kernel_rfl
theorem g5 : Sca Try.prog 5 := ⟨fun _ => by kernel_rfl, fun _ => by kernel_rfl⟩
theorem z5 : Sz Try.prog 5 1 := g5.size
theorem zero5 : Zero Try.prog 5 (.int .u8 0) := fun _ => by kernel_rfl
theorem g9 : Sca Try.prog 9 := ⟨fun _ => by kernel_rfl, fun _ => by kernel_rfl⟩
theorem z9 : Sz Try.prog 9 1 := g9.size
theorem zero9 : Zero Try.prog 9 (.string ByteArray.empty) := fun _ => by kernel_rfl
theorem g22 : Sca Try.prog 22 := ⟨fun _ => by kernel_rfl, fun _ => by kernel_rfl⟩
theorem z22 : Sz Try.prog 22 1 := g22.size
theorem zero22 : Zero Try.prog 22 (.slice none 0 0) := fun _ => by kernel_rfl
theorem g24 : Agg Try.prog 24 16 := ⟨fun _ => by kernel_rfl, fun _ => by kernel_rfl⟩
theorem z24 : Sz Try.prog 24 16 := g24.size
theorem zero24 : Zero Try.prog 24 (.agg (Bs.zero 16).enc.toArray) := fun _ => by kernel_rfl
theorem g26 : Agg Try.prog 26 17 := ⟨fun _ => by kernel_rfl, fun _ => by kernel_rfl⟩
theorem z26 : Sz Try.prog 26 17 := g26.size
theorem f26_0 : FieldA Try.prog 26 0 0 := fun _ _ => by kernel_rfl
theorem f26_1 : FieldA Try.prog 26 1 16 := fun _ _ => by kernel_rfl
theorem st26 : StructTy Try.prog 26 Prefix.segs := ⟨fun _ => by kernel_rfl, _, Try.underlying26, fun _ => by kernel_rfl⟩
theorem zero26 : Zero Try.prog 26 (.agg Prefix.zero.enc.toArray) := fun _ => by kernel_rfl
theorem g28 : Agg Try.prog 28 34 := ⟨fun _ => by kernel_rfl, fun _ => by kernel_rfl⟩
theorem z28 : Sz Try.prog 28 34 := g28.size
theorem f28_0 : FieldA Try.prog 28 0 0 := fun _ _ => by kernel_rfl
theorem f28_1 : FieldA Try.prog 28 1 17 := fun _ _ => by kernel_rfl
theorem st28 : StructTy Try.prog 28 Pair.segs := ⟨fun _ => by kernel_rfl, _, Try.underlying28, fun _ => by kernel_rfl⟩
theorem zero28 : Zero Try.prog 28 (.agg Pair.zero.enc.toArray) := fun _ => by kernel_rfl
theorem g30 : Agg Try.prog 30 8 := ⟨fun _ => by kernel_rfl, fun _ => by kernel_rfl⟩
theorem z30 : Sz Try.prog 30 8 := g30.size
theorem zero30 : Zero Try.prog 30 (.agg (Bs.zero 8).enc.toArray) := fun _ => by kernel_rfl
theorem g31 : Sca Try.prog 31 := ⟨fun _ => by kernel_rfl, fun _ => by kernel_rfl⟩
theorem z31 : Sz Try.prog 31 1 := g31.size
theorem zero31 : Zero Try.prog 31 (.int .u16 0) := fun _ => by kernel_rfl
theorem g33 : Agg Try.prog 33 2 := ⟨fun _ => by kernel_rfl, fun _ => by kernel_rfl⟩
theorem z33 : Sz Try.prog 33 2 := g33.size
theorem f33_0 : FieldA Try.prog 33 0 0 := fun _ _ => by kernel_rfl
theorem f33_1 : FieldA Try.prog 33 1 1 := fun _ _ => by kernel_rfl
theorem st33 : StructTy Try.prog 33 Distance.segs := ⟨fun _ => by kernel_rfl, _, Try.underlying33, fun _ => by kernel_rfl⟩
theorem zero33 : Zero Try.prog 33 (.agg Distance.zero.enc.toArray) := fun _ => by kernel_rfl
theorem g36 : Sca Try.prog 36 := ⟨fun _ => by kernel_rfl, fun _ => by kernel_rfl⟩
theorem z36 : Sz Try.prog 36 1 := g36.size
theorem zero36 : Zero Try.prog 36 (.pointer none) := fun _ => by kernel_rfl
theorem g39 : Agg Try.prog 39 46 := ⟨fun _ => by kernel_rfl, fun _ => by kernel_rfl⟩
theorem z39 : Sz Try.prog 39 46 := g39.size
theorem f39_0 : FieldA Try.prog 39 0 0 := fun _ _ => by kernel_rfl
theorem f39_1 : FieldA Try.prog 39 1 1 := fun _ _ => by kernel_rfl
theorem f39_2 : FieldA Try.prog 39 2 2 := fun _ _ => by kernel_rfl
theorem f39_3 : FieldA Try.prog 39 3 36 := fun _ _ => by kernel_rfl
theorem f39_4 : FieldA Try.prog 39 4 44 := fun _ _ => by kernel_rfl
theorem st39 : StructTy Try.prog 39 Law15Act.segs := ⟨fun _ => by kernel_rfl, _, Try.underlying39, fun _ => by kernel_rfl⟩
theorem zero39 : Zero Try.prog 39 (.agg Law15Act.zero.enc.toArray) := fun _ => by kernel_rfl
theorem g40 : Sca Try.prog 40 := ⟨fun _ => by kernel_rfl, fun _ => by kernel_rfl⟩
theorem z40 : Sz Try.prog 40 1 := g40.size
theorem zero40 : Zero Try.prog 40 (.int .i64 0) := fun _ => by kernel_rfl
theorem g42 : Sca Try.prog 42 := ⟨fun _ => by kernel_rfl, fun _ => by kernel_rfl⟩
theorem z42 : Sz Try.prog 42 1 := g42.size
theorem zero42 : Zero Try.prog 42 (.slice none 0 0) := fun _ => by kernel_rfl
theorem g45 : Agg Try.prog 45 45 := ⟨fun _ => by kernel_rfl, fun _ => by kernel_rfl⟩
theorem z45 : Sz Try.prog 45 45 := g45.size
theorem f45_0 : FieldA Try.prog 45 0 0 := fun _ _ => by kernel_rfl
theorem f45_1 : FieldA Try.prog 45 1 34 := fun _ _ => by kernel_rfl
theorem f45_2 : FieldA Try.prog 45 2 42 := fun _ _ => by kernel_rfl
theorem f45_3 : FieldA Try.prog 45 3 44 := fun _ _ => by kernel_rfl
theorem st45 : StructTy Try.prog 45 Source.segs := ⟨fun _ => by kernel_rfl, _, Try.underlying45, fun _ => by kernel_rfl⟩
theorem zero45 : Zero Try.prog 45 (.agg Source.zero.enc.toArray) := fun _ => by kernel_rfl
theorem g54 : Sca Try.prog 54 := ⟨fun _ => by kernel_rfl, fun _ => by kernel_rfl⟩
theorem z54 : Sz Try.prog 54 1 := g54.size
theorem zero54 : Zero Try.prog 54 (.pointer none) := fun _ => by kernel_rfl
theorem g56 : Agg Try.prog 56 2 := ⟨fun _ => by kernel_rfl, fun _ => by kernel_rfl⟩
theorem z56 : Sz Try.prog 56 2 := g56.size
theorem f56_0 : FieldA Try.prog 56 0 0 := fun _ _ => by kernel_rfl
theorem f56_1 : FieldA Try.prog 56 1 1 := fun _ _ => by kernel_rfl
theorem st56 : StructTy Try.prog 56 Ref15Table.segs := ⟨fun _ => by kernel_rfl, _, Try.underlying56, fun _ => by kernel_rfl⟩
theorem zero56 : Zero Try.prog 56 (.agg Ref15Table.zero.enc.toArray) := fun _ => by kernel_rfl
theorem g64 : Sca Try.prog 64 := ⟨fun _ => by kernel_rfl, fun _ => by kernel_rfl⟩
theorem z64 : Sz Try.prog 64 1 := g64.size
theorem zero64 : Zero Try.prog 64 (.map none) := fun _ => by kernel_rfl
theorem g66 : Agg Try.prog 66 2 := ⟨fun _ => by kernel_rfl, fun _ => by kernel_rfl⟩
theorem z66 : Sz Try.prog 66 2 := g66.size
theorem f66_0 : FieldA Try.prog 66 0 0 := fun _ _ => by kernel_rfl
theorem f66_1 : FieldA Try.prog 66 1 1 := fun _ _ => by kernel_rfl
theorem st66 : StructTy Try.prog 66 SourceTable.segs := ⟨fun _ => by kernel_rfl, _, Try.underlying66, fun _ => by kernel_rfl⟩
theorem zero66 : Zero Try.prog 66 (.agg SourceTable.zero.enc.toArray) := fun _ => by kernel_rfl
theorem g67 : Sca Try.prog 67 := ⟨fun _ => by kernel_rfl, fun _ => by kernel_rfl⟩
theorem z67 : Sz Try.prog 67 1 := g67.size
theorem zero67 : Zero Try.prog 67 (.pointer none) := fun _ => by kernel_rfl
theorem g69 : Agg Try.prog 69 42 := ⟨fun _ => by kernel_rfl, fun _ => by kernel_rfl⟩
theorem z69 : Sz Try.prog 69 42 := g69.size
theorem f69_0 : FieldA Try.prog 69 0 0 := fun _ _ => by kernel_rfl
theorem f69_1 : FieldA Try.prog 69 1 34 := fun _ _ => by kernel_rfl
theorem st69 : StructTy Try.prog 69 SourceKey.segs := ⟨fun _ => by kernel_rfl, _, Try.underlying69, fun _ => by kernel_rfl⟩
theorem zero69 : Zero Try.prog 69 (.agg SourceKey.zero.enc.toArray) := fun _ => by kernel_rfl
theorem g71 : Sca Try.prog 71 := ⟨fun _ => by kernel_rfl, fun _ => by kernel_rfl⟩
theorem z71 : Sz Try.prog 71 1 := g71.size
theorem zero71 : Zero Try.prog 71 (.pointer none) := fun _ => by kernel_rfl
theorem g77 : Sca Try.prog 77 := ⟨fun _ => by kernel_rfl, fun _ => by kernel_rfl⟩
theorem z77 : Sz Try.prog 77 1 := g77.size
theorem zero77 : Zero Try.prog 77 (.slice none 0 0) := fun _ => by kernel_rfl
theorem g78 : Sca Try.prog 78 := ⟨fun _ => by kernel_rfl, fun _ => by kernel_rfl⟩
theorem z78 : Sz Try.prog 78 1 := g78.size
theorem zero78 : Zero Try.prog 78 (.nilFunc) := fun _ => by kernel_rfl
theorem g82 : Sca Try.prog 82 := ⟨fun _ => by kernel_rfl, fun _ => by kernel_rfl⟩
theorem z82 : Sz Try.prog 82 1 := g82.size
theorem zero82 : Zero Try.prog 82 (.slice none 0 0) := fun _ => by kernel_rfl
theorem g86 : Sca Try.prog 86 := ⟨fun _ => by kernel_rfl, fun _ => by kernel_rfl⟩
theorem z86 : Sz Try.prog 86 1 := g86.size
theorem zero86 : Zero Try.prog 86 (.int .u64 0) := fun _ => by kernel_rfl
theorem g87 : Sca Try.prog 87 := ⟨fun _ => by kernel_rfl, fun _ => by kernel_rfl⟩
theorem z87 : Sz Try.prog 87 1 := g87.size
theorem zero87 : Zero Try.prog 87 (.slice none 0 0) := fun _ => by kernel_rfl
theorem g92 : Sca Try.prog 92 := ⟨fun _ => by kernel_rfl, fun _ => by kernel_rfl⟩
theorem z92 : Sz Try.prog 92 1 := g92.size
theorem zero92 : Zero Try.prog 92 (.int .i64 0) := fun _ => by kernel_rfl
theorem g99 : Sca Try.prog 99 := ⟨fun _ => by kernel_rfl, fun _ => by kernel_rfl⟩
theorem z99 : Sz Try.prog 99 1 := g99.size
theorem zero99 : Zero Try.prog 99 (.int .u32 0) := fun _ => by kernel_rfl
theorem g101 : Sca Try.prog 101 := ⟨fun _ => by kernel_rfl, fun _ => by kernel_rfl⟩
theorem z101 : Sz Try.prog 101 1 := g101.size
theorem zero101 : Zero Try.prog 101 (.int .u64 0) := fun _ => by kernel_rfl
theorem g103 : Sca Try.prog 103 := ⟨fun _ => by kernel_rfl, fun _ => by kernel_rfl⟩
theorem z103 : Sz Try.prog 103 1 := g103.size
theorem zero103 : Zero Try.prog 103 (.int .u64 0) := fun _ => by kernel_rfl
theorem g107 : Sca Try.prog 107 := ⟨fun _ => by kernel_rfl, fun _ => by kernel_rfl⟩
theorem z107 : Sz Try.prog 107 1 := g107.size
theorem zero107 : Zero Try.prog 107 (.pointer none) := fun _ => by kernel_rfl
theorem g109 : Sca Try.prog 109 := ⟨fun _ => by kernel_rfl, fun _ => by kernel_rfl⟩
theorem z109 : Sz Try.prog 109 1 := g109.size
theorem zero109 : Zero Try.prog 109 (.pointer none) := fun _ => by kernel_rfl
theorem el3 : ElemTy Try.prog 3 1 := .of (by kernel_rfl)
theorem el5 : ElemTy Try.prog 5 1 := .of (by kernel_rfl)
theorem el30 : ElemTy Try.prog 30 8 := .of (by kernel_rfl)
theorem el39 : ElemTy Try.prog 39 46 := .of (by kernel_rfl)
theorem el45 : ElemTy Try.prog 45 45 := .of (by kernel_rfl)
theorem eqs24 (d : Nat) (x y : Bs 16) : EqA Try.prog (d + 2) 24 x.enc y.enc (decide (x = y)) := EqA.bs Try.underlying24 Try.underlying5 (by kernel_rfl) (by kernel_rfl) g5 x y
theorem eqs26 (d : Nat) (x y : Prefix) : EqA Try.prog (d + 3) 26 x.enc y.enc (decide (x = y)) := by
  have h : EqA Try.prog (d + 3) 26 x.enc y.enc (decide (x.a = y.a) && (decide (x.len.val = y.len.val) && true)) := EqA.struct (sa := [x.a.enc, [I64.v x.len]]) (sb := [y.a.enc, [I64.v y.len]]) Try.underlying26 (by kernel_rfl) ⟨by decide, by simp [Bs.len], by simp [Bs.len], _, _, EqP.agg g24 (Bs.len _) (Bs.len _) (eqs24 (d + 0) _ _), ⟨by decide, by simp [Bs.len], by simp [Bs.len], _, _, EqP.int (d := d + 1) g3 Try.underlying3 x.len.val y.len.val, rfl, rfl⟩, rfl⟩
  rwa [show (decide (x.a = y.a) && (decide (x.len.val = y.len.val) && true)) = decide (x = y) from (by cases x; cases y; simp [Subtype.ext_iff])] at h
theorem eqs28 (d : Nat) (x y : Pair) : EqA Try.prog (d + 4) 28 x.enc y.enc (decide (x = y)) := by
  have h : EqA Try.prog (d + 4) 28 x.enc y.enc (decide (x.dst = y.dst) && (decide (x.src = y.src) && true)) := EqA.struct (sa := [x.dst.enc, x.src.enc]) (sb := [y.dst.enc, y.src.enc]) Try.underlying28 (by kernel_rfl) ⟨by decide, by simp [Prefix.enc_len], by simp [Prefix.enc_len], _, _, EqP.agg g26 (Prefix.enc_len _) (Prefix.enc_len _) (eqs26 (d + 0) _ _), ⟨by decide, by simp [Prefix.enc_len], by simp [Prefix.enc_len], _, _, EqP.agg g26 (Prefix.enc_len _) (Prefix.enc_len _) (eqs26 (d + 0) _ _), rfl, rfl⟩, rfl⟩
  rwa [show (decide (x.dst = y.dst) && (decide (x.src = y.src) && true)) = decide (x = y) from (by cases x; cases y; simp [Subtype.ext_iff])] at h
theorem eq28 : EqTy Try.prog 28 (Pair) Pair.enc := ⟨fun x y => eqs28 9996 x y, by kernel_rfl⟩
theorem eqs30 (d : Nat) (x y : Bs 8) : EqA Try.prog (d + 2) 30 x.enc y.enc (decide (x = y)) := EqA.bs Try.underlying30 Try.underlying5 (by kernel_rfl) (by kernel_rfl) g5 x y
theorem eq30 : EqTy Try.prog 30 (Bs 8) Bs.enc := ⟨fun x y => eqs30 9998 x y, by kernel_rfl⟩
theorem eqs33 (d : Nat) (x y : Distance) : EqA Try.prog (d + 2) 33 x.enc y.enc (decide (x = y)) := by
  have h : EqA Try.prog (d + 2) 33 x.enc y.enc (decide (x.seqno = y.seqno) && (decide (x.metric = y.metric) && true)) := EqA.struct (sa := [[.int .u16 x.seqno], [.int .u16 x.metric]]) (sb := [[.int .u16 y.seqno], [.int .u16 y.metric]]) Try.underlying33 (by kernel_rfl) ⟨by decide, by simp , by simp , _, _, EqP.int (d := d + 0) g31 Try.underlying31 x.seqno y.seqno, ⟨by decide, by simp , by simp , _, _, EqP.int (d := d + 0) g31 Try.underlying31 x.metric y.metric, rfl, rfl⟩, rfl⟩
  rwa [show (decide (x.seqno = y.seqno) && (decide (x.metric = y.metric) && true)) = decide (x = y) from (by cases x; cases y; simp [Subtype.ext_iff])] at h
theorem eqs45 (d : Nat) (x y : Source) : EqA Try.prog (d + 5) 45 x.enc y.enc (decide (x = y)) := by
  have h : EqA Try.prog (d + 5) 45 x.enc y.enc (decide (x.pair = y.pair) && (decide (x.id_ = y.id_) && (decide (x.d = y.d) && (decide (x.at_ = y.at_) && true)))) := EqA.struct (sa := [x.pair.enc, x.id_.enc, x.d.enc, [.int .i64 x.at_]]) (sb := [y.pair.enc, y.id_.enc, y.d.enc, [.int .i64 y.at_]]) Try.underlying45 (by kernel_rfl) ⟨by decide, by simp [Bs.len, Distance.enc_len, Pair.enc_len], by simp [Bs.len, Distance.enc_len, Pair.enc_len], _, _, EqP.agg g28 (Pair.enc_len _) (Pair.enc_len _) (eqs28 (d + 0) _ _), ⟨by decide, by simp [Bs.len, Distance.enc_len, Pair.enc_len], by simp [Bs.len, Distance.enc_len, Pair.enc_len], _, _, EqP.agg g30 (Bs.len _) (Bs.len _) (eqs30 (d + 2) _ _), ⟨by decide, by simp [Bs.len, Distance.enc_len, Pair.enc_len], by simp [Bs.len, Distance.enc_len, Pair.enc_len], _, _, EqP.agg g33 (Distance.enc_len _) (Distance.enc_len _) (eqs33 (d + 2) _ _), ⟨by decide, by simp [Bs.len, Distance.enc_len, Pair.enc_len], by simp [Bs.len, Distance.enc_len, Pair.enc_len], _, _, EqP.int (d := d + 3) g3 Try.underlying3 x.at_ y.at_, rfl, rfl⟩, rfl⟩, rfl⟩, rfl⟩
  rwa [show (decide (x.pair = y.pair) && (decide (x.id_ = y.id_) && (decide (x.d = y.d) && (decide (x.at_ = y.at_) && true)))) = decide (x = y) from (by cases x; cases y; simp [Subtype.ext_iff])] at h
theorem eq45 : EqTy Try.prog 45 (Source) Source.enc := ⟨fun x y => eqs45 9995 x y, by kernel_rfl⟩
theorem kl24 (d : Nat) (x : Bs 16) : HasLits Try.prog (d + 2) 24 x.enc := HasLits.bytes Try.underlying24 Try.underlying5 (by kernel_rfl) (by kernel_rfl) x
theorem kl26 (d : Nat) (x : Prefix) : HasLits Try.prog (d + 3) 26 x.enc := HasLits.struct (sa := [x.a.enc, [I64.v x.len]]) Try.underlying26 (by rw [show List.flatten _ = x.enc from rfl, Prefix.enc_len _]; kernel_rfl) (by kernel_rfl) ⟨by simp [Bs.len], by rw [Bs.len _]; kernel_rfl, kl24 (d + 0) _, ⟨by simp [Bs.len], by kernel_rfl, HasLits.i64 (d := d + 1) Try.underlying3 _, trivial⟩⟩
theorem kl28 (d : Nat) (x : Pair) : HasLits Try.prog (d + 4) 28 x.enc := HasLits.struct (sa := [x.dst.enc, x.src.enc]) Try.underlying28 (by rw [show List.flatten _ = x.enc from rfl, Pair.enc_len _]; kernel_rfl) (by kernel_rfl) ⟨by simp [Prefix.enc_len], by rw [Prefix.enc_len _]; kernel_rfl, kl26 (d + 0) _, ⟨by simp [Prefix.enc_len], by rw [Prefix.enc_len _]; kernel_rfl, kl26 (d + 0) _, trivial⟩⟩
theorem kl30 (d : Nat) (x : Bs 8) : HasLits Try.prog (d + 2) 30 x.enc := HasLits.bytes Try.underlying30 Try.underlying5 (by kernel_rfl) (by kernel_rfl) x
theorem kl69 (d : Nat) (x : SourceKey) : HasLits Try.prog (d + 5) 69 x.enc := HasLits.struct (sa := [x.p.enc, x.id_.enc]) Try.underlying69 (by rw [show List.flatten _ = x.enc from rfl, SourceKey.enc_len _]; kernel_rfl) (by kernel_rfl) ⟨by simp [Bs.len, Pair.enc_len], by rw [Pair.enc_len _]; kernel_rfl, kl28 (d + 0) _, ⟨by simp [Bs.len, Pair.enc_len], by rw [Bs.len _]; kernel_rfl, kl30 (d + 2) _, trivial⟩⟩
theorem key69 : KeyTy Try.prog 69 (SourceKey) (fun x => .agg (SourceKey.enc x).toArray) := KeyTy.agg (m := 8) (by kernel_rfl) (by kernel_rfl) (by decide) (by kernel_rfl) (by kernel_rfl) (fun x => by rw [SourceKey.enc_len _]; kernel_rfl) (fun x => by rw [show Try.prog.types.size + 1 = 124 + 5 from by kernel_rfl]; exact kl69 _ x) (fun _ _ e => SourceKey.enc_inj e)
theorem ce3 : CanEnter Try.prog 3 := ⟨_, Try.func3, by kernel_rfl, by kernel_rfl⟩
theorem ce4 : CanEnter Try.prog 4 := ⟨_, Try.func4, by kernel_rfl, by kernel_rfl⟩
theorem ce5 : CanEnter Try.prog 5 := ⟨_, Try.func5, by kernel_rfl, by kernel_rfl⟩
theorem ce6 : CanEnter Try.prog 6 := ⟨_, Try.func6, by kernel_rfl, by kernel_rfl⟩
theorem ce7 : CanEnter Try.prog 7 := ⟨_, Try.func7, by kernel_rfl, by kernel_rfl⟩
theorem ce8 : CanEnter Try.prog 8 := ⟨_, Try.func8, by kernel_rfl, by kernel_rfl⟩
theorem ce9 : CanEnter Try.prog 9 := ⟨_, Try.func9, by kernel_rfl, by kernel_rfl⟩
theorem ce10 : CanEnter Try.prog 10 := ⟨_, Try.func10, by kernel_rfl, by kernel_rfl⟩
theorem ce11 : CanEnter Try.prog 11 := ⟨_, Try.func11, by kernel_rfl, by kernel_rfl⟩
theorem ce12 : CanEnter Try.prog 12 := ⟨_, Try.func12, by kernel_rfl, by kernel_rfl⟩
theorem ce13 : CanEnter Try.prog 13 := ⟨_, Try.func13, by kernel_rfl, by kernel_rfl⟩
theorem ce14 : CanEnter Try.prog 14 := ⟨_, Try.func14, by kernel_rfl, by kernel_rfl⟩
theorem ce15 : CanEnter Try.prog 15 := ⟨_, Try.func15, by kernel_rfl, by kernel_rfl⟩
theorem ce16 : CanEnter Try.prog 16 := ⟨_, Try.func16, by kernel_rfl, by kernel_rfl⟩
theorem ce17 : CanEnter Try.prog 17 := ⟨_, Try.func17, by kernel_rfl, by kernel_rfl⟩
theorem ce18 : CanEnter Try.prog 18 := ⟨_, Try.func18, by kernel_rfl, by kernel_rfl⟩
theorem ce19 : CanEnter Try.prog 19 := ⟨_, Try.func19, by kernel_rfl, by kernel_rfl⟩
theorem ce20 : CanEnter Try.prog 20 := ⟨_, Try.func20, by kernel_rfl, by kernel_rfl⟩
theorem ce21 : CanEnter Try.prog 21 := ⟨_, Try.func21, by kernel_rfl, by kernel_rfl⟩
theorem ce22 : CanEnter Try.prog 22 := ⟨_, Try.func22, by kernel_rfl, by kernel_rfl⟩
theorem ce23 : CanEnter Try.prog 23 := ⟨_, Try.func23, by kernel_rfl, by kernel_rfl⟩
theorem ce24 : CanEnter Try.prog 24 := ⟨_, Try.func24, by kernel_rfl, by kernel_rfl⟩
theorem ce25 : CanEnter Try.prog 25 := ⟨_, Try.func25, by kernel_rfl, by kernel_rfl⟩
theorem ce26 : CanEnter Try.prog 26 := ⟨_, Try.func26, by kernel_rfl, by kernel_rfl⟩
theorem ce27 : CanEnter Try.prog 27 := ⟨_, Try.func27, by kernel_rfl, by kernel_rfl⟩
theorem ce28 : CanEnter Try.prog 28 := ⟨_, Try.func28, by kernel_rfl, by kernel_rfl⟩
theorem ce29 : CanEnter Try.prog 29 := ⟨_, Try.func29, by kernel_rfl, by kernel_rfl⟩
theorem ce30 : CanEnter Try.prog 30 := ⟨_, Try.func30, by kernel_rfl, by kernel_rfl⟩
theorem ce31 : CanEnter Try.prog 31 := ⟨_, Try.func31, by kernel_rfl, by kernel_rfl⟩
theorem ce32 : CanEnter Try.prog 32 := ⟨_, Try.func32, by kernel_rfl, by kernel_rfl⟩
theorem ce33 : CanEnter Try.prog 33 := ⟨_, Try.func33, by kernel_rfl, by kernel_rfl⟩
theorem ce34 : CanEnter Try.prog 34 := ⟨_, Try.func34, by kernel_rfl, by kernel_rfl⟩
theorem ce35 : CanEnter Try.prog 35 := ⟨_, Try.func35, by kernel_rfl, by kernel_rfl⟩
theorem ce36 : CanEnter Try.prog 36 := ⟨_, Try.func36, by kernel_rfl, by kernel_rfl⟩
theorem ce37 : CanEnter Try.prog 37 := ⟨_, Try.func37, by kernel_rfl, by kernel_rfl⟩
theorem ce38 : CanEnter Try.prog 38 := ⟨_, Try.func38, by kernel_rfl, by kernel_rfl⟩
theorem ce39 : CanEnter Try.prog 39 := ⟨_, Try.func39, by kernel_rfl, by kernel_rfl⟩
theorem ce40 : CanEnter Try.prog 40 := ⟨_, Try.func40, by kernel_rfl, by kernel_rfl⟩
theorem ce41 : CanEnter Try.prog 41 := ⟨_, Try.func41, by kernel_rfl, by kernel_rfl⟩
theorem ce42 : CanEnter Try.prog 42 := ⟨_, Try.func42, by kernel_rfl, by kernel_rfl⟩
theorem ce43 : CanEnter Try.prog 43 := ⟨_, Try.func43, by kernel_rfl, by kernel_rfl⟩
theorem ce45 : CanEnter Try.prog 45 := ⟨_, Try.func45, by kernel_rfl, by kernel_rfl⟩
theorem ce46 : CanEnter Try.prog 46 := ⟨_, Try.func46, by kernel_rfl, by kernel_rfl⟩
theorem ce47 : CanEnter Try.prog 47 := ⟨_, Try.func47, by kernel_rfl, by kernel_rfl⟩
theorem ce48 : CanEnter Try.prog 48 := ⟨_, Try.func48, by kernel_rfl, by kernel_rfl⟩
theorem ce49 : CanEnter Try.prog 49 := ⟨_, Try.func49, by kernel_rfl, by kernel_rfl⟩
theorem ce50 : CanEnter Try.prog 50 := ⟨_, Try.func50, by kernel_rfl, by kernel_rfl⟩
theorem ce51 : CanEnter Try.prog 51 := ⟨_, Try.func51, by kernel_rfl, by kernel_rfl⟩
theorem ce52 : CanEnter Try.prog 52 := ⟨_, Try.func52, by kernel_rfl, by kernel_rfl⟩
theorem ce53 : CanEnter Try.prog 53 := ⟨_, Try.func53, by kernel_rfl, by kernel_rfl⟩
theorem ce54 : CanEnter Try.prog 54 := ⟨_, Try.func54, by kernel_rfl, by kernel_rfl⟩
theorem ce55 : CanEnter Try.prog 55 := ⟨_, Try.func55, by kernel_rfl, by kernel_rfl⟩
theorem ce56 : CanEnter Try.prog 56 := ⟨_, Try.func56, by kernel_rfl, by kernel_rfl⟩
theorem ce57 : CanEnter Try.prog 57 := ⟨_, Try.func57, by kernel_rfl, by kernel_rfl⟩
theorem ce58 : CanEnter Try.prog 58 := ⟨_, Try.func58, by kernel_rfl, by kernel_rfl⟩
theorem ce59 : CanEnter Try.prog 59 := ⟨_, Try.func59, by kernel_rfl, by kernel_rfl⟩
theorem ce60 : CanEnter Try.prog 60 := ⟨_, Try.func60, by kernel_rfl, by kernel_rfl⟩
theorem ce61 : CanEnter Try.prog 61 := ⟨_, Try.func61, by kernel_rfl, by kernel_rfl⟩
theorem ce62 : CanEnter Try.prog 62 := ⟨_, Try.func62, by kernel_rfl, by kernel_rfl⟩
theorem ce63 : CanEnter Try.prog 63 := ⟨_, Try.func63, by kernel_rfl, by kernel_rfl⟩
theorem ce64 : CanEnter Try.prog 64 := ⟨_, Try.func64, by kernel_rfl, by kernel_rfl⟩
theorem ce65 : CanEnter Try.prog 65 := ⟨_, Try.func65, by kernel_rfl, by kernel_rfl⟩
theorem ce66 : CanEnter Try.prog 66 := ⟨_, Try.func66, by kernel_rfl, by kernel_rfl⟩
theorem ce67 : CanEnter Try.prog 67 := ⟨_, Try.func67, by kernel_rfl, by kernel_rfl⟩
theorem cmpRow : CmpRow Try.prog 44 := fun _ _ => by kernel_rfl
end Slb
