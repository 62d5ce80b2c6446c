/- F12: a part of the proof that a law of this package holds for every input; no condition. -/
import Derived.Test.YtfokodhfjdhdaaaRows
import Derived.Test.YtfokodhfjdhdaaaS12
namespace Slb
open Go Go.Proofs
theorem g1 : Sca Try.prog 1 := ⟨fun _ => by kernel_rfl, fun _ => by kernel_rfl⟩
theorem g3 : Sca Try.prog 3 := ⟨fun _ => by kernel_rfl, fun _ => by kernel_rfl⟩
theorem z3 : Sz Try.prog 3 1 := g3.size
theorem g4 : Sca Try.prog 4 := ⟨fun _ => by kernel_rfl, fun _ => by kernel_rfl⟩
theorem z4 : Sz Try.prog 4 1 := g4.size
theorem g5 : Sca Try.prog 5 := ⟨fun _ => by kernel_rfl, fun _ => by kernel_rfl⟩
theorem z5 : Sz Try.prog 5 1 := g5.size
theorem zero5 : Zero Try.prog 5 (.int .u8 0) := fun _ => by kernel_rfl
theorem g9 : Sca Try.prog 9 := ⟨fun _ => by kernel_rfl, fun _ => by kernel_rfl⟩
theorem z9 : Sz Try.prog 9 1 := g9.size
theorem g23 : Agg Try.prog 23 16 := ⟨fun _ => by kernel_rfl, fun _ => by kernel_rfl⟩
theorem z23 : Sz Try.prog 23 16 := g23.size
theorem zero23 : Zero Try.prog 23 (.agg (Bs.zero 16).enc.toArray) := fun _ => by kernel_rfl
theorem g25 : Agg Try.prog 25 5 := ⟨fun _ => by kernel_rfl, fun _ => by kernel_rfl⟩
theorem z25 : Sz Try.prog 25 5 := g25.size
theorem f25_0 : FieldA Try.prog 25 0 0 := fun _ _ => by kernel_rfl
theorem f25_1 : FieldA Try.prog 25 1 1 := fun _ _ => by kernel_rfl
theorem f25_2 : FieldA Try.prog 25 2 2 := fun _ _ => by kernel_rfl
theorem f25_3 : FieldA Try.prog 25 3 3 := fun _ _ => by kernel_rfl
theorem f25_4 : FieldA Try.prog 25 4 4 := fun _ _ => by kernel_rfl
theorem st25 : StructTy Try.prog 25 Rtt.segs := ⟨fun _ => by kernel_rfl, _, Try.underlying25, fun _ => by kernel_rfl⟩
theorem zero25 : Zero Try.prog 25 (.agg Rtt.zero.enc.toArray) := fun _ => by kernel_rfl
theorem g27 : Agg Try.prog 27 43 := ⟨fun _ => by kernel_rfl, fun _ => by kernel_rfl⟩
theorem z27 : Sz Try.prog 27 43 := g27.size
theorem f27_0 : FieldA Try.prog 27 0 0 := fun _ _ => by kernel_rfl
theorem f27_1 : FieldA Try.prog 27 1 1 := fun _ _ => by kernel_rfl
theorem f27_2 : FieldA Try.prog 27 2 2 := fun _ _ => by kernel_rfl
theorem f27_3 : FieldA Try.prog 27 3 3 := fun _ _ => by kernel_rfl
theorem f27_4 : FieldA Try.prog 27 4 4 := fun _ _ => by kernel_rfl
theorem f27_5 : FieldA Try.prog 27 5 5 := fun _ _ => by kernel_rfl
theorem f27_6 : FieldA Try.prog 27 6 6 := fun _ _ => by kernel_rfl
theorem f27_7 : FieldA Try.prog 27 7 22 := fun _ _ => by kernel_rfl
theorem f27_8 : FieldA Try.prog 27 8 38 := fun _ _ => by kernel_rfl
theorem st27 : StructTy Try.prog 27 IfConf.segs := ⟨fun _ => by kernel_rfl, _, Try.underlying27, fun _ => by kernel_rfl⟩
theorem zero27 : Zero Try.prog 27 (.agg IfConf.zero.enc.toArray) := fun _ => by kernel_rfl
theorem g29 : Sca Try.prog 29 := ⟨fun _ => by kernel_rfl, fun _ => by kernel_rfl⟩
theorem g37 : Sca Try.prog 37 := ⟨fun _ => by kernel_rfl, fun _ => by kernel_rfl⟩
theorem z37 : Sz Try.prog 37 1 := g37.size
theorem zero37 : Zero Try.prog 37 (.int .u16 0) := fun _ => by kernel_rfl
theorem g39 : Agg Try.prog 39 8 := ⟨fun _ => by kernel_rfl, fun _ => by kernel_rfl⟩
theorem z39 : Sz Try.prog 39 8 := g39.size
theorem g41 : Agg Try.prog 41 17 := ⟨fun _ => by kernel_rfl, fun _ => by kernel_rfl⟩
theorem z41 : Sz Try.prog 41 17 := g41.size
theorem f41_0 : FieldA Try.prog 41 0 0 := fun _ _ => by kernel_rfl
theorem f41_1 : FieldA Try.prog 41 1 16 := fun _ _ => by kernel_rfl
theorem st41 : StructTy Try.prog 41 Prefix.segs := ⟨fun _ => by kernel_rfl, _, Try.underlying41, fun _ => by kernel_rfl⟩
theorem zero41 : Zero Try.prog 41 (.agg Prefix.zero.enc.toArray) := fun _ => by kernel_rfl
theorem g43 : Agg Try.prog 43 34 := ⟨fun _ => by kernel_rfl, fun _ => by kernel_rfl⟩
theorem z43 : Sz Try.prog 43 34 := g43.size
theorem f43_0 : FieldA Try.prog 43 0 0 := fun _ _ => by kernel_rfl
theorem f43_1 : FieldA Try.prog 43 1 17 := fun _ _ => by kernel_rfl
theorem g44 : Sca Try.prog 44 := ⟨fun _ => by kernel_rfl, fun _ => by kernel_rfl⟩
theorem z44 : Sz Try.prog 44 1 := g44.size
theorem g46 : Agg Try.prog 46 68 := ⟨fun _ => by kernel_rfl, fun _ => by kernel_rfl⟩
theorem z46 : Sz Try.prog 46 68 := g46.size
theorem f46_0 : FieldA Try.prog 46 0 0 := fun _ _ => by kernel_rfl
theorem f46_1 : FieldA Try.prog 46 1 1 := fun _ _ => by kernel_rfl
theorem f46_2 : FieldA Try.prog 46 2 2 := fun _ _ => by kernel_rfl
theorem f46_3 : FieldA Try.prog 46 3 3 := fun _ _ => by kernel_rfl
theorem f46_4 : FieldA Try.prog 46 4 4 := fun _ _ => by kernel_rfl
theorem f46_5 : FieldA Try.prog 46 5 5 := fun _ _ => by kernel_rfl
theorem f46_6 : FieldA Try.prog 46 6 6 := fun _ _ => by kernel_rfl
theorem f46_7 : FieldA Try.prog 46 7 7 := fun _ _ => by kernel_rfl
theorem f46_8 : FieldA Try.prog 46 8 8 := fun _ _ => by kernel_rfl
theorem f46_9 : FieldA Try.prog 46 9 9 := fun _ _ => by kernel_rfl
theorem f46_10 : FieldA Try.prog 46 10 17 := fun _ _ => by kernel_rfl
theorem f46_11 : FieldA Try.prog 46 11 33 := fun _ _ => by kernel_rfl
theorem f46_12 : FieldA Try.prog 46 12 67 := fun _ _ => by kernel_rfl
theorem st46 : StructTy Try.prog 46 Tlv.segs := ⟨fun _ => by kernel_rfl, _, Try.underlying46, fun _ => by kernel_rfl⟩
theorem zero46 : Zero Try.prog 46 (.agg Tlv.zero.enc.toArray) := fun _ => by kernel_rfl
theorem g50 : Sca Try.prog 50 := ⟨fun _ => by kernel_rfl, fun _ => by kernel_rfl⟩
theorem z50 : Sz Try.prog 50 1 := g50.size
theorem zero50 : Zero Try.prog 50 (.slice none 0 0) := fun _ => by kernel_rfl
theorem g52 : Agg Try.prog 52 18 := ⟨fun _ => by kernel_rfl, fun _ => by kernel_rfl⟩
theorem z52 : Sz Try.prog 52 18 := g52.size
theorem f52_0 : FieldA Try.prog 52 0 0 := fun _ _ => by kernel_rfl
theorem f52_1 : FieldA Try.prog 52 1 1 := fun _ _ => by kernel_rfl
theorem f52_2 : FieldA Try.prog 52 2 17 := fun _ _ => by kernel_rfl
theorem st52 : StructTy Try.prog 52 Sent.segs := ⟨fun _ => by kernel_rfl, _, Try.underlying52, fun _ => by kernel_rfl⟩
theorem zero52 : Zero Try.prog 52 (.agg Sent.zero.enc.toArray) := fun _ => by kernel_rfl
theorem g65 : Sca Try.prog 65 := ⟨fun _ => by kernel_rfl, fun _ => by kernel_rfl⟩
theorem g66 : Sca Try.prog 66 := ⟨fun _ => by kernel_rfl, fun _ => by kernel_rfl⟩
theorem z66 : Sz Try.prog 66 1 := g66.size
theorem g68 : Agg Try.prog 68 15 := ⟨fun _ => by kernel_rfl, fun _ => by kernel_rfl⟩
theorem z68 : Sz Try.prog 68 15 := g68.size
theorem f68_0 : FieldA Try.prog 68 0 0 := fun _ _ => by kernel_rfl
theorem f68_1 : FieldA Try.prog 68 1 8 := fun _ _ => by kernel_rfl
theorem f68_2 : FieldA Try.prog 68 2 9 := fun _ _ => by kernel_rfl
theorem f68_3 : FieldA Try.prog 68 3 10 := fun _ _ => by kernel_rfl
theorem f68_4 : FieldA Try.prog 68 4 11 := fun _ _ => by kernel_rfl
theorem f68_5 : FieldA Try.prog 68 5 12 := fun _ _ => by kernel_rfl
theorem f68_6 : FieldA Try.prog 68 6 13 := fun _ _ => by kernel_rfl
theorem f68_7 : FieldA Try.prog 68 7 14 := fun _ _ => by kernel_rfl
theorem st68 : StructTy Try.prog 68 Config.segs := ⟨fun _ => by kernel_rfl, _, Try.underlying68, fun _ => by kernel_rfl⟩
theorem zero68 : Zero Try.prog 68 (.agg Config.zero.enc.toArray) := fun _ => by kernel_rfl
theorem g70 : Sca Try.prog 70 := ⟨fun _ => by kernel_rfl, fun _ => by kernel_rfl⟩
theorem z70 : Sz Try.prog 70 1 := g70.size
theorem f72_0 : FieldA Try.prog 72 0 0 := fun _ _ => by kernel_rfl
theorem st72 : StructTy Try.prog 72 IfaceSet.segs := ⟨fun _ => by kernel_rfl, _, Try.underlying72, fun _ => by kernel_rfl⟩
theorem g73 : Sca Try.prog 73 := ⟨fun _ => by kernel_rfl, fun _ => by kernel_rfl⟩
theorem z73 : Sz Try.prog 73 1 := g73.size
theorem zero73 : Zero Try.prog 73 (.pointer none) := fun _ => by kernel_rfl
theorem g74 : Sca Try.prog 74 := ⟨fun _ => by kernel_rfl, fun _ => by kernel_rfl⟩
theorem z74 : Sz Try.prog 74 1 := g74.size
theorem g76 : Agg Try.prog 76 46 := ⟨fun _ => by kernel_rfl, fun _ => by kernel_rfl⟩
theorem z76 : Sz Try.prog 76 46 := g76.size
theorem f76_0 : FieldA Try.prog 76 0 0 := fun _ _ => by kernel_rfl
theorem f76_1 : FieldA Try.prog 76 1 43 := fun _ _ => by kernel_rfl
theorem f76_2 : FieldA Try.prog 76 2 44 := fun _ _ => by kernel_rfl
theorem f76_3 : FieldA Try.prog 76 3 45 := fun _ _ => by kernel_rfl
theorem st76 : StructTy Try.prog 76 IfaceOne.segs := ⟨fun _ => by kernel_rfl, _, Try.underlying76, fun _ => by kernel_rfl⟩
theorem g78 : Sca Try.prog 78 := ⟨fun _ => by kernel_rfl, fun _ => by kernel_rfl⟩
theorem z78 : Sz Try.prog 78 1 := g78.size
theorem zero81 : Zero Try.prog 81 (.pointer none) := fun _ => by kernel_rfl
theorem g86 : Sca Try.prog 86 := ⟨fun _ => by kernel_rfl, fun _ => by kernel_rfl⟩
theorem z86 : Sz Try.prog 86 1 := g86.size
theorem g92 : Sca Try.prog 92 := ⟨fun _ => by kernel_rfl, fun _ => by kernel_rfl⟩
theorem z92 : Sz Try.prog 92 1 := g92.size
theorem zero92 : Zero Try.prog 92 (.slice none 0 0) := fun _ => by kernel_rfl
theorem g94 : Sca Try.prog 94 := ⟨fun _ => by kernel_rfl, fun _ => by kernel_rfl⟩
theorem z94 : Sz Try.prog 94 1 := g94.size
theorem zero94 : Zero Try.prog 94 (.int .u32 0) := fun _ => by kernel_rfl
theorem f108_0 : FieldA Try.prog 108 0 0 := fun _ _ => by kernel_rfl
theorem f108_1 : FieldA Try.prog 108 1 16 := fun _ _ => by kernel_rfl
theorem f108_2 : FieldA Try.prog 108 2 17 := fun _ _ => by kernel_rfl
theorem st108 : StructTy Try.prog 108 PackBuffer.segs := ⟨fun _ => by kernel_rfl, _, Try.underlying108, fun _ => by kernel_rfl⟩
theorem g114 : Sca Try.prog 114 := ⟨fun _ => by kernel_rfl, fun _ => by kernel_rfl⟩
theorem z114 : Sz Try.prog 114 1 := g114.size
theorem zero114 : Zero Try.prog 114 (.pointer none) := fun _ => by kernel_rfl
theorem g121 : Agg Try.prog 121 42 := ⟨fun _ => by kernel_rfl, fun _ => by kernel_rfl⟩
theorem z121 : Sz Try.prog 121 42 := g121.size
theorem f121_0 : FieldA Try.prog 121 0 0 := fun _ _ => by kernel_rfl
theorem f121_1 : FieldA Try.prog 121 1 8 := fun _ _ => by kernel_rfl
theorem f121_2 : FieldA Try.prog 121 2 40 := fun _ _ => by kernel_rfl
theorem f123_0 : FieldA Try.prog 123 0 0 := fun _ _ => by kernel_rfl
theorem f123_1 : FieldA Try.prog 123 1 42 := fun _ _ => by kernel_rfl
theorem g161 : Agg Try.prog 161 2 := ⟨fun _ => by kernel_rfl, fun _ => by kernel_rfl⟩
theorem z161 : Sz Try.prog 161 2 := g161.size
theorem f161_0 : FieldA Try.prog 161 0 0 := fun _ _ => by kernel_rfl
theorem f161_1 : FieldA Try.prog 161 1 1 := fun _ _ => by kernel_rfl
theorem st161 : StructTy Try.prog 161 Raw.segs := ⟨fun _ => by kernel_rfl, _, Try.underlying161, fun _ => by kernel_rfl⟩
theorem zero161 : Zero Try.prog 161 (.agg Raw.zero.enc.toArray) := fun _ => by kernel_rfl
theorem el5 : ElemTy Try.prog 5 1 := .of (by kernel_rfl)
theorem el23 : ElemTy Try.prog 23 16 := .of (by kernel_rfl)
theorem el46 : ElemTy Try.prog 46 68 := .of (by kernel_rfl)
theorem el50 : ElemTy Try.prog 50 1 := .of (by kernel_rfl)
theorem el52 : ElemTy Try.prog 52 18 := .of (by kernel_rfl)
theorem el73 : ElemTy Try.prog 73 1 := .of (by kernel_rfl)
theorem el94 : ElemTy Try.prog 94 1 := .of (by kernel_rfl)
theorem eqs23 (d : Nat) (x y : Bs 16) : EqA Try.prog (d + 2) 23 x.enc y.enc (decide (x = y)) := EqA.bs Try.underlying23 Try.underlying5 (by kernel_rfl) (by kernel_rfl) g5 x y
theorem eq23 : EqTy Try.prog 23 (Bs 16) Bs.enc := ⟨fun x y => eqs23 9998 x y, by kernel_rfl⟩
theorem eqs25 (d : Nat) (x y : Rtt) : EqA Try.prog (d + 2) 25 x.enc y.enc (decide (x = y)) := by
  have h : EqA Try.prog (d + 2) 25 x.enc y.enc (decide (x.on_ = y.on_) && (decide (x.min = y.min) && (decide (x.max = y.max) && (decide (x.cost = y.cost) && (decide (x.decay = y.decay) && true))))) := EqA.struct (sa := [[.bool x.on_], [.int .i64 x.min], [.int .i64 x.max], [.int .i64 x.cost], [.int .i64 x.decay]]) (sb := [[.bool y.on_], [.int .i64 y.min], [.int .i64 y.max], [.int .i64 y.cost], [.int .i64 y.decay]]) Try.underlying25 (by kernel_rfl) ⟨by decide, by simp , by simp , _, _, EqP.bool (d := d + 0) g4 Try.underlying4 x.on_ y.on_, ⟨by decide, by simp , by simp , _, _, EqP.int (d := d + 0) g3 Try.underlying3 x.min y.min, ⟨by decide, by simp , by simp , _, _, EqP.int (d := d + 0) g3 Try.underlying3 x.max y.max, ⟨by decide, by simp , by simp , _, _, EqP.int (d := d + 0) g3 Try.underlying3 x.cost y.cost, ⟨by decide, by simp , by simp , _, _, EqP.int (d := d + 0) g3 Try.underlying3 x.decay y.decay, rfl, rfl⟩, rfl⟩, rfl⟩, rfl⟩, rfl⟩
  rwa [show (decide (x.on_ = y.on_) && (decide (x.min = y.min) && (decide (x.max = y.max) && (decide (x.cost = y.cost) && (decide (x.decay = y.decay) && true))))) = decide (x = y) from (by cases x; cases y; simp [Subtype.ext_iff])] at h
theorem eq25 : EqTy Try.prog 25 (Rtt) Rtt.enc := ⟨fun x y => eqs25 9998 x y, by kernel_rfl⟩
theorem eqs39 (d : Nat) (x y : Bs 8) : EqA Try.prog (d + 2) 39 x.enc y.enc (decide (x = y)) := EqA.bs Try.underlying39 Try.underlying5 (by kernel_rfl) (by kernel_rfl) g5 x y
theorem eq39 : EqTy Try.prog 39 (Bs 8) Bs.enc := ⟨fun x y => eqs39 9998 x y, by kernel_rfl⟩
theorem eqs41 (d : Nat) (x y : Prefix) : EqA Try.prog (d + 3) 41 x.enc y.enc (decide (x = y)) := by
  have h : EqA Try.prog (d + 3) 41 x.enc y.enc (decide (x.a = y.a) && (decide (x.len.val = y.len.val) && true)) := EqA.struct (sa := [x.a.enc, [I64.v x.len]]) (sb := [y.a.enc, [I64.v y.len]]) Try.underlying41 (by kernel_rfl) ⟨by decide, by simp [Bs.len], by simp [Bs.len], _, _, EqP.agg g23 (Bs.len _) (Bs.len _) (eqs23 (d + 0) _ _), ⟨by decide, by simp [Bs.len], by simp [Bs.len], _, _, EqP.int (d := d + 1) g3 Try.underlying3 x.len.val y.len.val, rfl, rfl⟩, rfl⟩
  rwa [show (decide (x.a = y.a) && (decide (x.len.val = y.len.val) && true)) = decide (x = y) from (by cases x; cases y; simp [Subtype.ext_iff])] at h
theorem eq41 : EqTy Try.prog 41 (Prefix) Prefix.enc := ⟨fun x y => eqs41 9997 x y, by kernel_rfl⟩
theorem eqs43 (d : Nat) (x y : Pair) : EqA Try.prog (d + 4) 43 x.enc y.enc (decide (x = y)) := by
  have h : EqA Try.prog (d + 4) 43 x.enc y.enc (decide (x.dst = y.dst) && (decide (x.src = y.src) && true)) := EqA.struct (sa := [x.dst.enc, x.src.enc]) (sb := [y.dst.enc, y.src.enc]) Try.underlying43 (by kernel_rfl) ⟨by decide, by simp [Prefix.enc_len], by simp [Prefix.enc_len], _, _, EqP.agg g41 (Prefix.enc_len _) (Prefix.enc_len _) (eqs41 (d + 0) _ _), ⟨by decide, by simp [Prefix.enc_len], by simp [Prefix.enc_len], _, _, EqP.agg g41 (Prefix.enc_len _) (Prefix.enc_len _) (eqs41 (d + 0) _ _), rfl, rfl⟩, rfl⟩
  rwa [show (decide (x.dst = y.dst) && (decide (x.src = y.src) && true)) = decide (x = y) from (by cases x; cases y; simp [Subtype.ext_iff])] at h
theorem eq43 : EqTy Try.prog 43 (Pair) Pair.enc := ⟨fun x y => eqs43 9996 x y, by kernel_rfl⟩
theorem kl23 (d : Nat) (x : Bs 16) : HasLits Try.prog (d + 2) 23 x.enc := HasLits.bytes Try.underlying23 Try.underlying5 (by kernel_rfl) (by kernel_rfl) x
theorem key23 : KeyTy Try.prog 23 (Bs 16) (fun x => .agg (Bs.enc x).toArray) := KeyTy.agg (m := 8) (by kernel_rfl) (by kernel_rfl) (by decide) (by kernel_rfl) (by kernel_rfl) (fun x => by rw [Bs.len _]; kernel_rfl) (fun x => by rw [show Try.prog.types.size + 1 = 192 + 2 from by kernel_rfl]; exact kl23 _ x) (fun _ _ e => Bs.enc_inj e)
theorem ce6 : CanEnter Try.prog 6 := ⟨_, Try.func6, by kernel_rfl, by kernel_rfl⟩
theorem ce7 : CanEnter Try.prog 7 := ⟨_, Try.func7, by kernel_rfl, by kernel_rfl⟩
theorem ce8 : CanEnter Try.prog 8 := ⟨_, Try.func8, by kernel_rfl, by kernel_rfl⟩
theorem ce9 : CanEnter Try.prog 9 := ⟨_, Try.func9, by kernel_rfl, by kernel_rfl⟩
theorem ce10 : CanEnter Try.prog 10 := ⟨_, Try.func10, by kernel_rfl, by kernel_rfl⟩
theorem ce11 : CanEnter Try.prog 11 := ⟨_, Try.func11, by kernel_rfl, by kernel_rfl⟩
theorem ce12 : CanEnter Try.prog 12 := ⟨_, Try.func12, by kernel_rfl, by kernel_rfl⟩
theorem ce13 : CanEnter Try.prog 13 := ⟨_, Try.func13, by kernel_rfl, by kernel_rfl⟩
theorem ce14 : CanEnter Try.prog 14 := ⟨_, Try.func14, by kernel_rfl, by kernel_rfl⟩
theorem ce15 : CanEnter Try.prog 15 := ⟨_, Try.func15, by kernel_rfl, by kernel_rfl⟩
theorem ce20 : CanEnter Try.prog 20 := ⟨_, Try.func20, by kernel_rfl, by kernel_rfl⟩
theorem ce21 : CanEnter Try.prog 21 := ⟨_, Try.func21, by kernel_rfl, by kernel_rfl⟩
theorem ce22 : CanEnter Try.prog 22 := ⟨_, Try.func22, by kernel_rfl, by kernel_rfl⟩
theorem ce23 : CanEnter Try.prog 23 := ⟨_, Try.func23, by kernel_rfl, by kernel_rfl⟩
theorem ce24 : CanEnter Try.prog 24 := ⟨_, Try.func24, by kernel_rfl, by kernel_rfl⟩
theorem ce25 : CanEnter Try.prog 25 := ⟨_, Try.func25, by kernel_rfl, by kernel_rfl⟩
theorem ce26 : CanEnter Try.prog 26 := ⟨_, Try.func26, by kernel_rfl, by kernel_rfl⟩
theorem ce27 : CanEnter Try.prog 27 := ⟨_, Try.func27, by kernel_rfl, by kernel_rfl⟩
theorem ce28 : CanEnter Try.prog 28 := ⟨_, Try.func28, by kernel_rfl, by kernel_rfl⟩
theorem ce29 : CanEnter Try.prog 29 := ⟨_, Try.func29, by kernel_rfl, by kernel_rfl⟩
theorem ce30 : CanEnter Try.prog 30 := ⟨_, Try.func30, by kernel_rfl, by kernel_rfl⟩
theorem ce31 : CanEnter Try.prog 31 := ⟨_, Try.func31, by kernel_rfl, by kernel_rfl⟩
theorem ce34 : CanEnter Try.prog 34 := ⟨_, Try.func34, by kernel_rfl, by kernel_rfl⟩
theorem ce35 : CanEnter Try.prog 35 := ⟨_, Try.func35, by kernel_rfl, by kernel_rfl⟩
theorem ce38 : CanEnter Try.prog 38 := ⟨_, Try.func38, by kernel_rfl, by kernel_rfl⟩
theorem ce39 : CanEnter Try.prog 39 := ⟨_, Try.func39, by kernel_rfl, by kernel_rfl⟩
theorem ce40 : CanEnter Try.prog 40 := ⟨_, Try.func40, by kernel_rfl, by kernel_rfl⟩
theorem ce41 : CanEnter Try.prog 41 := ⟨_, Try.func41, by kernel_rfl, by kernel_rfl⟩
theorem ce42 : CanEnter Try.prog 42 := ⟨_, Try.func42, by kernel_rfl, by kernel_rfl⟩
theorem ce43 : CanEnter Try.prog 43 := ⟨_, Try.func43, by kernel_rfl, by kernel_rfl⟩
theorem ce44 : CanEnter Try.prog 44 := ⟨_, Try.func44, by kernel_rfl, by kernel_rfl⟩
theorem ce45 : CanEnter Try.prog 45 := ⟨_, Try.func45, by kernel_rfl, by kernel_rfl⟩
theorem ce46 : CanEnter Try.prog 46 := ⟨_, Try.func46, by kernel_rfl, by kernel_rfl⟩
theorem ce47 : CanEnter Try.prog 47 := ⟨_, Try.func47, by kernel_rfl, by kernel_rfl⟩
theorem ce48 : CanEnter Try.prog 48 := ⟨_, Try.func48, by kernel_rfl, by kernel_rfl⟩
theorem ce49 : CanEnter Try.prog 49 := ⟨_, Try.func49, by kernel_rfl, by kernel_rfl⟩
theorem ce50 : CanEnter Try.prog 50 := ⟨_, Try.func50, by kernel_rfl, by kernel_rfl⟩
theorem ce54 : CanEnter Try.prog 54 := ⟨_, Try.func54, by kernel_rfl, by kernel_rfl⟩
theorem ce55 : CanEnter Try.prog 55 := ⟨_, Try.func55, by kernel_rfl, by kernel_rfl⟩
theorem ce56 : CanEnter Try.prog 56 := ⟨_, Try.func56, by kernel_rfl, by kernel_rfl⟩
theorem ce57 : CanEnter Try.prog 57 := ⟨_, Try.func57, by kernel_rfl, by kernel_rfl⟩
theorem ce61 : CanEnter Try.prog 61 := ⟨_, Try.func61, by kernel_rfl, by kernel_rfl⟩
theorem ce62 : CanEnter Try.prog 62 := ⟨_, Try.func62, by kernel_rfl, by kernel_rfl⟩
theorem ce63 : CanEnter Try.prog 63 := ⟨_, Try.func63, by kernel_rfl, by kernel_rfl⟩
theorem ce64 : CanEnter Try.prog 64 := ⟨_, Try.func64, by kernel_rfl, by kernel_rfl⟩
theorem ce65 : CanEnter Try.prog 65 := ⟨_, Try.func65, by kernel_rfl, by kernel_rfl⟩
theorem ce66 : CanEnter Try.prog 66 := ⟨_, Try.func66, by kernel_rfl, by kernel_rfl⟩
theorem ce67 : CanEnter Try.prog 67 := ⟨_, Try.func67, by kernel_rfl, by kernel_rfl⟩
theorem ce69 : CanEnter Try.prog 69 := ⟨_, Try.func69, by kernel_rfl, by kernel_rfl⟩
theorem ce70 : CanEnter Try.prog 70 := ⟨_, Try.func70, by kernel_rfl, by kernel_rfl⟩
theorem ce71 : CanEnter Try.prog 71 := ⟨_, Try.func71, by kernel_rfl, by kernel_rfl⟩
theorem ce72 : CanEnter Try.prog 72 := ⟨_, Try.func72, by kernel_rfl, by kernel_rfl⟩
theorem ce73 : CanEnter Try.prog 73 := ⟨_, Try.func73, by kernel_rfl, by kernel_rfl⟩
theorem ce74 : CanEnter Try.prog 74 := ⟨_, Try.func74, by kernel_rfl, by kernel_rfl⟩
theorem ce85 : CanEnter Try.prog 85 := ⟨_, Try.func85, by kernel_rfl, by kernel_rfl⟩
theorem ce86 : CanEnter Try.prog 86 := ⟨_, Try.func86, by kernel_rfl, by kernel_rfl⟩
theorem ce87 : CanEnter Try.prog 87 := ⟨_, Try.func87, by kernel_rfl, by kernel_rfl⟩
theorem ce88 : CanEnter Try.prog 88 := ⟨_, Try.func88, by kernel_rfl, by kernel_rfl⟩
theorem ce89 : CanEnter Try.prog 89 := ⟨_, Try.func89, by kernel_rfl, by kernel_rfl⟩
theorem ce95 : CanEnter Try.prog 95 := ⟨_, Try.func95, by kernel_rfl, by kernel_rfl⟩
theorem ce96 : CanEnter Try.prog 96 := ⟨_, Try.func96, by kernel_rfl, by kernel_rfl⟩
theorem ce97 : CanEnter Try.prog 97 := ⟨_, Try.func97, by kernel_rfl, by kernel_rfl⟩
theorem ce99 : CanEnter Try.prog 99 := ⟨_, Try.func99, by kernel_rfl, by kernel_rfl⟩
theorem ce100 : CanEnter Try.prog 100 := ⟨_, Try.func100, by kernel_rfl, by kernel_rfl⟩
theorem cmpRow : CmpRow Try.prog 60 := fun _ _ => by kernel_rfl
end Slb
