/- F4: a part of the proof that a law of this package holds for every input; no condition. -/
import Derived.Test.YtgcjmamfbcmccaaRows
import Derived.Test.YtgcjmamfbcmccaaS4
namespace Slb
open Go Go.Proofs
theorem g3 : Sca Try.prog 3 := ⟨fun _ => by kernel_rfl, fun _ => by kernel_rfl⟩
theorem z3 : Sz Try.prog 3 1 := g3.size
theorem zero3 : Zero Try.prog 3 (.int .i64 0) := fun _ => by kernel_rfl
theorem g4 : Sca Try.prog 4 := ⟨fun _ => by kernel_rfl, fun _ => by kernel_rfl⟩
theorem z4 : Sz Try.prog 4 1 := g4.size
theorem zero4 : Zero Try.prog 4 (.bool false) := fun _ => by kernel_rfl
theorem g5 : Sca Try.prog 5 := ⟨fun _ => by kernel_rfl, fun _ => by kernel_rfl⟩
theorem z5 : Sz Try.prog 5 1 := g5.size
theorem zero5 : Zero Try.prog 5 (.int .u8 0) := fun _ => by kernel_rfl
theorem g9 : Sca Try.prog 9 := ⟨fun _ => by kernel_rfl, fun _ => by kernel_rfl⟩
theorem z9 : Sz Try.prog 9 1 := g9.size
theorem zero9 : Zero Try.prog 9 (.string ByteArray.empty) := fun _ => by kernel_rfl
theorem g22 : Sca Try.prog 22 := ⟨fun _ => by kernel_rfl, fun _ => by kernel_rfl⟩
theorem z22 : Sz Try.prog 22 1 := g22.size
theorem zero22 : Zero Try.prog 22 (.slice none 0 0) := fun _ => by kernel_rfl
theorem g24 : Sca Try.prog 24 := ⟨fun _ => by kernel_rfl, fun _ => by kernel_rfl⟩
theorem z24 : Sz Try.prog 24 1 := g24.size
theorem zero24 : Zero Try.prog 24 (.pointer none) := fun _ => by kernel_rfl
theorem g30 : Agg Try.prog 30 16 := ⟨fun _ => by kernel_rfl, fun _ => by kernel_rfl⟩
theorem z30 : Sz Try.prog 30 16 := g30.size
theorem zero30 : Zero Try.prog 30 (.agg (Bs.zero 16).enc.toArray) := fun _ => by kernel_rfl
theorem g33 : Agg Try.prog 33 17 := ⟨fun _ => by kernel_rfl, fun _ => by kernel_rfl⟩
theorem z33 : Sz Try.prog 33 17 := g33.size
theorem f33_0 : FieldA Try.prog 33 0 0 := fun _ _ => by kernel_rfl
theorem f33_1 : FieldA Try.prog 33 1 16 := fun _ _ => by kernel_rfl
theorem st33 : StructTy Try.prog 33 Prefix.segs := ⟨fun _ => by kernel_rfl, _, Try.underlying33, fun _ => by kernel_rfl⟩
theorem zero33 : Zero Try.prog 33 (.agg Prefix.zero.enc.toArray) := fun _ => by kernel_rfl
theorem g36 : Agg Try.prog 36 34 := ⟨fun _ => by kernel_rfl, fun _ => by kernel_rfl⟩
theorem z36 : Sz Try.prog 36 34 := g36.size
theorem f36_0 : FieldA Try.prog 36 0 0 := fun _ _ => by kernel_rfl
theorem f36_1 : FieldA Try.prog 36 1 17 := fun _ _ => by kernel_rfl
theorem st36 : StructTy Try.prog 36 Pair.segs := ⟨fun _ => by kernel_rfl, _, Try.underlying36, fun _ => by kernel_rfl⟩
theorem zero36 : Zero Try.prog 36 (.agg Pair.zero.enc.toArray) := fun _ => by kernel_rfl
theorem g38 : Agg Try.prog 38 51 := ⟨fun _ => by kernel_rfl, fun _ => by kernel_rfl⟩
theorem z38 : Sz Try.prog 38 51 := g38.size
theorem f38_0 : FieldA Try.prog 38 0 0 := fun _ _ => by kernel_rfl
theorem f38_1 : FieldA Try.prog 38 1 34 := fun _ _ => by kernel_rfl
theorem f38_2 : FieldA Try.prog 38 2 35 := fun _ _ => by kernel_rfl
theorem st38 : StructTy Try.prog 38 Entry.segs := ⟨fun _ => by kernel_rfl, _, Try.underlying38, fun _ => by kernel_rfl⟩
theorem zero38 : Zero Try.prog 38 (.agg Entry.zero.enc.toArray) := fun _ => by kernel_rfl
theorem g42 : Agg Try.prog 42 52 := ⟨fun _ => by kernel_rfl, fun _ => by kernel_rfl⟩
theorem z42 : Sz Try.prog 42 52 := g42.size
theorem f42_0 : FieldA Try.prog 42 0 0 := fun _ _ => by kernel_rfl
theorem f42_1 : FieldA Try.prog 42 1 1 := fun _ _ => by kernel_rfl
theorem st42 : StructTy Try.prog 42 Op.segs := ⟨fun _ => by kernel_rfl, _, Try.underlying42, fun _ => by kernel_rfl⟩
theorem zero42 : Zero Try.prog 42 (.agg Op.zero.enc.toArray) := fun _ => by kernel_rfl
theorem g52 : Sca Try.prog 52 := ⟨fun _ => by kernel_rfl, fun _ => by kernel_rfl⟩
theorem z52 : Sz Try.prog 52 1 := g52.size
theorem zero52 : Zero Try.prog 52 (.slice none 0 0) := fun _ => by kernel_rfl
theorem g53 : Sca Try.prog 53 := ⟨fun _ => by kernel_rfl, fun _ => by kernel_rfl⟩
theorem z53 : Sz Try.prog 53 1 := g53.size
theorem zero53 : Zero Try.prog 53 (.pointer none) := fun _ => by kernel_rfl
theorem g55 : Agg Try.prog 55 3 := ⟨fun _ => by kernel_rfl, fun _ => by kernel_rfl⟩
theorem z55 : Sz Try.prog 55 3 := g55.size
theorem f55_0 : FieldA Try.prog 55 0 0 := fun _ _ => by kernel_rfl
theorem f55_1 : FieldA Try.prog 55 1 1 := fun _ _ => by kernel_rfl
theorem f55_2 : FieldA Try.prog 55 2 2 := fun _ _ => by kernel_rfl
theorem st55 : StructTy Try.prog 55 Ref20Kernel.segs := ⟨fun _ => by kernel_rfl, _, Try.underlying55, fun _ => by kernel_rfl⟩
theorem zero55 : Zero Try.prog 55 (.agg Ref20Kernel.zero.enc.toArray) := fun _ => by kernel_rfl
theorem g57 : Agg Try.prog 57 86 := ⟨fun _ => by kernel_rfl, fun _ => by kernel_rfl⟩
theorem z57 : Sz Try.prog 57 86 := g57.size
theorem f57_0 : FieldA Try.prog 57 0 0 := fun _ _ => by kernel_rfl
theorem f57_1 : FieldA Try.prog 57 1 1 := fun _ _ => by kernel_rfl
theorem f57_2 : FieldA Try.prog 57 2 53 := fun _ _ => by kernel_rfl
theorem f57_3 : FieldA Try.prog 57 3 54 := fun _ _ => by kernel_rfl
theorem f57_4 : FieldA Try.prog 57 4 70 := fun _ _ => by kernel_rfl
theorem st57 : StructTy Try.prog 57 Law20Act.segs := ⟨fun _ => by kernel_rfl, _, Try.underlying57, fun _ => by kernel_rfl⟩
theorem zero57 : Zero Try.prog 57 (.agg Law20Act.zero.enc.toArray) := fun _ => by kernel_rfl
theorem g62 : Sca Try.prog 62 := ⟨fun _ => by kernel_rfl, fun _ => by kernel_rfl⟩
theorem z62 : Sz Try.prog 62 1 := g62.size
theorem zero62 : Zero Try.prog 62 (.map none) := fun _ => by kernel_rfl
theorem g64 : Agg Try.prog 64 3 := ⟨fun _ => by kernel_rfl, fun _ => by kernel_rfl⟩
theorem z64 : Sz Try.prog 64 3 := g64.size
theorem f64_0 : FieldA Try.prog 64 0 0 := fun _ _ => by kernel_rfl
theorem f64_1 : FieldA Try.prog 64 1 1 := fun _ _ => by kernel_rfl
theorem f64_2 : FieldA Try.prog 64 2 2 := fun _ _ => by kernel_rfl
theorem st64 : StructTy Try.prog 64 KernelKernel.segs := ⟨fun _ => by kernel_rfl, _, Try.underlying64, fun _ => by kernel_rfl⟩
theorem zero64 : Zero Try.prog 64 (.agg KernelKernel.zero.enc.toArray) := fun _ => by kernel_rfl
theorem g65 : Sca Try.prog 65 := ⟨fun _ => by kernel_rfl, fun _ => by kernel_rfl⟩
theorem z65 : Sz Try.prog 65 1 := g65.size
theorem zero65 : Zero Try.prog 65 (.int .i64 0) := fun _ => by kernel_rfl
theorem g67 : Sca Try.prog 67 := ⟨fun _ => by kernel_rfl, fun _ => by kernel_rfl⟩
theorem z67 : Sz Try.prog 67 1 := g67.size
theorem zero67 : Zero Try.prog 67 (.slice none 0 0) := fun _ => by kernel_rfl
theorem g68 : Sca Try.prog 68 := ⟨fun _ => by kernel_rfl, fun _ => by kernel_rfl⟩
theorem z68 : Sz Try.prog 68 1 := g68.size
theorem zero68 : Zero Try.prog 68 (.slice none 0 0) := fun _ => by kernel_rfl
theorem g74 : Sca Try.prog 74 := ⟨fun _ => by kernel_rfl, fun _ => by kernel_rfl⟩
theorem z74 : Sz Try.prog 74 1 := g74.size
theorem zero74 : Zero Try.prog 74 (.slice none 0 0) := fun _ => by kernel_rfl
theorem g76 : Sca Try.prog 76 := ⟨fun _ => by kernel_rfl, fun _ => by kernel_rfl⟩
theorem z76 : Sz Try.prog 76 1 := g76.size
theorem zero76 : Zero Try.prog 76 (.nilFunc) := fun _ => by kernel_rfl
theorem g77 : Sca Try.prog 77 := ⟨fun _ => by kernel_rfl, fun _ => by kernel_rfl⟩
theorem z77 : Sz Try.prog 77 1 := g77.size
theorem zero77 : Zero Try.prog 77 (.nilFunc) := fun _ => by kernel_rfl
theorem g79 : Sca Try.prog 79 := ⟨fun _ => by kernel_rfl, fun _ => by kernel_rfl⟩
theorem z79 : Sz Try.prog 79 1 := g79.size
theorem zero79 : Zero Try.prog 79 (.nilFunc) := fun _ => by kernel_rfl
theorem g80 : Sca Try.prog 80 := ⟨fun _ => by kernel_rfl, fun _ => by kernel_rfl⟩
theorem z80 : Sz Try.prog 80 1 := g80.size
theorem zero80 : Zero Try.prog 80 (.int .u16 0) := fun _ => by kernel_rfl
theorem g84 : Sca Try.prog 84 := ⟨fun _ => by kernel_rfl, fun _ => by kernel_rfl⟩
theorem z84 : Sz Try.prog 84 1 := g84.size
theorem zero84 : Zero Try.prog 84 (.nilFunc) := fun _ => by kernel_rfl
theorem g88 : Sca Try.prog 88 := ⟨fun _ => by kernel_rfl, fun _ => by kernel_rfl⟩
theorem z88 : Sz Try.prog 88 1 := g88.size
theorem zero88 : Zero Try.prog 88 (.int .u64 0) := fun _ => by kernel_rfl
theorem g92 : Sca Try.prog 92 := ⟨fun _ => by kernel_rfl, fun _ => by kernel_rfl⟩
theorem z92 : Sz Try.prog 92 1 := g92.size
theorem zero92 : Zero Try.prog 92 (.slice none 0 0) := fun _ => by kernel_rfl
theorem g96 : Sca Try.prog 96 := ⟨fun _ => by kernel_rfl, fun _ => by kernel_rfl⟩
theorem z96 : Sz Try.prog 96 1 := g96.size
theorem zero96 : Zero Try.prog 96 (.int .i64 0) := fun _ => by kernel_rfl
theorem g104 : Sca Try.prog 104 := ⟨fun _ => by kernel_rfl, fun _ => by kernel_rfl⟩
theorem z104 : Sz Try.prog 104 1 := g104.size
theorem zero104 : Zero Try.prog 104 (.int .u32 0) := fun _ => by kernel_rfl
theorem g106 : Sca Try.prog 106 := ⟨fun _ => by kernel_rfl, fun _ => by kernel_rfl⟩
theorem z106 : Sz Try.prog 106 1 := g106.size
theorem zero106 : Zero Try.prog 106 (.int .u64 0) := fun _ => by kernel_rfl
theorem g109 : Sca Try.prog 109 := ⟨fun _ => by kernel_rfl, fun _ => by kernel_rfl⟩
theorem z109 : Sz Try.prog 109 1 := g109.size
theorem zero109 : Zero Try.prog 109 (.int .u64 0) := fun _ => by kernel_rfl
theorem g113 : Sca Try.prog 113 := ⟨fun _ => by kernel_rfl, fun _ => by kernel_rfl⟩
theorem z113 : Sz Try.prog 113 1 := g113.size
theorem zero113 : Zero Try.prog 113 (.pointer none) := fun _ => by kernel_rfl
theorem g115 : Sca Try.prog 115 := ⟨fun _ => by kernel_rfl, fun _ => by kernel_rfl⟩
theorem z115 : Sz Try.prog 115 1 := g115.size
theorem zero115 : Zero Try.prog 115 (.pointer none) := fun _ => by kernel_rfl
theorem el3 : ElemTy Try.prog 3 1 := .of (by kernel_rfl)
theorem el5 : ElemTy Try.prog 5 1 := .of (by kernel_rfl)
theorem el36 : ElemTy Try.prog 36 34 := .of (by kernel_rfl)
theorem el38 : ElemTy Try.prog 38 51 := .of (by kernel_rfl)
theorem el57 : ElemTy Try.prog 57 86 := .of (by kernel_rfl)
theorem el62 : ElemTy Try.prog 62 1 := .of (by kernel_rfl)
theorem eqs30 (d : Nat) (x y : Bs 16) : EqA Try.prog (d + 2) 30 x.enc y.enc (decide (x = y)) := EqA.bs Try.underlying30 Try.underlying5 (by kernel_rfl) (by kernel_rfl) g5 x y
theorem eq30 : EqTy Try.prog 30 (Bs 16) Bs.enc := ⟨fun x y => eqs30 9998 x y, by kernel_rfl⟩
theorem eqs33 (d : Nat) (x y : Prefix) : EqA Try.prog (d + 3) 33 x.enc y.enc (decide (x = y)) := by
  have h : EqA Try.prog (d + 3) 33 x.enc y.enc (decide (x.a = y.a) && (decide (x.len.val = y.len.val) && true)) := EqA.struct (sa := [x.a.enc, [I64.v x.len]]) (sb := [y.a.enc, [I64.v y.len]]) Try.underlying33 (by kernel_rfl) ⟨by decide, by simp [Bs.len], by simp [Bs.len], _, _, EqP.agg g30 (Bs.len _) (Bs.len _) (eqs30 (d + 0) _ _), ⟨by decide, by simp [Bs.len], by simp [Bs.len], _, _, EqP.int (d := d + 1) g3 Try.underlying3 x.len.val y.len.val, rfl, rfl⟩, rfl⟩
  rwa [show (decide (x.a = y.a) && (decide (x.len.val = y.len.val) && true)) = decide (x = y) from (by cases x; cases y; simp [Subtype.ext_iff])] at h
theorem eqs36 (d : Nat) (x y : Pair) : EqA Try.prog (d + 4) 36 x.enc y.enc (decide (x = y)) := by
  have h : EqA Try.prog (d + 4) 36 x.enc y.enc (decide (x.dst = y.dst) && (decide (x.src = y.src) && true)) := EqA.struct (sa := [x.dst.enc, x.src.enc]) (sb := [y.dst.enc, y.src.enc]) Try.underlying36 (by kernel_rfl) ⟨by decide, by simp [Prefix.enc_len], by simp [Prefix.enc_len], _, _, EqP.agg g33 (Prefix.enc_len _) (Prefix.enc_len _) (eqs33 (d + 0) _ _), ⟨by decide, by simp [Prefix.enc_len], by simp [Prefix.enc_len], _, _, EqP.agg g33 (Prefix.enc_len _) (Prefix.enc_len _) (eqs33 (d + 0) _ _), rfl, rfl⟩, rfl⟩
  rwa [show (decide (x.dst = y.dst) && (decide (x.src = y.src) && true)) = decide (x = y) from (by cases x; cases y; simp [Subtype.ext_iff])] at h
theorem eq36 : EqTy Try.prog 36 (Pair) Pair.enc := ⟨fun x y => eqs36 9996 x y, by kernel_rfl⟩
theorem eqs38 (d : Nat) (x y : Entry) : EqA Try.prog (d + 5) 38 x.enc y.enc (decide (x = y)) := by
  have h : EqA Try.prog (d + 5) 38 x.enc y.enc (decide (x.pair = y.pair) && (decide (x.if_.val = y.if_.val) && (decide (x.hop = y.hop) && true))) := EqA.struct (sa := [x.pair.enc, [I64.v x.if_], x.hop.enc]) (sb := [y.pair.enc, [I64.v y.if_], y.hop.enc]) Try.underlying38 (by kernel_rfl) ⟨by decide, by simp [Bs.len, Pair.enc_len], by simp [Bs.len, Pair.enc_len], _, _, EqP.agg g36 (Pair.enc_len _) (Pair.enc_len _) (eqs36 (d + 0) _ _), ⟨by decide, by simp [Bs.len, Pair.enc_len], by simp [Bs.len, Pair.enc_len], _, _, EqP.int (d := d + 3) g3 Try.underlying3 x.if_.val y.if_.val, ⟨by decide, by simp [Bs.len, Pair.enc_len], by simp [Bs.len, Pair.enc_len], _, _, EqP.agg g30 (Bs.len _) (Bs.len _) (eqs30 (d + 2) _ _), rfl, rfl⟩, rfl⟩, rfl⟩
  rwa [show (decide (x.pair = y.pair) && (decide (x.if_.val = y.if_.val) && (decide (x.hop = y.hop) && true))) = decide (x = y) from (by cases x; cases y; simp [Subtype.ext_iff])] at h
theorem eq38 : EqTy Try.prog 38 (Entry) Entry.enc := ⟨fun x y => eqs38 9995 x y, by kernel_rfl⟩
theorem kl30 (d : Nat) (x : Bs 16) : HasLits Try.prog (d + 2) 30 x.enc := HasLits.bytes Try.underlying30 Try.underlying5 (by kernel_rfl) (by kernel_rfl) x
theorem kl33 (d : Nat) (x : Prefix) : HasLits Try.prog (d + 3) 33 x.enc := HasLits.struct (sa := [x.a.enc, [I64.v x.len]]) Try.underlying33 (by rw [show List.flatten _ = x.enc from rfl, Prefix.enc_len _]; kernel_rfl) (by kernel_rfl) ⟨by simp [Bs.len], by rw [Bs.len _]; kernel_rfl, kl30 (d + 0) _, ⟨by simp [Bs.len], by kernel_rfl, HasLits.i64 (d := d + 1) Try.underlying3 _, trivial⟩⟩
theorem kl36 (d : Nat) (x : Pair) : HasLits Try.prog (d + 4) 36 x.enc := HasLits.struct (sa := [x.dst.enc, x.src.enc]) Try.underlying36 (by rw [show List.flatten _ = x.enc from rfl, Pair.enc_len _]; kernel_rfl) (by kernel_rfl) ⟨by simp [Prefix.enc_len], by rw [Prefix.enc_len _]; kernel_rfl, kl33 (d + 0) _, ⟨by simp [Prefix.enc_len], by rw [Prefix.enc_len _]; kernel_rfl, kl33 (d + 0) _, trivial⟩⟩
theorem key36 : KeyTy Try.prog 36 (Pair) (fun x => .agg (Pair.enc x).toArray) := KeyTy.agg (m := 8) (by kernel_rfl) (by kernel_rfl) (by decide) (by kernel_rfl) (by kernel_rfl) (fun x => by rw [Pair.enc_len _]; kernel_rfl) (fun x => by rw [show Try.prog.types.size + 1 = 131 + 4 from by kernel_rfl]; exact kl36 _ x) (fun _ _ e => Pair.enc_inj e)
theorem ce3 : CanEnter Try.prog 3 := ⟨_, Try.func3, by kernel_rfl, by kernel_rfl⟩
theorem ce4 : CanEnter Try.prog 4 := ⟨_, Try.func4, by kernel_rfl, by kernel_rfl⟩
theorem ce5 : CanEnter Try.prog 5 := ⟨_, Try.func5, by kernel_rfl, by kernel_rfl⟩
theorem ce6 : CanEnter Try.prog 6 := ⟨_, Try.func6, by kernel_rfl, by kernel_rfl⟩
theorem ce7 : CanEnter Try.prog 7 := ⟨_, Try.func7, by kernel_rfl, by kernel_rfl⟩
theorem ce8 : CanEnter Try.prog 8 := ⟨_, Try.func8, by kernel_rfl, by kernel_rfl⟩
theorem ce9 : CanEnter Try.prog 9 := ⟨_, Try.func9, by kernel_rfl, by kernel_rfl⟩
theorem ce10 : CanEnter Try.prog 10 := ⟨_, Try.func10, by kernel_rfl, by kernel_rfl⟩
theorem ce11 : CanEnter Try.prog 11 := ⟨_, Try.func11, by kernel_rfl, by kernel_rfl⟩
theorem ce12 : CanEnter Try.prog 12 := ⟨_, Try.func12, by kernel_rfl, by kernel_rfl⟩
theorem ce13 : CanEnter Try.prog 13 := ⟨_, Try.func13, by kernel_rfl, by kernel_rfl⟩
theorem ce14 : CanEnter Try.prog 14 := ⟨_, Try.func14, by kernel_rfl, by kernel_rfl⟩
theorem ce15 : CanEnter Try.prog 15 := ⟨_, Try.func15, by kernel_rfl, by kernel_rfl⟩
theorem ce16 : CanEnter Try.prog 16 := ⟨_, Try.func16, by kernel_rfl, by kernel_rfl⟩
theorem ce17 : CanEnter Try.prog 17 := ⟨_, Try.func17, by kernel_rfl, by kernel_rfl⟩
theorem ce18 : CanEnter Try.prog 18 := ⟨_, Try.func18, by kernel_rfl, by kernel_rfl⟩
theorem ce19 : CanEnter Try.prog 19 := ⟨_, Try.func19, by kernel_rfl, by kernel_rfl⟩
theorem ce20 : CanEnter Try.prog 20 := ⟨_, Try.func20, by kernel_rfl, by kernel_rfl⟩
theorem ce21 : CanEnter Try.prog 21 := ⟨_, Try.func21, by kernel_rfl, by kernel_rfl⟩
theorem ce22 : CanEnter Try.prog 22 := ⟨_, Try.func22, by kernel_rfl, by kernel_rfl⟩
theorem ce23 : CanEnter Try.prog 23 := ⟨_, Try.func23, by kernel_rfl, by kernel_rfl⟩
theorem ce24 : CanEnter Try.prog 24 := ⟨_, Try.func24, by kernel_rfl, by kernel_rfl⟩
theorem ce25 : CanEnter Try.prog 25 := ⟨_, Try.func25, by kernel_rfl, by kernel_rfl⟩
theorem ce26 : CanEnter Try.prog 26 := ⟨_, Try.func26, by kernel_rfl, by kernel_rfl⟩
theorem ce27 : CanEnter Try.prog 27 := ⟨_, Try.func27, by kernel_rfl, by kernel_rfl⟩
theorem ce28 : CanEnter Try.prog 28 := ⟨_, Try.func28, by kernel_rfl, by kernel_rfl⟩
theorem ce29 : CanEnter Try.prog 29 := ⟨_, Try.func29, by kernel_rfl, by kernel_rfl⟩
theorem ce30 : CanEnter Try.prog 30 := ⟨_, Try.func30, by kernel_rfl, by kernel_rfl⟩
theorem ce31 : CanEnter Try.prog 31 := ⟨_, Try.func31, by kernel_rfl, by kernel_rfl⟩
theorem ce32 : CanEnter Try.prog 32 := ⟨_, Try.func32, by kernel_rfl, by kernel_rfl⟩
theorem ce33 : CanEnter Try.prog 33 := ⟨_, Try.func33, by kernel_rfl, by kernel_rfl⟩
theorem ce34 : CanEnter Try.prog 34 := ⟨_, Try.func34, by kernel_rfl, by kernel_rfl⟩
theorem ce35 : CanEnter Try.prog 35 := ⟨_, Try.func35, by kernel_rfl, by kernel_rfl⟩
theorem ce36 : CanEnter Try.prog 36 := ⟨_, Try.func36, by kernel_rfl, by kernel_rfl⟩
theorem ce37 : CanEnter Try.prog 37 := ⟨_, Try.func37, by kernel_rfl, by kernel_rfl⟩
theorem ce38 : CanEnter Try.prog 38 := ⟨_, Try.func38, by kernel_rfl, by kernel_rfl⟩
theorem ce39 : CanEnter Try.prog 39 := ⟨_, Try.func39, by kernel_rfl, by kernel_rfl⟩
theorem ce40 : CanEnter Try.prog 40 := ⟨_, Try.func40, by kernel_rfl, by kernel_rfl⟩
theorem ce41 : CanEnter Try.prog 41 := ⟨_, Try.func41, by kernel_rfl, by kernel_rfl⟩
theorem ce42 : CanEnter Try.prog 42 := ⟨_, Try.func42, by kernel_rfl, by kernel_rfl⟩
theorem ce44 : CanEnter Try.prog 44 := ⟨_, Try.func44, by kernel_rfl, by kernel_rfl⟩
theorem ce45 : CanEnter Try.prog 45 := ⟨_, Try.func45, by kernel_rfl, by kernel_rfl⟩
theorem ce46 : CanEnter Try.prog 46 := ⟨_, Try.func46, by kernel_rfl, by kernel_rfl⟩
theorem ce47 : CanEnter Try.prog 47 := ⟨_, Try.func47, by kernel_rfl, by kernel_rfl⟩
theorem ce48 : CanEnter Try.prog 48 := ⟨_, Try.func48, by kernel_rfl, by kernel_rfl⟩
theorem ce49 : CanEnter Try.prog 49 := ⟨_, Try.func49, by kernel_rfl, by kernel_rfl⟩
theorem ce50 : CanEnter Try.prog 50 := ⟨_, Try.func50, by kernel_rfl, by kernel_rfl⟩
theorem ce51 : CanEnter Try.prog 51 := ⟨_, Try.func51, by kernel_rfl, by kernel_rfl⟩
theorem ce52 : CanEnter Try.prog 52 := ⟨_, Try.func52, by kernel_rfl, by kernel_rfl⟩
theorem ce53 : CanEnter Try.prog 53 := ⟨_, Try.func53, by kernel_rfl, by kernel_rfl⟩
theorem ce54 : CanEnter Try.prog 54 := ⟨_, Try.func54, by kernel_rfl, by kernel_rfl⟩
theorem ce55 : CanEnter Try.prog 55 := ⟨_, Try.func55, by kernel_rfl, by kernel_rfl⟩
theorem ce56 : CanEnter Try.prog 56 := ⟨_, Try.func56, by kernel_rfl, by kernel_rfl⟩
theorem ce57 : CanEnter Try.prog 57 := ⟨_, Try.func57, by kernel_rfl, by kernel_rfl⟩
theorem ce58 : CanEnter Try.prog 58 := ⟨_, Try.func58, by kernel_rfl, by kernel_rfl⟩
theorem ce59 : CanEnter Try.prog 59 := ⟨_, Try.func59, by kernel_rfl, by kernel_rfl⟩
theorem ce60 : CanEnter Try.prog 60 := ⟨_, Try.func60, by kernel_rfl, by kernel_rfl⟩
theorem ce61 : CanEnter Try.prog 61 := ⟨_, Try.func61, by kernel_rfl, by kernel_rfl⟩
theorem ce62 : CanEnter Try.prog 62 := ⟨_, Try.func62, by kernel_rfl, by kernel_rfl⟩
theorem ce63 : CanEnter Try.prog 63 := ⟨_, Try.func63, by kernel_rfl, by kernel_rfl⟩
theorem ce64 : CanEnter Try.prog 64 := ⟨_, Try.func64, by kernel_rfl, by kernel_rfl⟩
theorem ce65 : CanEnter Try.prog 65 := ⟨_, Try.func65, by kernel_rfl, by kernel_rfl⟩
theorem ce66 : CanEnter Try.prog 66 := ⟨_, Try.func66, by kernel_rfl, by kernel_rfl⟩
theorem ce67 : CanEnter Try.prog 67 := ⟨_, Try.func67, by kernel_rfl, by kernel_rfl⟩
theorem ce68 : CanEnter Try.prog 68 := ⟨_, Try.func68, by kernel_rfl, by kernel_rfl⟩
theorem ce69 : CanEnter Try.prog 69 := ⟨_, Try.func69, by kernel_rfl, by kernel_rfl⟩
theorem ce70 : CanEnter Try.prog 70 := ⟨_, Try.func70, by kernel_rfl, by kernel_rfl⟩
theorem ce71 : CanEnter Try.prog 71 := ⟨_, Try.func71, by kernel_rfl, by kernel_rfl⟩
theorem ce72 : CanEnter Try.prog 72 := ⟨_, Try.func72, by kernel_rfl, by kernel_rfl⟩
theorem ce73 : CanEnter Try.prog 73 := ⟨_, Try.func73, by kernel_rfl, by kernel_rfl⟩
theorem ce74 : CanEnter Try.prog 74 := ⟨_, Try.func74, by kernel_rfl, by kernel_rfl⟩
theorem ce76 : CanEnter Try.prog 76 := ⟨_, Try.func76, by kernel_rfl, by kernel_rfl⟩
theorem cmpRow : CmpRow Try.prog 75 := fun _ _ => by kernel_rfl
end Slb
