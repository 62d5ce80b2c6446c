/- F5: a part of the proof that a law of this package holds for every input; no condition. -/
import Derived.Test.YtanlgpdpjgpmfaaRows
import Derived.Test.YtanlgpdpjgpmfaaS5
namespace Slb
open Go Go.Proofs
theorem g3 : Sca Try.prog 3 := ⟨fun _ => by kernel_rfl, fun _ => by kernel_rfl⟩
theorem z3 : Sz Try.prog 3 1 := g3.size
theorem zero3 : Zero Try.prog 3 (.int .i64 0) := fun _ => by kernel_rfl
theorem g4 : Sca Try.prog 4 := ⟨fun _ => by kernel_rfl, fun _ => by kernel_rfl⟩
theorem z4 : Sz Try.prog 4 1 := g4.size
theorem zero4 : Zero Try.prog 4 (.bool false) := fun _ => by kernel_rfl
theorem g5 : Sca Try.prog 5 := ⟨fun _ => by kernel_rfl, fun _ => by kernel_rfl⟩
theorem z5 : Sz Try.prog 5 1 := g5.size
theorem zero5 : Zero Try.prog 5 (.int .u8 0) := fun _ => by kernel_rfl
theorem g9 : Sca Try.prog 9 := ⟨fun _ => by kernel_rfl, fun _ => by kernel_rfl⟩
theorem z9 : Sz Try.prog 9 1 := g9.size
theorem zero9 : Zero Try.prog 9 (.string ByteArray.empty) := fun _ => by kernel_rfl
theorem g22 : Sca Try.prog 22 := ⟨fun _ => by kernel_rfl, fun _ => by kernel_rfl⟩
theorem z22 : Sz Try.prog 22 1 := g22.size
theorem zero22 : Zero Try.prog 22 (.slice none 0 0) := fun _ => by kernel_rfl
theorem g28 : Sca Try.prog 28 := ⟨fun _ => by kernel_rfl, fun _ => by kernel_rfl⟩
theorem z28 : Sz Try.prog 28 1 := g28.size
theorem zero28 : Zero Try.prog 28 (.slice none 0 0) := fun _ => by kernel_rfl
theorem g30 : Sca Try.prog 30 := ⟨fun _ => by kernel_rfl, fun _ => by kernel_rfl⟩
theorem z30 : Sz Try.prog 30 1 := g30.size
theorem zero30 : Zero Try.prog 30 (.pointer none) := fun _ => by kernel_rfl
theorem g32 : Sca Try.prog 32 := ⟨fun _ => by kernel_rfl, fun _ => by kernel_rfl⟩
theorem z32 : Sz Try.prog 32 1 := g32.size
theorem zero32 : Zero Try.prog 32 (.pointer none) := fun _ => by kernel_rfl
theorem g33 : Sca Try.prog 33 := ⟨fun _ => by kernel_rfl, fun _ => by kernel_rfl⟩
theorem z33 : Sz Try.prog 33 1 := g33.size
theorem zero33 : Zero Try.prog 33 (.slice none 0 0) := fun _ => by kernel_rfl
theorem g35 : Agg Try.prog 35 16 := ⟨fun _ => by kernel_rfl, fun _ => by kernel_rfl⟩
theorem z35 : Sz Try.prog 35 16 := g35.size
theorem zero35 : Zero Try.prog 35 (.agg (Bs.zero 16).enc.toArray) := fun _ => by kernel_rfl
theorem g37 : Agg Try.prog 37 17 := ⟨fun _ => by kernel_rfl, fun _ => by kernel_rfl⟩
theorem z37 : Sz Try.prog 37 17 := g37.size
theorem f37_0 : FieldA Try.prog 37 0 0 := fun _ _ => by kernel_rfl
theorem f37_1 : FieldA Try.prog 37 1 16 := fun _ _ => by kernel_rfl
theorem st37 : StructTy Try.prog 37 Prefix.segs := ⟨fun _ => by kernel_rfl, _, Try.underlying37, fun _ => by kernel_rfl⟩
theorem zero37 : Zero Try.prog 37 (.agg Prefix.zero.enc.toArray) := fun _ => by kernel_rfl
theorem g39 : Agg Try.prog 39 34 := ⟨fun _ => by kernel_rfl, fun _ => by kernel_rfl⟩
theorem z39 : Sz Try.prog 39 34 := g39.size
theorem f39_0 : FieldA Try.prog 39 0 0 := fun _ _ => by kernel_rfl
theorem f39_1 : FieldA Try.prog 39 1 17 := fun _ _ => by kernel_rfl
theorem st39 : StructTy Try.prog 39 Pair.segs := ⟨fun _ => by kernel_rfl, _, Try.underlying39, fun _ => by kernel_rfl⟩
theorem zero39 : Zero Try.prog 39 (.agg Pair.zero.enc.toArray) := fun _ => by kernel_rfl
theorem g41 : Agg Try.prog 41 51 := ⟨fun _ => by kernel_rfl, fun _ => by kernel_rfl⟩
theorem z41 : Sz Try.prog 41 51 := g41.size
theorem f41_0 : FieldA Try.prog 41 0 0 := fun _ _ => by kernel_rfl
theorem f41_1 : FieldA Try.prog 41 1 34 := fun _ _ => by kernel_rfl
theorem f41_2 : FieldA Try.prog 41 2 35 := fun _ _ => by kernel_rfl
theorem st41 : StructTy Try.prog 41 Entry.segs := ⟨fun _ => by kernel_rfl, _, Try.underlying41, fun _ => by kernel_rfl⟩
theorem zero41 : Zero Try.prog 41 (.agg Entry.zero.enc.toArray) := fun _ => by kernel_rfl
theorem g43 : Agg Try.prog 43 52 := ⟨fun _ => by kernel_rfl, fun _ => by kernel_rfl⟩
theorem z43 : Sz Try.prog 43 52 := g43.size
theorem f43_0 : FieldA Try.prog 43 0 0 := fun _ _ => by kernel_rfl
theorem f43_1 : FieldA Try.prog 43 1 1 := fun _ _ => by kernel_rfl
theorem st43 : StructTy Try.prog 43 Op.segs := ⟨fun _ => by kernel_rfl, _, Try.underlying43, fun _ => by kernel_rfl⟩
theorem zero43 : Zero Try.prog 43 (.agg Op.zero.enc.toArray) := fun _ => by kernel_rfl
theorem g45 : Agg Try.prog 45 56 := ⟨fun _ => by kernel_rfl, fun _ => by kernel_rfl⟩
theorem z45 : Sz Try.prog 45 56 := g45.size
theorem f45_0 : FieldA Try.prog 45 0 0 := fun _ _ => by kernel_rfl
theorem f45_1 : FieldA Try.prog 45 1 1 := fun _ _ => by kernel_rfl
theorem f45_2 : FieldA Try.prog 45 2 2 := fun _ _ => by kernel_rfl
theorem f45_3 : FieldA Try.prog 45 3 3 := fun _ _ => by kernel_rfl
theorem f45_4 : FieldA Try.prog 45 4 55 := fun _ _ => by kernel_rfl
theorem st45 : StructTy Try.prog 45 Ref19Fib.segs := ⟨fun _ => by kernel_rfl, _, Try.underlying45, fun _ => by kernel_rfl⟩
theorem zero45 : Zero Try.prog 45 (.agg Ref19Fib.zero.enc.toArray) := fun _ => by kernel_rfl
theorem g47 : Agg Try.prog 47 4 := ⟨fun _ => by kernel_rfl, fun _ => by kernel_rfl⟩
theorem z47 : Sz Try.prog 47 4 := g47.size
theorem f47_0 : FieldA Try.prog 47 0 0 := fun _ _ => by kernel_rfl
theorem f47_1 : FieldA Try.prog 47 1 1 := fun _ _ => by kernel_rfl
theorem f47_2 : FieldA Try.prog 47 2 2 := fun _ _ => by kernel_rfl
theorem f47_3 : FieldA Try.prog 47 3 3 := fun _ _ => by kernel_rfl
theorem st47 : StructTy Try.prog 47 Law19Act.segs := ⟨fun _ => by kernel_rfl, _, Try.underlying47, fun _ => by kernel_rfl⟩
theorem zero47 : Zero Try.prog 47 (.agg Law19Act.zero.enc.toArray) := fun _ => by kernel_rfl
theorem g53 : Sca Try.prog 53 := ⟨fun _ => by kernel_rfl, fun _ => by kernel_rfl⟩
theorem z53 : Sz Try.prog 53 1 := g53.size
theorem zero53 : Zero Try.prog 53 (.int .i64 0) := fun _ => by kernel_rfl
theorem g66 : Sca Try.prog 66 := ⟨fun _ => by kernel_rfl, fun _ => by kernel_rfl⟩
theorem z66 : Sz Try.prog 66 1 := g66.size
theorem zero66 : Zero Try.prog 66 (.nilFunc) := fun _ => by kernel_rfl
theorem g68 : Sca Try.prog 68 := ⟨fun _ => by kernel_rfl, fun _ => by kernel_rfl⟩
theorem z68 : Sz Try.prog 68 1 := g68.size
theorem zero68 : Zero Try.prog 68 (.slice none 0 0) := fun _ => by kernel_rfl
theorem g74 : Sca Try.prog 74 := ⟨fun _ => by kernel_rfl, fun _ => by kernel_rfl⟩
theorem z74 : Sz Try.prog 74 1 := g74.size
theorem zero74 : Zero Try.prog 74 (.map none) := fun _ => by kernel_rfl
theorem g78 : Sca Try.prog 78 := ⟨fun _ => by kernel_rfl, fun _ => by kernel_rfl⟩
theorem z78 : Sz Try.prog 78 1 := g78.size
theorem zero78 : Zero Try.prog 78 (.map none) := fun _ => by kernel_rfl
theorem g79 : Sca Try.prog 79 := ⟨fun _ => by kernel_rfl, fun _ => by kernel_rfl⟩
theorem z79 : Sz Try.prog 79 1 := g79.size
theorem zero79 : Zero Try.prog 79 (.pointer none) := fun _ => by kernel_rfl
theorem g81 : Agg Try.prog 81 4 := ⟨fun _ => by kernel_rfl, fun _ => by kernel_rfl⟩
theorem z81 : Sz Try.prog 81 4 := g81.size
theorem f81_0 : FieldA Try.prog 81 0 0 := fun _ _ => by kernel_rfl
theorem f81_1 : FieldA Try.prog 81 1 1 := fun _ _ => by kernel_rfl
theorem f81_2 : FieldA Try.prog 81 2 2 := fun _ _ => by kernel_rfl
theorem f81_3 : FieldA Try.prog 81 3 3 := fun _ _ => by kernel_rfl
theorem st81 : StructTy Try.prog 81 FibFib.segs := ⟨fun _ => by kernel_rfl, _, Try.underlying81, fun _ => by kernel_rfl⟩
theorem zero81 : Zero Try.prog 81 (.agg FibFib.zero.enc.toArray) := fun _ => by kernel_rfl
theorem g82 : Sca Try.prog 82 := ⟨fun _ => by kernel_rfl, fun _ => by kernel_rfl⟩
theorem z82 : Sz Try.prog 82 1 := g82.size
theorem zero82 : Zero Try.prog 82 (.slice none 0 0) := fun _ => by kernel_rfl
theorem g86 : Agg Try.prog 86 35 := ⟨fun _ => by kernel_rfl, fun _ => by kernel_rfl⟩
theorem z86 : Sz Try.prog 86 35 := g86.size
theorem f86_0 : FieldA Try.prog 86 0 0 := fun _ _ => by kernel_rfl
theorem f86_1 : FieldA Try.prog 86 1 34 := fun _ _ => by kernel_rfl
theorem st86 : StructTy Try.prog 86 Ref19Wait.segs := ⟨fun _ => by kernel_rfl, _, Try.underlying86, fun _ => by kernel_rfl⟩
theorem zero86 : Zero Try.prog 86 (.agg Ref19Wait.zero.enc.toArray) := fun _ => by kernel_rfl
theorem g89 : Sca Try.prog 89 := ⟨fun _ => by kernel_rfl, fun _ => by kernel_rfl⟩
theorem z89 : Sz Try.prog 89 1 := g89.size
theorem zero89 : Zero Try.prog 89 (.slice none 0 0) := fun _ => by kernel_rfl
theorem g95 : Sca Try.prog 95 := ⟨fun _ => by kernel_rfl, fun _ => by kernel_rfl⟩
theorem z95 : Sz Try.prog 95 1 := g95.size
theorem zero95 : Zero Try.prog 95 (.nilFunc) := fun _ => by kernel_rfl
theorem g96 : Sca Try.prog 96 := ⟨fun _ => by kernel_rfl, fun _ => by kernel_rfl⟩
theorem z96 : Sz Try.prog 96 1 := g96.size
theorem zero96 : Zero Try.prog 96 (.nilFunc) := fun _ => by kernel_rfl
theorem g99 : Sca Try.prog 99 := ⟨fun _ => by kernel_rfl, fun _ => by kernel_rfl⟩
theorem z99 : Sz Try.prog 99 1 := g99.size
theorem zero99 : Zero Try.prog 99 (.int .u16 0) := fun _ => by kernel_rfl
theorem g100 : Sca Try.prog 100 := ⟨fun _ => by kernel_rfl, fun _ => by kernel_rfl⟩
theorem z100 : Sz Try.prog 100 1 := g100.size
theorem zero100 : Zero Try.prog 100 (.slice none 0 0) := fun _ => by kernel_rfl
theorem g105 : Sca Try.prog 105 := ⟨fun _ => by kernel_rfl, fun _ => by kernel_rfl⟩
theorem z105 : Sz Try.prog 105 1 := g105.size
theorem zero105 : Zero Try.prog 105 (.nilFunc) := fun _ => by kernel_rfl
theorem g111 : Sca Try.prog 111 := ⟨fun _ => by kernel_rfl, fun _ => by kernel_rfl⟩
theorem z111 : Sz Try.prog 111 1 := g111.size
theorem zero111 : Zero Try.prog 111 (.int .u64 0) := fun _ => by kernel_rfl
theorem g113 : Sca Try.prog 113 := ⟨fun _ => by kernel_rfl, fun _ => by kernel_rfl⟩
theorem z113 : Sz Try.prog 113 1 := g113.size
theorem zero113 : Zero Try.prog 113 (.int .i64 0) := fun _ => by kernel_rfl
theorem g120 : Sca Try.prog 120 := ⟨fun _ => by kernel_rfl, fun _ => by kernel_rfl⟩
theorem z120 : Sz Try.prog 120 1 := g120.size
theorem zero120 : Zero Try.prog 120 (.int .u32 0) := fun _ => by kernel_rfl
theorem g122 : Sca Try.prog 122 := ⟨fun _ => by kernel_rfl, fun _ => by kernel_rfl⟩
theorem z122 : Sz Try.prog 122 1 := g122.size
theorem zero122 : Zero Try.prog 122 (.int .u64 0) := fun _ => by kernel_rfl
theorem g123 : Sca Try.prog 123 := ⟨fun _ => by kernel_rfl, fun _ => by kernel_rfl⟩
theorem z123 : Sz Try.prog 123 1 := g123.size
theorem zero123 : Zero Try.prog 123 (.int .u64 0) := fun _ => by kernel_rfl
theorem g127 : Sca Try.prog 127 := ⟨fun _ => by kernel_rfl, fun _ => by kernel_rfl⟩
theorem z127 : Sz Try.prog 127 1 := g127.size
theorem zero127 : Zero Try.prog 127 (.pointer none) := fun _ => by kernel_rfl
theorem g129 : Sca Try.prog 129 := ⟨fun _ => by kernel_rfl, fun _ => by kernel_rfl⟩
theorem z129 : Sz Try.prog 129 1 := g129.size
theorem zero129 : Zero Try.prog 129 (.pointer none) := fun _ => by kernel_rfl
theorem el3 : ElemTy Try.prog 3 1 := .of (by kernel_rfl)
theorem el5 : ElemTy Try.prog 5 1 := .of (by kernel_rfl)
theorem el39 : ElemTy Try.prog 39 34 := .of (by kernel_rfl)
theorem el41 : ElemTy Try.prog 41 51 := .of (by kernel_rfl)
theorem el43 : ElemTy Try.prog 43 52 := .of (by kernel_rfl)
theorem el47 : ElemTy Try.prog 47 4 := .of (by kernel_rfl)
theorem el86 : ElemTy Try.prog 86 35 := .of (by kernel_rfl)
theorem eqs35 (d : Nat) (x y : Bs 16) : EqA Try.prog (d + 2) 35 x.enc y.enc (decide (x = y)) := EqA.bs Try.underlying35 Try.underlying5 (by kernel_rfl) (by kernel_rfl) g5 x y
theorem eq35 : EqTy Try.prog 35 (Bs 16) Bs.enc := ⟨fun x y => eqs35 9998 x y, by kernel_rfl⟩
theorem eqs37 (d : Nat) (x y : Prefix) : EqA Try.prog (d + 3) 37 x.enc y.enc (decide (x = y)) := by
  have h : EqA Try.prog (d + 3) 37 x.enc y.enc (decide (x.a = y.a) && (decide (x.len.val = y.len.val) && true)) := EqA.struct (sa := [x.a.enc, [I64.v x.len]]) (sb := [y.a.enc, [I64.v y.len]]) Try.underlying37 (by kernel_rfl) ⟨by decide, by simp [Bs.len], by simp [Bs.len], _, _, EqP.agg g35 (Bs.len _) (Bs.len _) (eqs35 (d + 0) _ _), ⟨by decide, by simp [Bs.len], by simp [Bs.len], _, _, EqP.int (d := d + 1) g3 Try.underlying3 x.len.val y.len.val, rfl, rfl⟩, rfl⟩
  rwa [show (decide (x.a = y.a) && (decide (x.len.val = y.len.val) && true)) = decide (x = y) from (by cases x; cases y; simp [Subtype.ext_iff])] at h
theorem eqs39 (d : Nat) (x y : Pair) : EqA Try.prog (d + 4) 39 x.enc y.enc (decide (x = y)) := by
  have h : EqA Try.prog (d + 4) 39 x.enc y.enc (decide (x.dst = y.dst) && (decide (x.src = y.src) && true)) := EqA.struct (sa := [x.dst.enc, x.src.enc]) (sb := [y.dst.enc, y.src.enc]) Try.underlying39 (by kernel_rfl) ⟨by decide, by simp [Prefix.enc_len], by simp [Prefix.enc_len], _, _, EqP.agg g37 (Prefix.enc_len _) (Prefix.enc_len _) (eqs37 (d + 0) _ _), ⟨by decide, by simp [Prefix.enc_len], by simp [Prefix.enc_len], _, _, EqP.agg g37 (Prefix.enc_len _) (Prefix.enc_len _) (eqs37 (d + 0) _ _), rfl, rfl⟩, rfl⟩
  rwa [show (decide (x.dst = y.dst) && (decide (x.src = y.src) && true)) = decide (x = y) from (by cases x; cases y; simp [Subtype.ext_iff])] at h
theorem eq39 : EqTy Try.prog 39 (Pair) Pair.enc := ⟨fun x y => eqs39 9996 x y, by kernel_rfl⟩
theorem eqs41 (d : Nat) (x y : Entry) : EqA Try.prog (d + 5) 41 x.enc y.enc (decide (x = y)) := by
  have h : EqA Try.prog (d + 5) 41 x.enc y.enc (decide (x.pair = y.pair) && (decide (x.if_.val = y.if_.val) && (decide (x.hop = y.hop) && true))) := EqA.struct (sa := [x.pair.enc, [I64.v x.if_], x.hop.enc]) (sb := [y.pair.enc, [I64.v y.if_], y.hop.enc]) Try.underlying41 (by kernel_rfl) ⟨by decide, by simp [Bs.len, Pair.enc_len], by simp [Bs.len, Pair.enc_len], _, _, EqP.agg g39 (Pair.enc_len _) (Pair.enc_len _) (eqs39 (d + 0) _ _), ⟨by decide, by simp [Bs.len, Pair.enc_len], by simp [Bs.len, Pair.enc_len], _, _, EqP.int (d := d + 3) g3 Try.underlying3 x.if_.val y.if_.val, ⟨by decide, by simp [Bs.len, Pair.enc_len], by simp [Bs.len, Pair.enc_len], _, _, EqP.agg g35 (Bs.len _) (Bs.len _) (eqs35 (d + 2) _ _), rfl, rfl⟩, rfl⟩, rfl⟩
  rwa [show (decide (x.pair = y.pair) && (decide (x.if_.val = y.if_.val) && (decide (x.hop = y.hop) && true))) = decide (x = y) from (by cases x; cases y; simp [Subtype.ext_iff])] at h
theorem eq41 : EqTy Try.prog 41 (Entry) Entry.enc := ⟨fun x y => eqs41 9995 x y, by kernel_rfl⟩
theorem eqs43 (d : Nat) (x y : Op) : EqA Try.prog (d + 6) 43 x.enc y.enc (decide (x = y)) := by
  have h : EqA Try.prog (d + 6) 43 x.enc y.enc (decide (x.kind = y.kind) && (decide (x.entry = y.entry) && true)) := EqA.struct (sa := [[.int .i64 x.kind], x.entry.enc]) (sb := [[.int .i64 y.kind], y.entry.enc]) Try.underlying43 (by kernel_rfl) ⟨by decide, by simp [Entry.enc_len], by simp [Entry.enc_len], _, _, EqP.int (d := d + 4) g3 Try.underlying3 x.kind y.kind, ⟨by decide, by simp [Entry.enc_len], by simp [Entry.enc_len], _, _, EqP.agg g41 (Entry.enc_len _) (Entry.enc_len _) (eqs41 (d + 0) _ _), rfl, rfl⟩, rfl⟩
  rwa [show (decide (x.kind = y.kind) && (decide (x.entry = y.entry) && true)) = decide (x = y) from (by cases x; cases y; simp [Subtype.ext_iff])] at h
theorem eq43 : EqTy Try.prog 43 (Op) Op.enc := ⟨fun x y => eqs43 9994 x y, by kernel_rfl⟩
theorem kl35 (d : Nat) (x : Bs 16) : HasLits Try.prog (d + 2) 35 x.enc := HasLits.bytes Try.underlying35 Try.underlying5 (by kernel_rfl) (by kernel_rfl) x
theorem kl37 (d : Nat) (x : Prefix) : HasLits Try.prog (d + 3) 37 x.enc := HasLits.struct (sa := [x.a.enc, [I64.v x.len]]) Try.underlying37 (by rw [show List.flatten _ = x.enc from rfl, Prefix.enc_len _]; kernel_rfl) (by kernel_rfl) ⟨by simp [Bs.len], by rw [Bs.len _]; kernel_rfl, kl35 (d + 0) _, ⟨by simp [Bs.len], by kernel_rfl, HasLits.i64 (d := d + 1) Try.underlying3 _, trivial⟩⟩
theorem kl39 (d : Nat) (x : Pair) : HasLits Try.prog (d + 4) 39 x.enc := HasLits.struct (sa := [x.dst.enc, x.src.enc]) Try.underlying39 (by rw [show List.flatten _ = x.enc from rfl, Pair.enc_len _]; kernel_rfl) (by kernel_rfl) ⟨by simp [Prefix.enc_len], by rw [Prefix.enc_len _]; kernel_rfl, kl37 (d + 0) _, ⟨by simp [Prefix.enc_len], by rw [Prefix.enc_len _]; kernel_rfl, kl37 (d + 0) _, trivial⟩⟩
theorem key39 : KeyTy Try.prog 39 (Pair) (fun x => .agg (Pair.enc x).toArray) := KeyTy.agg (m := 8) (by kernel_rfl) (by kernel_rfl) (by decide) (by kernel_rfl) (by kernel_rfl) (fun x => by rw [Pair.enc_len _]; kernel_rfl) (fun x => by rw [show Try.prog.types.size + 1 = 145 + 4 from by kernel_rfl]; exact kl39 _ x) (fun _ _ e => Pair.enc_inj e)
theorem ce3 : CanEnter Try.prog 3 := ⟨_, Try.func3, by kernel_rfl, by kernel_rfl⟩
theorem ce4 : CanEnter Try.prog 4 := ⟨_, Try.func4, by kernel_rfl, by kernel_rfl⟩
theorem ce5 : CanEnter Try.prog 5 := ⟨_, Try.func5, by kernel_rfl, by kernel_rfl⟩
theorem ce6 : CanEnter Try.prog 6 := ⟨_, Try.func6, by kernel_rfl, by kernel_rfl⟩
theorem ce7 : CanEnter Try.prog 7 := ⟨_, Try.func7, by kernel_rfl, by kernel_rfl⟩
theorem ce8 : CanEnter Try.prog 8 := ⟨_, Try.func8, by kernel_rfl, by kernel_rfl⟩
theorem ce9 : CanEnter Try.prog 9 := ⟨_, Try.func9, by kernel_rfl, by kernel_rfl⟩
theorem ce10 : CanEnter Try.prog 10 := ⟨_, Try.func10, by kernel_rfl, by kernel_rfl⟩
theorem ce11 : CanEnter Try.prog 11 := ⟨_, Try.func11, by kernel_rfl, by kernel_rfl⟩
theorem ce12 : CanEnter Try.prog 12 := ⟨_, Try.func12, by kernel_rfl, by kernel_rfl⟩
theorem ce13 : CanEnter Try.prog 13 := ⟨_, Try.func13, by kernel_rfl, by kernel_rfl⟩
theorem ce14 : CanEnter Try.prog 14 := ⟨_, Try.func14, by kernel_rfl, by kernel_rfl⟩
theorem ce15 : CanEnter Try.prog 15 := ⟨_, Try.func15, by kernel_rfl, by kernel_rfl⟩
theorem ce16 : CanEnter Try.prog 16 := ⟨_, Try.func16, by kernel_rfl, by kernel_rfl⟩
theorem ce17 : CanEnter Try.prog 17 := ⟨_, Try.func17, by kernel_rfl, by kernel_rfl⟩
theorem ce18 : CanEnter Try.prog 18 := ⟨_, Try.func18, by kernel_rfl, by kernel_rfl⟩
theorem ce19 : CanEnter Try.prog 19 := ⟨_, Try.func19, by kernel_rfl, by kernel_rfl⟩
theorem ce20 : CanEnter Try.prog 20 := ⟨_, Try.func20, by kernel_rfl, by kernel_rfl⟩
theorem ce21 : CanEnter Try.prog 21 := ⟨_, Try.func21, by kernel_rfl, by kernel_rfl⟩
theorem ce22 : CanEnter Try.prog 22 := ⟨_, Try.func22, by kernel_rfl, by kernel_rfl⟩
theorem ce23 : CanEnter Try.prog 23 := ⟨_, Try.func23, by kernel_rfl, by kernel_rfl⟩
theorem ce24 : CanEnter Try.prog 24 := ⟨_, Try.func24, by kernel_rfl, by kernel_rfl⟩
theorem ce25 : CanEnter Try.prog 25 := ⟨_, Try.func25, by kernel_rfl, by kernel_rfl⟩
theorem ce26 : CanEnter Try.prog 26 := ⟨_, Try.func26, by kernel_rfl, by kernel_rfl⟩
theorem ce27 : CanEnter Try.prog 27 := ⟨_, Try.func27, by kernel_rfl, by kernel_rfl⟩
theorem ce28 : CanEnter Try.prog 28 := ⟨_, Try.func28, by kernel_rfl, by kernel_rfl⟩
theorem ce29 : CanEnter Try.prog 29 := ⟨_, Try.func29, by kernel_rfl, by kernel_rfl⟩
theorem ce30 : CanEnter Try.prog 30 := ⟨_, Try.func30, by kernel_rfl, by kernel_rfl⟩
theorem ce31 : CanEnter Try.prog 31 := ⟨_, Try.func31, by kernel_rfl, by kernel_rfl⟩
theorem ce32 : CanEnter Try.prog 32 := ⟨_, Try.func32, by kernel_rfl, by kernel_rfl⟩
theorem ce33 : CanEnter Try.prog 33 := ⟨_, Try.func33, by kernel_rfl, by kernel_rfl⟩
theorem ce34 : CanEnter Try.prog 34 := ⟨_, Try.func34, by kernel_rfl, by kernel_rfl⟩
theorem ce35 : CanEnter Try.prog 35 := ⟨_, Try.func35, by kernel_rfl, by kernel_rfl⟩
theorem ce36 : CanEnter Try.prog 36 := ⟨_, Try.func36, by kernel_rfl, by kernel_rfl⟩
theorem ce37 : CanEnter Try.prog 37 := ⟨_, Try.func37, by kernel_rfl, by kernel_rfl⟩
theorem ce38 : CanEnter Try.prog 38 := ⟨_, Try.func38, by kernel_rfl, by kernel_rfl⟩
theorem ce39 : CanEnter Try.prog 39 := ⟨_, Try.func39, by kernel_rfl, by kernel_rfl⟩
theorem ce40 : CanEnter Try.prog 40 := ⟨_, Try.func40, by kernel_rfl, by kernel_rfl⟩
theorem ce41 : CanEnter Try.prog 41 := ⟨_, Try.func41, by kernel_rfl, by kernel_rfl⟩
theorem ce42 : CanEnter Try.prog 42 := ⟨_, Try.func42, by kernel_rfl, by kernel_rfl⟩
theorem ce43 : CanEnter Try.prog 43 := ⟨_, Try.func43, by kernel_rfl, by kernel_rfl⟩
theorem ce44 : CanEnter Try.prog 44 := ⟨_, Try.func44, by kernel_rfl, by kernel_rfl⟩
theorem ce45 : CanEnter Try.prog 45 := ⟨_, Try.func45, by kernel_rfl, by kernel_rfl⟩
theorem ce46 : CanEnter Try.prog 46 := ⟨_, Try.func46, by kernel_rfl, by kernel_rfl⟩
theorem ce47 : CanEnter Try.prog 47 := ⟨_, Try.func47, by kernel_rfl, by kernel_rfl⟩
theorem ce48 : CanEnter Try.prog 48 := ⟨_, Try.func48, by kernel_rfl, by kernel_rfl⟩
theorem ce49 : CanEnter Try.prog 49 := ⟨_, Try.func49, by kernel_rfl, by kernel_rfl⟩
theorem ce50 : CanEnter Try.prog 50 := ⟨_, Try.func50, by kernel_rfl, by kernel_rfl⟩
theorem ce51 : CanEnter Try.prog 51 := ⟨_, Try.func51, by kernel_rfl, by kernel_rfl⟩
theorem ce52 : CanEnter Try.prog 52 := ⟨_, Try.func52, by kernel_rfl, by kernel_rfl⟩
theorem ce53 : CanEnter Try.prog 53 := ⟨_, Try.func53, by kernel_rfl, by kernel_rfl⟩
theorem ce54 : CanEnter Try.prog 54 := ⟨_, Try.func54, by kernel_rfl, by kernel_rfl⟩
theorem ce55 : CanEnter Try.prog 55 := ⟨_, Try.func55, by kernel_rfl, by kernel_rfl⟩
theorem ce56 : CanEnter Try.prog 56 := ⟨_, Try.func56, by kernel_rfl, by kernel_rfl⟩
theorem ce57 : CanEnter Try.prog 57 := ⟨_, Try.func57, by kernel_rfl, by kernel_rfl⟩
theorem ce58 : CanEnter Try.prog 58 := ⟨_, Try.func58, by kernel_rfl, by kernel_rfl⟩
theorem ce59 : CanEnter Try.prog 59 := ⟨_, Try.func59, by kernel_rfl, by kernel_rfl⟩
theorem ce60 : CanEnter Try.prog 60 := ⟨_, Try.func60, by kernel_rfl, by kernel_rfl⟩
theorem ce61 : CanEnter Try.prog 61 := ⟨_, Try.func61, by kernel_rfl, by kernel_rfl⟩
theorem ce62 : CanEnter Try.prog 62 := ⟨_, Try.func62, by kernel_rfl, by kernel_rfl⟩
theorem ce63 : CanEnter Try.prog 63 := ⟨_, Try.func63, by kernel_rfl, by kernel_rfl⟩
theorem ce64 : CanEnter Try.prog 64 := ⟨_, Try.func64, by kernel_rfl, by kernel_rfl⟩
theorem ce65 : CanEnter Try.prog 65 := ⟨_, Try.func65, by kernel_rfl, by kernel_rfl⟩
theorem ce66 : CanEnter Try.prog 66 := ⟨_, Try.func66, by kernel_rfl, by kernel_rfl⟩
theorem ce67 : CanEnter Try.prog 67 := ⟨_, Try.func67, by kernel_rfl, by kernel_rfl⟩
theorem ce68 : CanEnter Try.prog 68 := ⟨_, Try.func68, by kernel_rfl, by kernel_rfl⟩
theorem ce69 : CanEnter Try.prog 69 := ⟨_, Try.func69, by kernel_rfl, by kernel_rfl⟩
theorem ce70 : CanEnter Try.prog 70 := ⟨_, Try.func70, by kernel_rfl, by kernel_rfl⟩
theorem ce71 : CanEnter Try.prog 71 := ⟨_, Try.func71, by kernel_rfl, by kernel_rfl⟩
theorem ce72 : CanEnter Try.prog 72 := ⟨_, Try.func72, by kernel_rfl, by kernel_rfl⟩
theorem ce73 : CanEnter Try.prog 73 := ⟨_, Try.func73, by kernel_rfl, by kernel_rfl⟩
theorem ce74 : CanEnter Try.prog 74 := ⟨_, Try.func74, by kernel_rfl, by kernel_rfl⟩
theorem ce76 : CanEnter Try.prog 76 := ⟨_, Try.func76, by kernel_rfl, by kernel_rfl⟩
theorem ce77 : CanEnter Try.prog 77 := ⟨_, Try.func77, by kernel_rfl, by kernel_rfl⟩
theorem ce78 : CanEnter Try.prog 78 := ⟨_, Try.func78, by kernel_rfl, by kernel_rfl⟩
theorem ce79 : CanEnter Try.prog 79 := ⟨_, Try.func79, by kernel_rfl, by kernel_rfl⟩
theorem ce80 : CanEnter Try.prog 80 := ⟨_, Try.func80, by kernel_rfl, by kernel_rfl⟩
theorem ce81 : CanEnter Try.prog 81 := ⟨_, Try.func81, by kernel_rfl, by kernel_rfl⟩
theorem ce82 : CanEnter Try.prog 82 := ⟨_, Try.func82, by kernel_rfl, by kernel_rfl⟩
theorem ce83 : CanEnter Try.prog 83 := ⟨_, Try.func83, by kernel_rfl, by kernel_rfl⟩
theorem ce84 : CanEnter Try.prog 84 := ⟨_, Try.func84, by kernel_rfl, by kernel_rfl⟩
theorem ce85 : CanEnter Try.prog 85 := ⟨_, Try.func85, by kernel_rfl, by kernel_rfl⟩
theorem ce86 : CanEnter Try.prog 86 := ⟨_, Try.func86, by kernel_rfl, by kernel_rfl⟩
theorem ce87 : CanEnter Try.prog 87 := ⟨_, Try.func87, by kernel_rfl, by kernel_rfl⟩
theorem ce88 : CanEnter Try.prog 88 := ⟨_, Try.func88, by kernel_rfl, by kernel_rfl⟩
theorem ce89 : CanEnter Try.prog 89 := ⟨_, Try.func89, by kernel_rfl, by kernel_rfl⟩
theorem ce90 : CanEnter Try.prog 90 := ⟨_, Try.func90, by kernel_rfl, by kernel_rfl⟩
theorem ce91 : CanEnter Try.prog 91 := ⟨_, Try.func91, by kernel_rfl, by kernel_rfl⟩
theorem cmpRow : CmpRow Try.prog 75 := fun _ _ => by kernel_rfl
end Slb
