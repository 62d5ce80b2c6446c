/- F3: a part of the proof that a law of this package holds for every input; no condition. -/
import Derived.Test.YtfjmefldilponaaRows
import Derived.Test.YtfjmefldilponaaS3
namespace Slb
open Go Go.Proofs
theorem g3 : Sca Try.prog 3 := ⟨fun _ => by kernel_rfl, fun _ => by kernel_rfl⟩
theorem z3 : Sz Try.prog 3 1 := g3.size
theorem zero3 : Zero Try.prog 3 (.int .i64 0) := fun _ => by kernel_rfl
theorem g4 : Sca Try.prog 4 := ⟨fun _ => by kernel_rfl, fun _ => by kernel_rfl⟩
theorem z4 : Sz Try.prog 4 1 := g4.size
theorem zero4 : Zero Try.prog 4 (.bool false) := fun _ => by kernel_rfl
theorem g5 : Sca Try.prog 5 := ⟨fun _ => by kernel_rfl, fun _ => by kernel_rfl⟩
theorem z5 : Sz Try.prog 5 1 := g5.size
theorem zero5 : Zero Try.prog 5 (.int .u8 0) := fun _ => by kernel_rfl
theorem g9 : Sca Try.prog 9 := ⟨fun _ => by kernel_rfl, fun _ => by kernel_rfl⟩
theorem z9 : Sz Try.prog 9 1 := g9.size
theorem zero9 : Zero Try.prog 9 (.string ByteArray.empty) := fun _ => by kernel_rfl
theorem g22 : Sca Try.prog 22 := ⟨fun _ => by kernel_rfl, fun _ => by kernel_rfl⟩
theorem z22 : Sz Try.prog 22 1 := g22.size
theorem zero22 : Zero Try.prog 22 (.slice none 0 0) := fun _ => by kernel_rfl
theorem g25 : Sca Try.prog 25 := ⟨fun _ => by kernel_rfl, fun _ => by kernel_rfl⟩
theorem z25 : Sz Try.prog 25 1 := g25.size
theorem zero25 : Zero Try.prog 25 (.pointer none) := fun _ => by kernel_rfl
theorem g28 : Agg Try.prog 28 16 := ⟨fun _ => by kernel_rfl, fun _ => by kernel_rfl⟩
theorem z28 : Sz Try.prog 28 16 := g28.size
theorem zero28 : Zero Try.prog 28 (.agg (Bs.zero 16).enc.toArray) := fun _ => by kernel_rfl
theorem g30 : Agg Try.prog 30 17 := ⟨fun _ => by kernel_rfl, fun _ => by kernel_rfl⟩
theorem z30 : Sz Try.prog 30 17 := g30.size
theorem f30_0 : FieldA Try.prog 30 0 0 := fun _ _ => by kernel_rfl
theorem f30_1 : FieldA Try.prog 30 1 16 := fun _ _ => by kernel_rfl
theorem st30 : StructTy Try.prog 30 Prefix.segs := ⟨fun _ => by kernel_rfl, _, Try.underlying30, fun _ => by kernel_rfl⟩
theorem zero30 : Zero Try.prog 30 (.agg Prefix.zero.enc.toArray) := fun _ => by kernel_rfl
theorem g32 : Agg Try.prog 32 34 := ⟨fun _ => by kernel_rfl, fun _ => by kernel_rfl⟩
theorem z32 : Sz Try.prog 32 34 := g32.size
theorem f32_0 : FieldA Try.prog 32 0 0 := fun _ _ => by kernel_rfl
theorem f32_1 : FieldA Try.prog 32 1 17 := fun _ _ => by kernel_rfl
theorem st32 : StructTy Try.prog 32 Pair.segs := ⟨fun _ => by kernel_rfl, _, Try.underlying32, fun _ => by kernel_rfl⟩
theorem zero32 : Zero Try.prog 32 (.agg Pair.zero.enc.toArray) := fun _ => by kernel_rfl
theorem g34 : Agg Try.prog 34 8 := ⟨fun _ => by kernel_rfl, fun _ => by kernel_rfl⟩
theorem z34 : Sz Try.prog 34 8 := g34.size
theorem zero34 : Zero Try.prog 34 (.agg (Bs.zero 8).enc.toArray) := fun _ => by kernel_rfl
theorem g35 : Sca Try.prog 35 := ⟨fun _ => by kernel_rfl, fun _ => by kernel_rfl⟩
theorem z35 : Sz Try.prog 35 1 := g35.size
theorem zero35 : Zero Try.prog 35 (.int .u16 0) := fun _ => by kernel_rfl
theorem g37 : Agg Try.prog 37 81 := ⟨fun _ => by kernel_rfl, fun _ => by kernel_rfl⟩
theorem z37 : Sz Try.prog 37 81 := g37.size
theorem f37_0 : FieldA Try.prog 37 0 0 := fun _ _ => by kernel_rfl
theorem f37_1 : FieldA Try.prog 37 1 34 := fun _ _ => by kernel_rfl
theorem f37_2 : FieldA Try.prog 37 2 35 := fun _ _ => by kernel_rfl
theorem f37_3 : FieldA Try.prog 37 3 51 := fun _ _ => by kernel_rfl
theorem f37_4 : FieldA Try.prog 37 4 59 := fun _ _ => by kernel_rfl
theorem f37_5 : FieldA Try.prog 37 5 60 := fun _ _ => by kernel_rfl
theorem f37_6 : FieldA Try.prog 37 6 61 := fun _ _ => by kernel_rfl
theorem f37_7 : FieldA Try.prog 37 7 62 := fun _ _ => by kernel_rfl
theorem f37_8 : FieldA Try.prog 37 8 78 := fun _ _ => by kernel_rfl
theorem f37_9 : FieldA Try.prog 37 9 79 := fun _ _ => by kernel_rfl
theorem f37_10 : FieldA Try.prog 37 10 80 := fun _ _ => by kernel_rfl
theorem st37 : StructTy Try.prog 37 Route.segs := ⟨fun _ => by kernel_rfl, _, Try.underlying37, fun _ => by kernel_rfl⟩
theorem zero37 : Zero Try.prog 37 (.agg Route.zero.enc.toArray) := fun _ => by kernel_rfl
theorem g39 : Agg Try.prog 39 84 := ⟨fun _ => by kernel_rfl, fun _ => by kernel_rfl⟩
theorem z39 : Sz Try.prog 39 84 := g39.size
theorem f39_0 : FieldA Try.prog 39 0 0 := fun _ _ => by kernel_rfl
theorem f39_1 : FieldA Try.prog 39 1 1 := fun _ _ => by kernel_rfl
theorem f39_2 : FieldA Try.prog 39 2 2 := fun _ _ => by kernel_rfl
theorem f39_3 : FieldA Try.prog 39 3 83 := fun _ _ => by kernel_rfl
theorem st39 : StructTy Try.prog 39 Law16Act.segs := ⟨fun _ => by kernel_rfl, _, Try.underlying39, fun _ => by kernel_rfl⟩
theorem zero39 : Zero Try.prog 39 (.agg Law16Act.zero.enc.toArray) := fun _ => by kernel_rfl
theorem g40 : Sca Try.prog 40 := ⟨fun _ => by kernel_rfl, fun _ => by kernel_rfl⟩
theorem z40 : Sz Try.prog 40 1 := g40.size
theorem zero40 : Zero Try.prog 40 (.int .i64 0) := fun _ => by kernel_rfl
theorem g43 : Sca Try.prog 43 := ⟨fun _ => by kernel_rfl, fun _ => by kernel_rfl⟩
theorem z43 : Sz Try.prog 43 1 := g43.size
theorem zero43 : Zero Try.prog 43 (.slice none 0 0) := fun _ => by kernel_rfl
theorem g45 : Sca Try.prog 45 := ⟨fun _ => by kernel_rfl, fun _ => by kernel_rfl⟩
theorem z45 : Sz Try.prog 45 1 := g45.size
theorem zero45 : Zero Try.prog 45 (.nilFunc) := fun _ => by kernel_rfl
theorem g46 : Sca Try.prog 46 := ⟨fun _ => by kernel_rfl, fun _ => by kernel_rfl⟩
theorem z46 : Sz Try.prog 46 1 := g46.size
theorem zero46 : Zero Try.prog 46 (.slice none 0 0) := fun _ => by kernel_rfl
theorem g55 : Sca Try.prog 55 := ⟨fun _ => by kernel_rfl, fun _ => by kernel_rfl⟩
theorem z55 : Sz Try.prog 55 1 := g55.size
theorem zero55 : Zero Try.prog 55 (.pointer none) := fun _ => by kernel_rfl
theorem g57 : Agg Try.prog 57 2 := ⟨fun _ => by kernel_rfl, fun _ => by kernel_rfl⟩
theorem z57 : Sz Try.prog 57 2 := g57.size
theorem f57_0 : FieldA Try.prog 57 0 0 := fun _ _ => by kernel_rfl
theorem f57_1 : FieldA Try.prog 57 1 1 := fun _ _ => by kernel_rfl
theorem st57 : StructTy Try.prog 57 Ref16Table.segs := ⟨fun _ => by kernel_rfl, _, Try.underlying57, fun _ => by kernel_rfl⟩
theorem zero57 : Zero Try.prog 57 (.agg Ref16Table.zero.enc.toArray) := fun _ => by kernel_rfl
theorem g74 : Sca Try.prog 74 := ⟨fun _ => by kernel_rfl, fun _ => by kernel_rfl⟩
theorem z74 : Sz Try.prog 74 1 := g74.size
theorem zero74 : Zero Try.prog 74 (.map none) := fun _ => by kernel_rfl
theorem g76 : Agg Try.prog 76 2 := ⟨fun _ => by kernel_rfl, fun _ => by kernel_rfl⟩
theorem z76 : Sz Try.prog 76 2 := g76.size
theorem f76_0 : FieldA Try.prog 76 0 0 := fun _ _ => by kernel_rfl
theorem f76_1 : FieldA Try.prog 76 1 1 := fun _ _ => by kernel_rfl
theorem st76 : StructTy Try.prog 76 RouteTable.segs := ⟨fun _ => by kernel_rfl, _, Try.underlying76, fun _ => by kernel_rfl⟩
theorem zero76 : Zero Try.prog 76 (.agg RouteTable.zero.enc.toArray) := fun _ => by kernel_rfl
theorem g77 : Sca Try.prog 77 := ⟨fun _ => by kernel_rfl, fun _ => by kernel_rfl⟩
theorem z77 : Sz Try.prog 77 1 := g77.size
theorem zero77 : Zero Try.prog 77 (.pointer none) := fun _ => by kernel_rfl
theorem g79 : Agg Try.prog 79 51 := ⟨fun _ => by kernel_rfl, fun _ => by kernel_rfl⟩
theorem z79 : Sz Try.prog 79 51 := g79.size
theorem f79_0 : FieldA Try.prog 79 0 0 := fun _ _ => by kernel_rfl
theorem f79_1 : FieldA Try.prog 79 1 34 := fun _ _ => by kernel_rfl
theorem f79_2 : FieldA Try.prog 79 2 35 := fun _ _ => by kernel_rfl
theorem st79 : StructTy Try.prog 79 RouteKey.segs := ⟨fun _ => by kernel_rfl, _, Try.underlying79, fun _ => by kernel_rfl⟩
theorem zero79 : Zero Try.prog 79 (.agg RouteKey.zero.enc.toArray) := fun _ => by kernel_rfl
theorem g80 : Sca Try.prog 80 := ⟨fun _ => by kernel_rfl, fun _ => by kernel_rfl⟩
theorem z80 : Sz Try.prog 80 1 := g80.size
theorem zero80 : Zero Try.prog 80 (.slice none 0 0) := fun _ => by kernel_rfl
theorem g84 : Sca Try.prog 84 := ⟨fun _ => by kernel_rfl, fun _ => by kernel_rfl⟩
theorem z84 : Sz Try.prog 84 1 := g84.size
theorem zero84 : Zero Try.prog 84 (.nilFunc) := fun _ => by kernel_rfl
theorem g89 : Sca Try.prog 89 := ⟨fun _ => by kernel_rfl, fun _ => by kernel_rfl⟩
theorem z89 : Sz Try.prog 89 1 := g89.size
theorem zero89 : Zero Try.prog 89 (.slice none 0 0) := fun _ => by kernel_rfl
theorem g92 : Sca Try.prog 92 := ⟨fun _ => by kernel_rfl, fun _ => by kernel_rfl⟩
theorem z92 : Sz Try.prog 92 1 := g92.size
theorem zero92 : Zero Try.prog 92 (.nilFunc) := fun _ => by kernel_rfl
theorem g105 : Sca Try.prog 105 := ⟨fun _ => by kernel_rfl, fun _ => by kernel_rfl⟩
theorem z105 : Sz Try.prog 105 1 := g105.size
theorem zero105 : Zero Try.prog 105 (.int .u64 0) := fun _ => by kernel_rfl
theorem g106 : Sca Try.prog 106 := ⟨fun _ => by kernel_rfl, fun _ => by kernel_rfl⟩
theorem z106 : Sz Try.prog 106 1 := g106.size
theorem zero106 : Zero Try.prog 106 (.slice none 0 0) := fun _ => by kernel_rfl
theorem g109 : Sca Try.prog 109 := ⟨fun _ => by kernel_rfl, fun _ => by kernel_rfl⟩
theorem z109 : Sz Try.prog 109 1 := g109.size
theorem zero109 : Zero Try.prog 109 (.slice none 0 0) := fun _ => by kernel_rfl
theorem g111 : Sca Try.prog 111 := ⟨fun _ => by kernel_rfl, fun _ => by kernel_rfl⟩
theorem z111 : Sz Try.prog 111 1 := g111.size
theorem zero111 : Zero Try.prog 111 (.int .i64 0) := fun _ => by kernel_rfl
theorem g118 : Sca Try.prog 118 := ⟨fun _ => by kernel_rfl, fun _ => by kernel_rfl⟩
theorem z118 : Sz Try.prog 118 1 := g118.size
theorem zero118 : Zero Try.prog 118 (.int .u32 0) := fun _ => by kernel_rfl
theorem g120 : Sca Try.prog 120 := ⟨fun _ => by kernel_rfl, fun _ => by kernel_rfl⟩
theorem z120 : Sz Try.prog 120 1 := g120.size
theorem zero120 : Zero Try.prog 120 (.int .u64 0) := fun _ => by kernel_rfl
theorem g121 : Sca Try.prog 121 := ⟨fun _ => by kernel_rfl, fun _ => by kernel_rfl⟩
theorem z121 : Sz Try.prog 121 1 := g121.size
theorem zero121 : Zero Try.prog 121 (.int .u64 0) := fun _ => by kernel_rfl
theorem g125 : Sca Try.prog 125 := ⟨fun _ => by kernel_rfl, fun _ => by kernel_rfl⟩
theorem z125 : Sz Try.prog 125 1 := g125.size
theorem zero125 : Zero Try.prog 125 (.pointer none) := fun _ => by kernel_rfl
theorem g127 : Sca Try.prog 127 := ⟨fun _ => by kernel_rfl, fun _ => by kernel_rfl⟩
theorem z127 : Sz Try.prog 127 1 := g127.size
theorem zero127 : Zero Try.prog 127 (.pointer none) := fun _ => by kernel_rfl
theorem el3 : ElemTy Try.prog 3 1 := .of (by kernel_rfl)
theorem el5 : ElemTy Try.prog 5 1 := .of (by kernel_rfl)
theorem el28 : ElemTy Try.prog 28 16 := .of (by kernel_rfl)
theorem el32 : ElemTy Try.prog 32 34 := .of (by kernel_rfl)
theorem el37 : ElemTy Try.prog 37 81 := .of (by kernel_rfl)
theorem el39 : ElemTy Try.prog 39 84 := .of (by kernel_rfl)
theorem el77 : ElemTy Try.prog 77 1 := .of (by kernel_rfl)
theorem eqs28 (d : Nat) (x y : Bs 16) : EqA Try.prog (d + 2) 28 x.enc y.enc (decide (x = y)) := EqA.bs Try.underlying28 Try.underlying5 (by kernel_rfl) (by kernel_rfl) g5 x y
theorem eq28 : EqTy Try.prog 28 (Bs 16) Bs.enc := ⟨fun x y => eqs28 9998 x y, by kernel_rfl⟩
theorem eqs30 (d : Nat) (x y : Prefix) : EqA Try.prog (d + 3) 30 x.enc y.enc (decide (x = y)) := by
  have h : EqA Try.prog (d + 3) 30 x.enc y.enc (decide (x.a = y.a) && (decide (x.len.val = y.len.val) && true)) := EqA.struct (sa := [x.a.enc, [I64.v x.len]]) (sb := [y.a.enc, [I64.v y.len]]) Try.underlying30 (by kernel_rfl) ⟨by decide, by simp [Bs.len], by simp [Bs.len], _, _, EqP.agg g28 (Bs.len _) (Bs.len _) (eqs28 (d + 0) _ _), ⟨by decide, by simp [Bs.len], by simp [Bs.len], _, _, EqP.int (d := d + 1) g3 Try.underlying3 x.len.val y.len.val, rfl, rfl⟩, rfl⟩
  rwa [show (decide (x.a = y.a) && (decide (x.len.val = y.len.val) && true)) = decide (x = y) from (by cases x; cases y; simp [Subtype.ext_iff])] at h
theorem eqs32 (d : Nat) (x y : Pair) : EqA Try.prog (d + 4) 32 x.enc y.enc (decide (x = y)) := by
  have h : EqA Try.prog (d + 4) 32 x.enc y.enc (decide (x.dst = y.dst) && (decide (x.src = y.src) && true)) := EqA.struct (sa := [x.dst.enc, x.src.enc]) (sb := [y.dst.enc, y.src.enc]) Try.underlying32 (by kernel_rfl) ⟨by decide, by simp [Prefix.enc_len], by simp [Prefix.enc_len], _, _, EqP.agg g30 (Prefix.enc_len _) (Prefix.enc_len _) (eqs30 (d + 0) _ _), ⟨by decide, by simp [Prefix.enc_len], by simp [Prefix.enc_len], _, _, EqP.agg g30 (Prefix.enc_len _) (Prefix.enc_len _) (eqs30 (d + 0) _ _), rfl, rfl⟩, rfl⟩
  rwa [show (decide (x.dst = y.dst) && (decide (x.src = y.src) && true)) = decide (x = y) from (by cases x; cases y; simp [Subtype.ext_iff])] at h
theorem eq32 : EqTy Try.prog 32 (Pair) Pair.enc := ⟨fun x y => eqs32 9996 x y, by kernel_rfl⟩
theorem eqs34 (d : Nat) (x y : Bs 8) : EqA Try.prog (d + 2) 34 x.enc y.enc (decide (x = y)) := EqA.bs Try.underlying34 Try.underlying5 (by kernel_rfl) (by kernel_rfl) g5 x y
theorem eq34 : EqTy Try.prog 34 (Bs 8) Bs.enc := ⟨fun x y => eqs34 9998 x y, by kernel_rfl⟩
theorem eqs37 (d : Nat) (x y : Route) : EqA Try.prog (d + 5) 37 x.enc y.enc (decide (x = y)) := by
  have h : EqA Try.prog (d + 5) 37 x.enc y.enc (decide (x.pair = y.pair) && (decide (x.if_.val = y.if_.val) && (decide (x.from_ = y.from_) && (decide (x.id_ = y.id_) && (decide (x.seqno = y.seqno) && (decide (x.ref = y.ref) && (decide (x.metric = y.metric) && (decide (x.hop = y.hop) && (decide (x.until_ = y.until_) && (decide (x.hold = y.hold) && (decide (x.selected = y.selected) && true))))))))))) := EqA.struct (sa := [x.pair.enc, [I64.v x.if_], x.from_.enc, x.id_.enc, [.int .u16 x.seqno], [.int .u16 x.ref], [.int .u16 x.metric], x.hop.enc, [.int .i64 x.until_], [.int .i64 x.hold], [.bool x.selected]]) (sb := [y.pair.enc, [I64.v y.if_], y.from_.enc, y.id_.enc, [.int .u16 y.seqno], [.int .u16 y.ref], [.int .u16 y.metric], y.hop.enc, [.int .i64 y.until_], [.int .i64 y.hold], [.bool y.selected]]) Try.underlying37 (by kernel_rfl) ⟨by decide, by simp [Bs.len, Pair.enc_len], by simp [Bs.len, Pair.enc_len], _, _, EqP.agg g32 (Pair.enc_len _) (Pair.enc_len _) (eqs32 (d + 0) _ _), ⟨by decide, by simp [Bs.len, Pair.enc_len], by simp [Bs.len, Pair.enc_len], _, _, EqP.int (d := d + 3) g3 Try.underlying3 x.if_.val y.if_.val, ⟨by decide, by simp [Bs.len, Pair.enc_len], by simp [Bs.len, Pair.enc_len], _, _, EqP.agg g28 (Bs.len _) (Bs.len _) (eqs28 (d + 2) _ _), ⟨by decide, by simp [Bs.len, Pair.enc_len], by simp [Bs.len, Pair.enc_len], _, _, EqP.agg g34 (Bs.len _) (Bs.len _) (eqs34 (d + 2) _ _), ⟨by decide, by simp [Bs.len, Pair.enc_len], by simp [Bs.len, Pair.enc_len], _, _, EqP.int (d := d + 3) g35 Try.underlying35 x.seqno y.seqno, ⟨by decide, by simp [Bs.len, Pair.enc_len], by simp [Bs.len, Pair.enc_len], _, _, EqP.int (d := d + 3) g35 Try.underlying35 x.ref y.ref, ⟨by decide, by simp [Bs.len, Pair.enc_len], by simp [Bs.len, Pair.enc_len], _, _, EqP.int (d := d + 3) g35 Try.underlying35 x.metric y.metric, ⟨by decide, by simp [Bs.len, Pair.enc_len], by simp [Bs.len, Pair.enc_len], _, _, EqP.agg g28 (Bs.len _) (Bs.len _) (eqs28 (d + 2) _ _), ⟨by decide, by simp [Bs.len, Pair.enc_len], by simp [Bs.len, Pair.enc_len], _, _, EqP.int (d := d + 3) g3 Try.underlying3 x.until_ y.until_, ⟨by decide, by simp [Bs.len, Pair.enc_len], by simp [Bs.len, Pair.enc_len], _, _, EqP.int (d := d + 3) g3 Try.underlying3 x.hold y.hold, ⟨by decide, by simp [Bs.len, Pair.enc_len], by simp [Bs.len, Pair.enc_len], _, _, EqP.bool (d := d + 3) g4 Try.underlying4 x.selected y.selected, rfl, rfl⟩, rfl⟩, rfl⟩, rfl⟩, rfl⟩, rfl⟩, rfl⟩, rfl⟩, rfl⟩, rfl⟩, rfl⟩
  rwa [show (decide (x.pair = y.pair) && (decide (x.if_.val = y.if_.val) && (decide (x.from_ = y.from_) && (decide (x.id_ = y.id_) && (decide (x.seqno = y.seqno) && (decide (x.ref = y.ref) && (decide (x.metric = y.metric) && (decide (x.hop = y.hop) && (decide (x.until_ = y.until_) && (decide (x.hold = y.hold) && (decide (x.selected = y.selected) && true))))))))))) = decide (x = y) from (by cases x; cases y; simp [Subtype.ext_iff])] at h
theorem eq37 : EqTy Try.prog 37 (Route) Route.enc := ⟨fun x y => eqs37 9995 x y, by kernel_rfl⟩
theorem kl28 (d : Nat) (x : Bs 16) : HasLits Try.prog (d + 2) 28 x.enc := HasLits.bytes Try.underlying28 Try.underlying5 (by kernel_rfl) (by kernel_rfl) x
theorem kl30 (d : Nat) (x : Prefix) : HasLits Try.prog (d + 3) 30 x.enc := HasLits.struct (sa := [x.a.enc, [I64.v x.len]]) Try.underlying30 (by rw [show List.flatten _ = x.enc from rfl, Prefix.enc_len _]; kernel_rfl) (by kernel_rfl) ⟨by simp [Bs.len], by rw [Bs.len _]; kernel_rfl, kl28 (d + 0) _, ⟨by simp [Bs.len], by kernel_rfl, HasLits.i64 (d := d + 1) Try.underlying3 _, trivial⟩⟩
theorem kl32 (d : Nat) (x : Pair) : HasLits Try.prog (d + 4) 32 x.enc := HasLits.struct (sa := [x.dst.enc, x.src.enc]) Try.underlying32 (by rw [show List.flatten _ = x.enc from rfl, Pair.enc_len _]; kernel_rfl) (by kernel_rfl) ⟨by simp [Prefix.enc_len], by rw [Prefix.enc_len _]; kernel_rfl, kl30 (d + 0) _, ⟨by simp [Prefix.enc_len], by rw [Prefix.enc_len _]; kernel_rfl, kl30 (d + 0) _, trivial⟩⟩
theorem kl79 (d : Nat) (x : RouteKey) : HasLits Try.prog (d + 5) 79 x.enc := HasLits.struct (sa := [x.p.enc, [I64.v x.i], x.from_.enc]) Try.underlying79 (by rw [show List.flatten _ = x.enc from rfl, RouteKey.enc_len _]; kernel_rfl) (by kernel_rfl) ⟨by simp [Bs.len, Pair.enc_len], by rw [Pair.enc_len _]; kernel_rfl, kl32 (d + 0) _, ⟨by simp [Bs.len, Pair.enc_len], by kernel_rfl, HasLits.i64 (d := d + 3) Try.underlying3 _, ⟨by simp [Bs.len, Pair.enc_len], by rw [Bs.len _]; kernel_rfl, kl28 (d + 2) _, trivial⟩⟩⟩
theorem key79 : KeyTy Try.prog 79 (RouteKey) (fun x => .agg (RouteKey.enc x).toArray) := KeyTy.agg (m := 8) (by kernel_rfl) (by kernel_rfl) (by decide) (by kernel_rfl) (by kernel_rfl) (fun x => by rw [RouteKey.enc_len _]; kernel_rfl) (fun x => by rw [show Try.prog.types.size + 1 = 141 + 5 from by kernel_rfl]; exact kl79 _ x) (fun _ _ e => RouteKey.enc_inj e)
theorem ce3 : CanEnter Try.prog 3 := ⟨_, Try.func3, by kernel_rfl, by kernel_rfl⟩
theorem ce4 : CanEnter Try.prog 4 := ⟨_, Try.func4, by kernel_rfl, by kernel_rfl⟩
theorem ce5 : CanEnter Try.prog 5 := ⟨_, Try.func5, by kernel_rfl, by kernel_rfl⟩
theorem ce6 : CanEnter Try.prog 6 := ⟨_, Try.func6, by kernel_rfl, by kernel_rfl⟩
theorem ce7 : CanEnter Try.prog 7 := ⟨_, Try.func7, by kernel_rfl, by kernel_rfl⟩
theorem ce8 : CanEnter Try.prog 8 := ⟨_, Try.func8, by kernel_rfl, by kernel_rfl⟩
theorem ce9 : CanEnter Try.prog 9 := ⟨_, Try.func9, by kernel_rfl, by kernel_rfl⟩
theorem ce10 : CanEnter Try.prog 10 := ⟨_, Try.func10, by kernel_rfl, by kernel_rfl⟩
theorem ce11 : CanEnter Try.prog 11 := ⟨_, Try.func11, by kernel_rfl, by kernel_rfl⟩
theorem ce12 : CanEnter Try.prog 12 := ⟨_, Try.func12, by kernel_rfl, by kernel_rfl⟩
theorem ce13 : CanEnter Try.prog 13 := ⟨_, Try.func13, by kernel_rfl, by kernel_rfl⟩
theorem ce14 : CanEnter Try.prog 14 := ⟨_, Try.func14, by kernel_rfl, by kernel_rfl⟩
theorem ce15 : CanEnter Try.prog 15 := ⟨_, Try.func15, by kernel_rfl, by kernel_rfl⟩
theorem ce16 : CanEnter Try.prog 16 := ⟨_, Try.func16, by kernel_rfl, by kernel_rfl⟩
theorem ce17 : CanEnter Try.prog 17 := ⟨_, Try.func17, by kernel_rfl, by kernel_rfl⟩
theorem ce18 : CanEnter Try.prog 18 := ⟨_, Try.func18, by kernel_rfl, by kernel_rfl⟩
theorem ce19 : CanEnter Try.prog 19 := ⟨_, Try.func19, by kernel_rfl, by kernel_rfl⟩
theorem ce20 : CanEnter Try.prog 20 := ⟨_, Try.func20, by kernel_rfl, by kernel_rfl⟩
theorem ce21 : CanEnter Try.prog 21 := ⟨_, Try.func21, by kernel_rfl, by kernel_rfl⟩
theorem ce22 : CanEnter Try.prog 22 := ⟨_, Try.func22, by kernel_rfl, by kernel_rfl⟩
theorem ce23 : CanEnter Try.prog 23 := ⟨_, Try.func23, by kernel_rfl, by kernel_rfl⟩
theorem ce24 : CanEnter Try.prog 24 := ⟨_, Try.func24, by kernel_rfl, by kernel_rfl⟩
theorem ce25 : CanEnter Try.prog 25 := ⟨_, Try.func25, by kernel_rfl, by kernel_rfl⟩
theorem ce26 : CanEnter Try.prog 26 := ⟨_, Try.func26, by kernel_rfl, by kernel_rfl⟩
theorem ce27 : CanEnter Try.prog 27 := ⟨_, Try.func27, by kernel_rfl, by kernel_rfl⟩
theorem ce28 : CanEnter Try.prog 28 := ⟨_, Try.func28, by kernel_rfl, by kernel_rfl⟩
theorem ce29 : CanEnter Try.prog 29 := ⟨_, Try.func29, by kernel_rfl, by kernel_rfl⟩
theorem ce30 : CanEnter Try.prog 30 := ⟨_, Try.func30, by kernel_rfl, by kernel_rfl⟩
theorem ce31 : CanEnter Try.prog 31 := ⟨_, Try.func31, by kernel_rfl, by kernel_rfl⟩
theorem ce32 : CanEnter Try.prog 32 := ⟨_, Try.func32, by kernel_rfl, by kernel_rfl⟩
theorem ce33 : CanEnter Try.prog 33 := ⟨_, Try.func33, by kernel_rfl, by kernel_rfl⟩
theorem ce34 : CanEnter Try.prog 34 := ⟨_, Try.func34, by kernel_rfl, by kernel_rfl⟩
theorem ce35 : CanEnter Try.prog 35 := ⟨_, Try.func35, by kernel_rfl, by kernel_rfl⟩
theorem ce36 : CanEnter Try.prog 36 := ⟨_, Try.func36, by kernel_rfl, by kernel_rfl⟩
theorem ce37 : CanEnter Try.prog 37 := ⟨_, Try.func37, by kernel_rfl, by kernel_rfl⟩
theorem ce38 : CanEnter Try.prog 38 := ⟨_, Try.func38, by kernel_rfl, by kernel_rfl⟩
theorem ce39 : CanEnter Try.prog 39 := ⟨_, Try.func39, by kernel_rfl, by kernel_rfl⟩
theorem ce40 : CanEnter Try.prog 40 := ⟨_, Try.func40, by kernel_rfl, by kernel_rfl⟩
theorem ce41 : CanEnter Try.prog 41 := ⟨_, Try.func41, by kernel_rfl, by kernel_rfl⟩
theorem ce42 : CanEnter Try.prog 42 := ⟨_, Try.func42, by kernel_rfl, by kernel_rfl⟩
theorem ce43 : CanEnter Try.prog 43 := ⟨_, Try.func43, by kernel_rfl, by kernel_rfl⟩
theorem ce44 : CanEnter Try.prog 44 := ⟨_, Try.func44, by kernel_rfl, by kernel_rfl⟩
theorem ce45 : CanEnter Try.prog 45 := ⟨_, Try.func45, by kernel_rfl, by kernel_rfl⟩
theorem ce46 : CanEnter Try.prog 46 := ⟨_, Try.func46, by kernel_rfl, by kernel_rfl⟩
theorem ce47 : CanEnter Try.prog 47 := ⟨_, Try.func47, by kernel_rfl, by kernel_rfl⟩
theorem ce48 : CanEnter Try.prog 48 := ⟨_, Try.func48, by kernel_rfl, by kernel_rfl⟩
theorem ce49 : CanEnter Try.prog 49 := ⟨_, Try.func49, by kernel_rfl, by kernel_rfl⟩
theorem ce50 : CanEnter Try.prog 50 := ⟨_, Try.func50, by kernel_rfl, by kernel_rfl⟩
theorem ce51 : CanEnter Try.prog 51 := ⟨_, Try.func51, by kernel_rfl, by kernel_rfl⟩
theorem ce52 : CanEnter Try.prog 52 := ⟨_, Try.func52, by kernel_rfl, by kernel_rfl⟩
theorem ce53 : CanEnter Try.prog 53 := ⟨_, Try.func53, by kernel_rfl, by kernel_rfl⟩
theorem ce54 : CanEnter Try.prog 54 := ⟨_, Try.func54, by kernel_rfl, by kernel_rfl⟩
theorem ce55 : CanEnter Try.prog 55 := ⟨_, Try.func55, by kernel_rfl, by kernel_rfl⟩
theorem ce56 : CanEnter Try.prog 56 := ⟨_, Try.func56, by kernel_rfl, by kernel_rfl⟩
theorem ce57 : CanEnter Try.prog 57 := ⟨_, Try.func57, by kernel_rfl, by kernel_rfl⟩
theorem ce58 : CanEnter Try.prog 58 := ⟨_, Try.func58, by kernel_rfl, by kernel_rfl⟩
theorem ce59 : CanEnter Try.prog 59 := ⟨_, Try.func59, by kernel_rfl, by kernel_rfl⟩
theorem ce60 : CanEnter Try.prog 60 := ⟨_, Try.func60, by kernel_rfl, by kernel_rfl⟩
theorem ce61 : CanEnter Try.prog 61 := ⟨_, Try.func61, by kernel_rfl, by kernel_rfl⟩
theorem ce62 : CanEnter Try.prog 62 := ⟨_, Try.func62, by kernel_rfl, by kernel_rfl⟩
theorem ce63 : CanEnter Try.prog 63 := ⟨_, Try.func63, by kernel_rfl, by kernel_rfl⟩
theorem ce64 : CanEnter Try.prog 64 := ⟨_, Try.func64, by kernel_rfl, by kernel_rfl⟩
theorem ce65 : CanEnter Try.prog 65 := ⟨_, Try.func65, by kernel_rfl, by kernel_rfl⟩
theorem ce66 : CanEnter Try.prog 66 := ⟨_, Try.func66, by kernel_rfl, by kernel_rfl⟩
theorem ce67 : CanEnter Try.prog 67 := ⟨_, Try.func67, by kernel_rfl, by kernel_rfl⟩
theorem ce68 : CanEnter Try.prog 68 := ⟨_, Try.func68, by kernel_rfl, by kernel_rfl⟩
theorem ce69 : CanEnter Try.prog 69 := ⟨_, Try.func69, by kernel_rfl, by kernel_rfl⟩
theorem ce70 : CanEnter Try.prog 70 := ⟨_, Try.func70, by kernel_rfl, by kernel_rfl⟩
theorem ce71 : CanEnter Try.prog 71 := ⟨_, Try.func71, by kernel_rfl, by kernel_rfl⟩
theorem ce72 : CanEnter Try.prog 72 := ⟨_, Try.func72, by kernel_rfl, by kernel_rfl⟩
theorem ce73 : CanEnter Try.prog 73 := ⟨_, Try.func73, by kernel_rfl, by kernel_rfl⟩
theorem ce74 : CanEnter Try.prog 74 := ⟨_, Try.func74, by kernel_rfl, by kernel_rfl⟩
theorem ce75 : CanEnter Try.prog 75 := ⟨_, Try.func75, by kernel_rfl, by kernel_rfl⟩
theorem ce76 : CanEnter Try.prog 76 := ⟨_, Try.func76, by kernel_rfl, by kernel_rfl⟩
theorem ce77 : CanEnter Try.prog 77 := ⟨_, Try.func77, by kernel_rfl, by kernel_rfl⟩
theorem ce78 : CanEnter Try.prog 78 := ⟨_, Try.func78, by kernel_rfl, by kernel_rfl⟩
theorem ce80 : CanEnter Try.prog 80 := ⟨_, Try.func80, by kernel_rfl, by kernel_rfl⟩
theorem ce81 : CanEnter Try.prog 81 := ⟨_, Try.func81, by kernel_rfl, by kernel_rfl⟩
theorem ce82 : CanEnter Try.prog 82 := ⟨_, Try.func82, by kernel_rfl, by kernel_rfl⟩
theorem ce83 : CanEnter Try.prog 83 := ⟨_, Try.func83, by kernel_rfl, by kernel_rfl⟩
theorem ce84 : CanEnter Try.prog 84 := ⟨_, Try.func84, by kernel_rfl, by kernel_rfl⟩
theorem ce85 : CanEnter Try.prog 85 := ⟨_, Try.func85, by kernel_rfl, by kernel_rfl⟩
theorem ce86 : CanEnter Try.prog 86 := ⟨_, Try.func86, by kernel_rfl, by kernel_rfl⟩
theorem cmpRow : CmpRow Try.prog 79 := fun _ _ => by kernel_rfl
end Slb
