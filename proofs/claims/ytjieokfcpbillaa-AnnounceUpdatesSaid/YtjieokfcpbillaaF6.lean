/- F6: a part of the proof that a law of this package holds for every input; no condition. -/
import Derived.Test.YtjieokfcpbillaaRows
import Derived.Test.YtjieokfcpbillaaS6
namespace Slb
open Go Go.Proofs
theorem g3 : Sca Try.prog 3 := ⟨fun _ => by kernel_rfl, fun _ => by kernel_rfl⟩
theorem z3 : Sz Try.prog 3 1 := g3.size
theorem zero3 : Zero Try.prog 3 (.int .i64 0) := fun _ => by kernel_rfl
theorem g4 : Sca Try.prog 4 := ⟨fun _ => by kernel_rfl, fun _ => by kernel_rfl⟩
theorem z4 : Sz Try.prog 4 1 := g4.size
theorem zero4 : Zero Try.prog 4 (.bool false) := fun _ => by kernel_rfl
theorem g5 : Sca Try.prog 5 := ⟨fun _ => by kernel_rfl, fun _ => by kernel_rfl⟩
theorem z5 : Sz Try.prog 5 1 := g5.size
theorem zero5 : Zero Try.prog 5 (.int .u8 0) := fun _ => by kernel_rfl
theorem g9 : Sca Try.prog 9 := ⟨fun _ => by kernel_rfl, fun _ => by kernel_rfl⟩
theorem z9 : Sz Try.prog 9 1 := g9.size
theorem zero9 : Zero Try.prog 9 (.string ByteArray.empty) := fun _ => by kernel_rfl
theorem g23 : Agg Try.prog 23 16 := ⟨fun _ => by kernel_rfl, fun _ => by kernel_rfl⟩
theorem z23 : Sz Try.prog 23 16 := g23.size
theorem zero23 : Zero Try.prog 23 (.agg (Bs.zero 16).enc.toArray) := fun _ => by kernel_rfl
theorem g25 : Agg Try.prog 25 5 := ⟨fun _ => by kernel_rfl, fun _ => by kernel_rfl⟩
theorem z25 : Sz Try.prog 25 5 := g25.size
theorem f25_0 : FieldA Try.prog 25 0 0 := fun _ _ => by kernel_rfl
theorem f25_1 : FieldA Try.prog 25 1 1 := fun _ _ => by kernel_rfl
theorem f25_2 : FieldA Try.prog 25 2 2 := fun _ _ => by kernel_rfl
theorem f25_3 : FieldA Try.prog 25 3 3 := fun _ _ => by kernel_rfl
theorem f25_4 : FieldA Try.prog 25 4 4 := fun _ _ => by kernel_rfl
theorem st25 : StructTy Try.prog 25 Rtt.segs := ⟨fun _ => by kernel_rfl, _, Try.underlying25, fun _ => by kernel_rfl⟩
theorem zero25 : Zero Try.prog 25 (.agg Rtt.zero.enc.toArray) := fun _ => by kernel_rfl
theorem g27 : Agg Try.prog 27 43 := ⟨fun _ => by kernel_rfl, fun _ => by kernel_rfl⟩
theorem z27 : Sz Try.prog 27 43 := g27.size
theorem f27_0 : FieldA Try.prog 27 0 0 := fun _ _ => by kernel_rfl
theorem f27_1 : FieldA Try.prog 27 1 1 := fun _ _ => by kernel_rfl
theorem f27_2 : FieldA Try.prog 27 2 2 := fun _ _ => by kernel_rfl
theorem f27_3 : FieldA Try.prog 27 3 3 := fun _ _ => by kernel_rfl
theorem f27_4 : FieldA Try.prog 27 4 4 := fun _ _ => by kernel_rfl
theorem f27_5 : FieldA Try.prog 27 5 5 := fun _ _ => by kernel_rfl
theorem f27_6 : FieldA Try.prog 27 6 6 := fun _ _ => by kernel_rfl
theorem f27_7 : FieldA Try.prog 27 7 22 := fun _ _ => by kernel_rfl
theorem f27_8 : FieldA Try.prog 27 8 38 := fun _ _ => by kernel_rfl
theorem st27 : StructTy Try.prog 27 IfConf.segs := ⟨fun _ => by kernel_rfl, _, Try.underlying27, fun _ => by kernel_rfl⟩
theorem zero27 : Zero Try.prog 27 (.agg IfConf.zero.enc.toArray) := fun _ => by kernel_rfl
theorem g28 : Sca Try.prog 28 := ⟨fun _ => by kernel_rfl, fun _ => by kernel_rfl⟩
theorem z28 : Sz Try.prog 28 1 := g28.size
theorem zero28 : Zero Try.prog 28 (.slice none 0 0) := fun _ => by kernel_rfl
theorem g30 : Sca Try.prog 30 := ⟨fun _ => by kernel_rfl, fun _ => by kernel_rfl⟩
theorem z30 : Sz Try.prog 30 1 := g30.size
theorem zero30 : Zero Try.prog 30 (.slice none 0 0) := fun _ => by kernel_rfl
theorem g33 : Sca Try.prog 33 := ⟨fun _ => by kernel_rfl, fun _ => by kernel_rfl⟩
theorem z33 : Sz Try.prog 33 1 := g33.size
theorem zero33 : Zero Try.prog 33 (.pointer none) := fun _ => by kernel_rfl
theorem g35 : Sca Try.prog 35 := ⟨fun _ => by kernel_rfl, fun _ => by kernel_rfl⟩
theorem z35 : Sz Try.prog 35 1 := g35.size
theorem zero35 : Zero Try.prog 35 (.slice none 0 0) := fun _ => by kernel_rfl
theorem g36 : Sca Try.prog 36 := ⟨fun _ => by kernel_rfl, fun _ => by kernel_rfl⟩
theorem z36 : Sz Try.prog 36 1 := g36.size
theorem zero36 : Zero Try.prog 36 (.slice none 0 0) := fun _ => by kernel_rfl
theorem g37 : Sca Try.prog 37 := ⟨fun _ => by kernel_rfl, fun _ => by kernel_rfl⟩
theorem z37 : Sz Try.prog 37 1 := g37.size
theorem zero37 : Zero Try.prog 37 (.slice none 0 0) := fun _ => by kernel_rfl
theorem g39 : Sca Try.prog 39 := ⟨fun _ => by kernel_rfl, fun _ => by kernel_rfl⟩
theorem z39 : Sz Try.prog 39 1 := g39.size
theorem zero39 : Zero Try.prog 39 (.slice none 0 0) := fun _ => by kernel_rfl
theorem g41 : Agg Try.prog 41 3 := ⟨fun _ => by kernel_rfl, fun _ => by kernel_rfl⟩
theorem z41 : Sz Try.prog 41 3 := g41.size
theorem f41_0 : FieldA Try.prog 41 0 0 := fun _ _ => by kernel_rfl
theorem f41_1 : FieldA Try.prog 41 1 1 := fun _ _ => by kernel_rfl
theorem f41_2 : FieldA Try.prog 41 2 2 := fun _ _ => by kernel_rfl
theorem st41 : StructTy Try.prog 41 Law21Act.segs := ⟨fun _ => by kernel_rfl, _, Try.underlying41, fun _ => by kernel_rfl⟩
theorem zero41 : Zero Try.prog 41 (.agg Law21Act.zero.enc.toArray) := fun _ => by kernel_rfl
theorem g43 : Agg Try.prog 43 17 := ⟨fun _ => by kernel_rfl, fun _ => by kernel_rfl⟩
theorem z43 : Sz Try.prog 43 17 := g43.size
theorem f43_0 : FieldA Try.prog 43 0 0 := fun _ _ => by kernel_rfl
theorem f43_1 : FieldA Try.prog 43 1 16 := fun _ _ => by kernel_rfl
theorem st43 : StructTy Try.prog 43 Prefix.segs := ⟨fun _ => by kernel_rfl, _, Try.underlying43, fun _ => by kernel_rfl⟩
theorem zero43 : Zero Try.prog 43 (.agg Prefix.zero.enc.toArray) := fun _ => by kernel_rfl
theorem g45 : Agg Try.prog 45 34 := ⟨fun _ => by kernel_rfl, fun _ => by kernel_rfl⟩
theorem z45 : Sz Try.prog 45 34 := g45.size
theorem f45_0 : FieldA Try.prog 45 0 0 := fun _ _ => by kernel_rfl
theorem f45_1 : FieldA Try.prog 45 1 17 := fun _ _ => by kernel_rfl
theorem st45 : StructTy Try.prog 45 Pair.segs := ⟨fun _ => by kernel_rfl, _, Try.underlying45, fun _ => by kernel_rfl⟩
theorem zero45 : Zero Try.prog 45 (.agg Pair.zero.enc.toArray) := fun _ => by kernel_rfl
theorem g46 : Sca Try.prog 46 := ⟨fun _ => by kernel_rfl, fun _ => by kernel_rfl⟩
theorem z46 : Sz Try.prog 46 1 := g46.size
theorem zero46 : Zero Try.prog 46 (.int .u16 0) := fun _ => by kernel_rfl
theorem g48 : Agg Try.prog 48 8 := ⟨fun _ => by kernel_rfl, fun _ => by kernel_rfl⟩
theorem z48 : Sz Try.prog 48 8 := g48.size
theorem zero48 : Zero Try.prog 48 (.agg (Bs.zero 8).enc.toArray) := fun _ => by kernel_rfl
theorem g49 : Sca Try.prog 49 := ⟨fun _ => by kernel_rfl, fun _ => by kernel_rfl⟩
theorem z49 : Sz Try.prog 49 1 := g49.size
theorem zero49 : Zero Try.prog 49 (.slice none 0 0) := fun _ => by kernel_rfl
theorem g51 : Agg Try.prog 51 68 := ⟨fun _ => by kernel_rfl, fun _ => by kernel_rfl⟩
theorem z51 : Sz Try.prog 51 68 := g51.size
theorem f51_0 : FieldA Try.prog 51 0 0 := fun _ _ => by kernel_rfl
theorem f51_1 : FieldA Try.prog 51 1 1 := fun _ _ => by kernel_rfl
theorem f51_2 : FieldA Try.prog 51 2 2 := fun _ _ => by kernel_rfl
theorem f51_3 : FieldA Try.prog 51 3 3 := fun _ _ => by kernel_rfl
theorem f51_4 : FieldA Try.prog 51 4 4 := fun _ _ => by kernel_rfl
theorem f51_5 : FieldA Try.prog 51 5 5 := fun _ _ => by kernel_rfl
theorem f51_6 : FieldA Try.prog 51 6 6 := fun _ _ => by kernel_rfl
theorem f51_7 : FieldA Try.prog 51 7 7 := fun _ _ => by kernel_rfl
theorem f51_8 : FieldA Try.prog 51 8 8 := fun _ _ => by kernel_rfl
theorem f51_9 : FieldA Try.prog 51 9 9 := fun _ _ => by kernel_rfl
theorem f51_10 : FieldA Try.prog 51 10 17 := fun _ _ => by kernel_rfl
theorem f51_11 : FieldA Try.prog 51 11 33 := fun _ _ => by kernel_rfl
theorem f51_12 : FieldA Try.prog 51 12 67 := fun _ _ => by kernel_rfl
theorem st51 : StructTy Try.prog 51 Tlv.segs := ⟨fun _ => by kernel_rfl, _, Try.underlying51, fun _ => by kernel_rfl⟩
theorem zero51 : Zero Try.prog 51 (.agg Tlv.zero.enc.toArray) := fun _ => by kernel_rfl
theorem g53 : Sca Try.prog 53 := ⟨fun _ => by kernel_rfl, fun _ => by kernel_rfl⟩
theorem z53 : Sz Try.prog 53 1 := g53.size
theorem zero53 : Zero Try.prog 53 (.nilFunc) := fun _ => by kernel_rfl
theorem g60 : Agg Try.prog 60 44 := ⟨fun _ => by kernel_rfl, fun _ => by kernel_rfl⟩
theorem z60 : Sz Try.prog 60 44 := g60.size
theorem f60_0 : FieldA Try.prog 60 0 0 := fun _ _ => by kernel_rfl
theorem f60_1 : FieldA Try.prog 60 1 34 := fun _ _ => by kernel_rfl
theorem f60_2 : FieldA Try.prog 60 2 42 := fun _ _ => by kernel_rfl
theorem f60_3 : FieldA Try.prog 60 3 43 := fun _ _ => by kernel_rfl
theorem st60 : StructTy Try.prog 60 Offer.segs := ⟨fun _ => by kernel_rfl, _, Try.underlying60, fun _ => by kernel_rfl⟩
theorem zero60 : Zero Try.prog 60 (.agg Offer.zero.enc.toArray) := fun _ => by kernel_rfl
theorem g66 : Sca Try.prog 66 := ⟨fun _ => by kernel_rfl, fun _ => by kernel_rfl⟩
theorem z66 : Sz Try.prog 66 1 := g66.size
theorem zero66 : Zero Try.prog 66 (.slice none 0 0) := fun _ => by kernel_rfl
theorem g67 : Sca Try.prog 67 := ⟨fun _ => by kernel_rfl, fun _ => by kernel_rfl⟩
theorem z67 : Sz Try.prog 67 1 := g67.size
theorem zero67 : Zero Try.prog 67 (.slice none 0 0) := fun _ => by kernel_rfl
theorem g69 : Agg Try.prog 69 15 := ⟨fun _ => by kernel_rfl, fun _ => by kernel_rfl⟩
theorem z69 : Sz Try.prog 69 15 := g69.size
theorem f69_0 : FieldA Try.prog 69 0 0 := fun _ _ => by kernel_rfl
theorem f69_1 : FieldA Try.prog 69 1 8 := fun _ _ => by kernel_rfl
theorem f69_2 : FieldA Try.prog 69 2 9 := fun _ _ => by kernel_rfl
theorem f69_3 : FieldA Try.prog 69 3 10 := fun _ _ => by kernel_rfl
theorem f69_4 : FieldA Try.prog 69 4 11 := fun _ _ => by kernel_rfl
theorem f69_5 : FieldA Try.prog 69 5 12 := fun _ _ => by kernel_rfl
theorem f69_6 : FieldA Try.prog 69 6 13 := fun _ _ => by kernel_rfl
theorem f69_7 : FieldA Try.prog 69 7 14 := fun _ _ => by kernel_rfl
theorem st69 : StructTy Try.prog 69 Config.segs := ⟨fun _ => by kernel_rfl, _, Try.underlying69, fun _ => by kernel_rfl⟩
theorem zero69 : Zero Try.prog 69 (.agg Config.zero.enc.toArray) := fun _ => by kernel_rfl
theorem g72 : Sca Try.prog 72 := ⟨fun _ => by kernel_rfl, fun _ => by kernel_rfl⟩
theorem z72 : Sz Try.prog 72 1 := g72.size
theorem zero72 : Zero Try.prog 72 (.slice none 0 0) := fun _ => by kernel_rfl
theorem g74 : Agg Try.prog 74 1 := ⟨fun _ => by kernel_rfl, fun _ => by kernel_rfl⟩
theorem z74 : Sz Try.prog 74 1 := g74.size
theorem f74_0 : FieldA Try.prog 74 0 0 := fun _ _ => by kernel_rfl
theorem st74 : StructTy Try.prog 74 AnnounceBook.segs := ⟨fun _ => by kernel_rfl, _, Try.underlying74, fun _ => by kernel_rfl⟩
theorem zero74 : Zero Try.prog 74 (.agg AnnounceBook.zero.enc.toArray) := fun _ => by kernel_rfl
theorem g75 : Sca Try.prog 75 := ⟨fun _ => by kernel_rfl, fun _ => by kernel_rfl⟩
theorem z75 : Sz Try.prog 75 1 := g75.size
theorem zero75 : Zero Try.prog 75 (.pointer none) := fun _ => by kernel_rfl
theorem g76 : Sca Try.prog 76 := ⟨fun _ => by kernel_rfl, fun _ => by kernel_rfl⟩
theorem z76 : Sz Try.prog 76 1 := g76.size
theorem zero76 : Zero Try.prog 76 (.map none) := fun _ => by kernel_rfl
theorem g78 : Agg Try.prog 78 44 := ⟨fun _ => by kernel_rfl, fun _ => by kernel_rfl⟩
theorem z78 : Sz Try.prog 78 44 := g78.size
theorem f78_0 : FieldA Try.prog 78 0 0 := fun _ _ => by kernel_rfl
theorem f78_1 : FieldA Try.prog 78 1 43 := fun _ _ => by kernel_rfl
theorem st78 : StructTy Try.prog 78 AnnounceOne.segs := ⟨fun _ => by kernel_rfl, _, Try.underlying78, fun _ => by kernel_rfl⟩
theorem zero78 : Zero Try.prog 78 (.agg AnnounceOne.zero.enc.toArray) := fun _ => by kernel_rfl
theorem g89 : Sca Try.prog 89 := ⟨fun _ => by kernel_rfl, fun _ => by kernel_rfl⟩
theorem z89 : Sz Try.prog 89 1 := g89.size
theorem zero89 : Zero Try.prog 89 (.slice none 0 0) := fun _ => by kernel_rfl
theorem g90 : Sca Try.prog 90 := ⟨fun _ => by kernel_rfl, fun _ => by kernel_rfl⟩
theorem z90 : Sz Try.prog 90 1 := g90.size
theorem zero90 : Zero Try.prog 90 (.int .i64 0) := fun _ => by kernel_rfl
theorem g92 : Sca Try.prog 92 := ⟨fun _ => by kernel_rfl, fun _ => by kernel_rfl⟩
theorem z92 : Sz Try.prog 92 1 := g92.size
theorem zero92 : Zero Try.prog 92 (.slice none 0 0) := fun _ => by kernel_rfl
theorem g94 : Sca Try.prog 94 := ⟨fun _ => by kernel_rfl, fun _ => by kernel_rfl⟩
theorem z94 : Sz Try.prog 94 1 := g94.size
theorem zero94 : Zero Try.prog 94 (.nilFunc) := fun _ => by kernel_rfl
theorem g95 : Sca Try.prog 95 := ⟨fun _ => by kernel_rfl, fun _ => by kernel_rfl⟩
theorem z95 : Sz Try.prog 95 1 := g95.size
theorem zero95 : Zero Try.prog 95 (.nilFunc) := fun _ => by kernel_rfl
theorem g101 : Agg Try.prog 101 50 := ⟨fun _ => by kernel_rfl, fun _ => by kernel_rfl⟩
theorem z101 : Sz Try.prog 101 50 := g101.size
theorem f101_0 : FieldA Try.prog 101 0 0 := fun _ _ => by kernel_rfl
theorem f101_1 : FieldA Try.prog 101 1 1 := fun _ _ => by kernel_rfl
theorem f101_2 : FieldA Try.prog 101 2 2 := fun _ _ => by kernel_rfl
theorem f101_3 : FieldA Try.prog 101 3 19 := fun _ _ => by kernel_rfl
theorem f101_4 : FieldA Try.prog 101 4 20 := fun _ _ => by kernel_rfl
theorem f101_5 : FieldA Try.prog 101 5 21 := fun _ _ => by kernel_rfl
theorem f101_6 : FieldA Try.prog 101 6 22 := fun _ _ => by kernel_rfl
theorem f101_7 : FieldA Try.prog 101 7 39 := fun _ _ => by kernel_rfl
theorem f101_8 : FieldA Try.prog 101 8 40 := fun _ _ => by kernel_rfl
theorem f101_9 : FieldA Try.prog 101 9 48 := fun _ _ => by kernel_rfl
theorem f101_10 : FieldA Try.prog 101 10 49 := fun _ _ => by kernel_rfl
theorem st101 : StructTy Try.prog 101 Rule.segs := ⟨fun _ => by kernel_rfl, _, Try.underlying101, fun _ => by kernel_rfl⟩
theorem zero101 : Zero Try.prog 101 (.agg Rule.zero.enc.toArray) := fun _ => by kernel_rfl
theorem g103 : Agg Try.prog 103 35 := ⟨fun _ => by kernel_rfl, fun _ => by kernel_rfl⟩
theorem z103 : Sz Try.prog 103 35 := g103.size
theorem f103_0 : FieldA Try.prog 103 0 0 := fun _ _ => by kernel_rfl
theorem f103_1 : FieldA Try.prog 103 1 34 := fun _ _ => by kernel_rfl
theorem st103 : StructTy Try.prog 103 Local.segs := ⟨fun _ => by kernel_rfl, _, Try.underlying103, fun _ => by kernel_rfl⟩
theorem zero103 : Zero Try.prog 103 (.agg Local.zero.enc.toArray) := fun _ => by kernel_rfl
theorem g107 : Sca Try.prog 107 := ⟨fun _ => by kernel_rfl, fun _ => by kernel_rfl⟩
theorem z107 : Sz Try.prog 107 1 := g107.size
theorem zero107 : Zero Try.prog 107 (.int .u32 0) := fun _ => by kernel_rfl
theorem g111 : Sca Try.prog 111 := ⟨fun _ => by kernel_rfl, fun _ => by kernel_rfl⟩
theorem z111 : Sz Try.prog 111 1 := g111.size
theorem zero111 : Zero Try.prog 111 (.nilFunc) := fun _ => by kernel_rfl
theorem g123 : Sca Try.prog 123 := ⟨fun _ => by kernel_rfl, fun _ => by kernel_rfl⟩
theorem z123 : Sz Try.prog 123 1 := g123.size
theorem zero123 : Zero Try.prog 123 (.int .u64 0) := fun _ => by kernel_rfl
theorem g125 : Sca Try.prog 125 := ⟨fun _ => by kernel_rfl, fun _ => by kernel_rfl⟩
theorem z125 : Sz Try.prog 125 1 := g125.size
theorem zero125 : Zero Try.prog 125 (.int .i64 0) := fun _ => by kernel_rfl
theorem g134 : Sca Try.prog 134 := ⟨fun _ => by kernel_rfl, fun _ => by kernel_rfl⟩
theorem z134 : Sz Try.prog 134 1 := g134.size
theorem zero134 : Zero Try.prog 134 (.int .u64 0) := fun _ => by kernel_rfl
theorem g135 : Sca Try.prog 135 := ⟨fun _ => by kernel_rfl, fun _ => by kernel_rfl⟩
theorem z135 : Sz Try.prog 135 1 := g135.size
theorem zero135 : Zero Try.prog 135 (.int .u64 0) := fun _ => by kernel_rfl
theorem g139 : Sca Try.prog 139 := ⟨fun _ => by kernel_rfl, fun _ => by kernel_rfl⟩
theorem z139 : Sz Try.prog 139 1 := g139.size
theorem zero139 : Zero Try.prog 139 (.pointer none) := fun _ => by kernel_rfl
theorem g141 : Sca Try.prog 141 := ⟨fun _ => by kernel_rfl, fun _ => by kernel_rfl⟩
theorem z141 : Sz Try.prog 141 1 := g141.size
theorem zero141 : Zero Try.prog 141 (.pointer none) := fun _ => by kernel_rfl
theorem el3 : ElemTy Try.prog 3 1 := .of (by kernel_rfl)
theorem el4 : ElemTy Try.prog 4 1 := .of (by kernel_rfl)
theorem el5 : ElemTy Try.prog 5 1 := .of (by kernel_rfl)
theorem el27 : ElemTy Try.prog 27 43 := .of (by kernel_rfl)
theorem el41 : ElemTy Try.prog 41 3 := .of (by kernel_rfl)
theorem el45 : ElemTy Try.prog 45 34 := .of (by kernel_rfl)
theorem el51 : ElemTy Try.prog 51 68 := .of (by kernel_rfl)
theorem el60 : ElemTy Try.prog 60 44 := .of (by kernel_rfl)
theorem el75 : ElemTy Try.prog 75 1 := .of (by kernel_rfl)
theorem el101 : ElemTy Try.prog 101 50 := .of (by kernel_rfl)
theorem el103 : ElemTy Try.prog 103 35 := .of (by kernel_rfl)
theorem el107 : ElemTy Try.prog 107 1 := .of (by kernel_rfl)
theorem eqs23 (d : Nat) (x y : Bs 16) : EqA Try.prog (d + 2) 23 x.enc y.enc (decide (x = y)) := EqA.bs Try.underlying23 Try.underlying5 (by kernel_rfl) (by kernel_rfl) g5 x y
theorem eq23 : EqTy Try.prog 23 (Bs 16) Bs.enc := ⟨fun x y => eqs23 9998 x y, by kernel_rfl⟩
theorem eqs25 (d : Nat) (x y : Rtt) : EqA Try.prog (d + 2) 25 x.enc y.enc (decide (x = y)) := by
  have h : EqA Try.prog (d + 2) 25 x.enc y.enc (decide (x.on_ = y.on_) && (decide (x.min = y.min) && (decide (x.max = y.max) && (decide (x.cost = y.cost) && (decide (x.decay = y.decay) && true))))) := EqA.struct (sa := [[.bool x.on_], [.int .i64 x.min], [.int .i64 x.max], [.int .i64 x.cost], [.int .i64 x.decay]]) (sb := [[.bool y.on_], [.int .i64 y.min], [.int .i64 y.max], [.int .i64 y.cost], [.int .i64 y.decay]]) Try.underlying25 (by kernel_rfl) ⟨by decide, by simp , by simp , _, _, EqP.bool (d := d + 0) g4 Try.underlying4 x.on_ y.on_, ⟨by decide, by simp , by simp , _, _, EqP.int (d := d + 0) g3 Try.underlying3 x.min y.min, ⟨by decide, by simp , by simp , _, _, EqP.int (d := d + 0) g3 Try.underlying3 x.max y.max, ⟨by decide, by simp , by simp , _, _, EqP.int (d := d + 0) g3 Try.underlying3 x.cost y.cost, ⟨by decide, by simp , by simp , _, _, EqP.int (d := d + 0) g3 Try.underlying3 x.decay y.decay, rfl, rfl⟩, rfl⟩, rfl⟩, rfl⟩, rfl⟩
  rwa [show (decide (x.on_ = y.on_) && (decide (x.min = y.min) && (decide (x.max = y.max) && (decide (x.cost = y.cost) && (decide (x.decay = y.decay) && true))))) = decide (x = y) from (by cases x; cases y; simp [Subtype.ext_iff])] at h
theorem eq25 : EqTy Try.prog 25 (Rtt) Rtt.enc := ⟨fun x y => eqs25 9998 x y, by kernel_rfl⟩
theorem eqs43 (d : Nat) (x y : Prefix) : EqA Try.prog (d + 3) 43 x.enc y.enc (decide (x = y)) := by
  have h : EqA Try.prog (d + 3) 43 x.enc y.enc (decide (x.a = y.a) && (decide (x.len.val = y.len.val) && true)) := EqA.struct (sa := [x.a.enc, [I64.v x.len]]) (sb := [y.a.enc, [I64.v y.len]]) Try.underlying43 (by kernel_rfl) ⟨by decide, by simp [Bs.len], by simp [Bs.len], _, _, EqP.agg g23 (Bs.len _) (Bs.len _) (eqs23 (d + 0) _ _), ⟨by decide, by simp [Bs.len], by simp [Bs.len], _, _, EqP.int (d := d + 1) g3 Try.underlying3 x.len.val y.len.val, rfl, rfl⟩, rfl⟩
  rwa [show (decide (x.a = y.a) && (decide (x.len.val = y.len.val) && true)) = decide (x = y) from (by cases x; cases y; simp [Subtype.ext_iff])] at h
theorem eq43 : EqTy Try.prog 43 (Prefix) Prefix.enc := ⟨fun x y => eqs43 9997 x y, by kernel_rfl⟩
theorem eqs45 (d : Nat) (x y : Pair) : EqA Try.prog (d + 4) 45 x.enc y.enc (decide (x = y)) := by
  have h : EqA Try.prog (d + 4) 45 x.enc y.enc (decide (x.dst = y.dst) && (decide (x.src = y.src) && true)) := EqA.struct (sa := [x.dst.enc, x.src.enc]) (sb := [y.dst.enc, y.src.enc]) Try.underlying45 (by kernel_rfl) ⟨by decide, by simp [Prefix.enc_len], by simp [Prefix.enc_len], _, _, EqP.agg g43 (Prefix.enc_len _) (Prefix.enc_len _) (eqs43 (d + 0) _ _), ⟨by decide, by simp [Prefix.enc_len], by simp [Prefix.enc_len], _, _, EqP.agg g43 (Prefix.enc_len _) (Prefix.enc_len _) (eqs43 (d + 0) _ _), rfl, rfl⟩, rfl⟩
  rwa [show (decide (x.dst = y.dst) && (decide (x.src = y.src) && true)) = decide (x = y) from (by cases x; cases y; simp [Subtype.ext_iff])] at h
theorem eq45 : EqTy Try.prog 45 (Pair) Pair.enc := ⟨fun x y => eqs45 9996 x y, by kernel_rfl⟩
theorem eqs48 (d : Nat) (x y : Bs 8) : EqA Try.prog (d + 2) 48 x.enc y.enc (decide (x = y)) := EqA.bs Try.underlying48 Try.underlying5 (by kernel_rfl) (by kernel_rfl) g5 x y
theorem eq48 : EqTy Try.prog 48 (Bs 8) Bs.enc := ⟨fun x y => eqs48 9998 x y, by kernel_rfl⟩
theorem kl23 (d : Nat) (x : Bs 16) : HasLits Try.prog (d + 2) 23 x.enc := HasLits.bytes Try.underlying23 Try.underlying5 (by kernel_rfl) (by kernel_rfl) x
theorem kl43 (d : Nat) (x : Prefix) : HasLits Try.prog (d + 3) 43 x.enc := HasLits.struct (sa := [x.a.enc, [I64.v x.len]]) Try.underlying43 (by rw [show List.flatten _ = x.enc from rfl, Prefix.enc_len _]; kernel_rfl) (by kernel_rfl) ⟨by simp [Bs.len], by rw [Bs.len _]; kernel_rfl, kl23 (d + 0) _, ⟨by simp [Bs.len], by kernel_rfl, HasLits.i64 (d := d + 1) Try.underlying3 _, trivial⟩⟩
theorem kl45 (d : Nat) (x : Pair) : HasLits Try.prog (d + 4) 45 x.enc := HasLits.struct (sa := [x.dst.enc, x.src.enc]) Try.underlying45 (by rw [show List.flatten _ = x.enc from rfl, Pair.enc_len _]; kernel_rfl) (by kernel_rfl) ⟨by simp [Prefix.enc_len], by rw [Prefix.enc_len _]; kernel_rfl, kl43 (d + 0) _, ⟨by simp [Prefix.enc_len], by rw [Prefix.enc_len _]; kernel_rfl, kl43 (d + 0) _, trivial⟩⟩
theorem key45 : KeyTy Try.prog 45 (Pair) (fun x => .agg (Pair.enc x).toArray) := KeyTy.agg (m := 8) (by kernel_rfl) (by kernel_rfl) (by decide) (by kernel_rfl) (by kernel_rfl) (fun x => by rw [Pair.enc_len _]; kernel_rfl) (fun x => by rw [show Try.prog.types.size + 1 = 156 + 4 from by kernel_rfl]; exact kl45 _ x) (fun _ _ e => Pair.enc_inj e)
theorem ce3 : CanEnter Try.prog 3 := ⟨_, Try.func3, by kernel_rfl, by kernel_rfl⟩
theorem ce4 : CanEnter Try.prog 4 := ⟨_, Try.func4, by kernel_rfl, by kernel_rfl⟩
theorem ce5 : CanEnter Try.prog 5 := ⟨_, Try.func5, by kernel_rfl, by kernel_rfl⟩
theorem ce6 : CanEnter Try.prog 6 := ⟨_, Try.func6, by kernel_rfl, by kernel_rfl⟩
theorem ce7 : CanEnter Try.prog 7 := ⟨_, Try.func7, by kernel_rfl, by kernel_rfl⟩
theorem ce8 : CanEnter Try.prog 8 := ⟨_, Try.func8, by kernel_rfl, by kernel_rfl⟩
theorem ce9 : CanEnter Try.prog 9 := ⟨_, Try.func9, by kernel_rfl, by kernel_rfl⟩
theorem ce10 : CanEnter Try.prog 10 := ⟨_, Try.func10, by kernel_rfl, by kernel_rfl⟩
theorem ce11 : CanEnter Try.prog 11 := ⟨_, Try.func11, by kernel_rfl, by kernel_rfl⟩
theorem ce12 : CanEnter Try.prog 12 := ⟨_, Try.func12, by kernel_rfl, by kernel_rfl⟩
theorem ce13 : CanEnter Try.prog 13 := ⟨_, Try.func13, by kernel_rfl, by kernel_rfl⟩
theorem ce14 : CanEnter Try.prog 14 := ⟨_, Try.func14, by kernel_rfl, by kernel_rfl⟩
theorem ce15 : CanEnter Try.prog 15 := ⟨_, Try.func15, by kernel_rfl, by kernel_rfl⟩
theorem ce16 : CanEnter Try.prog 16 := ⟨_, Try.func16, by kernel_rfl, by kernel_rfl⟩
theorem ce17 : CanEnter Try.prog 17 := ⟨_, Try.func17, by kernel_rfl, by kernel_rfl⟩
theorem ce18 : CanEnter Try.prog 18 := ⟨_, Try.func18, by kernel_rfl, by kernel_rfl⟩
theorem ce19 : CanEnter Try.prog 19 := ⟨_, Try.func19, by kernel_rfl, by kernel_rfl⟩
theorem ce20 : CanEnter Try.prog 20 := ⟨_, Try.func20, by kernel_rfl, by kernel_rfl⟩
theorem ce21 : CanEnter Try.prog 21 := ⟨_, Try.func21, by kernel_rfl, by kernel_rfl⟩
theorem ce22 : CanEnter Try.prog 22 := ⟨_, Try.func22, by kernel_rfl, by kernel_rfl⟩
theorem ce23 : CanEnter Try.prog 23 := ⟨_, Try.func23, by kernel_rfl, by kernel_rfl⟩
theorem ce24 : CanEnter Try.prog 24 := ⟨_, Try.func24, by kernel_rfl, by kernel_rfl⟩
theorem ce25 : CanEnter Try.prog 25 := ⟨_, Try.func25, by kernel_rfl, by kernel_rfl⟩
theorem ce26 : CanEnter Try.prog 26 := ⟨_, Try.func26, by kernel_rfl, by kernel_rfl⟩
theorem ce27 : CanEnter Try.prog 27 := ⟨_, Try.func27, by kernel_rfl, by kernel_rfl⟩
theorem ce28 : CanEnter Try.prog 28 := ⟨_, Try.func28, by kernel_rfl, by kernel_rfl⟩
theorem ce29 : CanEnter Try.prog 29 := ⟨_, Try.func29, by kernel_rfl, by kernel_rfl⟩
theorem ce30 : CanEnter Try.prog 30 := ⟨_, Try.func30, by kernel_rfl, by kernel_rfl⟩
theorem ce31 : CanEnter Try.prog 31 := ⟨_, Try.func31, by kernel_rfl, by kernel_rfl⟩
theorem ce32 : CanEnter Try.prog 32 := ⟨_, Try.func32, by kernel_rfl, by kernel_rfl⟩
theorem ce33 : CanEnter Try.prog 33 := ⟨_, Try.func33, by kernel_rfl, by kernel_rfl⟩
theorem ce34 : CanEnter Try.prog 34 := ⟨_, Try.func34, by kernel_rfl, by kernel_rfl⟩
theorem ce35 : CanEnter Try.prog 35 := ⟨_, Try.func35, by kernel_rfl, by kernel_rfl⟩
theorem ce36 : CanEnter Try.prog 36 := ⟨_, Try.func36, by kernel_rfl, by kernel_rfl⟩
theorem ce37 : CanEnter Try.prog 37 := ⟨_, Try.func37, by kernel_rfl, by kernel_rfl⟩
theorem ce38 : CanEnter Try.prog 38 := ⟨_, Try.func38, by kernel_rfl, by kernel_rfl⟩
theorem ce39 : CanEnter Try.prog 39 := ⟨_, Try.func39, by kernel_rfl, by kernel_rfl⟩
theorem ce40 : CanEnter Try.prog 40 := ⟨_, Try.func40, by kernel_rfl, by kernel_rfl⟩
theorem ce41 : CanEnter Try.prog 41 := ⟨_, Try.func41, by kernel_rfl, by kernel_rfl⟩
theorem ce42 : CanEnter Try.prog 42 := ⟨_, Try.func42, by kernel_rfl, by kernel_rfl⟩
theorem ce43 : CanEnter Try.prog 43 := ⟨_, Try.func43, by kernel_rfl, by kernel_rfl⟩
theorem ce44 : CanEnter Try.prog 44 := ⟨_, Try.func44, by kernel_rfl, by kernel_rfl⟩
theorem ce45 : CanEnter Try.prog 45 := ⟨_, Try.func45, by kernel_rfl, by kernel_rfl⟩
theorem ce46 : CanEnter Try.prog 46 := ⟨_, Try.func46, by kernel_rfl, by kernel_rfl⟩
theorem ce47 : CanEnter Try.prog 47 := ⟨_, Try.func47, by kernel_rfl, by kernel_rfl⟩
theorem ce48 : CanEnter Try.prog 48 := ⟨_, Try.func48, by kernel_rfl, by kernel_rfl⟩
theorem ce49 : CanEnter Try.prog 49 := ⟨_, Try.func49, by kernel_rfl, by kernel_rfl⟩
theorem ce50 : CanEnter Try.prog 50 := ⟨_, Try.func50, by kernel_rfl, by kernel_rfl⟩
theorem ce51 : CanEnter Try.prog 51 := ⟨_, Try.func51, by kernel_rfl, by kernel_rfl⟩
theorem ce52 : CanEnter Try.prog 52 := ⟨_, Try.func52, by kernel_rfl, by kernel_rfl⟩
theorem ce53 : CanEnter Try.prog 53 := ⟨_, Try.func53, by kernel_rfl, by kernel_rfl⟩
theorem ce54 : CanEnter Try.prog 54 := ⟨_, Try.func54, by kernel_rfl, by kernel_rfl⟩
theorem ce55 : CanEnter Try.prog 55 := ⟨_, Try.func55, by kernel_rfl, by kernel_rfl⟩
theorem ce56 : CanEnter Try.prog 56 := ⟨_, Try.func56, by kernel_rfl, by kernel_rfl⟩
theorem ce58 : CanEnter Try.prog 58 := ⟨_, Try.func58, by kernel_rfl, by kernel_rfl⟩
theorem ce59 : CanEnter Try.prog 59 := ⟨_, Try.func59, by kernel_rfl, by kernel_rfl⟩
theorem ce60 : CanEnter Try.prog 60 := ⟨_, Try.func60, by kernel_rfl, by kernel_rfl⟩
theorem ce61 : CanEnter Try.prog 61 := ⟨_, Try.func61, by kernel_rfl, by kernel_rfl⟩
theorem ce62 : CanEnter Try.prog 62 := ⟨_, Try.func62, by kernel_rfl, by kernel_rfl⟩
theorem ce63 : CanEnter Try.prog 63 := ⟨_, Try.func63, by kernel_rfl, by kernel_rfl⟩
theorem ce64 : CanEnter Try.prog 64 := ⟨_, Try.func64, by kernel_rfl, by kernel_rfl⟩
theorem ce65 : CanEnter Try.prog 65 := ⟨_, Try.func65, by kernel_rfl, by kernel_rfl⟩
theorem ce66 : CanEnter Try.prog 66 := ⟨_, Try.func66, by kernel_rfl, by kernel_rfl⟩
theorem ce67 : CanEnter Try.prog 67 := ⟨_, Try.func67, by kernel_rfl, by kernel_rfl⟩
theorem ce68 : CanEnter Try.prog 68 := ⟨_, Try.func68, by kernel_rfl, by kernel_rfl⟩
theorem ce69 : CanEnter Try.prog 69 := ⟨_, Try.func69, by kernel_rfl, by kernel_rfl⟩
theorem ce70 : CanEnter Try.prog 70 := ⟨_, Try.func70, by kernel_rfl, by kernel_rfl⟩
theorem ce71 : CanEnter Try.prog 71 := ⟨_, Try.func71, by kernel_rfl, by kernel_rfl⟩
theorem ce72 : CanEnter Try.prog 72 := ⟨_, Try.func72, by kernel_rfl, by kernel_rfl⟩
theorem ce73 : CanEnter Try.prog 73 := ⟨_, Try.func73, by kernel_rfl, by kernel_rfl⟩
theorem cmpRow : CmpRow Try.prog 57 := fun _ _ => by kernel_rfl
end Slb
