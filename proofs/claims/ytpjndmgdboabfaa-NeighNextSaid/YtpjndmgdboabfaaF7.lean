/- F7: a part of the proof that a law of this package holds for every input; no condition. -/
import Derived.Test.YtpjndmgdboabfaaRows
import Derived.Test.YtpjndmgdboabfaaS7
namespace Slb
open Go Go.Proofs
theorem g3 : Sca Try.prog 3 := ⟨fun _ => by kernel_rfl, fun _ => by kernel_rfl⟩
theorem z3 : Sz Try.prog 3 1 := g3.size
theorem zero3 : Zero Try.prog 3 (.int .i64 0) := fun _ => by kernel_rfl
theorem g4 : Sca Try.prog 4 := ⟨fun _ => by kernel_rfl, fun _ => by kernel_rfl⟩
theorem z4 : Sz Try.prog 4 1 := g4.size
theorem zero4 : Zero Try.prog 4 (.bool false) := fun _ => by kernel_rfl
theorem g5 : Sca Try.prog 5 := ⟨fun _ => by kernel_rfl, fun _ => by kernel_rfl⟩
theorem z5 : Sz Try.prog 5 1 := g5.size
theorem zero5 : Zero Try.prog 5 (.int .u8 0) := fun _ => by kernel_rfl
theorem g9 : Sca Try.prog 9 := ⟨fun _ => by kernel_rfl, fun _ => by kernel_rfl⟩
theorem z9 : Sz Try.prog 9 1 := g9.size
theorem zero9 : Zero Try.prog 9 (.string ByteArray.empty) := fun _ => by kernel_rfl
theorem g22 : Sca Try.prog 22 := ⟨fun _ => by kernel_rfl, fun _ => by kernel_rfl⟩
theorem z22 : Sz Try.prog 22 1 := g22.size
theorem zero22 : Zero Try.prog 22 (.slice none 0 0) := fun _ => by kernel_rfl
theorem g23 : Sca Try.prog 23 := ⟨fun _ => by kernel_rfl, fun _ => by kernel_rfl⟩
theorem z23 : Sz Try.prog 23 1 := g23.size
theorem zero23 : Zero Try.prog 23 (.slice none 0 0) := fun _ => by kernel_rfl
theorem g26 : Sca Try.prog 26 := ⟨fun _ => by kernel_rfl, fun _ => by kernel_rfl⟩
theorem z26 : Sz Try.prog 26 1 := g26.size
theorem zero26 : Zero Try.prog 26 (.pointer none) := fun _ => by kernel_rfl
theorem g29 : Agg Try.prog 29 16 := ⟨fun _ => by kernel_rfl, fun _ => by kernel_rfl⟩
theorem z29 : Sz Try.prog 29 16 := g29.size
theorem zero29 : Zero Try.prog 29 (.agg (Bs.zero 16).enc.toArray) := fun _ => by kernel_rfl
theorem g30 : Sca Try.prog 30 := ⟨fun _ => by kernel_rfl, fun _ => by kernel_rfl⟩
theorem z30 : Sz Try.prog 30 1 := g30.size
theorem zero30 : Zero Try.prog 30 (.int .u16 0) := fun _ => by kernel_rfl
theorem g32 : Agg Try.prog 32 8 := ⟨fun _ => by kernel_rfl, fun _ => by kernel_rfl⟩
theorem z32 : Sz Try.prog 32 8 := g32.size
theorem zero32 : Zero Try.prog 32 (.agg (Bs.zero 8).enc.toArray) := fun _ => by kernel_rfl
theorem g34 : Agg Try.prog 34 17 := ⟨fun _ => by kernel_rfl, fun _ => by kernel_rfl⟩
theorem z34 : Sz Try.prog 34 17 := g34.size
theorem f34_0 : FieldA Try.prog 34 0 0 := fun _ _ => by kernel_rfl
theorem f34_1 : FieldA Try.prog 34 1 16 := fun _ _ => by kernel_rfl
theorem st34 : StructTy Try.prog 34 Prefix.segs := ⟨fun _ => by kernel_rfl, _, Try.underlying34, fun _ => by kernel_rfl⟩
theorem zero34 : Zero Try.prog 34 (.agg Prefix.zero.enc.toArray) := fun _ => by kernel_rfl
theorem g36 : Agg Try.prog 36 34 := ⟨fun _ => by kernel_rfl, fun _ => by kernel_rfl⟩
theorem z36 : Sz Try.prog 36 34 := g36.size
theorem f36_0 : FieldA Try.prog 36 0 0 := fun _ _ => by kernel_rfl
theorem f36_1 : FieldA Try.prog 36 1 17 := fun _ _ => by kernel_rfl
theorem st36 : StructTy Try.prog 36 Pair.segs := ⟨fun _ => by kernel_rfl, _, Try.underlying36, fun _ => by kernel_rfl⟩
theorem zero36 : Zero Try.prog 36 (.agg Pair.zero.enc.toArray) := fun _ => by kernel_rfl
theorem g37 : Sca Try.prog 37 := ⟨fun _ => by kernel_rfl, fun _ => by kernel_rfl⟩
theorem z37 : Sz Try.prog 37 1 := g37.size
theorem zero37 : Zero Try.prog 37 (.slice none 0 0) := fun _ => by kernel_rfl
theorem g39 : Agg Try.prog 39 68 := ⟨fun _ => by kernel_rfl, fun _ => by kernel_rfl⟩
theorem z39 : Sz Try.prog 39 68 := g39.size
theorem f39_0 : FieldA Try.prog 39 0 0 := fun _ _ => by kernel_rfl
theorem f39_1 : FieldA Try.prog 39 1 1 := fun _ _ => by kernel_rfl
theorem f39_2 : FieldA Try.prog 39 2 2 := fun _ _ => by kernel_rfl
theorem f39_3 : FieldA Try.prog 39 3 3 := fun _ _ => by kernel_rfl
theorem f39_4 : FieldA Try.prog 39 4 4 := fun _ _ => by kernel_rfl
theorem f39_5 : FieldA Try.prog 39 5 5 := fun _ _ => by kernel_rfl
theorem f39_6 : FieldA Try.prog 39 6 6 := fun _ _ => by kernel_rfl
theorem f39_7 : FieldA Try.prog 39 7 7 := fun _ _ => by kernel_rfl
theorem f39_8 : FieldA Try.prog 39 8 8 := fun _ _ => by kernel_rfl
theorem f39_9 : FieldA Try.prog 39 9 9 := fun _ _ => by kernel_rfl
theorem f39_10 : FieldA Try.prog 39 10 17 := fun _ _ => by kernel_rfl
theorem f39_11 : FieldA Try.prog 39 11 33 := fun _ _ => by kernel_rfl
theorem f39_12 : FieldA Try.prog 39 12 67 := fun _ _ => by kernel_rfl
theorem st39 : StructTy Try.prog 39 Tlv.segs := ⟨fun _ => by kernel_rfl, _, Try.underlying39, fun _ => by kernel_rfl⟩
theorem zero39 : Zero Try.prog 39 (.agg Tlv.zero.enc.toArray) := fun _ => by kernel_rfl
theorem g41 : Agg Try.prog 41 87 := ⟨fun _ => by kernel_rfl, fun _ => by kernel_rfl⟩
theorem z41 : Sz Try.prog 41 87 := g41.size
theorem f41_0 : FieldA Try.prog 41 0 0 := fun _ _ => by kernel_rfl
theorem f41_1 : FieldA Try.prog 41 1 1 := fun _ _ => by kernel_rfl
theorem f41_2 : FieldA Try.prog 41 2 2 := fun _ _ => by kernel_rfl
theorem f41_3 : FieldA Try.prog 41 3 3 := fun _ _ => by kernel_rfl
theorem f41_4 : FieldA Try.prog 41 4 19 := fun _ _ => by kernel_rfl
theorem st41 : StructTy Try.prog 41 Law13Act.segs := ⟨fun _ => by kernel_rfl, _, Try.underlying41, fun _ => by kernel_rfl⟩
theorem zero41 : Zero Try.prog 41 (.agg Law13Act.zero.enc.toArray) := fun _ => by kernel_rfl
theorem g42 : Sca Try.prog 42 := ⟨fun _ => by kernel_rfl, fun _ => by kernel_rfl⟩
theorem z42 : Sz Try.prog 42 1 := g42.size
theorem zero42 : Zero Try.prog 42 (.int .i64 0) := fun _ => by kernel_rfl
theorem g44 : Sca Try.prog 44 := ⟨fun _ => by kernel_rfl, fun _ => by kernel_rfl⟩
theorem z44 : Sz Try.prog 44 1 := g44.size
theorem zero44 : Zero Try.prog 44 (.slice none 0 0) := fun _ => by kernel_rfl
theorem g51 : Agg Try.prog 51 3 := ⟨fun _ => by kernel_rfl, fun _ => by kernel_rfl⟩
theorem z51 : Sz Try.prog 51 3 := g51.size
theorem f51_0 : FieldA Try.prog 51 0 0 := fun _ _ => by kernel_rfl
theorem f51_1 : FieldA Try.prog 51 1 1 := fun _ _ => by kernel_rfl
theorem f51_2 : FieldA Try.prog 51 2 2 := fun _ _ => by kernel_rfl
theorem st51 : StructTy Try.prog 51 History.segs := ⟨fun _ => by kernel_rfl, _, Try.underlying51, fun _ => by kernel_rfl⟩
theorem zero51 : Zero Try.prog 51 (.agg History.zero.enc.toArray) := fun _ => by kernel_rfl
theorem g52 : Sca Try.prog 52 := ⟨fun _ => by kernel_rfl, fun _ => by kernel_rfl⟩
theorem z52 : Sz Try.prog 52 1 := g52.size
theorem zero52 : Zero Try.prog 52 (.int .u32 0) := fun _ => by kernel_rfl
theorem g54 : Agg Try.prog 54 34 := ⟨fun _ => by kernel_rfl, fun _ => by kernel_rfl⟩
theorem z54 : Sz Try.prog 54 34 := g54.size
theorem f54_0 : FieldA Try.prog 54 0 0 := fun _ _ => by kernel_rfl
theorem f54_1 : FieldA Try.prog 54 1 1 := fun _ _ => by kernel_rfl
theorem f54_2 : FieldA Try.prog 54 2 17 := fun _ _ => by kernel_rfl
theorem f54_3 : FieldA Try.prog 54 3 20 := fun _ _ => by kernel_rfl
theorem f54_4 : FieldA Try.prog 54 4 23 := fun _ _ => by kernel_rfl
theorem f54_5 : FieldA Try.prog 54 5 24 := fun _ _ => by kernel_rfl
theorem f54_6 : FieldA Try.prog 54 6 25 := fun _ _ => by kernel_rfl
theorem f54_7 : FieldA Try.prog 54 7 26 := fun _ _ => by kernel_rfl
theorem f54_8 : FieldA Try.prog 54 8 27 := fun _ _ => by kernel_rfl
theorem f54_9 : FieldA Try.prog 54 9 28 := fun _ _ => by kernel_rfl
theorem f54_10 : FieldA Try.prog 54 10 29 := fun _ _ => by kernel_rfl
theorem f54_11 : FieldA Try.prog 54 11 30 := fun _ _ => by kernel_rfl
theorem f54_12 : FieldA Try.prog 54 12 31 := fun _ _ => by kernel_rfl
theorem f54_13 : FieldA Try.prog 54 13 32 := fun _ _ => by kernel_rfl
theorem f54_14 : FieldA Try.prog 54 14 33 := fun _ _ => by kernel_rfl
theorem st54 : StructTy Try.prog 54 Neighbour.segs := ⟨fun _ => by kernel_rfl, _, Try.underlying54, fun _ => by kernel_rfl⟩
theorem zero54 : Zero Try.prog 54 (.agg Neighbour.zero.enc.toArray) := fun _ => by kernel_rfl
theorem g58 : Agg Try.prog 58 5 := ⟨fun _ => by kernel_rfl, fun _ => by kernel_rfl⟩
theorem z58 : Sz Try.prog 58 5 := g58.size
theorem f58_0 : FieldA Try.prog 58 0 0 := fun _ _ => by kernel_rfl
theorem f58_1 : FieldA Try.prog 58 1 1 := fun _ _ => by kernel_rfl
theorem f58_2 : FieldA Try.prog 58 2 2 := fun _ _ => by kernel_rfl
theorem f58_3 : FieldA Try.prog 58 3 3 := fun _ _ => by kernel_rfl
theorem f58_4 : FieldA Try.prog 58 4 4 := fun _ _ => by kernel_rfl
theorem st58 : StructTy Try.prog 58 Rtt.segs := ⟨fun _ => by kernel_rfl, _, Try.underlying58, fun _ => by kernel_rfl⟩
theorem zero58 : Zero Try.prog 58 (.agg Rtt.zero.enc.toArray) := fun _ => by kernel_rfl
theorem g60 : Agg Try.prog 60 43 := ⟨fun _ => by kernel_rfl, fun _ => by kernel_rfl⟩
theorem z60 : Sz Try.prog 60 43 := g60.size
theorem f60_0 : FieldA Try.prog 60 0 0 := fun _ _ => by kernel_rfl
theorem f60_1 : FieldA Try.prog 60 1 1 := fun _ _ => by kernel_rfl
theorem f60_2 : FieldA Try.prog 60 2 2 := fun _ _ => by kernel_rfl
theorem f60_3 : FieldA Try.prog 60 3 3 := fun _ _ => by kernel_rfl
theorem f60_4 : FieldA Try.prog 60 4 4 := fun _ _ => by kernel_rfl
theorem f60_5 : FieldA Try.prog 60 5 5 := fun _ _ => by kernel_rfl
theorem f60_6 : FieldA Try.prog 60 6 6 := fun _ _ => by kernel_rfl
theorem f60_7 : FieldA Try.prog 60 7 22 := fun _ _ => by kernel_rfl
theorem f60_8 : FieldA Try.prog 60 8 38 := fun _ _ => by kernel_rfl
theorem st60 : StructTy Try.prog 60 IfConf.segs := ⟨fun _ => by kernel_rfl, _, Try.underlying60, fun _ => by kernel_rfl⟩
theorem zero60 : Zero Try.prog 60 (.agg IfConf.zero.enc.toArray) := fun _ => by kernel_rfl
theorem g68 : Sca Try.prog 68 := ⟨fun _ => by kernel_rfl, fun _ => by kernel_rfl⟩
theorem z68 : Sz Try.prog 68 1 := g68.size
theorem zero68 : Zero Try.prog 68 (.slice none 0 0) := fun _ => by kernel_rfl
theorem g69 : Sca Try.prog 69 := ⟨fun _ => by kernel_rfl, fun _ => by kernel_rfl⟩
theorem z69 : Sz Try.prog 69 1 := g69.size
theorem zero69 : Zero Try.prog 69 (.slice none 0 0) := fun _ => by kernel_rfl
theorem g71 : Agg Try.prog 71 15 := ⟨fun _ => by kernel_rfl, fun _ => by kernel_rfl⟩
theorem z71 : Sz Try.prog 71 15 := g71.size
theorem f71_0 : FieldA Try.prog 71 0 0 := fun _ _ => by kernel_rfl
theorem f71_1 : FieldA Try.prog 71 1 8 := fun _ _ => by kernel_rfl
theorem f71_2 : FieldA Try.prog 71 2 9 := fun _ _ => by kernel_rfl
theorem f71_3 : FieldA Try.prog 71 3 10 := fun _ _ => by kernel_rfl
theorem f71_4 : FieldA Try.prog 71 4 11 := fun _ _ => by kernel_rfl
theorem f71_5 : FieldA Try.prog 71 5 12 := fun _ _ => by kernel_rfl
theorem f71_6 : FieldA Try.prog 71 6 13 := fun _ _ => by kernel_rfl
theorem f71_7 : FieldA Try.prog 71 7 14 := fun _ _ => by kernel_rfl
theorem st71 : StructTy Try.prog 71 Config.segs := ⟨fun _ => by kernel_rfl, _, Try.underlying71, fun _ => by kernel_rfl⟩
theorem zero71 : Zero Try.prog 71 (.agg Config.zero.enc.toArray) := fun _ => by kernel_rfl
theorem g75 : Sca Try.prog 75 := ⟨fun _ => by kernel_rfl, fun _ => by kernel_rfl⟩
theorem z75 : Sz Try.prog 75 1 := g75.size
theorem zero75 : Zero Try.prog 75 (.map none) := fun _ => by kernel_rfl
theorem g77 : Agg Try.prog 77 3 := ⟨fun _ => by kernel_rfl, fun _ => by kernel_rfl⟩
theorem z77 : Sz Try.prog 77 3 := g77.size
theorem f77_0 : FieldA Try.prog 77 0 0 := fun _ _ => by kernel_rfl
theorem f77_1 : FieldA Try.prog 77 1 1 := fun _ _ => by kernel_rfl
theorem f77_2 : FieldA Try.prog 77 2 2 := fun _ _ => by kernel_rfl
theorem st77 : StructTy Try.prog 77 NeighTable.segs := ⟨fun _ => by kernel_rfl, _, Try.underlying77, fun _ => by kernel_rfl⟩
theorem zero77 : Zero Try.prog 77 (.agg NeighTable.zero.enc.toArray) := fun _ => by kernel_rfl
theorem g79 : Sca Try.prog 79 := ⟨fun _ => by kernel_rfl, fun _ => by kernel_rfl⟩
theorem z79 : Sz Try.prog 79 1 := g79.size
theorem zero79 : Zero Try.prog 79 (.pointer none) := fun _ => by kernel_rfl
theorem g81 : Agg Try.prog 81 17 := ⟨fun _ => by kernel_rfl, fun _ => by kernel_rfl⟩
theorem z81 : Sz Try.prog 81 17 := g81.size
theorem f81_0 : FieldA Try.prog 81 0 0 := fun _ _ => by kernel_rfl
theorem f81_1 : FieldA Try.prog 81 1 1 := fun _ _ => by kernel_rfl
theorem st81 : StructTy Try.prog 81 NeighKey.segs := ⟨fun _ => by kernel_rfl, _, Try.underlying81, fun _ => by kernel_rfl⟩
theorem zero81 : Zero Try.prog 81 (.agg NeighKey.zero.enc.toArray) := fun _ => by kernel_rfl
theorem g82 : Sca Try.prog 82 := ⟨fun _ => by kernel_rfl, fun _ => by kernel_rfl⟩
theorem z82 : Sz Try.prog 82 1 := g82.size
theorem zero82 : Zero Try.prog 82 (.pointer none) := fun _ => by kernel_rfl
theorem g83 : Sca Try.prog 83 := ⟨fun _ => by kernel_rfl, fun _ => by kernel_rfl⟩
theorem z83 : Sz Try.prog 83 1 := g83.size
theorem zero83 : Zero Try.prog 83 (.pointer none) := fun _ => by kernel_rfl
theorem g89 : Sca Try.prog 89 := ⟨fun _ => by kernel_rfl, fun _ => by kernel_rfl⟩
theorem z89 : Sz Try.prog 89 1 := g89.size
theorem zero89 : Zero Try.prog 89 (.nilFunc) := fun _ => by kernel_rfl
theorem g97 : Sca Try.prog 97 := ⟨fun _ => by kernel_rfl, fun _ => by kernel_rfl⟩
theorem z97 : Sz Try.prog 97 1 := g97.size
theorem zero97 : Zero Try.prog 97 (.nilFunc) := fun _ => by kernel_rfl
theorem g98 : Sca Try.prog 98 := ⟨fun _ => by kernel_rfl, fun _ => by kernel_rfl⟩
theorem z98 : Sz Try.prog 98 1 := g98.size
theorem zero98 : Zero Try.prog 98 (.slice none 0 0) := fun _ => by kernel_rfl
theorem g104 : Agg Try.prog 104 50 := ⟨fun _ => by kernel_rfl, fun _ => by kernel_rfl⟩
theorem z104 : Sz Try.prog 104 50 := g104.size
theorem f104_0 : FieldA Try.prog 104 0 0 := fun _ _ => by kernel_rfl
theorem f104_1 : FieldA Try.prog 104 1 1 := fun _ _ => by kernel_rfl
theorem f104_2 : FieldA Try.prog 104 2 2 := fun _ _ => by kernel_rfl
theorem f104_3 : FieldA Try.prog 104 3 19 := fun _ _ => by kernel_rfl
theorem f104_4 : FieldA Try.prog 104 4 20 := fun _ _ => by kernel_rfl
theorem f104_5 : FieldA Try.prog 104 5 21 := fun _ _ => by kernel_rfl
theorem f104_6 : FieldA Try.prog 104 6 22 := fun _ _ => by kernel_rfl
theorem f104_7 : FieldA Try.prog 104 7 39 := fun _ _ => by kernel_rfl
theorem f104_8 : FieldA Try.prog 104 8 40 := fun _ _ => by kernel_rfl
theorem f104_9 : FieldA Try.prog 104 9 48 := fun _ _ => by kernel_rfl
theorem f104_10 : FieldA Try.prog 104 10 49 := fun _ _ => by kernel_rfl
theorem st104 : StructTy Try.prog 104 Rule.segs := ⟨fun _ => by kernel_rfl, _, Try.underlying104, fun _ => by kernel_rfl⟩
theorem zero104 : Zero Try.prog 104 (.agg Rule.zero.enc.toArray) := fun _ => by kernel_rfl
theorem g107 : Agg Try.prog 107 35 := ⟨fun _ => by kernel_rfl, fun _ => by kernel_rfl⟩
theorem z107 : Sz Try.prog 107 35 := g107.size
theorem f107_0 : FieldA Try.prog 107 0 0 := fun _ _ => by kernel_rfl
theorem f107_1 : FieldA Try.prog 107 1 34 := fun _ _ => by kernel_rfl
theorem st107 : StructTy Try.prog 107 Local.segs := ⟨fun _ => by kernel_rfl, _, Try.underlying107, fun _ => by kernel_rfl⟩
theorem zero107 : Zero Try.prog 107 (.agg Local.zero.enc.toArray) := fun _ => by kernel_rfl
theorem g109 : Sca Try.prog 109 := ⟨fun _ => by kernel_rfl, fun _ => by kernel_rfl⟩
theorem z109 : Sz Try.prog 109 1 := g109.size
theorem zero109 : Zero Try.prog 109 (.int .i16 0) := fun _ => by kernel_rfl
theorem g110 : Sca Try.prog 110 := ⟨fun _ => by kernel_rfl, fun _ => by kernel_rfl⟩
theorem z110 : Sz Try.prog 110 1 := g110.size
theorem zero110 : Zero Try.prog 110 (.int .u64 0) := fun _ => by kernel_rfl
theorem g115 : Sca Try.prog 115 := ⟨fun _ => by kernel_rfl, fun _ => by kernel_rfl⟩
theorem z115 : Sz Try.prog 115 1 := g115.size
theorem zero115 : Zero Try.prog 115 (.slice none 0 0) := fun _ => by kernel_rfl
theorem g116 : Sca Try.prog 116 := ⟨fun _ => by kernel_rfl, fun _ => by kernel_rfl⟩
theorem z116 : Sz Try.prog 116 1 := g116.size
theorem zero116 : Zero Try.prog 116 (.slice none 0 0) := fun _ => by kernel_rfl
theorem g117 : Sca Try.prog 117 := ⟨fun _ => by kernel_rfl, fun _ => by kernel_rfl⟩
theorem z117 : Sz Try.prog 117 1 := g117.size
theorem zero117 : Zero Try.prog 117 (.slice none 0 0) := fun _ => by kernel_rfl
theorem g126 : Sca Try.prog 126 := ⟨fun _ => by kernel_rfl, fun _ => by kernel_rfl⟩
theorem z126 : Sz Try.prog 126 1 := g126.size
theorem zero126 : Zero Try.prog 126 (.int .i64 0) := fun _ => by kernel_rfl
theorem g134 : Sca Try.prog 134 := ⟨fun _ => by kernel_rfl, fun _ => by kernel_rfl⟩
theorem z134 : Sz Try.prog 134 1 := g134.size
theorem zero134 : Zero Try.prog 134 (.int .u64 0) := fun _ => by kernel_rfl
theorem g137 : Sca Try.prog 137 := ⟨fun _ => by kernel_rfl, fun _ => by kernel_rfl⟩
theorem z137 : Sz Try.prog 137 1 := g137.size
theorem zero137 : Zero Try.prog 137 (.int .u64 0) := fun _ => by kernel_rfl
theorem g142 : Sca Try.prog 142 := ⟨fun _ => by kernel_rfl, fun _ => by kernel_rfl⟩
theorem z142 : Sz Try.prog 142 1 := g142.size
theorem zero142 : Zero Try.prog 142 (.pointer none) := fun _ => by kernel_rfl
theorem el3 : ElemTy Try.prog 3 1 := .of (by kernel_rfl)
theorem el5 : ElemTy Try.prog 5 1 := .of (by kernel_rfl)
theorem el30 : ElemTy Try.prog 30 1 := .of (by kernel_rfl)
theorem el41 : ElemTy Try.prog 41 87 := .of (by kernel_rfl)
theorem el51 : ElemTy Try.prog 51 3 := .of (by kernel_rfl)
theorem el52 : ElemTy Try.prog 52 1 := .of (by kernel_rfl)
theorem el54 : ElemTy Try.prog 54 34 := .of (by kernel_rfl)
theorem el60 : ElemTy Try.prog 60 43 := .of (by kernel_rfl)
theorem el104 : ElemTy Try.prog 104 50 := .of (by kernel_rfl)
theorem el107 : ElemTy Try.prog 107 35 := .of (by kernel_rfl)
theorem eqs29 (d : Nat) (x y : Bs 16) : EqA Try.prog (d + 2) 29 x.enc y.enc (decide (x = y)) := EqA.bs Try.underlying29 Try.underlying5 (by kernel_rfl) (by kernel_rfl) g5 x y
theorem eq29 : EqTy Try.prog 29 (Bs 16) Bs.enc := ⟨fun x y => eqs29 9998 x y, by kernel_rfl⟩
theorem eqs32 (d : Nat) (x y : Bs 8) : EqA Try.prog (d + 2) 32 x.enc y.enc (decide (x = y)) := EqA.bs Try.underlying32 Try.underlying5 (by kernel_rfl) (by kernel_rfl) g5 x y
theorem eq32 : EqTy Try.prog 32 (Bs 8) Bs.enc := ⟨fun x y => eqs32 9998 x y, by kernel_rfl⟩
theorem eqs34 (d : Nat) (x y : Prefix) : EqA Try.prog (d + 3) 34 x.enc y.enc (decide (x = y)) := by
  have h : EqA Try.prog (d + 3) 34 x.enc y.enc (decide (x.a = y.a) && (decide (x.len.val = y.len.val) && true)) := EqA.struct (sa := [x.a.enc, [I64.v x.len]]) (sb := [y.a.enc, [I64.v y.len]]) Try.underlying34 (by kernel_rfl) ⟨by decide, by simp [Bs.len], by simp [Bs.len], _, _, EqP.agg g29 (Bs.len _) (Bs.len _) (eqs29 (d + 0) _ _), ⟨by decide, by simp [Bs.len], by simp [Bs.len], _, _, EqP.int (d := d + 1) g3 Try.underlying3 x.len.val y.len.val, rfl, rfl⟩, rfl⟩
  rwa [show (decide (x.a = y.a) && (decide (x.len.val = y.len.val) && true)) = decide (x = y) from (by cases x; cases y; simp [Subtype.ext_iff])] at h
theorem eq34 : EqTy Try.prog 34 (Prefix) Prefix.enc := ⟨fun x y => eqs34 9997 x y, by kernel_rfl⟩
theorem eqs36 (d : Nat) (x y : Pair) : EqA Try.prog (d + 4) 36 x.enc y.enc (decide (x = y)) := by
  have h : EqA Try.prog (d + 4) 36 x.enc y.enc (decide (x.dst = y.dst) && (decide (x.src = y.src) && true)) := EqA.struct (sa := [x.dst.enc, x.src.enc]) (sb := [y.dst.enc, y.src.enc]) Try.underlying36 (by kernel_rfl) ⟨by decide, by simp [Prefix.enc_len], by simp [Prefix.enc_len], _, _, EqP.agg g34 (Prefix.enc_len _) (Prefix.enc_len _) (eqs34 (d + 0) _ _), ⟨by decide, by simp [Prefix.enc_len], by simp [Prefix.enc_len], _, _, EqP.agg g34 (Prefix.enc_len _) (Prefix.enc_len _) (eqs34 (d + 0) _ _), rfl, rfl⟩, rfl⟩
  rwa [show (decide (x.dst = y.dst) && (decide (x.src = y.src) && true)) = decide (x = y) from (by cases x; cases y; simp [Subtype.ext_iff])] at h
theorem eq36 : EqTy Try.prog 36 (Pair) Pair.enc := ⟨fun x y => eqs36 9996 x y, by kernel_rfl⟩
theorem eqs51 (d : Nat) (x y : History) : EqA Try.prog (d + 2) 51 x.enc y.enc (decide (x = y)) := by
  have h : EqA Try.prog (d + 2) 51 x.enc y.enc (decide (x.bits = y.bits) && (decide (x.next = y.next) && (decide (x.known = y.known) && true))) := EqA.struct (sa := [[.int .u16 x.bits], [.int .u16 x.next], [.bool x.known]]) (sb := [[.int .u16 y.bits], [.int .u16 y.next], [.bool y.known]]) Try.underlying51 (by kernel_rfl) ⟨by decide, by simp , by simp , _, _, EqP.int (d := d + 0) g30 Try.underlying30 x.bits y.bits, ⟨by decide, by simp , by simp , _, _, EqP.int (d := d + 0) g30 Try.underlying30 x.next y.next, ⟨by decide, by simp , by simp , _, _, EqP.bool (d := d + 0) g4 Try.underlying4 x.known y.known, rfl, rfl⟩, rfl⟩, rfl⟩
  rwa [show (decide (x.bits = y.bits) && (decide (x.next = y.next) && (decide (x.known = y.known) && true))) = decide (x = y) from (by cases x; cases y; simp [Subtype.ext_iff])] at h
theorem eqs54 (d : Nat) (x y : Neighbour) : EqA Try.prog (d + 3) 54 x.enc y.enc (decide (x = y)) := by
  have h : EqA Try.prog (d + 3) 54 x.enc y.enc (decide (x.if_.val = y.if_.val) && (decide (x.addr = y.addr) && (decide (x.multi = y.multi) && (decide (x.uni = y.uni) && (decide (x.multiGap = y.multiGap) && (decide (x.uniGap = y.uniGap) && (decide (x.multiAt = y.multiAt) && (decide (x.uniAt = y.uniAt) && (decide (x.tx = y.tx) && (decide (x.txAt = y.txAt) && (decide (x.sent = y.sent) && (decide (x.heard = y.heard) && (decide (x.hasSent = y.hasSent) && (decide (x.rtt = y.rtt) && (decide (x.hasRtt = y.hasRtt) && true))))))))))))))) := EqA.struct (sa := [[I64.v x.if_], x.addr.enc, x.multi.enc, x.uni.enc, [.int .i64 x.multiGap], [.int .i64 x.uniGap], [.int .i64 x.multiAt], [.int .i64 x.uniAt], [.int .u16 x.tx], [.int .i64 x.txAt], [.int .u32 x.sent], [.int .i64 x.heard], [.bool x.hasSent], [.int .i64 x.rtt], [.bool x.hasRtt]]) (sb := [[I64.v y.if_], y.addr.enc, y.multi.enc, y.uni.enc, [.int .i64 y.multiGap], [.int .i64 y.uniGap], [.int .i64 y.multiAt], [.int .i64 y.uniAt], [.int .u16 y.tx], [.int .i64 y.txAt], [.int .u32 y.sent], [.int .i64 y.heard], [.bool y.hasSent], [.int .i64 y.rtt], [.bool y.hasRtt]]) Try.underlying54 (by kernel_rfl) ⟨by decide, by simp [Bs.len, History.enc_len], by simp [Bs.len, History.enc_len], _, _, EqP.int (d := d + 1) g3 Try.underlying3 x.if_.val y.if_.val, ⟨by decide, by simp [Bs.len, History.enc_len], by simp [Bs.len, History.enc_len], _, _, EqP.agg g29 (Bs.len _) (Bs.len _) (eqs29 (d + 0) _ _), ⟨by decide, by simp [Bs.len, History.enc_len], by simp [Bs.len, History.enc_len], _, _, EqP.agg g51 (History.enc_len _) (History.enc_len _) (eqs51 (d + 0) _ _), ⟨by decide, by simp [Bs.len, History.enc_len], by simp [Bs.len, History.enc_len], _, _, EqP.agg g51 (History.enc_len _) (History.enc_len _) (eqs51 (d + 0) _ _), ⟨by decide, by simp [Bs.len, History.enc_len], by simp [Bs.len, History.enc_len], _, _, EqP.int (d := d + 1) g3 Try.underlying3 x.multiGap y.multiGap, ⟨by decide, by simp [Bs.len, History.enc_len], by simp [Bs.len, History.enc_len], _, _, EqP.int (d := d + 1) g3 Try.underlying3 x.uniGap y.uniGap, ⟨by decide, by simp [Bs.len, History.enc_len], by simp [Bs.len, History.enc_len], _, _, EqP.int (d := d + 1) g3 Try.underlying3 x.multiAt y.multiAt, ⟨by decide, by simp [Bs.len, History.enc_len], by simp [Bs.len, History.enc_len], _, _, EqP.int (d := d + 1) g3 Try.underlying3 x.uniAt y.uniAt, ⟨by decide, by simp [Bs.len, History.enc_len], by simp [Bs.len, History.enc_len], _, _, EqP.int (d := d + 1) g30 Try.underlying30 x.tx y.tx, ⟨by decide, by simp [Bs.len, History.enc_len], by simp [Bs.len, History.enc_len], _, _, EqP.int (d := d + 1) g3 Try.underlying3 x.txAt y.txAt, ⟨by decide, by simp [Bs.len, History.enc_len], by simp [Bs.len, History.enc_len], _, _, EqP.int (d := d + 1) g52 Try.underlying52 x.sent y.sent, ⟨by decide, by simp [Bs.len, History.enc_len], by simp [Bs.len, History.enc_len], _, _, EqP.int (d := d + 1) g3 Try.underlying3 x.heard y.heard, ⟨by decide, by simp [Bs.len, History.enc_len], by simp [Bs.len, History.enc_len], _, _, EqP.bool (d := d + 1) g4 Try.underlying4 x.hasSent y.hasSent, ⟨by decide, by simp [Bs.len, History.enc_len], by simp [Bs.len, History.enc_len], _, _, EqP.int (d := d + 1) g3 Try.underlying3 x.rtt y.rtt, ⟨by decide, by simp [Bs.len, History.enc_len], by simp [Bs.len, History.enc_len], _, _, EqP.bool (d := d + 1) g4 Try.underlying4 x.hasRtt y.hasRtt, rfl, rfl⟩, rfl⟩, rfl⟩, rfl⟩, rfl⟩, rfl⟩, rfl⟩, rfl⟩, rfl⟩, rfl⟩, rfl⟩, rfl⟩, rfl⟩, rfl⟩, rfl⟩
  rwa [show (decide (x.if_.val = y.if_.val) && (decide (x.addr = y.addr) && (decide (x.multi = y.multi) && (decide (x.uni = y.uni) && (decide (x.multiGap = y.multiGap) && (decide (x.uniGap = y.uniGap) && (decide (x.multiAt = y.multiAt) && (decide (x.uniAt = y.uniAt) && (decide (x.tx = y.tx) && (decide (x.txAt = y.txAt) && (decide (x.sent = y.sent) && (decide (x.heard = y.heard) && (decide (x.hasSent = y.hasSent) && (decide (x.rtt = y.rtt) && (decide (x.hasRtt = y.hasRtt) && true))))))))))))))) = decide (x = y) from (by cases x; cases y; simp [Subtype.ext_iff])] at h
theorem eq54 : EqTy Try.prog 54 (Neighbour) Neighbour.enc := ⟨fun x y => eqs54 9997 x y, by kernel_rfl⟩
theorem eqs58 (d : Nat) (x y : Rtt) : EqA Try.prog (d + 2) 58 x.enc y.enc (decide (x = y)) := by
  have h : EqA Try.prog (d + 2) 58 x.enc y.enc (decide (x.on_ = y.on_) && (decide (x.min = y.min) && (decide (x.max = y.max) && (decide (x.cost = y.cost) && (decide (x.decay = y.decay) && true))))) := EqA.struct (sa := [[.bool x.on_], [.int .i64 x.min], [.int .i64 x.max], [.int .i64 x.cost], [.int .i64 x.decay]]) (sb := [[.bool y.on_], [.int .i64 y.min], [.int .i64 y.max], [.int .i64 y.cost], [.int .i64 y.decay]]) Try.underlying58 (by kernel_rfl) ⟨by decide, by simp , by simp , _, _, EqP.bool (d := d + 0) g4 Try.underlying4 x.on_ y.on_, ⟨by decide, by simp , by simp , _, _, EqP.int (d := d + 0) g3 Try.underlying3 x.min y.min, ⟨by decide, by simp , by simp , _, _, EqP.int (d := d + 0) g3 Try.underlying3 x.max y.max, ⟨by decide, by simp , by simp , _, _, EqP.int (d := d + 0) g3 Try.underlying3 x.cost y.cost, ⟨by decide, by simp , by simp , _, _, EqP.int (d := d + 0) g3 Try.underlying3 x.decay y.decay, rfl, rfl⟩, rfl⟩, rfl⟩, rfl⟩, rfl⟩
  rwa [show (decide (x.on_ = y.on_) && (decide (x.min = y.min) && (decide (x.max = y.max) && (decide (x.cost = y.cost) && (decide (x.decay = y.decay) && true))))) = decide (x = y) from (by cases x; cases y; simp [Subtype.ext_iff])] at h
theorem eq58 : EqTy Try.prog 58 (Rtt) Rtt.enc := ⟨fun x y => eqs58 9998 x y, by kernel_rfl⟩
theorem kl29 (d : Nat) (x : Bs 16) : HasLits Try.prog (d + 2) 29 x.enc := HasLits.bytes Try.underlying29 Try.underlying5 (by kernel_rfl) (by kernel_rfl) x
theorem kl81 (d : Nat) (x : NeighKey) : HasLits Try.prog (d + 3) 81 x.enc := HasLits.struct (sa := [[I64.v x.i], x.from_.enc]) Try.underlying81 (by rw [show List.flatten _ = x.enc from rfl, NeighKey.enc_len _]; kernel_rfl) (by kernel_rfl) ⟨by simp [Bs.len], by kernel_rfl, HasLits.i64 (d := d + 1) Try.underlying3 _, ⟨by simp [Bs.len], by rw [Bs.len _]; kernel_rfl, kl29 (d + 0) _, trivial⟩⟩
theorem key81 : KeyTy Try.prog 81 (NeighKey) (fun x => .agg (NeighKey.enc x).toArray) := KeyTy.agg (m := 8) (by kernel_rfl) (by kernel_rfl) (by decide) (by kernel_rfl) (by kernel_rfl) (fun x => by rw [NeighKey.enc_len _]; kernel_rfl) (fun x => by rw [show Try.prog.types.size + 1 = 158 + 3 from by kernel_rfl]; exact kl81 _ x) (fun _ _ e => NeighKey.enc_inj e)
theorem ce3 : CanEnter Try.prog 3 := ⟨_, Try.func3, by kernel_rfl, by kernel_rfl⟩
theorem ce4 : CanEnter Try.prog 4 := ⟨_, Try.func4, by kernel_rfl, by kernel_rfl⟩
theorem ce5 : CanEnter Try.prog 5 := ⟨_, Try.func5, by kernel_rfl, by kernel_rfl⟩
theorem ce6 : CanEnter Try.prog 6 := ⟨_, Try.func6, by kernel_rfl, by kernel_rfl⟩
theorem ce7 : CanEnter Try.prog 7 := ⟨_, Try.func7, by kernel_rfl, by kernel_rfl⟩
theorem ce8 : CanEnter Try.prog 8 := ⟨_, Try.func8, by kernel_rfl, by kernel_rfl⟩
theorem ce9 : CanEnter Try.prog 9 := ⟨_, Try.func9, by kernel_rfl, by kernel_rfl⟩
theorem ce10 : CanEnter Try.prog 10 := ⟨_, Try.func10, by kernel_rfl, by kernel_rfl⟩
theorem ce11 : CanEnter Try.prog 11 := ⟨_, Try.func11, by kernel_rfl, by kernel_rfl⟩
theorem ce12 : CanEnter Try.prog 12 := ⟨_, Try.func12, by kernel_rfl, by kernel_rfl⟩
theorem ce13 : CanEnter Try.prog 13 := ⟨_, Try.func13, by kernel_rfl, by kernel_rfl⟩
theorem ce14 : CanEnter Try.prog 14 := ⟨_, Try.func14, by kernel_rfl, by kernel_rfl⟩
theorem ce15 : CanEnter Try.prog 15 := ⟨_, Try.func15, by kernel_rfl, by kernel_rfl⟩
theorem ce16 : CanEnter Try.prog 16 := ⟨_, Try.func16, by kernel_rfl, by kernel_rfl⟩
theorem ce17 : CanEnter Try.prog 17 := ⟨_, Try.func17, by kernel_rfl, by kernel_rfl⟩
theorem ce18 : CanEnter Try.prog 18 := ⟨_, Try.func18, by kernel_rfl, by kernel_rfl⟩
theorem ce19 : CanEnter Try.prog 19 := ⟨_, Try.func19, by kernel_rfl, by kernel_rfl⟩
theorem ce20 : CanEnter Try.prog 20 := ⟨_, Try.func20, by kernel_rfl, by kernel_rfl⟩
theorem ce21 : CanEnter Try.prog 21 := ⟨_, Try.func21, by kernel_rfl, by kernel_rfl⟩
theorem ce22 : CanEnter Try.prog 22 := ⟨_, Try.func22, by kernel_rfl, by kernel_rfl⟩
theorem ce23 : CanEnter Try.prog 23 := ⟨_, Try.func23, by kernel_rfl, by kernel_rfl⟩
theorem ce24 : CanEnter Try.prog 24 := ⟨_, Try.func24, by kernel_rfl, by kernel_rfl⟩
theorem ce25 : CanEnter Try.prog 25 := ⟨_, Try.func25, by kernel_rfl, by kernel_rfl⟩
theorem ce26 : CanEnter Try.prog 26 := ⟨_, Try.func26, by kernel_rfl, by kernel_rfl⟩
theorem ce27 : CanEnter Try.prog 27 := ⟨_, Try.func27, by kernel_rfl, by kernel_rfl⟩
theorem ce28 : CanEnter Try.prog 28 := ⟨_, Try.func28, by kernel_rfl, by kernel_rfl⟩
theorem ce29 : CanEnter Try.prog 29 := ⟨_, Try.func29, by kernel_rfl, by kernel_rfl⟩
theorem ce30 : CanEnter Try.prog 30 := ⟨_, Try.func30, by kernel_rfl, by kernel_rfl⟩
theorem ce31 : CanEnter Try.prog 31 := ⟨_, Try.func31, by kernel_rfl, by kernel_rfl⟩
theorem ce32 : CanEnter Try.prog 32 := ⟨_, Try.func32, by kernel_rfl, by kernel_rfl⟩
theorem ce33 : CanEnter Try.prog 33 := ⟨_, Try.func33, by kernel_rfl, by kernel_rfl⟩
theorem ce34 : CanEnter Try.prog 34 := ⟨_, Try.func34, by kernel_rfl, by kernel_rfl⟩
theorem ce35 : CanEnter Try.prog 35 := ⟨_, Try.func35, by kernel_rfl, by kernel_rfl⟩
theorem ce36 : CanEnter Try.prog 36 := ⟨_, Try.func36, by kernel_rfl, by kernel_rfl⟩
theorem ce37 : CanEnter Try.prog 37 := ⟨_, Try.func37, by kernel_rfl, by kernel_rfl⟩
theorem ce38 : CanEnter Try.prog 38 := ⟨_, Try.func38, by kernel_rfl, by kernel_rfl⟩
theorem ce39 : CanEnter Try.prog 39 := ⟨_, Try.func39, by kernel_rfl, by kernel_rfl⟩
theorem ce40 : CanEnter Try.prog 40 := ⟨_, Try.func40, by kernel_rfl, by kernel_rfl⟩
theorem ce41 : CanEnter Try.prog 41 := ⟨_, Try.func41, by kernel_rfl, by kernel_rfl⟩
theorem ce42 : CanEnter Try.prog 42 := ⟨_, Try.func42, by kernel_rfl, by kernel_rfl⟩
theorem ce43 : CanEnter Try.prog 43 := ⟨_, Try.func43, by kernel_rfl, by kernel_rfl⟩
theorem ce44 : CanEnter Try.prog 44 := ⟨_, Try.func44, by kernel_rfl, by kernel_rfl⟩
theorem ce45 : CanEnter Try.prog 45 := ⟨_, Try.func45, by kernel_rfl, by kernel_rfl⟩
theorem ce46 : CanEnter Try.prog 46 := ⟨_, Try.func46, by kernel_rfl, by kernel_rfl⟩
theorem ce47 : CanEnter Try.prog 47 := ⟨_, Try.func47, by kernel_rfl, by kernel_rfl⟩
theorem ce48 : CanEnter Try.prog 48 := ⟨_, Try.func48, by kernel_rfl, by kernel_rfl⟩
theorem ce49 : CanEnter Try.prog 49 := ⟨_, Try.func49, by kernel_rfl, by kernel_rfl⟩
theorem ce50 : CanEnter Try.prog 50 := ⟨_, Try.func50, by kernel_rfl, by kernel_rfl⟩
theorem ce51 : CanEnter Try.prog 51 := ⟨_, Try.func51, by kernel_rfl, by kernel_rfl⟩
theorem ce52 : CanEnter Try.prog 52 := ⟨_, Try.func52, by kernel_rfl, by kernel_rfl⟩
theorem ce53 : CanEnter Try.prog 53 := ⟨_, Try.func53, by kernel_rfl, by kernel_rfl⟩
theorem ce54 : CanEnter Try.prog 54 := ⟨_, Try.func54, by kernel_rfl, by kernel_rfl⟩
theorem ce55 : CanEnter Try.prog 55 := ⟨_, Try.func55, by kernel_rfl, by kernel_rfl⟩
theorem ce56 : CanEnter Try.prog 56 := ⟨_, Try.func56, by kernel_rfl, by kernel_rfl⟩
theorem ce57 : CanEnter Try.prog 57 := ⟨_, Try.func57, by kernel_rfl, by kernel_rfl⟩
theorem ce58 : CanEnter Try.prog 58 := ⟨_, Try.func58, by kernel_rfl, by kernel_rfl⟩
theorem ce59 : CanEnter Try.prog 59 := ⟨_, Try.func59, by kernel_rfl, by kernel_rfl⟩
theorem ce60 : CanEnter Try.prog 60 := ⟨_, Try.func60, by kernel_rfl, by kernel_rfl⟩
theorem ce61 : CanEnter Try.prog 61 := ⟨_, Try.func61, by kernel_rfl, by kernel_rfl⟩
theorem ce62 : CanEnter Try.prog 62 := ⟨_, Try.func62, by kernel_rfl, by kernel_rfl⟩
theorem ce63 : CanEnter Try.prog 63 := ⟨_, Try.func63, by kernel_rfl, by kernel_rfl⟩
theorem ce64 : CanEnter Try.prog 64 := ⟨_, Try.func64, by kernel_rfl, by kernel_rfl⟩
theorem ce65 : CanEnter Try.prog 65 := ⟨_, Try.func65, by kernel_rfl, by kernel_rfl⟩
theorem ce66 : CanEnter Try.prog 66 := ⟨_, Try.func66, by kernel_rfl, by kernel_rfl⟩
theorem ce67 : CanEnter Try.prog 67 := ⟨_, Try.func67, by kernel_rfl, by kernel_rfl⟩
theorem ce68 : CanEnter Try.prog 68 := ⟨_, Try.func68, by kernel_rfl, by kernel_rfl⟩
theorem ce69 : CanEnter Try.prog 69 := ⟨_, Try.func69, by kernel_rfl, by kernel_rfl⟩
theorem ce71 : CanEnter Try.prog 71 := ⟨_, Try.func71, by kernel_rfl, by kernel_rfl⟩
theorem ce72 : CanEnter Try.prog 72 := ⟨_, Try.func72, by kernel_rfl, by kernel_rfl⟩
theorem ce73 : CanEnter Try.prog 73 := ⟨_, Try.func73, by kernel_rfl, by kernel_rfl⟩
theorem ce74 : CanEnter Try.prog 74 := ⟨_, Try.func74, by kernel_rfl, by kernel_rfl⟩
theorem ce75 : CanEnter Try.prog 75 := ⟨_, Try.func75, by kernel_rfl, by kernel_rfl⟩
theorem ce76 : CanEnter Try.prog 76 := ⟨_, Try.func76, by kernel_rfl, by kernel_rfl⟩
theorem ce77 : CanEnter Try.prog 77 := ⟨_, Try.func77, by kernel_rfl, by kernel_rfl⟩
theorem ce78 : CanEnter Try.prog 78 := ⟨_, Try.func78, by kernel_rfl, by kernel_rfl⟩
theorem cmpRow : CmpRow Try.prog 70 := fun _ _ => by kernel_rfl
end Slb
