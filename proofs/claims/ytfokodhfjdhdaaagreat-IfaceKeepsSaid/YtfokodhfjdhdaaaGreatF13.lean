/- F13: a part of the proof that a law of this package holds for every input; no condition. -/
import Derived.Test.YtfokodhfjdhdaaaGreatRows
import Derived.Test.YtfokodhfjdhdaaaGreatS13
namespace Slb
open Go Go.Proofs
theorem g1 : Sca Tryz.prog 1 := ⟨fun _ => by kernel_rfl, fun _ => by kernel_rfl⟩
theorem g3 : Sca Tryz.prog 3 := ⟨fun _ => by kernel_rfl, fun _ => by kernel_rfl⟩
theorem z3 : Sz Tryz.prog 3 1 := g3.size
theorem g4 : Sca Tryz.prog 4 := ⟨fun _ => by kernel_rfl, fun _ => by kernel_rfl⟩
theorem z4 : Sz Tryz.prog 4 1 := g4.size
theorem g5 : Sca Tryz.prog 5 := ⟨fun _ => by kernel_rfl, fun _ => by kernel_rfl⟩
theorem z5 : Sz Tryz.prog 5 1 := g5.size
theorem zero5 : Zero Tryz.prog 5 (.int .u8 0) := fun _ => by kernel_rfl
theorem g9 : Sca Tryz.prog 9 := ⟨fun _ => by kernel_rfl, fun _ => by kernel_rfl⟩
theorem z9 : Sz Tryz.prog 9 1 := g9.size
theorem g22 : Sca Tryz.prog 22 := ⟨fun _ => by kernel_rfl, fun _ => by kernel_rfl⟩
theorem z22 : Sz Tryz.prog 22 1 := g22.size
theorem g32 : Agg Tryz.prog 32 16 := ⟨fun _ => by kernel_rfl, fun _ => by kernel_rfl⟩
theorem z32 : Sz Tryz.prog 32 16 := g32.size
theorem zero32 : Zero Tryz.prog 32 (.agg (Bs.zero 16).enc.toArray) := fun _ => by kernel_rfl
theorem g33 : Sca Tryz.prog 33 := ⟨fun _ => by kernel_rfl, fun _ => by kernel_rfl⟩
theorem z33 : Sz Tryz.prog 33 1 := g33.size
theorem zero33 : Zero Tryz.prog 33 (.slice none 0 0) := fun _ => by kernel_rfl
theorem g35 : Agg Tryz.prog 35 20 := ⟨fun _ => by kernel_rfl, fun _ => by kernel_rfl⟩
theorem z35 : Sz Tryz.prog 35 20 := g35.size
theorem f35_3 : FieldA Tryz.prog 35 3 3 := fun _ _ => by kernel_rfl
theorem f35_4 : FieldA Tryz.prog 35 4 19 := fun _ _ => by kernel_rfl
theorem g37 : Sca Tryz.prog 37 := ⟨fun _ => by kernel_rfl, fun _ => by kernel_rfl⟩
theorem z37 : Sz Tryz.prog 37 1 := g37.size
theorem g40 : Sca Tryz.prog 40 := ⟨fun _ => by kernel_rfl, fun _ => by kernel_rfl⟩
theorem z40 : Sz Tryz.prog 40 1 := g40.size
theorem zero40 : Zero Tryz.prog 40 (.int .u16 0) := fun _ => by kernel_rfl
theorem g42 : Agg Tryz.prog 42 8 := ⟨fun _ => by kernel_rfl, fun _ => by kernel_rfl⟩
theorem z42 : Sz Tryz.prog 42 8 := g42.size
theorem zero42 : Zero Tryz.prog 42 (.agg (Bs.zero 8).enc.toArray) := fun _ => by kernel_rfl
theorem g44 : Agg Tryz.prog 44 17 := ⟨fun _ => by kernel_rfl, fun _ => by kernel_rfl⟩
theorem z44 : Sz Tryz.prog 44 17 := g44.size
theorem f44_0 : FieldA Tryz.prog 44 0 0 := fun _ _ => by kernel_rfl
theorem f44_1 : FieldA Tryz.prog 44 1 16 := fun _ _ => by kernel_rfl
theorem st44 : StructTy Tryz.prog 44 Prefix.segs := ⟨fun _ => by kernel_rfl, _, Tryz.underlying44, fun _ => by kernel_rfl⟩
theorem zero44 : Zero Tryz.prog 44 (.agg Prefix.zero.enc.toArray) := fun _ => by kernel_rfl
theorem g46 : Agg Tryz.prog 46 34 := ⟨fun _ => by kernel_rfl, fun _ => by kernel_rfl⟩
theorem z46 : Sz Tryz.prog 46 34 := g46.size
theorem f46_0 : FieldA Tryz.prog 46 0 0 := fun _ _ => by kernel_rfl
theorem f46_1 : FieldA Tryz.prog 46 1 17 := fun _ _ => by kernel_rfl
theorem st46 : StructTy Tryz.prog 46 Pair.segs := ⟨fun _ => by kernel_rfl, _, Tryz.underlying46, fun _ => by kernel_rfl⟩
theorem g47 : Sca Tryz.prog 47 := ⟨fun _ => by kernel_rfl, fun _ => by kernel_rfl⟩
theorem z47 : Sz Tryz.prog 47 1 := g47.size
theorem g49 : Agg Tryz.prog 49 68 := ⟨fun _ => by kernel_rfl, fun _ => by kernel_rfl⟩
theorem z49 : Sz Tryz.prog 49 68 := g49.size
theorem f49_0 : FieldA Tryz.prog 49 0 0 := fun _ _ => by kernel_rfl
theorem f49_1 : FieldA Tryz.prog 49 1 1 := fun _ _ => by kernel_rfl
theorem f49_2 : FieldA Tryz.prog 49 2 2 := fun _ _ => by kernel_rfl
theorem f49_3 : FieldA Tryz.prog 49 3 3 := fun _ _ => by kernel_rfl
theorem f49_4 : FieldA Tryz.prog 49 4 4 := fun _ _ => by kernel_rfl
theorem f49_5 : FieldA Tryz.prog 49 5 5 := fun _ _ => by kernel_rfl
theorem f49_6 : FieldA Tryz.prog 49 6 6 := fun _ _ => by kernel_rfl
theorem f49_7 : FieldA Tryz.prog 49 7 7 := fun _ _ => by kernel_rfl
theorem f49_8 : FieldA Tryz.prog 49 8 8 := fun _ _ => by kernel_rfl
theorem f49_9 : FieldA Tryz.prog 49 9 9 := fun _ _ => by kernel_rfl
theorem f49_10 : FieldA Tryz.prog 49 10 17 := fun _ _ => by kernel_rfl
theorem f49_11 : FieldA Tryz.prog 49 11 33 := fun _ _ => by kernel_rfl
theorem f49_12 : FieldA Tryz.prog 49 12 67 := fun _ _ => by kernel_rfl
theorem st49 : StructTy Tryz.prog 49 Tlv.segs := ⟨fun _ => by kernel_rfl, _, Tryz.underlying49, fun _ => by kernel_rfl⟩
theorem zero49 : Zero Tryz.prog 49 (.agg Tlv.zero.enc.toArray) := fun _ => by kernel_rfl
theorem g63 : Agg Tryz.prog 63 5 := ⟨fun _ => by kernel_rfl, fun _ => by kernel_rfl⟩
theorem z63 : Sz Tryz.prog 63 5 := g63.size
theorem f63_0 : FieldA Tryz.prog 63 0 0 := fun _ _ => by kernel_rfl
theorem f63_1 : FieldA Tryz.prog 63 1 1 := fun _ _ => by kernel_rfl
theorem f63_2 : FieldA Tryz.prog 63 2 2 := fun _ _ => by kernel_rfl
theorem f63_3 : FieldA Tryz.prog 63 3 3 := fun _ _ => by kernel_rfl
theorem f63_4 : FieldA Tryz.prog 63 4 4 := fun _ _ => by kernel_rfl
theorem st63 : StructTy Tryz.prog 63 Rtt.segs := ⟨fun _ => by kernel_rfl, _, Tryz.underlying63, fun _ => by kernel_rfl⟩
theorem zero63 : Zero Tryz.prog 63 (.agg Rtt.zero.enc.toArray) := fun _ => by kernel_rfl
theorem g65 : Agg Tryz.prog 65 43 := ⟨fun _ => by kernel_rfl, fun _ => by kernel_rfl⟩
theorem z65 : Sz Tryz.prog 65 43 := g65.size
theorem f65_0 : FieldA Tryz.prog 65 0 0 := fun _ _ => by kernel_rfl
theorem f65_1 : FieldA Tryz.prog 65 1 1 := fun _ _ => by kernel_rfl
theorem f65_2 : FieldA Tryz.prog 65 2 2 := fun _ _ => by kernel_rfl
theorem f65_3 : FieldA Tryz.prog 65 3 3 := fun _ _ => by kernel_rfl
theorem f65_4 : FieldA Tryz.prog 65 4 4 := fun _ _ => by kernel_rfl
theorem f65_5 : FieldA Tryz.prog 65 5 5 := fun _ _ => by kernel_rfl
theorem f65_6 : FieldA Tryz.prog 65 6 6 := fun _ _ => by kernel_rfl
theorem f65_7 : FieldA Tryz.prog 65 7 22 := fun _ _ => by kernel_rfl
theorem f65_8 : FieldA Tryz.prog 65 8 38 := fun _ _ => by kernel_rfl
theorem st65 : StructTy Tryz.prog 65 IfConf.segs := ⟨fun _ => by kernel_rfl, _, Tryz.underlying65, fun _ => by kernel_rfl⟩
theorem zero65 : Zero Tryz.prog 65 (.agg IfConf.zero.enc.toArray) := fun _ => by kernel_rfl
theorem g71 : Sca Tryz.prog 71 := ⟨fun _ => by kernel_rfl, fun _ => by kernel_rfl⟩
theorem z71 : Sz Tryz.prog 71 1 := g71.size
theorem g75 : Sca Tryz.prog 75 := ⟨fun _ => by kernel_rfl, fun _ => by kernel_rfl⟩
theorem z75 : Sz Tryz.prog 75 1 := g75.size
theorem zero75 : Zero Tryz.prog 75 (.slice none 0 0) := fun _ => by kernel_rfl
theorem g77 : Agg Tryz.prog 77 18 := ⟨fun _ => by kernel_rfl, fun _ => by kernel_rfl⟩
theorem z77 : Sz Tryz.prog 77 18 := g77.size
theorem f77_0 : FieldA Tryz.prog 77 0 0 := fun _ _ => by kernel_rfl
theorem f77_1 : FieldA Tryz.prog 77 1 1 := fun _ _ => by kernel_rfl
theorem f77_2 : FieldA Tryz.prog 77 2 17 := fun _ _ => by kernel_rfl
theorem st77 : StructTy Tryz.prog 77 Sent.segs := ⟨fun _ => by kernel_rfl, _, Tryz.underlying77, fun _ => by kernel_rfl⟩
theorem zero77 : Zero Tryz.prog 77 (.agg Sent.zero.enc.toArray) := fun _ => by kernel_rfl
theorem g80 : Sca Tryz.prog 80 := ⟨fun _ => by kernel_rfl, fun _ => by kernel_rfl⟩
theorem g81 : Sca Tryz.prog 81 := ⟨fun _ => by kernel_rfl, fun _ => by kernel_rfl⟩
theorem g83 : Agg Tryz.prog 83 15 := ⟨fun _ => by kernel_rfl, fun _ => by kernel_rfl⟩
theorem z83 : Sz Tryz.prog 83 15 := g83.size
theorem f83_0 : FieldA Tryz.prog 83 0 0 := fun _ _ => by kernel_rfl
theorem f83_1 : FieldA Tryz.prog 83 1 8 := fun _ _ => by kernel_rfl
theorem f83_2 : FieldA Tryz.prog 83 2 9 := fun _ _ => by kernel_rfl
theorem f83_3 : FieldA Tryz.prog 83 3 10 := fun _ _ => by kernel_rfl
theorem f83_4 : FieldA Tryz.prog 83 4 11 := fun _ _ => by kernel_rfl
theorem f83_5 : FieldA Tryz.prog 83 5 12 := fun _ _ => by kernel_rfl
theorem f83_6 : FieldA Tryz.prog 83 6 13 := fun _ _ => by kernel_rfl
theorem f83_7 : FieldA Tryz.prog 83 7 14 := fun _ _ => by kernel_rfl
theorem st83 : StructTy Tryz.prog 83 Config.segs := ⟨fun _ => by kernel_rfl, _, Tryz.underlying83, fun _ => by kernel_rfl⟩
theorem zero83 : Zero Tryz.prog 83 (.agg Config.zero.enc.toArray) := fun _ => by kernel_rfl
theorem g85 : Sca Tryz.prog 85 := ⟨fun _ => by kernel_rfl, fun _ => by kernel_rfl⟩
theorem z85 : Sz Tryz.prog 85 1 := g85.size
theorem f87_0 : FieldA Tryz.prog 87 0 0 := fun _ _ => by kernel_rfl
theorem st87 : StructTy Tryz.prog 87 IfaceSet.segs := ⟨fun _ => by kernel_rfl, _, Tryz.underlying87, fun _ => by kernel_rfl⟩
theorem g88 : Sca Tryz.prog 88 := ⟨fun _ => by kernel_rfl, fun _ => by kernel_rfl⟩
theorem z88 : Sz Tryz.prog 88 1 := g88.size
theorem zero88 : Zero Tryz.prog 88 (.pointer none) := fun _ => by kernel_rfl
theorem g89 : Sca Tryz.prog 89 := ⟨fun _ => by kernel_rfl, fun _ => by kernel_rfl⟩
theorem z89 : Sz Tryz.prog 89 1 := g89.size
theorem f91_0 : FieldA Tryz.prog 91 0 0 := fun _ _ => by kernel_rfl
theorem f91_1 : FieldA Tryz.prog 91 1 43 := fun _ _ => by kernel_rfl
theorem f91_2 : FieldA Tryz.prog 91 2 44 := fun _ _ => by kernel_rfl
theorem f91_3 : FieldA Tryz.prog 91 3 45 := fun _ _ => by kernel_rfl
theorem st91 : StructTy Tryz.prog 91 IfaceOne.segs := ⟨fun _ => by kernel_rfl, _, Tryz.underlying91, fun _ => by kernel_rfl⟩
theorem g101 : Sca Tryz.prog 101 := ⟨fun _ => by kernel_rfl, fun _ => by kernel_rfl⟩
theorem z101 : Sz Tryz.prog 101 1 := g101.size
theorem zero101 : Zero Tryz.prog 101 (.int .u32 0) := fun _ => by kernel_rfl
theorem zero104 : Zero Tryz.prog 104 (.pointer none) := fun _ => by kernel_rfl
theorem g108 : Sca Tryz.prog 108 := ⟨fun _ => by kernel_rfl, fun _ => by kernel_rfl⟩
theorem z108 : Sz Tryz.prog 108 1 := g108.size
theorem zero108 : Zero Tryz.prog 108 (.slice none 0 0) := fun _ => by kernel_rfl
theorem g126 : Sca Tryz.prog 126 := ⟨fun _ => by kernel_rfl, fun _ => by kernel_rfl⟩
theorem g127 : Sca Tryz.prog 127 := ⟨fun _ => by kernel_rfl, fun _ => by kernel_rfl⟩
theorem g128 : Sca Tryz.prog 128 := ⟨fun _ => by kernel_rfl, fun _ => by kernel_rfl⟩
theorem z128 : Sz Tryz.prog 128 1 := g128.size
theorem f130_0 : FieldA Tryz.prog 130 0 0 := fun _ _ => by kernel_rfl
theorem f130_1 : FieldA Tryz.prog 130 1 1 := fun _ _ => by kernel_rfl
theorem f130_2 : FieldA Tryz.prog 130 2 2 := fun _ _ => by kernel_rfl
theorem st130 : StructTy Tryz.prog 130 PacketKnown.segs := ⟨fun _ => by kernel_rfl, _, Tryz.underlying130, fun _ => by kernel_rfl⟩
theorem f132_0 : FieldA Tryz.prog 132 0 0 := fun _ _ => by kernel_rfl
theorem st132 : StructTy Tryz.prog 132 PacketParser.segs := ⟨fun _ => by kernel_rfl, _, Tryz.underlying132, fun _ => by kernel_rfl⟩
theorem g137 : Agg Tryz.prog 137 2 := ⟨fun _ => by kernel_rfl, fun _ => by kernel_rfl⟩
theorem z137 : Sz Tryz.prog 137 2 := g137.size
theorem f137_0 : FieldA Tryz.prog 137 0 0 := fun _ _ => by kernel_rfl
theorem f137_1 : FieldA Tryz.prog 137 1 1 := fun _ _ => by kernel_rfl
theorem st137 : StructTy Tryz.prog 137 Raw.segs := ⟨fun _ => by kernel_rfl, _, Tryz.underlying137, fun _ => by kernel_rfl⟩
theorem zero137 : Zero Tryz.prog 137 (.agg Raw.zero.enc.toArray) := fun _ => by kernel_rfl
theorem f150_0 : FieldA Tryz.prog 150 0 0 := fun _ _ => by kernel_rfl
theorem f150_1 : FieldA Tryz.prog 150 1 16 := fun _ _ => by kernel_rfl
theorem f150_2 : FieldA Tryz.prog 150 2 17 := fun _ _ => by kernel_rfl
theorem st150 : StructTy Tryz.prog 150 PackBuffer.segs := ⟨fun _ => by kernel_rfl, _, Tryz.underlying150, fun _ => by kernel_rfl⟩
theorem g165 : Sca Tryz.prog 165 := ⟨fun _ => by kernel_rfl, fun _ => by kernel_rfl⟩
theorem z165 : Sz Tryz.prog 165 1 := g165.size
theorem zero165 : Zero Tryz.prog 165 (.pointer none) := fun _ => by kernel_rfl
theorem g172 : Agg Tryz.prog 172 42 := ⟨fun _ => by kernel_rfl, fun _ => by kernel_rfl⟩
theorem z172 : Sz Tryz.prog 172 42 := g172.size
theorem f172_0 : FieldA Tryz.prog 172 0 0 := fun _ _ => by kernel_rfl
theorem f172_1 : FieldA Tryz.prog 172 1 8 := fun _ _ => by kernel_rfl
theorem f172_2 : FieldA Tryz.prog 172 2 40 := fun _ _ => by kernel_rfl
theorem f174_0 : FieldA Tryz.prog 174 0 0 := fun _ _ => by kernel_rfl
theorem f174_1 : FieldA Tryz.prog 174 1 42 := fun _ _ => by kernel_rfl
theorem g175 : Sca Tryz.prog 175 := ⟨fun _ => by kernel_rfl, fun _ => by kernel_rfl⟩
theorem f185_0 : FieldA Tryz.prog 185 0 0 := fun _ _ => by kernel_rfl
theorem f185_1 : FieldA Tryz.prog 185 1 1 := fun _ _ => by kernel_rfl
theorem f185_2 : FieldA Tryz.prog 185 2 69 := fun _ _ => by kernel_rfl
theorem st185 : StructTy Tryz.prog 185 PacketPiece.segs := ⟨fun _ => by kernel_rfl, _, Tryz.underlying185, fun _ => by kernel_rfl⟩
theorem f216_0 : FieldA Tryz.prog 216 0 0 := fun _ _ => by kernel_rfl
theorem f216_1 : FieldA Tryz.prog 216 1 1 := fun _ _ => by kernel_rfl
theorem f216_2 : FieldA Tryz.prog 216 2 2 := fun _ _ => by kernel_rfl
theorem f216_3 : FieldA Tryz.prog 216 3 3 := fun _ _ => by kernel_rfl
theorem st216 : StructTy Tryz.prog 216 OctetReader.segs := ⟨fun _ => by kernel_rfl, _, Tryz.underlying216, fun _ => by kernel_rfl⟩
theorem el5 : ElemTy Tryz.prog 5 1 := .of (by kernel_rfl)
theorem el32 : ElemTy Tryz.prog 32 16 := .of (by kernel_rfl)
theorem el33 : ElemTy Tryz.prog 33 1 := .of (by kernel_rfl)
theorem el49 : ElemTy Tryz.prog 49 68 := .of (by kernel_rfl)
theorem el75 : ElemTy Tryz.prog 75 1 := .of (by kernel_rfl)
theorem el77 : ElemTy Tryz.prog 77 18 := .of (by kernel_rfl)
theorem el88 : ElemTy Tryz.prog 88 1 := .of (by kernel_rfl)
theorem el101 : ElemTy Tryz.prog 101 1 := .of (by kernel_rfl)
theorem el137 : ElemTy Tryz.prog 137 2 := .of (by kernel_rfl)
theorem eqs32 (d : Nat) (x y : Bs 16) : EqA Tryz.prog (d + 2) 32 x.enc y.enc (decide (x = y)) := EqA.bs Tryz.underlying32 Tryz.underlying5 (by kernel_rfl) (by kernel_rfl) g5 x y
theorem eq32 : EqTy Tryz.prog 32 (Bs 16) Bs.enc := ⟨fun x y => eqs32 9998 x y, by kernel_rfl⟩
theorem eqs42 (d : Nat) (x y : Bs 8) : EqA Tryz.prog (d + 2) 42 x.enc y.enc (decide (x = y)) := EqA.bs Tryz.underlying42 Tryz.underlying5 (by kernel_rfl) (by kernel_rfl) g5 x y
theorem eq42 : EqTy Tryz.prog 42 (Bs 8) Bs.enc := ⟨fun x y => eqs42 9998 x y, by kernel_rfl⟩
theorem eqs44 (d : Nat) (x y : Prefix) : EqA Tryz.prog (d + 3) 44 x.enc y.enc (decide (x = y)) := by
 have h : EqA Tryz.prog (d + 3) 44 x.enc y.enc (decide (x.a = y.a) && (decide (x.len.val = y.len.val) && true)) := EqA.struct (sa := [x.a.enc, [I64.v x.len]]) (sb := [y.a.enc, [I64.v y.len]]) Tryz.underlying44 (by kernel_rfl) ⟨by decide, by simp [Bs.len], by simp [Bs.len], _, _, EqP.agg g32 (Bs.len _) (Bs.len _) (eqs32 (d + 0) _ _), ⟨by decide, by simp [Bs.len], by simp [Bs.len], _, _, EqP.int (d := d + 1) g3 Tryz.underlying3 x.len.val y.len.val, rfl, rfl⟩, rfl⟩
 rwa [show (decide (x.a = y.a) && (decide (x.len.val = y.len.val) && true)) = decide (x = y) from (by cases x; cases y; simp [Subtype.ext_iff])] at h
theorem eq44 : EqTy Tryz.prog 44 (Prefix) Prefix.enc := ⟨fun x y => eqs44 9997 x y, by kernel_rfl⟩
theorem eqs46 (d : Nat) (x y : Pair) : EqA Tryz.prog (d + 4) 46 x.enc y.enc (decide (x = y)) := by
 have h : EqA Tryz.prog (d + 4) 46 x.enc y.enc (decide (x.dst = y.dst) && (decide (x.src = y.src) && true)) := EqA.struct (sa := [x.dst.enc, x.src.enc]) (sb := [y.dst.enc, y.src.enc]) Tryz.underlying46 (by kernel_rfl) ⟨by decide, by simp [Prefix.enc_len], by simp [Prefix.enc_len], _, _, EqP.agg g44 (Prefix.enc_len _) (Prefix.enc_len _) (eqs44 (d + 0) _ _), ⟨by decide, by simp [Prefix.enc_len], by simp [Prefix.enc_len], _, _, EqP.agg g44 (Prefix.enc_len _) (Prefix.enc_len _) (eqs44 (d + 0) _ _), rfl, rfl⟩, rfl⟩
 rwa [show (decide (x.dst = y.dst) && (decide (x.src = y.src) && true)) = decide (x = y) from (by cases x; cases y; simp [Subtype.ext_iff])] at h
theorem eq46 : EqTy Tryz.prog 46 (Pair) Pair.enc := ⟨fun x y => eqs46 9996 x y, by kernel_rfl⟩
theorem eqs63 (d : Nat) (x y : Rtt) : EqA Tryz.prog (d + 2) 63 x.enc y.enc (decide (x = y)) := by
 have h : EqA Tryz.prog (d + 2) 63 x.enc y.enc (decide (x.on_ = y.on_) && (decide (x.min = y.min) && (decide (x.max = y.max) && (decide (x.cost = y.cost) && (decide (x.decay = y.decay) && true))))) := EqA.struct (sa := [[.bool x.on_], [.int .i64 x.min], [.int .i64 x.max], [.int .i64 x.cost], [.int .i64 x.decay]]) (sb := [[.bool y.on_], [.int .i64 y.min], [.int .i64 y.max], [.int .i64 y.cost], [.int .i64 y.decay]]) Tryz.underlying63 (by kernel_rfl) ⟨by decide, by simp , by simp , _, _, EqP.bool (d := d + 0) g4 Tryz.underlying4 x.on_ y.on_, ⟨by decide, by simp , by simp , _, _, EqP.int (d := d + 0) g3 Tryz.underlying3 x.min y.min, ⟨by decide, by simp , by simp , _, _, EqP.int (d := d + 0) g3 Tryz.underlying3 x.max y.max, ⟨by decide, by simp , by simp , _, _, EqP.int (d := d + 0) g3 Tryz.underlying3 x.cost y.cost, ⟨by decide, by simp , by simp , _, _, EqP.int (d := d + 0) g3 Tryz.underlying3 x.decay y.decay, rfl, rfl⟩, rfl⟩, rfl⟩, rfl⟩, rfl⟩
 rwa [show (decide (x.on_ = y.on_) && (decide (x.min = y.min) && (decide (x.max = y.max) && (decide (x.cost = y.cost) && (decide (x.decay = y.decay) && true))))) = decide (x = y) from (by cases x; cases y; simp [Subtype.ext_iff])] at h
theorem eq63 : EqTy Tryz.prog 63 (Rtt) Rtt.enc := ⟨fun x y => eqs63 9998 x y, by kernel_rfl⟩
theorem kl32 (d : Nat) (x : Bs 16) : HasLits Tryz.prog (d + 2) 32 x.enc := HasLits.bytes Tryz.underlying32 Tryz.underlying5 (by kernel_rfl) (by kernel_rfl) x
theorem key32 : KeyTy Tryz.prog 32 (Bs 16) (fun x => .agg (Bs.enc x).toArray) := KeyTy.agg (m := 8) (by kernel_rfl) (by kernel_rfl) (by decide) (by kernel_rfl) (by kernel_rfl) (fun x => by rw [Bs.len _]; kernel_rfl) (fun x => by rw [show Tryz.prog.types.size + 1 = 285 + 2 from by kernel_rfl]; exact kl32 _ x) (fun _ _ e => Bs.enc_inj e)
theorem ce5 : CanEnter Tryz.prog 5 := ⟨_, Tryz.func5, by kernel_rfl, by kernel_rfl⟩
theorem ce6 : CanEnter Tryz.prog 6 := ⟨_, Tryz.func6, by kernel_rfl, by kernel_rfl⟩
theorem ce7 : CanEnter Tryz.prog 7 := ⟨_, Tryz.func7, by kernel_rfl, by kernel_rfl⟩
theorem ce8 : CanEnter Tryz.prog 8 := ⟨_, Tryz.func8, by kernel_rfl, by kernel_rfl⟩
theorem ce10 : CanEnter Tryz.prog 10 := ⟨_, Tryz.func10, by kernel_rfl, by kernel_rfl⟩
theorem ce11 : CanEnter Tryz.prog 11 := ⟨_, Tryz.func11, by kernel_rfl, by kernel_rfl⟩
theorem ce13 : CanEnter Tryz.prog 13 := ⟨_, Tryz.func13, by kernel_rfl, by kernel_rfl⟩
theorem ce14 : CanEnter Tryz.prog 14 := ⟨_, Tryz.func14, by kernel_rfl, by kernel_rfl⟩
theorem ce16 : CanEnter Tryz.prog 16 := ⟨_, Tryz.func16, by kernel_rfl, by kernel_rfl⟩
theorem ce17 : CanEnter Tryz.prog 17 := ⟨_, Tryz.func17, by kernel_rfl, by kernel_rfl⟩
theorem ce20 : CanEnter Tryz.prog 20 := ⟨_, Tryz.func20, by kernel_rfl, by kernel_rfl⟩
theorem ce24 : CanEnter Tryz.prog 24 := ⟨_, Tryz.func24, by kernel_rfl, by kernel_rfl⟩
theorem ce28 : CanEnter Tryz.prog 28 := ⟨_, Tryz.func28, by kernel_rfl, by kernel_rfl⟩
theorem ce29 : CanEnter Tryz.prog 29 := ⟨_, Tryz.func29, by kernel_rfl, by kernel_rfl⟩
theorem ce30 : CanEnter Tryz.prog 30 := ⟨_, Tryz.func30, by kernel_rfl, by kernel_rfl⟩
theorem ce31 : CanEnter Tryz.prog 31 := ⟨_, Tryz.func31, by kernel_rfl, by kernel_rfl⟩
theorem ce33 : CanEnter Tryz.prog 33 := ⟨_, Tryz.func33, by kernel_rfl, by kernel_rfl⟩
theorem ce34 : CanEnter Tryz.prog 34 := ⟨_, Tryz.func34, by kernel_rfl, by kernel_rfl⟩
theorem ce36 : CanEnter Tryz.prog 36 := ⟨_, Tryz.func36, by kernel_rfl, by kernel_rfl⟩
theorem ce37 : CanEnter Tryz.prog 37 := ⟨_, Tryz.func37, by kernel_rfl, by kernel_rfl⟩
theorem ce40 : CanEnter Tryz.prog 40 := ⟨_, Tryz.func40, by kernel_rfl, by kernel_rfl⟩
theorem ce41 : CanEnter Tryz.prog 41 := ⟨_, Tryz.func41, by kernel_rfl, by kernel_rfl⟩
theorem ce42 : CanEnter Tryz.prog 42 := ⟨_, Tryz.func42, by kernel_rfl, by kernel_rfl⟩
theorem ce43 : CanEnter Tryz.prog 43 := ⟨_, Tryz.func43, by kernel_rfl, by kernel_rfl⟩
theorem ce44 : CanEnter Tryz.prog 44 := ⟨_, Tryz.func44, by kernel_rfl, by kernel_rfl⟩
theorem ce45 : CanEnter Tryz.prog 45 := ⟨_, Tryz.func45, by kernel_rfl, by kernel_rfl⟩
theorem ce48 : CanEnter Tryz.prog 48 := ⟨_, Tryz.func48, by kernel_rfl, by kernel_rfl⟩
theorem ce49 : CanEnter Tryz.prog 49 := ⟨_, Tryz.func49, by kernel_rfl, by kernel_rfl⟩
theorem ce50 : CanEnter Tryz.prog 50 := ⟨_, Tryz.func50, by kernel_rfl, by kernel_rfl⟩
theorem ce51 : CanEnter Tryz.prog 51 := ⟨_, Tryz.func51, by kernel_rfl, by kernel_rfl⟩
theorem ce52 : CanEnter Tryz.prog 52 := ⟨_, Tryz.func52, by kernel_rfl, by kernel_rfl⟩
theorem ce53 : CanEnter Tryz.prog 53 := ⟨_, Tryz.func53, by kernel_rfl, by kernel_rfl⟩
theorem ce56 : CanEnter Tryz.prog 56 := ⟨_, Tryz.func56, by kernel_rfl, by kernel_rfl⟩
theorem ce57 : CanEnter Tryz.prog 57 := ⟨_, Tryz.func57, by kernel_rfl, by kernel_rfl⟩
theorem ce62 : CanEnter Tryz.prog 62 := ⟨_, Tryz.func62, by kernel_rfl, by kernel_rfl⟩
theorem ce63 : CanEnter Tryz.prog 63 := ⟨_, Tryz.func63, by kernel_rfl, by kernel_rfl⟩
theorem ce64 : CanEnter Tryz.prog 64 := ⟨_, Tryz.func64, by kernel_rfl, by kernel_rfl⟩
theorem ce65 : CanEnter Tryz.prog 65 := ⟨_, Tryz.func65, by kernel_rfl, by kernel_rfl⟩
theorem ce66 : CanEnter Tryz.prog 66 := ⟨_, Tryz.func66, by kernel_rfl, by kernel_rfl⟩
theorem ce67 : CanEnter Tryz.prog 67 := ⟨_, Tryz.func67, by kernel_rfl, by kernel_rfl⟩
theorem ce68 : CanEnter Tryz.prog 68 := ⟨_, Tryz.func68, by kernel_rfl, by kernel_rfl⟩
theorem ce69 : CanEnter Tryz.prog 69 := ⟨_, Tryz.func69, by kernel_rfl, by kernel_rfl⟩
theorem ce70 : CanEnter Tryz.prog 70 := ⟨_, Tryz.func70, by kernel_rfl, by kernel_rfl⟩
theorem ce71 : CanEnter Tryz.prog 71 := ⟨_, Tryz.func71, by kernel_rfl, by kernel_rfl⟩
theorem ce72 : CanEnter Tryz.prog 72 := ⟨_, Tryz.func72, by kernel_rfl, by kernel_rfl⟩
theorem ce73 : CanEnter Tryz.prog 73 := ⟨_, Tryz.func73, by kernel_rfl, by kernel_rfl⟩
theorem ce74 : CanEnter Tryz.prog 74 := ⟨_, Tryz.func74, by kernel_rfl, by kernel_rfl⟩
theorem ce75 : CanEnter Tryz.prog 75 := ⟨_, Tryz.func75, by kernel_rfl, by kernel_rfl⟩
theorem ce76 : CanEnter Tryz.prog 76 := ⟨_, Tryz.func76, by kernel_rfl, by kernel_rfl⟩
theorem ce77 : CanEnter Tryz.prog 77 := ⟨_, Tryz.func77, by kernel_rfl, by kernel_rfl⟩
theorem ce78 : CanEnter Tryz.prog 78 := ⟨_, Tryz.func78, by kernel_rfl, by kernel_rfl⟩
theorem ce79 : CanEnter Tryz.prog 79 := ⟨_, Tryz.func79, by kernel_rfl, by kernel_rfl⟩
theorem ce80 : CanEnter Tryz.prog 80 := ⟨_, Tryz.func80, by kernel_rfl, by kernel_rfl⟩
theorem ce81 : CanEnter Tryz.prog 81 := ⟨_, Tryz.func81, by kernel_rfl, by kernel_rfl⟩
theorem ce82 : CanEnter Tryz.prog 82 := ⟨_, Tryz.func82, by kernel_rfl, by kernel_rfl⟩
theorem ce83 : CanEnter Tryz.prog 83 := ⟨_, Tryz.func83, by kernel_rfl, by kernel_rfl⟩
theorem ce84 : CanEnter Tryz.prog 84 := ⟨_, Tryz.func84, by kernel_rfl, by kernel_rfl⟩
theorem ce85 : CanEnter Tryz.prog 85 := ⟨_, Tryz.func85, by kernel_rfl, by kernel_rfl⟩
theorem ce86 : CanEnter Tryz.prog 86 := ⟨_, Tryz.func86, by kernel_rfl, by kernel_rfl⟩
theorem ce90 : CanEnter Tryz.prog 90 := ⟨_, Tryz.func90, by kernel_rfl, by kernel_rfl⟩
theorem ce91 : CanEnter Tryz.prog 91 := ⟨_, Tryz.func91, by kernel_rfl, by kernel_rfl⟩
theorem ce96 : CanEnter Tryz.prog 96 := ⟨_, Tryz.func96, by kernel_rfl, by kernel_rfl⟩
theorem ce100 : CanEnter Tryz.prog 100 := ⟨_, Tryz.func100, by kernel_rfl, by kernel_rfl⟩
theorem ce101 : CanEnter Tryz.prog 101 := ⟨_, Tryz.func101, by kernel_rfl, by kernel_rfl⟩
theorem ce102 : CanEnter Tryz.prog 102 := ⟨_, Tryz.func102, by kernel_rfl, by kernel_rfl⟩
theorem ce103 : CanEnter Tryz.prog 103 := ⟨_, Tryz.func103, by kernel_rfl, by kernel_rfl⟩
theorem ce104 : CanEnter Tryz.prog 104 := ⟨_, Tryz.func104, by kernel_rfl, by kernel_rfl⟩
theorem ce105 : CanEnter Tryz.prog 105 := ⟨_, Tryz.func105, by kernel_rfl, by kernel_rfl⟩
theorem ce106 : CanEnter Tryz.prog 106 := ⟨_, Tryz.func106, by kernel_rfl, by kernel_rfl⟩
theorem ce107 : CanEnter Tryz.prog 107 := ⟨_, Tryz.func107, by kernel_rfl, by kernel_rfl⟩
theorem ce108 : CanEnter Tryz.prog 108 := ⟨_, Tryz.func108, by kernel_rfl, by kernel_rfl⟩
theorem ce109 : CanEnter Tryz.prog 109 := ⟨_, Tryz.func109, by kernel_rfl, by kernel_rfl⟩
theorem ce110 : CanEnter Tryz.prog 110 := ⟨_, Tryz.func110, by kernel_rfl, by kernel_rfl⟩
theorem ce111 : CanEnter Tryz.prog 111 := ⟨_, Tryz.func111, by kernel_rfl, by kernel_rfl⟩
theorem ce112 : CanEnter Tryz.prog 112 := ⟨_, Tryz.func112, by kernel_rfl, by kernel_rfl⟩
theorem ce113 : CanEnter Tryz.prog 113 := ⟨_, Tryz.func113, by kernel_rfl, by kernel_rfl⟩
theorem ce114 : CanEnter Tryz.prog 114 := ⟨_, Tryz.func114, by kernel_rfl, by kernel_rfl⟩
theorem ce115 : CanEnter Tryz.prog 115 := ⟨_, Tryz.func115, by kernel_rfl, by kernel_rfl⟩
theorem ce116 : CanEnter Tryz.prog 116 := ⟨_, Tryz.func116, by kernel_rfl, by kernel_rfl⟩
theorem ce117 : CanEnter Tryz.prog 117 := ⟨_, Tryz.func117, by kernel_rfl, by kernel_rfl⟩
theorem ce119 : CanEnter Tryz.prog 119 := ⟨_, Tryz.func119, by kernel_rfl, by kernel_rfl⟩
theorem ce120 : CanEnter Tryz.prog 120 := ⟨_, Tryz.func120, by kernel_rfl, by kernel_rfl⟩
theorem ce121 : CanEnter Tryz.prog 121 := ⟨_, Tryz.func121, by kernel_rfl, by kernel_rfl⟩
theorem ce122 : CanEnter Tryz.prog 122 := ⟨_, Tryz.func122, by kernel_rfl, by kernel_rfl⟩
theorem ce123 : CanEnter Tryz.prog 123 := ⟨_, Tryz.func123, by kernel_rfl, by kernel_rfl⟩
theorem ce142 : CanEnter Tryz.prog 142 := ⟨_, Tryz.func142, by kernel_rfl, by kernel_rfl⟩
theorem ce143 : CanEnter Tryz.prog 143 := ⟨_, Tryz.func143, by kernel_rfl, by kernel_rfl⟩
theorem ce144 : CanEnter Tryz.prog 144 := ⟨_, Tryz.func144, by kernel_rfl, by kernel_rfl⟩
theorem ce145 : CanEnter Tryz.prog 145 := ⟨_, Tryz.func145, by kernel_rfl, by kernel_rfl⟩
theorem ce146 : CanEnter Tryz.prog 146 := ⟨_, Tryz.func146, by kernel_rfl, by kernel_rfl⟩
theorem ce147 : CanEnter Tryz.prog 147 := ⟨_, Tryz.func147, by kernel_rfl, by kernel_rfl⟩
theorem ce148 : CanEnter Tryz.prog 148 := ⟨_, Tryz.func148, by kernel_rfl, by kernel_rfl⟩
theorem ce159 : CanEnter Tryz.prog 159 := ⟨_, Tryz.func159, by kernel_rfl, by kernel_rfl⟩
theorem ce160 : CanEnter Tryz.prog 160 := ⟨_, Tryz.func160, by kernel_rfl, by kernel_rfl⟩
theorem ce161 : CanEnter Tryz.prog 161 := ⟨_, Tryz.func161, by kernel_rfl, by kernel_rfl⟩
theorem ce162 : CanEnter Tryz.prog 162 := ⟨_, Tryz.func162, by kernel_rfl, by kernel_rfl⟩
theorem cmpRow : CmpRow Tryz.prog 99 := fun _ _ => by kernel_rfl
end Slb
