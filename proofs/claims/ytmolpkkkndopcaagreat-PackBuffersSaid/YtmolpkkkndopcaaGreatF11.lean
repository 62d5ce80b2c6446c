/- F11: a part of the proof that a law of this package holds for every input; no condition. -/
import Derived.Test.YtmolpkkkndopcaaGreatRows
import Derived.Test.YtmolpkkkndopcaaGreatS11
namespace Slb
open Go Go.Proofs
theorem g1 : Sca Tryz.prog 1 := ⟨fun _ => by kernel_rfl, fun _ => by kernel_rfl⟩
theorem g3 : Sca Tryz.prog 3 := ⟨fun _ => by kernel_rfl, fun _ => by kernel_rfl⟩
theorem z3 : Sz Tryz.prog 3 1 := g3.size
theorem g4 : Sca Tryz.prog 4 := ⟨fun _ => by kernel_rfl, fun _ => by kernel_rfl⟩
theorem z4 : Sz Tryz.prog 4 1 := g4.size
theorem g5 : Sca Tryz.prog 5 := ⟨fun _ => by kernel_rfl, fun _ => by kernel_rfl⟩
theorem z5 : Sz Tryz.prog 5 1 := g5.size
theorem zero5 : Zero Tryz.prog 5 (.int .u8 0) := fun _ => by kernel_rfl
theorem g23 : Agg Tryz.prog 23 16 := ⟨fun _ => by kernel_rfl, fun _ => by kernel_rfl⟩
theorem z23 : Sz Tryz.prog 23 16 := g23.size
theorem zero23 : Zero Tryz.prog 23 (.agg (Bs.zero 16).enc.toArray) := fun _ => by kernel_rfl
theorem g24 : Sca Tryz.prog 24 := ⟨fun _ => by kernel_rfl, fun _ => by kernel_rfl⟩
theorem z24 : Sz Tryz.prog 24 1 := g24.size
theorem g27 : Sca Tryz.prog 27 := ⟨fun _ => by kernel_rfl, fun _ => by kernel_rfl⟩
theorem z27 : Sz Tryz.prog 27 1 := g27.size
theorem zero27 : Zero Tryz.prog 27 (.slice none 0 0) := fun _ => by kernel_rfl
theorem g28 : Sca Tryz.prog 28 := ⟨fun _ => by kernel_rfl, fun _ => by kernel_rfl⟩
theorem z28 : Sz Tryz.prog 28 1 := g28.size
theorem g36 : Sca Tryz.prog 36 := ⟨fun _ => by kernel_rfl, fun _ => by kernel_rfl⟩
theorem z36 : Sz Tryz.prog 36 1 := g36.size
theorem zero36 : Zero Tryz.prog 36 (.int .u16 0) := fun _ => by kernel_rfl
theorem g38 : Agg Tryz.prog 38 8 := ⟨fun _ => by kernel_rfl, fun _ => by kernel_rfl⟩
theorem z38 : Sz Tryz.prog 38 8 := g38.size
theorem zero38 : Zero Tryz.prog 38 (.agg (Bs.zero 8).enc.toArray) := fun _ => by kernel_rfl
theorem g40 : Agg Tryz.prog 40 17 := ⟨fun _ => by kernel_rfl, fun _ => by kernel_rfl⟩
theorem z40 : Sz Tryz.prog 40 17 := g40.size
theorem f40_0 : FieldA Tryz.prog 40 0 0 := fun _ _ => by kernel_rfl
theorem f40_1 : FieldA Tryz.prog 40 1 16 := fun _ _ => by kernel_rfl
theorem st40 : StructTy Tryz.prog 40 Prefix.segs := ⟨fun _ => by kernel_rfl, _, Tryz.underlying40, fun _ => by kernel_rfl⟩
theorem zero40 : Zero Tryz.prog 40 (.agg Prefix.zero.enc.toArray) := fun _ => by kernel_rfl
theorem g42 : Agg Tryz.prog 42 34 := ⟨fun _ => by kernel_rfl, fun _ => by kernel_rfl⟩
theorem z42 : Sz Tryz.prog 42 34 := g42.size
theorem f42_0 : FieldA Tryz.prog 42 0 0 := fun _ _ => by kernel_rfl
theorem f42_1 : FieldA Tryz.prog 42 1 17 := fun _ _ => by kernel_rfl
theorem st42 : StructTy Tryz.prog 42 Pair.segs := ⟨fun _ => by kernel_rfl, _, Tryz.underlying42, fun _ => by kernel_rfl⟩
theorem zero42 : Zero Tryz.prog 42 (.agg Pair.zero.enc.toArray) := fun _ => by kernel_rfl
theorem g43 : Sca Tryz.prog 43 := ⟨fun _ => by kernel_rfl, fun _ => by kernel_rfl⟩
theorem z43 : Sz Tryz.prog 43 1 := g43.size
theorem g45 : Agg Tryz.prog 45 68 := ⟨fun _ => by kernel_rfl, fun _ => by kernel_rfl⟩
theorem z45 : Sz Tryz.prog 45 68 := g45.size
theorem f45_0 : FieldA Tryz.prog 45 0 0 := fun _ _ => by kernel_rfl
theorem f45_1 : FieldA Tryz.prog 45 1 1 := fun _ _ => by kernel_rfl
theorem f45_2 : FieldA Tryz.prog 45 2 2 := fun _ _ => by kernel_rfl
theorem f45_3 : FieldA Tryz.prog 45 3 3 := fun _ _ => by kernel_rfl
theorem f45_4 : FieldA Tryz.prog 45 4 4 := fun _ _ => by kernel_rfl
theorem f45_5 : FieldA Tryz.prog 45 5 5 := fun _ _ => by kernel_rfl
theorem f45_6 : FieldA Tryz.prog 45 6 6 := fun _ _ => by kernel_rfl
theorem f45_7 : FieldA Tryz.prog 45 7 7 := fun _ _ => by kernel_rfl
theorem f45_8 : FieldA Tryz.prog 45 8 8 := fun _ _ => by kernel_rfl
theorem f45_9 : FieldA Tryz.prog 45 9 9 := fun _ _ => by kernel_rfl
theorem f45_10 : FieldA Tryz.prog 45 10 17 := fun _ _ => by kernel_rfl
theorem f45_11 : FieldA Tryz.prog 45 11 33 := fun _ _ => by kernel_rfl
theorem f45_12 : FieldA Tryz.prog 45 12 67 := fun _ _ => by kernel_rfl
theorem st45 : StructTy Tryz.prog 45 Tlv.segs := ⟨fun _ => by kernel_rfl, _, Tryz.underlying45, fun _ => by kernel_rfl⟩
theorem zero45 : Zero Tryz.prog 45 (.agg Tlv.zero.enc.toArray) := fun _ => by kernel_rfl
theorem g46 : Sca Tryz.prog 46 := ⟨fun _ => by kernel_rfl, fun _ => by kernel_rfl⟩
theorem z46 : Sz Tryz.prog 46 1 := g46.size
theorem zero46 : Zero Tryz.prog 46 (.slice none 0 0) := fun _ => by kernel_rfl
theorem g67 : Sca Tryz.prog 67 := ⟨fun _ => by kernel_rfl, fun _ => by kernel_rfl⟩
theorem z67 : Sz Tryz.prog 67 1 := g67.size
theorem f69_0 : FieldA Tryz.prog 69 0 0 := fun _ _ => by kernel_rfl
theorem f69_1 : FieldA Tryz.prog 69 1 1 := fun _ _ => by kernel_rfl
theorem st69 : StructTy Tryz.prog 69 Ref07Open.segs := ⟨fun _ => by kernel_rfl, _, Tryz.underlying69, fun _ => by kernel_rfl⟩
theorem g81 : Agg Tryz.prog 81 2 := ⟨fun _ => by kernel_rfl, fun _ => by kernel_rfl⟩
theorem z81 : Sz Tryz.prog 81 2 := g81.size
theorem f81_0 : FieldA Tryz.prog 81 0 0 := fun _ _ => by kernel_rfl
theorem f81_1 : FieldA Tryz.prog 81 1 1 := fun _ _ => by kernel_rfl
theorem st81 : StructTy Tryz.prog 81 Raw.segs := ⟨fun _ => by kernel_rfl, _, Tryz.underlying81, fun _ => by kernel_rfl⟩
theorem zero81 : Zero Tryz.prog 81 (.agg Raw.zero.enc.toArray) := fun _ => by kernel_rfl
theorem f84_0 : FieldA Tryz.prog 84 0 0 := fun _ _ => by kernel_rfl
theorem f84_1 : FieldA Tryz.prog 84 1 16 := fun _ _ => by kernel_rfl
theorem f84_2 : FieldA Tryz.prog 84 2 17 := fun _ _ => by kernel_rfl
theorem st84 : StructTy Tryz.prog 84 PackBuffer.segs := ⟨fun _ => by kernel_rfl, _, Tryz.underlying84, fun _ => by kernel_rfl⟩
theorem g86 : Sca Tryz.prog 86 := ⟨fun _ => by kernel_rfl, fun _ => by kernel_rfl⟩
theorem z86 : Sz Tryz.prog 86 1 := g86.size
theorem zero86 : Zero Tryz.prog 86 (.pointer none) := fun _ => by kernel_rfl
theorem g93 : Agg Tryz.prog 93 42 := ⟨fun _ => by kernel_rfl, fun _ => by kernel_rfl⟩
theorem z93 : Sz Tryz.prog 93 42 := g93.size
theorem f93_0 : FieldA Tryz.prog 93 0 0 := fun _ _ => by kernel_rfl
theorem f93_1 : FieldA Tryz.prog 93 1 8 := fun _ _ => by kernel_rfl
theorem f93_2 : FieldA Tryz.prog 93 2 40 := fun _ _ => by kernel_rfl
theorem f95_0 : FieldA Tryz.prog 95 0 0 := fun _ _ => by kernel_rfl
theorem f95_1 : FieldA Tryz.prog 95 1 42 := fun _ _ => by kernel_rfl
theorem g100 : Sca Tryz.prog 100 := ⟨fun _ => by kernel_rfl, fun _ => by kernel_rfl⟩
theorem g101 : Sca Tryz.prog 101 := ⟨fun _ => by kernel_rfl, fun _ => by kernel_rfl⟩
theorem g102 : Sca Tryz.prog 102 := ⟨fun _ => by kernel_rfl, fun _ => by kernel_rfl⟩
theorem z102 : Sz Tryz.prog 102 1 := g102.size
theorem f104_0 : FieldA Tryz.prog 104 0 0 := fun _ _ => by kernel_rfl
theorem f104_1 : FieldA Tryz.prog 104 1 1 := fun _ _ => by kernel_rfl
theorem f104_2 : FieldA Tryz.prog 104 2 2 := fun _ _ => by kernel_rfl
theorem st104 : StructTy Tryz.prog 104 PacketKnown.segs := ⟨fun _ => by kernel_rfl, _, Tryz.underlying104, fun _ => by kernel_rfl⟩
theorem f106_0 : FieldA Tryz.prog 106 0 0 := fun _ _ => by kernel_rfl
theorem st106 : StructTy Tryz.prog 106 PacketParser.segs := ⟨fun _ => by kernel_rfl, _, Tryz.underlying106, fun _ => by kernel_rfl⟩
theorem g117 : Agg Tryz.prog 117 111 := ⟨fun _ => by kernel_rfl, fun _ => by kernel_rfl⟩
theorem z117 : Sz Tryz.prog 117 111 := g117.size
theorem f117_0 : FieldA Tryz.prog 117 0 0 := fun _ _ => by kernel_rfl
theorem f117_1 : FieldA Tryz.prog 117 1 8 := fun _ _ => by kernel_rfl
theorem f117_2 : FieldA Tryz.prog 117 2 9 := fun _ _ => by kernel_rfl
theorem f117_3 : FieldA Tryz.prog 117 3 57 := fun _ _ => by kernel_rfl
theorem g121 : Sca Tryz.prog 121 := ⟨fun _ => by kernel_rfl, fun _ => by kernel_rfl⟩
theorem z121 : Sz Tryz.prog 121 1 := g121.size
theorem zero121 : Zero Tryz.prog 121 (.int .u32 0) := fun _ => by kernel_rfl
theorem g137 : Sca Tryz.prog 137 := ⟨fun _ => by kernel_rfl, fun _ => by kernel_rfl⟩
theorem f147_0 : FieldA Tryz.prog 147 0 0 := fun _ _ => by kernel_rfl
theorem f147_1 : FieldA Tryz.prog 147 1 1 := fun _ _ => by kernel_rfl
theorem f147_2 : FieldA Tryz.prog 147 2 69 := fun _ _ => by kernel_rfl
theorem st147 : StructTy Tryz.prog 147 PacketPiece.segs := ⟨fun _ => by kernel_rfl, _, Tryz.underlying147, fun _ => by kernel_rfl⟩
theorem f158_0 : FieldA Tryz.prog 158 0 0 := fun _ _ => by kernel_rfl
theorem f158_1 : FieldA Tryz.prog 158 1 1 := fun _ _ => by kernel_rfl
theorem f158_2 : FieldA Tryz.prog 158 2 2 := fun _ _ => by kernel_rfl
theorem f158_3 : FieldA Tryz.prog 158 3 3 := fun _ _ => by kernel_rfl
theorem st158 : StructTy Tryz.prog 158 OctetReader.segs := ⟨fun _ => by kernel_rfl, _, Tryz.underlying158, fun _ => by kernel_rfl⟩
theorem el5 : ElemTy Tryz.prog 5 1 := .of (by kernel_rfl)
theorem el45 : ElemTy Tryz.prog 45 68 := .of (by kernel_rfl)
theorem el46 : ElemTy Tryz.prog 46 1 := .of (by kernel_rfl)
theorem el81 : ElemTy Tryz.prog 81 2 := .of (by kernel_rfl)
theorem el121 : ElemTy Tryz.prog 121 1 := .of (by kernel_rfl)
theorem eqs23 (d : Nat) (x y : Bs 16) : EqA Tryz.prog (d + 2) 23 x.enc y.enc (decide (x = y)) := EqA.bs Tryz.underlying23 Tryz.underlying5 (by kernel_rfl) (by kernel_rfl) g5 x y
theorem eq23 : EqTy Tryz.prog 23 (Bs 16) Bs.enc := ⟨fun x y => eqs23 9998 x y, by kernel_rfl⟩
theorem eqs38 (d : Nat) (x y : Bs 8) : EqA Tryz.prog (d + 2) 38 x.enc y.enc (decide (x = y)) := EqA.bs Tryz.underlying38 Tryz.underlying5 (by kernel_rfl) (by kernel_rfl) g5 x y
theorem eq38 : EqTy Tryz.prog 38 (Bs 8) Bs.enc := ⟨fun x y => eqs38 9998 x y, by kernel_rfl⟩
theorem eqs40 (d : Nat) (x y : Prefix) : EqA Tryz.prog (d + 3) 40 x.enc y.enc (decide (x = y)) := by
  have h : EqA Tryz.prog (d + 3) 40 x.enc y.enc (decide (x.a = y.a) && (decide (x.len.val = y.len.val) && true)) := EqA.struct (sa := [x.a.enc, [I64.v x.len]]) (sb := [y.a.enc, [I64.v y.len]]) Tryz.underlying40 (by kernel_rfl) ⟨by decide, by simp [Bs.len], by simp [Bs.len], _, _, EqP.agg g23 (Bs.len _) (Bs.len _) (eqs23 (d + 0) _ _), ⟨by decide, by simp [Bs.len], by simp [Bs.len], _, _, EqP.int (d := d + 1) g3 Tryz.underlying3 x.len.val y.len.val, rfl, rfl⟩, rfl⟩
  rwa [show (decide (x.a = y.a) && (decide (x.len.val = y.len.val) && true)) = decide (x = y) from (by cases x; cases y; simp [Subtype.ext_iff])] at h
theorem eq40 : EqTy Tryz.prog 40 (Prefix) Prefix.enc := ⟨fun x y => eqs40 9997 x y, by kernel_rfl⟩
theorem eqs42 (d : Nat) (x y : Pair) : EqA Tryz.prog (d + 4) 42 x.enc y.enc (decide (x = y)) := by
  have h : EqA Tryz.prog (d + 4) 42 x.enc y.enc (decide (x.dst = y.dst) && (decide (x.src = y.src) && true)) := EqA.struct (sa := [x.dst.enc, x.src.enc]) (sb := [y.dst.enc, y.src.enc]) Tryz.underlying42 (by kernel_rfl) ⟨by decide, by simp [Prefix.enc_len], by simp [Prefix.enc_len], _, _, EqP.agg g40 (Prefix.enc_len _) (Prefix.enc_len _) (eqs40 (d + 0) _ _), ⟨by decide, by simp [Prefix.enc_len], by simp [Prefix.enc_len], _, _, EqP.agg g40 (Prefix.enc_len _) (Prefix.enc_len _) (eqs40 (d + 0) _ _), rfl, rfl⟩, rfl⟩
  rwa [show (decide (x.dst = y.dst) && (decide (x.src = y.src) && true)) = decide (x = y) from (by cases x; cases y; simp [Subtype.ext_iff])] at h
theorem eq42 : EqTy Tryz.prog 42 (Pair) Pair.enc := ⟨fun x y => eqs42 9996 x y, by kernel_rfl⟩
theorem ce5 : CanEnter Tryz.prog 5 := ⟨_, Tryz.func5, by kernel_rfl, by kernel_rfl⟩
theorem ce6 : CanEnter Tryz.prog 6 := ⟨_, Tryz.func6, by kernel_rfl, by kernel_rfl⟩
theorem ce7 : CanEnter Tryz.prog 7 := ⟨_, Tryz.func7, by kernel_rfl, by kernel_rfl⟩
theorem ce8 : CanEnter Tryz.prog 8 := ⟨_, Tryz.func8, by kernel_rfl, by kernel_rfl⟩
theorem ce9 : CanEnter Tryz.prog 9 := ⟨_, Tryz.func9, by kernel_rfl, by kernel_rfl⟩
theorem ce10 : CanEnter Tryz.prog 10 := ⟨_, Tryz.func10, by kernel_rfl, by kernel_rfl⟩
theorem ce11 : CanEnter Tryz.prog 11 := ⟨_, Tryz.func11, by kernel_rfl, by kernel_rfl⟩
theorem ce12 : CanEnter Tryz.prog 12 := ⟨_, Tryz.func12, by kernel_rfl, by kernel_rfl⟩
theorem ce13 : CanEnter Tryz.prog 13 := ⟨_, Tryz.func13, by kernel_rfl, by kernel_rfl⟩
theorem ce14 : CanEnter Tryz.prog 14 := ⟨_, Tryz.func14, by kernel_rfl, by kernel_rfl⟩
theorem ce15 : CanEnter Tryz.prog 15 := ⟨_, Tryz.func15, by kernel_rfl, by kernel_rfl⟩
theorem ce16 : CanEnter Tryz.prog 16 := ⟨_, Tryz.func16, by kernel_rfl, by kernel_rfl⟩
theorem ce17 : CanEnter Tryz.prog 17 := ⟨_, Tryz.func17, by kernel_rfl, by kernel_rfl⟩
theorem ce18 : CanEnter Tryz.prog 18 := ⟨_, Tryz.func18, by kernel_rfl, by kernel_rfl⟩
theorem ce19 : CanEnter Tryz.prog 19 := ⟨_, Tryz.func19, by kernel_rfl, by kernel_rfl⟩
theorem ce20 : CanEnter Tryz.prog 20 := ⟨_, Tryz.func20, by kernel_rfl, by kernel_rfl⟩
theorem ce21 : CanEnter Tryz.prog 21 := ⟨_, Tryz.func21, by kernel_rfl, by kernel_rfl⟩
theorem ce22 : CanEnter Tryz.prog 22 := ⟨_, Tryz.func22, by kernel_rfl, by kernel_rfl⟩
theorem ce23 : CanEnter Tryz.prog 23 := ⟨_, Tryz.func23, by kernel_rfl, by kernel_rfl⟩
theorem ce24 : CanEnter Tryz.prog 24 := ⟨_, Tryz.func24, by kernel_rfl, by kernel_rfl⟩
theorem ce25 : CanEnter Tryz.prog 25 := ⟨_, Tryz.func25, by kernel_rfl, by kernel_rfl⟩
theorem ce26 : CanEnter Tryz.prog 26 := ⟨_, Tryz.func26, by kernel_rfl, by kernel_rfl⟩
theorem ce27 : CanEnter Tryz.prog 27 := ⟨_, Tryz.func27, by kernel_rfl, by kernel_rfl⟩
theorem ce28 : CanEnter Tryz.prog 28 := ⟨_, Tryz.func28, by kernel_rfl, by kernel_rfl⟩
theorem ce29 : CanEnter Tryz.prog 29 := ⟨_, Tryz.func29, by kernel_rfl, by kernel_rfl⟩
theorem ce30 : CanEnter Tryz.prog 30 := ⟨_, Tryz.func30, by kernel_rfl, by kernel_rfl⟩
theorem ce31 : CanEnter Tryz.prog 31 := ⟨_, Tryz.func31, by kernel_rfl, by kernel_rfl⟩
theorem ce32 : CanEnter Tryz.prog 32 := ⟨_, Tryz.func32, by kernel_rfl, by kernel_rfl⟩
theorem ce33 : CanEnter Tryz.prog 33 := ⟨_, Tryz.func33, by kernel_rfl, by kernel_rfl⟩
theorem ce34 : CanEnter Tryz.prog 34 := ⟨_, Tryz.func34, by kernel_rfl, by kernel_rfl⟩
theorem ce35 : CanEnter Tryz.prog 35 := ⟨_, Tryz.func35, by kernel_rfl, by kernel_rfl⟩
theorem ce36 : CanEnter Tryz.prog 36 := ⟨_, Tryz.func36, by kernel_rfl, by kernel_rfl⟩
theorem ce37 : CanEnter Tryz.prog 37 := ⟨_, Tryz.func37, by kernel_rfl, by kernel_rfl⟩
theorem ce38 : CanEnter Tryz.prog 38 := ⟨_, Tryz.func38, by kernel_rfl, by kernel_rfl⟩
theorem ce39 : CanEnter Tryz.prog 39 := ⟨_, Tryz.func39, by kernel_rfl, by kernel_rfl⟩
theorem ce40 : CanEnter Tryz.prog 40 := ⟨_, Tryz.func40, by kernel_rfl, by kernel_rfl⟩
theorem ce41 : CanEnter Tryz.prog 41 := ⟨_, Tryz.func41, by kernel_rfl, by kernel_rfl⟩
theorem ce42 : CanEnter Tryz.prog 42 := ⟨_, Tryz.func42, by kernel_rfl, by kernel_rfl⟩
theorem ce43 : CanEnter Tryz.prog 43 := ⟨_, Tryz.func43, by kernel_rfl, by kernel_rfl⟩
theorem ce44 : CanEnter Tryz.prog 44 := ⟨_, Tryz.func44, by kernel_rfl, by kernel_rfl⟩
theorem ce45 : CanEnter Tryz.prog 45 := ⟨_, Tryz.func45, by kernel_rfl, by kernel_rfl⟩
theorem ce46 : CanEnter Tryz.prog 46 := ⟨_, Tryz.func46, by kernel_rfl, by kernel_rfl⟩
theorem ce47 : CanEnter Tryz.prog 47 := ⟨_, Tryz.func47, by kernel_rfl, by kernel_rfl⟩
theorem ce48 : CanEnter Tryz.prog 48 := ⟨_, Tryz.func48, by kernel_rfl, by kernel_rfl⟩
theorem ce49 : CanEnter Tryz.prog 49 := ⟨_, Tryz.func49, by kernel_rfl, by kernel_rfl⟩
theorem ce50 : CanEnter Tryz.prog 50 := ⟨_, Tryz.func50, by kernel_rfl, by kernel_rfl⟩
theorem ce51 : CanEnter Tryz.prog 51 := ⟨_, Tryz.func51, by kernel_rfl, by kernel_rfl⟩
theorem ce52 : CanEnter Tryz.prog 52 := ⟨_, Tryz.func52, by kernel_rfl, by kernel_rfl⟩
theorem ce53 : CanEnter Tryz.prog 53 := ⟨_, Tryz.func53, by kernel_rfl, by kernel_rfl⟩
theorem ce54 : CanEnter Tryz.prog 54 := ⟨_, Tryz.func54, by kernel_rfl, by kernel_rfl⟩
theorem ce55 : CanEnter Tryz.prog 55 := ⟨_, Tryz.func55, by kernel_rfl, by kernel_rfl⟩
theorem ce56 : CanEnter Tryz.prog 56 := ⟨_, Tryz.func56, by kernel_rfl, by kernel_rfl⟩
theorem ce57 : CanEnter Tryz.prog 57 := ⟨_, Tryz.func57, by kernel_rfl, by kernel_rfl⟩
theorem ce58 : CanEnter Tryz.prog 58 := ⟨_, Tryz.func58, by kernel_rfl, by kernel_rfl⟩
theorem ce59 : CanEnter Tryz.prog 59 := ⟨_, Tryz.func59, by kernel_rfl, by kernel_rfl⟩
theorem ce60 : CanEnter Tryz.prog 60 := ⟨_, Tryz.func60, by kernel_rfl, by kernel_rfl⟩
theorem ce61 : CanEnter Tryz.prog 61 := ⟨_, Tryz.func61, by kernel_rfl, by kernel_rfl⟩
theorem ce62 : CanEnter Tryz.prog 62 := ⟨_, Tryz.func62, by kernel_rfl, by kernel_rfl⟩
theorem ce63 : CanEnter Tryz.prog 63 := ⟨_, Tryz.func63, by kernel_rfl, by kernel_rfl⟩
theorem ce64 : CanEnter Tryz.prog 64 := ⟨_, Tryz.func64, by kernel_rfl, by kernel_rfl⟩
theorem ce65 : CanEnter Tryz.prog 65 := ⟨_, Tryz.func65, by kernel_rfl, by kernel_rfl⟩
theorem ce66 : CanEnter Tryz.prog 66 := ⟨_, Tryz.func66, by kernel_rfl, by kernel_rfl⟩
theorem ce67 : CanEnter Tryz.prog 67 := ⟨_, Tryz.func67, by kernel_rfl, by kernel_rfl⟩
theorem ce68 : CanEnter Tryz.prog 68 := ⟨_, Tryz.func68, by kernel_rfl, by kernel_rfl⟩
theorem ce69 : CanEnter Tryz.prog 69 := ⟨_, Tryz.func69, by kernel_rfl, by kernel_rfl⟩
theorem ce70 : CanEnter Tryz.prog 70 := ⟨_, Tryz.func70, by kernel_rfl, by kernel_rfl⟩
theorem ce71 : CanEnter Tryz.prog 71 := ⟨_, Tryz.func71, by kernel_rfl, by kernel_rfl⟩
theorem ce72 : CanEnter Tryz.prog 72 := ⟨_, Tryz.func72, by kernel_rfl, by kernel_rfl⟩
theorem ce73 : CanEnter Tryz.prog 73 := ⟨_, Tryz.func73, by kernel_rfl, by kernel_rfl⟩
theorem ce74 : CanEnter Tryz.prog 74 := ⟨_, Tryz.func74, by kernel_rfl, by kernel_rfl⟩
theorem ce75 : CanEnter Tryz.prog 75 := ⟨_, Tryz.func75, by kernel_rfl, by kernel_rfl⟩
theorem ce76 : CanEnter Tryz.prog 76 := ⟨_, Tryz.func76, by kernel_rfl, by kernel_rfl⟩
theorem ce77 : CanEnter Tryz.prog 77 := ⟨_, Tryz.func77, by kernel_rfl, by kernel_rfl⟩
theorem ce78 : CanEnter Tryz.prog 78 := ⟨_, Tryz.func78, by kernel_rfl, by kernel_rfl⟩
theorem ce79 : CanEnter Tryz.prog 79 := ⟨_, Tryz.func79, by kernel_rfl, by kernel_rfl⟩
theorem ce80 : CanEnter Tryz.prog 80 := ⟨_, Tryz.func80, by kernel_rfl, by kernel_rfl⟩
theorem ce81 : CanEnter Tryz.prog 81 := ⟨_, Tryz.func81, by kernel_rfl, by kernel_rfl⟩
theorem ce82 : CanEnter Tryz.prog 82 := ⟨_, Tryz.func82, by kernel_rfl, by kernel_rfl⟩
theorem ce83 : CanEnter Tryz.prog 83 := ⟨_, Tryz.func83, by kernel_rfl, by kernel_rfl⟩
theorem ce84 : CanEnter Tryz.prog 84 := ⟨_, Tryz.func84, by kernel_rfl, by kernel_rfl⟩
theorem ce85 : CanEnter Tryz.prog 85 := ⟨_, Tryz.func85, by kernel_rfl, by kernel_rfl⟩
theorem ce86 : CanEnter Tryz.prog 86 := ⟨_, Tryz.func86, by kernel_rfl, by kernel_rfl⟩
theorem ce87 : CanEnter Tryz.prog 87 := ⟨_, Tryz.func87, by kernel_rfl, by kernel_rfl⟩
theorem ce88 : CanEnter Tryz.prog 88 := ⟨_, Tryz.func88, by kernel_rfl, by kernel_rfl⟩
theorem ce89 : CanEnter Tryz.prog 89 := ⟨_, Tryz.func89, by kernel_rfl, by kernel_rfl⟩
theorem ce90 : CanEnter Tryz.prog 90 := ⟨_, Tryz.func90, by kernel_rfl, by kernel_rfl⟩
theorem ce91 : CanEnter Tryz.prog 91 := ⟨_, Tryz.func91, by kernel_rfl, by kernel_rfl⟩
theorem ce92 : CanEnter Tryz.prog 92 := ⟨_, Tryz.func92, by kernel_rfl, by kernel_rfl⟩
theorem ce93 : CanEnter Tryz.prog 93 := ⟨_, Tryz.func93, by kernel_rfl, by kernel_rfl⟩
theorem ce94 : CanEnter Tryz.prog 94 := ⟨_, Tryz.func94, by kernel_rfl, by kernel_rfl⟩
theorem ce95 : CanEnter Tryz.prog 95 := ⟨_, Tryz.func95, by kernel_rfl, by kernel_rfl⟩
theorem ce96 : CanEnter Tryz.prog 96 := ⟨_, Tryz.func96, by kernel_rfl, by kernel_rfl⟩
theorem ce97 : CanEnter Tryz.prog 97 := ⟨_, Tryz.func97, by kernel_rfl, by kernel_rfl⟩
theorem ce98 : CanEnter Tryz.prog 98 := ⟨_, Tryz.func98, by kernel_rfl, by kernel_rfl⟩
theorem ce99 : CanEnter Tryz.prog 99 := ⟨_, Tryz.func99, by kernel_rfl, by kernel_rfl⟩
theorem ce100 : CanEnter Tryz.prog 100 := ⟨_, Tryz.func100, by kernel_rfl, by kernel_rfl⟩
theorem ce101 : CanEnter Tryz.prog 101 := ⟨_, Tryz.func101, by kernel_rfl, by kernel_rfl⟩
theorem ce102 : CanEnter Tryz.prog 102 := ⟨_, Tryz.func102, by kernel_rfl, by kernel_rfl⟩
theorem ce103 : CanEnter Tryz.prog 103 := ⟨_, Tryz.func103, by kernel_rfl, by kernel_rfl⟩
theorem ce104 : CanEnter Tryz.prog 104 := ⟨_, Tryz.func104, by kernel_rfl, by kernel_rfl⟩
theorem ce105 : CanEnter Tryz.prog 105 := ⟨_, Tryz.func105, by kernel_rfl, by kernel_rfl⟩
end Slb
