/- J10: a part of the proof that a law of this package holds for every input; no condition. -/
import Derived.Test.YtfokodhfjdhdaaaGreatM2
import Derived.Test.YtfokodhfjdhdaaaGreatJ9
namespace Slb
open Go Go.Proofs
set_option maxRecDepth 20000
def and8i (m n : Int) : Int := ((BitVec.ofInt 8 m &&& BitVec.ofInt 8 n).toNat : Int)
theorem wrap8_bv (b : BitVec 8) : IntKind.u8.wrap (b.toNat : Int) = (b.toNat : Int) := by
 have h3 := b.isLt
 generalize b.toNat = k at h3 ⊢
 exact wrap_u8 (by omega) (by omega)
theorem bits_and8 (a b : Int) : Op.intBits .and .u8 a b = pure (.int .u8 (and8i a b)) := by
 have h : IntKind.u8.wrap ((BitVec.ofInt 8 a &&& BitVec.ofInt 8 b).toNat : Int) = and8i a b := wrap8_bv _
 unfold Op.intBits
 exact congrArg (fun n => (pure (Value.int .u8 n) : Sem Value)) h
section
variable {P : Program} {N : Nat} {G : Env} {S : List HProp} {F : Fr} {o : Oper} {t t' : TypeId} {x y : Operand}
theorem QP.and8i {m n : Int} (ho : o.op = .binOp .and t x y t') (hx : opv G x = some (.int .u8 m)) (hy : opv G y = some (.int .u8 n)) : QP P N G S F o (.int .u8 (and8i m n)) := fun ac w s w' => by
 unfold execOp
 simp [ho, s.eval hx, s.eval hy, eqGuard_at_int, binOp, bits_and8]
end
/-- A part of an array within a block, as bytes to copy. -/
theorem RowsAt.arrAt {S : List HProp} {F : Fr} {b n i k c off : Nat} {x : Bs n} {l : List Value} {ty : TypeId} (h : blk b l ty ∈ S) (hs : SubL l off n x.enc) (hik : i + k ≤ n) : RowsAt S F (.slice (slOff (some ⟨b, off, none⟩) n i 1) k c) ((x.l.drop i).take k).length 1 (bytesV ((x.l.drop i).take k)) := by
 have hx := x.h
 have hlen : ((x.l.drop i).take k).length = k := by rw [List.length_take, List.length_drop]; omega
 rw [hlen]
 refine ⟨by rw [bytesV_length, hlen, Nat.mul_one], .inr ?_⟩
 have hsub : SubL x.enc i k (bytesV ((x.l.drop i).take k)) := by
   refine ⟨bytesV (x.l.take i), bytesV ((x.l.drop i).drop k), ?_, by rw [bytesV_length, List.length_take]; omega, by rw [bytesV_length, hlen]⟩
   unfold Bs.enc bytesV
   rw [← List.map_append, ← List.map_append, List.append_assoc, List.take_append_drop, List.take_append_drop]
 by_cases hn : n = i
 · refine ⟨b, off, c, by unfold slOff; rw [if_pos hn], fun w s => ⟨l, ty, (0, 0), s.mem h, ?_⟩⟩
   have hk : k = 0 := by omega
   subst hk
   have := hs.trans (SubL.trans (SubL.all x.enc |> fun q => by rwa [x.len] at q) (show SubL x.enc 0 0 [] from ⟨[], x.enc, by simp, rfl, rfl⟩))
   simpa [bytesV] using this
 · exact ⟨b, off + i, c, by unfold slOff; rw [if_neg hn]; simp [add_lit], fun w s => ⟨l, ty, (0, 0), s.mem h, by rw [Nat.mul_one]; exact hs.trans hsub⟩⟩
theorem RowsAt.lit {S : List HProp} {F : Fr} {b c : Nat} {ys : List UInt8} {ty : TypeId} (h : blk b (bytesV ys) ty ∈ S) : RowsAt S F (.slice (some ⟨b, 0, none⟩) ys.length c) ys.length 1 (bytesV ys) := by
 refine ⟨by rw [bytesV_length, Nat.mul_one], .inr ⟨b, 0, c, rfl, fun w s => ⟨_, ty, (0, 0), s.mem h, ?_⟩⟩⟩
 have := SubL.all (bytesV ys)
 rw [bytesV_length] at this
 rwa [Nat.mul_one]
def idOf (ae : Int) (a : Bs 16) : Bs 8 := if ae = 1 then ((Bs.zero 8).patch 0 ((a.l.drop 8).take 8)).patch 0 [0, 0, 0, 0] else (Bs.zero 8).patch 0 ((a.l.drop 8).take 8)
def updX (x : PrS) (ae fl : Int) (p : Prefix) : PrS :=
 { id := if and8i fl 64 ≠ 0 then some (idOf ae p.a) else x.id, hops := x.hops, bases := if and8i fl 128 ≠ 0 then aset x.bases (n8 ae) p.a else x.bases }
def updH (x : PrS) (pr : Pair × Rs × Bool) (p : Prefix) (t : Tlv) : Tlv × Rs × Bool :=
 if t.metric = 65535 then ({ t with pair := pr.1 }, pr.2.1, pr.2.2) else
 if soundB (pr.2.2 || !((alook x.hops (n64 (pfamilyB p))).isSome && (match x.id with | none => false | some i => namedB i))) pr.2.1 = true
 then ({ t with pair := pr.1, id_ := x.id.getD (Bs.zero 8), addr := (alook x.hops (n64 (pfamilyB p))).getD (Bs.zero 16) }, pr.2.1, pr.2.2 || !((alook x.hops (n64 (pfamilyB p))).isSome && (match x.id with | none => false | some i => namedB i)))
 else ({ t with pair := pr.1 }, pr.2.1, pr.2.2 || !((alook x.hops (n64 (pfamilyB p))).isSome && (match x.id with | none => false | some i => namedB i)))
def updG (x : PrS) (ae fl plen om : Int) (t : Tlv) (r : Rs) (bad : Bool) : (Tlv × Rs × Bool) × PrS :=
 if ae = 0 then
   if plen = 0 ∧ om = 0 ∧ t.metric = 65535 then (({ t with all := true }, (subsF [128] bad r).2.1, (subsF [128] bad r).2.2 || !decide ((subsF [128] bad r).1 = [])), x)
   else (({ t with all := true }, r, true), x)
 else
   let pf := prefF ae plen om ((alook x.bases (n8 ae)).getD (Bs.zero 16)) r (bad || !(decide (om = 0) || (alook x.bases (n8 ae)).isSome))
   if soundB pf.2.2 pf.2.1 = false then ((t, pf.2.1, pf.2.2), x)
   else (updH (updX x ae fl pf.1) (pairF ae pf.1 pf.2.2 pf.2.1) pf.1 t, updX x ae fl pf.1)
def updT (t : Tlv) (r4 : Rs) : Tlv := { t with interval := u16F r4, seqno := u16F (rdTake r4 2).2, metric := u16F (rdTake (rdTake r4 2).2 2).2 }
def updF (x : PrS) (t : Tlv) (r : Rs) (bad : Bool) : (Tlv × Rs × Bool) × PrS :=
 let r1 := (rdTake r 1).2
 let r2 := (rdTake r1 1).2
 let r3 := (rdTake r2 1).2
 let r4 := (rdTake r3 1).2
 updG x (u8F r) (u8F r1) (u8F r2) (u8F r3) (updT t r4) (rdTake (rdTake (rdTake r4 2).2 2).2 2).2 bad

set_option maxHeartbeats 6000000 in
theorem update_spec (F : Fr) {xb hm bm : Nat} {idp : Option Addr} (x : PrS) {b rb : Nat} {t : Tlv} {bad : Bool} {r : Rs} (hrl : r.l.length ≤ 1000000)  : Spec Tryz.prog 80 #[fp xb, fp b] [blk b (PacketPiece.enc ⟨some ⟨rb, 0, none⟩, t, bad⟩) 185, RdA rb r, blk xb (PacketParser.enc ⟨⟨idp, some hm, some bm⟩⟩) 132, mapH hm x.hops, mapB bm x.bases, idA idp x.id] F (fun v S => ∃ idp2, v = .tuple #[] ∧ S = [blk b (PacketPiece.enc ⟨some ⟨rb, 0, none⟩, (updF x t r bad).1.1, (updF x t r bad).1.2.2⟩) 185, RdA rb (updF x t r bad).1.2.1, blk xb (PacketParser.enc ⟨⟨idp2, some hm, some bm⟩⟩) 132, mapH hm (updF x t r bad).2.hops, mapB bm (updF x t r bad).2.bases, idA idp2 (updF x t r bad).2.id]) := by
 obtain ⟨r1, hr1⟩ : ∃ q, (rdTake r 1).2 = q := ⟨_, rfl⟩
 obtain ⟨r2, hr2⟩ : ∃ q, (rdTake r1 1).2 = q := ⟨_, rfl⟩
 obtain ⟨r3, hr3⟩ : ∃ q, (rdTake r2 1).2 = q := ⟨_, rfl⟩
 obtain ⟨r4, hr4⟩ : ∃ q, (rdTake r3 1).2 = q := ⟨_, rfl⟩
 obtain ⟨ae, hae⟩ : ∃ q, u8F r = q := ⟨_, rfl⟩
 obtain ⟨fl, hfl⟩ : ∃ q, u8F r1 = q := ⟨_, rfl⟩
 obtain ⟨plen, hpl⟩ : ∃ q, u8F r2 = q := ⟨_, rfl⟩
 obtain ⟨om, hom⟩ : ∃ q, u8F r3 = q := ⟨_, rfl⟩
 obtain ⟨r7, hr7⟩ : ∃ q, (rdTake (rdTake (rdTake r4 2).2 2).2 2).2 = q := ⟨_, rfl⟩
 have haer := u8_range r
 rw [hae] at haer
 have hplr := u8_range r2
 rw [hpl] at hplr
 have homr := u8_range r3
 rw [hom] at homr
 have hae8 : 0 ≤ ae ∧ ae ≤ 255 := by omega
 have hr7l : r7.l.length ≤ 1000000 := by rw [← hr7, ← hr4, ← hr3, ← hr2, ← hr1]; exact take_few _ (take_few _ (take_few _ (take_few _ (take_few _ (take_few _ (take_few _ hrl))))))
 refine Spec.intro (N := 215) (args := [fp xb, fp b]) Tryz.func80 rfl rfl (by simp) ?_
 refine Run.seq fun _ hk1 => Run.regionM (M := [0, 1, 3, 7, 15, 0, 32, 96, 224, 511, 0, 1024, 3072, 7168, 16383, 0, 32768, 98304, 229376, 524287, 1048575, 2097151, 4194303, 8388607]) (q := 507375) (r := 270600) mixedT Kr ?_
 refine Dp 0 E2 (Zm E2) <| Dp 1 E2 (Zn E2) <| Dp 2 E2 (Za E2 f185_0) <| Dr 3 E2 (Z1 E2 g175 (PacketPiece.sub_reader _)) ?_
 refine Dp 5 E2 (Zm E2) <| Dp 6 E2 (Zn E2) <| Dp 7 E2 (Za E2 f185_0) <| Dr 8 E2 (Z1 E2 g175 (PacketPiece.sub_reader _)) ?_
 refine Dp 10 E2 (Zm E2) <| Dp 11 E2 (Zn E2) <| Dp 12 E2 (Za E2 f185_0) <| Dr 13 E2 (Z1 E2 g175 (PacketPiece.sub_reader _)) ?_
 refine Dp 15 E2 (Zm E2) <| Dp 16 E2 (Zn E2) <| Dp 17 E2 (Za E2 f185_0) <| Dr 18 E2 (Z1 E2 g175 (PacketPiece.sub_reader _)) ?_
 refine De 4 <| Om [18, 13, 8] rfl rfl (Zc E2 ce71 Tk1 (fun F' hle hr => u8_spec F' (r := r))) ?_
 rintro _ _ ⟨_, ⟨rfl, rfl⟩, rfl⟩
 refine ⟨?_, ?_⟩
 ·rw [FM, FM, FM]
  refine ⟨?_, ?_, ?_, NO⟩
  ·refine Look.app ?_
   exact Lk E3 (Z1 E2 g175 (PacketPiece.sub_reader _))
  ·refine Look.app ?_
   exact Lk E3 (Z1 E2 g175 (PacketPiece.sub_reader _))
  ·refine Look.app ?_
   exact Lk E3 (Z1 E2 g175 (PacketPiece.sub_reader _))
 refine ?_
 refine J.app ?_
 rw [hae, hr1]
 refine De 9 <| Om [18, 13] rfl rfl (Zc E2 ce71 Tk1 (fun F' hle hr => u8_spec F' (r := r1))) ?_
 rintro _ _ ⟨_, ⟨rfl, rfl⟩, rfl⟩
 refine ⟨?_, ?_⟩
 ·rw [FM, FM]
  refine ⟨?_, ?_, NO⟩
  ·refine Look.app ?_
   exact Lk E3 (Z1 E2 g175 (PacketPiece.sub_reader _))
  ·refine Look.app ?_
   exact Lk E3 (Z1 E2 g175 (PacketPiece.sub_reader _))
 refine ?_
 refine J.app ?_
 rw [hfl, hr2]
 refine De 14 <| Om [18] rfl rfl (Zc E2 ce71 Tk1 (fun F' hle hr => u8_spec F' (r := r2))) ?_
 rintro _ _ ⟨_, ⟨rfl, rfl⟩, rfl⟩
 refine ⟨?_, ?_⟩
 ·rw [FM]
  refine ⟨?_, NO⟩
  ·refine Look.app ?_
   exact Lk E3 (Z1 E2 g175 (PacketPiece.sub_reader _))
 refine ?_
 refine J.app ?_
 rw [hpl, hr3]
 refine De 19 <| Om [] rfl rfl (Zc E2 ce71 Tk1 (fun F' hle hr => u8_spec F' (r := r3))) ?_
 rintro _ _ ⟨_, ⟨rfl, rfl⟩, rfl⟩
 refine N0 <| J.app ?_
 rw [hom, hr4]
 refine De 20 <| Om [] rfl rfl ((Zg E2).eff) ?_
 rintro _ _ ⟨rfl, rfl⟩
 refine N0 <| De 21 <| Om [] rfl rfl ((Zg E2).eff) ?_
 rintro _ _ ⟨rfl, rfl⟩
 refine N0 <| De 22 <| Om [] rfl rfl ((Zg E2).eff) ?_
 rintro _ _ ⟨rfl, rfl⟩
 refine N0 <| De 23 <| Om [] rfl rfl ((Zg E2).eff) ?_
 rintro _ _ ⟨rfl, rfl⟩
 refine N0 <| Dn <| hk1 _ _ <| Run.cut1 (fun (t1 : Tlv) => t1 = updT t r4) (fun t1 => .cons 0 (fp xb) (.cons 1 (fp b) (.cons 4 (.int .u8 ae) (.cons 5 (.int .u8 fl) (.cons 6 (.int .u8 plen) (.cons 7 (.int .u8 om) (.nil))))))) (fun t1 => [blk b (PacketPiece.enc ⟨some ⟨rb, 0, none⟩, t1, bad⟩) 185, RdA rb r7, blk xb (PacketParser.enc ⟨⟨idp, some hm, some bm⟩⟩) 132, mapH hm x.hops, mapB bm x.bases, idA idp x.id]) ?_ ?_
 ·rintro t1 ht1
  refine Run.seq fun _ hk3 => Zs fun _ hk4 => Mv 0 E3 <| Qp 1 E2 (Ze E3) <| J.caseD (fun c60 => ?_) (fun c60 => ?_)
  ·refine Zl hk4 <| Zt <| Zs fun _ hk5 => Mv 0 E3 <| Qp 1 E2 (Zn E2) <| Fa 2 E3 f185_1 <| Fa 3 E3 f49_8 <| Ac 4 rfl (EF.store rfl rfl rfl z4 ((PacketPiece.set_tlv _ _).trans (PacketPiece.sub_tlv _) (Tlv.set_all _ _)) (cell_one rfl)) ?_
   rintro _ _ rfl
   refine Zl hk5 <| Zs fun _ hk6 => Mv 0 E3 <| Mv 1 E3 <| Qp 2 E2 (Ze E3) <| J.caseD (fun c67 => ?_) (fun c67 => ?_)
   ·refine Mv 3 E3 <| Ym 4 E4 <| Yp 5 E3 (Ze E3) <| J.caseD (fun c70 => ?_) (fun c70 => ?_)
    ·refine Pt 6 E4 <| Mv 7 E3 <| Ym 8 E4 <| Yp 9 E3 (Zn E2) <| Yf 10 E4 f185_1 <| Yf 11 E4 f49_5 <| Yq 12 E3 (Z1 E2 g40 ((PacketPiece.sub_tlv _).trans (Tlv.sub_metric _))) ?_
     refine Yp 13 E3 (Ze E3) <| J.caseD (fun c78 => ?_) (fun c78 => ?_)
     ·refine Pt 14 E4 <| Mv 15 E3 <| Ym 16 E4 <| Ye 17 E3 (EF.buildSliceS rfl Tryz.underlying75 z5 zero5 rfl (by decide) rfl rfl rfl rfl) ?_
      rintro _ _ ⟨b82, rfl, rfl⟩
      refine Ye 18 E3 (Zc E2 ce77 Tk2 (fun F' hle hr => subs_spec F' (t := { t1 with all := true }) (bad := bad) (r := r7) (ts := [128]) (by simp) (argSl_all (enc := bytE) (xs := [128]) (fun _ => rfl) (hr b82 _ Rc)) hr7l)) ?_
      rintro v83 _ ⟨_, ⟨rs, rfl, hrs, hrn, hrf⟩, rfl⟩
      refine J.app ?_
      generalize hsb : subsF [128] bad r7 = sb at hrs ⊢
      refine Sq.slCase (v := v83) (xs := rs) Rc (fun a83 c83 hv83 hh83 => ?_)
      subst hv83
      refine Yp 19 E3 (QP.len rfl rfl rfl Tryz.underlying133) <| Yp 20 E3 (Ze E3) <| Pt 21 E4 <| Ef 22 E2 (Zc E2 ce111 Tk2 (fun F' hle hr => need_spec F' (t := { t1 with all := true }) (bad := sb.2.2) (r := sb.2.1) (decide ((rs.length : Int) = 0)))) ?_
      rintro _ _ ⟨_, ⟨rfl, rfl⟩, rfl⟩
      refine J.app <| Zl hk6 <| Run.ret ?_
      have hF : updF x t r bad = (updG x ae fl plen om t1 r7 bad) := by unfold updF; simp only [hr1, hr2, hr3, hr4, hae, hfl, hpl, hom, hr7, ← ht1]
      have hG : (updG x ae fl plen om t1 r7 bad) = (({ t1 with all := true }, sb.2.1, sb.2.2 || !(decide ((rs.length : Int) = 0))), x) := by unfold updG; rw [if_pos c60, if_pos ⟨c67, c70, c78⟩, hsb, show decide (sb.1 = []) = decide ((rs.length : Int) = 0) from decide_eq_decide.2 (by rw [← hrs, List.map_eq_nil_iff, ← List.length_eq_zero_iff]; omega)]
      rw [hF, hG]
      exact J.ends (res_none rfl) Tk6 ⟨idp, rfl, rfl⟩
     ·refine Pt 14 E4 <| Mv 15 E3 <| Sk 16 E3 <| Sk 17 E3 <| Sk 18 E3 <| Sk 19 E3 <| Sk 20 E3 <| Pf 21 E4 <| Ef 22 E2 (Zc E2 ce111 Tk2 (fun F' hle hr => need_spec F' (t := { t1 with all := true }) (bad := bad) (r := r7) false)) ?_
      rintro _ _ ⟨_, ⟨rfl, rfl⟩, rfl⟩
      refine J.app <| Zl hk6 <| Run.ret ?_
      have hF : updF x t r bad = (updG x ae fl plen om t1 r7 bad) := by unfold updF; simp only [hr1, hr2, hr3, hr4, hae, hfl, hpl, hom, hr7, ← ht1]
      have hG : (updG x ae fl plen om t1 r7 bad) = (({ t1 with all := true }, r7, bad || !false), x) := by unfold updG; rw [if_pos c60, if_neg (fun h => c78 h.2.2)]; simp
      rw [hF, hG]
      exact J.ends (res_none rfl) Tk6 ⟨idp, rfl, rfl⟩
    ·refine Pt 6 E4 <| Mv 7 E3 <| Sk 8 E3 <| Sk 9 E3 <| Sk 10 E3 <| Sk 11 E3 <| Sk 12 E3 <| Sk 13 E3 <| Pf 14 E4 <| Mv 15 E3 <| Sk 16 E3 <| Sk 17 E3 <| Sk 18 E3 <| Sk 19 E3 <| Sk 20 E3 <| Pf 21 E4 <| Ef 22 E2 (Zc E2 ce111 Tk2 (fun F' hle hr => need_spec F' (t := { t1 with all := true }) (bad := bad) (r := r7) false)) ?_
     rintro _ _ ⟨_, ⟨rfl, rfl⟩, rfl⟩
     refine J.app <| Zl hk6 <| Run.ret ?_
     have hF : updF x t r bad = (updG x ae fl plen om t1 r7 bad) := by unfold updF; simp only [hr1, hr2, hr3, hr4, hae, hfl, hpl, hom, hr7, ← ht1]
     have hG : (updG x ae fl plen om t1 r7 bad) = (({ t1 with all := true }, r7, bad || !false), x) := by unfold updG; rw [if_pos c60, if_neg (fun h => c70 h.2.1)]; simp
     rw [hF, hG]
     exact J.ends (res_none rfl) Tk6 ⟨idp, rfl, rfl⟩
   ·refine Mv 3 E3 <| Sk 4 E3 <| Sk 5 E3 <| Pf 6 E4 <| Mv 7 E3 <| Sk 8 E3 <| Sk 9 E3 <| Sk 10 E3 <| Sk 11 E3 <| Sk 12 E3 <| Sk 13 E3 <| Pf 14 E4 <| Mv 15 E3 <| Sk 16 E3 <| Sk 17 E3 <| Sk 18 E3 <| Sk 19 E3 <| Sk 20 E3 <| Pf 21 E4 <| Ef 22 E2 (Zc E2 ce111 Tk2 (fun F' hle hr => need_spec F' (t := { t1 with all := true }) (bad := bad) (r := r7) false)) ?_
    rintro _ _ ⟨_, ⟨rfl, rfl⟩, rfl⟩
    refine J.app <| Zl hk6 <| Run.ret ?_
    have hF : updF x t r bad = (updG x ae fl plen om t1 r7 bad) := by unfold updF; simp only [hr1, hr2, hr3, hr4, hae, hfl, hpl, hom, hr7, ← ht1]
    have hG : (updG x ae fl plen om t1 r7 bad) = (({ t1 with all := true }, r7, bad || !false), x) := by unfold updG; rw [if_pos c60, if_neg (fun h => c67 h.1)]; simp
    rw [hF, hG]
    exact J.ends (res_none rfl) Tk6 ⟨idp, rfl, rfl⟩
  ·refine Zl hk4 <| Zf <| Run.skip <| hk3 _ _ <| Zs fun _ hk7 => Mv 0 E3 <| Qp 1 E2 (Zn E2) <| Fa 2 E3 f132_0 <| Fa 3 E3 f130_2 <| Qq 4 E2 (Z1 E2 g127 ((PacketParser.sub_known _).trans (PacketKnown.sub_bases _))) ?_
   refine Mv 5 E3 <| Qq 6 E2 (QR.lookup2V (k := (⟨ae, hae8⟩ : N8)) keyB rfl rfl rfl Tryz.underlying127 (z := Bs.zero 16) zero32) ?_
   refine Mv 7 E3 <| Qp 8 E2 (Zx E3) <| Qp 9 E2 (Zx E3) <| J.caseB (fun c97 => ?_) (fun c97 => ?_)
   ·refine Ef 10 E2 (EF.allocA (l := (Bs.zero 16).enc) rfl zero32) ?_
    rintro _ _ ⟨b8, rfl, rfl⟩
    refine Ac 11 rfl (EF.storeA rfl rfl rfl z32 (SetL.all (Bs.len _) (Bs.len _)) (Bs.cell _)) ?_
    rintro _ _ rfl
    refine Sg 12 E3 <| Zl hk7 <| Run.cut1 (fun (bad1 : Bool) => bad1 = (bad || !(decide (om = 0) || (alook x.bases (⟨ae, hae8⟩ : N8)).isSome))) (fun bad1 => .cons 0 (fp xb) (.cons 1 (fp b) (.cons 4 (.int .u8 ae) (.cons 5 (.int .u8 fl) (.cons 6 (.int .u8 plen) (.cons 7 (.int .u8 om) (.cons 8 (fp b8) (.nil)))))))) (fun bad1 => [blk b (PacketPiece.enc ⟨some ⟨rb, 0, none⟩, t1, bad1⟩) 185, RdA rb r7, blk xb (PacketParser.enc ⟨⟨idp, some hm, some bm⟩⟩) 132, mapH hm x.hops, mapB bm x.bases, idA idp x.id, blk b8 (Bs.enc ((alook x.bases (⟨ae, hae8⟩ : N8)).getD (Bs.zero 16))) 32]) ?_ ?_
    ·rintro bad1 hbad1
     refine Zs fun _ hk9 => Mv 0 E3 <| Mv 1 E3 <| Mv 2 E3 <| Mv 3 E3 <| Qq 4 E2 (Z0 E2 g32 (Bs.sub _)) ?_
     refine Ef 5 E2 (Zc E2 ce114 Tk2 (fun F' hle hr => prefix_spec F' (t := t1) (bad := bad1) (r := r7) ae plen om ((alook x.bases (⟨ae, hae8⟩ : N8)).getD (Bs.zero 16)) hplr homr)) ?_
     rintro _ _ ⟨_, ⟨rfl, rfl⟩, rfl⟩
     refine J.app ?_
     have hPl := pref_few (ae := ae) (plen := plen) (om := om) (base := ((alook x.bases (⟨ae, hae8⟩ : N8)).getD (Bs.zero 16))) (bad := bad1) hr7l
     generalize hPF : prefF ae plen om ((alook x.bases (⟨ae, hae8⟩ : N8)).getD (Bs.zero 16)) r7 bad1 = PF at hPl ⊢
     refine Ef 6 E2 (EF.allocA (l := Prefix.enc Prefix.zero) rfl zero44) ?_
     rintro _ _ ⟨b10, rfl, rfl⟩
     refine Ac 7 rfl (EF.storeA rfl rfl rfl z44 (SetL.all (Prefix.enc_len _) (Prefix.enc_len _)) (Prefix.enc_cell _)) ?_
     rintro _ _ rfl
     refine Zl hk9 <| Run.seq fun _ hk10 => Zs fun _ hk11 => Mv 0 E3 <| Ef 1 E2 (Zc E2 ce83 Tk2 (fun F' hle hr => sound_spec F' (t := t1) (bad := PF.2.2) (r := PF.2.1))) ?_
     rintro _ _ ⟨_, ⟨rfl, rfl⟩, rfl⟩
     refine J.app <| J.caseB (fun c112 => ?_) (fun c112 => ?_)
     ·refine Qp 2 E2 (Zu E2) <| Zl hk11 <| Zf <| Run.skip <| hk10 _ _ <| Run.cut1 (fun (bs2 : List (N8 × Bs 16)) => bs2 = (if and8i fl 128 ≠ 0 then aset x.bases (⟨ae, hae8⟩ : N8) PF.1.a else x.bases)) (fun bs2 => .cons 0 (fp xb) (.cons 1 (fp b) (.cons 4 (.int .u8 ae) (.cons 5 (.int .u8 fl) (.cons 10 (fp b10) (.nil)))))) (fun bs2 => [blk b (PacketPiece.enc ⟨some ⟨rb, 0, none⟩, t1, PF.2.2⟩) 185, RdA rb PF.2.1, blk xb (PacketParser.enc ⟨⟨idp, some hm, some bm⟩⟩) 132, mapH hm x.hops, mapB bm bs2, idA idp x.id, blk b10 (Prefix.enc PF.1) 44]) ?_ ?_
      ·rintro bs2 hbs2
       refine Run.cut2 (fun (idp2 : Option Addr) (id2 : Option (Bs 8)) => id2 = (if and8i fl 64 ≠ 0 then some (idOf ae PF.1.a) else x.id)) (fun idp2 id2 => .cons 0 (fp xb) (.cons 1 (fp b) (.cons 4 (.int .u8 ae) (.cons 10 (fp b10) (.nil))))) (fun idp2 id2 => [blk b (PacketPiece.enc ⟨some ⟨rb, 0, none⟩, t1, PF.2.2⟩) 185, RdA rb PF.2.1, blk xb (PacketParser.enc ⟨⟨idp2, some hm, some bm⟩⟩) 132, mapH hm x.hops, mapB bm bs2, idA idp2 id2, blk b10 (Prefix.enc PF.1) 44]) ?_ ?_
       ·rintro idp2 id2 hid2
        refine Zs fun _ hk14 => Mv 0 E3 <| Mv 1 E3 <| Qq 2 E2 (Z0 E2 g44 (Prefix.enc_sub _)) ?_
        refine Ef 3 E2 (Zc E2 ce115 Tk2 (fun F' hle hr => pair_spec F' (t := t1) (bad := PF.2.2) (r := PF.2.1) ae PF.1 haer hPl)) ?_
        rintro _ _ ⟨_, ⟨rfl, rfl⟩, rfl⟩
        refine J.app ?_
        generalize hPR : pairF ae PF.1 PF.2.2 PF.2.1 = PR
        refine Zl hk14 <| Run.seq fun _ hk15 => Zs fun _ hk16 => Mv 0 E3 ?_
        rcases hid : id2 with _ | iv
        ·refine Qp 1 E2 (Zn E2) <| Fa 2 E3 f185_1 <| Fa 3 E3 f49_5 <| Qq 4 E2 (Z1 E2 g40 ((PacketPiece.sub_tlv _).trans (Tlv.sub_metric _))) ?_
         refine Qp 5 E2 (Ze E3) <| J.caseD (fun c164 => ?_) (fun c164 => ?_)
         ·refine Zl hk16 <| Zt <| Run.ret ?_
          have hF : updF x t r bad = (updG x ae fl plen om t1 r7 bad) := by unfold updF; simp only [hr1, hr2, hr3, hr4, hae, hfl, hpl, hom, hr7, ← ht1]
          have hX : updX x ae fl PF.1 = (⟨none, x.hops, bs2⟩ : PrS) := by unfold updX; rw [← hid2, n8_eq hae8, ← hbs2, hid]
          have hU : updH (⟨none, x.hops, bs2⟩ : PrS) PR PF.1 t1 = ({ t1 with pair := PR.1 }, PR.2.1, PR.2.2) := by unfold updH; rw [if_pos c164]
          have hG : (updG x ae fl plen om t1 r7 bad) = (({ t1 with pair := PR.1 }, PR.2.1, PR.2.2), (⟨none, x.hops, bs2⟩ : PrS)) := by unfold updG; rw [if_neg c60]; simp only; rw [n8_eq hae8, ← hbad1, hPF, if_neg (by rw [c112]; simp), hPR, hX, hU]
          rw [hF, hG]
          exact J.ends (res_none rfl) Tk6 ⟨idp2, rfl, rfl⟩
         ·refine Zl hk16 <| Zf <| Run.skip <| hk15 _ _ <| Run.seq fun _ hk17 => Run.regionM (M := [0, 1, 3, 7, 15, 0, 32, 127, 255, 511, 511, 0, 3071, 8191]) (q := 1983) (r := 176) mixedT Kr ?_
          refine J.idNone Rc (fun hip => ?_)
          subst hip
          refine Dp 0 E2 (Zm E2) <| Dp 1 E2 (Zn E2) <| Dp 2 E2 (Za E2 f132_0) <| Dp 3 E2 (Za E2 f130_1) <| Dr 4 E2 (Z1 E2 g126 ((PacketParser.sub_known _).trans (PacketKnown.sub_hops _))) ?_
          refine Dr 5 E2 (Z0 E2 g44 (Prefix.enc_sub _)) ?_
          refine Dw.effs (l := [6, 11]) Kr Kr ?_
          rw [FM, FM]
          refine ⟨?_, ?_, NO⟩
          ·refine Om [4] rfl rfl (Zc E2 ce91 TN (fun F' hle hr => pfamily_spec F' (PF.1))) ?_
           rintro _ _ ⟨_, ⟨rfl, rfl⟩, rfl⟩
           refine ⟨?_, ?_⟩
           ·rw [FM]
            refine ⟨?_, NO⟩
            ·refine Look.app ?_
             exact Lk E3 (Z1 E2 g126 ((PacketParser.sub_known _).trans (PacketKnown.sub_hops _)))
           refine ?_
           refine J.app <| Dr 7 E2 (QR.lookup2V (k := (⟨pfamilyB PF.1, pfamily_range _⟩ : I64)) keyH rfl rfl rfl Tryz.underlying126 (z := Bs.zero 16) zero32) ?_
           refine Dp 8 E2 (Zm E2) <| Dp 9 E2 (Zx E3) <| Dp 10 E2 (Zx E3) <| J.caseB (fun c175 => ?_) (fun c175 => ?_)
           ·refine De 11 <| Om [7, 5, 4] rfl rfl (EF.allocA (l := (Bs.zero 16).enc) rfl zero32) ?_
            rintro _ _ ⟨b11, rfl, rfl⟩
            refine ⟨?_, ?_⟩
            ·rw [FM, FM, FM]
             refine ⟨?_, ?_, ?_, NO⟩
             ·exact Lk E3 (QR.lookup2V (k := (⟨pfamilyB PF.1, pfamily_range _⟩ : I64)) keyH rfl rfl rfl Tryz.underlying126 (z := Bs.zero 16) zero32)
             ·exact Lk E3 (Z0 E2 g44 (Prefix.enc_sub _))
             ·exact Lk E3 (Z1 E2 g126 ((PacketParser.sub_known _).trans (PacketKnown.sub_hops _)))
            refine ?_
            refine De 12 <| Oa [] rfl (EF.storeA rfl rfl rfl z32 (SetL.all (Bs.len _) (Bs.len _)) (Bs.cell _)) ?_
            rintro _ _ rfl
            refine N0 <| De 13 <| Om [] rfl rfl ((Zg E2).eff) ?_
            rintro _ _ ⟨rfl, rfl⟩
            refine N0 <| Dn <| hk17 _ _ <| Zs fun _ hk18 => Mv 0 E3 <| Mv 1 E3 <| Mv 2 E3 <| Ym 3 E4 <| Yp 4 E3 (Zn E2) <| Yf 5 E4 f132_0 <| Yf 6 E4 f130_0 <| Yq 7 E3 (Z1 E2 g128 ((PacketParser.sub_known _).trans (PacketKnown.sub_id_ _))) ?_
            refine Yp 8 E3 (QP.ptr_ne_nil rfl rfl rfl Tryz.underlying128) <| Pt 9 E4 <| Mv 10 E3 <| Sk 11 E3 <| Sk 12 E3 <| Sk 13 E3 <| Sk 14 E3 <| Sk 15 E3 <| Sk 16 E3 <| Sk 17 E3 <| Sk 18 E3 <| Pf 19 E4 <| Ef 20 E2 (Zc E2 ce111 Tk2 (fun F' hle hr => need_spec F' (t := { t1 with pair := PR.1 }) (bad := PR.2.2) (r := PR.2.1) false)) ?_
            rintro _ _ ⟨_, ⟨rfl, rfl⟩, rfl⟩
            refine J.app <| Zl hk18 <| Zs fun _ hk19 => Mv 0 E3 <| Ef 1 E2 (Zc E2 ce83 Tk2 (fun F' hle hr => sound_spec F' (t := { t1 with pair := PR.1 }) (bad := (PR.2.2 || !false)) (r := PR.2.1))) ?_
            rintro _ _ ⟨_, ⟨rfl, rfl⟩, rfl⟩
            refine J.app <| J.caseB (fun c198 => ?_) (fun c198 => ?_)
            ·refine Zl hk19 <| Zt <| Run.regionM (M := [0, 0, 0, 4, 12, 28, 60, 124, 252, 0, 509, 1533, 3581, 7677, 16383, 32767, 65535, 131071]) (q := 122879) (r := 832) mixedT Kr ?_
             exact absurd c198 (by simp [soundB])
            ·refine Zl hk19 <| Zf <| Run.skip ?_
             have hF : updF x t r bad = (updG x ae fl plen om t1 r7 bad) := by unfold updF; simp only [hr1, hr2, hr3, hr4, hae, hfl, hpl, hom, hr7, ← ht1]
             have hX : updX x ae fl PF.1 = (⟨none, x.hops, bs2⟩ : PrS) := by unfold updX; rw [← hid2, n8_eq hae8, ← hbs2, hid]
             have hU : updH (⟨none, x.hops, bs2⟩ : PrS) PR PF.1 t1 = ({ t1 with pair := PR.1 }, PR.2.1, PR.2.2 || !false) := by unfold updH; rw [if_neg c164, n64_eq (pfamily_range _), show (alook x.hops (⟨pfamilyB PF.1, pfamily_range _⟩ : I64)).isSome = true from c175]; simp only [Bool.true_and, Bool.false_and, Bool.and_false]; rw [if_neg (by rw [c198]; simp)]
             have hG : (updG x ae fl plen om t1 r7 bad) = (({ t1 with pair := PR.1 }, PR.2.1, PR.2.2 || !false), (⟨none, x.hops, bs2⟩ : PrS)) := by unfold updG; rw [if_neg c60]; simp only; rw [n8_eq hae8, ← hbad1, hPF, if_neg (by rw [c112]; simp), hPR, hX, hU]
             refine J.addId ?_
             rw [hF, hG]
             exact J.ends (res_none rfl) Tk6 ⟨none, rfl, rfl⟩
           ·refine De 11 <| Om [7, 5, 4] rfl rfl (EF.allocA (l := (Bs.zero 16).enc) rfl zero32) ?_
            rintro _ _ ⟨b11, rfl, rfl⟩
            refine ⟨?_, ?_⟩
            ·rw [FM, FM, FM]
             refine ⟨?_, ?_, ?_, NO⟩
             ·exact Lk E3 (QR.lookup2V (k := (⟨pfamilyB PF.1, pfamily_range _⟩ : I64)) keyH rfl rfl rfl Tryz.underlying126 (z := Bs.zero 16) zero32)
             ·exact Lk E3 (Z0 E2 g44 (Prefix.enc_sub _))
             ·exact Lk E3 (Z1 E2 g126 ((PacketParser.sub_known _).trans (PacketKnown.sub_hops _)))
            refine ?_
            refine De 12 <| Oa [] rfl (EF.storeA rfl rfl rfl z32 (SetL.all (Bs.len _) (Bs.len _)) (Bs.cell _)) ?_
            rintro _ _ rfl
            refine N0 <| De 13 <| Om [] rfl rfl ((Zg E2).eff) ?_
            rintro _ _ ⟨rfl, rfl⟩
            refine N0 <| Dn <| hk17 _ _ <| Zs fun _ hk20 => Mv 0 E3 <| Mv 1 E3 <| Mv 2 E3 <| Sk 3 E3 <| Sk 4 E3 <| Sk 5 E3 <| Sk 6 E3 <| Sk 7 E3 <| Sk 8 E3 <| Pf 9 E4 <| Mv 10 E3 <| Sk 11 E3 <| Sk 12 E3 <| Sk 13 E3 <| Sk 14 E3 <| Sk 15 E3 <| Sk 16 E3 <| Sk 17 E3 <| Sk 18 E3 <| Pf 19 E4 <| Ef 20 E2 (Zc E2 ce111 Tk2 (fun F' hle hr => need_spec F' (t := { t1 with pair := PR.1 }) (bad := PR.2.2) (r := PR.2.1) false)) ?_
            rintro _ _ ⟨_, ⟨rfl, rfl⟩, rfl⟩
            refine J.app <| Zl hk20 <| Zs fun _ hk21 => Mv 0 E3 <| Ef 1 E2 (Zc E2 ce83 Tk2 (fun F' hle hr => sound_spec F' (t := { t1 with pair := PR.1 }) (bad := (PR.2.2 || !false)) (r := PR.2.1))) ?_
            rintro _ _ ⟨_, ⟨rfl, rfl⟩, rfl⟩
            refine J.app <| J.caseB (fun c198 => ?_) (fun c198 => ?_)
            ·refine Zl hk21 <| Zt <| Run.regionM (M := [0, 0, 0, 4, 12, 28, 60, 124, 252, 0, 509, 1533, 3581, 7677, 16383, 32767, 65535, 131071]) (q := 122879) (r := 832) mixedT Kr ?_
             exact absurd c198 (by simp [soundB])
            ·refine Zl hk21 <| Zf <| Run.skip ?_
             have hF : updF x t r bad = (updG x ae fl plen om t1 r7 bad) := by unfold updF; simp only [hr1, hr2, hr3, hr4, hae, hfl, hpl, hom, hr7, ← ht1]
             have hX : updX x ae fl PF.1 = (⟨none, x.hops, bs2⟩ : PrS) := by unfold updX; rw [← hid2, n8_eq hae8, ← hbs2, hid]
             have hU : updH (⟨none, x.hops, bs2⟩ : PrS) PR PF.1 t1 = ({ t1 with pair := PR.1 }, PR.2.1, PR.2.2 || !false) := by unfold updH; rw [if_neg c164, n64_eq (pfamily_range _), show (alook x.hops (⟨pfamilyB PF.1, pfamily_range _⟩ : I64)).isSome = false from c175]; simp only [Bool.true_and, Bool.false_and, Bool.and_false]; rw [if_neg (by rw [c198]; simp)]
             have hG : (updG x ae fl plen om t1 r7 bad) = (({ t1 with pair := PR.1 }, PR.2.1, PR.2.2 || !false), (⟨none, x.hops, bs2⟩ : PrS)) := by unfold updG; rw [if_neg c60]; simp only; rw [n8_eq hae8, ← hbad1, hPF, if_neg (by rw [c112]; simp), hPR, hX, hU]
             refine J.addId ?_
             rw [hF, hG]
             exact J.ends (res_none rfl) Tk6 ⟨none, rfl, rfl⟩
          ·refine Om [5, 4] rfl rfl (EF.allocA (l := (Bs.zero 16).enc) rfl zero32) ?_
           rintro _ _ ⟨b11, rfl, rfl⟩
           refine ⟨?_, ?_⟩
           ·rw [FM, FM]
            refine ⟨?_, ?_, NO⟩
            ·exact Lk E3 (Z0 E2 g44 (Prefix.enc_sub _))
            ·exact Lk E3 (Z1 E2 g126 ((PacketParser.sub_known _).trans (PacketKnown.sub_hops _)))
           refine ?_
           refine De 6 <| Om [4] rfl rfl (Zc E2 ce91 TN (fun F' hle hr => pfamily_spec F' (PF.1))) ?_
           rintro _ _ ⟨_, ⟨rfl, rfl⟩, rfl⟩
           refine ⟨?_, ?_⟩
           ·rw [FM]
            refine ⟨?_, NO⟩
            ·refine Look.app ?_
             exact Lk E3 (Z1 E2 g126 ((PacketParser.sub_known _).trans (PacketKnown.sub_hops _)))
           refine ?_
           refine J.app <| Dr 7 E2 (QR.lookup2V (k := (⟨pfamilyB PF.1, pfamily_range _⟩ : I64)) keyH rfl rfl rfl Tryz.underlying126 (z := Bs.zero 16) zero32) ?_
           refine Dp 8 E2 (Zm E2) <| Dp 9 E2 (Zx E3) <| Dp 10 E2 (Zx E3) <| J.caseB (fun c175 => ?_) (fun c175 => ?_)
           ·refine De 12 <| Oa [] rfl (EF.storeA rfl rfl rfl z32 (SetL.all (Bs.len _) (Bs.len _)) (Bs.cell _)) ?_
            rintro _ _ rfl
            refine N0 <| De 13 <| Om [] rfl rfl ((Zg E2).eff) ?_
            rintro _ _ ⟨rfl, rfl⟩
            refine N0 <| Dn <| hk17 _ _ <| Zs fun _ hk22 => Mv 0 E3 <| Mv 1 E3 <| Mv 2 E3 <| Ym 3 E4 <| Yp 4 E3 (Zn E2) <| Yf 5 E4 f132_0 <| Yf 6 E4 f130_0 <| Yq 7 E3 (Z1 E2 g128 ((PacketParser.sub_known _).trans (PacketKnown.sub_id_ _))) ?_
            refine Yp 8 E3 (QP.ptr_ne_nil rfl rfl rfl Tryz.underlying128) <| Pt 9 E4 <| Mv 10 E3 <| Sk 11 E3 <| Sk 12 E3 <| Sk 13 E3 <| Sk 14 E3 <| Sk 15 E3 <| Sk 16 E3 <| Sk 17 E3 <| Sk 18 E3 <| Pf 19 E4 <| Ef 20 E2 (Zc E2 ce111 Tk2 (fun F' hle hr => need_spec F' (t := { t1 with pair := PR.1 }) (bad := PR.2.2) (r := PR.2.1) false)) ?_
            rintro _ _ ⟨_, ⟨rfl, rfl⟩, rfl⟩
            refine J.app <| Zl hk22 <| Zs fun _ hk23 => Mv 0 E3 <| Ef 1 E2 (Zc E2 ce83 Tk2 (fun F' hle hr => sound_spec F' (t := { t1 with pair := PR.1 }) (bad := (PR.2.2 || !false)) (r := PR.2.1))) ?_
            rintro _ _ ⟨_, ⟨rfl, rfl⟩, rfl⟩
            refine J.app <| J.caseB (fun c198 => ?_) (fun c198 => ?_)
            ·refine Zl hk23 <| Zt <| Run.regionM (M := [0, 0, 0, 4, 12, 28, 60, 124, 252, 0, 509, 1533, 3581, 7677, 16383, 32767, 65535, 131071]) (q := 122879) (r := 832) mixedT Kr ?_
             exact absurd c198 (by simp [soundB])
            ·refine Zl hk23 <| Zf <| Run.skip ?_
             have hF : updF x t r bad = (updG x ae fl plen om t1 r7 bad) := by unfold updF; simp only [hr1, hr2, hr3, hr4, hae, hfl, hpl, hom, hr7, ← ht1]
             have hX : updX x ae fl PF.1 = (⟨none, x.hops, bs2⟩ : PrS) := by unfold updX; rw [← hid2, n8_eq hae8, ← hbs2, hid]
             have hU : updH (⟨none, x.hops, bs2⟩ : PrS) PR PF.1 t1 = ({ t1 with pair := PR.1 }, PR.2.1, PR.2.2 || !false) := by unfold updH; rw [if_neg c164, n64_eq (pfamily_range _), show (alook x.hops (⟨pfamilyB PF.1, pfamily_range _⟩ : I64)).isSome = true from c175]; simp only [Bool.true_and, Bool.false_and, Bool.and_false]; rw [if_neg (by rw [c198]; simp)]
             have hG : (updG x ae fl plen om t1 r7 bad) = (({ t1 with pair := PR.1 }, PR.2.1, PR.2.2 || !false), (⟨none, x.hops, bs2⟩ : PrS)) := by unfold updG; rw [if_neg c60]; simp only; rw [n8_eq hae8, ← hbad1, hPF, if_neg (by rw [c112]; simp), hPR, hX, hU]
             refine J.addId ?_
             rw [hF, hG]
             exact J.ends (res_none rfl) Tk6 ⟨none, rfl, rfl⟩
           ·refine De 12 <| Oa [] rfl (EF.storeA rfl rfl rfl z32 (SetL.all (Bs.len _) (Bs.len _)) (Bs.cell _)) ?_
            rintro _ _ rfl
            refine N0 <| De 13 <| Om [] rfl rfl ((Zg E2).eff) ?_
            rintro _ _ ⟨rfl, rfl⟩
            refine N0 <| Dn <| hk17 _ _ <| Zs fun _ hk24 => Mv 0 E3 <| Mv 1 E3 <| Mv 2 E3 <| Sk 3 E3 <| Sk 4 E3 <| Sk 5 E3 <| Sk 6 E3 <| Sk 7 E3 <| Sk 8 E3 <| Pf 9 E4 <| Mv 10 E3 <| Sk 11 E3 <| Sk 12 E3 <| Sk 13 E3 <| Sk 14 E3 <| Sk 15 E3 <| Sk 16 E3 <| Sk 17 E3 <| Sk 18 E3 <| Pf 19 E4 <| Ef 20 E2 (Zc E2 ce111 Tk2 (fun F' hle hr => need_spec F' (t := { t1 with pair := PR.1 }) (bad := PR.2.2) (r := PR.2.1) false)) ?_
            rintro _ _ ⟨_, ⟨rfl, rfl⟩, rfl⟩
            refine J.app <| Zl hk24 <| Zs fun _ hk25 => Mv 0 E3 <| Ef 1 E2 (Zc E2 ce83 Tk2 (fun F' hle hr => sound_spec F' (t := { t1 with pair := PR.1 }) (bad := (PR.2.2 || !false)) (r := PR.2.1))) ?_
            rintro _ _ ⟨_, ⟨rfl, rfl⟩, rfl⟩
            refine J.app <| J.caseB (fun c198 => ?_) (fun c198 => ?_)
            ·refine Zl hk25 <| Zt <| Run.regionM (M := [0, 0, 0, 4, 12, 28, 60, 124, 252, 0, 509, 1533, 3581, 7677, 16383, 32767, 65535, 131071]) (q := 122879) (r := 832) mixedT Kr ?_
             exact absurd c198 (by simp [soundB])
            ·refine Zl hk25 <| Zf <| Run.skip ?_
             have hF : updF x t r bad = (updG x ae fl plen om t1 r7 bad) := by unfold updF; simp only [hr1, hr2, hr3, hr4, hae, hfl, hpl, hom, hr7, ← ht1]
             have hX : updX x ae fl PF.1 = (⟨none, x.hops, bs2⟩ : PrS) := by unfold updX; rw [← hid2, n8_eq hae8, ← hbs2, hid]
             have hU : updH (⟨none, x.hops, bs2⟩ : PrS) PR PF.1 t1 = ({ t1 with pair := PR.1 }, PR.2.1, PR.2.2 || !false) := by unfold updH; rw [if_neg c164, n64_eq (pfamily_range _), show (alook x.hops (⟨pfamilyB PF.1, pfamily_range _⟩ : I64)).isSome = false from c175]; simp only [Bool.true_and, Bool.false_and, Bool.and_false]; rw [if_neg (by rw [c198]; simp)]
             have hG : (updG x ae fl plen om t1 r7 bad) = (({ t1 with pair := PR.1 }, PR.2.1, PR.2.2 || !false), (⟨none, x.hops, bs2⟩ : PrS)) := by unfold updG; rw [if_neg c60]; simp only; rw [n8_eq hae8, ← hbad1, hPF, if_neg (by rw [c112]; simp), hPR, hX, hU]
             refine J.addId ?_
             rw [hF, hG]
             exact J.ends (res_none rfl) Tk6 ⟨none, rfl, rfl⟩
        ·refine Qp 1 E2 (Zn E2) <| Fa 2 E3 f185_1 <| Fa 3 E3 f49_5 <| Qq 4 E2 (Z1 E2 g40 ((PacketPiece.sub_tlv _).trans (Tlv.sub_metric _))) ?_
         refine Qp 5 E2 (Ze E3) <| J.caseD (fun c164 => ?_) (fun c164 => ?_)
         ·refine Zl hk16 <| Zt <| Run.ret ?_
          have hF : updF x t r bad = (updG x ae fl plen om t1 r7 bad) := by unfold updF; simp only [hr1, hr2, hr3, hr4, hae, hfl, hpl, hom, hr7, ← ht1]
          have hX : updX x ae fl PF.1 = (⟨(some iv), x.hops, bs2⟩ : PrS) := by unfold updX; rw [← hid2, n8_eq hae8, ← hbs2, hid]
          have hU : updH (⟨(some iv), x.hops, bs2⟩ : PrS) PR PF.1 t1 = ({ t1 with pair := PR.1 }, PR.2.1, PR.2.2) := by unfold updH; rw [if_pos c164]
          have hG : (updG x ae fl plen om t1 r7 bad) = (({ t1 with pair := PR.1 }, PR.2.1, PR.2.2), (⟨(some iv), x.hops, bs2⟩ : PrS)) := by unfold updG; rw [if_neg c60]; simp only; rw [n8_eq hae8, ← hbad1, hPF, if_neg (by rw [c112]; simp), hPR, hX, hU]
          rw [hF, hG]
          exact J.ends (res_none rfl) Tk6 ⟨idp2, rfl, rfl⟩
         ·refine Zl hk16 <| Zf <| Run.skip <| hk15 _ _ <| Run.seq fun _ hk26 => Run.regionM (M := [0, 1, 3, 7, 15, 0, 32, 127, 255, 511, 511, 0, 3071, 8191]) (q := 1983) (r := 176) mixedT Kr ?_
          refine J.idSome Rc (fun ib hip => ?_)
          subst hip
          refine Dp 0 E2 (Zm E2) <| Dp 1 E2 (Zn E2) <| Dp 2 E2 (Za E2 f132_0) <| Dp 3 E2 (Za E2 f130_1) <| Dr 4 E2 (Z1 E2 g126 ((PacketParser.sub_known _).trans (PacketKnown.sub_hops _))) ?_
          refine Dr 5 E2 (Z0 E2 g44 (Prefix.enc_sub _)) ?_
          refine Dw.effs (l := [6, 11]) Kr Kr ?_
          rw [FM, FM]
          refine ⟨?_, ?_, NO⟩
          ·refine Om [4] rfl rfl (Zc E2 ce91 TN (fun F' hle hr => pfamily_spec F' (PF.1))) ?_
           rintro _ _ ⟨_, ⟨rfl, rfl⟩, rfl⟩
           refine ⟨?_, ?_⟩
           ·rw [FM]
            refine ⟨?_, NO⟩
            ·refine Look.app ?_
             exact Lk E3 (Z1 E2 g126 ((PacketParser.sub_known _).trans (PacketKnown.sub_hops _)))
           refine ?_
           refine J.app <| Dr 7 E2 (QR.lookup2V (k := (⟨pfamilyB PF.1, pfamily_range _⟩ : I64)) keyH rfl rfl rfl Tryz.underlying126 (z := Bs.zero 16) zero32) ?_
           refine Dp 8 E2 (Zm E2) <| Dp 9 E2 (Zx E3) <| Dp 10 E2 (Zx E3) <| J.caseB (fun c175 => ?_) (fun c175 => ?_)
           ·refine De 11 <| Om [7, 5, 4] rfl rfl (EF.allocA (l := (Bs.zero 16).enc) rfl zero32) ?_
            rintro _ _ ⟨b11, rfl, rfl⟩
            refine ⟨?_, ?_⟩
            ·rw [FM, FM, FM]
             refine ⟨?_, ?_, ?_, NO⟩
             ·exact Lk E3 (QR.lookup2V (k := (⟨pfamilyB PF.1, pfamily_range _⟩ : I64)) keyH rfl rfl rfl Tryz.underlying126 (z := Bs.zero 16) zero32)
             ·exact Lk E3 (Z0 E2 g44 (Prefix.enc_sub _))
             ·exact Lk E3 (Z1 E2 g126 ((PacketParser.sub_known _).trans (PacketKnown.sub_hops _)))
            refine ?_
            refine De 12 <| Oa [] rfl (EF.storeA rfl rfl rfl z32 (SetL.all (Bs.len _) (Bs.len _)) (Bs.cell _)) ?_
            rintro _ _ rfl
            refine N0 <| De 13 <| Om [] rfl rfl ((Zg E2).eff) ?_
            rintro _ _ ⟨rfl, rfl⟩
            refine N0 <| Dn <| hk26 _ _ <| Zs fun _ hk27 => Mv 0 E3 <| Mv 1 E3 <| Mv 2 E3 <| Ym 3 E4 <| Yp 4 E3 (Zn E2) <| Yf 5 E4 f132_0 <| Yf 6 E4 f130_0 <| Yq 7 E3 (Z1 E2 g128 ((PacketParser.sub_known _).trans (PacketKnown.sub_id_ _))) ?_
            refine Yp 8 E3 (QP.ptr_ne_nil rfl rfl rfl Tryz.underlying128) <| Pt 9 E4 <| Mv 10 E3 <| Ym 11 E4 <| Yp 12 E3 (Zn E2) <| Yf 13 E4 f132_0 <| Yf 14 E4 f130_0 <| Yq 15 E3 (Z1 E2 g128 ((PacketParser.sub_known _).trans (PacketKnown.sub_id_ _))) ?_
            refine Yp 16 E3 (Zn E2) <| Yq 17 E3 (Z0 E2 g42 (Bs.sub _)) ?_
            refine Ye 18 E3 (Zc E2 ce116 TN (fun F' hle hr => named_spec F' iv)) ?_
            rintro _ _ ⟨_, ⟨rfl, rfl⟩, rfl⟩
            refine J.app <| Pt 19 E4 <| Ef 20 E2 (Zc E2 ce111 Tk2 (fun F' hle hr => need_spec F' (t := { t1 with pair := PR.1 }) (bad := PR.2.2) (r := PR.2.1) (namedB iv))) ?_
            rintro _ _ ⟨_, ⟨rfl, rfl⟩, rfl⟩
            refine J.app <| Zl hk27 <| Zs fun _ hk28 => Mv 0 E3 <| Ef 1 E2 (Zc E2 ce83 Tk2 (fun F' hle hr => sound_spec F' (t := { t1 with pair := PR.1 }) (bad := (PR.2.2 || !(namedB iv))) (r := PR.2.1))) ?_
            rintro _ _ ⟨_, ⟨rfl, rfl⟩, rfl⟩
            refine J.app <| J.caseB (fun c198 => ?_) (fun c198 => ?_)
            ·refine Zl hk28 <| Zt <| Run.regionM (M := [0, 0, 0, 4, 12, 28, 60, 124, 252, 0, 509, 1533, 3581, 7677, 16383, 32767, 65535, 131071]) (q := 122879) (r := 832) mixedT Kr ?_
             refine Dp 0 E2 (Zm E2) <| Dp 1 E2 (Zm E2) <| Dp 2 E2 (Zm E2) <| Dp 3 E2 (Zn E2) <| Dp 4 E2 (Za E2 f132_0) <| Dp 5 E2 (Za E2 f130_0) <| Dr 6 E2 (Z1 E2 g128 ((PacketParser.sub_known _).trans (PacketKnown.sub_id_ _))) ?_
             refine Dp 7 E2 (Zn E2) <| Dr 8 E2 (Z0 E2 g42 (Bs.sub _)) ?_
             refine Dr 9 E2 (Z0 E2 g32 (Bs.sub _)) ?_
             refine Dp 10 E2 (Zn E2) <| Dp 11 E2 (Za E2 f185_1) <| Dp 12 E2 (Za E2 f49_9) <| De 13 <| Oa [9] rfl (EF.storeA rfl rfl rfl z42 ((PacketPiece.set_tlv _ _).trans (PacketPiece.sub_tlv _) (Tlv.set_id_ _ _)) (Bs.cell _)) ?_
             rintro _ _ rfl
             refine ⟨?_, ?_⟩
             ·rw [FM]
              refine ⟨?_, NO⟩
              ·exact Lk E3 (Z0 E2 g32 (Bs.sub _))
             refine ?_
             refine Dp 14 E2 (Zn E2) <| Dp 15 E2 (Za E2 f185_1) <| Dp 16 E2 (Za E2 f49_10) <| De 17 <| Oa [] rfl (EF.storeA rfl rfl rfl z32 ((PacketPiece.set_tlv _ _).trans (PacketPiece.sub_tlv _) (Tlv.set_addr _ _)) (Bs.cell _)) ?_
             rintro _ _ rfl
             refine N0 <| Dn ?_
             have hF : updF x t r bad = (updG x ae fl plen om t1 r7 bad) := by unfold updF; simp only [hr1, hr2, hr3, hr4, hae, hfl, hpl, hom, hr7, ← ht1]
             have hX : updX x ae fl PF.1 = (⟨(some iv), x.hops, bs2⟩ : PrS) := by unfold updX; rw [← hid2, n8_eq hae8, ← hbs2, hid]
             have hU : updH (⟨(some iv), x.hops, bs2⟩ : PrS) PR PF.1 t1 = ({ t1 with pair := PR.1, id_ := iv, addr := ((alook x.hops (⟨pfamilyB PF.1, pfamily_range _⟩ : I64)).getD (Bs.zero 16)) }, PR.2.1, PR.2.2 || !(namedB iv)) := by unfold updH; rw [if_neg c164, n64_eq (pfamily_range _), show (alook x.hops (⟨pfamilyB PF.1, pfamily_range _⟩ : I64)).isSome = true from c175]; simp only [Bool.true_and, Bool.false_and, Bool.and_false]; rw [if_pos c198]; rfl
             have hG : (updG x ae fl plen om t1 r7 bad) = (({ t1 with pair := PR.1, id_ := iv, addr := ((alook x.hops (⟨pfamilyB PF.1, pfamily_range _⟩ : I64)).getD (Bs.zero 16)) }, PR.2.1, PR.2.2 || !(namedB iv)), (⟨(some iv), x.hops, bs2⟩ : PrS)) := by unfold updG; rw [if_neg c60]; simp only; rw [n8_eq hae8, ← hbad1, hPF, if_neg (by rw [c112]; simp), hPR, hX, hU]
             refine J.close (A := idA (some ⟨ib, 0, none⟩) (some iv)) (m := [blk ib (Bs.enc iv) 42]) Tk1 (fun _ q => idA_some q) ?_
             rw [hF, hG]
             exact J.ends (res_none rfl) Tk6 ⟨some ⟨ib, 0, none⟩, rfl, rfl⟩
            ·refine Zl hk28 <| Zf <| Run.skip ?_
             have hF : updF x t r bad = (updG x ae fl plen om t1 r7 bad) := by unfold updF; simp only [hr1, hr2, hr3, hr4, hae, hfl, hpl, hom, hr7, ← ht1]
             have hX : updX x ae fl PF.1 = (⟨(some iv), x.hops, bs2⟩ : PrS) := by unfold updX; rw [← hid2, n8_eq hae8, ← hbs2, hid]
             have hU : updH (⟨(some iv), x.hops, bs2⟩ : PrS) PR PF.1 t1 = ({ t1 with pair := PR.1 }, PR.2.1, PR.2.2 || !(namedB iv)) := by unfold updH; rw [if_neg c164, n64_eq (pfamily_range _), show (alook x.hops (⟨pfamilyB PF.1, pfamily_range _⟩ : I64)).isSome = true from c175]; simp only [Bool.true_and, Bool.false_and, Bool.and_false]; rw [if_neg (by rw [c198]; simp)]
             have hG : (updG x ae fl plen om t1 r7 bad) = (({ t1 with pair := PR.1 }, PR.2.1, PR.2.2 || !(namedB iv)), (⟨(some iv), x.hops, bs2⟩ : PrS)) := by unfold updG; rw [if_neg c60]; simp only; rw [n8_eq hae8, ← hbad1, hPF, if_neg (by rw [c112]; simp), hPR, hX, hU]
             refine J.close (A := idA (some ⟨ib, 0, none⟩) (some iv)) (m := [blk ib (Bs.enc iv) 42]) Tk1 (fun _ q => idA_some q) ?_
             rw [hF, hG]
             exact J.ends (res_none rfl) Tk6 ⟨some ⟨ib, 0, none⟩, rfl, rfl⟩
           ·refine De 11 <| Om [7, 5, 4] rfl rfl (EF.allocA (l := (Bs.zero 16).enc) rfl zero32) ?_
            rintro _ _ ⟨b11, rfl, rfl⟩
            refine ⟨?_, ?_⟩
            ·rw [FM, FM, FM]
             refine ⟨?_, ?_, ?_, NO⟩
             ·exact Lk E3 (QR.lookup2V (k := (⟨pfamilyB PF.1, pfamily_range _⟩ : I64)) keyH rfl rfl rfl Tryz.underlying126 (z := Bs.zero 16) zero32)
             ·exact Lk E3 (Z0 E2 g44 (Prefix.enc_sub _))
             ·exact Lk E3 (Z1 E2 g126 ((PacketParser.sub_known _).trans (PacketKnown.sub_hops _)))
            refine ?_
            refine De 12 <| Oa [] rfl (EF.storeA rfl rfl rfl z32 (SetL.all (Bs.len _) (Bs.len _)) (Bs.cell _)) ?_
            rintro _ _ rfl
            refine N0 <| De 13 <| Om [] rfl rfl ((Zg E2).eff) ?_
            rintro _ _ ⟨rfl, rfl⟩
            refine N0 <| Dn <| hk26 _ _ <| Zs fun _ hk29 => Mv 0 E3 <| Mv 1 E3 <| Mv 2 E3 <| Sk 3 E3 <| Sk 4 E3 <| Sk 5 E3 <| Sk 6 E3 <| Sk 7 E3 <| Sk 8 E3 <| Pf 9 E4 <| Mv 10 E3 <| Sk 11 E3 <| Sk 12 E3 <| Sk 13 E3 <| Sk 14 E3 <| Sk 15 E3 <| Sk 16 E3 <| Sk 17 E3 <| Sk 18 E3 <| Pf 19 E4 <| Ef 20 E2 (Zc E2 ce111 Tk2 (fun F' hle hr => need_spec F' (t := { t1 with pair := PR.1 }) (bad := PR.2.2) (r := PR.2.1) false)) ?_
            rintro _ _ ⟨_, ⟨rfl, rfl⟩, rfl⟩
            refine J.app <| Zl hk29 <| Zs fun _ hk30 => Mv 0 E3 <| Ef 1 E2 (Zc E2 ce83 Tk2 (fun F' hle hr => sound_spec F' (t := { t1 with pair := PR.1 }) (bad := (PR.2.2 || !false)) (r := PR.2.1))) ?_
            rintro _ _ ⟨_, ⟨rfl, rfl⟩, rfl⟩
            refine J.app <| J.caseB (fun c198 => ?_) (fun c198 => ?_)
            ·refine Zl hk30 <| Zt <| Run.regionM (M := [0, 0, 0, 4, 12, 28, 60, 124, 252, 0, 509, 1533, 3581, 7677, 16383, 32767, 65535, 131071]) (q := 122879) (r := 832) mixedT Kr ?_
             exact absurd c198 (by simp [soundB])
            ·refine Zl hk30 <| Zf <| Run.skip ?_
             have hF : updF x t r bad = (updG x ae fl plen om t1 r7 bad) := by unfold updF; simp only [hr1, hr2, hr3, hr4, hae, hfl, hpl, hom, hr7, ← ht1]
             have hX : updX x ae fl PF.1 = (⟨(some iv), x.hops, bs2⟩ : PrS) := by unfold updX; rw [← hid2, n8_eq hae8, ← hbs2, hid]
             have hU : updH (⟨(some iv), x.hops, bs2⟩ : PrS) PR PF.1 t1 = ({ t1 with pair := PR.1 }, PR.2.1, PR.2.2 || !false) := by unfold updH; rw [if_neg c164, n64_eq (pfamily_range _), show (alook x.hops (⟨pfamilyB PF.1, pfamily_range _⟩ : I64)).isSome = false from c175]; simp only [Bool.true_and, Bool.false_and, Bool.and_false]; rw [if_neg (by rw [c198]; simp)]
             have hG : (updG x ae fl plen om t1 r7 bad) = (({ t1 with pair := PR.1 }, PR.2.1, PR.2.2 || !false), (⟨(some iv), x.hops, bs2⟩ : PrS)) := by unfold updG; rw [if_neg c60]; simp only; rw [n8_eq hae8, ← hbad1, hPF, if_neg (by rw [c112]; simp), hPR, hX, hU]
             refine J.close (A := idA (some ⟨ib, 0, none⟩) (some iv)) (m := [blk ib (Bs.enc iv) 42]) Tk1 (fun _ q => idA_some q) ?_
             rw [hF, hG]
             exact J.ends (res_none rfl) Tk6 ⟨some ⟨ib, 0, none⟩, rfl, rfl⟩
          ·refine Om [5, 4] rfl rfl (EF.allocA (l := (Bs.zero 16).enc) rfl zero32) ?_
           rintro _ _ ⟨b11, rfl, rfl⟩
           refine ⟨?_, ?_⟩
           ·rw [FM, FM]
            refine ⟨?_, ?_, NO⟩
            ·exact Lk E3 (Z0 E2 g44 (Prefix.enc_sub _))
            ·exact Lk E3 (Z1 E2 g126 ((PacketParser.sub_known _).trans (PacketKnown.sub_hops _)))
           refine ?_
           refine De 6 <| Om [4] rfl rfl (Zc E2 ce91 TN (fun F' hle hr => pfamily_spec F' (PF.1))) ?_
           rintro _ _ ⟨_, ⟨rfl, rfl⟩, rfl⟩
           refine ⟨?_, ?_⟩
           ·rw [FM]
            refine ⟨?_, NO⟩
            ·refine Look.app ?_
             exact Lk E3 (Z1 E2 g126 ((PacketParser.sub_known _).trans (PacketKnown.sub_hops _)))
           refine ?_
           refine J.app <| Dr 7 E2 (QR.lookup2V (k := (⟨pfamilyB PF.1, pfamily_range _⟩ : I64)) keyH rfl rfl rfl Tryz.underlying126 (z := Bs.zero 16) zero32) ?_
           refine Dp 8 E2 (Zm E2) <| Dp 9 E2 (Zx E3) <| Dp 10 E2 (Zx E3) <| J.caseB (fun c175 => ?_) (fun c175 => ?_)
           ·refine De 12 <| Oa [] rfl (EF.storeA rfl rfl rfl z32 (SetL.all (Bs.len _) (Bs.len _)) (Bs.cell _)) ?_
            rintro _ _ rfl
            refine N0 <| De 13 <| Om [] rfl rfl ((Zg E2).eff) ?_
            rintro _ _ ⟨rfl, rfl⟩
            refine N0 <| Dn <| hk26 _ _ <| Zs fun _ hk31 => Mv 0 E3 <| Mv 1 E3 <| Mv 2 E3 <| Ym 3 E4 <| Yp 4 E3 (Zn E2) <| Yf 5 E4 f132_0 <| Yf 6 E4 f130_0 <| Yq 7 E3 (Z1 E2 g128 ((PacketParser.sub_known _).trans (PacketKnown.sub_id_ _))) ?_
            refine Yp 8 E3 (QP.ptr_ne_nil rfl rfl rfl Tryz.underlying128) <| Pt 9 E4 <| Mv 10 E3 <| Ym 11 E4 <| Yp 12 E3 (Zn E2) <| Yf 13 E4 f132_0 <| Yf 14 E4 f130_0 <| Yq 15 E3 (Z1 E2 g128 ((PacketParser.sub_known _).trans (PacketKnown.sub_id_ _))) ?_
            refine Yp 16 E3 (Zn E2) <| Yq 17 E3 (Z0 E2 g42 (Bs.sub _)) ?_
            refine Ye 18 E3 (Zc E2 ce116 TN (fun F' hle hr => named_spec F' iv)) ?_
            rintro _ _ ⟨_, ⟨rfl, rfl⟩, rfl⟩
            refine J.app <| Pt 19 E4 <| Ef 20 E2 (Zc E2 ce111 Tk2 (fun F' hle hr => need_spec F' (t := { t1 with pair := PR.1 }) (bad := PR.2.2) (r := PR.2.1) (namedB iv))) ?_
            rintro _ _ ⟨_, ⟨rfl, rfl⟩, rfl⟩
            refine J.app <| Zl hk31 <| Zs fun _ hk32 => Mv 0 E3 <| Ef 1 E2 (Zc E2 ce83 Tk2 (fun F' hle hr => sound_spec F' (t := { t1 with pair := PR.1 }) (bad := (PR.2.2 || !(namedB iv))) (r := PR.2.1))) ?_
            rintro _ _ ⟨_, ⟨rfl, rfl⟩, rfl⟩
            refine J.app <| J.caseB (fun c198 => ?_) (fun c198 => ?_)
            ·refine Zl hk32 <| Zt <| Run.regionM (M := [0, 0, 0, 4, 12, 28, 60, 124, 252, 0, 509, 1533, 3581, 7677, 16383, 32767, 65535, 131071]) (q := 122879) (r := 832) mixedT Kr ?_
             refine Dp 0 E2 (Zm E2) <| Dp 1 E2 (Zm E2) <| Dp 2 E2 (Zm E2) <| Dp 3 E2 (Zn E2) <| Dp 4 E2 (Za E2 f132_0) <| Dp 5 E2 (Za E2 f130_0) <| Dr 6 E2 (Z1 E2 g128 ((PacketParser.sub_known _).trans (PacketKnown.sub_id_ _))) ?_
             refine Dp 7 E2 (Zn E2) <| Dr 8 E2 (Z0 E2 g42 (Bs.sub _)) ?_
             refine Dr 9 E2 (Z0 E2 g32 (Bs.sub _)) ?_
             refine Dp 10 E2 (Zn E2) <| Dp 11 E2 (Za E2 f185_1) <| Dp 12 E2 (Za E2 f49_9) <| De 13 <| Oa [9] rfl (EF.storeA rfl rfl rfl z42 ((PacketPiece.set_tlv _ _).trans (PacketPiece.sub_tlv _) (Tlv.set_id_ _ _)) (Bs.cell _)) ?_
             rintro _ _ rfl
             refine ⟨?_, ?_⟩
             ·rw [FM]
              refine ⟨?_, NO⟩
              ·exact Lk E3 (Z0 E2 g32 (Bs.sub _))
             refine ?_
             refine Dp 14 E2 (Zn E2) <| Dp 15 E2 (Za E2 f185_1) <| Dp 16 E2 (Za E2 f49_10) <| De 17 <| Oa [] rfl (EF.storeA rfl rfl rfl z32 ((PacketPiece.set_tlv _ _).trans (PacketPiece.sub_tlv _) (Tlv.set_addr _ _)) (Bs.cell _)) ?_
             rintro _ _ rfl
             refine N0 <| Dn ?_
             have hF : updF x t r bad = (updG x ae fl plen om t1 r7 bad) := by unfold updF; simp only [hr1, hr2, hr3, hr4, hae, hfl, hpl, hom, hr7, ← ht1]
             have hX : updX x ae fl PF.1 = (⟨(some iv), x.hops, bs2⟩ : PrS) := by unfold updX; rw [← hid2, n8_eq hae8, ← hbs2, hid]
             have hU : updH (⟨(some iv), x.hops, bs2⟩ : PrS) PR PF.1 t1 = ({ t1 with pair := PR.1, id_ := iv, addr := ((alook x.hops (⟨pfamilyB PF.1, pfamily_range _⟩ : I64)).getD (Bs.zero 16)) }, PR.2.1, PR.2.2 || !(namedB iv)) := by unfold updH; rw [if_neg c164, n64_eq (pfamily_range _), show (alook x.hops (⟨pfamilyB PF.1, pfamily_range _⟩ : I64)).isSome = true from c175]; simp only [Bool.true_and, Bool.false_and, Bool.and_false]; rw [if_pos c198]; rfl
             have hG : (updG x ae fl plen om t1 r7 bad) = (({ t1 with pair := PR.1, id_ := iv, addr := ((alook x.hops (⟨pfamilyB PF.1, pfamily_range _⟩ : I64)).getD (Bs.zero 16)) }, PR.2.1, PR.2.2 || !(namedB iv)), (⟨(some iv), x.hops, bs2⟩ : PrS)) := by unfold updG; rw [if_neg c60]; simp only; rw [n8_eq hae8, ← hbad1, hPF, if_neg (by rw [c112]; simp), hPR, hX, hU]
             refine J.close (A := idA (some ⟨ib, 0, none⟩) (some iv)) (m := [blk ib (Bs.enc iv) 42]) Tk1 (fun _ q => idA_some q) ?_
             rw [hF, hG]
             exact J.ends (res_none rfl) Tk6 ⟨some ⟨ib, 0, none⟩, rfl, rfl⟩
            ·refine Zl hk32 <| Zf <| Run.skip ?_
             have hF : updF x t r bad = (updG x ae fl plen om t1 r7 bad) := by unfold updF; simp only [hr1, hr2, hr3, hr4, hae, hfl, hpl, hom, hr7, ← ht1]
             have hX : updX x ae fl PF.1 = (⟨(some iv), x.hops, bs2⟩ : PrS) := by unfold updX; rw [← hid2, n8_eq hae8, ← hbs2, hid]
             have hU : updH (⟨(some iv), x.hops, bs2⟩ : PrS) PR PF.1 t1 = ({ t1 with pair := PR.1 }, PR.2.1, PR.2.2 || !(namedB iv)) := by unfold updH; rw [if_neg c164, n64_eq (pfamily_range _), show (alook x.hops (⟨pfamilyB PF.1, pfamily_range _⟩ : I64)).isSome = true from c175]; simp only [Bool.true_and, Bool.false_and, Bool.and_false]; rw [if_neg (by rw [c198]; simp)]
             have hG : (updG x ae fl plen om t1 r7 bad) = (({ t1 with pair := PR.1 }, PR.2.1, PR.2.2 || !(namedB iv)), (⟨(some iv), x.hops, bs2⟩ : PrS)) := by unfold updG; rw [if_neg c60]; simp only; rw [n8_eq hae8, ← hbad1, hPF, if_neg (by rw [c112]; simp), hPR, hX, hU]
             refine J.close (A := idA (some ⟨ib, 0, none⟩) (some iv)) (m := [blk ib (Bs.enc iv) 42]) Tk1 (fun _ q => idA_some q) ?_
             rw [hF, hG]
             exact J.ends (res_none rfl) Tk6 ⟨some ⟨ib, 0, none⟩, rfl, rfl⟩
           ·refine De 12 <| Oa [] rfl (EF.storeA rfl rfl rfl z32 (SetL.all (Bs.len _) (Bs.len _)) (Bs.cell _)) ?_
            rintro _ _ rfl
            refine N0 <| De 13 <| Om [] rfl rfl ((Zg E2).eff) ?_
            rintro _ _ ⟨rfl, rfl⟩
            refine N0 <| Dn <| hk26 _ _ <| Zs fun _ hk33 => Mv 0 E3 <| Mv 1 E3 <| Mv 2 E3 <| Sk 3 E3 <| Sk 4 E3 <| Sk 5 E3 <| Sk 6 E3 <| Sk 7 E3 <| Sk 8 E3 <| Pf 9 E4 <| Mv 10 E3 <| Sk 11 E3 <| Sk 12 E3 <| Sk 13 E3 <| Sk 14 E3 <| Sk 15 E3 <| Sk 16 E3 <| Sk 17 E3 <| Sk 18 E3 <| Pf 19 E4 <| Ef 20 E2 (Zc E2 ce111 Tk2 (fun F' hle hr => need_spec F' (t := { t1 with pair := PR.1 }) (bad := PR.2.2) (r := PR.2.1) false)) ?_
            rintro _ _ ⟨_, ⟨rfl, rfl⟩, rfl⟩
            refine J.app <| Zl hk33 <| Zs fun _ hk34 => Mv 0 E3 <| Ef 1 E2 (Zc E2 ce83 Tk2 (fun F' hle hr => sound_spec F' (t := { t1 with pair := PR.1 }) (bad := (PR.2.2 || !false)) (r := PR.2.1))) ?_
            rintro _ _ ⟨_, ⟨rfl, rfl⟩, rfl⟩
            refine J.app <| J.caseB (fun c198 => ?_) (fun c198 => ?_)
            ·refine Zl hk34 <| Zt <| Run.regionM (M := [0, 0, 0, 4, 12, 28, 60, 124, 252, 0, 509, 1533, 3581, 7677, 16383, 32767, 65535, 131071]) (q := 122879) (r := 832) mixedT Kr ?_
             exact absurd c198 (by simp [soundB])
            ·refine Zl hk34 <| Zf <| Run.skip ?_
             have hF : updF x t r bad = (updG x ae fl plen om t1 r7 bad) := by unfold updF; simp only [hr1, hr2, hr3, hr4, hae, hfl, hpl, hom, hr7, ← ht1]
             have hX : updX x ae fl PF.1 = (⟨(some iv), x.hops, bs2⟩ : PrS) := by unfold updX; rw [← hid2, n8_eq hae8, ← hbs2, hid]
             have hU : updH (⟨(some iv), x.hops, bs2⟩ : PrS) PR PF.1 t1 = ({ t1 with pair := PR.1 }, PR.2.1, PR.2.2 || !false) := by unfold updH; rw [if_neg c164, n64_eq (pfamily_range _), show (alook x.hops (⟨pfamilyB PF.1, pfamily_range _⟩ : I64)).isSome = false from c175]; simp only [Bool.true_and, Bool.false_and, Bool.and_false]; rw [if_neg (by rw [c198]; simp)]
             have hG : (updG x ae fl plen om t1 r7 bad) = (({ t1 with pair := PR.1 }, PR.2.1, PR.2.2 || !false), (⟨(some iv), x.hops, bs2⟩ : PrS)) := by unfold updG; rw [if_neg c60]; simp only; rw [n8_eq hae8, ← hbad1, hPF, if_neg (by rw [c112]; simp), hPR, hX, hU]
             refine J.close (A := idA (some ⟨ib, 0, none⟩) (some iv)) (m := [blk ib (Bs.enc iv) 42]) Tk1 (fun _ q => idA_some q) ?_
             rw [hF, hG]
             exact J.ends (res_none rfl) Tk6 ⟨some ⟨ib, 0, none⟩, rfl, rfl⟩
       ·intro ku13 hu13
        refine Zs fun _ hk35 => Mv 0 E3 <| Qp 1 E2 (QP.and8i rfl rfl rfl) <| Qp 2 E2 (Zq E3) <| J.caseD (fun c127 => ?_) (fun c127 => ?_)
        ·refine Zl hk35 <| Zt <| Zs fun _ hk36 => Mv 0 E3 <| Qp 1 E2 (QP.const (.agg (Bs.enc (⟨[0, 0, 0, 0, 0, 0, 0, 0], rfl⟩ : Bs 8)).toArray) (fun _ _ => by kernel_rfl)) <| Ef 2 E2 (EF.boxA rfl rfl) ?_
         rintro _ _ ⟨b130, rfl, rfl⟩
         refine Qp 3 E2 (Zn E2) <| Fa 4 E3 f132_0 <| Fa 5 E3 f130_0 <| Ac 6 rfl (EF.store rfl rfl rfl z128 ((PacketParser.set_known _ _).trans (PacketParser.sub_known _) (PacketKnown.set_id_ _ _)) (cell_one rfl)) ?_
         rintro _ _ rfl
         refine Zl hk36 <| Run.seq fun _ hk37 => Run.regionD (M := [0, 1, 3, 7, 15, 31, 63, 0, 128, 511]) (q := 511) (r := 16) Kr ?_
         refine Dp 0 E2 (Zm E2) <| Dp 1 E2 (Zn E2) <| Dp 2 E2 (Za E2 f132_0) <| Dp 3 E2 (Za E2 f130_0) <| Dr 4 E2 (Z1 E2 g128 ((PacketParser.sub_known _).trans (PacketKnown.sub_id_ _))) ?_
         refine Dp 5 E2 (Zn E2) <| Dp 6 E2 (QP.sliceArr rfl rfl Tryz.underlying42 z5) <| Dp 7 E2 (Za E2 f44_0) <| Dp 8 E2 (QP.sliceArrLo rfl rfl rfl Tryz.underlying32 z5 (by decide) (by decide)) <| De 9 <| Om [] rfl rfl (EF.copySl (b := b130) (off := 0) (n := 8) (lo := 0) (k := 8) (ys := (PF.1.a.l.drop 8).take 8) rfl rfl rfl rfl Tryz.underlying75 z5 (RowsAt.arrAt (x := PF.1.a) Rc (Prefix.sub_a PF.1) (by decide)) (fun h => by omega) (Bs.setPatch (Bs.zero 8) _ (by omega))) ?_
         rintro _ _ ⟨rfl, rfl⟩
         refine N0 <| Dn <| hk37 _ _ <| Zs fun _ hk38 => Mv 0 E3 <| Qp 1 E2 (Ze E3) <| J.caseD (fun c145 => ?_) (fun c145 => ?_)
         ·refine Zl hk38 <| Zt <| Run.region <| Mv 0 E3 <| Qp 1 E2 (Zn E2) <| Fa 2 E3 f132_0 <| Fa 3 E3 f130_0 <| Qq 4 E2 (Z1 E2 g128 ((PacketParser.sub_known _).trans (PacketKnown.sub_id_ _))) ?_
          refine Qp 5 E2 (Zn E2) <| Qp 6 E2 (QP.sliceArrHi rfl rfl rfl Tryz.underlying42 z5 Og Og (by decide)) <| Ef 7 E2 (EF.buildSliceS rfl Tryz.underlying75 z5 zero5 rfl (by decide) rfl rfl rfl rfl) ?_
          rintro _ _ ⟨b153, rfl, rfl⟩
          refine Ef 8 E2 (EF.copySl (b := b130) (off := 0) (n := 8) (lo := 0) (k := 4) (ys := [0, 0, 0, 0]) rfl rfl rfl rfl Tryz.underlying75 z5 (RowsAt.lit (ys := [0, 0, 0, 0]) Rc) (fun h => by omega) (Bs.setPatch ((Bs.zero 8).patch 0 ((PF.1.a.l.drop 8).take 8)) [0, 0, 0, 0] (by omega))) ?_
          rintro _ _ ⟨rfl, rfl⟩
          refine Sq.nil <| J.close (A := idA (some ⟨b130, 0, none⟩) (some (((Bs.zero 8).patch 0 ((PF.1.a.l.drop 8).take 8)).patch 0 [0, 0, 0, 0]))) (m := [blk b130 (Bs.enc (((Bs.zero 8).patch 0 ((PF.1.a.l.drop 8).take 8)).patch 0 [0, 0, 0, 0])) 42]) Tk1 (fun _ q => idA_some q) ?_
          exact J.envJ (J.keep Tk7 (hu13 (some ⟨b130, 0, none⟩) (some (((Bs.zero 8).patch 0 ((PF.1.a.l.drop 8).take 8)).patch 0 [0, 0, 0, 0])) (by rw [if_pos c127]; unfold idOf; rw [if_pos c145]))) ⟨rfl, rfl, rfl, rfl, trivial⟩
         ·refine Zl hk38 <| Zf <| Run.skip <| J.close (A := idA (some ⟨b130, 0, none⟩) (some ((Bs.zero 8).patch 0 ((PF.1.a.l.drop 8).take 8)))) (m := [blk b130 (Bs.enc ((Bs.zero 8).patch 0 ((PF.1.a.l.drop 8).take 8))) 42]) Tk1 (fun _ q => idA_some q) ?_
          exact J.envJ (J.keep Tk7 (hu13 (some ⟨b130, 0, none⟩) (some ((Bs.zero 8).patch 0 ((PF.1.a.l.drop 8).take 8))) (by rw [if_pos c127]; unfold idOf; rw [if_neg c145]))) ⟨rfl, rfl, rfl, rfl, trivial⟩
        ·exact Zl hk35 <| Zf <| Run.skip <| J.envJ (J.keep Tk7 (hu13 (idp) (x.id) ((if_neg c127).symm))) ⟨rfl, rfl, rfl, rfl, trivial⟩
      ·intro ku12 hu12
       refine Zs fun _ hk39 => Mv 0 E3 <| Qp 1 E2 (QP.and8i rfl rfl rfl) <| Qp 2 E2 (Zq E3) <| J.caseD (fun c116 => ?_) (fun c116 => ?_)
       ·refine Zl hk39 <| Zt <| Run.regionD (M := [0, 1, 3, 7, 15, 0, 0, 64, 255]) (q := 255) (r := 144) Kr ?_
        refine Dp 0 E2 (Zm E2) <| Dp 1 E2 (Zn E2) <| Dp 2 E2 (Za E2 f132_0) <| Dp 3 E2 (Za E2 f130_2) <| Dr 4 E2 (Z1 E2 g127 ((PacketParser.sub_known _).trans (PacketKnown.sub_bases _))) ?_
        refine Dp 5 E2 (Zm E2) <| Dp 6 E2 (Za E2 f44_0) <| Dr 7 E2 (Z0 E2 g32 (Prefix.sub_a _)) ?_
        refine De 8 <| Oa [] rfl (EF.mapUpdate (k := (⟨ae, hae8⟩ : N8)) (v := PF.1.a) keyB rfl rfl rfl rfl Tryz.underlying127) ?_
        rintro _ _ rfl
        exact N0 <| Dn <| J.envJ (J.keep Tk7 (hu12 (aset x.bases (⟨ae, hae8⟩ : N8) PF.1.a) ((if_pos c116).symm))) ⟨rfl, rfl, rfl, rfl, rfl, trivial⟩
       ·exact Zl hk39 <| Zf <| Run.skip <| J.envJ (J.keep Tk7 (hu12 (x.bases) ((if_neg c116).symm))) ⟨rfl, rfl, rfl, rfl, rfl, trivial⟩
     ·refine Qp 2 E2 (Zu E2) <| Zl hk11 <| Zt <| Run.ret ?_
      have hF : updF x t r bad = (updG x ae fl plen om t1 r7 bad) := by unfold updF; simp only [hr1, hr2, hr3, hr4, hae, hfl, hpl, hom, hr7, ← ht1]
      have hG : (updG x ae fl plen om t1 r7 bad) = ((t1, PF.2.1, PF.2.2), x) := by unfold updG; rw [if_neg c60]; simp only; rw [n8_eq hae8, ← hbad1, hPF, if_pos c112]
      rw [hF, hG]
      exact J.ends (res_none rfl) Tk6 ⟨idp, rfl, rfl⟩
    ·intro ku8 hu8
     refine Run.region <| Mv 0 E3 <| Mv 1 E3 <| Qp 2 E2 (Ze E3) <| J.caseD (fun c100 => ?_) (fun c100 => ?_)
     ·refine Mv 3 E3 <| Sk 4 E3 <| Pt 5 E4 <| Ef 6 E2 (Zc E2 ce111 Tk2 (fun F' hle hr => need_spec F' (t := t1) (bad := bad) (r := r7) true)) ?_
      rintro _ _ ⟨_, ⟨rfl, rfl⟩, rfl⟩
      exact J.app <| Sq.nil <| J.envJ (J.keep Tk7 (hu8 ((bad || !true)) (by rw [decide_eq_true c100, c97]; rfl))) ⟨rfl, rfl, rfl, rfl, rfl, rfl, rfl, trivial⟩
     ·refine Mv 3 E3 <| Ym 4 E4 <| Pf 5 E4 <| Ef 6 E2 (Zc E2 ce111 Tk2 (fun F' hle hr => need_spec F' (t := t1) (bad := bad) (r := r7) true)) ?_
      rintro _ _ ⟨_, ⟨rfl, rfl⟩, rfl⟩
      exact J.app <| Sq.nil <| J.envJ (J.keep Tk7 (hu8 ((bad || !true)) (by rw [decide_eq_false c100, c97]; rfl))) ⟨rfl, rfl, rfl, rfl, rfl, rfl, rfl, trivial⟩
   ·refine Ef 10 E2 (EF.allocA (l := (Bs.zero 16).enc) rfl zero32) ?_
    rintro _ _ ⟨b8, rfl, rfl⟩
    refine Ac 11 rfl (EF.storeA rfl rfl rfl z32 (SetL.all (Bs.len _) (Bs.len _)) (Bs.cell _)) ?_
    rintro _ _ rfl
    refine Sg 12 E3 <| Zl hk7 <| Run.cut1 (fun (bad1 : Bool) => bad1 = (bad || !(decide (om = 0) || (alook x.bases (⟨ae, hae8⟩ : N8)).isSome))) (fun bad1 => .cons 0 (fp xb) (.cons 1 (fp b) (.cons 4 (.int .u8 ae) (.cons 5 (.int .u8 fl) (.cons 6 (.int .u8 plen) (.cons 7 (.int .u8 om) (.cons 8 (fp b8) (.nil)))))))) (fun bad1 => [blk b (PacketPiece.enc ⟨some ⟨rb, 0, none⟩, t1, bad1⟩) 185, RdA rb r7, blk xb (PacketParser.enc ⟨⟨idp, some hm, some bm⟩⟩) 132, mapH hm x.hops, mapB bm x.bases, idA idp x.id, blk b8 (Bs.enc ((alook x.bases (⟨ae, hae8⟩ : N8)).getD (Bs.zero 16))) 32]) ?_ ?_
    ·rintro bad1 hbad1
     refine Zs fun _ hk41 => Mv 0 E3 <| Mv 1 E3 <| Mv 2 E3 <| Mv 3 E3 <| Qq 4 E2 (Z0 E2 g32 (Bs.sub _)) ?_
     refine Ef 5 E2 (Zc E2 ce114 Tk2 (fun F' hle hr => prefix_spec F' (t := t1) (bad := bad1) (r := r7) ae plen om ((alook x.bases (⟨ae, hae8⟩ : N8)).getD (Bs.zero 16)) hplr homr)) ?_
     rintro _ _ ⟨_, ⟨rfl, rfl⟩, rfl⟩
     refine J.app ?_
     have hPl := pref_few (ae := ae) (plen := plen) (om := om) (base := ((alook x.bases (⟨ae, hae8⟩ : N8)).getD (Bs.zero 16))) (bad := bad1) hr7l
     generalize hPF : prefF ae plen om ((alook x.bases (⟨ae, hae8⟩ : N8)).getD (Bs.zero 16)) r7 bad1 = PF at hPl ⊢
     refine Ef 6 E2 (EF.allocA (l := Prefix.enc Prefix.zero) rfl zero44) ?_
     rintro _ _ ⟨b10, rfl, rfl⟩
     refine Ac 7 rfl (EF.storeA rfl rfl rfl z44 (SetL.all (Prefix.enc_len _) (Prefix.enc_len _)) (Prefix.enc_cell _)) ?_
     rintro _ _ rfl
     refine Zl hk41 <| Run.seq fun _ hk42 => Zs fun _ hk43 => Mv 0 E3 <| Ef 1 E2 (Zc E2 ce83 Tk2 (fun F' hle hr => sound_spec F' (t := t1) (bad := PF.2.2) (r := PF.2.1))) ?_
     rintro _ _ ⟨_, ⟨rfl, rfl⟩, rfl⟩
     refine J.app <| J.caseB (fun c112 => ?_) (fun c112 => ?_)
     ·refine Qp 2 E2 (Zu E2) <| Zl hk43 <| Zf <| Run.skip <| hk42 _ _ <| Run.cut1 (fun (bs2 : List (N8 × Bs 16)) => bs2 = (if and8i fl 128 ≠ 0 then aset x.bases (⟨ae, hae8⟩ : N8) PF.1.a else x.bases)) (fun bs2 => .cons 0 (fp xb) (.cons 1 (fp b) (.cons 4 (.int .u8 ae) (.cons 5 (.int .u8 fl) (.cons 10 (fp b10) (.nil)))))) (fun bs2 => [blk b (PacketPiece.enc ⟨some ⟨rb, 0, none⟩, t1, PF.2.2⟩) 185, RdA rb PF.2.1, blk xb (PacketParser.enc ⟨⟨idp, some hm, some bm⟩⟩) 132, mapH hm x.hops, mapB bm bs2, idA idp x.id, blk b10 (Prefix.enc PF.1) 44]) ?_ ?_
      ·rintro bs2 hbs2
       refine Run.cut2 (fun (idp2 : Option Addr) (id2 : Option (Bs 8)) => id2 = (if and8i fl 64 ≠ 0 then some (idOf ae PF.1.a) else x.id)) (fun idp2 id2 => .cons 0 (fp xb) (.cons 1 (fp b) (.cons 4 (.int .u8 ae) (.cons 10 (fp b10) (.nil))))) (fun idp2 id2 => [blk b (PacketPiece.enc ⟨some ⟨rb, 0, none⟩, t1, PF.2.2⟩) 185, RdA rb PF.2.1, blk xb (PacketParser.enc ⟨⟨idp2, some hm, some bm⟩⟩) 132, mapH hm x.hops, mapB bm bs2, idA idp2 id2, blk b10 (Prefix.enc PF.1) 44]) ?_ ?_
       ·rintro idp2 id2 hid2
        refine Zs fun _ hk46 => Mv 0 E3 <| Mv 1 E3 <| Qq 2 E2 (Z0 E2 g44 (Prefix.enc_sub _)) ?_
        refine Ef 3 E2 (Zc E2 ce115 Tk2 (fun F' hle hr => pair_spec F' (t := t1) (bad := PF.2.2) (r := PF.2.1) ae PF.1 haer hPl)) ?_
        rintro _ _ ⟨_, ⟨rfl, rfl⟩, rfl⟩
        refine J.app ?_
        generalize hPR : pairF ae PF.1 PF.2.2 PF.2.1 = PR
        refine Zl hk46 <| Run.seq fun _ hk47 => Zs fun _ hk48 => Mv 0 E3 ?_
        rcases hid : id2 with _ | iv
        ·refine Qp 1 E2 (Zn E2) <| Fa 2 E3 f185_1 <| Fa 3 E3 f49_5 <| Qq 4 E2 (Z1 E2 g40 ((PacketPiece.sub_tlv _).trans (Tlv.sub_metric _))) ?_
         refine Qp 5 E2 (Ze E3) <| J.caseD (fun c164 => ?_) (fun c164 => ?_)
         ·refine Zl hk48 <| Zt <| Run.ret ?_
          have hF : updF x t r bad = (updG x ae fl plen om t1 r7 bad) := by unfold updF; simp only [hr1, hr2, hr3, hr4, hae, hfl, hpl, hom, hr7, ← ht1]
          have hX : updX x ae fl PF.1 = (⟨none, x.hops, bs2⟩ : PrS) := by unfold updX; rw [← hid2, n8_eq hae8, ← hbs2, hid]
          have hU : updH (⟨none, x.hops, bs2⟩ : PrS) PR PF.1 t1 = ({ t1 with pair := PR.1 }, PR.2.1, PR.2.2) := by unfold updH; rw [if_pos c164]
          have hG : (updG x ae fl plen om t1 r7 bad) = (({ t1 with pair := PR.1 }, PR.2.1, PR.2.2), (⟨none, x.hops, bs2⟩ : PrS)) := by unfold updG; rw [if_neg c60]; simp only; rw [n8_eq hae8, ← hbad1, hPF, if_neg (by rw [c112]; simp), hPR, hX, hU]
          rw [hF, hG]
          exact J.ends (res_none rfl) Tk6 ⟨idp2, rfl, rfl⟩
         ·refine Zl hk48 <| Zf <| Run.skip <| hk47 _ _ <| Run.seq fun _ hk49 => Run.regionM (M := [0, 1, 3, 7, 15, 0, 32, 127, 255, 511, 511, 0, 3071, 8191]) (q := 1983) (r := 176) mixedT Kr ?_
          refine J.idNone Rc (fun hip => ?_)
          subst hip
          refine Dp 0 E2 (Zm E2) <| Dp 1 E2 (Zn E2) <| Dp 2 E2 (Za E2 f132_0) <| Dp 3 E2 (Za E2 f130_1) <| Dr 4 E2 (Z1 E2 g126 ((PacketParser.sub_known _).trans (PacketKnown.sub_hops _))) ?_
          refine Dr 5 E2 (Z0 E2 g44 (Prefix.enc_sub _)) ?_
          refine Dw.effs (l := [6, 11]) Kr Kr ?_
          rw [FM, FM]
          refine ⟨?_, ?_, NO⟩
          ·refine Om [4] rfl rfl (Zc E2 ce91 TN (fun F' hle hr => pfamily_spec F' (PF.1))) ?_
           rintro _ _ ⟨_, ⟨rfl, rfl⟩, rfl⟩
           refine ⟨?_, ?_⟩
           ·rw [FM]
            refine ⟨?_, NO⟩
            ·refine Look.app ?_
             exact Lk E3 (Z1 E2 g126 ((PacketParser.sub_known _).trans (PacketKnown.sub_hops _)))
           refine ?_
           refine J.app <| Dr 7 E2 (QR.lookup2V (k := (⟨pfamilyB PF.1, pfamily_range _⟩ : I64)) keyH rfl rfl rfl Tryz.underlying126 (z := Bs.zero 16) zero32) ?_
           refine Dp 8 E2 (Zm E2) <| Dp 9 E2 (Zx E3) <| Dp 10 E2 (Zx E3) <| J.caseB (fun c175 => ?_) (fun c175 => ?_)
           ·refine De 11 <| Om [7, 5, 4] rfl rfl (EF.allocA (l := (Bs.zero 16).enc) rfl zero32) ?_
            rintro _ _ ⟨b11, rfl, rfl⟩
            refine ⟨?_, ?_⟩
            ·rw [FM, FM, FM]
             refine ⟨?_, ?_, ?_, NO⟩
             ·exact Lk E3 (QR.lookup2V (k := (⟨pfamilyB PF.1, pfamily_range _⟩ : I64)) keyH rfl rfl rfl Tryz.underlying126 (z := Bs.zero 16) zero32)
             ·exact Lk E3 (Z0 E2 g44 (Prefix.enc_sub _))
             ·exact Lk E3 (Z1 E2 g126 ((PacketParser.sub_known _).trans (PacketKnown.sub_hops _)))
            refine ?_
            refine De 12 <| Oa [] rfl (EF.storeA rfl rfl rfl z32 (SetL.all (Bs.len _) (Bs.len _)) (Bs.cell _)) ?_
            rintro _ _ rfl
            refine N0 <| De 13 <| Om [] rfl rfl ((Zg E2).eff) ?_
            rintro _ _ ⟨rfl, rfl⟩
            refine N0 <| Dn <| hk49 _ _ <| Zs fun _ hk50 => Mv 0 E3 <| Mv 1 E3 <| Mv 2 E3 <| Ym 3 E4 <| Yp 4 E3 (Zn E2) <| Yf 5 E4 f132_0 <| Yf 6 E4 f130_0 <| Yq 7 E3 (Z1 E2 g128 ((PacketParser.sub_known _).trans (PacketKnown.sub_id_ _))) ?_
            refine Yp 8 E3 (QP.ptr_ne_nil rfl rfl rfl Tryz.underlying128) <| Pt 9 E4 <| Mv 10 E3 <| Sk 11 E3 <| Sk 12 E3 <| Sk 13 E3 <| Sk 14 E3 <| Sk 15 E3 <| Sk 16 E3 <| Sk 17 E3 <| Sk 18 E3 <| Pf 19 E4 <| Ef 20 E2 (Zc E2 ce111 Tk2 (fun F' hle hr => need_spec F' (t := { t1 with pair := PR.1 }) (bad := PR.2.2) (r := PR.2.1) false)) ?_
            rintro _ _ ⟨_, ⟨rfl, rfl⟩, rfl⟩
            refine J.app <| Zl hk50 <| Zs fun _ hk51 => Mv 0 E3 <| Ef 1 E2 (Zc E2 ce83 Tk2 (fun F' hle hr => sound_spec F' (t := { t1 with pair := PR.1 }) (bad := (PR.2.2 || !false)) (r := PR.2.1))) ?_
            rintro _ _ ⟨_, ⟨rfl, rfl⟩, rfl⟩
            refine J.app <| J.caseB (fun c198 => ?_) (fun c198 => ?_)
            ·refine Zl hk51 <| Zt <| Run.regionM (M := [0, 0, 0, 4, 12, 28, 60, 124, 252, 0, 509, 1533, 3581, 7677, 16383, 32767, 65535, 131071]) (q := 122879) (r := 832) mixedT Kr ?_
             exact absurd c198 (by simp [soundB])
            ·refine Zl hk51 <| Zf <| Run.skip ?_
             have hF : updF x t r bad = (updG x ae fl plen om t1 r7 bad) := by unfold updF; simp only [hr1, hr2, hr3, hr4, hae, hfl, hpl, hom, hr7, ← ht1]
             have hX : updX x ae fl PF.1 = (⟨none, x.hops, bs2⟩ : PrS) := by unfold updX; rw [← hid2, n8_eq hae8, ← hbs2, hid]
             have hU : updH (⟨none, x.hops, bs2⟩ : PrS) PR PF.1 t1 = ({ t1 with pair := PR.1 }, PR.2.1, PR.2.2 || !false) := by unfold updH; rw [if_neg c164, n64_eq (pfamily_range _), show (alook x.hops (⟨pfamilyB PF.1, pfamily_range _⟩ : I64)).isSome = true from c175]; simp only [Bool.true_and, Bool.false_and, Bool.and_false]; rw [if_neg (by rw [c198]; simp)]
             have hG : (updG x ae fl plen om t1 r7 bad) = (({ t1 with pair := PR.1 }, PR.2.1, PR.2.2 || !false), (⟨none, x.hops, bs2⟩ : PrS)) := by unfold updG; rw [if_neg c60]; simp only; rw [n8_eq hae8, ← hbad1, hPF, if_neg (by rw [c112]; simp), hPR, hX, hU]
             refine J.addId ?_
             rw [hF, hG]
             exact J.ends (res_none rfl) Tk6 ⟨none, rfl, rfl⟩
           ·refine De 11 <| Om [7, 5, 4] rfl rfl (EF.allocA (l := (Bs.zero 16).enc) rfl zero32) ?_
            rintro _ _ ⟨b11, rfl, rfl⟩
            refine ⟨?_, ?_⟩
            ·rw [FM, FM, FM]
             refine ⟨?_, ?_, ?_, NO⟩
             ·exact Lk E3 (QR.lookup2V (k := (⟨pfamilyB PF.1, pfamily_range _⟩ : I64)) keyH rfl rfl rfl Tryz.underlying126 (z := Bs.zero 16) zero32)
             ·exact Lk E3 (Z0 E2 g44 (Prefix.enc_sub _))
             ·exact Lk E3 (Z1 E2 g126 ((PacketParser.sub_known _).trans (PacketKnown.sub_hops _)))
            refine ?_
            refine De 12 <| Oa [] rfl (EF.storeA rfl rfl rfl z32 (SetL.all (Bs.len _) (Bs.len _)) (Bs.cell _)) ?_
            rintro _ _ rfl
            refine N0 <| De 13 <| Om [] rfl rfl ((Zg E2).eff) ?_
            rintro _ _ ⟨rfl, rfl⟩
            refine N0 <| Dn <| hk49 _ _ <| Zs fun _ hk52 => Mv 0 E3 <| Mv 1 E3 <| Mv 2 E3 <| Sk 3 E3 <| Sk 4 E3 <| Sk 5 E3 <| Sk 6 E3 <| Sk 7 E3 <| Sk 8 E3 <| Pf 9 E4 <| Mv 10 E3 <| Sk 11 E3 <| Sk 12 E3 <| Sk 13 E3 <| Sk 14 E3 <| Sk 15 E3 <| Sk 16 E3 <| Sk 17 E3 <| Sk 18 E3 <| Pf 19 E4 <| Ef 20 E2 (Zc E2 ce111 Tk2 (fun F' hle hr => need_spec F' (t := { t1 with pair := PR.1 }) (bad := PR.2.2) (r := PR.2.1) false)) ?_
            rintro _ _ ⟨_, ⟨rfl, rfl⟩, rfl⟩
            refine J.app <| Zl hk52 <| Zs fun _ hk53 => Mv 0 E3 <| Ef 1 E2 (Zc E2 ce83 Tk2 (fun F' hle hr => sound_spec F' (t := { t1 with pair := PR.1 }) (bad := (PR.2.2 || !false)) (r := PR.2.1))) ?_
            rintro _ _ ⟨_, ⟨rfl, rfl⟩, rfl⟩
            refine J.app <| J.caseB (fun c198 => ?_) (fun c198 => ?_)
            ·refine Zl hk53 <| Zt <| Run.regionM (M := [0, 0, 0, 4, 12, 28, 60, 124, 252, 0, 509, 1533, 3581, 7677, 16383, 32767, 65535, 131071]) (q := 122879) (r := 832) mixedT Kr ?_
             exact absurd c198 (by simp [soundB])
            ·refine Zl hk53 <| Zf <| Run.skip ?_
             have hF : updF x t r bad = (updG x ae fl plen om t1 r7 bad) := by unfold updF; simp only [hr1, hr2, hr3, hr4, hae, hfl, hpl, hom, hr7, ← ht1]
             have hX : updX x ae fl PF.1 = (⟨none, x.hops, bs2⟩ : PrS) := by unfold updX; rw [← hid2, n8_eq hae8, ← hbs2, hid]
             have hU : updH (⟨none, x.hops, bs2⟩ : PrS) PR PF.1 t1 = ({ t1 with pair := PR.1 }, PR.2.1, PR.2.2 || !false) := by unfold updH; rw [if_neg c164, n64_eq (pfamily_range _), show (alook x.hops (⟨pfamilyB PF.1, pfamily_range _⟩ : I64)).isSome = false from c175]; simp only [Bool.true_and, Bool.false_and, Bool.and_false]; rw [if_neg (by rw [c198]; simp)]
             have hG : (updG x ae fl plen om t1 r7 bad) = (({ t1 with pair := PR.1 }, PR.2.1, PR.2.2 || !false), (⟨none, x.hops, bs2⟩ : PrS)) := by unfold updG; rw [if_neg c60]; simp only; rw [n8_eq hae8, ← hbad1, hPF, if_neg (by rw [c112]; simp), hPR, hX, hU]
             refine J.addId ?_
             rw [hF, hG]
             exact J.ends (res_none rfl) Tk6 ⟨none, rfl, rfl⟩
          ·refine Om [5, 4] rfl rfl (EF.allocA (l := (Bs.zero 16).enc) rfl zero32) ?_
           rintro _ _ ⟨b11, rfl, rfl⟩
           refine ⟨?_, ?_⟩
           ·rw [FM, FM]
            refine ⟨?_, ?_, NO⟩
            ·exact Lk E3 (Z0 E2 g44 (Prefix.enc_sub _))
            ·exact Lk E3 (Z1 E2 g126 ((PacketParser.sub_known _).trans (PacketKnown.sub_hops _)))
           refine ?_
           refine De 6 <| Om [4] rfl rfl (Zc E2 ce91 TN (fun F' hle hr => pfamily_spec F' (PF.1))) ?_
           rintro _ _ ⟨_, ⟨rfl, rfl⟩, rfl⟩
           refine ⟨?_, ?_⟩
           ·rw [FM]
            refine ⟨?_, NO⟩
            ·refine Look.app ?_
             exact Lk E3 (Z1 E2 g126 ((PacketParser.sub_known _).trans (PacketKnown.sub_hops _)))
           refine ?_
           refine J.app <| Dr 7 E2 (QR.lookup2V (k := (⟨pfamilyB PF.1, pfamily_range _⟩ : I64)) keyH rfl rfl rfl Tryz.underlying126 (z := Bs.zero 16) zero32) ?_
           refine Dp 8 E2 (Zm E2) <| Dp 9 E2 (Zx E3) <| Dp 10 E2 (Zx E3) <| J.caseB (fun c175 => ?_) (fun c175 => ?_)
           ·refine De 12 <| Oa [] rfl (EF.storeA rfl rfl rfl z32 (SetL.all (Bs.len _) (Bs.len _)) (Bs.cell _)) ?_
            rintro _ _ rfl
            refine N0 <| De 13 <| Om [] rfl rfl ((Zg E2).eff) ?_
            rintro _ _ ⟨rfl, rfl⟩
            refine N0 <| Dn <| hk49 _ _ <| Zs fun _ hk54 => Mv 0 E3 <| Mv 1 E3 <| Mv 2 E3 <| Ym 3 E4 <| Yp 4 E3 (Zn E2) <| Yf 5 E4 f132_0 <| Yf 6 E4 f130_0 <| Yq 7 E3 (Z1 E2 g128 ((PacketParser.sub_known _).trans (PacketKnown.sub_id_ _))) ?_
            refine Yp 8 E3 (QP.ptr_ne_nil rfl rfl rfl Tryz.underlying128) <| Pt 9 E4 <| Mv 10 E3 <| Sk 11 E3 <| Sk 12 E3 <| Sk 13 E3 <| Sk 14 E3 <| Sk 15 E3 <| Sk 16 E3 <| Sk 17 E3 <| Sk 18 E3 <| Pf 19 E4 <| Ef 20 E2 (Zc E2 ce111 Tk2 (fun F' hle hr => need_spec F' (t := { t1 with pair := PR.1 }) (bad := PR.2.2) (r := PR.2.1) false)) ?_
            rintro _ _ ⟨_, ⟨rfl, rfl⟩, rfl⟩
            refine J.app <| Zl hk54 <| Zs fun _ hk55 => Mv 0 E3 <| Ef 1 E2 (Zc E2 ce83 Tk2 (fun F' hle hr => sound_spec F' (t := { t1 with pair := PR.1 }) (bad := (PR.2.2 || !false)) (r := PR.2.1))) ?_
            rintro _ _ ⟨_, ⟨rfl, rfl⟩, rfl⟩
            refine J.app <| J.caseB (fun c198 => ?_) (fun c198 => ?_)
            ·refine Zl hk55 <| Zt <| Run.regionM (M := [0, 0, 0, 4, 12, 28, 60, 124, 252, 0, 509, 1533, 3581, 7677, 16383, 32767, 65535, 131071]) (q := 122879) (r := 832) mixedT Kr ?_
             exact absurd c198 (by simp [soundB])
            ·refine Zl hk55 <| Zf <| Run.skip ?_
             have hF : updF x t r bad = (updG x ae fl plen om t1 r7 bad) := by unfold updF; simp only [hr1, hr2, hr3, hr4, hae, hfl, hpl, hom, hr7, ← ht1]
             have hX : updX x ae fl PF.1 = (⟨none, x.hops, bs2⟩ : PrS) := by unfold updX; rw [← hid2, n8_eq hae8, ← hbs2, hid]
             have hU : updH (⟨none, x.hops, bs2⟩ : PrS) PR PF.1 t1 = ({ t1 with pair := PR.1 }, PR.2.1, PR.2.2 || !false) := by unfold updH; rw [if_neg c164, n64_eq (pfamily_range _), show (alook x.hops (⟨pfamilyB PF.1, pfamily_range _⟩ : I64)).isSome = true from c175]; simp only [Bool.true_and, Bool.false_and, Bool.and_false]; rw [if_neg (by rw [c198]; simp)]
             have hG : (updG x ae fl plen om t1 r7 bad) = (({ t1 with pair := PR.1 }, PR.2.1, PR.2.2 || !false), (⟨none, x.hops, bs2⟩ : PrS)) := by unfold updG; rw [if_neg c60]; simp only; rw [n8_eq hae8, ← hbad1, hPF, if_neg (by rw [c112]; simp), hPR, hX, hU]
             refine J.addId ?_
             rw [hF, hG]
             exact J.ends (res_none rfl) Tk6 ⟨none, rfl, rfl⟩
           ·refine De 12 <| Oa [] rfl (EF.storeA rfl rfl rfl z32 (SetL.all (Bs.len _) (Bs.len _)) (Bs.cell _)) ?_
            rintro _ _ rfl
            refine N0 <| De 13 <| Om [] rfl rfl ((Zg E2).eff) ?_
            rintro _ _ ⟨rfl, rfl⟩
            refine N0 <| Dn <| hk49 _ _ <| Zs fun _ hk56 => Mv 0 E3 <| Mv 1 E3 <| Mv 2 E3 <| Sk 3 E3 <| Sk 4 E3 <| Sk 5 E3 <| Sk 6 E3 <| Sk 7 E3 <| Sk 8 E3 <| Pf 9 E4 <| Mv 10 E3 <| Sk 11 E3 <| Sk 12 E3 <| Sk 13 E3 <| Sk 14 E3 <| Sk 15 E3 <| Sk 16 E3 <| Sk 17 E3 <| Sk 18 E3 <| Pf 19 E4 <| Ef 20 E2 (Zc E2 ce111 Tk2 (fun F' hle hr => need_spec F' (t := { t1 with pair := PR.1 }) (bad := PR.2.2) (r := PR.2.1) false)) ?_
            rintro _ _ ⟨_, ⟨rfl, rfl⟩, rfl⟩
            refine J.app <| Zl hk56 <| Zs fun _ hk57 => Mv 0 E3 <| Ef 1 E2 (Zc E2 ce83 Tk2 (fun F' hle hr => sound_spec F' (t := { t1 with pair := PR.1 }) (bad := (PR.2.2 || !false)) (r := PR.2.1))) ?_
            rintro _ _ ⟨_, ⟨rfl, rfl⟩, rfl⟩
            refine J.app <| J.caseB (fun c198 => ?_) (fun c198 => ?_)
            ·refine Zl hk57 <| Zt <| Run.regionM (M := [0, 0, 0, 4, 12, 28, 60, 124, 252, 0, 509, 1533, 3581, 7677, 16383, 32767, 65535, 131071]) (q := 122879) (r := 832) mixedT Kr ?_
             exact absurd c198 (by simp [soundB])
            ·refine Zl hk57 <| Zf <| Run.skip ?_
             have hF : updF x t r bad = (updG x ae fl plen om t1 r7 bad) := by unfold updF; simp only [hr1, hr2, hr3, hr4, hae, hfl, hpl, hom, hr7, ← ht1]
             have hX : updX x ae fl PF.1 = (⟨none, x.hops, bs2⟩ : PrS) := by unfold updX; rw [← hid2, n8_eq hae8, ← hbs2, hid]
             have hU : updH (⟨none, x.hops, bs2⟩ : PrS) PR PF.1 t1 = ({ t1 with pair := PR.1 }, PR.2.1, PR.2.2 || !false) := by unfold updH; rw [if_neg c164, n64_eq (pfamily_range _), show (alook x.hops (⟨pfamilyB PF.1, pfamily_range _⟩ : I64)).isSome = false from c175]; simp only [Bool.true_and, Bool.false_and, Bool.and_false]; rw [if_neg (by rw [c198]; simp)]
             have hG : (updG x ae fl plen om t1 r7 bad) = (({ t1 with pair := PR.1 }, PR.2.1, PR.2.2 || !false), (⟨none, x.hops, bs2⟩ : PrS)) := by unfold updG; rw [if_neg c60]; simp only; rw [n8_eq hae8, ← hbad1, hPF, if_neg (by rw [c112]; simp), hPR, hX, hU]
             refine J.addId ?_
             rw [hF, hG]
             exact J.ends (res_none rfl) Tk6 ⟨none, rfl, rfl⟩
        ·refine Qp 1 E2 (Zn E2) <| Fa 2 E3 f185_1 <| Fa 3 E3 f49_5 <| Qq 4 E2 (Z1 E2 g40 ((PacketPiece.sub_tlv _).trans (Tlv.sub_metric _))) ?_
         refine Qp 5 E2 (Ze E3) <| J.caseD (fun c164 => ?_) (fun c164 => ?_)
         ·refine Zl hk48 <| Zt <| Run.ret ?_
          have hF : updF x t r bad = (updG x ae fl plen om t1 r7 bad) := by unfold updF; simp only [hr1, hr2, hr3, hr4, hae, hfl, hpl, hom, hr7, ← ht1]
          have hX : updX x ae fl PF.1 = (⟨(some iv), x.hops, bs2⟩ : PrS) := by unfold updX; rw [← hid2, n8_eq hae8, ← hbs2, hid]
          have hU : updH (⟨(some iv), x.hops, bs2⟩ : PrS) PR PF.1 t1 = ({ t1 with pair := PR.1 }, PR.2.1, PR.2.2) := by unfold updH; rw [if_pos c164]
          have hG : (updG x ae fl plen om t1 r7 bad) = (({ t1 with pair := PR.1 }, PR.2.1, PR.2.2), (⟨(some iv), x.hops, bs2⟩ : PrS)) := by unfold updG; rw [if_neg c60]; simp only; rw [n8_eq hae8, ← hbad1, hPF, if_neg (by rw [c112]; simp), hPR, hX, hU]
          rw [hF, hG]
          exact J.ends (res_none rfl) Tk6 ⟨idp2, rfl, rfl⟩
         ·refine Zl hk48 <| Zf <| Run.skip <| hk47 _ _ <| Run.seq fun _ hk58 => Run.regionM (M := [0, 1, 3, 7, 15, 0, 32, 127, 255, 511, 511, 0, 3071, 8191]) (q := 1983) (r := 176) mixedT Kr ?_
          refine J.idSome Rc (fun ib hip => ?_)
          subst hip
          refine Dp 0 E2 (Zm E2) <| Dp 1 E2 (Zn E2) <| Dp 2 E2 (Za E2 f132_0) <| Dp 3 E2 (Za E2 f130_1) <| Dr 4 E2 (Z1 E2 g126 ((PacketParser.sub_known _).trans (PacketKnown.sub_hops _))) ?_
          refine Dr 5 E2 (Z0 E2 g44 (Prefix.enc_sub _)) ?_
          refine Dw.effs (l := [6, 11]) Kr Kr ?_
          rw [FM, FM]
          refine ⟨?_, ?_, NO⟩
          ·refine Om [4] rfl rfl (Zc E2 ce91 TN (fun F' hle hr => pfamily_spec F' (PF.1))) ?_
           rintro _ _ ⟨_, ⟨rfl, rfl⟩, rfl⟩
           refine ⟨?_, ?_⟩
           ·rw [FM]
            refine ⟨?_, NO⟩
            ·refine Look.app ?_
             exact Lk E3 (Z1 E2 g126 ((PacketParser.sub_known _).trans (PacketKnown.sub_hops _)))
           refine ?_
           refine J.app <| Dr 7 E2 (QR.lookup2V (k := (⟨pfamilyB PF.1, pfamily_range _⟩ : I64)) keyH rfl rfl rfl Tryz.underlying126 (z := Bs.zero 16) zero32) ?_
           refine Dp 8 E2 (Zm E2) <| Dp 9 E2 (Zx E3) <| Dp 10 E2 (Zx E3) <| J.caseB (fun c175 => ?_) (fun c175 => ?_)
           ·refine De 11 <| Om [7, 5, 4] rfl rfl (EF.allocA (l := (Bs.zero 16).enc) rfl zero32) ?_
            rintro _ _ ⟨b11, rfl, rfl⟩
            refine ⟨?_, ?_⟩
            ·rw [FM, FM, FM]
             refine ⟨?_, ?_, ?_, NO⟩
             ·exact Lk E3 (QR.lookup2V (k := (⟨pfamilyB PF.1, pfamily_range _⟩ : I64)) keyH rfl rfl rfl Tryz.underlying126 (z := Bs.zero 16) zero32)
             ·exact Lk E3 (Z0 E2 g44 (Prefix.enc_sub _))
             ·exact Lk E3 (Z1 E2 g126 ((PacketParser.sub_known _).trans (PacketKnown.sub_hops _)))
            refine ?_
            refine De 12 <| Oa [] rfl (EF.storeA rfl rfl rfl z32 (SetL.all (Bs.len _) (Bs.len _)) (Bs.cell _)) ?_
            rintro _ _ rfl
            refine N0 <| De 13 <| Om [] rfl rfl ((Zg E2).eff) ?_
            rintro _ _ ⟨rfl, rfl⟩
            refine N0 <| Dn <| hk58 _ _ <| Zs fun _ hk59 => Mv 0 E3 <| Mv 1 E3 <| Mv 2 E3 <| Ym 3 E4 <| Yp 4 E3 (Zn E2) <| Yf 5 E4 f132_0 <| Yf 6 E4 f130_0 <| Yq 7 E3 (Z1 E2 g128 ((PacketParser.sub_known _).trans (PacketKnown.sub_id_ _))) ?_
            refine Yp 8 E3 (QP.ptr_ne_nil rfl rfl rfl Tryz.underlying128) <| Pt 9 E4 <| Mv 10 E3 <| Ym 11 E4 <| Yp 12 E3 (Zn E2) <| Yf 13 E4 f132_0 <| Yf 14 E4 f130_0 <| Yq 15 E3 (Z1 E2 g128 ((PacketParser.sub_known _).trans (PacketKnown.sub_id_ _))) ?_
            refine Yp 16 E3 (Zn E2) <| Yq 17 E3 (Z0 E2 g42 (Bs.sub _)) ?_
            refine Ye 18 E3 (Zc E2 ce116 TN (fun F' hle hr => named_spec F' iv)) ?_
            rintro _ _ ⟨_, ⟨rfl, rfl⟩, rfl⟩
            refine J.app <| Pt 19 E4 <| Ef 20 E2 (Zc E2 ce111 Tk2 (fun F' hle hr => need_spec F' (t := { t1 with pair := PR.1 }) (bad := PR.2.2) (r := PR.2.1) (namedB iv))) ?_
            rintro _ _ ⟨_, ⟨rfl, rfl⟩, rfl⟩
            refine J.app <| Zl hk59 <| Zs fun _ hk60 => Mv 0 E3 <| Ef 1 E2 (Zc E2 ce83 Tk2 (fun F' hle hr => sound_spec F' (t := { t1 with pair := PR.1 }) (bad := (PR.2.2 || !(namedB iv))) (r := PR.2.1))) ?_
            rintro _ _ ⟨_, ⟨rfl, rfl⟩, rfl⟩
            refine J.app <| J.caseB (fun c198 => ?_) (fun c198 => ?_)
            ·refine Zl hk60 <| Zt <| Run.regionM (M := [0, 0, 0, 4, 12, 28, 60, 124, 252, 0, 509, 1533, 3581, 7677, 16383, 32767, 65535, 131071]) (q := 122879) (r := 832) mixedT Kr ?_
             refine Dp 0 E2 (Zm E2) <| Dp 1 E2 (Zm E2) <| Dp 2 E2 (Zm E2) <| Dp 3 E2 (Zn E2) <| Dp 4 E2 (Za E2 f132_0) <| Dp 5 E2 (Za E2 f130_0) <| Dr 6 E2 (Z1 E2 g128 ((PacketParser.sub_known _).trans (PacketKnown.sub_id_ _))) ?_
             refine Dp 7 E2 (Zn E2) <| Dr 8 E2 (Z0 E2 g42 (Bs.sub _)) ?_
             refine Dr 9 E2 (Z0 E2 g32 (Bs.sub _)) ?_
             refine Dp 10 E2 (Zn E2) <| Dp 11 E2 (Za E2 f185_1) <| Dp 12 E2 (Za E2 f49_9) <| De 13 <| Oa [9] rfl (EF.storeA rfl rfl rfl z42 ((PacketPiece.set_tlv _ _).trans (PacketPiece.sub_tlv _) (Tlv.set_id_ _ _)) (Bs.cell _)) ?_
             rintro _ _ rfl
             refine ⟨?_, ?_⟩
             ·rw [FM]
              refine ⟨?_, NO⟩
              ·exact Lk E3 (Z0 E2 g32 (Bs.sub _))
             refine ?_
             refine Dp 14 E2 (Zn E2) <| Dp 15 E2 (Za E2 f185_1) <| Dp 16 E2 (Za E2 f49_10) <| De 17 <| Oa [] rfl (EF.storeA rfl rfl rfl z32 ((PacketPiece.set_tlv _ _).trans (PacketPiece.sub_tlv _) (Tlv.set_addr _ _)) (Bs.cell _)) ?_
             rintro _ _ rfl
             refine N0 <| Dn ?_
             have hF : updF x t r bad = (updG x ae fl plen om t1 r7 bad) := by unfold updF; simp only [hr1, hr2, hr3, hr4, hae, hfl, hpl, hom, hr7, ← ht1]
             have hX : updX x ae fl PF.1 = (⟨(some iv), x.hops, bs2⟩ : PrS) := by unfold updX; rw [← hid2, n8_eq hae8, ← hbs2, hid]
             have hU : updH (⟨(some iv), x.hops, bs2⟩ : PrS) PR PF.1 t1 = ({ t1 with pair := PR.1, id_ := iv, addr := ((alook x.hops (⟨pfamilyB PF.1, pfamily_range _⟩ : I64)).getD (Bs.zero 16)) }, PR.2.1, PR.2.2 || !(namedB iv)) := by unfold updH; rw [if_neg c164, n64_eq (pfamily_range _), show (alook x.hops (⟨pfamilyB PF.1, pfamily_range _⟩ : I64)).isSome = true from c175]; simp only [Bool.true_and, Bool.false_and, Bool.and_false]; rw [if_pos c198]; rfl
             have hG : (updG x ae fl plen om t1 r7 bad) = (({ t1 with pair := PR.1, id_ := iv, addr := ((alook x.hops (⟨pfamilyB PF.1, pfamily_range _⟩ : I64)).getD (Bs.zero 16)) }, PR.2.1, PR.2.2 || !(namedB iv)), (⟨(some iv), x.hops, bs2⟩ : PrS)) := by unfold updG; rw [if_neg c60]; simp only; rw [n8_eq hae8, ← hbad1, hPF, if_neg (by rw [c112]; simp), hPR, hX, hU]
             refine J.close (A := idA (some ⟨ib, 0, none⟩) (some iv)) (m := [blk ib (Bs.enc iv) 42]) Tk1 (fun _ q => idA_some q) ?_
             rw [hF, hG]
             exact J.ends (res_none rfl) Tk6 ⟨some ⟨ib, 0, none⟩, rfl, rfl⟩
            ·refine Zl hk60 <| Zf <| Run.skip ?_
             have hF : updF x t r bad = (updG x ae fl plen om t1 r7 bad) := by unfold updF; simp only [hr1, hr2, hr3, hr4, hae, hfl, hpl, hom, hr7, ← ht1]
             have hX : updX x ae fl PF.1 = (⟨(some iv), x.hops, bs2⟩ : PrS) := by unfold updX; rw [← hid2, n8_eq hae8, ← hbs2, hid]
             have hU : updH (⟨(some iv), x.hops, bs2⟩ : PrS) PR PF.1 t1 = ({ t1 with pair := PR.1 }, PR.2.1, PR.2.2 || !(namedB iv)) := by unfold updH; rw [if_neg c164, n64_eq (pfamily_range _), show (alook x.hops (⟨pfamilyB PF.1, pfamily_range _⟩ : I64)).isSome = true from c175]; simp only [Bool.true_and, Bool.false_and, Bool.and_false]; rw [if_neg (by rw [c198]; simp)]
             have hG : (updG x ae fl plen om t1 r7 bad) = (({ t1 with pair := PR.1 }, PR.2.1, PR.2.2 || !(namedB iv)), (⟨(some iv), x.hops, bs2⟩ : PrS)) := by unfold updG; rw [if_neg c60]; simp only; rw [n8_eq hae8, ← hbad1, hPF, if_neg (by rw [c112]; simp), hPR, hX, hU]
             refine J.close (A := idA (some ⟨ib, 0, none⟩) (some iv)) (m := [blk ib (Bs.enc iv) 42]) Tk1 (fun _ q => idA_some q) ?_
             rw [hF, hG]
             exact J.ends (res_none rfl) Tk6 ⟨some ⟨ib, 0, none⟩, rfl, rfl⟩
           ·refine De 11 <| Om [7, 5, 4] rfl rfl (EF.allocA (l := (Bs.zero 16).enc) rfl zero32) ?_
            rintro _ _ ⟨b11, rfl, rfl⟩
            refine ⟨?_, ?_⟩
            ·rw [FM, FM, FM]
             refine ⟨?_, ?_, ?_, NO⟩
             ·exact Lk E3 (QR.lookup2V (k := (⟨pfamilyB PF.1, pfamily_range _⟩ : I64)) keyH rfl rfl rfl Tryz.underlying126 (z := Bs.zero 16) zero32)
             ·exact Lk E3 (Z0 E2 g44 (Prefix.enc_sub _))
             ·exact Lk E3 (Z1 E2 g126 ((PacketParser.sub_known _).trans (PacketKnown.sub_hops _)))
            refine ?_
            refine De 12 <| Oa [] rfl (EF.storeA rfl rfl rfl z32 (SetL.all (Bs.len _) (Bs.len _)) (Bs.cell _)) ?_
            rintro _ _ rfl
            refine N0 <| De 13 <| Om [] rfl rfl ((Zg E2).eff) ?_
            rintro _ _ ⟨rfl, rfl⟩
            refine N0 <| Dn <| hk58 _ _ <| Zs fun _ hk61 => Mv 0 E3 <| Mv 1 E3 <| Mv 2 E3 <| Sk 3 E3 <| Sk 4 E3 <| Sk 5 E3 <| Sk 6 E3 <| Sk 7 E3 <| Sk 8 E3 <| Pf 9 E4 <| Mv 10 E3 <| Sk 11 E3 <| Sk 12 E3 <| Sk 13 E3 <| Sk 14 E3 <| Sk 15 E3 <| Sk 16 E3 <| Sk 17 E3 <| Sk 18 E3 <| Pf 19 E4 <| Ef 20 E2 (Zc E2 ce111 Tk2 (fun F' hle hr => need_spec F' (t := { t1 with pair := PR.1 }) (bad := PR.2.2) (r := PR.2.1) false)) ?_
            rintro _ _ ⟨_, ⟨rfl, rfl⟩, rfl⟩
            refine J.app <| Zl hk61 <| Zs fun _ hk62 => Mv 0 E3 <| Ef 1 E2 (Zc E2 ce83 Tk2 (fun F' hle hr => sound_spec F' (t := { t1 with pair := PR.1 }) (bad := (PR.2.2 || !false)) (r := PR.2.1))) ?_
            rintro _ _ ⟨_, ⟨rfl, rfl⟩, rfl⟩
            refine J.app <| J.caseB (fun c198 => ?_) (fun c198 => ?_)
            ·refine Zl hk62 <| Zt <| Run.regionM (M := [0, 0, 0, 4, 12, 28, 60, 124, 252, 0, 509, 1533, 3581, 7677, 16383, 32767, 65535, 131071]) (q := 122879) (r := 832) mixedT Kr ?_
             exact absurd c198 (by simp [soundB])
            ·refine Zl hk62 <| Zf <| Run.skip ?_
             have hF : updF x t r bad = (updG x ae fl plen om t1 r7 bad) := by unfold updF; simp only [hr1, hr2, hr3, hr4, hae, hfl, hpl, hom, hr7, ← ht1]
             have hX : updX x ae fl PF.1 = (⟨(some iv), x.hops, bs2⟩ : PrS) := by unfold updX; rw [← hid2, n8_eq hae8, ← hbs2, hid]
             have hU : updH (⟨(some iv), x.hops, bs2⟩ : PrS) PR PF.1 t1 = ({ t1 with pair := PR.1 }, PR.2.1, PR.2.2 || !false) := by unfold updH; rw [if_neg c164, n64_eq (pfamily_range _), show (alook x.hops (⟨pfamilyB PF.1, pfamily_range _⟩ : I64)).isSome = false from c175]; simp only [Bool.true_and, Bool.false_and, Bool.and_false]; rw [if_neg (by rw [c198]; simp)]
             have hG : (updG x ae fl plen om t1 r7 bad) = (({ t1 with pair := PR.1 }, PR.2.1, PR.2.2 || !false), (⟨(some iv), x.hops, bs2⟩ : PrS)) := by unfold updG; rw [if_neg c60]; simp only; rw [n8_eq hae8, ← hbad1, hPF, if_neg (by rw [c112]; simp), hPR, hX, hU]
             refine J.close (A := idA (some ⟨ib, 0, none⟩) (some iv)) (m := [blk ib (Bs.enc iv) 42]) Tk1 (fun _ q => idA_some q) ?_
             rw [hF, hG]
             exact J.ends (res_none rfl) Tk6 ⟨some ⟨ib, 0, none⟩, rfl, rfl⟩
          ·refine Om [5, 4] rfl rfl (EF.allocA (l := (Bs.zero 16).enc) rfl zero32) ?_
           rintro _ _ ⟨b11, rfl, rfl⟩
           refine ⟨?_, ?_⟩
           ·rw [FM, FM]
            refine ⟨?_, ?_, NO⟩
            ·exact Lk E3 (Z0 E2 g44 (Prefix.enc_sub _))
            ·exact Lk E3 (Z1 E2 g126 ((PacketParser.sub_known _).trans (PacketKnown.sub_hops _)))
           refine ?_
           refine De 6 <| Om [4] rfl rfl (Zc E2 ce91 TN (fun F' hle hr => pfamily_spec F' (PF.1))) ?_
           rintro _ _ ⟨_, ⟨rfl, rfl⟩, rfl⟩
           refine ⟨?_, ?_⟩
           ·rw [FM]
            refine ⟨?_, NO⟩
            ·refine Look.app ?_
             exact Lk E3 (Z1 E2 g126 ((PacketParser.sub_known _).trans (PacketKnown.sub_hops _)))
           refine ?_
           refine J.app <| Dr 7 E2 (QR.lookup2V (k := (⟨pfamilyB PF.1, pfamily_range _⟩ : I64)) keyH rfl rfl rfl Tryz.underlying126 (z := Bs.zero 16) zero32) ?_
           refine Dp 8 E2 (Zm E2) <| Dp 9 E2 (Zx E3) <| Dp 10 E2 (Zx E3) <| J.caseB (fun c175 => ?_) (fun c175 => ?_)
           ·refine De 12 <| Oa [] rfl (EF.storeA rfl rfl rfl z32 (SetL.all (Bs.len _) (Bs.len _)) (Bs.cell _)) ?_
            rintro _ _ rfl
            refine N0 <| De 13 <| Om [] rfl rfl ((Zg E2).eff) ?_
            rintro _ _ ⟨rfl, rfl⟩
            refine N0 <| Dn <| hk58 _ _ <| Zs fun _ hk63 => Mv 0 E3 <| Mv 1 E3 <| Mv 2 E3 <| Ym 3 E4 <| Yp 4 E3 (Zn E2) <| Yf 5 E4 f132_0 <| Yf 6 E4 f130_0 <| Yq 7 E3 (Z1 E2 g128 ((PacketParser.sub_known _).trans (PacketKnown.sub_id_ _))) ?_
            refine Yp 8 E3 (QP.ptr_ne_nil rfl rfl rfl Tryz.underlying128) <| Pt 9 E4 <| Mv 10 E3 <| Ym 11 E4 <| Yp 12 E3 (Zn E2) <| Yf 13 E4 f132_0 <| Yf 14 E4 f130_0 <| Yq 15 E3 (Z1 E2 g128 ((PacketParser.sub_known _).trans (PacketKnown.sub_id_ _))) ?_
            refine Yp 16 E3 (Zn E2) <| Yq 17 E3 (Z0 E2 g42 (Bs.sub _)) ?_
            refine Ye 18 E3 (Zc E2 ce116 TN (fun F' hle hr => named_spec F' iv)) ?_
            rintro _ _ ⟨_, ⟨rfl, rfl⟩, rfl⟩
            refine J.app <| Pt 19 E4 <| Ef 20 E2 (Zc E2 ce111 Tk2 (fun F' hle hr => need_spec F' (t := { t1 with pair := PR.1 }) (bad := PR.2.2) (r := PR.2.1) (namedB iv))) ?_
            rintro _ _ ⟨_, ⟨rfl, rfl⟩, rfl⟩
            refine J.app <| Zl hk63 <| Zs fun _ hk64 => Mv 0 E3 <| Ef 1 E2 (Zc E2 ce83 Tk2 (fun F' hle hr => sound_spec F' (t := { t1 with pair := PR.1 }) (bad := (PR.2.2 || !(namedB iv))) (r := PR.2.1))) ?_
            rintro _ _ ⟨_, ⟨rfl, rfl⟩, rfl⟩
            refine J.app <| J.caseB (fun c198 => ?_) (fun c198 => ?_)
            ·refine Zl hk64 <| Zt <| Run.regionM (M := [0, 0, 0, 4, 12, 28, 60, 124, 252, 0, 509, 1533, 3581, 7677, 16383, 32767, 65535, 131071]) (q := 122879) (r := 832) mixedT Kr ?_
             refine Dp 0 E2 (Zm E2) <| Dp 1 E2 (Zm E2) <| Dp 2 E2 (Zm E2) <| Dp 3 E2 (Zn E2) <| Dp 4 E2 (Za E2 f132_0) <| Dp 5 E2 (Za E2 f130_0) <| Dr 6 E2 (Z1 E2 g128 ((PacketParser.sub_known _).trans (PacketKnown.sub_id_ _))) ?_
             refine Dp 7 E2 (Zn E2) <| Dr 8 E2 (Z0 E2 g42 (Bs.sub _)) ?_
             refine Dr 9 E2 (Z0 E2 g32 (Bs.sub _)) ?_
             refine Dp 10 E2 (Zn E2) <| Dp 11 E2 (Za E2 f185_1) <| Dp 12 E2 (Za E2 f49_9) <| De 13 <| Oa [9] rfl (EF.storeA rfl rfl rfl z42 ((PacketPiece.set_tlv _ _).trans (PacketPiece.sub_tlv _) (Tlv.set_id_ _ _)) (Bs.cell _)) ?_
             rintro _ _ rfl
             refine ⟨?_, ?_⟩
             ·rw [FM]
              refine ⟨?_, NO⟩
              ·exact Lk E3 (Z0 E2 g32 (Bs.sub _))
             refine ?_
             refine Dp 14 E2 (Zn E2) <| Dp 15 E2 (Za E2 f185_1) <| Dp 16 E2 (Za E2 f49_10) <| De 17 <| Oa [] rfl (EF.storeA rfl rfl rfl z32 ((PacketPiece.set_tlv _ _).trans (PacketPiece.sub_tlv _) (Tlv.set_addr _ _)) (Bs.cell _)) ?_
             rintro _ _ rfl
             refine N0 <| Dn ?_
             have hF : updF x t r bad = (updG x ae fl plen om t1 r7 bad) := by unfold updF; simp only [hr1, hr2, hr3, hr4, hae, hfl, hpl, hom, hr7, ← ht1]
             have hX : updX x ae fl PF.1 = (⟨(some iv), x.hops, bs2⟩ : PrS) := by unfold updX; rw [← hid2, n8_eq hae8, ← hbs2, hid]
             have hU : updH (⟨(some iv), x.hops, bs2⟩ : PrS) PR PF.1 t1 = ({ t1 with pair := PR.1, id_ := iv, addr := ((alook x.hops (⟨pfamilyB PF.1, pfamily_range _⟩ : I64)).getD (Bs.zero 16)) }, PR.2.1, PR.2.2 || !(namedB iv)) := by unfold updH; rw [if_neg c164, n64_eq (pfamily_range _), show (alook x.hops (⟨pfamilyB PF.1, pfamily_range _⟩ : I64)).isSome = true from c175]; simp only [Bool.true_and, Bool.false_and, Bool.and_false]; rw [if_pos c198]; rfl
             have hG : (updG x ae fl plen om t1 r7 bad) = (({ t1 with pair := PR.1, id_ := iv, addr := ((alook x.hops (⟨pfamilyB PF.1, pfamily_range _⟩ : I64)).getD (Bs.zero 16)) }, PR.2.1, PR.2.2 || !(namedB iv)), (⟨(some iv), x.hops, bs2⟩ : PrS)) := by unfold updG; rw [if_neg c60]; simp only; rw [n8_eq hae8, ← hbad1, hPF, if_neg (by rw [c112]; simp), hPR, hX, hU]
             refine J.close (A := idA (some ⟨ib, 0, none⟩) (some iv)) (m := [blk ib (Bs.enc iv) 42]) Tk1 (fun _ q => idA_some q) ?_
             rw [hF, hG]
             exact J.ends (res_none rfl) Tk6 ⟨some ⟨ib, 0, none⟩, rfl, rfl⟩
            ·refine Zl hk64 <| Zf <| Run.skip ?_
             have hF : updF x t r bad = (updG x ae fl plen om t1 r7 bad) := by unfold updF; simp only [hr1, hr2, hr3, hr4, hae, hfl, hpl, hom, hr7, ← ht1]
             have hX : updX x ae fl PF.1 = (⟨(some iv), x.hops, bs2⟩ : PrS) := by unfold updX; rw [← hid2, n8_eq hae8, ← hbs2, hid]
             have hU : updH (⟨(some iv), x.hops, bs2⟩ : PrS) PR PF.1 t1 = ({ t1 with pair := PR.1 }, PR.2.1, PR.2.2 || !(namedB iv)) := by unfold updH; rw [if_neg c164, n64_eq (pfamily_range _), show (alook x.hops (⟨pfamilyB PF.1, pfamily_range _⟩ : I64)).isSome = true from c175]; simp only [Bool.true_and, Bool.false_and, Bool.and_false]; rw [if_neg (by rw [c198]; simp)]
             have hG : (updG x ae fl plen om t1 r7 bad) = (({ t1 with pair := PR.1 }, PR.2.1, PR.2.2 || !(namedB iv)), (⟨(some iv), x.hops, bs2⟩ : PrS)) := by unfold updG; rw [if_neg c60]; simp only; rw [n8_eq hae8, ← hbad1, hPF, if_neg (by rw [c112]; simp), hPR, hX, hU]
             refine J.close (A := idA (some ⟨ib, 0, none⟩) (some iv)) (m := [blk ib (Bs.enc iv) 42]) Tk1 (fun _ q => idA_some q) ?_
             rw [hF, hG]
             exact J.ends (res_none rfl) Tk6 ⟨some ⟨ib, 0, none⟩, rfl, rfl⟩
           ·refine De 12 <| Oa [] rfl (EF.storeA rfl rfl rfl z32 (SetL.all (Bs.len _) (Bs.len _)) (Bs.cell _)) ?_
            rintro _ _ rfl
            refine N0 <| De 13 <| Om [] rfl rfl ((Zg E2).eff) ?_
            rintro _ _ ⟨rfl, rfl⟩
            refine N0 <| Dn <| hk58 _ _ <| Zs fun _ hk65 => Mv 0 E3 <| Mv 1 E3 <| Mv 2 E3 <| Sk 3 E3 <| Sk 4 E3 <| Sk 5 E3 <| Sk 6 E3 <| Sk 7 E3 <| Sk 8 E3 <| Pf 9 E4 <| Mv 10 E3 <| Sk 11 E3 <| Sk 12 E3 <| Sk 13 E3 <| Sk 14 E3 <| Sk 15 E3 <| Sk 16 E3 <| Sk 17 E3 <| Sk 18 E3 <| Pf 19 E4 <| Ef 20 E2 (Zc E2 ce111 Tk2 (fun F' hle hr => need_spec F' (t := { t1 with pair := PR.1 }) (bad := PR.2.2) (r := PR.2.1) false)) ?_
            rintro _ _ ⟨_, ⟨rfl, rfl⟩, rfl⟩
            refine J.app <| Zl hk65 <| Zs fun _ hk66 => Mv 0 E3 <| Ef 1 E2 (Zc E2 ce83 Tk2 (fun F' hle hr => sound_spec F' (t := { t1 with pair := PR.1 }) (bad := (PR.2.2 || !false)) (r := PR.2.1))) ?_
            rintro _ _ ⟨_, ⟨rfl, rfl⟩, rfl⟩
            refine J.app <| J.caseB (fun c198 => ?_) (fun c198 => ?_)
            ·refine Zl hk66 <| Zt <| Run.regionM (M := [0, 0, 0, 4, 12, 28, 60, 124, 252, 0, 509, 1533, 3581, 7677, 16383, 32767, 65535, 131071]) (q := 122879) (r := 832) mixedT Kr ?_
             exact absurd c198 (by simp [soundB])
            ·refine Zl hk66 <| Zf <| Run.skip ?_
             have hF : updF x t r bad = (updG x ae fl plen om t1 r7 bad) := by unfold updF; simp only [hr1, hr2, hr3, hr4, hae, hfl, hpl, hom, hr7, ← ht1]
             have hX : updX x ae fl PF.1 = (⟨(some iv), x.hops, bs2⟩ : PrS) := by unfold updX; rw [← hid2, n8_eq hae8, ← hbs2, hid]
             have hU : updH (⟨(some iv), x.hops, bs2⟩ : PrS) PR PF.1 t1 = ({ t1 with pair := PR.1 }, PR.2.1, PR.2.2 || !false) := by unfold updH; rw [if_neg c164, n64_eq (pfamily_range _), show (alook x.hops (⟨pfamilyB PF.1, pfamily_range _⟩ : I64)).isSome = false from c175]; simp only [Bool.true_and, Bool.false_and, Bool.and_false]; rw [if_neg (by rw [c198]; simp)]
             have hG : (updG x ae fl plen om t1 r7 bad) = (({ t1 with pair := PR.1 }, PR.2.1, PR.2.2 || !false), (⟨(some iv), x.hops, bs2⟩ : PrS)) := by unfold updG; rw [if_neg c60]; simp only; rw [n8_eq hae8, ← hbad1, hPF, if_neg (by rw [c112]; simp), hPR, hX, hU]
             refine J.close (A := idA (some ⟨ib, 0, none⟩) (some iv)) (m := [blk ib (Bs.enc iv) 42]) Tk1 (fun _ q => idA_some q) ?_
             rw [hF, hG]
             exact J.ends (res_none rfl) Tk6 ⟨some ⟨ib, 0, none⟩, rfl, rfl⟩
       ·intro ku45 hu45
        refine Zs fun _ hk67 => Mv 0 E3 <| Qp 1 E2 (QP.and8i rfl rfl rfl) <| Qp 2 E2 (Zq E3) <| J.caseD (fun c127 => ?_) (fun c127 => ?_)
        ·refine Zl hk67 <| Zt <| Zs fun _ hk68 => Mv 0 E3 <| Qp 1 E2 (QP.const (.agg (Bs.enc (⟨[0, 0, 0, 0, 0, 0, 0, 0], rfl⟩ : Bs 8)).toArray) (fun _ _ => by kernel_rfl)) <| Ef 2 E2 (EF.boxA rfl rfl) ?_
         rintro _ _ ⟨b130, rfl, rfl⟩
         refine Qp 3 E2 (Zn E2) <| Fa 4 E3 f132_0 <| Fa 5 E3 f130_0 <| Ac 6 rfl (EF.store rfl rfl rfl z128 ((PacketParser.set_known _ _).trans (PacketParser.sub_known _) (PacketKnown.set_id_ _ _)) (cell_one rfl)) ?_
         rintro _ _ rfl
         refine Zl hk68 <| Run.seq fun _ hk69 => Run.regionD (M := [0, 1, 3, 7, 15, 31, 63, 0, 128, 511]) (q := 511) (r := 16) Kr ?_
         refine Dp 0 E2 (Zm E2) <| Dp 1 E2 (Zn E2) <| Dp 2 E2 (Za E2 f132_0) <| Dp 3 E2 (Za E2 f130_0) <| Dr 4 E2 (Z1 E2 g128 ((PacketParser.sub_known _).trans (PacketKnown.sub_id_ _))) ?_
         refine Dp 5 E2 (Zn E2) <| Dp 6 E2 (QP.sliceArr rfl rfl Tryz.underlying42 z5) <| Dp 7 E2 (Za E2 f44_0) <| Dp 8 E2 (QP.sliceArrLo rfl rfl rfl Tryz.underlying32 z5 (by decide) (by decide)) <| De 9 <| Om [] rfl rfl (EF.copySl (b := b130) (off := 0) (n := 8) (lo := 0) (k := 8) (ys := (PF.1.a.l.drop 8).take 8) rfl rfl rfl rfl Tryz.underlying75 z5 (RowsAt.arrAt (x := PF.1.a) Rc (Prefix.sub_a PF.1) (by decide)) (fun h => by omega) (Bs.setPatch (Bs.zero 8) _ (by omega))) ?_
         rintro _ _ ⟨rfl, rfl⟩
         refine N0 <| Dn <| hk69 _ _ <| Zs fun _ hk70 => Mv 0 E3 <| Qp 1 E2 (Ze E3) <| J.caseD (fun c145 => ?_) (fun c145 => ?_)
         ·refine Zl hk70 <| Zt <| Run.region <| Mv 0 E3 <| Qp 1 E2 (Zn E2) <| Fa 2 E3 f132_0 <| Fa 3 E3 f130_0 <| Qq 4 E2 (Z1 E2 g128 ((PacketParser.sub_known _).trans (PacketKnown.sub_id_ _))) ?_
          refine Qp 5 E2 (Zn E2) <| Qp 6 E2 (QP.sliceArrHi rfl rfl rfl Tryz.underlying42 z5 Og Og (by decide)) <| Ef 7 E2 (EF.buildSliceS rfl Tryz.underlying75 z5 zero5 rfl (by decide) rfl rfl rfl rfl) ?_
          rintro _ _ ⟨b153, rfl, rfl⟩
          refine Ef 8 E2 (EF.copySl (b := b130) (off := 0) (n := 8) (lo := 0) (k := 4) (ys := [0, 0, 0, 0]) rfl rfl rfl rfl Tryz.underlying75 z5 (RowsAt.lit (ys := [0, 0, 0, 0]) Rc) (fun h => by omega) (Bs.setPatch ((Bs.zero 8).patch 0 ((PF.1.a.l.drop 8).take 8)) [0, 0, 0, 0] (by omega))) ?_
          rintro _ _ ⟨rfl, rfl⟩
          refine Sq.nil <| J.close (A := idA (some ⟨b130, 0, none⟩) (some (((Bs.zero 8).patch 0 ((PF.1.a.l.drop 8).take 8)).patch 0 [0, 0, 0, 0]))) (m := [blk b130 (Bs.enc (((Bs.zero 8).patch 0 ((PF.1.a.l.drop 8).take 8)).patch 0 [0, 0, 0, 0])) 42]) Tk1 (fun _ q => idA_some q) ?_
          exact J.envJ (J.keep Tk7 (hu45 (some ⟨b130, 0, none⟩) (some (((Bs.zero 8).patch 0 ((PF.1.a.l.drop 8).take 8)).patch 0 [0, 0, 0, 0])) (by rw [if_pos c127]; unfold idOf; rw [if_pos c145]))) ⟨rfl, rfl, rfl, rfl, trivial⟩
         ·refine Zl hk70 <| Zf <| Run.skip <| J.close (A := idA (some ⟨b130, 0, none⟩) (some ((Bs.zero 8).patch 0 ((PF.1.a.l.drop 8).take 8)))) (m := [blk b130 (Bs.enc ((Bs.zero 8).patch 0 ((PF.1.a.l.drop 8).take 8))) 42]) Tk1 (fun _ q => idA_some q) ?_
          exact J.envJ (J.keep Tk7 (hu45 (some ⟨b130, 0, none⟩) (some ((Bs.zero 8).patch 0 ((PF.1.a.l.drop 8).take 8))) (by rw [if_pos c127]; unfold idOf; rw [if_neg c145]))) ⟨rfl, rfl, rfl, rfl, trivial⟩
        ·exact Zl hk67 <| Zf <| Run.skip <| J.envJ (J.keep Tk7 (hu45 (idp) (x.id) ((if_neg c127).symm))) ⟨rfl, rfl, rfl, rfl, trivial⟩
      ·intro ku44 hu44
       refine Zs fun _ hk71 => Mv 0 E3 <| Qp 1 E2 (QP.and8i rfl rfl rfl) <| Qp 2 E2 (Zq E3) <| J.caseD (fun c116 => ?_) (fun c116 => ?_)
       ·refine Zl hk71 <| Zt <| Run.regionD (M := [0, 1, 3, 7, 15, 0, 0, 64, 255]) (q := 255) (r := 144) Kr ?_
        refine Dp 0 E2 (Zm E2) <| Dp 1 E2 (Zn E2) <| Dp 2 E2 (Za E2 f132_0) <| Dp 3 E2 (Za E2 f130_2) <| Dr 4 E2 (Z1 E2 g127 ((PacketParser.sub_known _).trans (PacketKnown.sub_bases _))) ?_
        refine Dp 5 E2 (Zm E2) <| Dp 6 E2 (Za E2 f44_0) <| Dr 7 E2 (Z0 E2 g32 (Prefix.sub_a _)) ?_
        refine De 8 <| Oa [] rfl (EF.mapUpdate (k := (⟨ae, hae8⟩ : N8)) (v := PF.1.a) keyB rfl rfl rfl rfl Tryz.underlying127) ?_
        rintro _ _ rfl
        exact N0 <| Dn <| J.envJ (J.keep Tk7 (hu44 (aset x.bases (⟨ae, hae8⟩ : N8) PF.1.a) ((if_pos c116).symm))) ⟨rfl, rfl, rfl, rfl, rfl, trivial⟩
       ·exact Zl hk71 <| Zf <| Run.skip <| J.envJ (J.keep Tk7 (hu44 (x.bases) ((if_neg c116).symm))) ⟨rfl, rfl, rfl, rfl, rfl, trivial⟩
     ·refine Qp 2 E2 (Zu E2) <| Zl hk43 <| Zt <| Run.ret ?_
      have hF : updF x t r bad = (updG x ae fl plen om t1 r7 bad) := by unfold updF; simp only [hr1, hr2, hr3, hr4, hae, hfl, hpl, hom, hr7, ← ht1]
      have hG : (updG x ae fl plen om t1 r7 bad) = ((t1, PF.2.1, PF.2.2), x) := by unfold updG; rw [if_neg c60]; simp only; rw [n8_eq hae8, ← hbad1, hPF, if_pos c112]
      rw [hF, hG]
      exact J.ends (res_none rfl) Tk6 ⟨idp, rfl, rfl⟩
    ·intro ku40 hu40
     refine Run.region <| Mv 0 E3 <| Mv 1 E3 <| Qp 2 E2 (Ze E3) <| J.caseD (fun c100 => ?_) (fun c100 => ?_)
     ·refine Mv 3 E3 <| Sk 4 E3 <| Pt 5 E4 <| Ef 6 E2 (Zc E2 ce111 Tk2 (fun F' hle hr => need_spec F' (t := t1) (bad := bad) (r := r7) true)) ?_
      rintro _ _ ⟨_, ⟨rfl, rfl⟩, rfl⟩
      exact J.app <| Sq.nil <| J.envJ (J.keep Tk7 (hu40 ((bad || !true)) (by rw [decide_eq_true c100, c97]; rfl))) ⟨rfl, rfl, rfl, rfl, rfl, rfl, rfl, trivial⟩
     ·refine Mv 3 E3 <| Ym 4 E4 <| Pf 5 E4 <| Ef 6 E2 (Zc E2 ce111 Tk2 (fun F' hle hr => need_spec F' (t := t1) (bad := bad) (r := r7) false)) ?_
      rintro _ _ ⟨_, ⟨rfl, rfl⟩, rfl⟩
      exact J.app <| Sq.nil <| J.envJ (J.keep Tk7 (hu40 ((bad || !false)) (by rw [decide_eq_false c100, c97]; rfl))) ⟨rfl, rfl, rfl, rfl, rfl, rfl, rfl, trivial⟩
 ·intro ku2 hu2
  refine Run.regionM (M := [0, 0, 0, 0, 8, 24, 56, 120, 0, 256, 768, 1792, 4088, 0, 8192, 24576, 57344, 131064, 262137, 524281, 1048569, 2097145, 4194299, 8388603, 16777211, 33554427, 67108863, 134217727, 268435455, 536870911]) (q := 501084031) (r := 67648) mixedT Kr ?_
  refine Dp 0 E2 (Zm E2) <| Dp 1 E2 (Zm E2) <| Dp 2 E2 (Zm E2) <| Dp 3 E2 (Zm E2) <| Dp 4 E2 (Zn E2) <| Dp 5 E2 (Za E2 f185_0) <| Dr 6 E2 (Z1 E2 g175 (PacketPiece.sub_reader _)) ?_
  refine Dp 8 E2 (Zm E2) <| Dp 9 E2 (Zn E2) <| Dp 10 E2 (Za E2 f185_0) <| Dr 11 E2 (Z1 E2 g175 (PacketPiece.sub_reader _)) ?_
  refine Dp 13 E2 (Zm E2) <| Dp 14 E2 (Zn E2) <| Dp 15 E2 (Za E2 f185_0) <| Dr 16 E2 (Z1 E2 g175 (PacketPiece.sub_reader _)) ?_
  refine De 7 <| Om [16, 11] rfl rfl (Zc E2 ce72 Tk1 (fun F' hle hr => u16_spec F' (r := r4))) ?_
  rintro _ _ ⟨_, ⟨rfl, rfl⟩, rfl⟩
  refine ⟨?_, ?_⟩
  ·rw [FM, FM]
   refine ⟨?_, ?_, NO⟩
   ·refine Look.app ?_
    exact Lk E3 (Z1 E2 g175 (PacketPiece.sub_reader _))
   ·refine Look.app ?_
    exact Lk E3 (Z1 E2 g175 (PacketPiece.sub_reader _))
  refine ?_
  refine J.app <| De 12 <| Om [16] rfl rfl (Zc E2 ce72 Tk1 (fun F' hle hr => u16_spec F' (r := (rdTake r4 2).2))) ?_
  rintro _ _ ⟨_, ⟨rfl, rfl⟩, rfl⟩
  refine ⟨?_, ?_⟩
  ·rw [FM]
   refine ⟨?_, NO⟩
   ·refine Look.app ?_
    exact Lk E3 (Z1 E2 g175 (PacketPiece.sub_reader _))
  refine ?_
  refine J.app <| De 17 <| Om [] rfl rfl (Zc E2 ce72 Tk1 (fun F' hle hr => u16_spec F' (r := (rdTake (rdTake r4 2).2 2).2))) ?_
  rintro _ _ ⟨_, ⟨rfl, rfl⟩, rfl⟩
  refine N0 <| J.app ?_
  rw [hr7]
  refine Dp 18 E2 (Zn E2) <| Dp 19 E2 (Za E2 f185_1) <| Dp 20 E2 (Za E2 f49_2) <| De 21 <| Oa [] rfl (EF.store rfl rfl rfl z40 ((PacketPiece.set_tlv _ _).trans (PacketPiece.sub_tlv _) (Tlv.set_interval _ _)) (cell_one rfl)) ?_
  rintro _ _ rfl
  refine N0 <| Dp 22 E2 (Zn E2) <| Dp 23 E2 (Za E2 f185_1) <| Dp 24 E2 (Za E2 f49_3) <| De 25 <| Oa [] rfl (EF.store rfl rfl rfl z40 ((PacketPiece.set_tlv _ _).trans (PacketPiece.sub_tlv _) (Tlv.set_seqno _ _)) (cell_one rfl)) ?_
  rintro _ _ rfl
  refine N0 <| Dp 26 E2 (Zn E2) <| Dp 27 E2 (Za E2 f185_1) <| Dp 28 E2 (Za E2 f49_5) <| De 29 <| Oa [] rfl (EF.store rfl rfl rfl z40 ((PacketPiece.set_tlv _ _).trans (PacketPiece.sub_tlv _) (Tlv.set_metric _ _)) (cell_one rfl)) ?_
  rintro _ _ rfl
  exact N0 <| Dn <| J.envJ (J.keep Tk6 (hu2 (updT t r4) (rfl))) ⟨rfl, rfl, rfl, rfl, rfl, rfl, trivial⟩
end Slb
