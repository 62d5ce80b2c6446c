/- Q10: a part of the proof that a law of this package holds for every input; no condition. -/
import Derived.Test.YtmolpkkkndopcaaM2
import Derived.Test.YtmolpkkkndopcaaQ9
namespace Slb
open Go Go.Proofs
set_option maxRecDepth 20000
def and8i (m n : Int) : Int := ((BitVec.ofInt 8 m &&& BitVec.ofInt 8 n).toNat : Int)
theorem wrap8_bv (b : BitVec 8) : IntKind.u8.wrap (b.toNat : Int) = (b.toNat : Int) := by
  have h3 := b.isLt
  generalize b.toNat = k at h3 ⊢
  exact wrap_u8 (by omega) (by omega)
theorem bits_and8 (a b : Int) : Op.intBits .and .u8 a b = pure (.int .u8 (and8i a b)) := by
  have h : IntKind.u8.wrap ((BitVec.ofInt 8 a &&& BitVec.ofInt 8 b).toNat : Int) = and8i a b := wrap8_bv _
  unfold Op.intBits
  exact congrArg (fun n => (pure (Value.int .u8 n) : Sem Value)) h
section
variable {P : Program} {N : Nat} {G : Env} {S : List HProp} {F : Fr} {o : Oper} {t t' : TypeId} {x y : Operand}
theorem QP.and8i {m n : Int} (ho : o.op = .binOp .and t x y t') (hx : opv G x = some (.int .u8 m)) (hy : opv G y = some (.int .u8 n)) : QP P N G S F o (.int .u8 (and8i m n)) := fun ac w s w' => by
  unfold execOp
  simp [ho, s.eval hx, s.eval hy, eqGuard_at_int, binOp, bits_and8]
end
/-- A part of an array within a block, as bytes to copy. -/
theorem RowsAt.arrAt {S : List HProp} {F : Fr} {b n i k c off : Nat} {x : Bs n} {l : List Value} {ty : TypeId} (h : blk b l ty ∈ S) (hs : SubL l off n x.enc) (hik : i + k ≤ n) : RowsAt S F (.slice (slOff (some ⟨b, off, none⟩) n i 1) k c) ((x.l.drop i).take k).length 1 (bytesV ((x.l.drop i).take k)) := by
  have hx := x.h
  have hlen : ((x.l.drop i).take k).length = k := by rw [List.length_take, List.length_drop]; omega
  rw [hlen]
  refine ⟨by rw [bytesV_length, hlen, Nat.mul_one], .inr ?_⟩
  have hsub : SubL x.enc i k (bytesV ((x.l.drop i).take k)) := by
    refine ⟨bytesV (x.l.take i), bytesV ((x.l.drop i).drop k), ?_, by rw [bytesV_length, List.length_take]; omega, by rw [bytesV_length, hlen]⟩
    unfold Bs.enc bytesV
    rw [← List.map_append, ← List.map_append, List.append_assoc, List.take_append_drop, List.take_append_drop]
  by_cases hn : n = i
  · refine ⟨b, off, c, by unfold slOff; rw [if_pos hn], fun w s => ⟨l, ty, (0, 0), s.mem h, ?_⟩⟩
    have hk : k = 0 := by omega
    subst hk
    have := hs.trans (SubL.trans (SubL.all x.enc |> fun q => by rwa [x.len] at q) (show SubL x.enc 0 0 [] from ⟨[], x.enc, by simp, rfl, rfl⟩))
    simpa [bytesV] using this
  · exact ⟨b, off + i, c, by unfold slOff; rw [if_neg hn]; simp [add_lit], fun w s => ⟨l, ty, (0, 0), s.mem h, by rw [Nat.mul_one]; exact hs.trans hsub⟩⟩
theorem RowsAt.lit {S : List HProp} {F : Fr} {b c : Nat} {ys : List UInt8} {ty : TypeId} (h : blk b (bytesV ys) ty ∈ S) : RowsAt S F (.slice (some ⟨b, 0, none⟩) ys.length c) ys.length 1 (bytesV ys) := by
  refine ⟨by rw [bytesV_length, Nat.mul_one], .inr ⟨b, 0, c, rfl, fun w s => ⟨_, ty, (0, 0), s.mem h, ?_⟩⟩⟩
  have := SubL.all (bytesV ys)
  rw [bytesV_length] at this
  rwa [Nat.mul_one]
def idOf (ae : Int) (a : Bs 16) : Bs 8 := if ae = 1 then ((Bs.zero 8).patch 0 ((a.l.drop 8).take 8)).patch 0 [0, 0, 0, 0] else (Bs.zero 8).patch 0 ((a.l.drop 8).take 8)
def updX (x : PrS) (ae fl : Int) (p : Prefix) : PrS :=
  { id := if and8i fl 64 ≠ 0 then some (idOf ae p.a) else x.id, hops := x.hops, bases := if and8i fl 128 ≠ 0 then aset x.bases (n8 ae) p.a else x.bases }
def updH (x : PrS) (pr : Pair × Rs × Bool) (p : Prefix) (t : Tlv) : Tlv × Rs × Bool :=
  if t.metric = 65535 then ({ t with pair := pr.1 }, pr.2.1, pr.2.2) else
  if soundB (pr.2.2 || !((alook x.hops (n64 (pfamilyB p))).isSome && (match x.id with | none => false | some i => namedB i))) pr.2.1 = true
  then ({ t with pair := pr.1, id_ := x.id.getD (Bs.zero 8), addr := (alook x.hops (n64 (pfamilyB p))).getD (Bs.zero 16) }, pr.2.1, pr.2.2 || !((alook x.hops (n64 (pfamilyB p))).isSome && (match x.id with | none => false | some i => namedB i)))
  else ({ t with pair := pr.1 }, pr.2.1, pr.2.2 || !((alook x.hops (n64 (pfamilyB p))).isSome && (match x.id with | none => false | some i => namedB i)))
def updG (x : PrS) (ae fl plen om : Int) (t : Tlv) (r : Rs) (bad : Bool) : (Tlv × Rs × Bool) × PrS :=
  if ae = 0 then
    if plen = 0 ∧ om = 0 ∧ t.metric = 65535 then (({ t with all := true }, (subsF [128] bad r).2.1, (subsF [128] bad r).2.2 || !decide ((subsF [128] bad r).1 = [])), x)
    else (({ t with all := true }, r, true), x)
  else
    let pf := prefF ae plen om ((alook x.bases (n8 ae)).getD (Bs.zero 16)) r (bad || !(decide (om = 0) || (alook x.bases (n8 ae)).isSome))
    if soundB pf.2.2 pf.2.1 = false then ((t, pf.2.1, pf.2.2), x)
    else (updH (updX x ae fl pf.1) (pairF ae pf.1 pf.2.2 pf.2.1) pf.1 t, updX x ae fl pf.1)
def updT (t : Tlv) (r4 : Rs) : Tlv := { t with interval := u16F r4, seqno := u16F (rdTake r4 2).2, metric := u16F (rdTake (rdTake r4 2).2 2).2 }
def updF (x : PrS) (t : Tlv) (r : Rs) (bad : Bool) : (Tlv × Rs × Bool) × PrS :=
  let r1 := (rdTake r 1).2
  let r2 := (rdTake r1 1).2
  let r3 := (rdTake r2 1).2
  let r4 := (rdTake r3 1).2
  updG x (u8F r) (u8F r1) (u8F r2) (u8F r3) (updT t r4) (rdTake (rdTake (rdTake r4 2).2 2).2 2).2 bad

set_option maxHeartbeats 6000000 in
theorem update_spec (F : Fr) {xb hm bm : Nat} {idp : Option Addr} (x : PrS) {b rb : Nat} {t : Tlv} {bad : Bool} {r : Rs} (hrl : r.l.length ≤ 1000000)  : Spec Try.prog 39 #[fp xb, fp b] [blk b (PacketPiece.enc ⟨some ⟨rb, 0, none⟩, t, bad⟩) 100, RdA rb r, blk xb (PacketParser.enc ⟨⟨idp, some hm, some bm⟩⟩) 64, mapH hm x.hops, mapB bm x.bases, idA idp x.id] F (fun v S => ∃ idp2, v = .tuple #[] ∧ S = [blk b (PacketPiece.enc ⟨some ⟨rb, 0, none⟩, (updF x t r bad).1.1, (updF x t r bad).1.2.2⟩) 100, RdA rb (updF x t r bad).1.2.1, blk xb (PacketParser.enc ⟨⟨idp2, some hm, some bm⟩⟩) 64, mapH hm (updF x t r bad).2.hops, mapB bm (updF x t r bad).2.bases, idA idp2 (updF x t r bad).2.id]) := by
 obtain ⟨r1, hr1⟩ : ∃ q, (rdTake r 1).2 = q := ⟨_, rfl⟩
 obtain ⟨r2, hr2⟩ : ∃ q, (rdTake r1 1).2 = q := ⟨_, rfl⟩
 obtain ⟨r3, hr3⟩ : ∃ q, (rdTake r2 1).2 = q := ⟨_, rfl⟩
 obtain ⟨r4, hr4⟩ : ∃ q, (rdTake r3 1).2 = q := ⟨_, rfl⟩
 obtain ⟨ae, hae⟩ : ∃ q, u8F r = q := ⟨_, rfl⟩
 obtain ⟨fl, hfl⟩ : ∃ q, u8F r1 = q := ⟨_, rfl⟩
 obtain ⟨plen, hpl⟩ : ∃ q, u8F r2 = q := ⟨_, rfl⟩
 obtain ⟨om, hom⟩ : ∃ q, u8F r3 = q := ⟨_, rfl⟩
 obtain ⟨r7, hr7⟩ : ∃ q, (rdTake (rdTake (rdTake r4 2).2 2).2 2).2 = q := ⟨_, rfl⟩
 have haer := u8_range r
 rw [hae] at haer
 have hplr := u8_range r2
 rw [hpl] at hplr
 have homr := u8_range r3
 rw [hom] at homr
 have hae8 : 0 ≤ ae ∧ ae ≤ 255 := by omega
 have hr7l : r7.l.length ≤ 1000000 := by rw [← hr7, ← hr4, ← hr3, ← hr2, ← hr1]; exact take_few _ (take_few _ (take_few _ (take_few _ (take_few _ (take_few _ (take_few _ hrl))))))
 refine Spec.intro (N := 215) (args := [fp xb, fp b]) Try.func39 rfl rfl (by simp) ?_
 refine Run.seq fun k1 hk1 => Run.regionM (M := [0, 1, 3, 7, 15, 0, 32, 96, 224, 511, 0, 1024, 3072, 7168, 16383, 0, 32768, 98304, 229376, 524287, 1048575, 2097151, 4194303, 8388607]) (q := 507375) (r := 270600) mixedT Kr ?_
 refine Dp 0 rfl rfl (QP.move rfl rfl) <| Dp 1 rfl rfl (QP.nilCheck rfl rfl) <| Dp 2 rfl rfl (QP.fieldAddr rfl rfl f100_0) <| Dr 3 rfl rfl (QR.load1 rfl rfl g90 (PacketPiece.sub_reader _)) ?_
 refine Dp 5 rfl rfl (QP.move rfl rfl) <| Dp 6 rfl rfl (QP.nilCheck rfl rfl) <| Dp 7 rfl rfl (QP.fieldAddr rfl rfl f100_0) <| Dr 8 rfl rfl (QR.load1 rfl rfl g90 (PacketPiece.sub_reader _)) ?_
 refine Dp 10 rfl rfl (QP.move rfl rfl) <| Dp 11 rfl rfl (QP.nilCheck rfl rfl) <| Dp 12 rfl rfl (QP.fieldAddr rfl rfl f100_0) <| Dr 13 rfl rfl (QR.load1 rfl rfl g90 (PacketPiece.sub_reader _)) ?_
 refine Dp 15 rfl rfl (QP.move rfl rfl) <| Dp 16 rfl rfl (QP.nilCheck rfl rfl) <| Dp 17 rfl rfl (QP.fieldAddr rfl rfl f100_0) <| Dr 18 rfl rfl (QR.load1 rfl rfl g90 (PacketPiece.sub_reader _)) ?_
 refine De 4 <| Om [18, 13, 8] rfl rfl (EF.call rfl ce30 rfl Tk1 (fun F' hle hr => u8_spec F' (r := r))) ?_
 rintro _ _ ⟨_, ⟨rfl, rfl⟩, rfl⟩
 refine ⟨?_, ?_⟩
 ·rw [List.forall_mem_cons, List.forall_mem_cons, List.forall_mem_cons]
  refine ⟨?_, ?_, ?_, fun _ h => (by cases h)⟩
  ·refine Look.app ?_
   exact Look.mk rfl rfl rfl (QR.load1 rfl rfl g90 (PacketPiece.sub_reader _))
  ·refine Look.app ?_
   exact Look.mk rfl rfl rfl (QR.load1 rfl rfl g90 (PacketPiece.sub_reader _))
  ·refine Look.app ?_
   exact Look.mk rfl rfl rfl (QR.load1 rfl rfl g90 (PacketPiece.sub_reader _))
 refine ?_
 refine J.app ?_
 rw [hae, hr1]
 refine De 9 <| Om [18, 13] rfl rfl (EF.call rfl ce30 rfl Tk1 (fun F' hle hr => u8_spec F' (r := r1))) ?_
 rintro _ _ ⟨_, ⟨rfl, rfl⟩, rfl⟩
 refine ⟨?_, ?_⟩
 ·rw [List.forall_mem_cons, List.forall_mem_cons]
  refine ⟨?_, ?_, fun _ h => (by cases h)⟩
  ·refine Look.app ?_
   exact Look.mk rfl rfl rfl (QR.load1 rfl rfl g90 (PacketPiece.sub_reader _))
  ·refine Look.app ?_
   exact Look.mk rfl rfl rfl (QR.load1 rfl rfl g90 (PacketPiece.sub_reader _))
 refine ?_
 refine J.app ?_
 rw [hfl, hr2]
 refine De 14 <| Om [18] rfl rfl (EF.call rfl ce30 rfl Tk1 (fun F' hle hr => u8_spec F' (r := r2))) ?_
 rintro _ _ ⟨_, ⟨rfl, rfl⟩, rfl⟩
 refine ⟨?_, ?_⟩
 ·rw [List.forall_mem_cons]
  refine ⟨?_, fun _ h => (by cases h)⟩
  ·refine Look.app ?_
   exact Look.mk rfl rfl rfl (QR.load1 rfl rfl g90 (PacketPiece.sub_reader _))
 refine ?_
 refine J.app ?_
 rw [hpl, hr3]
 refine De 19 <| Om [] rfl rfl (EF.call rfl ce30 rfl Tk1 (fun F' hle hr => u8_spec F' (r := r3))) ?_
 rintro _ _ ⟨_, ⟨rfl, rfl⟩, rfl⟩
 refine ⟨fun _ h => (by cases h), ?_⟩
 refine J.app ?_
 rw [hom, hr4]
 refine De 20 <| Om [] rfl rfl ((QP.assign rfl rfl).eff) ?_
 rintro _ _ ⟨rfl, rfl⟩
 refine ⟨fun _ h => (by cases h), ?_⟩
 refine De 21 <| Om [] rfl rfl ((QP.assign rfl rfl).eff) ?_
 rintro _ _ ⟨rfl, rfl⟩
 refine ⟨fun _ h => (by cases h), ?_⟩
 refine De 22 <| Om [] rfl rfl ((QP.assign rfl rfl).eff) ?_
 rintro _ _ ⟨rfl, rfl⟩
 refine ⟨fun _ h => (by cases h), ?_⟩
 refine De 23 <| Om [] rfl rfl ((QP.assign rfl rfl).eff) ?_
 rintro _ _ ⟨rfl, rfl⟩
 refine ⟨fun _ h => (by cases h), ?_⟩
 refine Dn <| hk1 _ _ <| Run.cut1 (fun (t1 : Tlv) => t1 = updT t r4) (fun t1 => .cons 0 (fp xb) (.cons 1 (fp b) (.cons 4 (.int .u8 ae) (.cons 5 (.int .u8 fl) (.cons 6 (.int .u8 plen) (.cons 7 (.int .u8 om) (.nil))))))) (fun t1 => [blk b (PacketPiece.enc ⟨some ⟨rb, 0, none⟩, t1, bad⟩) 100, RdA rb r7, blk xb (PacketParser.enc ⟨⟨idp, some hm, some bm⟩⟩) 64, mapH hm x.hops, mapB bm x.bases, idA idp x.id]) ?_ ?_
 ·rintro t1 ht1
  refine Run.seq fun k3 hk3 => Run.seq fun k4 hk4 => Run.region ?_
  show Sq _ _ _ [0, 1] _ _ _ _
  refine Mv 0 rfl rfl rfl <| Qp 1 rfl rfl (QP.eql rfl rfl rfl) <| J.caseD (fun c60 => ?_) (fun c60 => ?_)
  ·refine Sq.nil <| hk4 _ _ <| Run.cond_t rfl <| Run.seq fun k5 hk5 => Run.region ?_
   show Sq _ _ _ [0, 1, 2, 3, 4] _ _ _ _
   refine Mv 0 rfl rfl rfl <| Qp 1 rfl rfl (QP.nilCheck rfl rfl) <| Fa 2 rfl rfl rfl f100_1 <| Fa 3 rfl rfl rfl f46_8 <| Ac 4 rfl (EF.store rfl rfl rfl z4 ((PacketPiece.set_tlv _ _).trans (PacketPiece.sub_tlv _) (Tlv.set_all _ _)) (cell_one rfl)) ?_
   rintro _ _ rfl
   refine Sq.nil <| hk5 _ _ <| Run.seq fun k6 hk6 => Run.region ?_
   show Sq _ _ _ [0, 1, 2, 3, 4, 5, 6, 7, 8, 9, 10, 11, 12, 13, 14, 15, 16, 17, 18, 19, 20, 21, 22] _ _ _ _
   refine Mv 0 rfl rfl rfl <| Mv 1 rfl rfl rfl <| Qp 2 rfl rfl (QP.eql rfl rfl rfl) <| J.caseD (fun c67 => ?_) (fun c67 => ?_)
   ·refine Mv 3 rfl rfl rfl <| Ym 4 rfl rfl rfl rfl <| Yp 5 rfl rfl rfl (QP.eql rfl rfl rfl) <| J.caseD (fun c70 => ?_) (fun c70 => ?_)
    ·refine Pt 6 rfl rfl rfl rfl <| Mv 7 rfl rfl rfl <| Ym 8 rfl rfl rfl rfl <| Yp 9 rfl rfl rfl (QP.nilCheck rfl rfl) <| Yf 10 rfl rfl rfl rfl f100_1 <| Yf 11 rfl rfl rfl rfl f46_5 <| Yq 12 rfl rfl rfl (QR.load1 rfl rfl g37 ((PacketPiece.sub_tlv _).trans (Tlv.sub_metric _))) ?_
     refine Yp 13 rfl rfl rfl (QP.eql rfl rfl rfl) <| J.caseD (fun c78 => ?_) (fun c78 => ?_)
     ·refine Pt 14 rfl rfl rfl rfl <| Mv 15 rfl rfl rfl <| Ym 16 rfl rfl rfl rfl <| Ye 17 rfl rfl rfl (EF.buildSliceS rfl Try.underlying34 z5 zero5 rfl (by decide) rfl rfl rfl rfl) ?_
      rintro _ _ ⟨b82, rfl, rfl⟩
      refine Ye 18 rfl rfl rfl (EF.call rfl ce36 rfl Tk2 (fun F' hle hr => subs_spec F' (t := { t1 with all := true }) (bad := bad) (r := r7) (ts := [128]) (by simp) (argSl_all (enc := bytE) (xs := [128]) (fun _ => rfl) (hr b82 _ Rc)) hr7l)) ?_
      rintro v83 _ ⟨_, ⟨rs, rfl, hrs, hrn, hrf⟩, rfl⟩
      refine J.app ?_
      generalize hsb : subsF [128] bad r7 = sb at hrs ⊢
      refine Sq.slCase (v := v83) (xs := rs) Rc (fun a83 c83 hv83 hh83 => ?_)
      subst hv83
      refine Yp 19 rfl rfl rfl (QP.len rfl rfl rfl Try.underlying65) <| Yp 20 rfl rfl rfl (QP.eql rfl rfl rfl) <| Pt 21 rfl rfl rfl rfl <| Ef 22 rfl rfl (EF.call rfl ce62 rfl Tk2 (fun F' hle hr => need_spec F' (t := { t1 with all := true }) (bad := sb.2.2) (r := sb.2.1) (decide ((rs.length : Int) = 0)))) ?_
      rintro _ _ ⟨_, ⟨rfl, rfl⟩, rfl⟩
      refine J.app ?_
      refine Sq.nil <| hk6 _ _ <| Run.ret ?_
      have hF : updF x t r bad = (updG x ae fl plen om t1 r7 bad) := by unfold updF; simp only [hr1, hr2, hr3, hr4, hae, hfl, hpl, hom, hr7, ← ht1]
      have hG : (updG x ae fl plen om t1 r7 bad) = (({ t1 with all := true }, sb.2.1, sb.2.2 || !(decide ((rs.length : Int) = 0))), x) := by unfold updG; rw [if_pos c60, if_pos ⟨c67, c70, c78⟩, hsb, show decide (sb.1 = []) = decide ((rs.length : Int) = 0) from decide_eq_decide.2 (by rw [← hrs, List.map_eq_nil_iff, ← List.length_eq_zero_iff]; omega)]
      rw [hF, hG]
      exact J.ends (res_none rfl) Tk6 ⟨idp, rfl, rfl⟩
     ·refine Pt 14 rfl rfl rfl rfl <| Mv 15 rfl rfl rfl <| Sk 16 rfl rfl rfl <| Sk 17 rfl rfl rfl <| Sk 18 rfl rfl rfl <| Sk 19 rfl rfl rfl <| Sk 20 rfl rfl rfl <| Pf 21 rfl rfl rfl rfl <| Ef 22 rfl rfl (EF.call rfl ce62 rfl Tk2 (fun F' hle hr => need_spec F' (t := { t1 with all := true }) (bad := bad) (r := r7) false)) ?_
      rintro _ _ ⟨_, ⟨rfl, rfl⟩, rfl⟩
      refine J.app ?_
      refine Sq.nil <| hk6 _ _ <| Run.ret ?_
      have hF : updF x t r bad = (updG x ae fl plen om t1 r7 bad) := by unfold updF; simp only [hr1, hr2, hr3, hr4, hae, hfl, hpl, hom, hr7, ← ht1]
      have hG : (updG x ae fl plen om t1 r7 bad) = (({ t1 with all := true }, r7, bad || !false), x) := by unfold updG; rw [if_pos c60, if_neg (fun h => c78 h.2.2)]; simp
      rw [hF, hG]
      exact J.ends (res_none rfl) Tk6 ⟨idp, rfl, rfl⟩
    ·refine Pt 6 rfl rfl rfl rfl <| Mv 7 rfl rfl rfl <| Sk 8 rfl rfl rfl <| Sk 9 rfl rfl rfl <| Sk 10 rfl rfl rfl <| Sk 11 rfl rfl rfl <| Sk 12 rfl rfl rfl <| Sk 13 rfl rfl rfl <| Pf 14 rfl rfl rfl rfl <| Mv 15 rfl rfl rfl <| Sk 16 rfl rfl rfl <| Sk 17 rfl rfl rfl <| Sk 18 rfl rfl rfl <| Sk 19 rfl rfl rfl <| Sk 20 rfl rfl rfl <| Pf 21 rfl rfl rfl rfl <| Ef 22 rfl rfl (EF.call rfl ce62 rfl Tk2 (fun F' hle hr => need_spec F' (t := { t1 with all := true }) (bad := bad) (r := r7) false)) ?_
     rintro _ _ ⟨_, ⟨rfl, rfl⟩, rfl⟩
     refine J.app ?_
     refine Sq.nil <| hk6 _ _ <| Run.ret ?_
     have hF : updF x t r bad = (updG x ae fl plen om t1 r7 bad) := by unfold updF; simp only [hr1, hr2, hr3, hr4, hae, hfl, hpl, hom, hr7, ← ht1]
     have hG : (updG x ae fl plen om t1 r7 bad) = (({ t1 with all := true }, r7, bad || !false), x) := by unfold updG; rw [if_pos c60, if_neg (fun h => c70 h.2.1)]; simp
     rw [hF, hG]
     exact J.ends (res_none rfl) Tk6 ⟨idp, rfl, rfl⟩
   ·refine Mv 3 rfl rfl rfl <| Sk 4 rfl rfl rfl <| Sk 5 rfl rfl rfl <| Pf 6 rfl rfl rfl rfl <| Mv 7 rfl rfl rfl <| Sk 8 rfl rfl rfl <| Sk 9 rfl rfl rfl <| Sk 10 rfl rfl rfl <| Sk 11 rfl rfl rfl <| Sk 12 rfl rfl rfl <| Sk 13 rfl rfl rfl <| Pf 14 rfl rfl rfl rfl <| Mv 15 rfl rfl rfl <| Sk 16 rfl rfl rfl <| Sk 17 rfl rfl rfl <| Sk 18 rfl rfl rfl <| Sk 19 rfl rfl rfl <| Sk 20 rfl rfl rfl <| Pf 21 rfl rfl rfl rfl <| Ef 22 rfl rfl (EF.call rfl ce62 rfl Tk2 (fun F' hle hr => need_spec F' (t := { t1 with all := true }) (bad := bad) (r := r7) false)) ?_
    rintro _ _ ⟨_, ⟨rfl, rfl⟩, rfl⟩
    refine J.app ?_
    refine Sq.nil <| hk6 _ _ <| Run.ret ?_
    have hF : updF x t r bad = (updG x ae fl plen om t1 r7 bad) := by unfold updF; simp only [hr1, hr2, hr3, hr4, hae, hfl, hpl, hom, hr7, ← ht1]
    have hG : (updG x ae fl plen om t1 r7 bad) = (({ t1 with all := true }, r7, bad || !false), x) := by unfold updG; rw [if_pos c60, if_neg (fun h => c67 h.1)]; simp
    rw [hF, hG]
    exact J.ends (res_none rfl) Tk6 ⟨idp, rfl, rfl⟩
  ·refine Sq.nil <| hk4 _ _ <| Run.cond_f rfl <| Run.skip <| hk3 _ _ <| Run.seq fun k7 hk7 => Run.region ?_
   show Sq _ _ _ [0, 1, 2, 3, 4, 5, 6, 7, 8, 9, 10, 11, 12] _ _ _ _
   refine Mv 0 rfl rfl rfl <| Qp 1 rfl rfl (QP.nilCheck rfl rfl) <| Fa 2 rfl rfl rfl f64_0 <| Fa 3 rfl rfl rfl f62_2 <| Qq 4 rfl rfl (QR.load1 rfl rfl g59 ((PacketParser.sub_known _).trans (PacketKnown.sub_bases _))) ?_
   refine Mv 5 rfl rfl rfl <| Qq 6 rfl rfl (QR.lookup2V (k := (⟨ae, hae8⟩ : N8)) keyB rfl rfl rfl Try.underlying59 (z := Bs.zero 16) zero23) ?_
   refine Mv 7 rfl rfl rfl <| Qp 8 rfl rfl (QP.extract rfl rfl rfl) <| Qp 9 rfl rfl (QP.extract rfl rfl rfl) <| J.caseB (fun c97 => ?_) (fun c97 => ?_)
   ·refine Ef 10 rfl rfl (EF.allocA (l := (Bs.zero 16).enc) rfl zero23) ?_
    rintro _ _ ⟨b8, rfl, rfl⟩
    refine Ac 11 rfl (EF.storeA rfl rfl rfl z23 (SetL.all (Bs.len _) (Bs.len _)) (Bs.cell _)) ?_
    rintro _ _ rfl
    refine Sg 12 rfl rfl rfl <| Sq.nil <| hk7 _ _ <| Run.cut1 (fun (bad1 : Bool) => bad1 = (bad || !(decide (om = 0) || (alook x.bases (⟨ae, hae8⟩ : N8)).isSome))) (fun bad1 => .cons 0 (fp xb) (.cons 1 (fp b) (.cons 4 (.int .u8 ae) (.cons 5 (.int .u8 fl) (.cons 6 (.int .u8 plen) (.cons 7 (.int .u8 om) (.cons 8 (fp b8) (.nil)))))))) (fun bad1 => [blk b (PacketPiece.enc ⟨some ⟨rb, 0, none⟩, t1, bad1⟩) 100, RdA rb r7, blk xb (PacketParser.enc ⟨⟨idp, some hm, some bm⟩⟩) 64, mapH hm x.hops, mapB bm x.bases, idA idp x.id, blk b8 (Bs.enc ((alook x.bases (⟨ae, hae8⟩ : N8)).getD (Bs.zero 16))) 23]) ?_ ?_
    ·rintro bad1 hbad1
     refine Run.seq fun k9 hk9 => Run.region ?_
     show Sq _ _ _ [0, 1, 2, 3, 4, 5, 6, 7] _ _ _ _
     refine Mv 0 rfl rfl rfl <| Mv 1 rfl rfl rfl <| Mv 2 rfl rfl rfl <| Mv 3 rfl rfl rfl <| Qq 4 rfl rfl (QR.load rfl rfl g23 (Bs.sub _)) ?_
     refine Ef 5 rfl rfl (EF.call rfl ce65 rfl Tk2 (fun F' hle hr => prefix_spec F' (t := t1) (bad := bad1) (r := r7) ae plen om ((alook x.bases (⟨ae, hae8⟩ : N8)).getD (Bs.zero 16)) hplr homr)) ?_
     rintro _ _ ⟨_, ⟨rfl, rfl⟩, rfl⟩
     refine J.app ?_
     have hPl := pref_few (ae := ae) (plen := plen) (om := om) (base := ((alook x.bases (⟨ae, hae8⟩ : N8)).getD (Bs.zero 16))) (bad := bad1) hr7l
     generalize hPF : prefF ae plen om ((alook x.bases (⟨ae, hae8⟩ : N8)).getD (Bs.zero 16)) r7 bad1 = PF at hPl ⊢
     refine Ef 6 rfl rfl (EF.allocA (l := Prefix.enc Prefix.zero) rfl zero41) ?_
     rintro _ _ ⟨b10, rfl, rfl⟩
     refine Ac 7 rfl (EF.storeA rfl rfl rfl z41 (SetL.all (Prefix.enc_len _) (Prefix.enc_len _)) (Prefix.enc_cell _)) ?_
     rintro _ _ rfl
     refine Sq.nil <| hk9 _ _ <| Run.seq fun k10 hk10 => Run.seq fun k11 hk11 => Run.region ?_
     show Sq _ _ _ [0, 1, 2] _ _ _ _
     refine Mv 0 rfl rfl rfl <| Ef 1 rfl rfl (EF.call rfl ce42 rfl Tk2 (fun F' hle hr => sound_spec F' (t := t1) (bad := PF.2.2) (r := PF.2.1))) ?_
     rintro _ _ ⟨_, ⟨rfl, rfl⟩, rfl⟩
     refine J.app ?_
     refine J.caseB (fun c112 => ?_) (fun c112 => ?_)
     ·refine Qp 2 rfl rfl (QP.not rfl rfl) <| Sq.nil <| hk11 _ _ <| Run.cond_f rfl <| Run.skip <| hk10 _ _ <| Run.cut1 (fun (bs2 : List (N8 × Bs 16)) => bs2 = (if and8i fl 128 ≠ 0 then aset x.bases (⟨ae, hae8⟩ : N8) PF.1.a else x.bases)) (fun bs2 => .cons 0 (fp xb) (.cons 1 (fp b) (.cons 4 (.int .u8 ae) (.cons 5 (.int .u8 fl) (.cons 10 (fp b10) (.nil)))))) (fun bs2 => [blk b (PacketPiece.enc ⟨some ⟨rb, 0, none⟩, t1, PF.2.2⟩) 100, RdA rb PF.2.1, blk xb (PacketParser.enc ⟨⟨idp, some hm, some bm⟩⟩) 64, mapH hm x.hops, mapB bm bs2, idA idp x.id, blk b10 (Prefix.enc PF.1) 41]) ?_ ?_
      ·rintro bs2 hbs2
       refine Run.cut2 (fun (idp2 : Option Addr) (id2 : Option (Bs 8)) => id2 = (if and8i fl 64 ≠ 0 then some (idOf ae PF.1.a) else x.id)) (fun idp2 id2 => .cons 0 (fp xb) (.cons 1 (fp b) (.cons 4 (.int .u8 ae) (.cons 10 (fp b10) (.nil))))) (fun idp2 id2 => [blk b (PacketPiece.enc ⟨some ⟨rb, 0, none⟩, t1, PF.2.2⟩) 100, RdA rb PF.2.1, blk xb (PacketParser.enc ⟨⟨idp2, some hm, some bm⟩⟩) 64, mapH hm x.hops, mapB bm bs2, idA idp2 id2, blk b10 (Prefix.enc PF.1) 41]) ?_ ?_
       ·rintro idp2 id2 hid2
        refine Run.seq fun k14 hk14 => Run.region ?_
        show Sq _ _ _ [0, 1, 2, 3] _ _ _ _
        refine Mv 0 rfl rfl rfl <| Mv 1 rfl rfl rfl <| Qq 2 rfl rfl (QR.load rfl rfl g41 (Prefix.enc_sub _)) ?_
        refine Ef 3 rfl rfl (EF.call rfl ce66 rfl Tk2 (fun F' hle hr => pair_spec F' (t := t1) (bad := PF.2.2) (r := PF.2.1) ae PF.1 haer hPl)) ?_
        rintro _ _ ⟨_, ⟨rfl, rfl⟩, rfl⟩
        refine J.app ?_
        generalize hPR : pairF ae PF.1 PF.2.2 PF.2.1 = PR
        refine Sq.nil <| hk14 _ _ <| Run.seq fun k15 hk15 => Run.seq fun k16 hk16 => Run.region ?_
        show Sq _ _ _ [0, 1, 2, 3, 4, 5] _ _ _ _
        refine Mv 0 rfl rfl rfl ?_
        rcases hid : id2 with _ | iv
        ·refine Qp 1 rfl rfl (QP.nilCheck rfl rfl) <| Fa 2 rfl rfl rfl f100_1 <| Fa 3 rfl rfl rfl f46_5 <| Qq 4 rfl rfl (QR.load1 rfl rfl g37 ((PacketPiece.sub_tlv _).trans (Tlv.sub_metric _))) ?_
         refine Qp 5 rfl rfl (QP.eql rfl rfl rfl) <| J.caseD (fun c164 => ?_) (fun c164 => ?_)
         ·refine Sq.nil <| hk16 _ _ <| Run.cond_t rfl <| Run.ret ?_
          have hF : updF x t r bad = (updG x ae fl plen om t1 r7 bad) := by unfold updF; simp only [hr1, hr2, hr3, hr4, hae, hfl, hpl, hom, hr7, ← ht1]
          have hX : updX x ae fl PF.1 = (⟨none, x.hops, bs2⟩ : PrS) := by unfold updX; rw [← hid2, n8_eq hae8, ← hbs2, hid]
          have hU : updH (⟨none, x.hops, bs2⟩ : PrS) PR PF.1 t1 = ({ t1 with pair := PR.1 }, PR.2.1, PR.2.2) := by unfold updH; rw [if_pos c164]
          have hG : (updG x ae fl plen om t1 r7 bad) = (({ t1 with pair := PR.1 }, PR.2.1, PR.2.2), (⟨none, x.hops, bs2⟩ : PrS)) := by unfold updG; rw [if_neg c60]; simp only; rw [n8_eq hae8, ← hbad1, hPF, if_neg (by rw [c112]; simp), hPR, hX, hU]
          rw [hF, hG]
          exact J.ends (res_none rfl) Tk6 ⟨idp2, rfl, rfl⟩
         ·refine Sq.nil <| hk16 _ _ <| Run.cond_f rfl <| Run.skip <| hk15 _ _ <| Run.seq fun k17 hk17 => Run.regionM (M := [0, 1, 3, 7, 15, 0, 32, 127, 255, 511, 511, 0, 3071, 8191]) (q := 1983) (r := 176) mixedT Kr ?_
          refine J.idNone Rc (fun hip => ?_)
          subst hip
          refine Dp 0 rfl rfl (QP.move rfl rfl) <| Dp 1 rfl rfl (QP.nilCheck rfl rfl) <| Dp 2 rfl rfl (QP.fieldAddr rfl rfl f64_0) <| Dp 3 rfl rfl (QP.fieldAddr rfl rfl f62_1) <| Dr 4 rfl rfl (QR.load1 rfl rfl g58 ((PacketParser.sub_known _).trans (PacketKnown.sub_hops _))) ?_
          refine Dr 5 rfl rfl (QR.load rfl rfl g41 (Prefix.enc_sub _)) ?_
          refine Dw.effs (l := [6, 11]) Kr Kr ?_
          rw [List.forall_mem_cons, List.forall_mem_cons]
          refine ⟨?_, ?_, fun _ h => (by cases h)⟩
          ·refine Om [4] rfl rfl (EF.call rfl ce54 rfl Takes.nil (fun F' hle hr => pfamily_spec F' (PF.1))) ?_
           rintro _ _ ⟨_, ⟨rfl, rfl⟩, rfl⟩
           refine ⟨?_, ?_⟩
           ·rw [List.forall_mem_cons]
            refine ⟨?_, fun _ h => (by cases h)⟩
            ·refine Look.app ?_
             exact Look.mk rfl rfl rfl (QR.load1 rfl rfl g58 ((PacketParser.sub_known _).trans (PacketKnown.sub_hops _)))
           refine ?_
           refine J.app ?_
           refine Dr 7 rfl rfl (QR.lookup2V (k := (⟨pfamilyB PF.1, pfamily_range _⟩ : I64)) keyH rfl rfl rfl Try.underlying58 (z := Bs.zero 16) zero23) ?_
           refine Dp 8 rfl rfl (QP.move rfl rfl) <| Dp 9 rfl rfl (QP.extract rfl rfl rfl) <| Dp 10 rfl rfl (QP.extract rfl rfl rfl) <| J.caseB (fun c175 => ?_) (fun c175 => ?_)
           ·refine De 11 <| Om [7, 5, 4] rfl rfl (EF.allocA (l := (Bs.zero 16).enc) rfl zero23) ?_
            rintro _ _ ⟨b11, rfl, rfl⟩
            refine ⟨?_, ?_⟩
            ·rw [List.forall_mem_cons, List.forall_mem_cons, List.forall_mem_cons]
             refine ⟨?_, ?_, ?_, fun _ h => (by cases h)⟩
             ·exact Look.mk rfl rfl rfl (QR.lookup2V (k := (⟨pfamilyB PF.1, pfamily_range _⟩ : I64)) keyH rfl rfl rfl Try.underlying58 (z := Bs.zero 16) zero23)
             ·exact Look.mk rfl rfl rfl (QR.load rfl rfl g41 (Prefix.enc_sub _))
             ·exact Look.mk rfl rfl rfl (QR.load1 rfl rfl g58 ((PacketParser.sub_known _).trans (PacketKnown.sub_hops _)))
            refine ?_
            refine De 12 <| Oa [] rfl (EF.storeA rfl rfl rfl z23 (SetL.all (Bs.len _) (Bs.len _)) (Bs.cell _)) ?_
            rintro _ _ rfl
            refine ⟨fun _ h => (by cases h), ?_⟩
            refine De 13 <| Om [] rfl rfl ((QP.assign rfl rfl).eff) ?_
            rintro _ _ ⟨rfl, rfl⟩
            refine ⟨fun _ h => (by cases h), ?_⟩
            refine Dn <| hk17 _ _ <| Run.seq fun k18 hk18 => Run.region ?_
            show Sq _ _ _ [0, 1, 2, 3, 4, 5, 6, 7, 8, 9, 10, 11, 12, 13, 14, 15, 16, 17, 18, 19, 20] _ _ _ _
            refine Mv 0 rfl rfl rfl <| Mv 1 rfl rfl rfl <| Mv 2 rfl rfl rfl <| Ym 3 rfl rfl rfl rfl <| Yp 4 rfl rfl rfl (QP.nilCheck rfl rfl) <| Yf 5 rfl rfl rfl rfl f64_0 <| Yf 6 rfl rfl rfl rfl f62_0 <| Yq 7 rfl rfl rfl (QR.load1 rfl rfl g60 ((PacketParser.sub_known _).trans (PacketKnown.sub_id_ _))) ?_
            refine Yp 8 rfl rfl rfl (QP.ptr_ne_nil rfl rfl rfl Try.underlying60) <| Pt 9 rfl rfl rfl rfl <| Mv 10 rfl rfl rfl <| Sk 11 rfl rfl rfl <| Sk 12 rfl rfl rfl <| Sk 13 rfl rfl rfl <| Sk 14 rfl rfl rfl <| Sk 15 rfl rfl rfl <| Sk 16 rfl rfl rfl <| Sk 17 rfl rfl rfl <| Sk 18 rfl rfl rfl <| Pf 19 rfl rfl rfl rfl <| Ef 20 rfl rfl (EF.call rfl ce62 rfl Tk2 (fun F' hle hr => need_spec F' (t := { t1 with pair := PR.1 }) (bad := PR.2.2) (r := PR.2.1) false)) ?_
            rintro _ _ ⟨_, ⟨rfl, rfl⟩, rfl⟩
            refine J.app ?_
            refine Sq.nil <| hk18 _ _ <| Run.seq fun k19 hk19 => Run.region ?_
            show Sq _ _ _ [0, 1] _ _ _ _
            refine Mv 0 rfl rfl rfl <| Ef 1 rfl rfl (EF.call rfl ce42 rfl Tk2 (fun F' hle hr => sound_spec F' (t := { t1 with pair := PR.1 }) (bad := (PR.2.2 || !false)) (r := PR.2.1))) ?_
            rintro _ _ ⟨_, ⟨rfl, rfl⟩, rfl⟩
            refine J.app ?_
            refine J.caseB (fun c198 => ?_) (fun c198 => ?_)
            ·refine Sq.nil <| hk19 _ _ <| Run.cond_t rfl <| Run.regionM (M := [0, 0, 0, 4, 12, 28, 60, 124, 252, 0, 509, 1533, 3581, 7677, 16383, 32767, 65535, 131071]) (q := 122879) (r := 832) mixedT Kr ?_
             exact absurd c198 (by simp [soundB])
            ·refine Sq.nil <| hk19 _ _ <| Run.cond_f rfl <| Run.skip ?_
             have hF : updF x t r bad = (updG x ae fl plen om t1 r7 bad) := by unfold updF; simp only [hr1, hr2, hr3, hr4, hae, hfl, hpl, hom, hr7, ← ht1]
             have hX : updX x ae fl PF.1 = (⟨none, x.hops, bs2⟩ : PrS) := by unfold updX; rw [← hid2, n8_eq hae8, ← hbs2, hid]
             have hU : updH (⟨none, x.hops, bs2⟩ : PrS) PR PF.1 t1 = ({ t1 with pair := PR.1 }, PR.2.1, PR.2.2 || !false) := by unfold updH; rw [if_neg c164, n64_eq (pfamily_range _), show (alook x.hops (⟨pfamilyB PF.1, pfamily_range _⟩ : I64)).isSome = true from c175]; simp only [Bool.true_and, Bool.false_and, Bool.and_false]; rw [if_neg (by rw [c198]; simp)]
             have hG : (updG x ae fl plen om t1 r7 bad) = (({ t1 with pair := PR.1 }, PR.2.1, PR.2.2 || !false), (⟨none, x.hops, bs2⟩ : PrS)) := by unfold updG; rw [if_neg c60]; simp only; rw [n8_eq hae8, ← hbad1, hPF, if_neg (by rw [c112]; simp), hPR, hX, hU]
             refine J.addId ?_
             rw [hF, hG]
             exact J.ends (res_none rfl) Tk6 ⟨none, rfl, rfl⟩
           ·refine De 11 <| Om [7, 5, 4] rfl rfl (EF.allocA (l := (Bs.zero 16).enc) rfl zero23) ?_
            rintro _ _ ⟨b11, rfl, rfl⟩
            refine ⟨?_, ?_⟩
            ·rw [List.forall_mem_cons, List.forall_mem_cons, List.forall_mem_cons]
             refine ⟨?_, ?_, ?_, fun _ h => (by cases h)⟩
             ·exact Look.mk rfl rfl rfl (QR.lookup2V (k := (⟨pfamilyB PF.1, pfamily_range _⟩ : I64)) keyH rfl rfl rfl Try.underlying58 (z := Bs.zero 16) zero23)
             ·exact Look.mk rfl rfl rfl (QR.load rfl rfl g41 (Prefix.enc_sub _))
             ·exact Look.mk rfl rfl rfl (QR.load1 rfl rfl g58 ((PacketParser.sub_known _).trans (PacketKnown.sub_hops _)))
            refine ?_
            refine De 12 <| Oa [] rfl (EF.storeA rfl rfl rfl z23 (SetL.all (Bs.len _) (Bs.len _)) (Bs.cell _)) ?_
            rintro _ _ rfl
            refine ⟨fun _ h => (by cases h), ?_⟩
            refine De 13 <| Om [] rfl rfl ((QP.assign rfl rfl).eff) ?_
            rintro _ _ ⟨rfl, rfl⟩
            refine ⟨fun _ h => (by cases h), ?_⟩
            refine Dn <| hk17 _ _ <| Run.seq fun k20 hk20 => Run.region ?_
            show Sq _ _ _ [0, 1, 2, 3, 4, 5, 6, 7, 8, 9, 10, 11, 12, 13, 14, 15, 16, 17, 18, 19, 20] _ _ _ _
            refine Mv 0 rfl rfl rfl <| Mv 1 rfl rfl rfl <| Mv 2 rfl rfl rfl <| Sk 3 rfl rfl rfl <| Sk 4 rfl rfl rfl <| Sk 5 rfl rfl rfl <| Sk 6 rfl rfl rfl <| Sk 7 rfl rfl rfl <| Sk 8 rfl rfl rfl <| Pf 9 rfl rfl rfl rfl <| Mv 10 rfl rfl rfl <| Sk 11 rfl rfl rfl <| Sk 12 rfl rfl rfl <| Sk 13 rfl rfl rfl <| Sk 14 rfl rfl rfl <| Sk 15 rfl rfl rfl <| Sk 16 rfl rfl rfl <| Sk 17 rfl rfl rfl <| Sk 18 rfl rfl rfl <| Pf 19 rfl rfl rfl rfl <| Ef 20 rfl rfl (EF.call rfl ce62 rfl Tk2 (fun F' hle hr => need_spec F' (t := { t1 with pair := PR.1 }) (bad := PR.2.2) (r := PR.2.1) false)) ?_
            rintro _ _ ⟨_, ⟨rfl, rfl⟩, rfl⟩
            refine J.app ?_
            refine Sq.nil <| hk20 _ _ <| Run.seq fun k21 hk21 => Run.region ?_
            show Sq _ _ _ [0, 1] _ _ _ _
            refine Mv 0 rfl rfl rfl <| Ef 1 rfl rfl (EF.call rfl ce42 rfl Tk2 (fun F' hle hr => sound_spec F' (t := { t1 with pair := PR.1 }) (bad := (PR.2.2 || !false)) (r := PR.2.1))) ?_
            rintro _ _ ⟨_, ⟨rfl, rfl⟩, rfl⟩
            refine J.app ?_
            refine J.caseB (fun c198 => ?_) (fun c198 => ?_)
            ·refine Sq.nil <| hk21 _ _ <| Run.cond_t rfl <| Run.regionM (M := [0, 0, 0, 4, 12, 28, 60, 124, 252, 0, 509, 1533, 3581, 7677, 16383, 32767, 65535, 131071]) (q := 122879) (r := 832) mixedT Kr ?_
             exact absurd c198 (by simp [soundB])
            ·refine Sq.nil <| hk21 _ _ <| Run.cond_f rfl <| Run.skip ?_
             have hF : updF x t r bad = (updG x ae fl plen om t1 r7 bad) := by unfold updF; simp only [hr1, hr2, hr3, hr4, hae, hfl, hpl, hom, hr7, ← ht1]
             have hX : updX x ae fl PF.1 = (⟨none, x.hops, bs2⟩ : PrS) := by unfold updX; rw [← hid2, n8_eq hae8, ← hbs2, hid]
             have hU : updH (⟨none, x.hops, bs2⟩ : PrS) PR PF.1 t1 = ({ t1 with pair := PR.1 }, PR.2.1, PR.2.2 || !false) := by unfold updH; rw [if_neg c164, n64_eq (pfamily_range _), show (alook x.hops (⟨pfamilyB PF.1, pfamily_range _⟩ : I64)).isSome = false from c175]; simp only [Bool.true_and, Bool.false_and, Bool.and_false]; rw [if_neg (by rw [c198]; simp)]
             have hG : (updG x ae fl plen om t1 r7 bad) = (({ t1 with pair := PR.1 }, PR.2.1, PR.2.2 || !false), (⟨none, x.hops, bs2⟩ : PrS)) := by unfold updG; rw [if_neg c60]; simp only; rw [n8_eq hae8, ← hbad1, hPF, if_neg (by rw [c112]; simp), hPR, hX, hU]
             refine J.addId ?_
             rw [hF, hG]
             exact J.ends (res_none rfl) Tk6 ⟨none, rfl, rfl⟩
          ·refine Om [5, 4] rfl rfl (EF.allocA (l := (Bs.zero 16).enc) rfl zero23) ?_
           rintro _ _ ⟨b11, rfl, rfl⟩
           refine ⟨?_, ?_⟩
           ·rw [List.forall_mem_cons, List.forall_mem_cons]
            refine ⟨?_, ?_, fun _ h => (by cases h)⟩
            ·exact Look.mk rfl rfl rfl (QR.load rfl rfl g41 (Prefix.enc_sub _))
            ·exact Look.mk rfl rfl rfl (QR.load1 rfl rfl g58 ((PacketParser.sub_known _).trans (PacketKnown.sub_hops _)))
           refine ?_
           refine De 6 <| Om [4] rfl rfl (EF.call rfl ce54 rfl Takes.nil (fun F' hle hr => pfamily_spec F' (PF.1))) ?_
           rintro _ _ ⟨_, ⟨rfl, rfl⟩, rfl⟩
           refine ⟨?_, ?_⟩
           ·rw [List.forall_mem_cons]
            refine ⟨?_, fun _ h => (by cases h)⟩
            ·refine Look.app ?_
             exact Look.mk rfl rfl rfl (QR.load1 rfl rfl g58 ((PacketParser.sub_known _).trans (PacketKnown.sub_hops _)))
           refine ?_
           refine J.app ?_
           refine Dr 7 rfl rfl (QR.lookup2V (k := (⟨pfamilyB PF.1, pfamily_range _⟩ : I64)) keyH rfl rfl rfl Try.underlying58 (z := Bs.zero 16) zero23) ?_
           refine Dp 8 rfl rfl (QP.move rfl rfl) <| Dp 9 rfl rfl (QP.extract rfl rfl rfl) <| Dp 10 rfl rfl (QP.extract rfl rfl rfl) <| J.caseB (fun c175 => ?_) (fun c175 => ?_)
           ·refine De 12 <| Oa [] rfl (EF.storeA rfl rfl rfl z23 (SetL.all (Bs.len _) (Bs.len _)) (Bs.cell _)) ?_
            rintro _ _ rfl
            refine ⟨fun _ h => (by cases h), ?_⟩
            refine De 13 <| Om [] rfl rfl ((QP.assign rfl rfl).eff) ?_
            rintro _ _ ⟨rfl, rfl⟩
            refine ⟨fun _ h => (by cases h), ?_⟩
            refine Dn <| hk17 _ _ <| Run.seq fun k22 hk22 => Run.region ?_
            show Sq _ _ _ [0, 1, 2, 3, 4, 5, 6, 7, 8, 9, 10, 11, 12, 13, 14, 15, 16, 17, 18, 19, 20] _ _ _ _
            refine Mv 0 rfl rfl rfl <| Mv 1 rfl rfl rfl <| Mv 2 rfl rfl rfl <| Ym 3 rfl rfl rfl rfl <| Yp 4 rfl rfl rfl (QP.nilCheck rfl rfl) <| Yf 5 rfl rfl rfl rfl f64_0 <| Yf 6 rfl rfl rfl rfl f62_0 <| Yq 7 rfl rfl rfl (QR.load1 rfl rfl g60 ((PacketParser.sub_known _).trans (PacketKnown.sub_id_ _))) ?_
            refine Yp 8 rfl rfl rfl (QP.ptr_ne_nil rfl rfl rfl Try.underlying60) <| Pt 9 rfl rfl rfl rfl <| Mv 10 rfl rfl rfl <| Sk 11 rfl rfl rfl <| Sk 12 rfl rfl rfl <| Sk 13 rfl rfl rfl <| Sk 14 rfl rfl rfl <| Sk 15 rfl rfl rfl <| Sk 16 rfl rfl rfl <| Sk 17 rfl rfl rfl <| Sk 18 rfl rfl rfl <| Pf 19 rfl rfl rfl rfl <| Ef 20 rfl rfl (EF.call rfl ce62 rfl Tk2 (fun F' hle hr => need_spec F' (t := { t1 with pair := PR.1 }) (bad := PR.2.2) (r := PR.2.1) false)) ?_
            rintro _ _ ⟨_, ⟨rfl, rfl⟩, rfl⟩
            refine J.app ?_
            refine Sq.nil <| hk22 _ _ <| Run.seq fun k23 hk23 => Run.region ?_
            show Sq _ _ _ [0, 1] _ _ _ _
            refine Mv 0 rfl rfl rfl <| Ef 1 rfl rfl (EF.call rfl ce42 rfl Tk2 (fun F' hle hr => sound_spec F' (t := { t1 with pair := PR.1 }) (bad := (PR.2.2 || !false)) (r := PR.2.1))) ?_
            rintro _ _ ⟨_, ⟨rfl, rfl⟩, rfl⟩
            refine J.app ?_
            refine J.caseB (fun c198 => ?_) (fun c198 => ?_)
            ·refine Sq.nil <| hk23 _ _ <| Run.cond_t rfl <| Run.regionM (M := [0, 0, 0, 4, 12, 28, 60, 124, 252, 0, 509, 1533, 3581, 7677, 16383, 32767, 65535, 131071]) (q := 122879) (r := 832) mixedT Kr ?_
             exact absurd c198 (by simp [soundB])
            ·refine Sq.nil <| hk23 _ _ <| Run.cond_f rfl <| Run.skip ?_
             have hF : updF x t r bad = (updG x ae fl plen om t1 r7 bad) := by unfold updF; simp only [hr1, hr2, hr3, hr4, hae, hfl, hpl, hom, hr7, ← ht1]
             have hX : updX x ae fl PF.1 = (⟨none, x.hops, bs2⟩ : PrS) := by unfold updX; rw [← hid2, n8_eq hae8, ← hbs2, hid]
             have hU : updH (⟨none, x.hops, bs2⟩ : PrS) PR PF.1 t1 = ({ t1 with pair := PR.1 }, PR.2.1, PR.2.2 || !false) := by unfold updH; rw [if_neg c164, n64_eq (pfamily_range _), show (alook x.hops (⟨pfamilyB PF.1, pfamily_range _⟩ : I64)).isSome = true from c175]; simp only [Bool.true_and, Bool.false_and, Bool.and_false]; rw [if_neg (by rw [c198]; simp)]
             have hG : (updG x ae fl plen om t1 r7 bad) = (({ t1 with pair := PR.1 }, PR.2.1, PR.2.2 || !false), (⟨none, x.hops, bs2⟩ : PrS)) := by unfold updG; rw [if_neg c60]; simp only; rw [n8_eq hae8, ← hbad1, hPF, if_neg (by rw [c112]; simp), hPR, hX, hU]
             refine J.addId ?_
             rw [hF, hG]
             exact J.ends (res_none rfl) Tk6 ⟨none, rfl, rfl⟩
           ·refine De 12 <| Oa [] rfl (EF.storeA rfl rfl rfl z23 (SetL.all (Bs.len _) (Bs.len _)) (Bs.cell _)) ?_
            rintro _ _ rfl
            refine ⟨fun _ h => (by cases h), ?_⟩
            refine De 13 <| Om [] rfl rfl ((QP.assign rfl rfl).eff) ?_
            rintro _ _ ⟨rfl, rfl⟩
            refine ⟨fun _ h => (by cases h), ?_⟩
            refine Dn <| hk17 _ _ <| Run.seq fun k24 hk24 => Run.region ?_
            show Sq _ _ _ [0, 1, 2, 3, 4, 5, 6, 7, 8, 9, 10, 11, 12, 13, 14, 15, 16, 17, 18, 19, 20] _ _ _ _
            refine Mv 0 rfl rfl rfl <| Mv 1 rfl rfl rfl <| Mv 2 rfl rfl rfl <| Sk 3 rfl rfl rfl <| Sk 4 rfl rfl rfl <| Sk 5 rfl rfl rfl <| Sk 6 rfl rfl rfl <| Sk 7 rfl rfl rfl <| Sk 8 rfl rfl rfl <| Pf 9 rfl rfl rfl rfl <| Mv 10 rfl rfl rfl <| Sk 11 rfl rfl rfl <| Sk 12 rfl rfl rfl <| Sk 13 rfl rfl rfl <| Sk 14 rfl rfl rfl <| Sk 15 rfl rfl rfl <| Sk 16 rfl rfl rfl <| Sk 17 rfl rfl rfl <| Sk 18 rfl rfl rfl <| Pf 19 rfl rfl rfl rfl <| Ef 20 rfl rfl (EF.call rfl ce62 rfl Tk2 (fun F' hle hr => need_spec F' (t := { t1 with pair := PR.1 }) (bad := PR.2.2) (r := PR.2.1) false)) ?_
            rintro _ _ ⟨_, ⟨rfl, rfl⟩, rfl⟩
            refine J.app ?_
            refine Sq.nil <| hk24 _ _ <| Run.seq fun k25 hk25 => Run.region ?_
            show Sq _ _ _ [0, 1] _ _ _ _
            refine Mv 0 rfl rfl rfl <| Ef 1 rfl rfl (EF.call rfl ce42 rfl Tk2 (fun F' hle hr => sound_spec F' (t := { t1 with pair := PR.1 }) (bad := (PR.2.2 || !false)) (r := PR.2.1))) ?_
            rintro _ _ ⟨_, ⟨rfl, rfl⟩, rfl⟩
            refine J.app ?_
            refine J.caseB (fun c198 => ?_) (fun c198 => ?_)
            ·refine Sq.nil <| hk25 _ _ <| Run.cond_t rfl <| Run.regionM (M := [0, 0, 0, 4, 12, 28, 60, 124, 252, 0, 509, 1533, 3581, 7677, 16383, 32767, 65535, 131071]) (q := 122879) (r := 832) mixedT Kr ?_
             exact absurd c198 (by simp [soundB])
            ·refine Sq.nil <| hk25 _ _ <| Run.cond_f rfl <| Run.skip ?_
             have hF : updF x t r bad = (updG x ae fl plen om t1 r7 bad) := by unfold updF; simp only [hr1, hr2, hr3, hr4, hae, hfl, hpl, hom, hr7, ← ht1]
             have hX : updX x ae fl PF.1 = (⟨none, x.hops, bs2⟩ : PrS) := by unfold updX; rw [← hid2, n8_eq hae8, ← hbs2, hid]
             have hU : updH (⟨none, x.hops, bs2⟩ : PrS) PR PF.1 t1 = ({ t1 with pair := PR.1 }, PR.2.1, PR.2.2 || !false) := by unfold updH; rw [if_neg c164, n64_eq (pfamily_range _), show (alook x.hops (⟨pfamilyB PF.1, pfamily_range _⟩ : I64)).isSome = false from c175]; simp only [Bool.true_and, Bool.false_and, Bool.and_false]; rw [if_neg (by rw [c198]; simp)]
             have hG : (updG x ae fl plen om t1 r7 bad) = (({ t1 with pair := PR.1 }, PR.2.1, PR.2.2 || !false), (⟨none, x.hops, bs2⟩ : PrS)) := by unfold updG; rw [if_neg c60]; simp only; rw [n8_eq hae8, ← hbad1, hPF, if_neg (by rw [c112]; simp), hPR, hX, hU]
             refine J.addId ?_
             rw [hF, hG]
             exact J.ends (res_none rfl) Tk6 ⟨none, rfl, rfl⟩
        ·refine Qp 1 rfl rfl (QP.nilCheck rfl rfl) <| Fa 2 rfl rfl rfl f100_1 <| Fa 3 rfl rfl rfl f46_5 <| Qq 4 rfl rfl (QR.load1 rfl rfl g37 ((PacketPiece.sub_tlv _).trans (Tlv.sub_metric _))) ?_
         refine Qp 5 rfl rfl (QP.eql rfl rfl rfl) <| J.caseD (fun c164 => ?_) (fun c164 => ?_)
         ·refine Sq.nil <| hk16 _ _ <| Run.cond_t rfl <| Run.ret ?_
          have hF : updF x t r bad = (updG x ae fl plen om t1 r7 bad) := by unfold updF; simp only [hr1, hr2, hr3, hr4, hae, hfl, hpl, hom, hr7, ← ht1]
          have hX : updX x ae fl PF.1 = (⟨(some iv), x.hops, bs2⟩ : PrS) := by unfold updX; rw [← hid2, n8_eq hae8, ← hbs2, hid]
          have hU : updH (⟨(some iv), x.hops, bs2⟩ : PrS) PR PF.1 t1 = ({ t1 with pair := PR.1 }, PR.2.1, PR.2.2) := by unfold updH; rw [if_pos c164]
          have hG : (updG x ae fl plen om t1 r7 bad) = (({ t1 with pair := PR.1 }, PR.2.1, PR.2.2), (⟨(some iv), x.hops, bs2⟩ : PrS)) := by unfold updG; rw [if_neg c60]; simp only; rw [n8_eq hae8, ← hbad1, hPF, if_neg (by rw [c112]; simp), hPR, hX, hU]
          rw [hF, hG]
          exact J.ends (res_none rfl) Tk6 ⟨idp2, rfl, rfl⟩
         ·refine Sq.nil <| hk16 _ _ <| Run.cond_f rfl <| Run.skip <| hk15 _ _ <| Run.seq fun k26 hk26 => Run.regionM (M := [0, 1, 3, 7, 15, 0, 32, 127, 255, 511, 511, 0, 3071, 8191]) (q := 1983) (r := 176) mixedT Kr ?_
          refine J.idSome Rc (fun ib hip => ?_)
          subst hip
          refine Dp 0 rfl rfl (QP.move rfl rfl) <| Dp 1 rfl rfl (QP.nilCheck rfl rfl) <| Dp 2 rfl rfl (QP.fieldAddr rfl rfl f64_0) <| Dp 3 rfl rfl (QP.fieldAddr rfl rfl f62_1) <| Dr 4 rfl rfl (QR.load1 rfl rfl g58 ((PacketParser.sub_known _).trans (PacketKnown.sub_hops _))) ?_
          refine Dr 5 rfl rfl (QR.load rfl rfl g41 (Prefix.enc_sub _)) ?_
          refine Dw.effs (l := [6, 11]) Kr Kr ?_
          rw [List.forall_mem_cons, List.forall_mem_cons]
          refine ⟨?_, ?_, fun _ h => (by cases h)⟩
          ·refine Om [4] rfl rfl (EF.call rfl ce54 rfl Takes.nil (fun F' hle hr => pfamily_spec F' (PF.1))) ?_
           rintro _ _ ⟨_, ⟨rfl, rfl⟩, rfl⟩
           refine ⟨?_, ?_⟩
           ·rw [List.forall_mem_cons]
            refine ⟨?_, fun _ h => (by cases h)⟩
            ·refine Look.app ?_
             exact Look.mk rfl rfl rfl (QR.load1 rfl rfl g58 ((PacketParser.sub_known _).trans (PacketKnown.sub_hops _)))
           refine ?_
           refine J.app ?_
           refine Dr 7 rfl rfl (QR.lookup2V (k := (⟨pfamilyB PF.1, pfamily_range _⟩ : I64)) keyH rfl rfl rfl Try.underlying58 (z := Bs.zero 16) zero23) ?_
           refine Dp 8 rfl rfl (QP.move rfl rfl) <| Dp 9 rfl rfl (QP.extract rfl rfl rfl) <| Dp 10 rfl rfl (QP.extract rfl rfl rfl) <| J.caseB (fun c175 => ?_) (fun c175 => ?_)
           ·refine De 11 <| Om [7, 5, 4] rfl rfl (EF.allocA (l := (Bs.zero 16).enc) rfl zero23) ?_
            rintro _ _ ⟨b11, rfl, rfl⟩
            refine ⟨?_, ?_⟩
            ·rw [List.forall_mem_cons, List.forall_mem_cons, List.forall_mem_cons]
             refine ⟨?_, ?_, ?_, fun _ h => (by cases h)⟩
             ·exact Look.mk rfl rfl rfl (QR.lookup2V (k := (⟨pfamilyB PF.1, pfamily_range _⟩ : I64)) keyH rfl rfl rfl Try.underlying58 (z := Bs.zero 16) zero23)
             ·exact Look.mk rfl rfl rfl (QR.load rfl rfl g41 (Prefix.enc_sub _))
             ·exact Look.mk rfl rfl rfl (QR.load1 rfl rfl g58 ((PacketParser.sub_known _).trans (PacketKnown.sub_hops _)))
            refine ?_
            refine De 12 <| Oa [] rfl (EF.storeA rfl rfl rfl z23 (SetL.all (Bs.len _) (Bs.len _)) (Bs.cell _)) ?_
            rintro _ _ rfl
            refine ⟨fun _ h => (by cases h), ?_⟩
            refine De 13 <| Om [] rfl rfl ((QP.assign rfl rfl).eff) ?_
            rintro _ _ ⟨rfl, rfl⟩
            refine ⟨fun _ h => (by cases h), ?_⟩
            refine Dn <| hk26 _ _ <| Run.seq fun k27 hk27 => Run.region ?_
            show Sq _ _ _ [0, 1, 2, 3, 4, 5, 6, 7, 8, 9, 10, 11, 12, 13, 14, 15, 16, 17, 18, 19, 20] _ _ _ _
            refine Mv 0 rfl rfl rfl <| Mv 1 rfl rfl rfl <| Mv 2 rfl rfl rfl <| Ym 3 rfl rfl rfl rfl <| Yp 4 rfl rfl rfl (QP.nilCheck rfl rfl) <| Yf 5 rfl rfl rfl rfl f64_0 <| Yf 6 rfl rfl rfl rfl f62_0 <| Yq 7 rfl rfl rfl (QR.load1 rfl rfl g60 ((PacketParser.sub_known _).trans (PacketKnown.sub_id_ _))) ?_
            refine Yp 8 rfl rfl rfl (QP.ptr_ne_nil rfl rfl rfl Try.underlying60) <| Pt 9 rfl rfl rfl rfl <| Mv 10 rfl rfl rfl <| Ym 11 rfl rfl rfl rfl <| Yp 12 rfl rfl rfl (QP.nilCheck rfl rfl) <| Yf 13 rfl rfl rfl rfl f64_0 <| Yf 14 rfl rfl rfl rfl f62_0 <| Yq 15 rfl rfl rfl (QR.load1 rfl rfl g60 ((PacketParser.sub_known _).trans (PacketKnown.sub_id_ _))) ?_
            refine Yp 16 rfl rfl rfl (QP.nilCheck rfl rfl) <| Yq 17 rfl rfl rfl (QR.load rfl rfl g39 (Bs.sub _)) ?_
            refine Ye 18 rfl rfl rfl (EF.call rfl ce46 rfl Takes.nil (fun F' hle hr => named_spec F' iv)) ?_
            rintro _ _ ⟨_, ⟨rfl, rfl⟩, rfl⟩
            refine J.app ?_
            refine Pt 19 rfl rfl rfl rfl <| Ef 20 rfl rfl (EF.call rfl ce62 rfl Tk2 (fun F' hle hr => need_spec F' (t := { t1 with pair := PR.1 }) (bad := PR.2.2) (r := PR.2.1) (namedB iv))) ?_
            rintro _ _ ⟨_, ⟨rfl, rfl⟩, rfl⟩
            refine J.app ?_
            refine Sq.nil <| hk27 _ _ <| Run.seq fun k28 hk28 => Run.region ?_
            show Sq _ _ _ [0, 1] _ _ _ _
            refine Mv 0 rfl rfl rfl <| Ef 1 rfl rfl (EF.call rfl ce42 rfl Tk2 (fun F' hle hr => sound_spec F' (t := { t1 with pair := PR.1 }) (bad := (PR.2.2 || !(namedB iv))) (r := PR.2.1))) ?_
            rintro _ _ ⟨_, ⟨rfl, rfl⟩, rfl⟩
            refine J.app ?_
            refine J.caseB (fun c198 => ?_) (fun c198 => ?_)
            ·refine Sq.nil <| hk28 _ _ <| Run.cond_t rfl <| Run.regionM (M := [0, 0, 0, 4, 12, 28, 60, 124, 252, 0, 509, 1533, 3581, 7677, 16383, 32767, 65535, 131071]) (q := 122879) (r := 832) mixedT Kr ?_
             refine Dp 0 rfl rfl (QP.move rfl rfl) <| Dp 1 rfl rfl (QP.move rfl rfl) <| Dp 2 rfl rfl (QP.move rfl rfl) <| Dp 3 rfl rfl (QP.nilCheck rfl rfl) <| Dp 4 rfl rfl (QP.fieldAddr rfl rfl f64_0) <| Dp 5 rfl rfl (QP.fieldAddr rfl rfl f62_0) <| Dr 6 rfl rfl (QR.load1 rfl rfl g60 ((PacketParser.sub_known _).trans (PacketKnown.sub_id_ _))) ?_
             refine Dp 7 rfl rfl (QP.nilCheck rfl rfl) <| Dr 8 rfl rfl (QR.load rfl rfl g39 (Bs.sub _)) ?_
             refine Dr 9 rfl rfl (QR.load rfl rfl g23 (Bs.sub _)) ?_
             refine Dp 10 rfl rfl (QP.nilCheck rfl rfl) <| Dp 11 rfl rfl (QP.fieldAddr rfl rfl f100_1) <| Dp 12 rfl rfl (QP.fieldAddr rfl rfl f46_9) <| De 13 <| Oa [9] rfl (EF.storeA rfl rfl rfl z39 ((PacketPiece.set_tlv _ _).trans (PacketPiece.sub_tlv _) (Tlv.set_id_ _ _)) (Bs.cell _)) ?_
             rintro _ _ rfl
             refine ⟨?_, ?_⟩
             ·rw [List.forall_mem_cons]
              refine ⟨?_, fun _ h => (by cases h)⟩
              ·exact Look.mk rfl rfl rfl (QR.load rfl rfl g23 (Bs.sub _))
             refine ?_
             refine Dp 14 rfl rfl (QP.nilCheck rfl rfl) <| Dp 15 rfl rfl (QP.fieldAddr rfl rfl f100_1) <| Dp 16 rfl rfl (QP.fieldAddr rfl rfl f46_10) <| De 17 <| Oa [] rfl (EF.storeA rfl rfl rfl z23 ((PacketPiece.set_tlv _ _).trans (PacketPiece.sub_tlv _) (Tlv.set_addr _ _)) (Bs.cell _)) ?_
             rintro _ _ rfl
             refine ⟨fun _ h => (by cases h), ?_⟩
             refine Dn ?_
             have hF : updF x t r bad = (updG x ae fl plen om t1 r7 bad) := by unfold updF; simp only [hr1, hr2, hr3, hr4, hae, hfl, hpl, hom, hr7, ← ht1]
             have hX : updX x ae fl PF.1 = (⟨(some iv), x.hops, bs2⟩ : PrS) := by unfold updX; rw [← hid2, n8_eq hae8, ← hbs2, hid]
             have hU : updH (⟨(some iv), x.hops, bs2⟩ : PrS) PR PF.1 t1 = ({ t1 with pair := PR.1, id_ := iv, addr := ((alook x.hops (⟨pfamilyB PF.1, pfamily_range _⟩ : I64)).getD (Bs.zero 16)) }, PR.2.1, PR.2.2 || !(namedB iv)) := by unfold updH; rw [if_neg c164, n64_eq (pfamily_range _), show (alook x.hops (⟨pfamilyB PF.1, pfamily_range _⟩ : I64)).isSome = true from c175]; simp only [Bool.true_and, Bool.false_and, Bool.and_false]; rw [if_pos c198]; rfl
             have hG : (updG x ae fl plen om t1 r7 bad) = (({ t1 with pair := PR.1, id_ := iv, addr := ((alook x.hops (⟨pfamilyB PF.1, pfamily_range _⟩ : I64)).getD (Bs.zero 16)) }, PR.2.1, PR.2.2 || !(namedB iv)), (⟨(some iv), x.hops, bs2⟩ : PrS)) := by unfold updG; rw [if_neg c60]; simp only; rw [n8_eq hae8, ← hbad1, hPF, if_neg (by rw [c112]; simp), hPR, hX, hU]
             refine J.close (A := idA (some ⟨ib, 0, none⟩) (some iv)) (m := [blk ib (Bs.enc iv) 39]) Tk1 (fun _ q => idA_some q) ?_
             rw [hF, hG]
             exact J.ends (res_none rfl) Tk6 ⟨some ⟨ib, 0, none⟩, rfl, rfl⟩
            ·refine Sq.nil <| hk28 _ _ <| Run.cond_f rfl <| Run.skip ?_
             have hF : updF x t r bad = (updG x ae fl plen om t1 r7 bad) := by unfold updF; simp only [hr1, hr2, hr3, hr4, hae, hfl, hpl, hom, hr7, ← ht1]
             have hX : updX x ae fl PF.1 = (⟨(some iv), x.hops, bs2⟩ : PrS) := by unfold updX; rw [← hid2, n8_eq hae8, ← hbs2, hid]
             have hU : updH (⟨(some iv), x.hops, bs2⟩ : PrS) PR PF.1 t1 = ({ t1 with pair := PR.1 }, PR.2.1, PR.2.2 || !(namedB iv)) := by unfold updH; rw [if_neg c164, n64_eq (pfamily_range _), show (alook x.hops (⟨pfamilyB PF.1, pfamily_range _⟩ : I64)).isSome = true from c175]; simp only [Bool.true_and, Bool.false_and, Bool.and_false]; rw [if_neg (by rw [c198]; simp)]
             have hG : (updG x ae fl plen om t1 r7 bad) = (({ t1 with pair := PR.1 }, PR.2.1, PR.2.2 || !(namedB iv)), (⟨(some iv), x.hops, bs2⟩ : PrS)) := by unfold updG; rw [if_neg c60]; simp only; rw [n8_eq hae8, ← hbad1, hPF, if_neg (by rw [c112]; simp), hPR, hX, hU]
             refine J.close (A := idA (some ⟨ib, 0, none⟩) (some iv)) (m := [blk ib (Bs.enc iv) 39]) Tk1 (fun _ q => idA_some q) ?_
             rw [hF, hG]
             exact J.ends (res_none rfl) Tk6 ⟨some ⟨ib, 0, none⟩, rfl, rfl⟩
           ·refine De 11 <| Om [7, 5, 4] rfl rfl (EF.allocA (l := (Bs.zero 16).enc) rfl zero23) ?_
            rintro _ _ ⟨b11, rfl, rfl⟩
            refine ⟨?_, ?_⟩
            ·rw [List.forall_mem_cons, List.forall_mem_cons, List.forall_mem_cons]
             refine ⟨?_, ?_, ?_, fun _ h => (by cases h)⟩
             ·exact Look.mk rfl rfl rfl (QR.lookup2V (k := (⟨pfamilyB PF.1, pfamily_range _⟩ : I64)) keyH rfl rfl rfl Try.underlying58 (z := Bs.zero 16) zero23)
             ·exact Look.mk rfl rfl rfl (QR.load rfl rfl g41 (Prefix.enc_sub _))
             ·exact Look.mk rfl rfl rfl (QR.load1 rfl rfl g58 ((PacketParser.sub_known _).trans (PacketKnown.sub_hops _)))
            refine ?_
            refine De 12 <| Oa [] rfl (EF.storeA rfl rfl rfl z23 (SetL.all (Bs.len _) (Bs.len _)) (Bs.cell _)) ?_
            rintro _ _ rfl
            refine ⟨fun _ h => (by cases h), ?_⟩
            refine De 13 <| Om [] rfl rfl ((QP.assign rfl rfl).eff) ?_
            rintro _ _ ⟨rfl, rfl⟩
            refine ⟨fun _ h => (by cases h), ?_⟩
            refine Dn <| hk26 _ _ <| Run.seq fun k29 hk29 => Run.region ?_
            show Sq _ _ _ [0, 1, 2, 3, 4, 5, 6, 7, 8, 9, 10, 11, 12, 13, 14, 15, 16, 17, 18, 19, 20] _ _ _ _
            refine Mv 0 rfl rfl rfl <| Mv 1 rfl rfl rfl <| Mv 2 rfl rfl rfl <| Sk 3 rfl rfl rfl <| Sk 4 rfl rfl rfl <| Sk 5 rfl rfl rfl <| Sk 6 rfl rfl rfl <| Sk 7 rfl rfl rfl <| Sk 8 rfl rfl rfl <| Pf 9 rfl rfl rfl rfl <| Mv 10 rfl rfl rfl <| Sk 11 rfl rfl rfl <| Sk 12 rfl rfl rfl <| Sk 13 rfl rfl rfl <| Sk 14 rfl rfl rfl <| Sk 15 rfl rfl rfl <| Sk 16 rfl rfl rfl <| Sk 17 rfl rfl rfl <| Sk 18 rfl rfl rfl <| Pf 19 rfl rfl rfl rfl <| Ef 20 rfl rfl (EF.call rfl ce62 rfl Tk2 (fun F' hle hr => need_spec F' (t := { t1 with pair := PR.1 }) (bad := PR.2.2) (r := PR.2.1) false)) ?_
            rintro _ _ ⟨_, ⟨rfl, rfl⟩, rfl⟩
            refine J.app ?_
            refine Sq.nil <| hk29 _ _ <| Run.seq fun k30 hk30 => Run.region ?_
            show Sq _ _ _ [0, 1] _ _ _ _
            refine Mv 0 rfl rfl rfl <| Ef 1 rfl rfl (EF.call rfl ce42 rfl Tk2 (fun F' hle hr => sound_spec F' (t := { t1 with pair := PR.1 }) (bad := (PR.2.2 || !false)) (r := PR.2.1))) ?_
            rintro _ _ ⟨_, ⟨rfl, rfl⟩, rfl⟩
            refine J.app ?_
            refine J.caseB (fun c198 => ?_) (fun c198 => ?_)
            ·refine Sq.nil <| hk30 _ _ <| Run.cond_t rfl <| Run.regionM (M := [0, 0, 0, 4, 12, 28, 60, 124, 252, 0, 509, 1533, 3581, 7677, 16383, 32767, 65535, 131071]) (q := 122879) (r := 832) mixedT Kr ?_
             exact absurd c198 (by simp [soundB])
            ·refine Sq.nil <| hk30 _ _ <| Run.cond_f rfl <| Run.skip ?_
             have hF : updF x t r bad = (updG x ae fl plen om t1 r7 bad) := by unfold updF; simp only [hr1, hr2, hr3, hr4, hae, hfl, hpl, hom, hr7, ← ht1]
             have hX : updX x ae fl PF.1 = (⟨(some iv), x.hops, bs2⟩ : PrS) := by unfold updX; rw [← hid2, n8_eq hae8, ← hbs2, hid]
             have hU : updH (⟨(some iv), x.hops, bs2⟩ : PrS) PR PF.1 t1 = ({ t1 with pair := PR.1 }, PR.2.1, PR.2.2 || !false) := by unfold updH; rw [if_neg c164, n64_eq (pfamily_range _), show (alook x.hops (⟨pfamilyB PF.1, pfamily_range _⟩ : I64)).isSome = false from c175]; simp only [Bool.true_and, Bool.false_and, Bool.and_false]; rw [if_neg (by rw [c198]; simp)]
             have hG : (updG x ae fl plen om t1 r7 bad) = (({ t1 with pair := PR.1 }, PR.2.1, PR.2.2 || !false), (⟨(some iv), x.hops, bs2⟩ : PrS)) := by unfold updG; rw [if_neg c60]; simp only; rw [n8_eq hae8, ← hbad1, hPF, if_neg (by rw [c112]; simp), hPR, hX, hU]
             refine J.close (A := idA (some ⟨ib, 0, none⟩) (some iv)) (m := [blk ib (Bs.enc iv) 39]) Tk1 (fun _ q => idA_some q) ?_
             rw [hF, hG]
             exact J.ends (res_none rfl) Tk6 ⟨some ⟨ib, 0, none⟩, rfl, rfl⟩
          ·refine Om [5, 4] rfl rfl (EF.allocA (l := (Bs.zero 16).enc) rfl zero23) ?_
           rintro _ _ ⟨b11, rfl, rfl⟩
           refine ⟨?_, ?_⟩
           ·rw [List.forall_mem_cons, List.forall_mem_cons]
            refine ⟨?_, ?_, fun _ h => (by cases h)⟩
            ·exact Look.mk rfl rfl rfl (QR.load rfl rfl g41 (Prefix.enc_sub _))
            ·exact Look.mk rfl rfl rfl (QR.load1 rfl rfl g58 ((PacketParser.sub_known _).trans (PacketKnown.sub_hops _)))
           refine ?_
           refine De 6 <| Om [4] rfl rfl (EF.call rfl ce54 rfl Takes.nil (fun F' hle hr => pfamily_spec F' (PF.1))) ?_
           rintro _ _ ⟨_, ⟨rfl, rfl⟩, rfl⟩
           refine ⟨?_, ?_⟩
           ·rw [List.forall_mem_cons]
            refine ⟨?_, fun _ h => (by cases h)⟩
            ·refine Look.app ?_
             exact Look.mk rfl rfl rfl (QR.load1 rfl rfl g58 ((PacketParser.sub_known _).trans (PacketKnown.sub_hops _)))
           refine ?_
           refine J.app ?_
           refine Dr 7 rfl rfl (QR.lookup2V (k := (⟨pfamilyB PF.1, pfamily_range _⟩ : I64)) keyH rfl rfl rfl Try.underlying58 (z := Bs.zero 16) zero23) ?_
           refine Dp 8 rfl rfl (QP.move rfl rfl) <| Dp 9 rfl rfl (QP.extract rfl rfl rfl) <| Dp 10 rfl rfl (QP.extract rfl rfl rfl) <| J.caseB (fun c175 => ?_) (fun c175 => ?_)
           ·refine De 12 <| Oa [] rfl (EF.storeA rfl rfl rfl z23 (SetL.all (Bs.len _) (Bs.len _)) (Bs.cell _)) ?_
            rintro _ _ rfl
            refine ⟨fun _ h => (by cases h), ?_⟩
            refine De 13 <| Om [] rfl rfl ((QP.assign rfl rfl).eff) ?_
            rintro _ _ ⟨rfl, rfl⟩
            refine ⟨fun _ h => (by cases h), ?_⟩
            refine Dn <| hk26 _ _ <| Run.seq fun k31 hk31 => Run.region ?_
            show Sq _ _ _ [0, 1, 2, 3, 4, 5, 6, 7, 8, 9, 10, 11, 12, 13, 14, 15, 16, 17, 18, 19, 20] _ _ _ _
            refine Mv 0 rfl rfl rfl <| Mv 1 rfl rfl rfl <| Mv 2 rfl rfl rfl <| Ym 3 rfl rfl rfl rfl <| Yp 4 rfl rfl rfl (QP.nilCheck rfl rfl) <| Yf 5 rfl rfl rfl rfl f64_0 <| Yf 6 rfl rfl rfl rfl f62_0 <| Yq 7 rfl rfl rfl (QR.load1 rfl rfl g60 ((PacketParser.sub_known _).trans (PacketKnown.sub_id_ _))) ?_
            refine Yp 8 rfl rfl rfl (QP.ptr_ne_nil rfl rfl rfl Try.underlying60) <| Pt 9 rfl rfl rfl rfl <| Mv 10 rfl rfl rfl <| Ym 11 rfl rfl rfl rfl <| Yp 12 rfl rfl rfl (QP.nilCheck rfl rfl) <| Yf 13 rfl rfl rfl rfl f64_0 <| Yf 14 rfl rfl rfl rfl f62_0 <| Yq 15 rfl rfl rfl (QR.load1 rfl rfl g60 ((PacketParser.sub_known _).trans (PacketKnown.sub_id_ _))) ?_
            refine Yp 16 rfl rfl rfl (QP.nilCheck rfl rfl) <| Yq 17 rfl rfl rfl (QR.load rfl rfl g39 (Bs.sub _)) ?_
            refine Ye 18 rfl rfl rfl (EF.call rfl ce46 rfl Takes.nil (fun F' hle hr => named_spec F' iv)) ?_
            rintro _ _ ⟨_, ⟨rfl, rfl⟩, rfl⟩
            refine J.app ?_
            refine Pt 19 rfl rfl rfl rfl <| Ef 20 rfl rfl (EF.call rfl ce62 rfl Tk2 (fun F' hle hr => need_spec F' (t := { t1 with pair := PR.1 }) (bad := PR.2.2) (r := PR.2.1) (namedB iv))) ?_
            rintro _ _ ⟨_, ⟨rfl, rfl⟩, rfl⟩
            refine J.app ?_
            refine Sq.nil <| hk31 _ _ <| Run.seq fun k32 hk32 => Run.region ?_
            show Sq _ _ _ [0, 1] _ _ _ _
            refine Mv 0 rfl rfl rfl <| Ef 1 rfl rfl (EF.call rfl ce42 rfl Tk2 (fun F' hle hr => sound_spec F' (t := { t1 with pair := PR.1 }) (bad := (PR.2.2 || !(namedB iv))) (r := PR.2.1))) ?_
            rintro _ _ ⟨_, ⟨rfl, rfl⟩, rfl⟩
            refine J.app ?_
            refine J.caseB (fun c198 => ?_) (fun c198 => ?_)
            ·refine Sq.nil <| hk32 _ _ <| Run.cond_t rfl <| Run.regionM (M := [0, 0, 0, 4, 12, 28, 60, 124, 252, 0, 509, 1533, 3581, 7677, 16383, 32767, 65535, 131071]) (q := 122879) (r := 832) mixedT Kr ?_
             refine Dp 0 rfl rfl (QP.move rfl rfl) <| Dp 1 rfl rfl (QP.move rfl rfl) <| Dp 2 rfl rfl (QP.move rfl rfl) <| Dp 3 rfl rfl (QP.nilCheck rfl rfl) <| Dp 4 rfl rfl (QP.fieldAddr rfl rfl f64_0) <| Dp 5 rfl rfl (QP.fieldAddr rfl rfl f62_0) <| Dr 6 rfl rfl (QR.load1 rfl rfl g60 ((PacketParser.sub_known _).trans (PacketKnown.sub_id_ _))) ?_
             refine Dp 7 rfl rfl (QP.nilCheck rfl rfl) <| Dr 8 rfl rfl (QR.load rfl rfl g39 (Bs.sub _)) ?_
             refine Dr 9 rfl rfl (QR.load rfl rfl g23 (Bs.sub _)) ?_
             refine Dp 10 rfl rfl (QP.nilCheck rfl rfl) <| Dp 11 rfl rfl (QP.fieldAddr rfl rfl f100_1) <| Dp 12 rfl rfl (QP.fieldAddr rfl rfl f46_9) <| De 13 <| Oa [9] rfl (EF.storeA rfl rfl rfl z39 ((PacketPiece.set_tlv _ _).trans (PacketPiece.sub_tlv _) (Tlv.set_id_ _ _)) (Bs.cell _)) ?_
             rintro _ _ rfl
             refine ⟨?_, ?_⟩
             ·rw [List.forall_mem_cons]
              refine ⟨?_, fun _ h => (by cases h)⟩
              ·exact Look.mk rfl rfl rfl (QR.load rfl rfl g23 (Bs.sub _))
             refine ?_
             refine Dp 14 rfl rfl (QP.nilCheck rfl rfl) <| Dp 15 rfl rfl (QP.fieldAddr rfl rfl f100_1) <| Dp 16 rfl rfl (QP.fieldAddr rfl rfl f46_10) <| De 17 <| Oa [] rfl (EF.storeA rfl rfl rfl z23 ((PacketPiece.set_tlv _ _).trans (PacketPiece.sub_tlv _) (Tlv.set_addr _ _)) (Bs.cell _)) ?_
             rintro _ _ rfl
             refine ⟨fun _ h => (by cases h), ?_⟩
             refine Dn ?_
             have hF : updF x t r bad = (updG x ae fl plen om t1 r7 bad) := by unfold updF; simp only [hr1, hr2, hr3, hr4, hae, hfl, hpl, hom, hr7, ← ht1]
             have hX : updX x ae fl PF.1 = (⟨(some iv), x.hops, bs2⟩ : PrS) := by unfold updX; rw [← hid2, n8_eq hae8, ← hbs2, hid]
             have hU : updH (⟨(some iv), x.hops, bs2⟩ : PrS) PR PF.1 t1 = ({ t1 with pair := PR.1, id_ := iv, addr := ((alook x.hops (⟨pfamilyB PF.1, pfamily_range _⟩ : I64)).getD (Bs.zero 16)) }, PR.2.1, PR.2.2 || !(namedB iv)) := by unfold updH; rw [if_neg c164, n64_eq (pfamily_range _), show (alook x.hops (⟨pfamilyB PF.1, pfamily_range _⟩ : I64)).isSome = true from c175]; simp only [Bool.true_and, Bool.false_and, Bool.and_false]; rw [if_pos c198]; rfl
             have hG : (updG x ae fl plen om t1 r7 bad) = (({ t1 with pair := PR.1, id_ := iv, addr := ((alook x.hops (⟨pfamilyB PF.1, pfamily_range _⟩ : I64)).getD (Bs.zero 16)) }, PR.2.1, PR.2.2 || !(namedB iv)), (⟨(some iv), x.hops, bs2⟩ : PrS)) := by unfold updG; rw [if_neg c60]; simp only; rw [n8_eq hae8, ← hbad1, hPF, if_neg (by rw [c112]; simp), hPR, hX, hU]
             refine J.close (A := idA (some ⟨ib, 0, none⟩) (some iv)) (m := [blk ib (Bs.enc iv) 39]) Tk1 (fun _ q => idA_some q) ?_
             rw [hF, hG]
             exact J.ends (res_none rfl) Tk6 ⟨some ⟨ib, 0, none⟩, rfl, rfl⟩
            ·refine Sq.nil <| hk32 _ _ <| Run.cond_f rfl <| Run.skip ?_
             have hF : updF x t r bad = (updG x ae fl plen om t1 r7 bad) := by unfold updF; simp only [hr1, hr2, hr3, hr4, hae, hfl, hpl, hom, hr7, ← ht1]
             have hX : updX x ae fl PF.1 = (⟨(some iv), x.hops, bs2⟩ : PrS) := by unfold updX; rw [← hid2, n8_eq hae8, ← hbs2, hid]
             have hU : updH (⟨(some iv), x.hops, bs2⟩ : PrS) PR PF.1 t1 = ({ t1 with pair := PR.1 }, PR.2.1, PR.2.2 || !(namedB iv)) := by unfold updH; rw [if_neg c164, n64_eq (pfamily_range _), show (alook x.hops (⟨pfamilyB PF.1, pfamily_range _⟩ : I64)).isSome = true from c175]; simp only [Bool.true_and, Bool.false_and, Bool.and_false]; rw [if_neg (by rw [c198]; simp)]
             have hG : (updG x ae fl plen om t1 r7 bad) = (({ t1 with pair := PR.1 }, PR.2.1, PR.2.2 || !(namedB iv)), (⟨(some iv), x.hops, bs2⟩ : PrS)) := by unfold updG; rw [if_neg c60]; simp only; rw [n8_eq hae8, ← hbad1, hPF, if_neg (by rw [c112]; simp), hPR, hX, hU]
             refine J.close (A := idA (some ⟨ib, 0, none⟩) (some iv)) (m := [blk ib (Bs.enc iv) 39]) Tk1 (fun _ q => idA_some q) ?_
             rw [hF, hG]
             exact J.ends (res_none rfl) Tk6 ⟨some ⟨ib, 0, none⟩, rfl, rfl⟩
           ·refine De 12 <| Oa [] rfl (EF.storeA rfl rfl rfl z23 (SetL.all (Bs.len _) (Bs.len _)) (Bs.cell _)) ?_
            rintro _ _ rfl
            refine ⟨fun _ h => (by cases h), ?_⟩
            refine De 13 <| Om [] rfl rfl ((QP.assign rfl rfl).eff) ?_
            rintro _ _ ⟨rfl, rfl⟩
            refine ⟨fun _ h => (by cases h), ?_⟩
            refine Dn <| hk26 _ _ <| Run.seq fun k33 hk33 => Run.region ?_
            show Sq _ _ _ [0, 1, 2, 3, 4, 5, 6, 7, 8, 9, 10, 11, 12, 13, 14, 15, 16, 17, 18, 19, 20] _ _ _ _
            refine Mv 0 rfl rfl rfl <| Mv 1 rfl rfl rfl <| Mv 2 rfl rfl rfl <| Sk 3 rfl rfl rfl <| Sk 4 rfl rfl rfl <| Sk 5 rfl rfl rfl <| Sk 6 rfl rfl rfl <| Sk 7 rfl rfl rfl <| Sk 8 rfl rfl rfl <| Pf 9 rfl rfl rfl rfl <| Mv 10 rfl rfl rfl <| Sk 11 rfl rfl rfl <| Sk 12 rfl rfl rfl <| Sk 13 rfl rfl rfl <| Sk 14 rfl rfl rfl <| Sk 15 rfl rfl rfl <| Sk 16 rfl rfl rfl <| Sk 17 rfl rfl rfl <| Sk 18 rfl rfl rfl <| Pf 19 rfl rfl rfl rfl <| Ef 20 rfl rfl (EF.call rfl ce62 rfl Tk2 (fun F' hle hr => need_spec F' (t := { t1 with pair := PR.1 }) (bad := PR.2.2) (r := PR.2.1) false)) ?_
            rintro _ _ ⟨_, ⟨rfl, rfl⟩, rfl⟩
            refine J.app ?_
            refine Sq.nil <| hk33 _ _ <| Run.seq fun k34 hk34 => Run.region ?_
            show Sq _ _ _ [0, 1] _ _ _ _
            refine Mv 0 rfl rfl rfl <| Ef 1 rfl rfl (EF.call rfl ce42 rfl Tk2 (fun F' hle hr => sound_spec F' (t := { t1 with pair := PR.1 }) (bad := (PR.2.2 || !false)) (r := PR.2.1))) ?_
            rintro _ _ ⟨_, ⟨rfl, rfl⟩, rfl⟩
            refine J.app ?_
            refine J.caseB (fun c198 => ?_) (fun c198 => ?_)
            ·refine Sq.nil <| hk34 _ _ <| Run.cond_t rfl <| Run.regionM (M := [0, 0, 0, 4, 12, 28, 60, 124, 252, 0, 509, 1533, 3581, 7677, 16383, 32767, 65535, 131071]) (q := 122879) (r := 832) mixedT Kr ?_
             exact absurd c198 (by simp [soundB])
            ·refine Sq.nil <| hk34 _ _ <| Run.cond_f rfl <| Run.skip ?_
             have hF : updF x t r bad = (updG x ae fl plen om t1 r7 bad) := by unfold updF; simp only [hr1, hr2, hr3, hr4, hae, hfl, hpl, hom, hr7, ← ht1]
             have hX : updX x ae fl PF.1 = (⟨(some iv), x.hops, bs2⟩ : PrS) := by unfold updX; rw [← hid2, n8_eq hae8, ← hbs2, hid]
             have hU : updH (⟨(some iv), x.hops, bs2⟩ : PrS) PR PF.1 t1 = ({ t1 with pair := PR.1 }, PR.2.1, PR.2.2 || !false) := by unfold updH; rw [if_neg c164, n64_eq (pfamily_range _), show (alook x.hops (⟨pfamilyB PF.1, pfamily_range _⟩ : I64)).isSome = false from c175]; simp only [Bool.true_and, Bool.false_and, Bool.and_false]; rw [if_neg (by rw [c198]; simp)]
             have hG : (updG x ae fl plen om t1 r7 bad) = (({ t1 with pair := PR.1 }, PR.2.1, PR.2.2 || !false), (⟨(some iv), x.hops, bs2⟩ : PrS)) := by unfold updG; rw [if_neg c60]; simp only; rw [n8_eq hae8, ← hbad1, hPF, if_neg (by rw [c112]; simp), hPR, hX, hU]
             refine J.close (A := idA (some ⟨ib, 0, none⟩) (some iv)) (m := [blk ib (Bs.enc iv) 39]) Tk1 (fun _ q => idA_some q) ?_
             rw [hF, hG]
             exact J.ends (res_none rfl) Tk6 ⟨some ⟨ib, 0, none⟩, rfl, rfl⟩
       ·intro ku13 hu13
        refine Run.seq fun k35 hk35 => Run.region ?_
        show Sq _ _ _ [0, 1, 2] _ _ _ _
        refine Mv 0 rfl rfl rfl <| Qp 1 rfl rfl (QP.and8i rfl rfl rfl) <| Qp 2 rfl rfl (QP.neq rfl rfl rfl) <| J.caseD (fun c127 => ?_) (fun c127 => ?_)
        ·refine Sq.nil <| hk35 _ _ <| Run.cond_t rfl <| Run.seq fun k36 hk36 => Run.region ?_
         show Sq _ _ _ [0, 1, 2, 3, 4, 5, 6] _ _ _ _
         refine Mv 0 rfl rfl rfl <| Qp 1 rfl rfl (QP.const (.agg (Bs.enc (⟨[0, 0, 0, 0, 0, 0, 0, 0], rfl⟩ : Bs 8)).toArray) (fun _ _ => by kernel_rfl)) <| Ef 2 rfl rfl (EF.boxA rfl rfl) ?_
         rintro _ _ ⟨b130, rfl, rfl⟩
         refine Qp 3 rfl rfl (QP.nilCheck rfl rfl) <| Fa 4 rfl rfl rfl f64_0 <| Fa 5 rfl rfl rfl f62_0 <| Ac 6 rfl (EF.store rfl rfl rfl z60 ((PacketParser.set_known _ _).trans (PacketParser.sub_known _) (PacketKnown.set_id_ _ _)) (cell_one rfl)) ?_
         rintro _ _ rfl
         refine Sq.nil <| hk36 _ _ <| Run.seq fun k37 hk37 => Run.regionD (M := [0, 1, 3, 7, 15, 31, 63, 0, 128, 511]) (q := 511) (r := 16) Kr ?_
         refine Dp 0 rfl rfl (QP.move rfl rfl) <| Dp 1 rfl rfl (QP.nilCheck rfl rfl) <| Dp 2 rfl rfl (QP.fieldAddr rfl rfl f64_0) <| Dp 3 rfl rfl (QP.fieldAddr rfl rfl f62_0) <| Dr 4 rfl rfl (QR.load1 rfl rfl g60 ((PacketParser.sub_known _).trans (PacketKnown.sub_id_ _))) ?_
         refine Dp 5 rfl rfl (QP.nilCheck rfl rfl) <| Dp 6 rfl rfl (QP.sliceArr rfl rfl Try.underlying39 z5) <| Dp 7 rfl rfl (QP.fieldAddr rfl rfl f41_0) <| Dp 8 rfl rfl (QP.sliceArrLo rfl rfl rfl Try.underlying23 z5 (by decide) (by decide)) <| De 9 <| Om [] rfl rfl (EF.copySl (b := b130) (off := 0) (n := 8) (lo := 0) (k := 8) (ys := (PF.1.a.l.drop 8).take 8) rfl rfl rfl rfl Try.underlying34 z5 (RowsAt.arrAt (x := PF.1.a) Rc (Prefix.sub_a PF.1) (by decide)) (fun h => by omega) (Bs.setPatch (Bs.zero 8) _ (by omega))) ?_
         rintro _ _ ⟨rfl, rfl⟩
         refine ⟨fun _ h => (by cases h), ?_⟩
         refine Dn <| hk37 _ _ <| Run.seq fun k38 hk38 => Run.region ?_
         show Sq _ _ _ [0, 1] _ _ _ _
         refine Mv 0 rfl rfl rfl <| Qp 1 rfl rfl (QP.eql rfl rfl rfl) <| J.caseD (fun c145 => ?_) (fun c145 => ?_)
         ·refine Sq.nil <| hk38 _ _ <| Run.cond_t rfl <| Run.region ?_
          show Sq _ _ _ [0, 1, 2, 3, 4, 5, 6, 7, 8] _ _ _ _
          refine Mv 0 rfl rfl rfl <| Qp 1 rfl rfl (QP.nilCheck rfl rfl) <| Fa 2 rfl rfl rfl f64_0 <| Fa 3 rfl rfl rfl f62_0 <| Qq 4 rfl rfl (QR.load1 rfl rfl g60 ((PacketParser.sub_known _).trans (PacketKnown.sub_id_ _))) ?_
          refine Qp 5 rfl rfl (QP.nilCheck rfl rfl) <| Qp 6 rfl rfl (QP.sliceArrHi rfl rfl rfl Try.underlying39 z5 Og Og (by decide)) <| Ef 7 rfl rfl (EF.buildSliceS rfl Try.underlying34 z5 zero5 rfl (by decide) rfl rfl rfl rfl) ?_
          rintro _ _ ⟨b153, rfl, rfl⟩
          refine Ef 8 rfl rfl (EF.copySl (b := b130) (off := 0) (n := 8) (lo := 0) (k := 4) (ys := [0, 0, 0, 0]) rfl rfl rfl rfl Try.underlying34 z5 (RowsAt.lit (ys := [0, 0, 0, 0]) Rc) (fun h => by omega) (Bs.setPatch ((Bs.zero 8).patch 0 ((PF.1.a.l.drop 8).take 8)) [0, 0, 0, 0] (by omega))) ?_
          rintro _ _ ⟨rfl, rfl⟩
          refine Sq.nil <| J.close (A := idA (some ⟨b130, 0, none⟩) (some (((Bs.zero 8).patch 0 ((PF.1.a.l.drop 8).take 8)).patch 0 [0, 0, 0, 0]))) (m := [blk b130 (Bs.enc (((Bs.zero 8).patch 0 ((PF.1.a.l.drop 8).take 8)).patch 0 [0, 0, 0, 0])) 39]) Tk1 (fun _ q => idA_some q) ?_
          exact J.envJ (J.keep Tk7 (hu13 (some ⟨b130, 0, none⟩) (some (((Bs.zero 8).patch 0 ((PF.1.a.l.drop 8).take 8)).patch 0 [0, 0, 0, 0])) (by rw [if_pos c127]; unfold idOf; rw [if_pos c145]))) ⟨rfl, rfl, rfl, rfl, trivial⟩
         ·refine Sq.nil <| hk38 _ _ <| Run.cond_f rfl <| Run.skip <| J.close (A := idA (some ⟨b130, 0, none⟩) (some ((Bs.zero 8).patch 0 ((PF.1.a.l.drop 8).take 8)))) (m := [blk b130 (Bs.enc ((Bs.zero 8).patch 0 ((PF.1.a.l.drop 8).take 8))) 39]) Tk1 (fun _ q => idA_some q) ?_
          exact J.envJ (J.keep Tk7 (hu13 (some ⟨b130, 0, none⟩) (some ((Bs.zero 8).patch 0 ((PF.1.a.l.drop 8).take 8))) (by rw [if_pos c127]; unfold idOf; rw [if_neg c145]))) ⟨rfl, rfl, rfl, rfl, trivial⟩
        ·refine Sq.nil <| hk35 _ _ <| Run.cond_f rfl <| Run.skip ?_
         exact J.envJ (J.keep Tk7 (hu13 (idp) (x.id) ((if_neg c127).symm))) ⟨rfl, rfl, rfl, rfl, trivial⟩
      ·intro ku12 hu12
       refine Run.seq fun k39 hk39 => Run.region ?_
       show Sq _ _ _ [0, 1, 2] _ _ _ _
       refine Mv 0 rfl rfl rfl <| Qp 1 rfl rfl (QP.and8i rfl rfl rfl) <| Qp 2 rfl rfl (QP.neq rfl rfl rfl) <| J.caseD (fun c116 => ?_) (fun c116 => ?_)
       ·refine Sq.nil <| hk39 _ _ <| Run.cond_t rfl <| Run.regionD (M := [0, 1, 3, 7, 15, 0, 0, 64, 255]) (q := 255) (r := 144) Kr ?_
        refine Dp 0 rfl rfl (QP.move rfl rfl) <| Dp 1 rfl rfl (QP.nilCheck rfl rfl) <| Dp 2 rfl rfl (QP.fieldAddr rfl rfl f64_0) <| Dp 3 rfl rfl (QP.fieldAddr rfl rfl f62_2) <| Dr 4 rfl rfl (QR.load1 rfl rfl g59 ((PacketParser.sub_known _).trans (PacketKnown.sub_bases _))) ?_
        refine Dp 5 rfl rfl (QP.move rfl rfl) <| Dp 6 rfl rfl (QP.fieldAddr rfl rfl f41_0) <| Dr 7 rfl rfl (QR.load rfl rfl g23 (Prefix.sub_a _)) ?_
        refine De 8 <| Oa [] rfl (EF.mapUpdate (k := (⟨ae, hae8⟩ : N8)) (v := PF.1.a) keyB rfl rfl rfl rfl Try.underlying59) ?_
        rintro _ _ rfl
        refine ⟨fun _ h => (by cases h), ?_⟩
        refine Dn ?_
        exact J.envJ (J.keep Tk7 (hu12 (aset x.bases (⟨ae, hae8⟩ : N8) PF.1.a) ((if_pos c116).symm))) ⟨rfl, rfl, rfl, rfl, rfl, trivial⟩
       ·refine Sq.nil <| hk39 _ _ <| Run.cond_f rfl <| Run.skip ?_
        exact J.envJ (J.keep Tk7 (hu12 (x.bases) ((if_neg c116).symm))) ⟨rfl, rfl, rfl, rfl, rfl, trivial⟩
     ·refine Qp 2 rfl rfl (QP.not rfl rfl) <| Sq.nil <| hk11 _ _ <| Run.cond_t rfl <| Run.ret ?_
      have hF : updF x t r bad = (updG x ae fl plen om t1 r7 bad) := by unfold updF; simp only [hr1, hr2, hr3, hr4, hae, hfl, hpl, hom, hr7, ← ht1]
      have hG : (updG x ae fl plen om t1 r7 bad) = ((t1, PF.2.1, PF.2.2), x) := by unfold updG; rw [if_neg c60]; simp only; rw [n8_eq hae8, ← hbad1, hPF, if_pos c112]
      rw [hF, hG]
      exact J.ends (res_none rfl) Tk6 ⟨idp, rfl, rfl⟩
    ·intro ku8 hu8
     refine Run.region ?_
     show Sq _ _ _ [0, 1, 2, 3, 4, 5, 6] _ _ _ _
     refine Mv 0 rfl rfl rfl <| Mv 1 rfl rfl rfl <| Qp 2 rfl rfl (QP.eql rfl rfl rfl) <| J.caseD (fun c100 => ?_) (fun c100 => ?_)
     ·refine Mv 3 rfl rfl rfl <| Sk 4 rfl rfl rfl <| Pt 5 rfl rfl rfl rfl <| Ef 6 rfl rfl (EF.call rfl ce62 rfl Tk2 (fun F' hle hr => need_spec F' (t := t1) (bad := bad) (r := r7) true)) ?_
      rintro _ _ ⟨_, ⟨rfl, rfl⟩, rfl⟩
      refine J.app ?_
      refine Sq.nil ?_
      exact J.envJ (J.keep Tk7 (hu8 ((bad || !true)) (by rw [decide_eq_true c100, c97]; rfl))) ⟨rfl, rfl, rfl, rfl, rfl, rfl, rfl, trivial⟩
     ·refine Mv 3 rfl rfl rfl <| Ym 4 rfl rfl rfl rfl <| Pf 5 rfl rfl rfl rfl <| Ef 6 rfl rfl (EF.call rfl ce62 rfl Tk2 (fun F' hle hr => need_spec F' (t := t1) (bad := bad) (r := r7) true)) ?_
      rintro _ _ ⟨_, ⟨rfl, rfl⟩, rfl⟩
      refine J.app ?_
      refine Sq.nil ?_
      exact J.envJ (J.keep Tk7 (hu8 ((bad || !true)) (by rw [decide_eq_false c100, c97]; rfl))) ⟨rfl, rfl, rfl, rfl, rfl, rfl, rfl, trivial⟩
   ·refine Ef 10 rfl rfl (EF.allocA (l := (Bs.zero 16).enc) rfl zero23) ?_
    rintro _ _ ⟨b8, rfl, rfl⟩
    refine Ac 11 rfl (EF.storeA rfl rfl rfl z23 (SetL.all (Bs.len _) (Bs.len _)) (Bs.cell _)) ?_
    rintro _ _ rfl
    refine Sg 12 rfl rfl rfl <| Sq.nil <| hk7 _ _ <| Run.cut1 (fun (bad1 : Bool) => bad1 = (bad || !(decide (om = 0) || (alook x.bases (⟨ae, hae8⟩ : N8)).isSome))) (fun bad1 => .cons 0 (fp xb) (.cons 1 (fp b) (.cons 4 (.int .u8 ae) (.cons 5 (.int .u8 fl) (.cons 6 (.int .u8 plen) (.cons 7 (.int .u8 om) (.cons 8 (fp b8) (.nil)))))))) (fun bad1 => [blk b (PacketPiece.enc ⟨some ⟨rb, 0, none⟩, t1, bad1⟩) 100, RdA rb r7, blk xb (PacketParser.enc ⟨⟨idp, some hm, some bm⟩⟩) 64, mapH hm x.hops, mapB bm x.bases, idA idp x.id, blk b8 (Bs.enc ((alook x.bases (⟨ae, hae8⟩ : N8)).getD (Bs.zero 16))) 23]) ?_ ?_
    ·rintro bad1 hbad1
     refine Run.seq fun k41 hk41 => Run.region ?_
     show Sq _ _ _ [0, 1, 2, 3, 4, 5, 6, 7] _ _ _ _
     refine Mv 0 rfl rfl rfl <| Mv 1 rfl rfl rfl <| Mv 2 rfl rfl rfl <| Mv 3 rfl rfl rfl <| Qq 4 rfl rfl (QR.load rfl rfl g23 (Bs.sub _)) ?_
     refine Ef 5 rfl rfl (EF.call rfl ce65 rfl Tk2 (fun F' hle hr => prefix_spec F' (t := t1) (bad := bad1) (r := r7) ae plen om ((alook x.bases (⟨ae, hae8⟩ : N8)).getD (Bs.zero 16)) hplr homr)) ?_
     rintro _ _ ⟨_, ⟨rfl, rfl⟩, rfl⟩
     refine J.app ?_
     have hPl := pref_few (ae := ae) (plen := plen) (om := om) (base := ((alook x.bases (⟨ae, hae8⟩ : N8)).getD (Bs.zero 16))) (bad := bad1) hr7l
     generalize hPF : prefF ae plen om ((alook x.bases (⟨ae, hae8⟩ : N8)).getD (Bs.zero 16)) r7 bad1 = PF at hPl ⊢
     refine Ef 6 rfl rfl (EF.allocA (l := Prefix.enc Prefix.zero) rfl zero41) ?_
     rintro _ _ ⟨b10, rfl, rfl⟩
     refine Ac 7 rfl (EF.storeA rfl rfl rfl z41 (SetL.all (Prefix.enc_len _) (Prefix.enc_len _)) (Prefix.enc_cell _)) ?_
     rintro _ _ rfl
     refine Sq.nil <| hk41 _ _ <| Run.seq fun k42 hk42 => Run.seq fun k43 hk43 => Run.region ?_
     show Sq _ _ _ [0, 1, 2] _ _ _ _
     refine Mv 0 rfl rfl rfl <| Ef 1 rfl rfl (EF.call rfl ce42 rfl Tk2 (fun F' hle hr => sound_spec F' (t := t1) (bad := PF.2.2) (r := PF.2.1))) ?_
     rintro _ _ ⟨_, ⟨rfl, rfl⟩, rfl⟩
     refine J.app ?_
     refine J.caseB (fun c112 => ?_) (fun c112 => ?_)
     ·refine Qp 2 rfl rfl (QP.not rfl rfl) <| Sq.nil <| hk43 _ _ <| Run.cond_f rfl <| Run.skip <| hk42 _ _ <| Run.cut1 (fun (bs2 : List (N8 × Bs 16)) => bs2 = (if and8i fl 128 ≠ 0 then aset x.bases (⟨ae, hae8⟩ : N8) PF.1.a else x.bases)) (fun bs2 => .cons 0 (fp xb) (.cons 1 (fp b) (.cons 4 (.int .u8 ae) (.cons 5 (.int .u8 fl) (.cons 10 (fp b10) (.nil)))))) (fun bs2 => [blk b (PacketPiece.enc ⟨some ⟨rb, 0, none⟩, t1, PF.2.2⟩) 100, RdA rb PF.2.1, blk xb (PacketParser.enc ⟨⟨idp, some hm, some bm⟩⟩) 64, mapH hm x.hops, mapB bm bs2, idA idp x.id, blk b10 (Prefix.enc PF.1) 41]) ?_ ?_
      ·rintro bs2 hbs2
       refine Run.cut2 (fun (idp2 : Option Addr) (id2 : Option (Bs 8)) => id2 = (if and8i fl 64 ≠ 0 then some (idOf ae PF.1.a) else x.id)) (fun idp2 id2 => .cons 0 (fp xb) (.cons 1 (fp b) (.cons 4 (.int .u8 ae) (.cons 10 (fp b10) (.nil))))) (fun idp2 id2 => [blk b (PacketPiece.enc ⟨some ⟨rb, 0, none⟩, t1, PF.2.2⟩) 100, RdA rb PF.2.1, blk xb (PacketParser.enc ⟨⟨idp2, some hm, some bm⟩⟩) 64, mapH hm x.hops, mapB bm bs2, idA idp2 id2, blk b10 (Prefix.enc PF.1) 41]) ?_ ?_
       ·rintro idp2 id2 hid2
        refine Run.seq fun k46 hk46 => Run.region ?_
        show Sq _ _ _ [0, 1, 2, 3] _ _ _ _
        refine Mv 0 rfl rfl rfl <| Mv 1 rfl rfl rfl <| Qq 2 rfl rfl (QR.load rfl rfl g41 (Prefix.enc_sub _)) ?_
        refine Ef 3 rfl rfl (EF.call rfl ce66 rfl Tk2 (fun F' hle hr => pair_spec F' (t := t1) (bad := PF.2.2) (r := PF.2.1) ae PF.1 haer hPl)) ?_
        rintro _ _ ⟨_, ⟨rfl, rfl⟩, rfl⟩
        refine J.app ?_
        generalize hPR : pairF ae PF.1 PF.2.2 PF.2.1 = PR
        refine Sq.nil <| hk46 _ _ <| Run.seq fun k47 hk47 => Run.seq fun k48 hk48 => Run.region ?_
        show Sq _ _ _ [0, 1, 2, 3, 4, 5] _ _ _ _
        refine Mv 0 rfl rfl rfl ?_
        rcases hid : id2 with _ | iv
        ·refine Qp 1 rfl rfl (QP.nilCheck rfl rfl) <| Fa 2 rfl rfl rfl f100_1 <| Fa 3 rfl rfl rfl f46_5 <| Qq 4 rfl rfl (QR.load1 rfl rfl g37 ((PacketPiece.sub_tlv _).trans (Tlv.sub_metric _))) ?_
         refine Qp 5 rfl rfl (QP.eql rfl rfl rfl) <| J.caseD (fun c164 => ?_) (fun c164 => ?_)
         ·refine Sq.nil <| hk48 _ _ <| Run.cond_t rfl <| Run.ret ?_
          have hF : updF x t r bad = (updG x ae fl plen om t1 r7 bad) := by unfold updF; simp only [hr1, hr2, hr3, hr4, hae, hfl, hpl, hom, hr7, ← ht1]
          have hX : updX x ae fl PF.1 = (⟨none, x.hops, bs2⟩ : PrS) := by unfold updX; rw [← hid2, n8_eq hae8, ← hbs2, hid]
          have hU : updH (⟨none, x.hops, bs2⟩ : PrS) PR PF.1 t1 = ({ t1 with pair := PR.1 }, PR.2.1, PR.2.2) := by unfold updH; rw [if_pos c164]
          have hG : (updG x ae fl plen om t1 r7 bad) = (({ t1 with pair := PR.1 }, PR.2.1, PR.2.2), (⟨none, x.hops, bs2⟩ : PrS)) := by unfold updG; rw [if_neg c60]; simp only; rw [n8_eq hae8, ← hbad1, hPF, if_neg (by rw [c112]; simp), hPR, hX, hU]
          rw [hF, hG]
          exact J.ends (res_none rfl) Tk6 ⟨idp2, rfl, rfl⟩
         ·refine Sq.nil <| hk48 _ _ <| Run.cond_f rfl <| Run.skip <| hk47 _ _ <| Run.seq fun k49 hk49 => Run.regionM (M := [0, 1, 3, 7, 15, 0, 32, 127, 255, 511, 511, 0, 3071, 8191]) (q := 1983) (r := 176) mixedT Kr ?_
          refine J.idNone Rc (fun hip => ?_)
          subst hip
          refine Dp 0 rfl rfl (QP.move rfl rfl) <| Dp 1 rfl rfl (QP.nilCheck rfl rfl) <| Dp 2 rfl rfl (QP.fieldAddr rfl rfl f64_0) <| Dp 3 rfl rfl (QP.fieldAddr rfl rfl f62_1) <| Dr 4 rfl rfl (QR.load1 rfl rfl g58 ((PacketParser.sub_known _).trans (PacketKnown.sub_hops _))) ?_
          refine Dr 5 rfl rfl (QR.load rfl rfl g41 (Prefix.enc_sub _)) ?_
          refine Dw.effs (l := [6, 11]) Kr Kr ?_
          rw [List.forall_mem_cons, List.forall_mem_cons]
          refine ⟨?_, ?_, fun _ h => (by cases h)⟩
          ·refine Om [4] rfl rfl (EF.call rfl ce54 rfl Takes.nil (fun F' hle hr => pfamily_spec F' (PF.1))) ?_
           rintro _ _ ⟨_, ⟨rfl, rfl⟩, rfl⟩
           refine ⟨?_, ?_⟩
           ·rw [List.forall_mem_cons]
            refine ⟨?_, fun _ h => (by cases h)⟩
            ·refine Look.app ?_
             exact Look.mk rfl rfl rfl (QR.load1 rfl rfl g58 ((PacketParser.sub_known _).trans (PacketKnown.sub_hops _)))
           refine ?_
           refine J.app ?_
           refine Dr 7 rfl rfl (QR.lookup2V (k := (⟨pfamilyB PF.1, pfamily_range _⟩ : I64)) keyH rfl rfl rfl Try.underlying58 (z := Bs.zero 16) zero23) ?_
           refine Dp 8 rfl rfl (QP.move rfl rfl) <| Dp 9 rfl rfl (QP.extract rfl rfl rfl) <| Dp 10 rfl rfl (QP.extract rfl rfl rfl) <| J.caseB (fun c175 => ?_) (fun c175 => ?_)
           ·refine De 11 <| Om [7, 5, 4] rfl rfl (EF.allocA (l := (Bs.zero 16).enc) rfl zero23) ?_
            rintro _ _ ⟨b11, rfl, rfl⟩
            refine ⟨?_, ?_⟩
            ·rw [List.forall_mem_cons, List.forall_mem_cons, List.forall_mem_cons]
             refine ⟨?_, ?_, ?_, fun _ h => (by cases h)⟩
             ·exact Look.mk rfl rfl rfl (QR.lookup2V (k := (⟨pfamilyB PF.1, pfamily_range _⟩ : I64)) keyH rfl rfl rfl Try.underlying58 (z := Bs.zero 16) zero23)
             ·exact Look.mk rfl rfl rfl (QR.load rfl rfl g41 (Prefix.enc_sub _))
             ·exact Look.mk rfl rfl rfl (QR.load1 rfl rfl g58 ((PacketParser.sub_known _).trans (PacketKnown.sub_hops _)))
            refine ?_
            refine De 12 <| Oa [] rfl (EF.storeA rfl rfl rfl z23 (SetL.all (Bs.len _) (Bs.len _)) (Bs.cell _)) ?_
            rintro _ _ rfl
            refine ⟨fun _ h => (by cases h), ?_⟩
            refine De 13 <| Om [] rfl rfl ((QP.assign rfl rfl).eff) ?_
            rintro _ _ ⟨rfl, rfl⟩
            refine ⟨fun _ h => (by cases h), ?_⟩
            refine Dn <| hk49 _ _ <| Run.seq fun k50 hk50 => Run.region ?_
            show Sq _ _ _ [0, 1, 2, 3, 4, 5, 6, 7, 8, 9, 10, 11, 12, 13, 14, 15, 16, 17, 18, 19, 20] _ _ _ _
            refine Mv 0 rfl rfl rfl <| Mv 1 rfl rfl rfl <| Mv 2 rfl rfl rfl <| Ym 3 rfl rfl rfl rfl <| Yp 4 rfl rfl rfl (QP.nilCheck rfl rfl) <| Yf 5 rfl rfl rfl rfl f64_0 <| Yf 6 rfl rfl rfl rfl f62_0 <| Yq 7 rfl rfl rfl (QR.load1 rfl rfl g60 ((PacketParser.sub_known _).trans (PacketKnown.sub_id_ _))) ?_
            refine Yp 8 rfl rfl rfl (QP.ptr_ne_nil rfl rfl rfl Try.underlying60) <| Pt 9 rfl rfl rfl rfl <| Mv 10 rfl rfl rfl <| Sk 11 rfl rfl rfl <| Sk 12 rfl rfl rfl <| Sk 13 rfl rfl rfl <| Sk 14 rfl rfl rfl <| Sk 15 rfl rfl rfl <| Sk 16 rfl rfl rfl <| Sk 17 rfl rfl rfl <| Sk 18 rfl rfl rfl <| Pf 19 rfl rfl rfl rfl <| Ef 20 rfl rfl (EF.call rfl ce62 rfl Tk2 (fun F' hle hr => need_spec F' (t := { t1 with pair := PR.1 }) (bad := PR.2.2) (r := PR.2.1) false)) ?_
            rintro _ _ ⟨_, ⟨rfl, rfl⟩, rfl⟩
            refine J.app ?_
            refine Sq.nil <| hk50 _ _ <| Run.seq fun k51 hk51 => Run.region ?_
            show Sq _ _ _ [0, 1] _ _ _ _
            refine Mv 0 rfl rfl rfl <| Ef 1 rfl rfl (EF.call rfl ce42 rfl Tk2 (fun F' hle hr => sound_spec F' (t := { t1 with pair := PR.1 }) (bad := (PR.2.2 || !false)) (r := PR.2.1))) ?_
            rintro _ _ ⟨_, ⟨rfl, rfl⟩, rfl⟩
            refine J.app ?_
            refine J.caseB (fun c198 => ?_) (fun c198 => ?_)
            ·refine Sq.nil <| hk51 _ _ <| Run.cond_t rfl <| Run.regionM (M := [0, 0, 0, 4, 12, 28, 60, 124, 252, 0, 509, 1533, 3581, 7677, 16383, 32767, 65535, 131071]) (q := 122879) (r := 832) mixedT Kr ?_
             exact absurd c198 (by simp [soundB])
            ·refine Sq.nil <| hk51 _ _ <| Run.cond_f rfl <| Run.skip ?_
             have hF : updF x t r bad = (updG x ae fl plen om t1 r7 bad) := by unfold updF; simp only [hr1, hr2, hr3, hr4, hae, hfl, hpl, hom, hr7, ← ht1]
             have hX : updX x ae fl PF.1 = (⟨none, x.hops, bs2⟩ : PrS) := by unfold updX; rw [← hid2, n8_eq hae8, ← hbs2, hid]
             have hU : updH (⟨none, x.hops, bs2⟩ : PrS) PR PF.1 t1 = ({ t1 with pair := PR.1 }, PR.2.1, PR.2.2 || !false) := by unfold updH; rw [if_neg c164, n64_eq (pfamily_range _), show (alook x.hops (⟨pfamilyB PF.1, pfamily_range _⟩ : I64)).isSome = true from c175]; simp only [Bool.true_and, Bool.false_and, Bool.and_false]; rw [if_neg (by rw [c198]; simp)]
             have hG : (updG x ae fl plen om t1 r7 bad) = (({ t1 with pair := PR.1 }, PR.2.1, PR.2.2 || !false), (⟨none, x.hops, bs2⟩ : PrS)) := by unfold updG; rw [if_neg c60]; simp only; rw [n8_eq hae8, ← hbad1, hPF, if_neg (by rw [c112]; simp), hPR, hX, hU]
             refine J.addId ?_
             rw [hF, hG]
             exact J.ends (res_none rfl) Tk6 ⟨none, rfl, rfl⟩
           ·refine De 11 <| Om [7, 5, 4] rfl rfl (EF.allocA (l := (Bs.zero 16).enc) rfl zero23) ?_
            rintro _ _ ⟨b11, rfl, rfl⟩
            refine ⟨?_, ?_⟩
            ·rw [List.forall_mem_cons, List.forall_mem_cons, List.forall_mem_cons]
             refine ⟨?_, ?_, ?_, fun _ h => (by cases h)⟩
             ·exact Look.mk rfl rfl rfl (QR.lookup2V (k := (⟨pfamilyB PF.1, pfamily_range _⟩ : I64)) keyH rfl rfl rfl Try.underlying58 (z := Bs.zero 16) zero23)
             ·exact Look.mk rfl rfl rfl (QR.load rfl rfl g41 (Prefix.enc_sub _))
             ·exact Look.mk rfl rfl rfl (QR.load1 rfl rfl g58 ((PacketParser.sub_known _).trans (PacketKnown.sub_hops _)))
            refine ?_
            refine De 12 <| Oa [] rfl (EF.storeA rfl rfl rfl z23 (SetL.all (Bs.len _) (Bs.len _)) (Bs.cell _)) ?_
            rintro _ _ rfl
            refine ⟨fun _ h => (by cases h), ?_⟩
            refine De 13 <| Om [] rfl rfl ((QP.assign rfl rfl).eff) ?_
            rintro _ _ ⟨rfl, rfl⟩
            refine ⟨fun _ h => (by cases h), ?_⟩
            refine Dn <| hk49 _ _ <| Run.seq fun k52 hk52 => Run.region ?_
            show Sq _ _ _ [0, 1, 2, 3, 4, 5, 6, 7, 8, 9, 10, 11, 12, 13, 14, 15, 16, 17, 18, 19, 20] _ _ _ _
            refine Mv 0 rfl rfl rfl <| Mv 1 rfl rfl rfl <| Mv 2 rfl rfl rfl <| Sk 3 rfl rfl rfl <| Sk 4 rfl rfl rfl <| Sk 5 rfl rfl rfl <| Sk 6 rfl rfl rfl <| Sk 7 rfl rfl rfl <| Sk 8 rfl rfl rfl <| Pf 9 rfl rfl rfl rfl <| Mv 10 rfl rfl rfl <| Sk 11 rfl rfl rfl <| Sk 12 rfl rfl rfl <| Sk 13 rfl rfl rfl <| Sk 14 rfl rfl rfl <| Sk 15 rfl rfl rfl <| Sk 16 rfl rfl rfl <| Sk 17 rfl rfl rfl <| Sk 18 rfl rfl rfl <| Pf 19 rfl rfl rfl rfl <| Ef 20 rfl rfl (EF.call rfl ce62 rfl Tk2 (fun F' hle hr => need_spec F' (t := { t1 with pair := PR.1 }) (bad := PR.2.2) (r := PR.2.1) false)) ?_
            rintro _ _ ⟨_, ⟨rfl, rfl⟩, rfl⟩
            refine J.app ?_
            refine Sq.nil <| hk52 _ _ <| Run.seq fun k53 hk53 => Run.region ?_
            show Sq _ _ _ [0, 1] _ _ _ _
            refine Mv 0 rfl rfl rfl <| Ef 1 rfl rfl (EF.call rfl ce42 rfl Tk2 (fun F' hle hr => sound_spec F' (t := { t1 with pair := PR.1 }) (bad := (PR.2.2 || !false)) (r := PR.2.1))) ?_
            rintro _ _ ⟨_, ⟨rfl, rfl⟩, rfl⟩
            refine J.app ?_
            refine J.caseB (fun c198 => ?_) (fun c198 => ?_)
            ·refine Sq.nil <| hk53 _ _ <| Run.cond_t rfl <| Run.regionM (M := [0, 0, 0, 4, 12, 28, 60, 124, 252, 0, 509, 1533, 3581, 7677, 16383, 32767, 65535, 131071]) (q := 122879) (r := 832) mixedT Kr ?_
             exact absurd c198 (by simp [soundB])
            ·refine Sq.nil <| hk53 _ _ <| Run.cond_f rfl <| Run.skip ?_
             have hF : updF x t r bad = (updG x ae fl plen om t1 r7 bad) := by unfold updF; simp only [hr1, hr2, hr3, hr4, hae, hfl, hpl, hom, hr7, ← ht1]
             have hX : updX x ae fl PF.1 = (⟨none, x.hops, bs2⟩ : PrS) := by unfold updX; rw [← hid2, n8_eq hae8, ← hbs2, hid]
             have hU : updH (⟨none, x.hops, bs2⟩ : PrS) PR PF.1 t1 = ({ t1 with pair := PR.1 }, PR.2.1, PR.2.2 || !false) := by unfold updH; rw [if_neg c164, n64_eq (pfamily_range _), show (alook x.hops (⟨pfamilyB PF.1, pfamily_range _⟩ : I64)).isSome = false from c175]; simp only [Bool.true_and, Bool.false_and, Bool.and_false]; rw [if_neg (by rw [c198]; simp)]
             have hG : (updG x ae fl plen om t1 r7 bad) = (({ t1 with pair := PR.1 }, PR.2.1, PR.2.2 || !false), (⟨none, x.hops, bs2⟩ : PrS)) := by unfold updG; rw [if_neg c60]; simp only; rw [n8_eq hae8, ← hbad1, hPF, if_neg (by rw [c112]; simp), hPR, hX, hU]
             refine J.addId ?_
             rw [hF, hG]
             exact J.ends (res_none rfl) Tk6 ⟨none, rfl, rfl⟩
          ·refine Om [5, 4] rfl rfl (EF.allocA (l := (Bs.zero 16).enc) rfl zero23) ?_
           rintro _ _ ⟨b11, rfl, rfl⟩
           refine ⟨?_, ?_⟩
           ·rw [List.forall_mem_cons, List.forall_mem_cons]
            refine ⟨?_, ?_, fun _ h => (by cases h)⟩
            ·exact Look.mk rfl rfl rfl (QR.load rfl rfl g41 (Prefix.enc_sub _))
            ·exact Look.mk rfl rfl rfl (QR.load1 rfl rfl g58 ((PacketParser.sub_known _).trans (PacketKnown.sub_hops _)))
           refine ?_
           refine De 6 <| Om [4] rfl rfl (EF.call rfl ce54 rfl Takes.nil (fun F' hle hr => pfamily_spec F' (PF.1))) ?_
           rintro _ _ ⟨_, ⟨rfl, rfl⟩, rfl⟩
           refine ⟨?_, ?_⟩
           ·rw [List.forall_mem_cons]
            refine ⟨?_, fun _ h => (by cases h)⟩
            ·refine Look.app ?_
             exact Look.mk rfl rfl rfl (QR.load1 rfl rfl g58 ((PacketParser.sub_known _).trans (PacketKnown.sub_hops _)))
           refine ?_
           refine J.app ?_
           refine Dr 7 rfl rfl (QR.lookup2V (k := (⟨pfamilyB PF.1, pfamily_range _⟩ : I64)) keyH rfl rfl rfl Try.underlying58 (z := Bs.zero 16) zero23) ?_
           refine Dp 8 rfl rfl (QP.move rfl rfl) <| Dp 9 rfl rfl (QP.extract rfl rfl rfl) <| Dp 10 rfl rfl (QP.extract rfl rfl rfl) <| J.caseB (fun c175 => ?_) (fun c175 => ?_)
           ·refine De 12 <| Oa [] rfl (EF.storeA rfl rfl rfl z23 (SetL.all (Bs.len _) (Bs.len _)) (Bs.cell _)) ?_
            rintro _ _ rfl
            refine ⟨fun _ h => (by cases h), ?_⟩
            refine De 13 <| Om [] rfl rfl ((QP.assign rfl rfl).eff) ?_
            rintro _ _ ⟨rfl, rfl⟩
            refine ⟨fun _ h => (by cases h), ?_⟩
            refine Dn <| hk49 _ _ <| Run.seq fun k54 hk54 => Run.region ?_
            show Sq _ _ _ [0, 1, 2, 3, 4, 5, 6, 7, 8, 9, 10, 11, 12, 13, 14, 15, 16, 17, 18, 19, 20] _ _ _ _
            refine Mv 0 rfl rfl rfl <| Mv 1 rfl rfl rfl <| Mv 2 rfl rfl rfl <| Ym 3 rfl rfl rfl rfl <| Yp 4 rfl rfl rfl (QP.nilCheck rfl rfl) <| Yf 5 rfl rfl rfl rfl f64_0 <| Yf 6 rfl rfl rfl rfl f62_0 <| Yq 7 rfl rfl rfl (QR.load1 rfl rfl g60 ((PacketParser.sub_known _).trans (PacketKnown.sub_id_ _))) ?_
            refine Yp 8 rfl rfl rfl (QP.ptr_ne_nil rfl rfl rfl Try.underlying60) <| Pt 9 rfl rfl rfl rfl <| Mv 10 rfl rfl rfl <| Sk 11 rfl rfl rfl <| Sk 12 rfl rfl rfl <| Sk 13 rfl rfl rfl <| Sk 14 rfl rfl rfl <| Sk 15 rfl rfl rfl <| Sk 16 rfl rfl rfl <| Sk 17 rfl rfl rfl <| Sk 18 rfl rfl rfl <| Pf 19 rfl rfl rfl rfl <| Ef 20 rfl rfl (EF.call rfl ce62 rfl Tk2 (fun F' hle hr => need_spec F' (t := { t1 with pair := PR.1 }) (bad := PR.2.2) (r := PR.2.1) false)) ?_
            rintro _ _ ⟨_, ⟨rfl, rfl⟩, rfl⟩
            refine J.app ?_
            refine Sq.nil <| hk54 _ _ <| Run.seq fun k55 hk55 => Run.region ?_
            show Sq _ _ _ [0, 1] _ _ _ _
            refine Mv 0 rfl rfl rfl <| Ef 1 rfl rfl (EF.call rfl ce42 rfl Tk2 (fun F' hle hr => sound_spec F' (t := { t1 with pair := PR.1 }) (bad := (PR.2.2 || !false)) (r := PR.2.1))) ?_
            rintro _ _ ⟨_, ⟨rfl, rfl⟩, rfl⟩
            refine J.app ?_
            refine J.caseB (fun c198 => ?_) (fun c198 => ?_)
            ·refine Sq.nil <| hk55 _ _ <| Run.cond_t rfl <| Run.regionM (M := [0, 0, 0, 4, 12, 28, 60, 124, 252, 0, 509, 1533, 3581, 7677, 16383, 32767, 65535, 131071]) (q := 122879) (r := 832) mixedT Kr ?_
             exact absurd c198 (by simp [soundB])
            ·refine Sq.nil <| hk55 _ _ <| Run.cond_f rfl <| Run.skip ?_
             have hF : updF x t r bad = (updG x ae fl plen om t1 r7 bad) := by unfold updF; simp only [hr1, hr2, hr3, hr4, hae, hfl, hpl, hom, hr7, ← ht1]
             have hX : updX x ae fl PF.1 = (⟨none, x.hops, bs2⟩ : PrS) := by unfold updX; rw [← hid2, n8_eq hae8, ← hbs2, hid]
             have hU : updH (⟨none, x.hops, bs2⟩ : PrS) PR PF.1 t1 = ({ t1 with pair := PR.1 }, PR.2.1, PR.2.2 || !false) := by unfold updH; rw [if_neg c164, n64_eq (pfamily_range _), show (alook x.hops (⟨pfamilyB PF.1, pfamily_range _⟩ : I64)).isSome = true from c175]; simp only [Bool.true_and, Bool.false_and, Bool.and_false]; rw [if_neg (by rw [c198]; simp)]
             have hG : (updG x ae fl plen om t1 r7 bad) = (({ t1 with pair := PR.1 }, PR.2.1, PR.2.2 || !false), (⟨none, x.hops, bs2⟩ : PrS)) := by unfold updG; rw [if_neg c60]; simp only; rw [n8_eq hae8, ← hbad1, hPF, if_neg (by rw [c112]; simp), hPR, hX, hU]
             refine J.addId ?_
             rw [hF, hG]
             exact J.ends (res_none rfl) Tk6 ⟨none, rfl, rfl⟩
           ·refine De 12 <| Oa [] rfl (EF.storeA rfl rfl rfl z23 (SetL.all (Bs.len _) (Bs.len _)) (Bs.cell _)) ?_
            rintro _ _ rfl
            refine ⟨fun _ h => (by cases h), ?_⟩
            refine De 13 <| Om [] rfl rfl ((QP.assign rfl rfl).eff) ?_
            rintro _ _ ⟨rfl, rfl⟩
            refine ⟨fun _ h => (by cases h), ?_⟩
            refine Dn <| hk49 _ _ <| Run.seq fun k56 hk56 => Run.region ?_
            show Sq _ _ _ [0, 1, 2, 3, 4, 5, 6, 7, 8, 9, 10, 11, 12, 13, 14, 15, 16, 17, 18, 19, 20] _ _ _ _
            refine Mv 0 rfl rfl rfl <| Mv 1 rfl rfl rfl <| Mv 2 rfl rfl rfl <| Sk 3 rfl rfl rfl <| Sk 4 rfl rfl rfl <| Sk 5 rfl rfl rfl <| Sk 6 rfl rfl rfl <| Sk 7 rfl rfl rfl <| Sk 8 rfl rfl rfl <| Pf 9 rfl rfl rfl rfl <| Mv 10 rfl rfl rfl <| Sk 11 rfl rfl rfl <| Sk 12 rfl rfl rfl <| Sk 13 rfl rfl rfl <| Sk 14 rfl rfl rfl <| Sk 15 rfl rfl rfl <| Sk 16 rfl rfl rfl <| Sk 17 rfl rfl rfl <| Sk 18 rfl rfl rfl <| Pf 19 rfl rfl rfl rfl <| Ef 20 rfl rfl (EF.call rfl ce62 rfl Tk2 (fun F' hle hr => need_spec F' (t := { t1 with pair := PR.1 }) (bad := PR.2.2) (r := PR.2.1) false)) ?_
            rintro _ _ ⟨_, ⟨rfl, rfl⟩, rfl⟩
            refine J.app ?_
            refine Sq.nil <| hk56 _ _ <| Run.seq fun k57 hk57 => Run.region ?_
            show Sq _ _ _ [0, 1] _ _ _ _
            refine Mv 0 rfl rfl rfl <| Ef 1 rfl rfl (EF.call rfl ce42 rfl Tk2 (fun F' hle hr => sound_spec F' (t := { t1 with pair := PR.1 }) (bad := (PR.2.2 || !false)) (r := PR.2.1))) ?_
            rintro _ _ ⟨_, ⟨rfl, rfl⟩, rfl⟩
            refine J.app ?_
            refine J.caseB (fun c198 => ?_) (fun c198 => ?_)
            ·refine Sq.nil <| hk57 _ _ <| Run.cond_t rfl <| Run.regionM (M := [0, 0, 0, 4, 12, 28, 60, 124, 252, 0, 509, 1533, 3581, 7677, 16383, 32767, 65535, 131071]) (q := 122879) (r := 832) mixedT Kr ?_
             exact absurd c198 (by simp [soundB])
            ·refine Sq.nil <| hk57 _ _ <| Run.cond_f rfl <| Run.skip ?_
             have hF : updF x t r bad = (updG x ae fl plen om t1 r7 bad) := by unfold updF; simp only [hr1, hr2, hr3, hr4, hae, hfl, hpl, hom, hr7, ← ht1]
             have hX : updX x ae fl PF.1 = (⟨none, x.hops, bs2⟩ : PrS) := by unfold updX; rw [← hid2, n8_eq hae8, ← hbs2, hid]
             have hU : updH (⟨none, x.hops, bs2⟩ : PrS) PR PF.1 t1 = ({ t1 with pair := PR.1 }, PR.2.1, PR.2.2 || !false) := by unfold updH; rw [if_neg c164, n64_eq (pfamily_range _), show (alook x.hops (⟨pfamilyB PF.1, pfamily_range _⟩ : I64)).isSome = false from c175]; simp only [Bool.true_and, Bool.false_and, Bool.and_false]; rw [if_neg (by rw [c198]; simp)]
             have hG : (updG x ae fl plen om t1 r7 bad) = (({ t1 with pair := PR.1 }, PR.2.1, PR.2.2 || !false), (⟨none, x.hops, bs2⟩ : PrS)) := by unfold updG; rw [if_neg c60]; simp only; rw [n8_eq hae8, ← hbad1, hPF, if_neg (by rw [c112]; simp), hPR, hX, hU]
             refine J.addId ?_
             rw [hF, hG]
             exact J.ends (res_none rfl) Tk6 ⟨none, rfl, rfl⟩
        ·refine Qp 1 rfl rfl (QP.nilCheck rfl rfl) <| Fa 2 rfl rfl rfl f100_1 <| Fa 3 rfl rfl rfl f46_5 <| Qq 4 rfl rfl (QR.load1 rfl rfl g37 ((PacketPiece.sub_tlv _).trans (Tlv.sub_metric _))) ?_
         refine Qp 5 rfl rfl (QP.eql rfl rfl rfl) <| J.caseD (fun c164 => ?_) (fun c164 => ?_)
         ·refine Sq.nil <| hk48 _ _ <| Run.cond_t rfl <| Run.ret ?_
          have hF : updF x t r bad = (updG x ae fl plen om t1 r7 bad) := by unfold updF; simp only [hr1, hr2, hr3, hr4, hae, hfl, hpl, hom, hr7, ← ht1]
          have hX : updX x ae fl PF.1 = (⟨(some iv), x.hops, bs2⟩ : PrS) := by unfold updX; rw [← hid2, n8_eq hae8, ← hbs2, hid]
          have hU : updH (⟨(some iv), x.hops, bs2⟩ : PrS) PR PF.1 t1 = ({ t1 with pair := PR.1 }, PR.2.1, PR.2.2) := by unfold updH; rw [if_pos c164]
          have hG : (updG x ae fl plen om t1 r7 bad) = (({ t1 with pair := PR.1 }, PR.2.1, PR.2.2), (⟨(some iv), x.hops, bs2⟩ : PrS)) := by unfold updG; rw [if_neg c60]; simp only; rw [n8_eq hae8, ← hbad1, hPF, if_neg (by rw [c112]; simp), hPR, hX, hU]
          rw [hF, hG]
          exact J.ends (res_none rfl) Tk6 ⟨idp2, rfl, rfl⟩
         ·refine Sq.nil <| hk48 _ _ <| Run.cond_f rfl <| Run.skip <| hk47 _ _ <| Run.seq fun k58 hk58 => Run.regionM (M := [0, 1, 3, 7, 15, 0, 32, 127, 255, 511, 511, 0, 3071, 8191]) (q := 1983) (r := 176) mixedT Kr ?_
          refine J.idSome Rc (fun ib hip => ?_)
          subst hip
          refine Dp 0 rfl rfl (QP.move rfl rfl) <| Dp 1 rfl rfl (QP.nilCheck rfl rfl) <| Dp 2 rfl rfl (QP.fieldAddr rfl rfl f64_0) <| Dp 3 rfl rfl (QP.fieldAddr rfl rfl f62_1) <| Dr 4 rfl rfl (QR.load1 rfl rfl g58 ((PacketParser.sub_known _).trans (PacketKnown.sub_hops _))) ?_
          refine Dr 5 rfl rfl (QR.load rfl rfl g41 (Prefix.enc_sub _)) ?_
          refine Dw.effs (l := [6, 11]) Kr Kr ?_
          rw [List.forall_mem_cons, List.forall_mem_cons]
          refine ⟨?_, ?_, fun _ h => (by cases h)⟩
          ·refine Om [4] rfl rfl (EF.call rfl ce54 rfl Takes.nil (fun F' hle hr => pfamily_spec F' (PF.1))) ?_
           rintro _ _ ⟨_, ⟨rfl, rfl⟩, rfl⟩
           refine ⟨?_, ?_⟩
           ·rw [List.forall_mem_cons]
            refine ⟨?_, fun _ h => (by cases h)⟩
            ·refine Look.app ?_
             exact Look.mk rfl rfl rfl (QR.load1 rfl rfl g58 ((PacketParser.sub_known _).trans (PacketKnown.sub_hops _)))
           refine ?_
           refine J.app ?_
           refine Dr 7 rfl rfl (QR.lookup2V (k := (⟨pfamilyB PF.1, pfamily_range _⟩ : I64)) keyH rfl rfl rfl Try.underlying58 (z := Bs.zero 16) zero23) ?_
           refine Dp 8 rfl rfl (QP.move rfl rfl) <| Dp 9 rfl rfl (QP.extract rfl rfl rfl) <| Dp 10 rfl rfl (QP.extract rfl rfl rfl) <| J.caseB (fun c175 => ?_) (fun c175 => ?_)
           ·refine De 11 <| Om [7, 5, 4] rfl rfl (EF.allocA (l := (Bs.zero 16).enc) rfl zero23) ?_
            rintro _ _ ⟨b11, rfl, rfl⟩
            refine ⟨?_, ?_⟩
            ·rw [List.forall_mem_cons, List.forall_mem_cons, List.forall_mem_cons]
             refine ⟨?_, ?_, ?_, fun _ h => (by cases h)⟩
             ·exact Look.mk rfl rfl rfl (QR.lookup2V (k := (⟨pfamilyB PF.1, pfamily_range _⟩ : I64)) keyH rfl rfl rfl Try.underlying58 (z := Bs.zero 16) zero23)
             ·exact Look.mk rfl rfl rfl (QR.load rfl rfl g41 (Prefix.enc_sub _))
             ·exact Look.mk rfl rfl rfl (QR.load1 rfl rfl g58 ((PacketParser.sub_known _).trans (PacketKnown.sub_hops _)))
            refine ?_
            refine De 12 <| Oa [] rfl (EF.storeA rfl rfl rfl z23 (SetL.all (Bs.len _) (Bs.len _)) (Bs.cell _)) ?_
            rintro _ _ rfl
            refine ⟨fun _ h => (by cases h), ?_⟩
            refine De 13 <| Om [] rfl rfl ((QP.assign rfl rfl).eff) ?_
            rintro _ _ ⟨rfl, rfl⟩
            refine ⟨fun _ h => (by cases h), ?_⟩
            refine Dn <| hk58 _ _ <| Run.seq fun k59 hk59 => Run.region ?_
            show Sq _ _ _ [0, 1, 2, 3, 4, 5, 6, 7, 8, 9, 10, 11, 12, 13, 14, 15, 16, 17, 18, 19, 20] _ _ _ _
            refine Mv 0 rfl rfl rfl <| Mv 1 rfl rfl rfl <| Mv 2 rfl rfl rfl <| Ym 3 rfl rfl rfl rfl <| Yp 4 rfl rfl rfl (QP.nilCheck rfl rfl) <| Yf 5 rfl rfl rfl rfl f64_0 <| Yf 6 rfl rfl rfl rfl f62_0 <| Yq 7 rfl rfl rfl (QR.load1 rfl rfl g60 ((PacketParser.sub_known _).trans (PacketKnown.sub_id_ _))) ?_
            refine Yp 8 rfl rfl rfl (QP.ptr_ne_nil rfl rfl rfl Try.underlying60) <| Pt 9 rfl rfl rfl rfl <| Mv 10 rfl rfl rfl <| Ym 11 rfl rfl rfl rfl <| Yp 12 rfl rfl rfl (QP.nilCheck rfl rfl) <| Yf 13 rfl rfl rfl rfl f64_0 <| Yf 14 rfl rfl rfl rfl f62_0 <| Yq 15 rfl rfl rfl (QR.load1 rfl rfl g60 ((PacketParser.sub_known _).trans (PacketKnown.sub_id_ _))) ?_
            refine Yp 16 rfl rfl rfl (QP.nilCheck rfl rfl) <| Yq 17 rfl rfl rfl (QR.load rfl rfl g39 (Bs.sub _)) ?_
            refine Ye 18 rfl rfl rfl (EF.call rfl ce46 rfl Takes.nil (fun F' hle hr => named_spec F' iv)) ?_
            rintro _ _ ⟨_, ⟨rfl, rfl⟩, rfl⟩
            refine J.app ?_
            refine Pt 19 rfl rfl rfl rfl <| Ef 20 rfl rfl (EF.call rfl ce62 rfl Tk2 (fun F' hle hr => need_spec F' (t := { t1 with pair := PR.1 }) (bad := PR.2.2) (r := PR.2.1) (namedB iv))) ?_
            rintro _ _ ⟨_, ⟨rfl, rfl⟩, rfl⟩
            refine J.app ?_
            refine Sq.nil <| hk59 _ _ <| Run.seq fun k60 hk60 => Run.region ?_
            show Sq _ _ _ [0, 1] _ _ _ _
            refine Mv 0 rfl rfl rfl <| Ef 1 rfl rfl (EF.call rfl ce42 rfl Tk2 (fun F' hle hr => sound_spec F' (t := { t1 with pair := PR.1 }) (bad := (PR.2.2 || !(namedB iv))) (r := PR.2.1))) ?_
            rintro _ _ ⟨_, ⟨rfl, rfl⟩, rfl⟩
            refine J.app ?_
            refine J.caseB (fun c198 => ?_) (fun c198 => ?_)
            ·refine Sq.nil <| hk60 _ _ <| Run.cond_t rfl <| Run.regionM (M := [0, 0, 0, 4, 12, 28, 60, 124, 252, 0, 509, 1533, 3581, 7677, 16383, 32767, 65535, 131071]) (q := 122879) (r := 832) mixedT Kr ?_
             refine Dp 0 rfl rfl (QP.move rfl rfl) <| Dp 1 rfl rfl (QP.move rfl rfl) <| Dp 2 rfl rfl (QP.move rfl rfl) <| Dp 3 rfl rfl (QP.nilCheck rfl rfl) <| Dp 4 rfl rfl (QP.fieldAddr rfl rfl f64_0) <| Dp 5 rfl rfl (QP.fieldAddr rfl rfl f62_0) <| Dr 6 rfl rfl (QR.load1 rfl rfl g60 ((PacketParser.sub_known _).trans (PacketKnown.sub_id_ _))) ?_
             refine Dp 7 rfl rfl (QP.nilCheck rfl rfl) <| Dr 8 rfl rfl (QR.load rfl rfl g39 (Bs.sub _)) ?_
             refine Dr 9 rfl rfl (QR.load rfl rfl g23 (Bs.sub _)) ?_
             refine Dp 10 rfl rfl (QP.nilCheck rfl rfl) <| Dp 11 rfl rfl (QP.fieldAddr rfl rfl f100_1) <| Dp 12 rfl rfl (QP.fieldAddr rfl rfl f46_9) <| De 13 <| Oa [9] rfl (EF.storeA rfl rfl rfl z39 ((PacketPiece.set_tlv _ _).trans (PacketPiece.sub_tlv _) (Tlv.set_id_ _ _)) (Bs.cell _)) ?_
             rintro _ _ rfl
             refine ⟨?_, ?_⟩
             ·rw [List.forall_mem_cons]
              refine ⟨?_, fun _ h => (by cases h)⟩
              ·exact Look.mk rfl rfl rfl (QR.load rfl rfl g23 (Bs.sub _))
             refine ?_
             refine Dp 14 rfl rfl (QP.nilCheck rfl rfl) <| Dp 15 rfl rfl (QP.fieldAddr rfl rfl f100_1) <| Dp 16 rfl rfl (QP.fieldAddr rfl rfl f46_10) <| De 17 <| Oa [] rfl (EF.storeA rfl rfl rfl z23 ((PacketPiece.set_tlv _ _).trans (PacketPiece.sub_tlv _) (Tlv.set_addr _ _)) (Bs.cell _)) ?_
             rintro _ _ rfl
             refine ⟨fun _ h => (by cases h), ?_⟩
             refine Dn ?_
             have hF : updF x t r bad = (updG x ae fl plen om t1 r7 bad) := by unfold updF; simp only [hr1, hr2, hr3, hr4, hae, hfl, hpl, hom, hr7, ← ht1]
             have hX : updX x ae fl PF.1 = (⟨(some iv), x.hops, bs2⟩ : PrS) := by unfold updX; rw [← hid2, n8_eq hae8, ← hbs2, hid]
             have hU : updH (⟨(some iv), x.hops, bs2⟩ : PrS) PR PF.1 t1 = ({ t1 with pair := PR.1, id_ := iv, addr := ((alook x.hops (⟨pfamilyB PF.1, pfamily_range _⟩ : I64)).getD (Bs.zero 16)) }, PR.2.1, PR.2.2 || !(namedB iv)) := by unfold updH; rw [if_neg c164, n64_eq (pfamily_range _), show (alook x.hops (⟨pfamilyB PF.1, pfamily_range _⟩ : I64)).isSome = true from c175]; simp only [Bool.true_and, Bool.false_and, Bool.and_false]; rw [if_pos c198]; rfl
             have hG : (updG x ae fl plen om t1 r7 bad) = (({ t1 with pair := PR.1, id_ := iv, addr := ((alook x.hops (⟨pfamilyB PF.1, pfamily_range _⟩ : I64)).getD (Bs.zero 16)) }, PR.2.1, PR.2.2 || !(namedB iv)), (⟨(some iv), x.hops, bs2⟩ : PrS)) := by unfold updG; rw [if_neg c60]; simp only; rw [n8_eq hae8, ← hbad1, hPF, if_neg (by rw [c112]; simp), hPR, hX, hU]
             refine J.close (A := idA (some ⟨ib, 0, none⟩) (some iv)) (m := [blk ib (Bs.enc iv) 39]) Tk1 (fun _ q => idA_some q) ?_
             rw [hF, hG]
             exact J.ends (res_none rfl) Tk6 ⟨some ⟨ib, 0, none⟩, rfl, rfl⟩
            ·refine Sq.nil <| hk60 _ _ <| Run.cond_f rfl <| Run.skip ?_
             have hF : updF x t r bad = (updG x ae fl plen om t1 r7 bad) := by unfold updF; simp only [hr1, hr2, hr3, hr4, hae, hfl, hpl, hom, hr7, ← ht1]
             have hX : updX x ae fl PF.1 = (⟨(some iv), x.hops, bs2⟩ : PrS) := by unfold updX; rw [← hid2, n8_eq hae8, ← hbs2, hid]
             have hU : updH (⟨(some iv), x.hops, bs2⟩ : PrS) PR PF.1 t1 = ({ t1 with pair := PR.1 }, PR.2.1, PR.2.2 || !(namedB iv)) := by unfold updH; rw [if_neg c164, n64_eq (pfamily_range _), show (alook x.hops (⟨pfamilyB PF.1, pfamily_range _⟩ : I64)).isSome = true from c175]; simp only [Bool.true_and, Bool.false_and, Bool.and_false]; rw [if_neg (by rw [c198]; simp)]
             have hG : (updG x ae fl plen om t1 r7 bad) = (({ t1 with pair := PR.1 }, PR.2.1, PR.2.2 || !(namedB iv)), (⟨(some iv), x.hops, bs2⟩ : PrS)) := by unfold updG; rw [if_neg c60]; simp only; rw [n8_eq hae8, ← hbad1, hPF, if_neg (by rw [c112]; simp), hPR, hX, hU]
             refine J.close (A := idA (some ⟨ib, 0, none⟩) (some iv)) (m := [blk ib (Bs.enc iv) 39]) Tk1 (fun _ q => idA_some q) ?_
             rw [hF, hG]
             exact J.ends (res_none rfl) Tk6 ⟨some ⟨ib, 0, none⟩, rfl, rfl⟩
           ·refine De 11 <| Om [7, 5, 4] rfl rfl (EF.allocA (l := (Bs.zero 16).enc) rfl zero23) ?_
            rintro _ _ ⟨b11, rfl, rfl⟩
            refine ⟨?_, ?_⟩
            ·rw [List.forall_mem_cons, List.forall_mem_cons, List.forall_mem_cons]
             refine ⟨?_, ?_, ?_, fun _ h => (by cases h)⟩
             ·exact Look.mk rfl rfl rfl (QR.lookup2V (k := (⟨pfamilyB PF.1, pfamily_range _⟩ : I64)) keyH rfl rfl rfl Try.underlying58 (z := Bs.zero 16) zero23)
             ·exact Look.mk rfl rfl rfl (QR.load rfl rfl g41 (Prefix.enc_sub _))
             ·exact Look.mk rfl rfl rfl (QR.load1 rfl rfl g58 ((PacketParser.sub_known _).trans (PacketKnown.sub_hops _)))
            refine ?_
            refine De 12 <| Oa [] rfl (EF.storeA rfl rfl rfl z23 (SetL.all (Bs.len _) (Bs.len _)) (Bs.cell _)) ?_
            rintro _ _ rfl
            refine ⟨fun _ h => (by cases h), ?_⟩
            refine De 13 <| Om [] rfl rfl ((QP.assign rfl rfl).eff) ?_
            rintro _ _ ⟨rfl, rfl⟩
            refine ⟨fun _ h => (by cases h), ?_⟩
            refine Dn <| hk58 _ _ <| Run.seq fun k61 hk61 => Run.region ?_
            show Sq _ _ _ [0, 1, 2, 3, 4, 5, 6, 7, 8, 9, 10, 11, 12, 13, 14, 15, 16, 17, 18, 19, 20] _ _ _ _
            refine Mv 0 rfl rfl rfl <| Mv 1 rfl rfl rfl <| Mv 2 rfl rfl rfl <| Sk 3 rfl rfl rfl <| Sk 4 rfl rfl rfl <| Sk 5 rfl rfl rfl <| Sk 6 rfl rfl rfl <| Sk 7 rfl rfl rfl <| Sk 8 rfl rfl rfl <| Pf 9 rfl rfl rfl rfl <| Mv 10 rfl rfl rfl <| Sk 11 rfl rfl rfl <| Sk 12 rfl rfl rfl <| Sk 13 rfl rfl rfl <| Sk 14 rfl rfl rfl <| Sk 15 rfl rfl rfl <| Sk 16 rfl rfl rfl <| Sk 17 rfl rfl rfl <| Sk 18 rfl rfl rfl <| Pf 19 rfl rfl rfl rfl <| Ef 20 rfl rfl (EF.call rfl ce62 rfl Tk2 (fun F' hle hr => need_spec F' (t := { t1 with pair := PR.1 }) (bad := PR.2.2) (r := PR.2.1) false)) ?_
            rintro _ _ ⟨_, ⟨rfl, rfl⟩, rfl⟩
            refine J.app ?_
            refine Sq.nil <| hk61 _ _ <| Run.seq fun k62 hk62 => Run.region ?_
            show Sq _ _ _ [0, 1] _ _ _ _
            refine Mv 0 rfl rfl rfl <| Ef 1 rfl rfl (EF.call rfl ce42 rfl Tk2 (fun F' hle hr => sound_spec F' (t := { t1 with pair := PR.1 }) (bad := (PR.2.2 || !false)) (r := PR.2.1))) ?_
            rintro _ _ ⟨_, ⟨rfl, rfl⟩, rfl⟩
            refine J.app ?_
            refine J.caseB (fun c198 => ?_) (fun c198 => ?_)
            ·refine Sq.nil <| hk62 _ _ <| Run.cond_t rfl <| Run.regionM (M := [0, 0, 0, 4, 12, 28, 60, 124, 252, 0, 509, 1533, 3581, 7677, 16383, 32767, 65535, 131071]) (q := 122879) (r := 832) mixedT Kr ?_
             exact absurd c198 (by simp [soundB])
            ·refine Sq.nil <| hk62 _ _ <| Run.cond_f rfl <| Run.skip ?_
             have hF : updF x t r bad = (updG x ae fl plen om t1 r7 bad) := by unfold updF; simp only [hr1, hr2, hr3, hr4, hae, hfl, hpl, hom, hr7, ← ht1]
             have hX : updX x ae fl PF.1 = (⟨(some iv), x.hops, bs2⟩ : PrS) := by unfold updX; rw [← hid2, n8_eq hae8, ← hbs2, hid]
             have hU : updH (⟨(some iv), x.hops, bs2⟩ : PrS) PR PF.1 t1 = ({ t1 with pair := PR.1 }, PR.2.1, PR.2.2 || !false) := by unfold updH; rw [if_neg c164, n64_eq (pfamily_range _), show (alook x.hops (⟨pfamilyB PF.1, pfamily_range _⟩ : I64)).isSome = false from c175]; simp only [Bool.true_and, Bool.false_and, Bool.and_false]; rw [if_neg (by rw [c198]; simp)]
             have hG : (updG x ae fl plen om t1 r7 bad) = (({ t1 with pair := PR.1 }, PR.2.1, PR.2.2 || !false), (⟨(some iv), x.hops, bs2⟩ : PrS)) := by unfold updG; rw [if_neg c60]; simp only; rw [n8_eq hae8, ← hbad1, hPF, if_neg (by rw [c112]; simp), hPR, hX, hU]
             refine J.close (A := idA (some ⟨ib, 0, none⟩) (some iv)) (m := [blk ib (Bs.enc iv) 39]) Tk1 (fun _ q => idA_some q) ?_
             rw [hF, hG]
             exact J.ends (res_none rfl) Tk6 ⟨some ⟨ib, 0, none⟩, rfl, rfl⟩
          ·refine Om [5, 4] rfl rfl (EF.allocA (l := (Bs.zero 16).enc) rfl zero23) ?_
           rintro _ _ ⟨b11, rfl, rfl⟩
           refine ⟨?_, ?_⟩
           ·rw [List.forall_mem_cons, List.forall_mem_cons]
            refine ⟨?_, ?_, fun _ h => (by cases h)⟩
            ·exact Look.mk rfl rfl rfl (QR.load rfl rfl g41 (Prefix.enc_sub _))
            ·exact Look.mk rfl rfl rfl (QR.load1 rfl rfl g58 ((PacketParser.sub_known _).trans (PacketKnown.sub_hops _)))
           refine ?_
           refine De 6 <| Om [4] rfl rfl (EF.call rfl ce54 rfl Takes.nil (fun F' hle hr => pfamily_spec F' (PF.1))) ?_
           rintro _ _ ⟨_, ⟨rfl, rfl⟩, rfl⟩
           refine ⟨?_, ?_⟩
           ·rw [List.forall_mem_cons]
            refine ⟨?_, fun _ h => (by cases h)⟩
            ·refine Look.app ?_
             exact Look.mk rfl rfl rfl (QR.load1 rfl rfl g58 ((PacketParser.sub_known _).trans (PacketKnown.sub_hops _)))
           refine ?_
           refine J.app ?_
           refine Dr 7 rfl rfl (QR.lookup2V (k := (⟨pfamilyB PF.1, pfamily_range _⟩ : I64)) keyH rfl rfl rfl Try.underlying58 (z := Bs.zero 16) zero23) ?_
           refine Dp 8 rfl rfl (QP.move rfl rfl) <| Dp 9 rfl rfl (QP.extract rfl rfl rfl) <| Dp 10 rfl rfl (QP.extract rfl rfl rfl) <| J.caseB (fun c175 => ?_) (fun c175 => ?_)
           ·refine De 12 <| Oa [] rfl (EF.storeA rfl rfl rfl z23 (SetL.all (Bs.len _) (Bs.len _)) (Bs.cell _)) ?_
            rintro _ _ rfl
            refine ⟨fun _ h => (by cases h), ?_⟩
            refine De 13 <| Om [] rfl rfl ((QP.assign rfl rfl).eff) ?_
            rintro _ _ ⟨rfl, rfl⟩
            refine ⟨fun _ h => (by cases h), ?_⟩
            refine Dn <| hk58 _ _ <| Run.seq fun k63 hk63 => Run.region ?_
            show Sq _ _ _ [0, 1, 2, 3, 4, 5, 6, 7, 8, 9, 10, 11, 12, 13, 14, 15, 16, 17, 18, 19, 20] _ _ _ _
            refine Mv 0 rfl rfl rfl <| Mv 1 rfl rfl rfl <| Mv 2 rfl rfl rfl <| Ym 3 rfl rfl rfl rfl <| Yp 4 rfl rfl rfl (QP.nilCheck rfl rfl) <| Yf 5 rfl rfl rfl rfl f64_0 <| Yf 6 rfl rfl rfl rfl f62_0 <| Yq 7 rfl rfl rfl (QR.load1 rfl rfl g60 ((PacketParser.sub_known _).trans (PacketKnown.sub_id_ _))) ?_
            refine Yp 8 rfl rfl rfl (QP.ptr_ne_nil rfl rfl rfl Try.underlying60) <| Pt 9 rfl rfl rfl rfl <| Mv 10 rfl rfl rfl <| Ym 11 rfl rfl rfl rfl <| Yp 12 rfl rfl rfl (QP.nilCheck rfl rfl) <| Yf 13 rfl rfl rfl rfl f64_0 <| Yf 14 rfl rfl rfl rfl f62_0 <| Yq 15 rfl rfl rfl (QR.load1 rfl rfl g60 ((PacketParser.sub_known _).trans (PacketKnown.sub_id_ _))) ?_
            refine Yp 16 rfl rfl rfl (QP.nilCheck rfl rfl) <| Yq 17 rfl rfl rfl (QR.load rfl rfl g39 (Bs.sub _)) ?_
            refine Ye 18 rfl rfl rfl (EF.call rfl ce46 rfl Takes.nil (fun F' hle hr => named_spec F' iv)) ?_
            rintro _ _ ⟨_, ⟨rfl, rfl⟩, rfl⟩
            refine J.app ?_
            refine Pt 19 rfl rfl rfl rfl <| Ef 20 rfl rfl (EF.call rfl ce62 rfl Tk2 (fun F' hle hr => need_spec F' (t := { t1 with pair := PR.1 }) (bad := PR.2.2) (r := PR.2.1) (namedB iv))) ?_
            rintro _ _ ⟨_, ⟨rfl, rfl⟩, rfl⟩
            refine J.app ?_
            refine Sq.nil <| hk63 _ _ <| Run.seq fun k64 hk64 => Run.region ?_
            show Sq _ _ _ [0, 1] _ _ _ _
            refine Mv 0 rfl rfl rfl <| Ef 1 rfl rfl (EF.call rfl ce42 rfl Tk2 (fun F' hle hr => sound_spec F' (t := { t1 with pair := PR.1 }) (bad := (PR.2.2 || !(namedB iv))) (r := PR.2.1))) ?_
            rintro _ _ ⟨_, ⟨rfl, rfl⟩, rfl⟩
            refine J.app ?_
            refine J.caseB (fun c198 => ?_) (fun c198 => ?_)
            ·refine Sq.nil <| hk64 _ _ <| Run.cond_t rfl <| Run.regionM (M := [0, 0, 0, 4, 12, 28, 60, 124, 252, 0, 509, 1533, 3581, 7677, 16383, 32767, 65535, 131071]) (q := 122879) (r := 832) mixedT Kr ?_
             refine Dp 0 rfl rfl (QP.move rfl rfl) <| Dp 1 rfl rfl (QP.move rfl rfl) <| Dp 2 rfl rfl (QP.move rfl rfl) <| Dp 3 rfl rfl (QP.nilCheck rfl rfl) <| Dp 4 rfl rfl (QP.fieldAddr rfl rfl f64_0) <| Dp 5 rfl rfl (QP.fieldAddr rfl rfl f62_0) <| Dr 6 rfl rfl (QR.load1 rfl rfl g60 ((PacketParser.sub_known _).trans (PacketKnown.sub_id_ _))) ?_
             refine Dp 7 rfl rfl (QP.nilCheck rfl rfl) <| Dr 8 rfl rfl (QR.load rfl rfl g39 (Bs.sub _)) ?_
             refine Dr 9 rfl rfl (QR.load rfl rfl g23 (Bs.sub _)) ?_
             refine Dp 10 rfl rfl (QP.nilCheck rfl rfl) <| Dp 11 rfl rfl (QP.fieldAddr rfl rfl f100_1) <| Dp 12 rfl rfl (QP.fieldAddr rfl rfl f46_9) <| De 13 <| Oa [9] rfl (EF.storeA rfl rfl rfl z39 ((PacketPiece.set_tlv _ _).trans (PacketPiece.sub_tlv _) (Tlv.set_id_ _ _)) (Bs.cell _)) ?_
             rintro _ _ rfl
             refine ⟨?_, ?_⟩
             ·rw [List.forall_mem_cons]
              refine ⟨?_, fun _ h => (by cases h)⟩
              ·exact Look.mk rfl rfl rfl (QR.load rfl rfl g23 (Bs.sub _))
             refine ?_
             refine Dp 14 rfl rfl (QP.nilCheck rfl rfl) <| Dp 15 rfl rfl (QP.fieldAddr rfl rfl f100_1) <| Dp 16 rfl rfl (QP.fieldAddr rfl rfl f46_10) <| De 17 <| Oa [] rfl (EF.storeA rfl rfl rfl z23 ((PacketPiece.set_tlv _ _).trans (PacketPiece.sub_tlv _) (Tlv.set_addr _ _)) (Bs.cell _)) ?_
             rintro _ _ rfl
             refine ⟨fun _ h => (by cases h), ?_⟩
             refine Dn ?_
             have hF : updF x t r bad = (updG x ae fl plen om t1 r7 bad) := by unfold updF; simp only [hr1, hr2, hr3, hr4, hae, hfl, hpl, hom, hr7, ← ht1]
             have hX : updX x ae fl PF.1 = (⟨(some iv), x.hops, bs2⟩ : PrS) := by unfold updX; rw [← hid2, n8_eq hae8, ← hbs2, hid]
             have hU : updH (⟨(some iv), x.hops, bs2⟩ : PrS) PR PF.1 t1 = ({ t1 with pair := PR.1, id_ := iv, addr := ((alook x.hops (⟨pfamilyB PF.1, pfamily_range _⟩ : I64)).getD (Bs.zero 16)) }, PR.2.1, PR.2.2 || !(namedB iv)) := by unfold updH; rw [if_neg c164, n64_eq (pfamily_range _), show (alook x.hops (⟨pfamilyB PF.1, pfamily_range _⟩ : I64)).isSome = true from c175]; simp only [Bool.true_and, Bool.false_and, Bool.and_false]; rw [if_pos c198]; rfl
             have hG : (updG x ae fl plen om t1 r7 bad) = (({ t1 with pair := PR.1, id_ := iv, addr := ((alook x.hops (⟨pfamilyB PF.1, pfamily_range _⟩ : I64)).getD (Bs.zero 16)) }, PR.2.1, PR.2.2 || !(namedB iv)), (⟨(some iv), x.hops, bs2⟩ : PrS)) := by unfold updG; rw [if_neg c60]; simp only; rw [n8_eq hae8, ← hbad1, hPF, if_neg (by rw [c112]; simp), hPR, hX, hU]
             refine J.close (A := idA (some ⟨ib, 0, none⟩) (some iv)) (m := [blk ib (Bs.enc iv) 39]) Tk1 (fun _ q => idA_some q) ?_
             rw [hF, hG]
             exact J.ends (res_none rfl) Tk6 ⟨some ⟨ib, 0, none⟩, rfl, rfl⟩
            ·refine Sq.nil <| hk64 _ _ <| Run.cond_f rfl <| Run.skip ?_
             have hF : updF x t r bad = (updG x ae fl plen om t1 r7 bad) := by unfold updF; simp only [hr1, hr2, hr3, hr4, hae, hfl, hpl, hom, hr7, ← ht1]
             have hX : updX x ae fl PF.1 = (⟨(some iv), x.hops, bs2⟩ : PrS) := by unfold updX; rw [← hid2, n8_eq hae8, ← hbs2, hid]
             have hU : updH (⟨(some iv), x.hops, bs2⟩ : PrS) PR PF.1 t1 = ({ t1 with pair := PR.1 }, PR.2.1, PR.2.2 || !(namedB iv)) := by unfold updH; rw [if_neg c164, n64_eq (pfamily_range _), show (alook x.hops (⟨pfamilyB PF.1, pfamily_range _⟩ : I64)).isSome = true from c175]; simp only [Bool.true_and, Bool.false_and, Bool.and_false]; rw [if_neg (by rw [c198]; simp)]
             have hG : (updG x ae fl plen om t1 r7 bad) = (({ t1 with pair := PR.1 }, PR.2.1, PR.2.2 || !(namedB iv)), (⟨(some iv), x.hops, bs2⟩ : PrS)) := by unfold updG; rw [if_neg c60]; simp only; rw [n8_eq hae8, ← hbad1, hPF, if_neg (by rw [c112]; simp), hPR, hX, hU]
             refine J.close (A := idA (some ⟨ib, 0, none⟩) (some iv)) (m := [blk ib (Bs.enc iv) 39]) Tk1 (fun _ q => idA_some q) ?_
             rw [hF, hG]
             exact J.ends (res_none rfl) Tk6 ⟨some ⟨ib, 0, none⟩, rfl, rfl⟩
           ·refine De 12 <| Oa [] rfl (EF.storeA rfl rfl rfl z23 (SetL.all (Bs.len _) (Bs.len _)) (Bs.cell _)) ?_
            rintro _ _ rfl
            refine ⟨fun _ h => (by cases h), ?_⟩
            refine De 13 <| Om [] rfl rfl ((QP.assign rfl rfl).eff) ?_
            rintro _ _ ⟨rfl, rfl⟩
            refine ⟨fun _ h => (by cases h), ?_⟩
            refine Dn <| hk58 _ _ <| Run.seq fun k65 hk65 => Run.region ?_
            show Sq _ _ _ [0, 1, 2, 3, 4, 5, 6, 7, 8, 9, 10, 11, 12, 13, 14, 15, 16, 17, 18, 19, 20] _ _ _ _
            refine Mv 0 rfl rfl rfl <| Mv 1 rfl rfl rfl <| Mv 2 rfl rfl rfl <| Sk 3 rfl rfl rfl <| Sk 4 rfl rfl rfl <| Sk 5 rfl rfl rfl <| Sk 6 rfl rfl rfl <| Sk 7 rfl rfl rfl <| Sk 8 rfl rfl rfl <| Pf 9 rfl rfl rfl rfl <| Mv 10 rfl rfl rfl <| Sk 11 rfl rfl rfl <| Sk 12 rfl rfl rfl <| Sk 13 rfl rfl rfl <| Sk 14 rfl rfl rfl <| Sk 15 rfl rfl rfl <| Sk 16 rfl rfl rfl <| Sk 17 rfl rfl rfl <| Sk 18 rfl rfl rfl <| Pf 19 rfl rfl rfl rfl <| Ef 20 rfl rfl (EF.call rfl ce62 rfl Tk2 (fun F' hle hr => need_spec F' (t := { t1 with pair := PR.1 }) (bad := PR.2.2) (r := PR.2.1) false)) ?_
            rintro _ _ ⟨_, ⟨rfl, rfl⟩, rfl⟩
            refine J.app ?_
            refine Sq.nil <| hk65 _ _ <| Run.seq fun k66 hk66 => Run.region ?_
            show Sq _ _ _ [0, 1] _ _ _ _
            refine Mv 0 rfl rfl rfl <| Ef 1 rfl rfl (EF.call rfl ce42 rfl Tk2 (fun F' hle hr => sound_spec F' (t := { t1 with pair := PR.1 }) (bad := (PR.2.2 || !false)) (r := PR.2.1))) ?_
            rintro _ _ ⟨_, ⟨rfl, rfl⟩, rfl⟩
            refine J.app ?_
            refine J.caseB (fun c198 => ?_) (fun c198 => ?_)
            ·refine Sq.nil <| hk66 _ _ <| Run.cond_t rfl <| Run.regionM (M := [0, 0, 0, 4, 12, 28, 60, 124, 252, 0, 509, 1533, 3581, 7677, 16383, 32767, 65535, 131071]) (q := 122879) (r := 832) mixedT Kr ?_
             exact absurd c198 (by simp [soundB])
            ·refine Sq.nil <| hk66 _ _ <| Run.cond_f rfl <| Run.skip ?_
             have hF : updF x t r bad = (updG x ae fl plen om t1 r7 bad) := by unfold updF; simp only [hr1, hr2, hr3, hr4, hae, hfl, hpl, hom, hr7, ← ht1]
             have hX : updX x ae fl PF.1 = (⟨(some iv), x.hops, bs2⟩ : PrS) := by unfold updX; rw [← hid2, n8_eq hae8, ← hbs2, hid]
             have hU : updH (⟨(some iv), x.hops, bs2⟩ : PrS) PR PF.1 t1 = ({ t1 with pair := PR.1 }, PR.2.1, PR.2.2 || !false) := by unfold updH; rw [if_neg c164, n64_eq (pfamily_range _), show (alook x.hops (⟨pfamilyB PF.1, pfamily_range _⟩ : I64)).isSome = false from c175]; simp only [Bool.true_and, Bool.false_and, Bool.and_false]; rw [if_neg (by rw [c198]; simp)]
             have hG : (updG x ae fl plen om t1 r7 bad) = (({ t1 with pair := PR.1 }, PR.2.1, PR.2.2 || !false), (⟨(some iv), x.hops, bs2⟩ : PrS)) := by unfold updG; rw [if_neg c60]; simp only; rw [n8_eq hae8, ← hbad1, hPF, if_neg (by rw [c112]; simp), hPR, hX, hU]
             refine J.close (A := idA (some ⟨ib, 0, none⟩) (some iv)) (m := [blk ib (Bs.enc iv) 39]) Tk1 (fun _ q => idA_some q) ?_
             rw [hF, hG]
             exact J.ends (res_none rfl) Tk6 ⟨some ⟨ib, 0, none⟩, rfl, rfl⟩
       ·intro ku45 hu45
        refine Run.seq fun k67 hk67 => Run.region ?_
        show Sq _ _ _ [0, 1, 2] _ _ _ _
        refine Mv 0 rfl rfl rfl <| Qp 1 rfl rfl (QP.and8i rfl rfl rfl) <| Qp 2 rfl rfl (QP.neq rfl rfl rfl) <| J.caseD (fun c127 => ?_) (fun c127 => ?_)
        ·refine Sq.nil <| hk67 _ _ <| Run.cond_t rfl <| Run.seq fun k68 hk68 => Run.region ?_
         show Sq _ _ _ [0, 1, 2, 3, 4, 5, 6] _ _ _ _
         refine Mv 0 rfl rfl rfl <| Qp 1 rfl rfl (QP.const (.agg (Bs.enc (⟨[0, 0, 0, 0, 0, 0, 0, 0], rfl⟩ : Bs 8)).toArray) (fun _ _ => by kernel_rfl)) <| Ef 2 rfl rfl (EF.boxA rfl rfl) ?_
         rintro _ _ ⟨b130, rfl, rfl⟩
         refine Qp 3 rfl rfl (QP.nilCheck rfl rfl) <| Fa 4 rfl rfl rfl f64_0 <| Fa 5 rfl rfl rfl f62_0 <| Ac 6 rfl (EF.store rfl rfl rfl z60 ((PacketParser.set_known _ _).trans (PacketParser.sub_known _) (PacketKnown.set_id_ _ _)) (cell_one rfl)) ?_
         rintro _ _ rfl
         refine Sq.nil <| hk68 _ _ <| Run.seq fun k69 hk69 => Run.regionD (M := [0, 1, 3, 7, 15, 31, 63, 0, 128, 511]) (q := 511) (r := 16) Kr ?_
         refine Dp 0 rfl rfl (QP.move rfl rfl) <| Dp 1 rfl rfl (QP.nilCheck rfl rfl) <| Dp 2 rfl rfl (QP.fieldAddr rfl rfl f64_0) <| Dp 3 rfl rfl (QP.fieldAddr rfl rfl f62_0) <| Dr 4 rfl rfl (QR.load1 rfl rfl g60 ((PacketParser.sub_known _).trans (PacketKnown.sub_id_ _))) ?_
         refine Dp 5 rfl rfl (QP.nilCheck rfl rfl) <| Dp 6 rfl rfl (QP.sliceArr rfl rfl Try.underlying39 z5) <| Dp 7 rfl rfl (QP.fieldAddr rfl rfl f41_0) <| Dp 8 rfl rfl (QP.sliceArrLo rfl rfl rfl Try.underlying23 z5 (by decide) (by decide)) <| De 9 <| Om [] rfl rfl (EF.copySl (b := b130) (off := 0) (n := 8) (lo := 0) (k := 8) (ys := (PF.1.a.l.drop 8).take 8) rfl rfl rfl rfl Try.underlying34 z5 (RowsAt.arrAt (x := PF.1.a) Rc (Prefix.sub_a PF.1) (by decide)) (fun h => by omega) (Bs.setPatch (Bs.zero 8) _ (by omega))) ?_
         rintro _ _ ⟨rfl, rfl⟩
         refine ⟨fun _ h => (by cases h), ?_⟩
         refine Dn <| hk69 _ _ <| Run.seq fun k70 hk70 => Run.region ?_
         show Sq _ _ _ [0, 1] _ _ _ _
         refine Mv 0 rfl rfl rfl <| Qp 1 rfl rfl (QP.eql rfl rfl rfl) <| J.caseD (fun c145 => ?_) (fun c145 => ?_)
         ·refine Sq.nil <| hk70 _ _ <| Run.cond_t rfl <| Run.region ?_
          show Sq _ _ _ [0, 1, 2, 3, 4, 5, 6, 7, 8] _ _ _ _
          refine Mv 0 rfl rfl rfl <| Qp 1 rfl rfl (QP.nilCheck rfl rfl) <| Fa 2 rfl rfl rfl f64_0 <| Fa 3 rfl rfl rfl f62_0 <| Qq 4 rfl rfl (QR.load1 rfl rfl g60 ((PacketParser.sub_known _).trans (PacketKnown.sub_id_ _))) ?_
          refine Qp 5 rfl rfl (QP.nilCheck rfl rfl) <| Qp 6 rfl rfl (QP.sliceArrHi rfl rfl rfl Try.underlying39 z5 Og Og (by decide)) <| Ef 7 rfl rfl (EF.buildSliceS rfl Try.underlying34 z5 zero5 rfl (by decide) rfl rfl rfl rfl) ?_
          rintro _ _ ⟨b153, rfl, rfl⟩
          refine Ef 8 rfl rfl (EF.copySl (b := b130) (off := 0) (n := 8) (lo := 0) (k := 4) (ys := [0, 0, 0, 0]) rfl rfl rfl rfl Try.underlying34 z5 (RowsAt.lit (ys := [0, 0, 0, 0]) Rc) (fun h => by omega) (Bs.setPatch ((Bs.zero 8).patch 0 ((PF.1.a.l.drop 8).take 8)) [0, 0, 0, 0] (by omega))) ?_
          rintro _ _ ⟨rfl, rfl⟩
          refine Sq.nil <| J.close (A := idA (some ⟨b130, 0, none⟩) (some (((Bs.zero 8).patch 0 ((PF.1.a.l.drop 8).take 8)).patch 0 [0, 0, 0, 0]))) (m := [blk b130 (Bs.enc (((Bs.zero 8).patch 0 ((PF.1.a.l.drop 8).take 8)).patch 0 [0, 0, 0, 0])) 39]) Tk1 (fun _ q => idA_some q) ?_
          exact J.envJ (J.keep Tk7 (hu45 (some ⟨b130, 0, none⟩) (some (((Bs.zero 8).patch 0 ((PF.1.a.l.drop 8).take 8)).patch 0 [0, 0, 0, 0])) (by rw [if_pos c127]; unfold idOf; rw [if_pos c145]))) ⟨rfl, rfl, rfl, rfl, trivial⟩
         ·refine Sq.nil <| hk70 _ _ <| Run.cond_f rfl <| Run.skip <| J.close (A := idA (some ⟨b130, 0, none⟩) (some ((Bs.zero 8).patch 0 ((PF.1.a.l.drop 8).take 8)))) (m := [blk b130 (Bs.enc ((Bs.zero 8).patch 0 ((PF.1.a.l.drop 8).take 8))) 39]) Tk1 (fun _ q => idA_some q) ?_
          exact J.envJ (J.keep Tk7 (hu45 (some ⟨b130, 0, none⟩) (some ((Bs.zero 8).patch 0 ((PF.1.a.l.drop 8).take 8))) (by rw [if_pos c127]; unfold idOf; rw [if_neg c145]))) ⟨rfl, rfl, rfl, rfl, trivial⟩
        ·refine Sq.nil <| hk67 _ _ <| Run.cond_f rfl <| Run.skip ?_
         exact J.envJ (J.keep Tk7 (hu45 (idp) (x.id) ((if_neg c127).symm))) ⟨rfl, rfl, rfl, rfl, trivial⟩
      ·intro ku44 hu44
       refine Run.seq fun k71 hk71 => Run.region ?_
       show Sq _ _ _ [0, 1, 2] _ _ _ _
       refine Mv 0 rfl rfl rfl <| Qp 1 rfl rfl (QP.and8i rfl rfl rfl) <| Qp 2 rfl rfl (QP.neq rfl rfl rfl) <| J.caseD (fun c116 => ?_) (fun c116 => ?_)
       ·refine Sq.nil <| hk71 _ _ <| Run.cond_t rfl <| Run.regionD (M := [0, 1, 3, 7, 15, 0, 0, 64, 255]) (q := 255) (r := 144) Kr ?_
        refine Dp 0 rfl rfl (QP.move rfl rfl) <| Dp 1 rfl rfl (QP.nilCheck rfl rfl) <| Dp 2 rfl rfl (QP.fieldAddr rfl rfl f64_0) <| Dp 3 rfl rfl (QP.fieldAddr rfl rfl f62_2) <| Dr 4 rfl rfl (QR.load1 rfl rfl g59 ((PacketParser.sub_known _).trans (PacketKnown.sub_bases _))) ?_
        refine Dp 5 rfl rfl (QP.move rfl rfl) <| Dp 6 rfl rfl (QP.fieldAddr rfl rfl f41_0) <| Dr 7 rfl rfl (QR.load rfl rfl g23 (Prefix.sub_a _)) ?_
        refine De 8 <| Oa [] rfl (EF.mapUpdate (k := (⟨ae, hae8⟩ : N8)) (v := PF.1.a) keyB rfl rfl rfl rfl Try.underlying59) ?_
        rintro _ _ rfl
        refine ⟨fun _ h => (by cases h), ?_⟩
        refine Dn ?_
        exact J.envJ (J.keep Tk7 (hu44 (aset x.bases (⟨ae, hae8⟩ : N8) PF.1.a) ((if_pos c116).symm))) ⟨rfl, rfl, rfl, rfl, rfl, trivial⟩
       ·refine Sq.nil <| hk71 _ _ <| Run.cond_f rfl <| Run.skip ?_
        exact J.envJ (J.keep Tk7 (hu44 (x.bases) ((if_neg c116).symm))) ⟨rfl, rfl, rfl, rfl, rfl, trivial⟩
     ·refine Qp 2 rfl rfl (QP.not rfl rfl) <| Sq.nil <| hk43 _ _ <| Run.cond_t rfl <| Run.ret ?_
      have hF : updF x t r bad = (updG x ae fl plen om t1 r7 bad) := by unfold updF; simp only [hr1, hr2, hr3, hr4, hae, hfl, hpl, hom, hr7, ← ht1]
      have hG : (updG x ae fl plen om t1 r7 bad) = ((t1, PF.2.1, PF.2.2), x) := by unfold updG; rw [if_neg c60]; simp only; rw [n8_eq hae8, ← hbad1, hPF, if_pos c112]
      rw [hF, hG]
      exact J.ends (res_none rfl) Tk6 ⟨idp, rfl, rfl⟩
    ·intro ku40 hu40
     refine Run.region ?_
     show Sq _ _ _ [0, 1, 2, 3, 4, 5, 6] _ _ _ _
     refine Mv 0 rfl rfl rfl <| Mv 1 rfl rfl rfl <| Qp 2 rfl rfl (QP.eql rfl rfl rfl) <| J.caseD (fun c100 => ?_) (fun c100 => ?_)
     ·refine Mv 3 rfl rfl rfl <| Sk 4 rfl rfl rfl <| Pt 5 rfl rfl rfl rfl <| Ef 6 rfl rfl (EF.call rfl ce62 rfl Tk2 (fun F' hle hr => need_spec F' (t := t1) (bad := bad) (r := r7) true)) ?_
      rintro _ _ ⟨_, ⟨rfl, rfl⟩, rfl⟩
      refine J.app ?_
      refine Sq.nil ?_
      exact J.envJ (J.keep Tk7 (hu40 ((bad || !true)) (by rw [decide_eq_true c100, c97]; rfl))) ⟨rfl, rfl, rfl, rfl, rfl, rfl, rfl, trivial⟩
     ·refine Mv 3 rfl rfl rfl <| Ym 4 rfl rfl rfl rfl <| Pf 5 rfl rfl rfl rfl <| Ef 6 rfl rfl (EF.call rfl ce62 rfl Tk2 (fun F' hle hr => need_spec F' (t := t1) (bad := bad) (r := r7) false)) ?_
      rintro _ _ ⟨_, ⟨rfl, rfl⟩, rfl⟩
      refine J.app ?_
      refine Sq.nil ?_
      exact J.envJ (J.keep Tk7 (hu40 ((bad || !false)) (by rw [decide_eq_false c100, c97]; rfl))) ⟨rfl, rfl, rfl, rfl, rfl, rfl, rfl, trivial⟩
 ·intro ku2 hu2
  refine Run.regionM (M := [0, 0, 0, 0, 8, 24, 56, 120, 0, 256, 768, 1792, 4088, 0, 8192, 24576, 57344, 131064, 262137, 524281, 1048569, 2097145, 4194299, 8388603, 16777211, 33554427, 67108863, 134217727, 268435455, 536870911]) (q := 501084031) (r := 67648) mixedT Kr ?_
  refine Dp 0 rfl rfl (QP.move rfl rfl) <| Dp 1 rfl rfl (QP.move rfl rfl) <| Dp 2 rfl rfl (QP.move rfl rfl) <| Dp 3 rfl rfl (QP.move rfl rfl) <| Dp 4 rfl rfl (QP.nilCheck rfl rfl) <| Dp 5 rfl rfl (QP.fieldAddr rfl rfl f100_0) <| Dr 6 rfl rfl (QR.load1 rfl rfl g90 (PacketPiece.sub_reader _)) ?_
  refine Dp 8 rfl rfl (QP.move rfl rfl) <| Dp 9 rfl rfl (QP.nilCheck rfl rfl) <| Dp 10 rfl rfl (QP.fieldAddr rfl rfl f100_0) <| Dr 11 rfl rfl (QR.load1 rfl rfl g90 (PacketPiece.sub_reader _)) ?_
  refine Dp 13 rfl rfl (QP.move rfl rfl) <| Dp 14 rfl rfl (QP.nilCheck rfl rfl) <| Dp 15 rfl rfl (QP.fieldAddr rfl rfl f100_0) <| Dr 16 rfl rfl (QR.load1 rfl rfl g90 (PacketPiece.sub_reader _)) ?_
  refine De 7 <| Om [16, 11] rfl rfl (EF.call rfl ce31 rfl Tk1 (fun F' hle hr => u16_spec F' (r := r4))) ?_
  rintro _ _ ⟨_, ⟨rfl, rfl⟩, rfl⟩
  refine ⟨?_, ?_⟩
  ·rw [List.forall_mem_cons, List.forall_mem_cons]
   refine ⟨?_, ?_, fun _ h => (by cases h)⟩
   ·refine Look.app ?_
    exact Look.mk rfl rfl rfl (QR.load1 rfl rfl g90 (PacketPiece.sub_reader _))
   ·refine Look.app ?_
    exact Look.mk rfl rfl rfl (QR.load1 rfl rfl g90 (PacketPiece.sub_reader _))
  refine ?_
  refine J.app ?_
  refine De 12 <| Om [16] rfl rfl (EF.call rfl ce31 rfl Tk1 (fun F' hle hr => u16_spec F' (r := (rdTake r4 2).2))) ?_
  rintro _ _ ⟨_, ⟨rfl, rfl⟩, rfl⟩
  refine ⟨?_, ?_⟩
  ·rw [List.forall_mem_cons]
   refine ⟨?_, fun _ h => (by cases h)⟩
   ·refine Look.app ?_
    exact Look.mk rfl rfl rfl (QR.load1 rfl rfl g90 (PacketPiece.sub_reader _))
  refine ?_
  refine J.app ?_
  refine De 17 <| Om [] rfl rfl (EF.call rfl ce31 rfl Tk1 (fun F' hle hr => u16_spec F' (r := (rdTake (rdTake r4 2).2 2).2))) ?_
  rintro _ _ ⟨_, ⟨rfl, rfl⟩, rfl⟩
  refine ⟨fun _ h => (by cases h), ?_⟩
  refine J.app ?_
  rw [hr7]
  refine Dp 18 rfl rfl (QP.nilCheck rfl rfl) <| Dp 19 rfl rfl (QP.fieldAddr rfl rfl f100_1) <| Dp 20 rfl rfl (QP.fieldAddr rfl rfl f46_2) <| De 21 <| Oa [] rfl (EF.store rfl rfl rfl z37 ((PacketPiece.set_tlv _ _).trans (PacketPiece.sub_tlv _) (Tlv.set_interval _ _)) (cell_one rfl)) ?_
  rintro _ _ rfl
  refine ⟨fun _ h => (by cases h), ?_⟩
  refine Dp 22 rfl rfl (QP.nilCheck rfl rfl) <| Dp 23 rfl rfl (QP.fieldAddr rfl rfl f100_1) <| Dp 24 rfl rfl (QP.fieldAddr rfl rfl f46_3) <| De 25 <| Oa [] rfl (EF.store rfl rfl rfl z37 ((PacketPiece.set_tlv _ _).trans (PacketPiece.sub_tlv _) (Tlv.set_seqno _ _)) (cell_one rfl)) ?_
  rintro _ _ rfl
  refine ⟨fun _ h => (by cases h), ?_⟩
  refine Dp 26 rfl rfl (QP.nilCheck rfl rfl) <| Dp 27 rfl rfl (QP.fieldAddr rfl rfl f100_1) <| Dp 28 rfl rfl (QP.fieldAddr rfl rfl f46_5) <| De 29 <| Oa [] rfl (EF.store rfl rfl rfl z37 ((PacketPiece.set_tlv _ _).trans (PacketPiece.sub_tlv _) (Tlv.set_metric _ _)) (cell_one rfl)) ?_
  rintro _ _ rfl
  refine ⟨fun _ h => (by cases h), ?_⟩
  refine Dn ?_
  exact J.envJ (J.keep Tk6 (hu2 (updT t r4) (rfl))) ⟨rfl, rfl, rfl, rfl, rfl, rfl, trivial⟩
end Slb
