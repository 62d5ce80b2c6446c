/- J12: a part of the proof that a law of this package holds for every input; no condition. -/
import Derived.Test.YtfokodhfjdhdaaaGreatM2
import Derived.Test.YtfokodhfjdhdaaaGreatJ11
namespace Slb
open Go Go.Proofs
set_option maxRecDepth 20000
/-! ### A packet -/
structure TlvX where
 t : Tlv
 a : Option Addr
 c : Nat
 l : List Int
@[reducible] def tlvS (x : TlvX) : Tlv := { x.t with stamps := ⟨x.a, x.l.length, x.c⟩ }
@[reducible] def tlvE (x : TlvX) : List Value := (tlvS x).enc
theorem tlvE_len (x : TlvX) : (tlvE x).length = 68 := Tlv.enc_len _
def norm (t : Tlv) : Tlv := { t with stamps := Slc.zero }
def tlvM (x : TlvX) : Tlv × List Int := (norm x.t, x.l)
@[reducible] def stA (x : TlvX) : HProp := slA 101 1 u32E (.slice x.a x.l.length x.c) x.l
def rowsT (ts : List TlvX) : HProp := stars (ts.map stA)
theorem rowsT_snoc {ts : List TlvX} {x : TlvX} {p : PH} (g : stars [rowsT ts, stA x] p) : rowsT (ts ++ [x]) p := by
 obtain ⟨h1, h2, d, rfl, g1, g2⟩ := g
 unfold rowsT
 rw [List.map_append]
 exact stars_append.2 ⟨h1, h2, d, rfl, g1, g2⟩
theorem J.addTlvs {N : Nat} {G : Env} {S : List HProp} {F : Fr} {Φ : Act → World → Prop} (j : J N G (rowsT [] :: S) F Φ) : J N G S F Φ := j.conseq fun w s => by
 obtain ⟨a, b, c, d, k, hk, f, h⟩ := s
 exact ⟨a, b, c, d, k, ⟨PH.none, k, PH.none_disj k, (PH.none_union k).symm, rfl, hk⟩, f, h⟩
def runF (x : PrS) : List (Int × List UInt8) → List (Tlv × List Int) × PrS
 | [] => ([], x)
 | p :: ps => ((if (readF x p.1 p.2).1.2.1 then [(norm (readF x p.1 p.2).1.1, (readF x p.1 p.2).1.2.2)] else []) ++ (runF (readF x p.1 p.2).2 ps).1, (runF (readF x p.1 p.2).2 ps).2)
/-- A body's packet. -/
def wrapL (bs : List UInt8) : List UInt8 := [42, 2, UInt8.ofNat (bs.length / 256), UInt8.ofNat bs.length] ++ bs
def begF (src : Bs 16) : PrS := ⟨none, aset [] (⟨familyB src, family_range src⟩ : I64) src, []⟩
def parseF (src : Bs 16) (p : List UInt8) : List (Tlv × List Int) × Int :=
 if (openF p).2 ≠ 0 then ([], (openF p).2) else ((runF (begF src) (splitN (openF p).1.length (openF p).1).1).1, (splitN (openF p).1.length (openF p).1).2)
def preX (l : List (Tlv × List Int)) (q : List (Tlv × List Int) × PrS) : List (Tlv × List Int) × PrS := (l ++ q.1, q.2)
theorem runF_cons (x : PrS) (p : Int × List UInt8) (ps : List (Int × List UInt8)) : runF x (p :: ps) = ((if (readF x p.1 p.2).1.2.1 then [(norm (readF x p.1 p.2).1.1, (readF x p.1 p.2).1.2.2)] else []) ++ (runF (readF x p.1 p.2).2 ps).1, (runF (readF x p.1 p.2).2 ps).2) := rfl
theorem runF_at {x : PrS} {rs : List RawX} {i : Nat} {y : RawX} (hi : rs[i]? = some y) (ts : List (Tlv × List Int)) : preX ts (runF x ((rs.drop i).map rawM)) =
   preX (ts ++ if (readF x y.t y.l).1.2.1 then [(norm (readF x y.t y.l).1.1, (readF x y.t y.l).1.2.2)] else []) (runF (readF x y.t y.l).2 ((rs.drop (i + 1)).map rawM)) := by
 obtain ⟨h1, e1⟩ := List.getElem?_eq_some_iff.1 hi
 rw [List.drop_eq_getElem_cons h1, e1, List.map_cons]
 rw [runF_cons]
 unfold preX
 simp only [List.append_assoc]
 rfl
theorem raw_arg {F : Fr} {rs : List RawX} {i : Nat} {y : RawX} {q : PH} (hi : rs[i]? = some y) (hA : rowsB rs q) (hq : PH.le q F.h) : ArgSl F y.a 1 bytE y.l := by
 obtain ⟨p, hp, hpq⟩ := stars_mem (List.mem_map_of_mem (f := bodyA) (List.mem_of_getElem? hi)) hA
 exact slA_arg (fun _ => rfl) hp (hpq.trans hq)
theorem rdTake_fst (r : Rs) (n : Int) : (rdTake r n).1.length ≤ r.l.length := by
 unfold rdTake
 split
 · simp
 · split
   · simp
   · split
     · simp
     · simp only [List.length_take]; exact Nat.min_le_right _ _
theorem open_len (p : List UInt8) : (openF p).1.length ≤ p.length := by
 unfold openF
 simp only
 split
 · simp
 · split
   · simp
   · split
     · simp
     · split
       · simp
       · have h1 := (rdTake_len (rdTake (rdTake (rdTake ⟨p, 0⟩ 1).2 1).2 2).2 (u16F (rdTake (rdTake ⟨p, 0⟩ 1).2 1).2)).1
         have h2 := (rdTake_len (rdTake (rdTake ⟨p, 0⟩ 1).2 1).2 2).2
         have h3 := (rdTake_len (rdTake ⟨p, 0⟩ 1).2 1).2
         have h4 := (rdTake_len ⟨p, 0⟩ 1).2
         have h5 := u16_range (rdTake (rdTake ⟨p, 0⟩ 1).2 1).2
         simp only at h4
         show (rdTake (rdTake (rdTake (rdTake ⟨p, 0⟩ 1).2 1).2 2).2 (u16F (rdTake (rdTake ⟨p, 0⟩ 1).2 1).2)).1.length ≤ p.length
         omega

theorem splitN_few : ∀ (f : Nat) (l : List UInt8), ∀ p ∈ (splitN f l).1, p.2.length ≤ l.length
 | 0, _, _, h => by cases h
 | f + 1, l, p, h => by
   unfold splitN at h
   by_cases hl : l = []
   · rw [if_pos hl] at h; cases h
   · rw [if_neg hl] at h
     simp only at h
     have e1 := (rdTake_len ⟨l, 0⟩ 1).2
     have e2 := (rdTake_len (rdTake ⟨l, 0⟩ 1).2 1).2
     have e3 := rdTake_len (rdTake (rdTake ⟨l, 0⟩ 1).2 1).2 (u8F (rdTake ⟨l, 0⟩ 1).2)
     have e4 := rdTake_fst (rdTake (rdTake ⟨l, 0⟩ 1).2 1).2 (u8F (rdTake ⟨l, 0⟩ 1).2)
     by_cases h1 : u8F ⟨l, 0⟩ ≠ 0
     · rw [if_pos h1] at h
       by_cases h2 : (rdTake (rdTake (rdTake ⟨l, 0⟩ 1).2 1).2 (u8F (rdTake ⟨l, 0⟩ 1).2)).2.e ≠ 0
       · rw [if_pos h2] at h; cases h
       · rw [if_neg h2] at h
         rcases List.mem_cons.1 h with rfl | h
         · exact Nat.le_trans e4 (Nat.le_trans e2 e1)
         · exact Nat.le_trans (splitN_few f _ p h) (Nat.le_trans e3.2 (Nat.le_trans e2 e1))
     · rw [if_neg h1] at h
       rcases List.mem_cons.1 h with rfl | h
       · exact Nat.zero_le _
       · exact Nat.le_trans (splitN_few f _ p h) e1

theorem read_lent (F : Fr) {xb hm bm : Nat} {idp : Option Addr} (x : PrS) {rs : List RawX} {i : Nat} {y : RawX} (hi : rs[i]? = some y) (hyl : y.l.length ≤ 1000000) : Spec Tryz.prog 51 #[fp xb, .agg (rawE y).toArray] [rowsB rs, blk xb (PacketParser.enc ⟨⟨idp, some hm, some bm⟩⟩) 132, mapH hm x.hops, mapB bm x.bases, idA idp x.id] F fun v S => ∃ idp2 a2 c2, v = .tuple #[.agg (Tlv.enc { (readF x y.t y.l).1.1 with stamps := ⟨a2, (readF x y.t y.l).1.2.2.length, c2⟩ }).toArray, .bool (readF x y.t y.l).1.2.1] ∧
   S = [rowsB rs, blk xb (PacketParser.enc ⟨⟨idp2, some hm, some bm⟩⟩) 132, mapH hm (readF x y.t y.l).2.hops, mapB bm (readF x y.t y.l).2.bases, idA idp2 (readF x y.t y.l).2.id, slA 101 1 u32E (.slice a2 (readF x y.t y.l).1.2.2.length c2) (readF x y.t y.l).1.2.2] := by
 refine (Spec.lendG (A := rowsB rs) (fun F2 q hle2 hA hq => read_spec F2 x y hyl (raw_arg hi hA hq))).mono ?_
 rintro v S ⟨S1, ⟨idp2, a2, c2, h1, h2⟩, rfl⟩
 exact ⟨idp2, a2, c2, h1, by rw [h2]⟩

set_option maxHeartbeats 2000000 in
theorem parse_spec (F : Fr) (src : Bs 16) {a : Option Addr} {c : Nat} {xs : List UInt8} (hx : xs.length ≤ 1000000) (ha : ArgSl F a 1 bytE xs) : Spec Tryz.prog 28 #[.agg (Bs.enc src).toArray, .slice a xs.length c] [] F (fun v S => ∃ (ts : List TlvX) (va : Value), v = .tuple #[va, .int .i64 (parseF src xs).2] ∧ ts.map tlvM = (parseF src xs).1 ∧ S = [slA 49 68 tlvE va ts, rowsT ts]) := by
 refine Spec.intro (N := 59) (args := [.agg (Bs.enc src).toArray, .slice a xs.length c]) Tryz.func28 rfl rfl (by simp) ?_
 refine Zs fun _ hk1 => Ef 0 E2 (EF.boxA rfl rfl) ?_
 rintro _ _ ⟨b2, rfl, rfl⟩
 refine Sg 1 E3 <| Sg 2 E3 <| Zl hk1 <| Zs fun _ hk2 => Mv 0 E3 <| Ef 1 E2 (Zc E2 ce48 TN (fun F' hle hr => open_spec F' hx (ha.mono hle))) ?_
 rintro _ _ ⟨_, ⟨va, vt, rfl, rfl⟩, rfl⟩
 refine J.app <| Mv 2 E3 <| Qp 3 E2 (Zx E3) <| Qp 4 E2 (Zx E3) <| Qp 5 E2 (Zx E3) <| Sg 6 E3 <| Sg 7 E3 <| Sg 8 E3 <| Zl hk2 <| Run.seq fun _ hk3 => Zs fun _ hk4 => Mv 0 E3 <| Qp 1 E2 (Zq E3) <| J.caseD (fun c23 => ?_) (fun c23 => ?_)
 ·refine Zl hk4 <| Zt <| Zs fun _ hk5 => Mv 0 E3 <| Sg 1 E3 <| Sg 2 E3 <| Zl hk5 <| Run.ret ?_
  have hP : parseF src xs = ([], (openF xs).2) := by unfold parseF; rw [if_pos c23]
  rw [hP]
  refine J.addTlvs ?_
  refine J.addSl 49 68 tlvE ?_
  exact J.ends (m := [slA 49 68 tlvE (.slice none 0 0) [], rowsT []]) (res_tmp2 rfl rfl rfl) Tk2 ⟨[], .slice none 0 0, rfl, rfl, rfl⟩
 ·refine Zl hk4 <| Zf <| Run.skip <| hk3 _ _ <| Run.cut3 (fun (b33 : Nat) (r25 : Nat) (r30 : Nat) => True) (fun b33 r25 r30 => .cons 6 (va) (.cons 9 (fp b33) (.nil))) (fun b33 r25 r30 => [blk b33 (PacketParser.enc ⟨⟨none, some r25, some r30⟩⟩) 132, mapH r25 (aset [] (⟨familyB src, family_range src⟩ : I64) src), mapB r30 [], slA 5 1 bytE va (openF xs).1]) ?_ ?_
  ·rintro b33 r25 r30 _
   refine Zs fun _ hk7 => Sg 0 E3 <| Zl hk7 <| Zs fun _ hk8 => Mv 0 E3 ?_
   have hBl : (openF xs).1.length ≤ 1000000 := by have := open_len xs; omega
   generalize hB : (openF xs).1 = B at hBl ⊢
   refine Sq.slCase (v := va) (xs := B) Rc (fun av cv hvv hhv => ?_)
   subst hvv
   refine Ef 1 E2 (Zc E2 ce50 Tk1 (fun F' hle hr => Spec.lendSl (e := 5) (z := 1) (enc := bytE) (xs := B) (fun _ => rfl) (fun F2 _ h2 => split_spec F2 hBl h2))) ?_
   rintro _ _ ⟨_, ⟨_, ⟨rs, vr, e, rfl, hsp, rfl⟩, rfl⟩, rfl⟩
   refine J.app <| Mv 2 E3 <| Qp 3 E2 (Zx E3) <| Qp 4 E2 (Zx E3) <| Sg 5 E3 <| Sg 6 E3 <| Zl hk8 <| Run.seq fun _ hk9 => Zs fun _ hk10 => Sq.slCase (v := vr) (xs := rs) Rc (fun ar cr hvr hhr => ?_)
   subst hvr
   have hrl : rs.length ≤ 1000000 := by have := split_len B.length B; rw [hsp] at this; simp only [List.length_map] at this; omega
   have hrf : ∀ y ∈ rs, y.l.length ≤ 1000000 := by have := splitN_few B.length B; rw [hsp] at this; intro y hy; have := this (rawM y) (List.mem_map_of_mem hy); exact Nat.le_trans this hBl
   refine J.addSl 49 68 tlvE ?_
   refine J.addTlvs ?_
   refine J.addId ?_
   refine Mv 0 E3 <| Qp 1 E2 (QP.len rfl rfl rfl Tryz.underlying133) <| Mv 2 E3 <| Zl hk10 <| Run.block <| Run.loop5 (fun (i : Nat) (ts : List TlvX) (vo : Value) (x : PrS) (idp : Option Addr) => i ≤ rs.length ∧ ts.length ≤ i ∧ runF (begF src) (rs.map rawM) = preX (ts.map tlvM) (runF x ((rs.drop i).map rawM))) (fun i ts vo x idp => .cons 8 (.int .i64 e) (.cons 9 (fp b33) (.cons 10 (vo) (.cons 39 (.slice ar rs.length cr) (.cons 40 (.int .i64 rs.length) (.cons 41 (.int .i64 i) (.nil))))))) (fun i ts vo x idp => [slA 137 2 rawE (.slice ar rs.length cr) rs, rowsB rs, blk b33 (PacketParser.enc ⟨⟨idp, some r25, some r30⟩⟩) 132, mapH r25 x.hops, mapB r30 x.bases, idA idp x.id, slA 49 68 tlvE vo ts, rowsT ts]) (fun i ts vo x idp => rs.length - i) (0) ([]) (.slice none 0 0) (begF src) (none) (⟨Nat.zero_le _, Nat.le_refl _, rfl⟩) ?_ ?_
   ·exact fun _ j => J.envJ (J.keep Tk8 j) ⟨rfl, rfl, rfl, rfl, rfl, rfl, trivial⟩
   rintro i ts vo x idp ⟨hile, htl, hrun⟩ kl11 hl11
   refine Zs fun _ hk12 => Qp 0 E2 (Zb E3) <| J.caseD (fun c42 => ?_) (fun c42 => ?_)
   ·refine Zl hk12 <| Run.seq fun _ hk13 => Zt <| Run.skip <| hk13 _ _ <| Run.seq fun _ hk14 => Run.block <| Run.seq fun _ hk15 => Run.region ?_
    obtain ⟨y, hi⟩ : ∃ y, rs[i]? = some y := ⟨_, GE (by omega)⟩
    obtain ⟨b0, o0, rfl⟩ := hhr.get (by omega)
    have hyl := hrf y (List.mem_of_getElem? hi)
    refine Qp 0 E2 (QP.indexAddr rfl rfl rfl Tryz.underlying133 z137 Og Og) <| Qq 1 E2 (QR.loadSl (y := y) rfl rfl g137 rawE_len (SlAt.own rawE_len Rc) hi) ?_
    refine Ef 2 E2 (EF.allocA (l := Raw.enc Raw.zero) rfl zero137) ?_
    rintro _ _ ⟨b13, rfl, rfl⟩
    refine Ac 3 rfl (EF.storeA rfl rfl rfl z137 (SetL.all (Raw.enc_len _) (Raw.enc_len _)) (Raw.enc_cell _)) ?_
    rintro _ _ rfl
    refine Zl hk15 <| Zs fun _ hk16 => Mv 0 E3 <| Qq 1 E2 (Z0 E2 g137 (Raw.enc_sub _)) ?_
    refine Ef 2 E2 (Zc E2 ce51 Tk5 (fun F' hle hr => read_lent F' x hi hyl)) ?_
    rintro _ _ ⟨_, ⟨ip45, a45, c45, rfl, rfl⟩, rfl⟩
    refine J.app <| Mv 3 E3 <| Qp 4 E2 (Zx E3) <| Qp 5 E2 (Zx E3) <| J.caseB (fun c50 => ?_) (fun c50 => ?_)
    ·refine Ef 6 E2 (EF.allocA (l := Tlv.enc Tlv.zero) rfl zero49) ?_
     rintro _ _ ⟨b14, rfl, rfl⟩
     refine Ac 7 rfl (EF.storeA rfl rfl rfl z49 (SetL.all (Tlv.enc_len _) (Tlv.enc_len _)) (Tlv.enc_cell _)) ?_
     rintro _ _ rfl
     refine Sg 8 E3 <| Zl hk16 <| Zs fun _ hk17 => Mv 0 E3 <| Zl hk17 <| Zt <| Run.region <| Mv 0 E3 <| Qq 1 E2 (Z0 E2 g49 (Tlv.enc_sub _)) ?_
     refine Ef 2 E2 (EF.buildSlice1 rfl Tryz.underlying33 z49 zero49 (by simp [Value.cells, Tlv.enc_len]) (by decide) rfl rfl (Tlv.enc_len _) (by decide)) ?_
     rintro _ _ ⟨b54, rfl, rfl⟩
     refine Ef 3 E2 (EF.append1 (xs := ts) (s := (⟨(readF x y.t y.l).1.1, a45, c45, (readF x y.t y.l).1.2.2⟩ : TlvX)) el49 tlvE_len (fun _ => Tlv.enc_cell _) rfl rfl rfl Tryz.underlying33 Tryz.underlying33 rfl rfl Rc Rc (by omega)) ?_
     rintro sl55 _ rfl
     refine Sg 4 E3 <| Zl hk14 <| Run.region <| Qp 0 E2 (QP.add64 rfl rfl rfl Og Og) <| Mv 1 E3 <| Sq.nil <| J.close (A := rowsT (ts ++ [(⟨(readF x y.t y.l).1.1, a45, c45, (readF x y.t y.l).1.2.2⟩ : TlvX)])) (m := [rowsT ts, stA (⟨(readF x y.t y.l).1.1, a45, c45, (readF x y.t y.l).1.2.2⟩ : TlvX)]) Tk2 (fun _ q => rowsT_snoc q) ?_
     exact J.envJ (J.keep Tk8 (hl11 (i + 1) ((ts ++ [(⟨(readF x y.t y.l).1.1, a45, c45, (readF x y.t y.l).1.2.2⟩ : TlvX)])) (sl55) ((readF x y.t y.l).2) (ip45) (⟨by omega, by simp only [List.length_append, List.length_cons, List.length_nil]; omega, by rw [hrun, runF_at hi, if_pos c50, List.map_append]; rfl⟩) (by omega))) ⟨rfl, rfl, rfl, rfl, rfl, rfl, trivial⟩
    ·refine Ef 6 E2 (EF.allocA (l := Tlv.enc Tlv.zero) rfl zero49) ?_
     rintro _ _ ⟨b14, rfl, rfl⟩
     refine Ac 7 rfl (EF.storeA rfl rfl rfl z49 (SetL.all (Tlv.enc_len _) (Tlv.enc_len _)) (Tlv.enc_cell _)) ?_
     rintro _ _ rfl
     refine Sg 8 E3 <| Zl hk16 <| Zs fun _ hk18 => Mv 0 E3 <| Zl hk18 <| Zf <| Run.skip <| hk14 _ _ <| Run.region <| Qp 0 E2 (QP.add64 rfl rfl rfl Og Og) <| Mv 1 E3 <| Sq.nil ?_
     
     exact J.envJ (J.keep Tk8 (hl11 (i + 1) (ts) (vo) ((readF x y.t y.l).2) (ip45) (⟨by omega, by omega, by rw [hrun, runF_at hi, if_neg (by rw [c50]; simp), List.append_nil]⟩) (by omega))) ⟨rfl, rfl, rfl, rfl, rfl, rfl, trivial⟩
   ·refine Zl hk12 <| Run.seq fun _ hk19 => Zf <| Run.exit rfl <| hk9 _ _ <| Zs fun _ hk20 => Mv 0 E3 <| Mv 1 E3 <| Sg 2 E3 <| Sg 3 E3 <| Zl hk20 <| Run.ret ?_
    have hP : parseF src xs = ((runF (begF src) (rs.map rawM)).1, e) := by unfold parseF; rw [if_neg c23, hB]; rw [hsp]
    rw [hP, hrun, List.drop_eq_nil_of_le (by omega)]
    exact J.ends (m := [slA 49 68 tlvE vo ts, rowsT ts]) (res_tmp2 rfl rfl rfl) Tk2 ⟨ts, vo, rfl, by simp [preX, runF], rfl⟩
  ·intro ku6 hu6
   refine Run.regionD (M := [0, 0, 2, 0, 15, 31, 0, 127, 255, 511, 1023]) (q := 426) (r := 10) Kr ?_
   refine Dr 1 E2 (Z0 E2 g32 (Bs.sub _)) ?_
   refine Dr 3 E2 (Z0 E2 g32 (Bs.sub _)) ?_
   refine Dw.effs (l := [0, 2, 6]) Kr Kr ?_
   rw [FM, FM, FM]
   refine ⟨?_, ?_, ?_, NO⟩
   ·refine Om [3, 1] rfl rfl (EF.makeMap (fun n : I64 => Value.int .i64 n.val) adE rfl) ?_
    rintro _ _ ⟨r25, rfl, rfl⟩
    refine ⟨?_, ?_⟩
    ·rw [FM, FM]
     refine ⟨?_, ?_, NO⟩
     ·exact Lk E3 (Z0 E2 g32 (Bs.sub _))
     ·exact Lk E3 (Z0 E2 g32 (Bs.sub _))
    refine ?_
    refine Dw.effs (l := [2, 6]) Kr Kr ?_
    rw [FM, FM]
    refine ⟨?_, ?_, NO⟩
    ·refine Om [3] rfl rfl (Zc E2 ce49 TN (fun F' hle hr => family_spec F' (src))) ?_
     rintro _ _ ⟨_, ⟨rfl, rfl⟩, rfl⟩
     refine ⟨?_, ?_⟩
     ·rw [FM]
      refine ⟨?_, NO⟩
      ·refine Look.app ?_
       exact Lk E3 (Z0 E2 g32 (Bs.sub _))
     refine ?_
     refine J.app <| Dw.effs (l := [4, 6]) Kr Kr ?_
     rw [FM, FM]
     refine ⟨?_, ?_, NO⟩
     ·refine Oa [] rfl (EF.insert (k := ⟨familyB src, family_range src⟩) (v := src) keyH rfl rfl rfl rfl Tryz.underlying126) ?_
      rintro _ _ rfl
      refine N0 <| Dp 5 E2 (Zm E2) <| De 6 <| Om [3, 1] rfl rfl (EF.makeMap (fun n : N8 => Value.int .u8 n.val) adE rfl) ?_
      rintro _ _ ⟨r30, rfl, rfl⟩
      refine ⟨?_, ?_⟩
      ·rw [FM, FM]
       refine ⟨?_, ?_, NO⟩
       ·exact Lk E3 (Z0 E2 g32 (Bs.sub _))
       ·exact Lk E3 (Z0 E2 g32 (Bs.sub _))
      refine ?_
      refine Dp 7 E2 (QP.build (l := PacketKnown.enc ⟨none, some r25, some r30⟩) rfl st130 rfl (by exact ⟨rfl, ⟨rfl, trivial⟩⟩) rfl) <| Dp 8 E2 (QP.build (l := PacketParser.enc ⟨⟨none, some r25, some r30⟩⟩) rfl st132 rfl (by exact ⟨congrArg some (PacketKnown.enc_len _).symm, trivial⟩) rfl) <| De 9 <| Om [] rfl rfl (EF.boxA rfl rfl) ?_
      rintro _ _ ⟨b33, rfl, rfl⟩
      refine N0 <| De 10 <| Om [] rfl rfl ((Zg E2).eff) ?_
      rintro _ _ ⟨rfl, rfl⟩
      exact N0 <| Dn <| J.envJ (J.keep Tk4 (hu6 (b33) (r25) (r30) (trivial))) ⟨rfl, rfl, trivial⟩
     ·refine Om [3, 1] rfl rfl (EF.makeMap (fun n : N8 => Value.int .u8 n.val) adE rfl) ?_
      rintro _ _ ⟨r30, rfl, rfl⟩
      refine ⟨?_, ?_⟩
      ·rw [FM, FM]
       refine ⟨?_, ?_, NO⟩
       ·exact Lk E3 (Z0 E2 g32 (Bs.sub _))
       ·exact Lk E3 (Z0 E2 g32 (Bs.sub _))
      refine ?_
      refine De 4 <| Oa [] rfl (EF.insert (k := ⟨familyB src, family_range src⟩) (v := src) keyH rfl rfl rfl rfl Tryz.underlying126) ?_
      rintro _ _ rfl
      refine N0 <| Dp 5 E2 (Zm E2) <| Dp 7 E2 (QP.build (l := PacketKnown.enc ⟨none, some r25, some r30⟩) rfl st130 rfl (by exact ⟨rfl, ⟨rfl, trivial⟩⟩) rfl) <| Dp 8 E2 (QP.build (l := PacketParser.enc ⟨⟨none, some r25, some r30⟩⟩) rfl st132 rfl (by exact ⟨congrArg some (PacketKnown.enc_len _).symm, trivial⟩) rfl) <| De 9 <| Om [] rfl rfl (EF.boxA rfl rfl) ?_
      rintro _ _ ⟨b33, rfl, rfl⟩
      refine N0 <| De 10 <| Om [] rfl rfl ((Zg E2).eff) ?_
      rintro _ _ ⟨rfl, rfl⟩
      exact N0 <| Dn <| J.envJ (J.keep Tk4 (hu6 (b33) (r25) (r30) (trivial))) ⟨rfl, rfl, trivial⟩
    ·refine Om [3, 1] rfl rfl (EF.makeMap (fun n : N8 => Value.int .u8 n.val) adE rfl) ?_
     rintro _ _ ⟨r30, rfl, rfl⟩
     refine ⟨?_, ?_⟩
     ·rw [FM, FM]
      refine ⟨?_, ?_, NO⟩
      ·exact Lk E3 (Z0 E2 g32 (Bs.sub _))
      ·exact Lk E3 (Z0 E2 g32 (Bs.sub _))
     refine ?_
     refine De 2 <| Om [3] rfl rfl (Zc E2 ce49 TN (fun F' hle hr => family_spec F' (src))) ?_
     rintro _ _ ⟨_, ⟨rfl, rfl⟩, rfl⟩
     refine ⟨?_, ?_⟩
     ·rw [FM]
      refine ⟨?_, NO⟩
      ·refine Look.app ?_
       exact Lk E3 (Z0 E2 g32 (Bs.sub _))
     refine ?_
     refine J.app <| De 4 <| Oa [] rfl (EF.insert (k := ⟨familyB src, family_range src⟩) (v := src) keyH rfl rfl rfl rfl Tryz.underlying126) ?_
     rintro _ _ rfl
     refine N0 <| Dp 5 E2 (Zm E2) <| Dp 7 E2 (QP.build (l := PacketKnown.enc ⟨none, some r25, some r30⟩) rfl st130 rfl (by exact ⟨rfl, ⟨rfl, trivial⟩⟩) rfl) <| Dp 8 E2 (QP.build (l := PacketParser.enc ⟨⟨none, some r25, some r30⟩⟩) rfl st132 rfl (by exact ⟨congrArg some (PacketKnown.enc_len _).symm, trivial⟩) rfl) <| De 9 <| Om [] rfl rfl (EF.boxA rfl rfl) ?_
     rintro _ _ ⟨b33, rfl, rfl⟩
     refine N0 <| De 10 <| Om [] rfl rfl ((Zg E2).eff) ?_
     rintro _ _ ⟨rfl, rfl⟩
     exact N0 <| Dn <| J.envJ (J.keep Tk4 (hu6 (b33) (r25) (r30) (trivial))) ⟨rfl, rfl, trivial⟩
   ·refine Om [3] rfl rfl (Zc E2 ce49 TN (fun F' hle hr => family_spec F' (src))) ?_
    rintro _ _ ⟨_, ⟨rfl, rfl⟩, rfl⟩
    refine ⟨?_, ?_⟩
    ·rw [FM]
     refine ⟨?_, NO⟩
     ·refine Look.app ?_
      exact Lk E3 (Z0 E2 g32 (Bs.sub _))
    refine ?_
    refine J.app <| Dw.effs (l := [0, 6]) Kr Kr ?_
    rw [FM, FM]
    refine ⟨?_, ?_, NO⟩
    ·refine Om [3, 1] rfl rfl (EF.makeMap (fun n : I64 => Value.int .i64 n.val) adE rfl) ?_
     rintro _ _ ⟨r25, rfl, rfl⟩
     refine ⟨?_, ?_⟩
     ·rw [FM, FM]
      refine ⟨?_, ?_, NO⟩
      ·exact Lk E3 (Z0 E2 g32 (Bs.sub _))
      ·exact Lk E3 (Z0 E2 g32 (Bs.sub _))
     refine ?_
     refine Dw.effs (l := [4, 6]) Kr Kr ?_
     rw [FM, FM]
     refine ⟨?_, ?_, NO⟩
     ·refine Oa [] rfl (EF.insert (k := ⟨familyB src, family_range src⟩) (v := src) keyH rfl rfl rfl rfl Tryz.underlying126) ?_
      rintro _ _ rfl
      refine N0 <| Dp 5 E2 (Zm E2) <| De 6 <| Om [3, 1] rfl rfl (EF.makeMap (fun n : N8 => Value.int .u8 n.val) adE rfl) ?_
      rintro _ _ ⟨r30, rfl, rfl⟩
      refine ⟨?_, ?_⟩
      ·rw [FM, FM]
       refine ⟨?_, ?_, NO⟩
       ·exact Lk E3 (Z0 E2 g32 (Bs.sub _))
       ·exact Lk E3 (Z0 E2 g32 (Bs.sub _))
      refine ?_
      refine Dp 7 E2 (QP.build (l := PacketKnown.enc ⟨none, some r25, some r30⟩) rfl st130 rfl (by exact ⟨rfl, ⟨rfl, trivial⟩⟩) rfl) <| Dp 8 E2 (QP.build (l := PacketParser.enc ⟨⟨none, some r25, some r30⟩⟩) rfl st132 rfl (by exact ⟨congrArg some (PacketKnown.enc_len _).symm, trivial⟩) rfl) <| De 9 <| Om [] rfl rfl (EF.boxA rfl rfl) ?_
      rintro _ _ ⟨b33, rfl, rfl⟩
      refine N0 <| De 10 <| Om [] rfl rfl ((Zg E2).eff) ?_
      rintro _ _ ⟨rfl, rfl⟩
      exact N0 <| Dn <| J.envJ (J.keep Tk4 (hu6 (b33) (r25) (r30) (trivial))) ⟨rfl, rfl, trivial⟩
     ·refine Om [3, 1] rfl rfl (EF.makeMap (fun n : N8 => Value.int .u8 n.val) adE rfl) ?_
      rintro _ _ ⟨r30, rfl, rfl⟩
      refine ⟨?_, ?_⟩
      ·rw [FM, FM]
       refine ⟨?_, ?_, NO⟩
       ·exact Lk E3 (Z0 E2 g32 (Bs.sub _))
       ·exact Lk E3 (Z0 E2 g32 (Bs.sub _))
      refine ?_
      refine De 4 <| Oa [] rfl (EF.insert (k := ⟨familyB src, family_range src⟩) (v := src) keyH rfl rfl rfl rfl Tryz.underlying126) ?_
      rintro _ _ rfl
      refine N0 <| Dp 5 E2 (Zm E2) <| Dp 7 E2 (QP.build (l := PacketKnown.enc ⟨none, some r25, some r30⟩) rfl st130 rfl (by exact ⟨rfl, ⟨rfl, trivial⟩⟩) rfl) <| Dp 8 E2 (QP.build (l := PacketParser.enc ⟨⟨none, some r25, some r30⟩⟩) rfl st132 rfl (by exact ⟨congrArg some (PacketKnown.enc_len _).symm, trivial⟩) rfl) <| De 9 <| Om [] rfl rfl (EF.boxA rfl rfl) ?_
      rintro _ _ ⟨b33, rfl, rfl⟩
      refine N0 <| De 10 <| Om [] rfl rfl ((Zg E2).eff) ?_
      rintro _ _ ⟨rfl, rfl⟩
      exact N0 <| Dn <| J.envJ (J.keep Tk4 (hu6 (b33) (r25) (r30) (trivial))) ⟨rfl, rfl, trivial⟩
    ·refine Om [3, 1] rfl rfl (EF.makeMap (fun n : N8 => Value.int .u8 n.val) adE rfl) ?_
     rintro _ _ ⟨r30, rfl, rfl⟩
     refine ⟨?_, ?_⟩
     ·rw [FM, FM]
      refine ⟨?_, ?_, NO⟩
      ·exact Lk E3 (Z0 E2 g32 (Bs.sub _))
      ·exact Lk E3 (Z0 E2 g32 (Bs.sub _))
     refine ?_
     refine De 0 <| Om [3, 1] rfl rfl (EF.makeMap (fun n : I64 => Value.int .i64 n.val) adE rfl) ?_
     rintro _ _ ⟨r25, rfl, rfl⟩
     refine ⟨?_, ?_⟩
     ·rw [FM, FM]
      refine ⟨?_, ?_, NO⟩
      ·exact Lk E3 (Z0 E2 g32 (Bs.sub _))
      ·exact Lk E3 (Z0 E2 g32 (Bs.sub _))
     refine ?_
     refine De 4 <| Oa [] rfl (EF.insert (k := ⟨familyB src, family_range src⟩) (v := src) keyH rfl rfl rfl rfl Tryz.underlying126) ?_
     rintro _ _ rfl
     refine N0 <| Dp 5 E2 (Zm E2) <| Dp 7 E2 (QP.build (l := PacketKnown.enc ⟨none, some r25, some r30⟩) rfl st130 rfl (by exact ⟨rfl, ⟨rfl, trivial⟩⟩) rfl) <| Dp 8 E2 (QP.build (l := PacketParser.enc ⟨⟨none, some r25, some r30⟩⟩) rfl st132 rfl (by exact ⟨congrArg some (PacketKnown.enc_len _).symm, trivial⟩) rfl) <| De 9 <| Om [] rfl rfl (EF.boxA rfl rfl) ?_
     rintro _ _ ⟨b33, rfl, rfl⟩
     refine N0 <| De 10 <| Om [] rfl rfl ((Zg E2).eff) ?_
     rintro _ _ ⟨rfl, rfl⟩
     exact N0 <| Dn <| J.envJ (J.keep Tk4 (hu6 (b33) (r25) (r30) (trivial))) ⟨rfl, rfl, trivial⟩
   ·refine Om [3, 1] rfl rfl (EF.makeMap (fun n : N8 => Value.int .u8 n.val) adE rfl) ?_
    rintro _ _ ⟨r30, rfl, rfl⟩
    refine ⟨?_, ?_⟩
    ·rw [FM, FM]
     refine ⟨?_, ?_, NO⟩
     ·exact Lk E3 (Z0 E2 g32 (Bs.sub _))
     ·exact Lk E3 (Z0 E2 g32 (Bs.sub _))
    refine ?_
    refine Dw.effs (l := [0, 2]) Kr Kr ?_
    rw [FM, FM]
    refine ⟨?_, ?_, NO⟩
    ·refine Om [3, 1] rfl rfl (EF.makeMap (fun n : I64 => Value.int .i64 n.val) adE rfl) ?_
     rintro _ _ ⟨r25, rfl, rfl⟩
     refine ⟨?_, ?_⟩
     ·rw [FM, FM]
      refine ⟨?_, ?_, NO⟩
      ·exact Lk E3 (Z0 E2 g32 (Bs.sub _))
      ·exact Lk E3 (Z0 E2 g32 (Bs.sub _))
     refine ?_
     refine De 2 <| Om [3] rfl rfl (Zc E2 ce49 TN (fun F' hle hr => family_spec F' (src))) ?_
     rintro _ _ ⟨_, ⟨rfl, rfl⟩, rfl⟩
     refine ⟨?_, ?_⟩
     ·rw [FM]
      refine ⟨?_, NO⟩
      ·refine Look.app ?_
       exact Lk E3 (Z0 E2 g32 (Bs.sub _))
     refine ?_
     refine J.app <| De 4 <| Oa [] rfl (EF.insert (k := ⟨familyB src, family_range src⟩) (v := src) keyH rfl rfl rfl rfl Tryz.underlying126) ?_
     rintro _ _ rfl
     refine N0 <| Dp 5 E2 (Zm E2) <| Dp 7 E2 (QP.build (l := PacketKnown.enc ⟨none, some r25, some r30⟩) rfl st130 rfl (by exact ⟨rfl, ⟨rfl, trivial⟩⟩) rfl) <| Dp 8 E2 (QP.build (l := PacketParser.enc ⟨⟨none, some r25, some r30⟩⟩) rfl st132 rfl (by exact ⟨congrArg some (PacketKnown.enc_len _).symm, trivial⟩) rfl) <| De 9 <| Om [] rfl rfl (EF.boxA rfl rfl) ?_
     rintro _ _ ⟨b33, rfl, rfl⟩
     refine N0 <| De 10 <| Om [] rfl rfl ((Zg E2).eff) ?_
     rintro _ _ ⟨rfl, rfl⟩
     exact N0 <| Dn <| J.envJ (J.keep Tk4 (hu6 (b33) (r25) (r30) (trivial))) ⟨rfl, rfl, trivial⟩
    ·refine Om [3] rfl rfl (Zc E2 ce49 TN (fun F' hle hr => family_spec F' (src))) ?_
     rintro _ _ ⟨_, ⟨rfl, rfl⟩, rfl⟩
     refine ⟨?_, ?_⟩
     ·rw [FM]
      refine ⟨?_, NO⟩
      ·refine Look.app ?_
       exact Lk E3 (Z0 E2 g32 (Bs.sub _))
     refine ?_
     refine J.app <| De 0 <| Om [3, 1] rfl rfl (EF.makeMap (fun n : I64 => Value.int .i64 n.val) adE rfl) ?_
     rintro _ _ ⟨r25, rfl, rfl⟩
     refine ⟨?_, ?_⟩
     ·rw [FM, FM]
      refine ⟨?_, ?_, NO⟩
      ·exact Lk E3 (Z0 E2 g32 (Bs.sub _))
      ·exact Lk E3 (Z0 E2 g32 (Bs.sub _))
     refine ?_
     refine De 4 <| Oa [] rfl (EF.insert (k := ⟨familyB src, family_range src⟩) (v := src) keyH rfl rfl rfl rfl Tryz.underlying126) ?_
     rintro _ _ rfl
     refine N0 <| Dp 5 E2 (Zm E2) <| Dp 7 E2 (QP.build (l := PacketKnown.enc ⟨none, some r25, some r30⟩) rfl st130 rfl (by exact ⟨rfl, ⟨rfl, trivial⟩⟩) rfl) <| Dp 8 E2 (QP.build (l := PacketParser.enc ⟨⟨none, some r25, some r30⟩⟩) rfl st132 rfl (by exact ⟨congrArg some (PacketKnown.enc_len _).symm, trivial⟩) rfl) <| De 9 <| Om [] rfl rfl (EF.boxA rfl rfl) ?_
     rintro _ _ ⟨b33, rfl, rfl⟩
     refine N0 <| De 10 <| Om [] rfl rfl ((Zg E2).eff) ?_
     rintro _ _ ⟨rfl, rfl⟩
     exact N0 <| Dn <| J.envJ (J.keep Tk4 (hu6 (b33) (r25) (r30) (trivial))) ⟨rfl, rfl, trivial⟩
end Slb
