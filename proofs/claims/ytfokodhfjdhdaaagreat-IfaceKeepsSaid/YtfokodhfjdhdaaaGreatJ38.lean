/- J38: a part of the proof that a law of this package holds for every input; no condition. -/
import Derived.Test.YtfokodhfjdhdaaaGreatM2
import Derived.Test.YtfokodhfjdhdaaaGreatJ37
namespace Slb
open Go Go.Proofs
set_option maxRecDepth 20000
@[reducible] def slB (y : SlX) : HProp := slA 5 1 bytE (.slice y.a y.n y.c) y.l
/-- The packets' bytes. -/
def rowsS (os : List SlX) : HProp := stars (os.map slB)
theorem rowsS_snoc {os : List SlX} {y : SlX} {p : PH} (g : stars [rowsS os, slB y] p) : rowsS (os ++ [y]) p := by
 obtain ⟨h1, h2, d, rfl, g1, g2⟩ := g
 unfold rowsS
 rw [List.map_append]
 exact stars_append.2 ⟨h1, h2, d, rfl, g1, g2⟩
theorem J.addRowsS {N : Nat} {G : Env} {S : List HProp} {F : Fr} {Φ : Act → World → Prop} (j : J N G (rowsS [] :: S) F Φ) : J N G S F Φ := j.conseq fun w s => by
 obtain ⟨a, b, c, d, k, hk, f, h⟩ := s
 exact ⟨a, b, c, d, k, ⟨PH.none, k, PH.none_disj k, (PH.none_union k).symm, rfl, hk⟩, f, h⟩
/-- One Tlv more. -/
def pkStep (src : Bs 16) (mtu : Int) (s : PackTold × List UInt8 × List (List UInt8)) (p : Tlv × List Int) : PackTold × List UInt8 × List (List UInt8) :=
 if (addR s.1 p.1 p.2 s.2.1 mtu).2.2 = true then ((addR s.1 p.1 p.2 s.2.1 mtu).1, (addR s.1 p.1 p.2 s.2.1 mtu).2.1, s.2.2)
 else ((addR (toldB src) p.1 p.2 [] mtu).1, (addR (toldB src) p.1 p.2 [] mtu).2.1, s.2.2 ++ [wrapL s.2.1])
def pkRun (src : Bs 16) (mtu : Int) (ps : List (Tlv × List Int)) : PackTold × List UInt8 × List (List UInt8) := ps.foldl (pkStep src mtu) (toldB src, [], [])
/-- The packets of a list. -/
def flushF (src : Bs 16) (mtu : Int) (ps : List (Tlv × List Int)) : List (List UInt8) := if ps = [] then [] else (pkRun src mtu ps).2.2 ++ [wrapL (pkRun src mtu ps).2.1]
theorem addR_len {td : PackTold} {t : Tlv} {st : List Int} {l : List UInt8} {mtu : Int} (h : (l.length : Int) + 4 ≤ mtu) : ((addR td t st l mtu).2.1.length : Int) + 4 ≤ mtu := by
 unfold addR
 split
 · simp only [List.length_append]; omega
 · exact h
theorem addR_f {td : PackTold} {t : Tlv} {st : List Int} {l : List UInt8} {mtu : Int} (h : (addR td t st l mtu).2.2 = false) : addR td t st l mtu = (td, l, false) := by
 unfold addR at h ⊢
 split at h
 · cases h
 · rename_i h1; rw [if_neg h1]
theorem pk_fit {src : Bs 16} {mtu : Int} {td : PackTold} {l : List UInt8} {os : List (List UInt8)} {ts : List TlvX} {i : Nat} {x : TlvX} (h : (td, l, os) = pkRun src mtu ((ts.take i).map tlvM)) (hi : ts[i]? = some x) (hc : (addR td (tlvS x) x.l l mtu).2.2 = true) :
   ((addR td (tlvS x) x.l l mtu).1, (addR td (tlvS x) x.l l mtu).2.1, os) = pkRun src mtu ((ts.take (i + 1)).map tlvM) := by
 unfold pkRun at h ⊢
 rw [take_succ_get hi, List.map_append, List.foldl_append, ← h]
 show _ = pkStep src mtu (td, l, os) (tlvM x)
 unfold pkStep
 rw [if_pos (show (addR td (tlvM x).1 (tlvM x).2 l mtu).2.2 = true from hc)]
 rfl
theorem pk_new {src : Bs 16} {mtu : Int} {td : PackTold} {l : List UInt8} {os : List (List UInt8)} {ts : List TlvX} {i : Nat} {x : TlvX} (h : (td, l, os) = pkRun src mtu ((ts.take i).map tlvM)) (hi : ts[i]? = some x) (hc : (addR td (tlvS x) x.l l mtu).2.2 = false) :
   ((addR (toldB src) (tlvS x) x.l [] mtu).1, (addR (toldB src) (tlvS x) x.l [] mtu).2.1, os ++ [wrapL (addR td (tlvS x) x.l l mtu).2.1]) = pkRun src mtu ((ts.take (i + 1)).map tlvM) := by
 rw [addR_f hc]
 unfold pkRun at h ⊢
 rw [take_succ_get hi, List.map_append, List.foldl_append, ← h]
 show _ = pkStep src mtu (td, l, os) (tlvM x)
 unfold pkStep
 rw [if_neg (show ¬ (addR td (tlvM x).1 (tlvM x).2 l mtu).2.2 = true from by rw [show (addR td (tlvM x).1 (tlvM x).2 l mtu).2.2 = false from hc]; simp)]
 rfl
/-- What the loop of Flush holds. -/
structure FlS where
 td : PackTold
 l : List UInt8
 bo : Nat
 ba : Option Addr
 bc : Nat
 os : List SlX
 oa : Option Addr
 oc : Nat

theorem add_lent (F : Fr) {ts : List TlvX} {x : TlvX} (hm : x ∈ ts) (hw : (tlvS x).WF) (hr32 : ∀ n ∈ x.l, 0 ≤ n ∧ n < 4294967296) (hc0 : checkF (tlvS x) = 0) {b0 : Nat} {td : PackTold} {oa : Option Addr} {oc : Nat} {l : List UInt8} {mtu : Int} (hm1 : 0 ≤ mtu) (hm2 : mtu ≤ 1000000) (hl : l.length ≤ 1000000) :
   Spec Tryz.prog 69 #[.pointer (some ⟨b0, 0, none⟩), .agg (Tlv.enc (tlvS x)).toArray, .int .i64 mtu] [rowsT ts, blk b0 (PackOpen.enc ⟨td, ⟨oa, l.length, oc⟩⟩) 174, slA 5 1 bytE (.slice oa l.length oc) l] F fun v S => ∃ (a2 : Option Addr) (c2 : Nat), v = .bool (addR td (tlvS x) x.l l mtu).2.2 ∧ S = [rowsT ts, blk b0 (PackOpen.enc ⟨(addR td (tlvS x) x.l l mtu).1, ⟨a2, (addR td (tlvS x) x.l l mtu).2.1.length, c2⟩⟩) 174, slA 5 1 bytE (.slice a2 (addR td (tlvS x) x.l l mtu).2.1.length c2) (addR td (tlvS x) x.l l mtu).2.1] := by
 have h := Spec.lendL (P := Tryz.prog) (f := 69) (args := #[.pointer (some ⟨b0, 0, none⟩), .agg (Tlv.enc (tlvS x)).toArray, .int .i64 mtu]) (m := [blk b0 (PackOpen.enc ⟨td, ⟨oa, l.length, oc⟩⟩) 174, slA 5 1 bytE (.slice oa l.length oc) l]) (F := F) (L := [rowsT ts]) (R := fun v S => ∃ (a2 : Option Addr) (c2 : Nat), v = .bool (addR td (tlvS x) x.l l mtu).2.2 ∧ S = [blk b0 (PackOpen.enc ⟨(addR td (tlvS x) x.l l mtu).1, ⟨a2, (addR td (tlvS x) x.l l mtu).2.1.length, c2⟩⟩) 174, slA 5 1 bytE (.slice a2 (addR td (tlvS x) x.l l mtu).2.1.length c2) (addR td (tlvS x) x.l l mtu).2.1]) (fun F2 q hle hA hq => by
   have ht : TlvIn F2 x := by
     obtain ⟨p, hp, hpq⟩ := stars_mem (A := rowsT ts) (by simp) hA
     obtain ⟨p2, hp2, hpq2⟩ := stars_mem (List.mem_map_of_mem (f := stA) hm) hp
     exact slA_arg (fun _ => rfl) hp2 ((hpq2.trans hpq).trans hq)
   exact add_spec F2 x hw ht hr32 hc0 hm1 hm2 hl)
 refine h.mono ?_
 rintro v S ⟨S1, ⟨a2, c2, h1, rfl⟩, rfl⟩
 exact ⟨a2, c2, h1, rfl⟩

theorem flush1_spec (F : Fr) {b2 b3 bo : Nat} {td : PackTold} {l : List UInt8} {ba : Option Addr} {bc : Nat} {os : List SlX} {oa : Option Addr} {oc : Nat} (hl : l.length ≤ 65535) (hos : os.length ≤ 1000000)  : Spec Tryz.prog 67 #[.pointer (some ⟨b3, 0, none⟩), .pointer (some ⟨b2, 0, none⟩)] [blk b3 [.pointer (some ⟨bo, 0, none⟩)] 165, blk b2 [.slice oa os.length oc] 108, blk bo (PackOpen.enc ⟨td, ⟨ba, l.length, bc⟩⟩) 174, slA 5 1 bytE (.slice ba l.length bc) l, slA 75 1 slE (.slice oa os.length oc) os, rowsS os] F (fun v S => ∃ (y : SlX) (oa1 : Option Addr) (oc1 : Nat), y.l = wrapL l ∧ S = [blk b3 [.pointer (some ⟨bo, 0, none⟩)] 165, blk b2 [.slice oa1 (os ++ [y]).length oc1] 108, slA 75 1 slE (.slice oa1 (os ++ [y]).length oc1) (os ++ [y]), rowsS (os ++ [y])]) := by
 refine Spec.intro (N := 16) (args := [.pointer (some ⟨b3, 0, none⟩), .pointer (some ⟨b2, 0, none⟩)]) Tryz.func67 rfl rfl (by simp) ?_
 refine Zs fun _ hk1 => Qq 0 E2 (Z1 E2 g165 SubL.one) ?_
 refine Qp 1 E2 (Zn E2) <| Fa 2 E3 f174_1 <| Qq 3 E2 (QR.load1 (v := .slice ba l.length bc) rfl rfl g75 (PackOpen.sub_body _)) ?_
 refine Ef 4 E2 (Zc E2 ce68 Tk1 (fun F' hle hr => Spec.lendSl (e := 5) (z := 1) (enc := bytE) (xs := l) (fun _ => rfl) (fun F2 _ hb2 => packet1_spec F2 hb2 hl))) ?_
 rintro _ _ ⟨_, ⟨_, ⟨v9, rfl, rfl⟩, rfl⟩, rfl⟩
 refine J.app <| Mv 5 E3 <| Qp 6 E2 (Zx E3) <| Qp 7 E2 (Zx E3) <| Sg 8 E3 <| Sg 9 E3 <| Zl hk1 <| Run.region <| Sq.slCase (v := v9) (xs := (wrapL l)) Rc (fun a9 c9 hv9 hh9 => ?_)
 subst hv9
 refine Qq 0 E2 (QR.load1 (v := .slice oa os.length oc) rfl rfl g108 SubL.one) ?_
 refine Mv 1 E3 <| Ef 2 E2 (EF.buildSliceS rfl Tryz.underlying108 z75 zero75 rfl (by decide) rfl rfl rfl rfl) ?_
 rintro _ _ ⟨b14, rfl, rfl⟩
 refine Ef 3 E2 (EF.append1 (xs := os) (s := (⟨a9, (wrapL l).length, c9, wrapL l, rfl⟩ : SlX)) (enc := slE) el75 (fun _ => rfl) (fun _ => cell_one rfl) rfl rfl rfl Tryz.underlying108 Tryz.underlying108 rfl rfl Rc Rc (by omega)) ?_
 rintro sl15 _ rfl
 refine Sq.slCase (v := sl15) (xs := (os ++ [(⟨a9, (wrapL l).length, c9, wrapL l, rfl⟩ : SlX)])) Rc (fun a15 c15 hv15 hh15 => ?_)
 subst hv15
 refine Ac 4 rfl (EF.store rfl rfl rfl z108 SetL.one (cell_one rfl)) ?_
 rintro _ _ rfl
 refine Sq.nil <| J.close (A := rowsS (os ++ [(⟨a9, (wrapL l).length, c9, wrapL l, rfl⟩ : SlX)])) (m := [rowsS os, slB (⟨a9, (wrapL l).length, c9, wrapL l, rfl⟩ : SlX)]) Tk2 (fun _ q => rowsS_snoc q) ?_
 exact J.ends (res_none rfl) Tk4 ⟨(⟨a9, (wrapL l).length, c9, wrapL l, rfl⟩ : SlX), a15, c15, rfl, rfl⟩

set_option maxHeartbeats 2000000 in
theorem flush_spec (F : Fr) {ts : List TlvX} {b0 : Nat} {src : Bs 16} {mtu : Int} {la : Option Addr} {lc : Nat} (hfit : ∀ x ∈ ts, fitsF src mtu (tlvS x) x.l = 0) (hwf : ∀ x ∈ ts, (tlvS x).WF) (hr32 : ∀ x ∈ ts, ∀ n ∈ x.l, 0 ≤ n ∧ n < 4294967296) (hn : ts.length ≤ 1000000) (hm1 : 64 ≤ mtu) (hm2 : mtu ≤ 65539)  : Spec Tryz.prog 43 #[.pointer (some ⟨b0, 0, none⟩)] [blk b0 (PackBuffer.enc ⟨src, mtu, ⟨la, ts.length, lc⟩⟩) 150, slA 49 68 tlvE (.slice la ts.length lc) ts, rowsT ts] F (fun v S => ∃ (os : List SlX) (oa : Option Addr) (oc : Nat) (la1 : Option Addr) (lc1 : Nat), v = .slice oa os.length oc ∧ os.map (·.l) = flushF src mtu (ts.map tlvM) ∧ S = [slA 75 1 slE (.slice oa os.length oc) os, rowsS os, blk b0 (PackBuffer.enc ⟨src, mtu, ⟨la1, 0, lc1⟩⟩) 150, slA 49 68 tlvE (.slice la1 0 lc1) []]) := by
 refine Spec.intro (N := 54) (args := [.pointer (some ⟨b0, 0, none⟩)]) Tryz.func43 rfl rfl (by simp) ?_
 refine Zs fun _ hk1 => Ef 0 E2 (EF.alloc1 rfl zero108 rfl) ?_
 rintro _ _ ⟨b2, rfl, rfl⟩
 refine Zl hk1 <| Run.seq fun _ hk2 => Zs fun _ hk3 => Mv 0 E3 <| Ef 1 E2 (Zc E2 ce45 Tk1 (fun F' hle hr => len_spec F')) ?_
 rintro _ _ ⟨_, ⟨rfl, rfl⟩, rfl⟩
 refine J.app <| Qp 2 E2 (Ze E3) <| J.caseD (fun c9 => ?_) (fun c9 => ?_)
 ·refine Zl hk3 <| Zt <| Zs fun _ hk4 => Ac 0 rfl (EF.store rfl rfl rfl z108 SetL.one (cell_one rfl)) ?_
  rintro _ _ rfl
  refine Zl hk4 <| Run.ret ?_
  obtain rfl : ts = [] := List.length_eq_zero_iff.1 (by have h9 : (ts.length : Int) = 0 := c9; omega)
  refine J.addSl 75 1 slE ?_
  refine J.addRowsS ?_
  exact J.ends (m := [slA 75 1 slE (.slice none ([] : List SlX).length 0) ([] : List SlX), rowsS ([] : List SlX), blk b0 (PackBuffer.enc ⟨src, mtu, ⟨la, 0, lc⟩⟩) 150, slA 49 68 tlvE (.slice la 0 lc) []]) (res_cell1 rfl rfl g108) Tk4 ⟨[], none, 0, la, lc, rfl, rfl, rfl⟩
 ·refine Zl hk3 <| Zf <| Run.skip <| hk2 _ _ <| Zs fun _ hk5 => Mv 0 E3 <| Qp 1 E2 (Zn E2) <| Fa 2 E3 f150_0 <| Qq 3 E2 (Z0 E2 g32 (PackBuffer.sub_src _)) ?_
  refine Ef 4 E2 (Zc E2 ce66 TN (fun F' hle hr => begin_spec F' src)) ?_
  rintro _ _ ⟨_, ⟨b14, rfl, rfl⟩, rfl⟩
  refine J.app <| Ef 5 E2 (EF.alloc1 rfl zero165 rfl) ?_
  rintro _ _ ⟨b3, rfl, rfl⟩
  refine Ac 6 rfl (EF.store rfl rfl rfl z165 SetL.one (cell_one rfl)) ?_
  rintro _ _ rfl
  refine Zl hk5 <| Zs fun _ hk6 => Qp 0 E2 (QP.makeFunc rfl rfl) <| Sg 1 E3 <| Zl hk6 <| Run.seq fun _ hk7 => Zs fun _ hk8 => Sq.slCase (v := .slice la ts.length lc) (xs := ts) Rc (fun a1 c1 hv1 hh1 => ?_)
  cases hv1
  refine J.addSl 75 1 slE ?_
  refine J.addRowsS ?_
  refine Mv 0 E3 <| Qp 1 E2 (Zn E2) <| Fa 2 E3 f150_2 <| Qq 3 E2 (QR.load1 (v := .slice la ts.length lc) rfl rfl g33 (PackBuffer.sub_l _)) ?_
  refine Qp 4 E2 (QP.len rfl rfl rfl Tryz.underlying33) <| Mv 5 E3 <| Zl hk8 <| Run.block <| Run.loop2 (fun (i : Nat) (q : FlS) => i ≤ ts.length ∧ (q.td, q.l, q.os.map (·.l)) = pkRun src mtu ((ts.take i).map tlvM) ∧ (q.l.length : Int) + 4 ≤ mtu ∧ q.os.length ≤ i) (fun i q => .cons 0 (.pointer (some ⟨b0, 0, none⟩)) (.cons 2 (fp b2) (.cons 3 (fp b3) (.cons 4 (.func (.func 67) #[] #[.pointer (some ⟨b3, 0, none⟩), .pointer (some ⟨b2, 0, none⟩)]) (.cons 19 (.slice la ts.length lc) (.cons 20 (.int .i64 ts.length) (.cons 21 (.int .i64 i) (.nil)))))))) (fun i q => [blk b3 [.pointer (some ⟨q.bo, 0, none⟩)] 165, blk b2 [.slice q.oa q.os.length q.oc] 108, blk q.bo (PackOpen.enc ⟨q.td, ⟨q.ba, q.l.length, q.bc⟩⟩) 174, slA 5 1 bytE (.slice q.ba q.l.length q.bc) q.l, slA 75 1 slE (.slice q.oa q.os.length q.oc) q.os, rowsS q.os, blk b0 (PackBuffer.enc ⟨src, mtu, ⟨la, ts.length, lc⟩⟩) 150, slA 49 68 tlvE (.slice la ts.length lc) ts, rowsT ts]) (fun i q => ts.length - i) (0) ((⟨toldB src, [], b14, none, 0, [], none, 0⟩ : FlS)) (⟨Nat.zero_le _, rfl, by simp; omega, by simp⟩) ?_ ?_
  ·exact fun _ j => J.envJ (J.keep Tk9 j) ⟨rfl, rfl, rfl, rfl, rfl, rfl, rfl, trivial⟩
  rintro i q ⟨hile, hq, hql, hol⟩ kl9 hl9
  refine Zs fun _ hk10 => Qp 0 E2 (Zb E3) <| J.caseD (fun c22 => ?_) (fun c22 => ?_)
  ·refine Zl hk10 <| Run.seq fun _ hk11 => Zt <| Run.skip <| hk11 _ _ <| Run.seq fun _ hk12 => Run.block <| Run.seq fun _ hk13 => Run.region ?_
   obtain ⟨x, hi⟩ : ∃ x, ts[i]? = some x := ⟨_, GE (by omega)⟩
   obtain ⟨bb, oo, rfl⟩ := hh1.get (by omega)
   have hmx := List.mem_of_getElem? hi
   refine Qp 0 E2 (QP.indexAddr rfl rfl rfl Tryz.underlying33 z49 Og Og) <| Qq 1 E2 (QR.loadSl (y := x) rfl rfl g49 tlvE_len (SlAt.own tlvE_len Rc) hi) ?_
   refine Ef 2 E2 (EF.allocA (l := Tlv.enc Tlv.zero) rfl zero49) ?_
   rintro _ _ ⟨b6, rfl, rfl⟩
   refine Ac 3 rfl (EF.storeA rfl rfl rfl z49 (SetL.all (Tlv.enc_len _) (Tlv.enc_len _)) (Tlv.enc_cell _)) ?_
   rintro _ _ rfl
   refine Zl hk13 <| Run.seq fun _ hk14 => Run.regionD (M := [0, 0, 0, 4, 12, 28, 63, 127]) (q := 191) (r := 35) Kr ?_
   refine Dr 0 E2 (Z1 E2 g165 SubL.one) ?_
   refine Dr 1 E2 (Z0 E2 g49 (Tlv.enc_sub _)) ?_
   refine Dp 2 E2 (Zm E2) <| Dp 3 E2 (Zn E2) <| Dp 4 E2 (Za E2 f150_1) <| Dr 5 E2 (Z1 E2 g3 (PackBuffer.sub_mtu _)) ?_
   refine De 6 <| Om [] rfl rfl (Zc E2 ce69 Tk3 (fun F' hle hr => add_lent F' hmx (hwf x hmx) (hr32 x hmx) (fits_chk (hfit x hmx)) (td := q.td) (l := q.l) (mtu := mtu) (by omega) (by omega) (by omega))) ?_
   rintro _ _ ⟨_, ⟨a31, e31, rfl, rfl⟩, rfl⟩
   refine N0 <| J.app <| J.caseB (fun c31 => ?_) (fun c31 => ?_)
   ·exact Dp 7 E2 (Zu E2) <| Dn <| hk14 _ _ <| Zf <| Run.skip <| hk12 _ _ <| Run.region <| Qp 0 E2 (QP.add64 rfl rfl rfl Og Og) <| Mv 1 E3 <| Sq.nil <| J.envJ (J.keep Tk9 (hl9 (i + 1) ((⟨(addR q.td (tlvS x) x.l q.l mtu).1, (addR q.td (tlvS x) x.l q.l mtu).2.1, q.bo, a31, e31, q.os, q.oa, q.oc⟩ : FlS)) (⟨by omega, pk_fit hq hi c31, addR_len hql, by show q.os.length ≤ i + 1; omega⟩) (by omega))) ⟨rfl, rfl, rfl, rfl, rfl, rfl, rfl, trivial⟩
   ·refine Dp 7 E2 (Zu E2) <| Dn <| hk14 _ _ <| Zt <| Zs fun _ hk15 => Mv 0 E3 <| Ef 1 E2 (EF.callV rfl rfl ce67 rfl Tk6 (fun F' hle hr => flush1_spec F' (b2 := b2) (b3 := b3) (bo := q.bo) (td := (addR q.td (tlvS x) x.l q.l mtu).1) (l := (addR q.td (tlvS x) x.l q.l mtu).2.1) (ba := a31) (bc := e31) (os := q.os) (oa := q.oa) (oc := q.oc) (by have := addR_len (td := q.td) (t := (tlvS x)) (st := x.l) hql; omega) (by omega))) ?_
    rintro _ _ ⟨_, ⟨y, oa9, oc9, hy9, rfl⟩, rfl⟩
    refine J.app <| Zl hk15 <| Zs fun _ hk16 => Mv 0 E3 <| Qp 1 E2 (Zn E2) <| Fa 2 E3 f150_0 <| Qq 3 E2 (Z0 E2 g32 (PackBuffer.sub_src _)) ?_
    refine Ef 4 E2 (Zc E2 ce66 TN (fun F' hle hr => begin_spec F' src)) ?_
    rintro _ _ ⟨_, ⟨b39, rfl, rfl⟩, rfl⟩
    refine J.app <| Ac 5 rfl (EF.store rfl rfl rfl z165 SetL.one (cell_one rfl)) ?_
    rintro _ _ rfl
    refine Zl hk16 <| Run.regionD (M := [0, 0, 0, 4, 12, 28, 63]) (q := 63) (r := 35) Kr ?_
    refine Dr 0 E2 (Z1 E2 g165 SubL.one) ?_
    refine Dr 1 E2 (Z0 E2 g49 (Tlv.enc_sub _)) ?_
    refine Dp 2 E2 (Zm E2) <| Dp 3 E2 (Zn E2) <| Dp 4 E2 (Za E2 f150_1) <| Dr 5 E2 (Z1 E2 g3 (PackBuffer.sub_mtu _)) ?_
    refine De 6 <| Om [] rfl rfl (Zc E2 ce69 Tk3 (fun F' hle hr => add_lent F' hmx (hwf x hmx) (hr32 x hmx) (fits_chk (hfit x hmx)) (td := toldB src) (oa := none) (oc := 0) (l := []) (mtu := mtu) (by omega) (by omega) (by simp))) ?_
    rintro _ _ ⟨_, ⟨a46, e46, rfl, rfl⟩, rfl⟩
    exact N0 <| J.app <| Dn <| hk12 _ _ <| Run.region <| Qp 0 E2 (QP.add64 rfl rfl rfl Og Og) <| Mv 1 E3 <| Sq.nil <| J.envJ (J.keep Tk9 (hl9 (i + 1) ((⟨(addR (toldB src) (tlvS x) x.l [] mtu).1, (addR (toldB src) (tlvS x) x.l [] mtu).2.1, b39, a46, e46, q.os ++ [y], oa9, oc9⟩ : FlS)) (⟨by omega, by rw [List.map_append, List.map_cons, List.map_nil, hy9]; exact pk_new hq hi c31, addR_len (by simp; omega), by rw [List.length_append]; simp; omega⟩) (by omega))) ⟨rfl, rfl, rfl, rfl, rfl, rfl, rfl, trivial⟩
  ·refine Zl hk10 <| Run.seq fun _ hk17 => Zf <| Run.exit rfl <| hk7 _ _ <| Zs fun _ hk18 => Mv 0 E3 <| Ef 1 E2 (EF.callV rfl rfl ce67 rfl Tk6 (fun F' hle hr => flush1_spec F' (b2 := b2) (b3 := b3) (bo := q.bo) (td := q.td) (l := q.l) (ba := q.ba) (bc := q.bc) (os := q.os) (oa := q.oa) (oc := q.oc) (by omega) (by omega))) ?_
   rintro _ _ ⟨_, ⟨y, oa9, oc9, hy9, rfl⟩, rfl⟩
   refine J.app <| Zl hk18 <| Zs fun _ hk19 => Mv 0 E3 <| Qp 1 E2 (Zn E2) <| Fa 2 E3 f150_2 <| Ac 3 rfl (EF.store rfl rfl rfl z33 (PackBuffer.set_l _ (⟨none, 0, 0⟩ : Slc)) (cell_one rfl)) ?_
   rintro _ _ rfl
   refine Zl hk19 <| Zs fun _ hk20 => Qq 0 E2 (QR.load1 (v := .slice oa9 (q.os ++ [y]).length oc9) rfl rfl g108 SubL.one) ?_
   refine Ac 1 rfl (EF.store rfl rfl rfl z108 SetL.one (cell_one rfl)) ?_
   rintro _ _ rfl
   refine Zl hk20 <| Run.ret <| J.addSl 49 68 tlvE ?_
   exact J.ends (m := [slA 75 1 slE (.slice oa9 (q.os ++ [y]).length oc9) (q.os ++ [y]), rowsS (q.os ++ [y]), blk b0 (PackBuffer.enc ⟨src, mtu, ⟨none, 0, 0⟩⟩) 150, slA 49 68 tlvE (.slice none 0 0) []]) (res_cell1 rfl rfl g108) Tk4 ⟨q.os ++ [y], oa9, oc9, none, 0, rfl, by rw [List.map_append, List.map_cons, List.map_nil, hy9]; unfold flushF; rw [if_neg (by intro h; rw [List.map_eq_nil_iff] at h; rw [h] at c9; exact c9 rfl)]; rw [List.take_of_length_le (by omega)] at hq; rw [← hq], rfl⟩
end Slb
