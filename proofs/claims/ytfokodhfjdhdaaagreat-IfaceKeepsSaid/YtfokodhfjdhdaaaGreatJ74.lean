/- J74: a part of the proof that a law of this package holds for every input; no condition. -/
import Derived.Test.YtfokodhfjdhdaaaGreatM2
import Derived.Test.YtfokodhfjdhdaaaGreatJ73
namespace Slb
open Go Go.Proofs
set_option maxRecDepth 20000
section
variable {P : Program} {N : Nat} {G : Env} {S : List HProp} {F : Fr} {o : Oper} {t t' kt et : TypeId} {x y : Operand} {w : Option Nat}
theorem run_eql_map {wd : World} (d : Nat) (ht : P.underlying t = some (.map kt et)) : (Op.equalIn (d + 1) t (.map w) (.map none)).run P wd = .ok w.isNone wd := by
 cases w <;> simp [Op.equalIn, run_underlying ht]
theorem QP.map_eq_nil (ho : o.op = .binOp .eql t x y t') (hx : opv G x = some (.map w)) (hy : opv G y = some (.map none)) (ht : P.underlying t = some (.map kt et)) : QP P N G S F o (.bool w.isNone) := fun ac wd s w' => by
 unfold execOp; simp [ho, s.eval hx, s.eval hy, eqGuard_at_map, binOp, show (Op.equal t (.map w) (.map none)).run P w' = .ok w.isNone w' from run_eql_map 9999 ht]
theorem lookW_none {K V : Type} [DecidableEq K] {ek : K → Value} {ev : V → Value} {M : List (K × V)} (hk : KeyTy P kt K ek) (ho : o.op = .lookup t x y false) (hx : opv G x = some (.map w)) (hm : mapW ek ev w M ∈ S) {k : K} (hy : opv G y = some (ek k)) (hu : P.underlying t = some (.map kt et)) {zv : Value} (hz : Zero P et zv) (hl : alook M k = none) : QR P N G S F o zv := by
 have h := QR.lookupW (N := N) (F := F) hk ho hx hm hy hu hz
 rw [hl] at h
 exact h
theorem lookW_some {K V : Type} [DecidableEq K] {ek : K → Value} {ev : V → Value} {M : List (K × V)} (hk : KeyTy P kt K ek) (ho : o.op = .lookup t x y false) (hx : opv G x = some (.map w)) (hm : mapW ek ev w M ∈ S) {k : K} (hy : opv G y = some (ek k)) (hu : P.underlying t = some (.map kt et)) {zv : Value} (hz : Zero P et zv) {v : V} (hl : alook M k = some v) : QR P N G S F o (ev v) := by
 have h := QR.lookupW (N := N) (F := F) hk ho hx hm hy hu hz
 rw [hl] at h
 exact h
end

theorem queue_down (F : Fr) {b : Nat} {a : Option Addr} {c : Nat} {bs : List Nat} (hS : InS F b a c bs) {i bi : Nat} (hi : bs[i]? = some bi) {x : OneX} {w : Option Nat} (hup : ¬ x.up = true) (to : Bs 16) {a3 : Option Addr} {n3 c3 : Nat}  : Spec Tryz.prog 17 #[.pointer (some ⟨b, 0, none⟩), .int .i64 (i : Int), .agg (Bs.enc to).toArray, .slice a3 n3 c3] [blk bi (IfaceOne.enc (oneO x w)) 91] F (fun v S => v = .int .i64 7 ∧ S = [blk bi (IfaceOne.enc (oneO x w)) 91]) := by
 refine Spec.intro (N := 69) (args := [.pointer (some ⟨b, 0, none⟩), .int .i64 (i : Int), .agg (Bs.enc to).toArray, .slice a3 n3 c3]) Tryz.func17 rfl rfl (by simp) ?_
 refine Zs fun _ hk1 => Ef 0 E2 (EF.boxA rfl rfl) ?_
 rintro _ _ ⟨b6, rfl, rfl⟩
 refine Sg 1 E3 <| Zl hk1 <| Zs fun _ hk2 => Mv 0 E3 <| Mv 1 E3 <| Ef 2 E2 (Zc E2 ce33 Tk1 (fun F' hle hr => (ready_ok F' (hS.mono hle) hi).mono (fun v S hv => (show v = .tuple #[.pointer (some ⟨bi, 0, none⟩), .int .i64 7] ∧ S = [blk bi (IfaceOne.enc (oneO x w)) 91] from ⟨by rw [hv.1]; rw [if_neg hup], hv.2⟩)))) ?_
 rintro _ _ ⟨_, ⟨rfl, rfl⟩, rfl⟩
 exact J.app <| Mv 3 E3 <| Qp 4 E2 (Zx E3) <| Qp 5 E2 (Zx E3) <| Sg 6 E3 <| Sg 7 E3 <| Zl hk2 <| Run.seq fun _ hk3 => Zs fun _ hk4 => Mv 0 E3 <| Qp 1 E2 (Zq E3) <| Zl hk4 <| Zt <| Zs fun _ hk5 => Mv 0 E3 <| Sg 1 E3 <| Zl hk5 <| Run.ret <| J.ends (res_tmp rfl rfl) Tk1 ⟨rfl, rfl⟩

theorem queue_has (F : Fr) {b : Nat} {a : Option Addr} {c : Nat} {bs : List Nat} (hS : InS F b a c bs) {i bi : Nat} (hi : bs[i]? = some bi) {x : OneX} {w : Option Nat} {E : EnX} {bb : Nat} {q : BufX} (hup : x.up = true) {to : Bs 16} (hl : alook E to = some (bb, q)) (hm1 : 64 ≤ x.c.mtu) (hm2 : x.c.mtu ≤ 65539) (hq : q.ts.length ≤ 1000000) {ts : List TlvX} {a3 : Option Addr} {c3 : Nat} (ha : ArgSl F a3 68 tlvE ts) (hin : ∀ x ∈ ts, TlvIn F x) (hwf : ∀ x ∈ ts, (tlvS x).WF) (hr32 : ∀ x ∈ ts, ∀ n ∈ x.l, 0 ≤ n ∧ n < 4294967296) (hn : ts.length ≤ 1000000)  : Spec Tryz.prog 17 #[.pointer (some ⟨b, 0, none⟩), .int .i64 (i : Int), .agg (Bs.enc to).toArray, .slice a3 ts.length c3] [blk bi (IfaceOne.enc (oneO x w)) 91, mapE w (ptrs E), rowsQ (bufA x.c) E] F (fun v S => ∃ q2 : BufX, v = .int .i64 (addErr x.c.addr x.c.mtu ts) ∧ q2.ts.map tlvM = (if (addErr x.c.addr x.c.mtu ts) = 0 then q.ts ++ ts else q.ts).map tlvM ∧ S = [blk bi (IfaceOne.enc (oneO x w)) 91, mapE w (ptrs E), rowsQ (bufA x.c) (aset E to (bb, q2))]) := by
 have hlp : alook (ptrs E) to = some bb := by rw [alook_ptrs, hl]; rfl
 refine Spec.intro (N := 69) (args := [.pointer (some ⟨b, 0, none⟩), .int .i64 (i : Int), .agg (Bs.enc to).toArray, .slice a3 ts.length c3]) Tryz.func17 rfl rfl (by simp) ?_
 refine Zs fun _ hk1 => Ef 0 E2 (EF.boxA rfl rfl) ?_
 rintro _ _ ⟨b6, rfl, rfl⟩
 refine Sg 1 E3 <| Zl hk1 <| Zs fun _ hk2 => Mv 0 E3 <| Mv 1 E3 <| Ef 2 E2 (Zc E2 ce33 Tk1 (fun F' hle hr => (ready_ok F' (hS.mono hle) hi).mono (fun v S hv => (show v = .tuple #[.pointer (some ⟨bi, 0, none⟩), .int .i64 0] ∧ S = [blk bi (IfaceOne.enc (oneO x w)) 91] from ⟨by rw [hv.1]; rw [if_pos hup], hv.2⟩)))) ?_
 rintro _ _ ⟨_, ⟨rfl, rfl⟩, rfl⟩
 refine J.app <| Mv 3 E3 <| Qp 4 E2 (Zx E3) <| Qp 5 E2 (Zx E3) <| Sg 6 E3 <| Sg 7 E3 <| Zl hk2 <| Run.seq fun _ hk3 => Zs fun _ hk4 => Mv 0 E3 <| Qp 1 E2 (Zq E3) <| Zl hk4 <| Zf <| Run.skip <| hk3 _ _ <| Run.seq fun _ hk5 => Run.seq fun _ hk6 => Run.regionD (M := [0, 1, 3, 7, 0, 31, 63]) (q := 127) (r := 56) Kr ?_
 refine Dp 0 E2 (Zm E2) <| Dp 1 E2 (Zn E2) <| Dp 2 E2 (Za E2 f91_3) <| Dr 3 E2 (Z1 E2 g89 (IfaceOne.sub_wait _)) ?_
 refine Dr 4 E2 (Z0 E2 g32 (Bs.sub _)) ?_
 refine Dr 5 E2 (lookW_some key32 rfl rfl Rc rfl Tryz.underlying89 zero104 hlp) ?_
 refine Dp 6 E2 (QP.ptr_eq_nil rfl rfl rfl Tryz.underlying104) <| Dn <| hk6 _ _ <| Zf <| Run.skip <| hk5 _ _ <| Run.seq fun _ hk7 => Run.regionD (M := [0, 1, 3, 7, 0, 31, 0, 127, 255]) (q := 127) (r := 56) Kr ?_
 refine Dw.openE (T := fun _ : Unit => [bufA x.c bb q, rowsQ (bufA x.c) (adel E to)]) Rc (fun p g => ⟨(), rowsQ_out hl g⟩) (fun _ => ?_)
 refine Dw.app ?_
 refine Dw.openE (T := fun _ : Unit => bufL x.c bb q) Rc (fun p g => ⟨(), g⟩) (fun _ => ?_)
 refine Dw.app ?_
 refine Dp 0 E2 (Zm E2) <| Dp 1 E2 (Zn E2) <| Dp 2 E2 (Za E2 f91_3) <| Dr 3 E2 (Z1 E2 g89 (IfaceOne.sub_wait _)) ?_
 refine Dr 4 E2 (Z0 E2 g32 (Bs.sub _)) ?_
 refine Dr 5 E2 (lookW_some key32 rfl rfl Rc rfl Tryz.underlying89 zero104 hlp) ?_
 refine Dp 6 E2 (Zm E2) <| De 7 <| Om [] rfl rfl (Zc E2 ce37 Tk3 (fun F' hle hr => addb_spec F' (ha.mono hle) (fun x hx => TlvIn.mono (hin x hx) hle) hwf hr32 hn (b0 := bb) (src := x.c.addr) (mtu := x.c.mtu) (la := q.la) (lc := q.lc) (ts0 := q.ts) (by omega) (by omega) (by omega))) ?_
 rintro _ _ ⟨_, ⟨ts1, la1, lc1, rfl, hts1, rfl⟩, rfl⟩
 refine N0 <| J.app <| De 8 <| Om [] rfl rfl ((Zg E2).eff) ?_
 rintro _ _ ⟨rfl, rfl⟩
 refine N0 <| Dn <| hk7 _ _ <| Run.ret <| J.close (A := bufA x.c bb ⟨la1, lc1, ts1⟩) (m := bufL x.c bb ⟨la1, lc1, ts1⟩) Tk3 (fun _ q => q) ?_
 refine J.close (A := rowsQ (bufA x.c) (aset E to (bb, ⟨la1, lc1, ts1⟩))) (m := [bufA x.c bb ⟨la1, lc1, ts1⟩, rowsQ (bufA x.c) (adel E to)]) Tk2 (fun _ g => rowsQ_in hl g) ?_
 exact J.ends (res_tmp rfl rfl) Tk3 ⟨⟨la1, lc1, ts1⟩, rfl, hts1, rfl⟩

theorem queue_newr (F : Fr) {b : Nat} {a : Option Addr} {c : Nat} {bs : List Nat} (hS : InS F b a c bs) {i bi : Nat} (hi : bs[i]? = some bi) {x : OneX} {r : Nat} {E : EnX} (hup : x.up = true) {to : Bs 16} (hl : alook E to = none) (hm1 : 64 ≤ x.c.mtu) (hm2 : x.c.mtu ≤ 65539) {ts : List TlvX} {a3 : Option Addr} {c3 : Nat} (ha : ArgSl F a3 68 tlvE ts) (hin : ∀ x ∈ ts, TlvIn F x) (hwf : ∀ x ∈ ts, (tlvS x).WF) (hr32 : ∀ x ∈ ts, ∀ n ∈ x.l, 0 ≤ n ∧ n < 4294967296) (hn : ts.length ≤ 1000000)  : Spec Tryz.prog 17 #[.pointer (some ⟨b, 0, none⟩), .int .i64 (i : Int), .agg (Bs.enc to).toArray, .slice a3 ts.length c3] [blk bi (IfaceOne.enc (oneO x (some r))) 91, mapE (some r) (ptrs E)] F (fun v S => ∃ (bn : Nat) (q2 : BufX), v = .int .i64 (addErr x.c.addr x.c.mtu ts) ∧ q2.ts.map tlvM = (if (addErr x.c.addr x.c.mtu ts) = 0 then [] ++ ts else []).map tlvM ∧ S = [blk bi (IfaceOne.enc (oneO x (some r))) 91, mapE (some r) (aset (ptrs E) to bn), bufA x.c bn q2]) := by
 have hlp : alook (ptrs E) to = none := by rw [alook_ptrs, hl]; rfl
 refine Spec.intro (N := 69) (args := [.pointer (some ⟨b, 0, none⟩), .int .i64 (i : Int), .agg (Bs.enc to).toArray, .slice a3 ts.length c3]) Tryz.func17 rfl rfl (by simp) ?_
 refine Zs fun _ hk1 => Ef 0 E2 (EF.boxA rfl rfl) ?_
 rintro _ _ ⟨b6, rfl, rfl⟩
 refine Sg 1 E3 <| Zl hk1 <| Zs fun _ hk2 => Mv 0 E3 <| Mv 1 E3 <| Ef 2 E2 (Zc E2 ce33 Tk1 (fun F' hle hr => (ready_ok F' (hS.mono hle) hi).mono (fun v S hv => (show v = .tuple #[.pointer (some ⟨bi, 0, none⟩), .int .i64 0] ∧ S = [blk bi (IfaceOne.enc (oneO x (some r))) 91] from ⟨by rw [hv.1]; rw [if_pos hup], hv.2⟩)))) ?_
 rintro _ _ ⟨_, ⟨rfl, rfl⟩, rfl⟩
 refine J.app <| Mv 3 E3 <| Qp 4 E2 (Zx E3) <| Qp 5 E2 (Zx E3) <| Sg 6 E3 <| Sg 7 E3 <| Zl hk2 <| Run.seq fun _ hk3 => Zs fun _ hk4 => Mv 0 E3 <| Qp 1 E2 (Zq E3) <| Zl hk4 <| Zf <| Run.skip <| hk3 _ _ <| Run.seq fun _ hk5 => Run.seq fun _ hk6 => Run.regionD (M := [0, 1, 3, 7, 0, 31, 63]) (q := 127) (r := 56) Kr ?_
 refine Dp 0 E2 (Zm E2) <| Dp 1 E2 (Zn E2) <| Dp 2 E2 (Za E2 f91_3) <| Dr 3 E2 (Z1 E2 g89 (IfaceOne.sub_wait _)) ?_
 refine Dr 4 E2 (Z0 E2 g32 (Bs.sub _)) ?_
 refine Dr 5 E2 (lookW_none key32 rfl rfl Rc rfl Tryz.underlying89 zero104 hlp) ?_
 refine Dp 6 E2 (QP.ptr_eq_nil rfl rfl rfl Tryz.underlying104) <| Dn <| hk6 _ _ <| Zt <| Run.seq fun _ hk7 => Run.regionM (M := [0, 1, 3, 7, 15, 0, 32, 96, 224, 480, 1023, 2047, 4095, 4095, 8191, 32767]) (q := 15359) (r := 528) mixedT Kr ?_
 refine Dp 0 E2 (Zm E2) <| Dp 1 E2 (Zn E2) <| Dp 2 E2 (Za E2 f91_0) <| Dp 3 E2 (Za E2 f65_6) <| Dr 4 E2 (Z0 E2 g32 ((IfaceOne.sub_ifConf _).trans (IfConf.sub_addr _))) ?_
 refine Dp 5 E2 (Zm E2) <| Dp 6 E2 (Zn E2) <| Dp 7 E2 (Za E2 f91_0) <| Dp 8 E2 (Za E2 f65_5) <| Dr 9 E2 (Z1 E2 g3 ((IfaceOne.sub_ifConf _).trans (IfConf.sub_mtu _))) ?_
 refine De 10 <| Om [] rfl rfl (Zc E2 ce36 TN (fun F' hle hr => new_ok F' x.c.addr (mtu := x.c.mtu) (by omega))) ?_
 rintro _ _ ⟨_, ⟨bn, rfl, rfl⟩, rfl⟩
 refine N0 <| J.app <| Dp 11 E2 (Zm E2) <| Dp 12 E2 (Zx E3) <| Dp 13 E2 (Zx E3) <| De 14 <| Om [] rfl rfl ((Zg E2).eff) ?_
 rintro _ _ ⟨rfl, rfl⟩
 refine N0 <| De 15 <| Om [] rfl rfl ((Zg E2).eff) ?_
 rintro _ _ ⟨rfl, rfl⟩
 refine N0 <| Dn <| hk7 _ _ <| Run.seq fun _ hk8 => Zs fun _ hk9 => Mv 0 E3 <| Qp 1 E2 (Zq E3) <| Zl hk9 <| Zf <| Run.skip <| hk8 _ _ <| Run.seq fun _ hk10 => Zs fun _ hk11 => Mv 0 E3 <| Qp 1 E2 (Zn E2) <| Fa 2 E3 f91_3 <| Qq 3 E2 (Z1 E2 g89 (IfaceOne.sub_wait _)) ?_
 refine Qp 4 E2 (QP.map_eq_nil rfl rfl rfl Tryz.underlying89) <| Zl hk11 <| Zf <| Run.skip <| hk10 _ _ <| Run.regionD (M := [0, 1, 3, 7, 0, 0, 63]) (q := 63) (r := 24) Kr ?_
 refine Dw.close (A := mapT akE pv r (ptrs E)) (m := [mapE (some r) (ptrs E)]) Tk1 (fun _ g => of_star_emp g) ?_
 refine Dp 0 E2 (Zm E2) <| Dp 1 E2 (Zn E2) <| Dp 2 E2 (Za E2 f91_3) <| Dr 3 E2 (Z1 E2 g89 (IfaceOne.sub_wait _)) ?_
 refine Dr 4 E2 (Z0 E2 g32 (Bs.sub _)) ?_
 refine Dp 5 E2 (Zm E2) <| De 6 <| Oa [] rfl (EF.mapUpdate (ev := pv) (v := bn) key32 rfl rfl rfl rfl Tryz.underlying89) ?_
 rintro _ _ rfl
 refine N0 <| Dn <| hk5 _ _ <| Run.seq fun _ hk12 => Run.regionD (M := [0, 1, 3, 7, 0, 31, 0, 127, 255]) (q := 127) (r := 56) Kr ?_
 refine Dw.close (A := mapE (some r) (aset (ptrs E) to bn)) (m := [mapT akE pv r (aset (ptrs E) to bn)]) Tk1 (fun _ g => of_star_emp g) ?_
 refine J.addSl 49 68 tlvE ?_
 refine J.addTlvs ?_
 refine Dp 0 E2 (Zm E2) <| Dp 1 E2 (Zn E2) <| Dp 2 E2 (Za E2 f91_3) <| Dr 3 E2 (Z1 E2 g89 (IfaceOne.sub_wait _)) ?_
 refine Dr 4 E2 (Z0 E2 g32 (Bs.sub _)) ?_
 refine Dr 5 E2 (lookW_some key32 rfl rfl Rc rfl Tryz.underlying89 zero104 (alook_aset_self (ptrs E) to bn)) ?_
 refine Dp 6 E2 (Zm E2) <| De 7 <| Om [] rfl rfl (Zc E2 ce37 Tk3 (fun F' hle hr => addb_spec F' (ha.mono hle) (fun x hx => TlvIn.mono (hin x hx) hle) hwf hr32 hn (b0 := bn) (src := x.c.addr) (mtu := x.c.mtu) (la := none) (lc := 0) (ts0 := []) (by omega) (by omega) (by simp))) ?_
 rintro _ _ ⟨_, ⟨ts1, la1, lc1, rfl, hts1, rfl⟩, rfl⟩
 refine N0 <| J.app <| De 8 <| Om [] rfl rfl ((Zg E2).eff) ?_
 rintro _ _ ⟨rfl, rfl⟩
 refine N0 <| Dn <| hk12 _ _ <| Run.ret <| J.close (A := bufA x.c bn ⟨la1, lc1, ts1⟩) (m := bufL x.c bn ⟨la1, lc1, ts1⟩) Tk3 (fun _ q => q) ?_
 exact J.ends (res_tmp rfl rfl) Tk3 ⟨bn, ⟨la1, lc1, ts1⟩, rfl, hts1, rfl⟩

theorem queue_new0 (F : Fr) {b : Nat} {a : Option Addr} {c : Nat} {bs : List Nat} (hS : InS F b a c bs) {i bi : Nat} (hi : bs[i]? = some bi) {x : OneX} (hup : x.up = true) {to : Bs 16} (hm1 : 64 ≤ x.c.mtu) (hm2 : x.c.mtu ≤ 65539) {ts : List TlvX} {a3 : Option Addr} {c3 : Nat} (ha : ArgSl F a3 68 tlvE ts) (hin : ∀ x ∈ ts, TlvIn F x) (hwf : ∀ x ∈ ts, (tlvS x).WF) (hr32 : ∀ x ∈ ts, ∀ n ∈ x.l, 0 ≤ n ∧ n < 4294967296) (hn : ts.length ≤ 1000000)  : Spec Tryz.prog 17 #[.pointer (some ⟨b, 0, none⟩), .int .i64 (i : Int), .agg (Bs.enc to).toArray, .slice a3 ts.length c3] [blk bi (IfaceOne.enc (oneO x none)) 91, mapE none []] F (fun v S => ∃ (r bn : Nat) (q2 : BufX), v = .int .i64 (addErr x.c.addr x.c.mtu ts) ∧ q2.ts.map tlvM = (if (addErr x.c.addr x.c.mtu ts) = 0 then [] ++ ts else []).map tlvM ∧ S = [blk bi (IfaceOne.enc (oneO x (some r))) 91, mapE (some r) [(to, bn)], bufA x.c bn q2]) := by
 refine Spec.intro (N := 69) (args := [.pointer (some ⟨b, 0, none⟩), .int .i64 (i : Int), .agg (Bs.enc to).toArray, .slice a3 ts.length c3]) Tryz.func17 rfl rfl (by simp) ?_
 refine Zs fun _ hk1 => Ef 0 E2 (EF.boxA rfl rfl) ?_
 rintro _ _ ⟨b6, rfl, rfl⟩
 refine Sg 1 E3 <| Zl hk1 <| Zs fun _ hk2 => Mv 0 E3 <| Mv 1 E3 <| Ef 2 E2 (Zc E2 ce33 Tk1 (fun F' hle hr => (ready_ok F' (hS.mono hle) hi).mono (fun v S hv => (show v = .tuple #[.pointer (some ⟨bi, 0, none⟩), .int .i64 0] ∧ S = [blk bi (IfaceOne.enc (oneO x none)) 91] from ⟨by rw [hv.1]; rw [if_pos hup], hv.2⟩)))) ?_
 rintro _ _ ⟨_, ⟨rfl, rfl⟩, rfl⟩
 refine J.app <| Mv 3 E3 <| Qp 4 E2 (Zx E3) <| Qp 5 E2 (Zx E3) <| Sg 6 E3 <| Sg 7 E3 <| Zl hk2 <| Run.seq fun _ hk3 => Zs fun _ hk4 => Mv 0 E3 <| Qp 1 E2 (Zq E3) <| Zl hk4 <| Zf <| Run.skip <| hk3 _ _ <| Run.seq fun _ hk5 => Run.seq fun _ hk6 => Run.regionD (M := [0, 1, 3, 7, 0, 31, 63]) (q := 127) (r := 56) Kr ?_
 refine Dp 0 E2 (Zm E2) <| Dp 1 E2 (Zn E2) <| Dp 2 E2 (Za E2 f91_3) <| Dr 3 E2 (Z1 E2 g89 (IfaceOne.sub_wait _)) ?_
 refine Dr 4 E2 (Z0 E2 g32 (Bs.sub _)) ?_
 refine Dr 5 E2 (lookW_none key32 rfl rfl Rc rfl Tryz.underlying89 zero104 (show alook ([] : TabM) to = none from rfl)) ?_
 refine Dp 6 E2 (QP.ptr_eq_nil rfl rfl rfl Tryz.underlying104) <| Dn <| hk6 _ _ <| Zt <| Run.seq fun _ hk7 => Run.regionM (M := [0, 1, 3, 7, 15, 0, 32, 96, 224, 480, 1023, 2047, 4095, 4095, 8191, 32767]) (q := 15359) (r := 528) mixedT Kr ?_
 refine Dp 0 E2 (Zm E2) <| Dp 1 E2 (Zn E2) <| Dp 2 E2 (Za E2 f91_0) <| Dp 3 E2 (Za E2 f65_6) <| Dr 4 E2 (Z0 E2 g32 ((IfaceOne.sub_ifConf _).trans (IfConf.sub_addr _))) ?_
 refine Dp 5 E2 (Zm E2) <| Dp 6 E2 (Zn E2) <| Dp 7 E2 (Za E2 f91_0) <| Dp 8 E2 (Za E2 f65_5) <| Dr 9 E2 (Z1 E2 g3 ((IfaceOne.sub_ifConf _).trans (IfConf.sub_mtu _))) ?_
 refine De 10 <| Om [] rfl rfl (Zc E2 ce36 TN (fun F' hle hr => new_ok F' x.c.addr (mtu := x.c.mtu) (by omega))) ?_
 rintro _ _ ⟨_, ⟨bn, rfl, rfl⟩, rfl⟩
 refine N0 <| J.app <| Dp 11 E2 (Zm E2) <| Dp 12 E2 (Zx E3) <| Dp 13 E2 (Zx E3) <| De 14 <| Om [] rfl rfl ((Zg E2).eff) ?_
 rintro _ _ ⟨rfl, rfl⟩
 refine N0 <| De 15 <| Om [] rfl rfl ((Zg E2).eff) ?_
 rintro _ _ ⟨rfl, rfl⟩
 refine N0 <| Dn <| hk7 _ _ <| Run.seq fun _ hk8 => Zs fun _ hk9 => Mv 0 E3 <| Qp 1 E2 (Zq E3) <| Zl hk9 <| Zf <| Run.skip <| hk8 _ _ <| Run.seq fun _ hk10 => Zs fun _ hk11 => Mv 0 E3 <| Qp 1 E2 (Zn E2) <| Fa 2 E3 f91_3 <| Qq 3 E2 (Z1 E2 g89 (IfaceOne.sub_wait _)) ?_
 refine Qp 4 E2 (QP.map_eq_nil rfl rfl rfl Tryz.underlying89) <| Zl hk11 <| Zt <| Run.region <| Mv 0 E3 <| Ef 1 E2 (EF.makeMap akE pv rfl) ?_
 rintro _ _ ⟨r52, rfl, rfl⟩
 refine Qp 2 E2 (Zn E2) <| Fa 3 E3 f91_3 <| Ac 4 rfl (EF.store rfl rfl rfl z89 (IfaceOne.set_wait _ (some r52)) (cell_one rfl)) ?_
 rintro _ _ rfl
 refine Zl hk10 <| Run.regionD (M := [0, 1, 3, 7, 0, 0, 63]) (q := 63) (r := 24) Kr ?_
 refine Dp 0 E2 (Zm E2) <| Dp 1 E2 (Zn E2) <| Dp 2 E2 (Za E2 f91_3) <| Dr 3 E2 (Z1 E2 g89 (IfaceOne.sub_wait _)) ?_
 refine Dr 4 E2 (Z0 E2 g32 (Bs.sub _)) ?_
 refine Dp 5 E2 (Zm E2) <| De 6 <| Oa [] rfl (EF.mapUpdate (ev := pv) (v := bn) key32 rfl rfl rfl rfl Tryz.underlying89) ?_
 rintro _ _ rfl
 refine N0 <| Dn <| hk5 _ _ <| Run.seq fun _ hk12 => Run.regionD (M := [0, 1, 3, 7, 0, 31, 0, 127, 255]) (q := 127) (r := 56) Kr ?_
 refine Dw.close (A := mapE (some r52) (aset [] to bn)) (m := [mapT akE pv r52 (aset [] to bn)]) Tk1 (fun _ g => of_star_emp g) ?_
 refine J.addSl 49 68 tlvE ?_
 refine J.addTlvs ?_
 refine Dp 0 E2 (Zm E2) <| Dp 1 E2 (Zn E2) <| Dp 2 E2 (Za E2 f91_3) <| Dr 3 E2 (Z1 E2 g89 (IfaceOne.sub_wait _)) ?_
 refine Dr 4 E2 (Z0 E2 g32 (Bs.sub _)) ?_
 refine Dr 5 E2 (lookW_some key32 rfl rfl Rc rfl Tryz.underlying89 zero104 (alook_aset_self [] to bn)) ?_
 refine Dp 6 E2 (Zm E2) <| De 7 <| Om [] rfl rfl (Zc E2 ce37 Tk3 (fun F' hle hr => addb_spec F' (ha.mono hle) (fun x hx => TlvIn.mono (hin x hx) hle) hwf hr32 hn (b0 := bn) (src := x.c.addr) (mtu := x.c.mtu) (la := none) (lc := 0) (ts0 := []) (by omega) (by omega) (by simp))) ?_
 rintro _ _ ⟨_, ⟨ts1, la1, lc1, rfl, hts1, rfl⟩, rfl⟩
 refine N0 <| J.app <| De 8 <| Om [] rfl rfl ((Zg E2).eff) ?_
 rintro _ _ ⟨rfl, rfl⟩
 refine N0 <| Dn <| hk12 _ _ <| Run.ret <| J.close (A := bufA x.c bn ⟨la1, lc1, ts1⟩) (m := bufL x.c bn ⟨la1, lc1, ts1⟩) Tk3 (fun _ q => q) ?_
 exact J.ends (res_tmp rfl rfl) Tk3 ⟨r52, bn, ⟨la1, lc1, ts1⟩, rfl, hts1, rfl⟩
end Slb
