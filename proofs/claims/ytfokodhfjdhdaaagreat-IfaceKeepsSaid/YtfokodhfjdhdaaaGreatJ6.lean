/- J6: a part of the proof that a law of this package holds for every input; no condition. -/
import Derived.Test.YtfokodhfjdhdaaaGreatM2
import Derived.Test.YtfokodhfjdhdaaaGreatJ5
namespace Slb
open Go Go.Proofs
set_option maxRecDepth 20000
def subsF (ts : List UInt8) (bad : Bool) (r : Rs) : List (Int × List UInt8) × Rs × Bool :=
 if soundB bad r = false then ([], r, bad) else
 ((splitN (rdTake r r.l.length).1.length (rdTake r r.l.length).1).1.filter (fun x => subK ts x.1), (rdTake r r.l.length).2,
   bad || !((splitN (rdTake r r.l.length).1.length (rdTake r r.l.length).1).1.all (fun x => subO ts x.1) && decide ((splitN (rdTake r r.l.length).1.length (rdTake r r.l.length).1).2 = 0)))

theorem split_mem : ∀ (f : Nat) (l : List UInt8) (x : Int × List UInt8), x ∈ (splitN f l).1 → x.2.length ≤ l.length
 | 0, _, x, h => by simp [splitN] at h
 | f + 1, l, x, h => by
   rw [splitN] at h
   split at h
   · simp at h
   · simp only at h
     have h1 := (rdTake_len ⟨l, 0⟩ 1).2
     have h2 := (rdTake_len (rdTake ⟨l, 0⟩ 1).2 1).2
     generalize hr1 : (rdTake ⟨l, 0⟩ 1).2 = r1 at *
     generalize hr2 : (rdTake r1 1).2 = r2 at *
     have h3 := (rdTake_len r2 (u8F r1)).2
     have h4 : (rdTake r2 (u8F r1)).1.length ≤ r2.l.length := by
       unfold rdTake
       split
       · simp
       · split
         · simp
         · split
           · simp
           · simp only [List.length_take]; omega
     split at h
     · split at h
       · simp at h
       · rcases List.mem_cons.1 h with rfl | h
         · simp only at *; omega
         · have := split_mem f _ x h
           simp only at *; omega
     · rcases List.mem_cons.1 h with rfl | h
       · simp
       · have := split_mem f _ x h
         simp only at *; omega
theorem few_of {ts : List UInt8} {rs : List RawX} {B : List UInt8} (h : rs.map rawM = (splitN B.length B).1.filter (fun x => subK ts x.1)) (hB : B.length ≤ 1000000) : ∀ x ∈ rs, x.l.length ≤ 1000000 := fun x hx => by
 have h1 : rawM x ∈ (splitN B.length B).1.filter (fun x => subK ts x.1) := by rw [← h]; exact List.mem_map.2 ⟨x, hx, rfl⟩
 have := split_mem _ _ _ (List.mem_filter.1 h1).1
 exact Nat.le_trans this hB
theorem few_len {ts : List UInt8} {rs : List RawX} {B : List UInt8} (h : rs.map rawM = (splitN B.length B).1.filter (fun x => subK ts x.1)) (hB : B.length ≤ 1000000) : rs.length ≤ 1000000 := by
 have h1 := congrArg List.length h
 rw [List.length_map] at h1
 have h2 := List.length_filter_le (fun x : Int × List UInt8 => subK ts x.1) (splitN B.length B).1
 have h3 := split_len B.length B
 omega
/-! Times. -/
abbrev u32E (n : Int) : List Value := [.int .u32 n]
def wordsF : Nat → Rs → List Int
 | 0, _ => []
 | k + 1, r => u32F r :: wordsF k (rdTake r 4).2
def stampL (n : Nat) (kept : List (Int × List UInt8)) : List Int := match kept.find? (fun x => decide (4 * n ≤ x.2.length)) with
 | none => []
 | some x => wordsF n ⟨x.2, 0⟩
theorem stamp_some {rs : List RawX} {i n : Nat} {x : RawX} (hno : ∀ y ∈ rs.take i, ¬ 4 * n ≤ y.l.length) (hi : rs[i]? = some x) (hx : 4 * n ≤ x.l.length) : stampL n (rs.map rawM) = wordsF n ⟨x.l, 0⟩ := by
 obtain ⟨h1, e1⟩ := List.getElem?_eq_some_iff.1 hi
 have e : rs = rs.take i ++ x :: rs.drop (i + 1) := by rw [← e1, ← List.drop_eq_getElem_cons h1, List.take_append_drop]
 unfold stampL
 rw [e, List.map_append, List.map_cons, List.find?_append, List.find?_cons]
 rw [show ((rs.take i).map rawM).find? (fun x => decide (4 * n ≤ x.2.length)) = none by
   rw [List.find?_eq_none]
   intro y hy
   obtain ⟨z, hz, rfl⟩ := List.mem_map.1 hy
   have := hno z hz
   simp only [decide_eq_true_eq]
   exact this]
 rw [show decide (4 * n ≤ (rawM x).2.length) = true from decide_eq_true hx]
 rfl
theorem stamp_none {rs : List RawX} {n : Nat} (hno : ∀ y ∈ rs, ¬ 4 * n ≤ y.l.length) : stampL n (rs.map rawM) = [] := by
 unfold stampL
 rw [show (rs.map rawM).find? (fun x => decide (4 * n ≤ x.2.length)) = none by
   rw [List.find?_eq_none]
   intro y hy
   obtain ⟨z, hz, rfl⟩ := List.mem_map.1 hy
   have := hno z hz
   simp only [decide_eq_true_eq]
   exact this]
theorem one_out {α : Type} {es : List α} {i : Nat} {x : α} (hi : es[i]? = some x) : ∃ rest, es.Perm (x :: rest) := by
 obtain ⟨h1, e1⟩ := List.getElem?_eq_some_iff.1 hi
 refine ⟨es.take i ++ es.drop (i + 1), ?_⟩
 have : es = es.take i ++ x :: es.drop (i + 1) := by rw [← e1, ← List.drop_eq_getElem_cons h1, List.take_append_drop]
 conv => lhs; rw [this]
 exact List.perm_middle

set_option maxHeartbeats 1000000 in
theorem subs_spec (F : Fr) {b rb : Nat} {t : Tlv} {bad : Bool} {r : Rs} {at1 : Option Addr} {ct : Nat} {ts : List UInt8} (hts : ts.length ≤ 1000000) (hta : ArgSl F at1 1 bytE ts) (hrl : r.l.length ≤ 1000000)  : Spec Tryz.prog 77 #[fp b, .slice at1 ts.length ct] [blk b (PacketPiece.enc ⟨some ⟨rb, 0, none⟩, t, bad⟩) 185, RdA rb r] F (fun v S => ∃ rs : List RawX, S = [blk b (PacketPiece.enc ⟨some ⟨rb, 0, none⟩, t, (subsF ts bad r).2.2⟩) 185, RdA rb (subsF ts bad r).2.1, slA 137 2 rawE v rs, rowsB rs] ∧ rs.map rawM = (subsF ts bad r).1 ∧ rs.length ≤ 1000000 ∧ ∀ x ∈ rs, x.l.length ≤ 1000000) := by
 refine Spec.intro (N := 30) (args := [fp b, .slice at1 ts.length ct]) Tryz.func77 rfl rfl (by simp) ?_
 refine Zs fun _ hk1 => Sg 0 E3 <| Zl hk1 <| Run.seq fun _ hk2 => Zs fun _ hk3 => Mv 0 E3 <| Ef 1 E2 (Zc E2 ce83 Tk2 (fun F' hle hr => sound_spec F' (bad := bad))) ?_
 rintro _ _ ⟨_, ⟨rfl, rfl⟩, rfl⟩
 refine J.app <| J.caseB (fun c9 => ?_) (fun c9 => ?_)
 ·refine Qp 2 E2 (Zu E2) <| Zl hk3 <| Zf <| Run.skip <| hk2 _ _ <| Zs fun _ hk4 => Mv 0 E3 <| Mv 1 E3 <| Qp 2 E2 (Zn E2) <| Fa 3 E3 f185_0 <| Qq 4 E2 (Z1 E2 g175 (PacketPiece.sub_reader _)) ?_
  refine Ef 5 E2 (Zc E2 ce76 Tk1 (fun F' hle hr => rest_spec F' (r := r))) ?_
  rintro v17 _ ⟨_, rfl, rfl⟩
  refine J.app ?_
  have hBl : (rdTake r r.l.length).1.length ≤ 1000000 := by have := (rdTake_len r r.l.length).1; omega
  generalize hB : (rdTake r r.l.length).1 = B at hBl ⊢
  refine Sq.slCase (v := v17) (xs := B) Rc (fun a17 c17 hv17 hh17 => ?_)
  subst hv17
  refine Ef 6 E2 (Zc E2 ce110 Tk1 (fun F' hle hr => Spec.lendSl (e := 5) (z := 1) (enc := bytE) (xs := B) (fun _ => rfl) (fun F2 hle2 h2 => sub_spec F2 hts ((hta.mono hle).mono hle2) hBl h2))) ?_
  rintro _ _ ⟨_, ⟨_, ⟨rs, va, e, rfl, he, hrs, rfl⟩, rfl⟩, rfl⟩
  refine J.app <| Mv 7 E3 <| Qp 8 E2 (Zx E3) <| Qp 9 E2 (Zx E3) <| J.caseB (fun c20 => ?_) (fun c20 => ?_)
  ·refine Qp 10 E2 (Zx E3) <| Sg 11 E3 <| Sg 12 E3 <| Sg 13 E3 <| Zl hk4 <| Zs fun _ hk5 => Mv 0 E3 <| Mv 1 E3 <| Mv 2 E3 <| Ym 3 E4 <| Yp 4 E3 (Ze E3) <| Pt 5 E4 <| Ef 6 E2 (Zc E2 ce111 Tk2 (fun F' hle hr => need_spec F' (bad := bad) (decide (e = 0)))) ?_
   rintro _ _ ⟨_, ⟨rfl, rfl⟩, rfl⟩
   refine J.app <| Zl hk5 <| Zs fun _ hk6 => Mv 0 E3 <| Sg 1 E3 <| Zl hk6 <| Run.ret ?_
   have hs : subsF ts bad r = ((splitN B.length B).1.filter (fun x => subK ts x.1), (rdTake r r.l.length).2, bad || !((splitN B.length B).1.all (fun x => subO ts x.1) && decide ((splitN B.length B).2 = 0))) := by unfold subsF; rw [if_neg (by rw [c9]; simp), hB]
   have hbd : (bad || !(decide (e = 0))) = (bad || !((splitN B.length B).1.all (fun x => subO ts x.1) && decide ((splitN B.length B).2 = 0))) := by rw [← he, c20]; simp
   rw [hs, hbd]
   exact J.ends (res_tmp rfl rfl) Tk4 ⟨rs, rfl, hrs, few_len hrs hBl, few_of hrs hBl⟩
  ·refine Qp 10 E2 (Zx E3) <| Sg 11 E3 <| Sg 12 E3 <| Sg 13 E3 <| Zl hk4 <| Zs fun _ hk7 => Mv 0 E3 <| Mv 1 E3 <| Mv 2 E3 <| Sk 3 E3 <| Sk 4 E3 <| Pf 5 E4 <| Ef 6 E2 (Zc E2 ce111 Tk2 (fun F' hle hr => need_spec F' (bad := bad) false)) ?_
   rintro _ _ ⟨_, ⟨rfl, rfl⟩, rfl⟩
   refine J.app <| Zl hk7 <| Zs fun _ hk8 => Mv 0 E3 <| Sg 1 E3 <| Zl hk8 <| Run.ret ?_
   have hs : subsF ts bad r = ((splitN B.length B).1.filter (fun x => subK ts x.1), (rdTake r r.l.length).2, bad || !((splitN B.length B).1.all (fun x => subO ts x.1) && decide ((splitN B.length B).2 = 0))) := by unfold subsF; rw [if_neg (by rw [c9]; simp), hB]
   have hbd : (bad || !false) = (bad || !((splitN B.length B).1.all (fun x => subO ts x.1) && decide ((splitN B.length B).2 = 0))) := by rw [← he, c20]; simp
   rw [hs, hbd]
   exact J.ends (res_tmp rfl rfl) Tk4 ⟨rs, rfl, hrs, few_len hrs hBl, few_of hrs hBl⟩
 ·refine Qp 2 E2 (Zu E2) <| Zl hk3 <| Zt <| Zs fun _ hk9 => J.addSl 137 2 rawE ?_
  refine J.addBodies ?_
  refine Sg 0 E3 <| Zl hk9 <| Run.ret ?_
  have hs : subsF ts bad r = ([], r, bad) := by unfold subsF; rw [if_pos c9]
  rw [hs]
  exact J.ends (res_tmp rfl rfl) Tk4 ⟨[], rfl, rfl, by simp, by simp⟩

set_option maxHeartbeats 2000000 in
theorem stamps_spec (F : Fr) {b rb : Nat} {t : Tlv} {bad : Bool} {r : Rs} (n : Nat) (hn : n ≤ 2) (hrl : r.l.length ≤ 1000000)  : Spec Tryz.prog 78 #[fp b, .int .i64 n] [blk b (PacketPiece.enc ⟨some ⟨rb, 0, none⟩, { t with stamps := Slc.zero }, bad⟩) 185, RdA rb r] F (fun v S => ∃ a2 c2, v = .tuple #[] ∧ S = [blk b (PacketPiece.enc ⟨some ⟨rb, 0, none⟩, { t with stamps := ⟨a2, (stampL n (subsF [3] bad r).1).length, c2⟩ }, (subsF [3] bad r).2.2⟩) 185, RdA rb (subsF [3] bad r).2.1, slA 101 1 u32E (.slice a2 (stampL n (subsF [3] bad r).1).length c2) (stampL n (subsF [3] bad r).1)]) := by
 refine Spec.intro (N := 42) (args := [fp b, .int .i64 n]) Tryz.func78 rfl rfl (by simp) ?_
 refine Zs fun _ hk1 => Mv 0 E3 <| Ef 1 E2 (EF.buildSliceS rfl Tryz.underlying75 z5 zero5 rfl (by decide) rfl rfl rfl rfl) ?_
 rintro _ _ ⟨b8, rfl, rfl⟩
 refine Ef 2 E2 (Zc E2 ce77 Tk2 (fun F' hle hr => subs_spec F' (bad := bad) (r := r) (ts := [3]) (by simp) (argSl_all (enc := bytE) (xs := [3]) (fun _ => rfl) (hr b8 _ Rc)) hrl)) ?_
 rintro v9 _ ⟨_, ⟨rs, rfl, hrs, hrn, hrf⟩, rfl⟩
 refine J.app ?_
 generalize hsb : subsF [3] bad r = sb at hrs ⊢
 refine Sq.slCase (v := v9) (xs := rs) Rc (fun a9 c9 hv9 hh9 => ?_)
 subst hv9
 refine Qp 3 E2 (QP.len rfl rfl rfl Tryz.underlying133) <| Mv 4 E3 <| Zl hk1 <| Run.block <| Run.loop1 (fun (i : Nat) => i ≤ rs.length ∧ ∀ y ∈ rs.take i, ¬ 4 * n ≤ y.l.length) (fun i => .cons 0 (fp b) (.cons 1 (.int .i64 n) (.cons 9 (.slice a9 rs.length c9) (.cons 10 (.int .i64 rs.length) (.cons 11 (.int .i64 i) (.nil)))))) (fun i => [blk b (PacketPiece.enc ⟨some ⟨rb, 0, none⟩, { t with stamps := Slc.zero }, sb.2.2⟩) 185, RdA rb sb.2.1, slA 137 2 rawE (.slice a9 rs.length c9) rs, rowsB rs]) (fun i => rs.length - i) (0) (⟨Nat.zero_le _, by simp⟩) ?_ ?_
 ·exact fun _ j => J.envJ (J.keep Tk4 j) ⟨rfl, rfl, rfl, rfl, rfl, trivial⟩
 rintro i ⟨hile, hno⟩ kl2 hl2
 refine Zs fun _ hk3 => Qp 0 E2 (Zb E3) <| J.caseD (fun c12 => ?_) (fun c12 => ?_)
 ·refine Zl hk3 <| Run.seq fun _ hk4 => Zt <| Run.skip <| hk4 _ _ <| Run.seq fun _ hk5 => Run.block <| Run.seq fun _ hk6 => Run.region ?_
  obtain ⟨x, hi⟩ : ∃ x, rs[i]? = some x := ⟨_, GE (by omega)⟩
  obtain ⟨b0, o0, rfl⟩ := hh9.get (by omega)
  have hxl := hrf x (List.mem_of_getElem? hi)
  refine Qp 0 E2 (QP.indexAddr rfl rfl rfl Tryz.underlying133 z137 Og Og) <| Qq 1 E2 (QR.loadSl (y := x) rfl rfl g137 rawE_len (SlAt.own rawE_len Rc) hi) ?_
  refine Ef 2 E2 (EF.allocA (l := Raw.enc Raw.zero) rfl zero137) ?_
  rintro _ _ ⟨b5, rfl, rfl⟩
  refine Ac 3 rfl (EF.storeA rfl rfl rfl z137 (SetL.all (Raw.enc_len _) (Raw.enc_len _)) (Raw.enc_cell _)) ?_
  rintro _ _ rfl
  refine Zl hk6 <| Zs fun _ hk7 => Fa 0 E3 f137_1 <| Qq 1 E2 (Z1 E2 g75 (Raw.sub_body _)) ?_
  refine Qp 2 E2 (QP.len rfl rfl rfl Tryz.underlying75) <| Mv 3 E3 <| Qp 4 E2 (QP.mul rfl rfl rfl) ?_
  rw [wrap_i64 (n := 4 * (n : Int)) (by omega) (by omega)]
  refine Qp 5 E2 (QP.geq rfl rfl rfl) <| J.caseD (fun c20 => ?_) (fun c20 => ?_)
  ·refine Zl hk7 <| Zt <| Run.seq fun _ hk8 => Run.region ?_
   obtain ⟨rest, hp1⟩ := one_out hi
   refine J.openE Rc (fun _ q => (⟨(), rowsB_out hp1 q⟩ : ∃ _ : Unit, _)) fun _ => ?_
   refine J.app <| Fa 0 E3 f137_1 <| Qq 1 E2 (Z1 E2 g75 (Raw.sub_body _)) ?_
   refine Ef 2 E2 (Zc E2 ce70 Tk1 (fun F' hle hr => Spec.lendSl (e := 5) (z := 1) (enc := bytE) (xs := x.l) (a := x.a) (c := x.c) (fun _ => rfl) (fun F2 hle2 h2 => newR F2 hxl h2))) ?_
   rintro _ _ ⟨_, ⟨_, ⟨rb2, rfl, rfl⟩, rfl⟩, rfl⟩
   refine J.app <| Sg 3 E3 <| Zl hk8 <| Run.seq fun _ hk9 => Zs fun _ hk10 => J.addSl 101 1 u32E ?_
   refine Mv 0 E3 <| Mv 1 E3 <| Zl hk10 <| Run.block <| Run.loop5 (fun (i2 : Nat) (rr : Rs) (sts : List Int) (sa : Option Addr) (sc : Nat) => i2 ≤ n ∧ sts.length = i2 ∧ wordsF n ⟨x.l, 0⟩ = sts ++ wordsF (n - i2) rr) (fun i2 rr sts sa sc => .cons 0 (fp b) (.cons 6 (fp rb2) (.cons 24 (.int .i64 n) (.cons 25 (.int .i64 i2) (.nil))))) (fun i2 rr sts sa sc => [blk b (PacketPiece.enc ⟨some ⟨rb, 0, none⟩, { t with stamps := ⟨sa, sts.length, sc⟩ }, sb.2.2⟩) 185, RdA rb sb.2.1, RdA rb2 rr, slA 101 1 u32E (.slice sa sts.length sc) sts]) (fun i2 rr sts sa sc => n - i2) (0) (⟨x.l, 0⟩) ([]) (none) (0) (⟨Nat.zero_le _, rfl, rfl⟩) ?_ ?_
   ·exact fun _ j => J.envJ (J.keep Tk4 j) ⟨rfl, rfl, rfl, rfl, trivial⟩
   rintro i2 rr sts sa sc ⟨hi2, hsl, hw⟩ kl11 hl11
   refine Zs fun _ hk12 => Qp 0 E2 (Zb E3) <| J.caseD (fun c26 => ?_) (fun c26 => ?_)
   ·refine Zl hk12 <| Run.seq fun _ hk13 => Zt <| Run.skip <| hk13 _ _ <| Run.seq fun _ hk14 => Run.block <| Run.regionD (M := [0, 0, 2, 6, 14, 30, 0, 64, 192, 510, 1023, 2047, 4095, 8191]) (q := 7295) (r := 32) Kr ?_
    refine Dp 0 E2 (Zm E2) <| Dp 1 E2 (Zm E2) <| Dp 2 E2 (Zn E2) <| Dp 3 E2 (Za E2 f185_1) <| Dp 4 E2 (Za E2 f49_12) <| Dr 5 E2 (Z1 E2 g47 ((PacketPiece.sub_tlv _).trans (Tlv.sub_stamps _))) ?_
    refine Dp 6 E2 (Zm E2) <| De 7 <| Om [5] rfl rfl (Zc E2 ce112 Tk1 (fun F' hle hr => u32_spec F' (r := rr))) ?_
    rintro _ _ ⟨_, ⟨rfl, rfl⟩, rfl⟩
    refine ⟨?_, ?_⟩
    ·rw [FM]
     refine ⟨?_, NO⟩
     ·refine Look.app ?_
      exact Lk E3 (Z1 E2 g47 ((PacketPiece.sub_tlv _).trans (Tlv.sub_stamps _)))
    refine ?_
    refine J.app <| De 8 <| Om [5] rfl rfl (EF.buildSliceS rfl Tryz.underlying47 z101 zero101 rfl (by decide) rfl rfl rfl rfl) ?_
    rintro _ _ ⟨b35, rfl, rfl⟩
    refine ⟨?_, ?_⟩
    ·rw [FM]
     refine ⟨?_, NO⟩
     ·exact Lk E3 (Z1 E2 g47 ((PacketPiece.sub_tlv _).trans (Tlv.sub_stamps _)))
    refine ?_
    refine De 9 <| Om [] rfl rfl (EF.append1 (xs := sts) (s := u32F rr) (enc := u32E) el101 (fun _ => rfl) (fun _ => cell_one rfl) rfl rfl rfl Tryz.underlying47 Tryz.underlying47 rfl rfl Rc Rc (by omega)) ?_
    rintro sl36 _ rfl
    refine N0 <| Dw.slCase (v := sl36) (xs := (sts ++ [u32F rr])) Rc (fun a36 c36 hv36 hh36 => ?_)
    subst hv36
    refine Dp 10 E2 (Zn E2) <| Dp 11 E2 (Za E2 f185_1) <| Dp 12 E2 (Za E2 f49_12) <| De 13 <| Oa [] rfl (EF.store rfl rfl rfl z47 ((PacketPiece.set_tlv _ _).trans (PacketPiece.sub_tlv _) (Tlv.set_stamps _ ⟨a36, (sts ++ [u32F rr]).length, c36⟩)) (cell_one rfl)) ?_
    rintro _ _ rfl
    exact N0 <| Dn <| hk14 _ _ <| Run.region <| Qp 0 E2 (QP.add64 rfl rfl rfl Og Og) <| Mv 1 E3 <| Sq.nil <| J.envJ (J.keep Tk4 (hl11 (i2 + 1) ((rdTake rr 4).2) ((sts ++ [u32F rr])) (a36) (c36) (⟨by omega, by simp [hsl], by rw [hw, show n - i2 = (n - (i2 + 1)) + 1 by omega]; simp [wordsF]⟩) (by omega))) ⟨rfl, rfl, rfl, rfl, trivial⟩
   ·refine Zl hk12 <| Run.seq fun _ hk15 => Zf <| Run.exit rfl <| hk9 _ _ <| Run.ret ?_
    obtain rfl : i2 = n := by omega
    have hs : stampL i2 sb.1 = sts := by rw [← hrs, stamp_some hno hi (show 4 * i2 ≤ x.l.length from by have : (x.l.length : Int) ≥ 4 * (i2 : Int) := c20; omega), hw, Nat.sub_self]; simp [wordsF]
    exact J.ends (m := [blk b (PacketPiece.enc ⟨some ⟨rb, 0, none⟩, { t with stamps := ⟨sa, sts.length, sc⟩ }, sb.2.2⟩) 185, RdA rb sb.2.1, slA 101 1 u32E (.slice sa sts.length sc) sts]) (res_none rfl) Tk3 ⟨sa, sc, rfl, by rw [hsb, hs]⟩
  ·exact Zl hk7 <| Zf <| Run.skip <| hk5 _ _ <| Run.region <| Qp 0 E2 (QP.add64 rfl rfl rfl Og Og) <| Mv 1 E3 <| Sq.nil <| J.envJ (J.keep Tk4 (hl2 (i + 1) (⟨by omega, fun y hy => by rw [take_succ_get hi] at hy; rcases List.mem_append.1 hy with hy | hy; exact hno y hy; rw [List.mem_singleton.1 hy]; exact fun h => c20 (show (x.l.length : Int) ≥ 4 * (n : Int) by omega)⟩) (by omega))) ⟨rfl, rfl, rfl, rfl, rfl, trivial⟩
 ·refine Zl hk3 <| Run.seq fun _ hk16 => Zf <| Run.exit rfl ?_
  have hs : stampL n sb.1 = [] := by rw [← hrs, stamp_none]; rw [List.take_of_length_le (by omega)] at hno; exact hno
  refine J.addSl 101 1 u32E ?_
  exact J.ends (m := [blk b (PacketPiece.enc ⟨some ⟨rb, 0, none⟩, { t with stamps := Slc.zero }, sb.2.2⟩) 185, RdA rb sb.2.1, slA 101 1 u32E (.slice none 0 0) []]) (res_none rfl) Tk3 ⟨none, 0, rfl, by rw [hsb, hs]; rfl⟩
end Slb
