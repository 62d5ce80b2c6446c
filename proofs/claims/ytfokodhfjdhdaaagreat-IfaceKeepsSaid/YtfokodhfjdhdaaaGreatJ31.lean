/- J31: a part of the proof that a law of this package holds for every input; no condition. -/
import Derived.Test.YtfokodhfjdhdaaaGreatM2
import Derived.Test.YtfokodhfjdhdaaaGreatJ30
namespace Slb
open Go Go.Proofs
set_option maxRecDepth 20000
def rawF (k : UInt8) (l : List UInt8) : List UInt8 := k :: UInt8.ofNat l.length :: l
theorem rawF_len (k : UInt8) (l : List UInt8) : (rawF k l).length = l.length + 2 := rfl
theorem blk_frame {F : Fr} {L : List HProp} {b : Nat} {l : List Value} {ty : TypeId} {q : PH} (h : stars L q) (hq : PH.le q F.h) (hm : blk b l ty ∈ L) : F.h b = some (.cells l.toArray ty (0, 0)) := by
 obtain ⟨p, hp, hpq⟩ := stars_mem hm h
 have hp2 : p = PH.single b (.cells l.toArray ty (0, 0)) := hp
 subst hp2
 exact hq _ _ (hpq _ _ (single_self _ _))
theorem len2 (n : Nat) : nums 2 [(n : Int)] = [UInt8.ofNat (n / 256), UInt8.ofNat n] := by
 unfold nums
 simp [beF]

theorem join1_spec (F : Fr) (k : UInt8) (hk : k ≠ 0) {xa : Option Addr} {xc : Nat} {l : List UInt8} (hl : l.length ≤ 255) {aa : Option Addr} {ca : Nat} (ha : ArgSl F aa 2 rawE [(⟨(k.toNat : Int), xa, xc, l⟩ : RawX)]) (hb : ArgSl F xa 1 bytE l)  : Spec Tryz.prog 143 #[.slice aa 1 ca] [] F (fun v S => ∃ va, v = .tuple #[va, .int .i64 0] ∧ S = [slA 5 1 bytE va (rawF k l)]) := by
 refine Spec.intro (N := 49) (args := [.slice aa 1 ca]) Tryz.func143 rfl rfl (by simp) ?_
 refine Zs fun _ hk1 => Sg 0 E3 <| Sg 1 E3 <| Zl hk1 <| Zs fun _ hk2 => Sg 0 E3 <| Zl hk2 <| Run.seq fun _ hk3 => Zs fun _ hk4 => J.addSl 5 1 bytE ?_
 refine Mv 0 E3 <| Qp 1 E2 (QP.len rfl rfl rfl Tryz.underlying133) <| Mv 2 E3 <| Zl hk4 <| Run.block <| Run.loop3 (fun (i : Nat) (vo : Value) (zs : List UInt8) => (i = 0 ∧ zs = []) ∨ (i = 1 ∧ zs = rawF k l)) (fun i vo zs => .cons 4 (vo) (.cons 7 (.slice aa 1 ca) (.cons 8 (.int .i64 1) (.cons 9 (.int .i64 i) (.nil))))) (fun i vo zs => [slA 5 1 bytE vo zs]) (fun i vo zs => 1 - i) (0) (.slice none 0 0) ([]) (.inl ⟨rfl, rfl⟩) ?_ ?_
 ·exact fun _ j => J.envJ (J.keep Tk1 j) ⟨rfl, rfl, rfl, rfl, trivial⟩
 rintro i vo zs hI kl5 hl5
 refine Zs fun _ hk6 => Qp 0 E2 (Zb E3) <| J.caseD (fun c10 => ?_) (fun c10 => ?_)
 ·refine Zl hk6 <| Run.seq fun _ hk7 => Zt <| Run.skip <| hk7 _ _ <| Run.seq fun _ hk8 => Run.block <| Run.seq fun _ hk9 => Run.region ?_
  obtain ⟨rfl, rfl⟩ : i = 0 ∧ zs = [] := by rcases hI with h | ⟨h, _⟩; exact h; subst h; exact absurd c10 (by decide)
  obtain ⟨q1, o1, rfl, hs1⟩ := ha.get (by simp)
  refine Qp 0 E2 (QP.indexAddr rfl rfl rfl Tryz.underlying133 z137 Og Og) <| Qq 1 E2 (QR.loadSl (y := (⟨(k.toNat : Int), xa, xc, l⟩ : RawX)) rfl rfl g137 rawE_len (hs1 _) rfl) ?_
  refine Ef 2 E2 (EF.allocA (l := Raw.enc Raw.zero) rfl zero137) ?_
  rintro _ _ ⟨b6, rfl, rfl⟩
  refine Ac 3 rfl (EF.storeA rfl rfl rfl z137 (SetL.all (Raw.enc_len _) (Raw.enc_len _)) (Raw.enc_cell _)) ?_
  rintro _ _ rfl
  refine Zl hk9 <| Run.seq fun _ hk10 => Run.block <| Zs fun _ hk11 => Fa 0 E3 f137_0 <| Qq 1 E2 (Z1 E2 g5 (Raw.sub_type _)) ?_
  refine Qp 2 E2 (Ze E3) <| J.decF (fun h => hk (UInt8.toNat_inj.1 (by have h9 : (k.toNat : Int) = 0 := h; simpa using h9))) ?_
  refine Mv 3 E3 <| Sk 4 E3 <| Sk 5 E3 <| Sk 6 E3 <| Sk 7 E3 <| Pf 8 E4 <| Sg 9 E3 <| Zl hk11 <| Zf <| Zs fun _ hk12 => Fa 0 E3 f137_1 <| Qq 1 E2 (QR.load1 (v := .slice xa l.length xc) rfl rfl g75 (Raw.sub_body _)) ?_
  refine Qp 2 E2 (QP.len rfl rfl rfl Tryz.underlying75) <| Qp 3 E2 (QP.gtr rfl rfl rfl) <| J.decF (by omega) ?_
  refine Sg 4 E3 <| Zl hk12 <| Zf <| Run.skip <| hk10 _ _ <| Zs fun _ hk13 => Mv 0 E3 <| Fa 1 E3 f137_0 <| Qq 2 E2 (Z1 E2 g5 (Raw.sub_type _)) ?_
  refine Ef 3 E2 (EF.buildSliceS rfl Tryz.underlying75 z5 zero5 rfl (by decide) rfl rfl rfl rfl) ?_
  rintro _ _ ⟨b31, rfl, rfl⟩
  refine Ef 4 E2 (EF.append1 (xs := []) (s := k) (enc := bytE) el5 (fun _ => rfl) (fun _ => cell_one rfl) rfl rfl rfl Tryz.underlying75 Tryz.underlying75 rfl rfl Rc Rc (by simp)) ?_
  rintro sl32 _ rfl
  refine Sg 5 E3 <| Zl hk13 <| Zs fun _ hk14 => Fa 0 E3 f137_0 <| Qq 1 E2 (Z1 E2 g5 (Raw.sub_type _)) ?_
  refine Qp 2 E2 (Zq E3) <| J.decT (fun h => hk (UInt8.toNat_inj.1 (by have h9 : (k.toNat : Int) = 0 := h; simpa using h9))) ?_
  refine Zl hk14 <| Zt <| Run.regionD (M := [0, 0, 2, 6, 14, 30, 63, 0, 128, 384, 1023, 2047]) (q := 415) (r := 260) Kr ?_
  refine Dp 0 E2 (Zm E2) <| Dp 1 E2 (Za E2 f137_1) <| Dr 2 E2 (QR.load1 (v := .slice xa l.length xc) rfl rfl g75 (Raw.sub_body _)) ?_
  refine Dp 3 E2 (QP.len rfl rfl rfl Tryz.underlying75) <| Dp 4 E2 (QP.conv rfl rfl Tryz.underlying3 Tryz.underlying5) ?_
  rw [wrap8_nat]
  refine Dp 7 E2 (Za E2 f137_1) <| Dr 8 E2 (QR.load1 (v := .slice xa l.length xc) rfl rfl g75 (Raw.sub_body _)) ?_
  refine Dw.effs (l := [5, 9]) Kr Kr ?_
  rw [FM, FM]
  refine ⟨?_, ?_, NO⟩
  ·refine Om [8] rfl rfl (EF.buildSliceS rfl Tryz.underlying75 z5 zero5 rfl (by decide) rfl rfl rfl rfl) ?_
   rintro _ _ ⟨b41, rfl, rfl⟩
   refine ⟨?_, ?_⟩
   ·rw [FM]
    refine ⟨?_, NO⟩
    ·exact Lk E3 (QR.load1 (v := .slice xa l.length xc) rfl rfl g75 (Raw.sub_body _))
   refine ?_
   refine Dw.effs (l := [6, 9]) Kr Kr ?_
   rw [FM, FM]
   refine ⟨?_, ?_, NO⟩
   ·refine Om [8] rfl rfl (Zc E2 ce103 Tk1 (fun F' hle hr => put8_spec F' (ys := [UInt8.ofNat l.length]) (argSl_all (enc := bytE) (xs := [UInt8.ofNat l.length]) (fun _ => rfl) (hr b41 _ Rc)) (by simp))) ?_
    rintro v42 _ ⟨_, rfl, rfl⟩
    refine ⟨?_, ?_⟩
    ·rw [FM]
     refine ⟨?_, NO⟩
     ·refine Look.app ?_
      exact Lk E3 (QR.load1 (v := .slice xa l.length xc) rfl rfl g75 (Raw.sub_body _))
    refine ?_
    refine J.app <| De 9 <| Om [2] rfl rfl (EF.buildSliceS rfl Tryz.underlying108 z75 zero75 rfl (by decide) rfl rfl rfl rfl) ?_
    rintro _ _ ⟨b45, rfl, rfl⟩
    refine ⟨?_, ?_⟩
    ·rw [FM]
     refine ⟨?_, NO⟩
     ·exact Lk E3 (QR.load1 (v := .slice xa l.length xc) rfl rfl g75 (Raw.sub_body _))
    refine ?_
    refine De 10 <| Om [] rfl rfl (Zc E2 ce101 Tk1 (fun F' hle hr => putbytes_spec F' (ls := [⟨xa, l.length, xc, l, rfl⟩]) (argSl_all (enc := slE) (xs := [⟨xa, l.length, xc, l, rfl⟩]) (fun _ => rfl) (hr b45 _ Rc)) (fun y hy => by rw [List.mem_singleton.1 hy]; exact hb.mono hle) (by simp [catL]; omega) (by simp))) ?_
    rintro v46 _ ⟨_, rfl, rfl⟩
    refine N0 <| J.app <| De 11 <| Om [] rfl rfl ((Zg E2).eff) ?_
    rintro v46 _ ⟨rfl, rfl⟩
    refine N0 <| Dn <| hk8 _ _ <| Run.region <| Qp 0 E2 (QP.add64 rfl rfl rfl Og Og) <| Mv 1 E3 <| Sq.nil ?_
    rw [show ((([] ++ [k]) ++ [UInt8.ofNat l.length]) ++ catL [⟨xa, l.length, xc, l, rfl⟩]) = rawF k l by simp [catL, rawF]]
    exact J.envJ (J.keep Tk1 (hl5 (1) (v46) (rawF k l) (.inr ⟨rfl, rfl⟩) (by omega))) ⟨rfl, rfl, rfl, rfl, trivial⟩
   ·refine Om [2] rfl rfl (EF.buildSliceS rfl Tryz.underlying108 z75 zero75 rfl (by decide) rfl rfl rfl rfl) ?_
    rintro _ _ ⟨b45, rfl, rfl⟩
    refine ⟨?_, ?_⟩
    ·rw [FM]
     refine ⟨?_, NO⟩
     ·exact Lk E3 (QR.load1 (v := .slice xa l.length xc) rfl rfl g75 (Raw.sub_body _))
    refine ?_
    refine De 6 <| Om [8] rfl rfl (Zc E2 ce103 Tk1 (fun F' hle hr => put8_spec F' (ys := [UInt8.ofNat l.length]) (argSl_all (enc := bytE) (xs := [UInt8.ofNat l.length]) (fun _ => rfl) (hr b41 _ Rc)) (by simp))) ?_
    rintro v42 _ ⟨_, rfl, rfl⟩
    refine ⟨?_, ?_⟩
    ·rw [FM]
     refine ⟨?_, NO⟩
     ·refine Look.app ?_
      exact Lk E3 (QR.load1 (v := .slice xa l.length xc) rfl rfl g75 (Raw.sub_body _))
    refine ?_
    refine J.app <| De 10 <| Om [] rfl rfl (Zc E2 ce101 Tk1 (fun F' hle hr => putbytes_spec F' (ls := [⟨xa, l.length, xc, l, rfl⟩]) (argSl_all (enc := slE) (xs := [⟨xa, l.length, xc, l, rfl⟩]) (fun _ => rfl) (hr b45 _ Rc)) (fun y hy => by rw [List.mem_singleton.1 hy]; exact hb.mono hle) (by simp [catL]; omega) (by simp))) ?_
    rintro v46 _ ⟨_, rfl, rfl⟩
    refine N0 <| J.app <| De 11 <| Om [] rfl rfl ((Zg E2).eff) ?_
    rintro v46 _ ⟨rfl, rfl⟩
    refine N0 <| Dn <| hk8 _ _ <| Run.region <| Qp 0 E2 (QP.add64 rfl rfl rfl Og Og) <| Mv 1 E3 <| Sq.nil ?_
    rw [show ((([] ++ [k]) ++ [UInt8.ofNat l.length]) ++ catL [⟨xa, l.length, xc, l, rfl⟩]) = rawF k l by simp [catL, rawF]]
    exact J.envJ (J.keep Tk1 (hl5 (1) (v46) (rawF k l) (.inr ⟨rfl, rfl⟩) (by omega))) ⟨rfl, rfl, rfl, rfl, trivial⟩
  ·refine Om [2] rfl rfl (EF.buildSliceS rfl Tryz.underlying108 z75 zero75 rfl (by decide) rfl rfl rfl rfl) ?_
   rintro _ _ ⟨b45, rfl, rfl⟩
   refine ⟨?_, ?_⟩
   ·rw [FM]
    refine ⟨?_, NO⟩
    ·exact Lk E3 (QR.load1 (v := .slice xa l.length xc) rfl rfl g75 (Raw.sub_body _))
   refine ?_
   refine De 5 <| Om [8] rfl rfl (EF.buildSliceS rfl Tryz.underlying75 z5 zero5 rfl (by decide) rfl rfl rfl rfl) ?_
   rintro _ _ ⟨b41, rfl, rfl⟩
   refine ⟨?_, ?_⟩
   ·rw [FM]
    refine ⟨?_, NO⟩
    ·exact Lk E3 (QR.load1 (v := .slice xa l.length xc) rfl rfl g75 (Raw.sub_body _))
   refine ?_
   refine De 6 <| Om [8] rfl rfl (Zc E2 ce103 Tk1 (fun F' hle hr => put8_spec F' (ys := [UInt8.ofNat l.length]) (argSl_all (enc := bytE) (xs := [UInt8.ofNat l.length]) (fun _ => rfl) (hr b41 _ Rc)) (by simp))) ?_
   rintro v42 _ ⟨_, rfl, rfl⟩
   refine ⟨?_, ?_⟩
   ·rw [FM]
    refine ⟨?_, NO⟩
    ·refine Look.app ?_
     exact Lk E3 (QR.load1 (v := .slice xa l.length xc) rfl rfl g75 (Raw.sub_body _))
   refine ?_
   refine J.app <| De 10 <| Om [] rfl rfl (Zc E2 ce101 Tk1 (fun F' hle hr => putbytes_spec F' (ls := [⟨xa, l.length, xc, l, rfl⟩]) (argSl_all (enc := slE) (xs := [⟨xa, l.length, xc, l, rfl⟩]) (fun _ => rfl) (hr b45 _ Rc)) (fun y hy => by rw [List.mem_singleton.1 hy]; exact hb.mono hle) (by simp [catL]; omega) (by simp))) ?_
   rintro v46 _ ⟨_, rfl, rfl⟩
   refine N0 <| J.app <| De 11 <| Om [] rfl rfl ((Zg E2).eff) ?_
   rintro v46 _ ⟨rfl, rfl⟩
   refine N0 <| Dn <| hk8 _ _ <| Run.region <| Qp 0 E2 (QP.add64 rfl rfl rfl Og Og) <| Mv 1 E3 <| Sq.nil ?_
   rw [show ((([] ++ [k]) ++ [UInt8.ofNat l.length]) ++ catL [⟨xa, l.length, xc, l, rfl⟩]) = rawF k l by simp [catL, rawF]]
   exact J.envJ (J.keep Tk1 (hl5 (1) (v46) (rawF k l) (.inr ⟨rfl, rfl⟩) (by omega))) ⟨rfl, rfl, rfl, rfl, trivial⟩
 ·refine Zl hk6 <| Run.seq fun _ hk15 => Zf <| Run.exit rfl <| hk3 _ _ <| Zs fun _ hk16 => Mv 0 E3 <| Sg 1 E3 <| Sg 2 E3 <| Zl hk16 <| Run.ret ?_
  obtain ⟨_, rfl⟩ : i = 1 ∧ zs = rawF k l := by rcases hI with ⟨h, _⟩ | h; subst h; exact absurd (by decide) c10; exact h
  exact J.ends (res_tmp2 rfl rfl rfl) Tk1 ⟨_, rfl, rfl⟩

theorem raw_spec (F : Fr) (k : UInt8) (hk : k ≠ 0) {ls : List SlX} {a2 : Option Addr} {c2 : Nat} (hb : ArgSl F a2 1 slE ls) (hy : ∀ y ∈ ls, ArgSl F y.a 1 bytE y.l) (hl : (catL ls).length ≤ 255) (hn : ls.length ≤ 1000000)  : Spec Tryz.prog 104 #[.int .u8 (k.toNat : Int), .slice a2 ls.length c2] [] F (fun v S => S = [slA 5 1 bytE v (rawF k (catL ls))]) := by
 refine Spec.intro (N := 17) (args := [.int .u8 (k.toNat : Int), .slice a2 ls.length c2]) Tryz.func104 rfl rfl (by simp) ?_
 refine Zs fun _ hk1 => Sg 0 E3 <| Zl hk1 <| Zs fun _ hk2 => J.addSl 5 1 bytE ?_
 refine Mv 0 E3 <| Mv 1 E3 <| Ef 2 E2 (Zc E2 ce101 Tk1 (fun F' hle hr => putbytes_spec F' (u := .slice none 0 0) (xs := []) (hb.mono hle) (fun y h => (hy y h).mono hle) (by simp; omega) hn)) ?_
 rintro v10 _ ⟨_, rfl, rfl⟩
 refine J.app ?_
 rw [List.nil_append]
 refine Sq.slCase (v := v10) (xs := (catL ls)) Rc (fun a10 c10 hv10 hh10 => ?_)
 subst hv10
 refine Qp 3 E2 (QP.build (l := Raw.enc ⟨(k.toNat : Int), ⟨a10, (catL ls).length, c10⟩⟩) rfl st137 rfl (by exact ⟨rfl, ⟨rfl, trivial⟩⟩) rfl) <| Ef 4 E2 (EF.buildSlice1 rfl Tryz.underlying133 z137 zero137 (by simp [Value.cells, Raw.enc_len]) (by decide) rfl rfl (Raw.enc_len _) (by decide)) ?_
 rintro _ _ ⟨b12, rfl, rfl⟩
 refine Ef 5 E2 (Zc E2 ce143 Tk1 (fun F' hle hr => Spec.lendSl (e := 5) (z := 1) (enc := bytE) (xs := catL ls) (fun _ => rfl) (fun F2 h2 hb2 => join1_spec F2 k hk hl (ArgSl.mono (argSl_all (enc := rawE) (xs := [⟨(k.toNat : Int), a10, c10, catL ls⟩]) rawE_len (hr b12 _ Rc)) h2) hb2))) ?_
 rintro _ _ ⟨_, ⟨_, ⟨va, rfl, rfl⟩, rfl⟩, rfl⟩
 exact J.app <| Mv 6 E3 <| Qp 7 E2 (Zx E3) <| Qp 8 E2 (Zx E3) <| Sg 9 E3 <| Sg 10 E3 <| Zl hk2 <| Zs fun _ hk3 => Mv 0 E3 <| Sg 1 E3 <| Zl hk3 <| Run.ret <| J.ends (res_tmp rfl rfl) Tk1 rfl

theorem packet1_spec (F : Fr) {bs : List UInt8} {a1 : Option Addr} {c1 : Nat} (ha : ArgSl F a1 1 bytE bs) (hl : bs.length ≤ 65535)  : Spec Tryz.prog 68 #[.slice a1 bs.length c1] [] F (fun v S => ∃ va, v = .tuple #[va, .int .i64 0] ∧ S = [slA 5 1 bytE va (wrapL bs)]) := by
 refine Spec.intro (N := 17) (args := [.slice a1 bs.length c1]) Tryz.func68 rfl rfl (by simp) ?_
 refine Zs fun _ hk1 => Sg 0 E3 <| Sg 1 E3 <| Zl hk1 <| Run.seq fun _ hk2 => Zs fun _ hk3 => Mv 0 E3 <| Qp 1 E2 (QP.len rfl rfl rfl Tryz.underlying75) <| Qp 2 E2 (QP.gtr rfl rfl rfl) <| J.decF (by omega) ?_
 refine Zl hk3 <| Zf <| Run.skip <| hk2 _ _ <| Zs fun _ hk4 => J.addSl 5 1 bytE ?_
 refine Ef 0 E2 (EF.buildSliceS rfl Tryz.underlying75 z5 zero5 rfl (by decide) rfl rfl rfl rfl) ?_
 rintro _ _ ⟨b7, rfl, rfl⟩
 refine Ef 1 E2 (Zc E2 ce103 Tk1 (fun F' hle hr => put8_spec F' (u := .slice none 0 0) (xs := []) (ys := [42, 2]) (argSl_all (enc := bytE) (xs := [42, 2]) (fun _ => rfl) (hr b7 _ Rc)) (by simp))) ?_
 rintro v8 _ ⟨_, rfl, rfl⟩
 refine J.app <| Mv 2 E3 <| Qp 3 E2 (QP.len rfl rfl rfl Tryz.underlying75) <| Qp 4 E2 (QP.conv rfl rfl Tryz.underlying3 Tryz.underlying40) ?_
 rw [wrap_u16r (n := (bs.length : Int)) (by omega) (by omega)]
 refine Ef 5 E2 (EF.buildSliceS rfl Tryz.underlying246 z40 zero40 rfl (by decide) rfl rfl rfl rfl) ?_
 rintro _ _ ⟨b12, rfl, rfl⟩
 refine Ef 6 E2 (Zc E2 ce102 Tk1 (fun F' hle hr => put16_spec F' (ns := [(bs.length : Int)]) (argSl_all (enc := u16E) (xs := [(bs.length : Int)]) (fun _ => rfl) (hr b12 _ Rc)) (fun n hn => by rw [List.mem_singleton.1 hn]; omega) (by simp))) ?_
 rintro v13 _ ⟨_, rfl, rfl⟩
 refine J.app <| Mv 7 E3 <| Ef 8 E2 (EF.buildSliceS rfl Tryz.underlying108 z75 zero75 rfl (by decide) rfl rfl rfl rfl) ?_
 rintro _ _ ⟨b15, rfl, rfl⟩
 refine Ef 9 E2 (Zc E2 ce101 Tk1 (fun F' hle hr => putbytes_spec F' (ls := [⟨a1, bs.length, c1, bs, rfl⟩]) (argSl_all (enc := slE) (xs := [⟨a1, bs.length, c1, bs, rfl⟩]) (fun _ => rfl) (hr b15 _ Rc)) (fun y hy => by rw [List.mem_singleton.1 hy]; exact ha.mono hle) (by simp [catL, nums_len]; omega) (by simp))) ?_
 rintro v16 _ ⟨_, rfl, rfl⟩
 refine J.app <| Sg 10 E3 <| Sg 11 E3 <| Zl hk4 <| Run.ret ?_
 rw [show (([] ++ [42, 2]) ++ nums 2 [(bs.length : Int)]) ++ catL [⟨a1, bs.length, c1, bs, rfl⟩] = wrapL bs by rw [len2]; simp [catL, wrapL]]
 exact J.ends (res_tmp2 rfl rfl rfl) Tk1 ⟨_, rfl, rfl⟩

/-- raw, its parts lent. -/
theorem raw_lent (F : Fr) (L : List HProp) {b : Nat} (G : HProp → List HProp) (hG : ∀ A, L ++ [A] = G A) (k : UInt8) (hk : k ≠ 0) {kt : Int} (hkt : kt = (k.toNat : Int)) (ls : List SlX) {n : Nat} (hnl : n = ls.length) (hl : (catL ls).length ≤ 255) (hn : ls.length ≤ 1000000) (hm : blk b (ls.flatMap slE) 75 ∈ L)
   (hy : ∀ (F2 : Fr) (q : PH), PH.le F.h F2.h → stars L q → PH.le q F2.h → ∀ y ∈ ls, ArgSl F2 y.a 1 bytE y.l) :
   Spec Tryz.prog 104 #[.int .u8 kt, .slice (some ⟨b, 0, none⟩) n n] L F fun v S => S = G (slA 5 1 bytE v (rawF k (catL ls))) := by
 subst hnl hkt
 have h := Spec.lendL (P := Tryz.prog) (f := 104) (args := #[.int .u8 (k.toNat : Int), .slice (some ⟨b, 0, none⟩) ls.length ls.length]) (m := []) (F := F) (L := L) (R := fun v S => S = [slA 5 1 bytE v (rawF k (catL ls))])
   (fun F2 q hle hA hq => raw_spec F2 k hk (argSl_all (enc := slE) (fun _ => rfl) (blk_frame hA hq hm)) (hy F2 q hle hA hq) hl hn)
 rw [List.append_nil] at h
 refine h.mono ?_
 rintro v S ⟨S1, rfl, rfl⟩
 exact hG _
theorem putbytes_lent (F : Fr) (L : List HProp) {b : Nat} (G : HProp → List HProp) (hG : ∀ A, L ++ [A] = G A) {u : Value} {xs : List UInt8} (ls : List SlX) {n : Nat} (hnl : n = ls.length) (hl : xs.length + (catL ls).length ≤ 4294967296) (hn : ls.length ≤ 1000000) (hm : blk b (ls.flatMap slE) 75 ∈ L)
   (hy : ∀ (F2 : Fr) (q : PH), PH.le F.h F2.h → stars L q → PH.le q F2.h → ∀ y ∈ ls, ArgSl F2 y.a 1 bytE y.l) :
   Spec Tryz.prog 101 #[u, .slice (some ⟨b, 0, none⟩) n n] (L ++ [slA 5 1 bytE u xs]) F fun v S => S = G (slA 5 1 bytE v (xs ++ catL ls)) := by
 subst hnl
 have h := Spec.lendL (P := Tryz.prog) (f := 101) (args := #[u, .slice (some ⟨b, 0, none⟩) ls.length ls.length]) (m := [slA 5 1 bytE u xs]) (F := F) (L := L) (R := fun v S => S = [slA 5 1 bytE v (xs ++ catL ls)])
   (fun F2 q hle hA hq => putbytes_spec F2 (argSl_all (enc := slE) (fun _ => rfl) (blk_frame hA hq hm)) (hy F2 q hle hA hq) hl hn)
 refine h.mono ?_
 rintro v S ⟨S1, rfl, rfl⟩
 exact hG _
end Slb
