/- R63: a part of the proof that a law of this package holds for every input; no condition. -/
import Derived.Test.YtmolpkkkndopcaaGreatM2
import Derived.Test.YtmolpkkkndopcaaGreatR62
namespace Slb
open Go Go.Proofs
set_option maxRecDepth 20000
theorem rjoin1_spec (F : Fr) (k : UInt8) (hk : k ≠ 0) {xa : Option Addr} {xc : Nat} {l : List UInt8} (hl : l.length ≤ 255) {aa : Option Addr} {ca : Nat} (ha : ArgSl F aa 2 rawE [(⟨(k.toNat : Int), xa, xc, l⟩ : RawX)]) (hb : ArgSl F xa 1 bytE l)  : Spec Tryz.prog 53 #[.slice aa 1 ca] [] F (fun v S => ∃ va, v = .tuple #[va, .int .i64 0] ∧ S = [slA 5 1 bytE va (rawF k l)]) := by
 refine Spec.intro (N := 68) (args := [.slice aa 1 ca]) Tryz.func53 rfl rfl (by simp) ?_
 refine Zs fun _ hk1 => Sg 0 E3 <| Sg 1 E3 <| Zl hk1 <| Zs fun _ hk2 => Sg 0 E3 <| Zl hk2 <| Run.seq fun _ hk3 => Zs fun _ hk4 => J.addSl 5 1 bytE ?_
 refine Sg 0 E3 <| Zl hk4 <| Run.block <| Run.loop3 (fun (i : Nat) (vo : Value) (zs : List UInt8) => (i = 0 ∧ zs = []) ∨ (i = 1 ∧ zs = rawF k l)) (fun i vo zs => .cons 0 (.slice aa 1 ca) (.cons 4 (vo) (.cons 5 (.int .i64 i) (.nil)))) (fun i vo zs => [slA 5 1 bytE vo zs]) (fun i vo zs => 1 - i) (0) (.slice none 0 0) ([]) (.inl ⟨rfl, rfl⟩) ?_ ?_
 ·exact fun _ j => J.envJ (J.keep Tk1 j) ⟨rfl, rfl, rfl, trivial⟩
 rintro i vo zs hI kl5 hl5
 refine Run.seq fun _ hk6 => Zs fun _ hk7 => Mv 0 E3 <| Mv 1 E3 <| Qp 2 E2 (QP.len rfl rfl rfl Tryz.underlying107) <| Qp 3 E2 (Zb E3) <| J.caseD (fun c9 => ?_) (fun c9 => ?_)
 ·refine Zl hk7 <| Zt <| Run.skip <| hk6 _ _ <| Run.seq fun _ hk8 => Run.block <| Run.block <| Run.seq fun _ hk9 => Run.region ?_
  obtain ⟨rfl, rfl⟩ : i = 0 ∧ zs = [] := by rcases hI with h | ⟨h, _⟩; exact h; subst h; exact absurd c9 (by decide)
  obtain ⟨q1, o1, rfl, hs1⟩ := ha.get (by simp)
  refine Mv 0 E3 <| Mv 1 E3 <| Qp 2 E2 (QP.indexAddr rfl rfl rfl Tryz.underlying107 z81 Og Og) <| Fa 3 E3 f81_0 <| Qq 4 E2 (QR.loadSlF1 (y := (⟨(k.toNat : Int), xa, xc, l⟩ : RawX)) rfl rfl g5 rawE_len (hs1 _) rfl (Raw.sub_type _)) ?_
  refine Qp 5 E2 (Ze E3) <| J.decF ((fun h => hk (UInt8.toNat_inj.1 (by have h9 : (k.toNat : Int) = 0 := h; simpa using h9)))) ?_
  refine Mv 6 E3 <| Sk 7 E3 <| Sk 8 E3 <| Sk 9 E3 <| Sk 10 E3 <| Sk 11 E3 <| Sk 12 E3 <| Sk 13 E3 <| Pf 14 E4 <| Sg 15 E3 <| Zl hk9 <| Zf <| Zs fun _ hk10 => Mv 0 E3 <| Mv 1 E3 <| Qp 2 E2 (QP.indexAddr rfl rfl rfl Tryz.underlying107 z81 Og Og) <| Fa 3 E3 f81_1 <| Qq 4 E2 (QR.loadSlF1 (y := (⟨(k.toNat : Int), xa, xc, l⟩ : RawX)) rfl rfl g46 rawE_len (hs1 _) rfl (Raw.sub_body _)) ?_
  refine Qp 5 E2 (QP.len rfl rfl rfl Tryz.underlying46) <| Qp 6 E2 (QP.gtr rfl rfl rfl) <| J.decF (by show ¬ (l.length : Int) > 255; omega) ?_
  refine Sg 7 E3 <| Zl hk10 <| Zf <| Zs fun _ hk11 => Mv 0 E3 <| Mv 1 E3 <| Qp 2 E2 (QP.indexAddr rfl rfl rfl Tryz.underlying107 z81 Og Og) <| Fa 3 E3 f81_0 <| Qq 4 E2 (QR.loadSlF1 (y := (⟨(k.toNat : Int), xa, xc, l⟩ : RawX)) rfl rfl g5 rawE_len (hs1 _) rfl (Raw.sub_type _)) ?_
  refine Qp 5 E2 (Ze E3) <| J.decF ((fun h => hk (UInt8.toNat_inj.1 (by have h9 : (k.toNat : Int) = 0 := h; simpa using h9)))) ?_
  refine Sg 6 E3 <| Zl hk11 <| Zf <| Run.regionD (M := [0, 0, 0, 6, 14, 30, 0, 0, 192, 448, 960, 1984, 4032, 8190, 16383, 0, 0, 98304, 229376, 491520, 1048575, 2097151]) (q := 1023999) (r := 525344) Kr ?_
  refine Dp 0 E2 (Zm E2) <| Dp 1 E2 (Zm E2) <| Dp 2 E2 (Zm E2) <| Dp 3 E2 (QP.indexAddr rfl rfl rfl Tryz.underlying107 z81 Og Og) <| Dp 4 E2 (Za E2 f81_0) <| Dr 5 E2 (QR.loadSlF1 (y := (⟨(k.toNat : Int), xa, xc, l⟩ : RawX)) rfl rfl g5 rawE_len (hs1 _) rfl (Raw.sub_type _)) ?_
  refine Dp 6 E2 (Zm E2) <| Dp 7 E2 (Zm E2) <| Dp 8 E2 (QP.indexAddr rfl rfl rfl Tryz.underlying107 z81 Og Og) <| Dp 9 E2 (Za E2 f81_1) <| Dr 10 E2 (QR.loadSlF1 (y := (⟨(k.toNat : Int), xa, xc, l⟩ : RawX)) rfl rfl g46 rawE_len (hs1 _) rfl (Raw.sub_body _)) ?_
  refine Dp 11 E2 (QP.len rfl rfl rfl Tryz.underlying46) <| Dp 12 E2 (QP.conv rfl rfl Tryz.underlying3 Tryz.underlying5) ?_
  rw [wrap8_nat]
  refine Dp 15 E2 (Zm E2) <| Dp 16 E2 (Zm E2) <| Dp 17 E2 (QP.indexAddr rfl rfl rfl Tryz.underlying107 z81 Og Og) <| Dp 18 E2 (Za E2 f81_1) <| Dr 19 E2 (QR.loadSlF1 (y := (⟨(k.toNat : Int), xa, xc, l⟩ : RawX)) rfl rfl g46 rawE_len (hs1 _) rfl (Raw.sub_body _)) ?_
  refine De 13 <| Om [19] rfl rfl (EF.buildSliceS rfl Tryz.underlying46 z5 zero5 rfl (by decide) rfl rfl rfl rfl) ?_
  rintro _ _ ⟨b25, rfl, rfl⟩
  refine ⟨?_, ?_⟩
  ·rw [List.forall_mem_cons]
   refine ⟨?_, fun _ h => (by cases h)⟩
   ·exact Look.mk rfl rfl rfl (QR.loadSlF1 (y := (⟨(k.toNat : Int), xa, xc, l⟩ : RawX)) rfl rfl g46 rawE_len (hs1 _) rfl (Raw.sub_body _))
  refine ?_
  refine De 14 <| Om [19] rfl rfl (EF.append (xs := []) (ys := [k, UInt8.ofNat l.length]) (enc := bytE) el5 (fun _ => rfl) (fun _ => cell_one rfl) rfl rfl rfl Tryz.underlying46 Tryz.underlying46 rfl rfl Rc (by rw [flat_byt]; exact RowsAt.lit (ys := [k, UInt8.ofNat l.length]) (ty := 5) Rc) (by simp)) ?_
  rintro sl26 _ rfl
  refine ⟨?_, ?_⟩
  ·rw [List.forall_mem_cons]
   refine ⟨?_, fun _ h => (by cases h)⟩
   ·exact Look.mk rfl rfl rfl (QR.loadSlF1 (y := (⟨(k.toNat : Int), xa, xc, l⟩ : RawX)) rfl rfl g46 rawE_len (hs1 _) rfl (Raw.sub_body _))
  refine ?_
  refine De 20 <| Om [] rfl rfl (EF.appendArg (xs := [] ++ [k, UInt8.ofNat l.length]) (ys := l) (enc := bytE) el5 (fun _ => rfl) (fun _ => cell_one rfl) rfl rfl rfl Tryz.underlying46 Tryz.underlying46 rfl rfl Rc hb (by simp; omega)) ?_
  rintro sl32 _ rfl
  refine ⟨fun _ h => (by cases h), ?_⟩
  refine De 21 <| Om [] rfl rfl ((Zg E2).eff) ?_
  rintro sl32 _ ⟨rfl, rfl⟩
  refine ⟨fun _ h => (by cases h), ?_⟩
  refine Dn <| hk8 _ _ <| Run.region <| Mv 0 E3 <| Qp 1 E2 (QP.add64 rfl rfl rfl Og Og) <| Sg 2 E3 <| Sq.nil ?_
  rw [show ([] ++ [k, UInt8.ofNat l.length]) ++ l = rawF k l by simp [rawF]]
  exact J.envJ (J.keep Tk1 (hl5 (1) (sl32) (rawF k l) (.inr ⟨rfl, rfl⟩) (by omega))) ⟨rfl, rfl, rfl, trivial⟩
 ·refine Zl hk7 <| Zf <| Run.exit rfl <| hk3 _ _ <| Zs fun _ hk12 => Mv 0 E3 <| Sg 1 E3 <| Sg 2 E3 <| Zl hk12 <| Run.ret ?_
  obtain ⟨_, rfl⟩ : i = 1 ∧ zs = rawF k l := by rcases hI with ⟨h, _⟩ | h; subst h; exact absurd (by decide) c9; exact h
  exact J.ends (res_tmp2 rfl rfl rfl) Tk1 ⟨_, rfl, rfl⟩

theorem rjoin_spec (F : Fr) (k : UInt8) (hk : k ≠ 0) {xa : Option Addr} {xc : Nat} {l : List UInt8} (hl : l.length ≤ 255) (hb : ArgSl F xa 1 bytE l)  : Spec Tryz.prog 32 #[.agg (Raw.enc ⟨(k.toNat : Int), ⟨xa, l.length, xc⟩⟩).toArray] [] F (fun v S => S = [slA 5 1 bytE v (rawF k l)]) := by
 refine Spec.intro (N := 12) (args := [.agg (Raw.enc ⟨(k.toNat : Int), ⟨xa, l.length, xc⟩⟩).toArray]) Tryz.func32 rfl rfl (by simp) ?_
 refine Zs fun _ hk1 => Ef 0 E2 (EF.boxA rfl rfl) ?_
 rintro _ _ ⟨b1, rfl, rfl⟩
 refine Sg 1 E3 <| Zl hk1 <| Zs fun _ hk2 => Qq 0 E2 (Z0 E2 g81 (Raw.enc_sub _)) ?_
 refine Ef 1 E2 (EF.buildSlice1 rfl Tryz.underlying107 z81 zero81 (by simp [Value.cells, Raw.enc_len]) (by decide) rfl rfl (Raw.enc_len _) (by decide)) ?_
 rintro _ _ ⟨b7, rfl, rfl⟩
 refine Ef 2 E2 (EF.call rfl ce53 rfl Takes.nil (fun F' hle hr => rjoin1_spec F' k hk hl (argSl_all (enc := rawE) (xs := [(⟨(k.toNat : Int), xa, xc, l⟩ : RawX)]) rawE_len (by have h9 := hr b7 (.cells (Raw.enc ⟨(k.toNat : Int), ⟨xa, l.length, xc⟩⟩).toArray 81 (0, 0)) Rc; rw [show [(⟨(k.toNat : Int), xa, xc, l⟩ : RawX)].flatMap rawE = Raw.enc ⟨(k.toNat : Int), ⟨xa, l.length, xc⟩⟩ by simp]; exact h9)) (hb.mono hle))) ?_
 rintro _ _ ⟨_, ⟨va, rfl, rfl⟩, rfl⟩
 exact J.app <| Mv 3 E3 <| Qp 4 E2 (Zx E3) <| Qp 5 E2 (Zx E3) <| Sg 6 E3 <| Sg 7 E3 <| Zl hk2 <| Zs fun _ hk3 => Mv 0 E3 <| Sg 1 E3 <| Zl hk3 <| Run.ret <| J.ends (res_tmp rfl rfl) Tk1 rfl

theorem rstamps_spec (F : Fr) {ns : List Int} {a2 : Option Addr} {c2 : Nat} (hb : ArgSl F a2 1 u32E ns) (hn : ∀ n ∈ ns, 0 ≤ n ∧ n < 4294967296) (hl : ns.length ≤ 2)  : Spec Tryz.prog 29 #[.slice a2 ns.length c2] [] F (fun v S => S = [slA 5 1 bytE v (timesF ns)]) := by
 refine Spec.intro (N := 23) (args := [.slice a2 ns.length c2]) Tryz.func29 rfl rfl (by simp) ?_
 refine Zs fun _ hk1 => Sg 0 E3 <| Zl hk1 <| Run.seq fun _ hk2 => Zs fun _ hk3 => Mv 0 E3 <| Qp 1 E2 (QP.len rfl rfl rfl Tryz.underlying43) <| Qp 2 E2 (Ze E3) <| J.caseD (fun c7 => ?_) (fun c7 => ?_)
 ·refine Zl hk3 <| Zt <| Zs fun _ hk4 => Sg 0 E3 <| Zl hk4 <| Run.ret <| J.addSl 5 1 bytE ?_
  have hT : timesF ns = [] := by unfold timesF; rw [if_pos (show ns.length = 0 by have h9 : (ns.length : Int) = 0 := c7; omega)]
  rw [hT]
  exact J.ends (res_tmp rfl rfl) Tk1 rfl
 ·refine Zl hk3 <| Zf <| Run.skip <| hk2 _ _ <| Zs fun _ hk5 => Sg 0 E3 <| Zl hk5 <| Run.seq fun _ hk6 => Zs fun _ hk7 => J.addSl 5 1 bytE ?_
  refine J.slEq (v := .slice none 0 0) Rc (show ([] : List UInt8) = nums 4 (ns.take 0) from rfl) ?_
  refine Sg 0 E3 <| Zl hk7 <| Run.block <| Run.loop2 (fun (i : Nat) (vo : Value) => i ≤ ns.length) (fun i vo => .cons 0 (.slice a2 ns.length c2) (.cons 3 (vo) (.cons 4 (.int .i64 i) (.nil)))) (fun i vo => [slA 5 1 bytE vo (nums 4 (ns.take i))]) (fun i vo => ns.length - i) (0) (.slice none 0 0) (Nat.zero_le _) ?_ ?_
  ·exact fun _ j => J.envJ (J.keep Tk1 j) ⟨rfl, rfl, rfl, trivial⟩
  rintro i vo hile kl8 hl8
  refine Run.seq fun _ hk9 => Zs fun _ hk10 => Mv 0 E3 <| Mv 1 E3 <| Qp 2 E2 (QP.len rfl rfl rfl Tryz.underlying43) <| Qp 3 E2 (Zb E3) <| J.caseD (fun c11 => ?_) (fun c11 => ?_)
  ·refine Zl hk10 <| Zt <| Run.skip <| hk9 _ _ <| Run.seq fun _ hk11 => Run.block <| Run.region ?_
   obtain ⟨n, hi⟩ : ∃ n, ns[i]? = some n := ⟨_, List.getElem?_eq_getElem (by omega)⟩
   obtain ⟨q1, o1, rfl, hs1⟩ := hb.get (by omega)
   have hnr := hn n (List.mem_of_getElem? hi)
   obtain ⟨m, rfl⟩ := Int.eq_ofNat_of_zero_le hnr.1
   refine Mv 0 E3 <| Mv 1 E3 <| Mv 2 E3 <| Qp 3 E2 (QP.indexAddr rfl rfl rfl Tryz.underlying43 z121 Og Og) <| Qq 4 E2 (QR.loadSl1 (ev := fun n => Value.int .u32 n) rfl rfl g121 (hs1 _) hi) ?_
   refine Ef 5 E2 (EF.call rfl ce49 rfl Tk1 (fun F' hle hr => rput_spec F' (xs := nums 4 (ns.take i)) m 4 (by decide) (by rw [nums_len, List.length_take]; omega))) ?_
   rintro v19 _ ⟨_, rfl, rfl⟩
   refine J.app <| Sg 6 E3 <| Zl hk11 <| Run.region <| Mv 0 E3 <| Qp 1 E2 (QP.add64 rfl rfl rfl Og Og) <| Sg 2 E3 <| Sq.nil ?_
   rw [show (nums 4 (ns.take i)) ++ beF m 4 = nums 4 (ns.take (i + 1)) by rw [nums_take hi]; rfl]
   exact J.envJ (J.keep Tk1 (hl8 (i + 1) (v19) (by omega) (by omega))) ⟨rfl, rfl, rfl, trivial⟩
  ·refine Zl hk10 <| Zf <| Run.exit rfl <| hk6 _ _ <| Run.seq fun _ hk12 => Run.region ?_
   rw [List.take_of_length_le (by omega)]
   refine Sq.slCase (v := vo) (xs := (nums 4 ns)) Rc (fun a20 c20 hv20 hh20 => ?_)
   subst hv20
   refine Mv 0 E3 <| Qp 1 E2 (QP.build (l := Raw.enc ⟨((3 : UInt8).toNat : Int), ⟨a20, (nums 4 ns).length, c20⟩⟩) rfl st81 rfl (by exact ⟨rfl, ⟨rfl, trivial⟩⟩) rfl) <| Ef 2 E2 (EF.call rfl ce32 rfl Tk1 (fun F' hle hr => Spec.lendSl (e := 5) (z := 1) (enc := bytE) (xs := (nums 4 ns)) (fun _ => rfl) (fun F2 _ hb2 => rjoin_spec F2 3 (by decide) (by rw [nums_len]; omega) hb2))) ?_
   rintro v22 _ ⟨_, ⟨_, rfl, rfl⟩, rfl⟩
   refine J.app <| Sg 3 E3 <| Zl hk12 <| Run.ret ?_
   have hT : timesF ns = rawF 3 (nums 4 ns) := by unfold timesF; rw [if_neg (show ¬ ns.length = 0 by have h9 : ¬ (ns.length : Int) = 0 := c7; omega)]
   rw [hT]
   exact J.ends (res_tmp rfl rfl) Tk1 rfl
end Slb
