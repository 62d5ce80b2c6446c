/- R60: a part of the proof that a law of this package holds for every input; no condition. -/
import Derived.Test.YtmolpkkkndopcaaGreatM2
import Derived.Test.YtmolpkkkndopcaaGreatR40
import Derived.Test.YtmolpkkkndopcaaGreatR16
namespace Slb
open Go Go.Proofs
set_option maxRecDepth 20000
theorem wrap_u64 {n : Int} (h0 : 0 ≤ n) (h1 : n < 18446744073709551616) : IntKind.u64.wrap n = n := by
  unfold IntKind.wrap
  simp only [show (IntKind.u64.bits : Nat) = 64 from rfl, show IntKind.u64.signed = false from rfl]
  simp; omega

theorem rput_spec (F : Fr) {u : Value} {xs : List UInt8} (n k : Nat) (hk : k ≤ 4) (hx : xs.length ≤ 1000000)  : Spec Tryz.prog 49 #[u, .int .u32 (n : Int), .int .i64 (k : Int)] [slA 5 1 bytE u xs] F (fun v S => S = [slA 5 1 bytE v (xs ++ beF n k)]) := by
 refine Spec.intro (N := 24) (args := [u, .int .u32 (n : Int), .int .i64 (k : Int)]) Tryz.func49 rfl rfl (by simp) ?_
 refine Zs fun _ hk1 => Sg 0 E3 <| Zl hk1 <| Run.seq fun _ hk2 => Zs fun _ hk3 => Mv 0 E3 <| Qp 1 E2 (QP.sub64 rfl rfl rfl Og Og) <| Sg 2 E3 <| Zl hk3 <| Run.block <| Run.loop3 (fun (w0 : Nat) (vo : Value) (ys : List UInt8) => w0 ≤ 4 ∧ ys.length + w0 ≤ xs.length + k ∧ xs ++ beF n k = ys ++ beF n w0) (fun w0 vo ys => .cons 0 (vo) (.cons 1 (.int .u32 (n : Int)) (.cons 7 (.int .i64 ((w0 : Int) - 1)) (.nil)))) (fun w0 vo ys => [slA 5 1 bytE vo ys]) (fun w0 vo ys => w0) (k) (u) (xs) (⟨hk, by omega, rfl⟩) ?_ ?_
 ·exact fun _ j => J.envJ (J.keep Tk1 j) ⟨rfl, rfl, rfl, trivial⟩
 rintro w0 vo ys ⟨hw4, hyl, hbe⟩ kl4 hl4
 refine Run.seq fun _ hk5 => Zs fun _ hk6 => Mv 0 E3 <| Qp 1 E2 (QP.geq rfl rfl rfl) <| J.caseD (fun c11 => ?_) (fun c11 => ?_)
 ·refine Zl hk6 <| Zt <| Run.skip <| hk5 _ _ <| Run.seq fun _ hk7 => Run.block <| Run.region ?_
  replace c11 : ((w0 : Nat) : Int) - 1 ≥ 0 := c11
  obtain ⟨w, rfl⟩ : ∃ w, w0 = w + 1 := ⟨w0 - 1, by omega⟩
  rw [show (((w + 1 : Nat) : Int) - 1) = (w : Int) by omega]
  refine Mv 0 E3 <| Mv 1 E3 <| Mv 2 E3 <| Qp 3 E2 (QP.conv rfl rfl Tryz.underlying3 Tryz.underlying120) ?_
  rw [wrap_u64 (n := (w : Int)) (by omega) (by omega)]
  refine Qp 4 E2 (QP.mul rfl rfl rfl) ?_
  rw [wrap_u64 (n := 8 * (w : Int)) (by omega) (by omega)]
  refine Qp 5 E2 (QP.shr32 rfl rfl rfl (by omega) (by omega)) ?_
  rw [shr_be]
  refine Qp 6 E2 (QP.conv rfl rfl Tryz.underlying121 Tryz.underlying5) ?_
  rw [wrap8_nat]
  refine Ef 7 E2 (EF.buildSliceS rfl Tryz.underlying46 z5 zero5 rfl (by decide) rfl rfl rfl rfl) ?_
  rintro _ _ ⟨b21, rfl, rfl⟩
  refine Ef 8 E2 (EF.append1 (xs := ys) (s := UInt8.ofNat (n / 256 ^ w)) (enc := bytE) el5 (fun _ => rfl) (fun _ => cell_one rfl) rfl rfl rfl Tryz.underlying46 Tryz.underlying46 rfl rfl Rc Rc (by first | omega | (simp only [List.length_append]; omega))) ?_
  rintro sl22 _ rfl
  exact Sg 9 E3 <| Zl hk7 <| Run.region <| Mv 0 E3 <| Qp 1 E2 (QP.sub64 rfl rfl rfl Og Og) <| Sg 2 E3 <| Sq.nil <| J.envJ (J.keep Tk1 (hl4 (w) (sl22) ((ys ++ [UInt8.ofNat (n / 256 ^ w)])) (⟨by omega, by simp only [List.length_append, List.length_cons, List.length_nil]; omega, by rw [hbe, beF, List.append_assoc]; rfl⟩) (by omega))) ⟨rfl, rfl, rfl, trivial⟩
 ·refine Zl hk6 <| Zf <| Run.exit rfl <| hk2 _ _ <| Zs fun _ hk8 => Mv 0 E3 <| Sg 1 E3 <| Zl hk8 <| Run.ret ?_
  obtain rfl : w0 = 0 := by have h9 : ¬ ((w0 : Nat) : Int) - 1 ≥ 0 := c11; omega
  rw [hbe, show beF n 0 = [] from rfl, List.append_nil]
  exact J.ends (res_tmp rfl rfl) Tk1 rfl

theorem rtwo_spec (F : Fr) {u : Value} {xs : List UInt8} {ns : List Int} {a2 : Option Addr} {c2 : Nat} (hb : ArgSl F a2 1 u16E ns) (hn : ∀ n ∈ ns, 0 ≤ n ∧ n < 65536) (hl : xs.length + ns.length * 2 ≤ 1000000)  : Spec Tryz.prog 28 #[u, .slice a2 ns.length c2] [slA 5 1 bytE u xs] F (fun v S => S = [slA 5 1 bytE v (xs ++ nums 2 ns)]) := by
 have h00 : xs = xs ++ nums 2 (ns.take 0) := by simp [nums]
 have h000 : ns.length ≤ 1000000 := by omega
 refine Spec.intro (N := 20) (args := [u, .slice a2 ns.length c2]) Tryz.func28 rfl rfl (by simp) ?_
 refine Zs fun _ hk1 => Sg 0 E3 <| Zl hk1 <| Run.seq fun _ hk2 => Zs fun _ hk3 => J.slEq (v := u) Rc h00 ?_
 refine Sg 0 E3 <| Zl hk3 <| Run.block <| Run.loop2 (fun (i : Nat) (vo : Value) => i ≤ ns.length) (fun i vo => .cons 0 (vo) (.cons 1 (.slice a2 ns.length c2) (.cons 5 (.int .i64 i) (.nil)))) (fun i vo => [slA 5 1 bytE vo (xs ++ nums 2 (ns.take i))]) (fun i vo => ns.length - i) (0) (u) (Nat.zero_le _) ?_ ?_
 ·exact fun _ j => J.envJ (J.keep Tk1 j) ⟨rfl, rfl, rfl, trivial⟩
 rintro i vo hile kl4 hl4
 refine Run.seq fun _ hk5 => Zs fun _ hk6 => Mv 0 E3 <| Mv 1 E3 <| Qp 2 E2 (QP.len rfl rfl rfl Tryz.underlying122) <| Qp 3 E2 (Zb E3) <| J.caseD (fun c9 => ?_) (fun c9 => ?_)
 ·refine Zl hk6 <| Zt <| Run.skip <| hk5 _ _ <| Run.seq fun _ hk7 => Run.block <| Run.region ?_
  obtain ⟨n, hi⟩ : ∃ n, ns[i]? = some n := ⟨_, List.getElem?_eq_getElem (by omega)⟩
  obtain ⟨q1, o1, rfl, hs1⟩ := hb.get (by omega)
  have hnr := hn n (List.mem_of_getElem? hi)
  obtain ⟨m, rfl⟩ := Int.eq_ofNat_of_zero_le hnr.1
  refine Mv 0 E3 <| Mv 1 E3 <| Mv 2 E3 <| Qp 3 E2 (QP.indexAddr rfl rfl rfl Tryz.underlying122 z36 Og Og) <| Qq 4 E2 (QR.loadSl1 (ev := fun n => Value.int .u16 n) rfl rfl g36 (hs1 _) hi) ?_
  refine Qp 5 E2 (QP.conv rfl rfl Tryz.underlying36 Tryz.underlying121) ?_
  rw [wrap_u32 (n := ((m : Nat) : Int)) (by omega) (by omega)]
  refine Ef 6 E2 (EF.call rfl ce49 rfl Tk1 (fun F' hle hr => rput_spec F' (xs := xs ++ nums 2 (ns.take i)) m 2 (by decide) (by rw [List.length_append, nums_len, List.length_take]; have : min i ns.length * 2 ≤ ns.length * 2 := Nat.mul_le_mul_right _ (Nat.min_le_right _ _); omega))) ?_
  rintro v18 _ ⟨_, rfl, rfl⟩
  refine J.app <| Sg 7 E3 <| Zl hk7 <| Run.region <| Mv 0 E3 <| Qp 1 E2 (QP.add64 rfl rfl rfl Og Og) <| Sg 2 E3 <| Sq.nil ?_
  rw [show (xs ++ nums 2 (ns.take i)) ++ beF m 2 = xs ++ nums 2 (ns.take (i + 1)) by rw [nums_take hi, List.append_assoc]; rfl]
  exact J.envJ (J.keep Tk1 (hl4 (i + 1) (v18) (by omega) (by omega))) ⟨rfl, rfl, rfl, trivial⟩
 ·refine Zl hk6 <| Zf <| Run.exit rfl <| hk2 _ _ <| Zs fun _ hk8 => Mv 0 E3 <| Sg 1 E3 <| Zl hk8 <| Run.ret ?_
  rw [List.take_of_length_le (by omega)]
  exact J.ends (res_tmp rfl rfl) Tk1 rfl

theorem rpacket_spec (F : Fr) {bs : List UInt8} {a1 : Option Addr} {c1 : Nat} (ha : ArgSl F a1 1 bytE bs) (hl : bs.length ≤ 65535)  : Spec Tryz.prog 23 #[.slice a1 bs.length c1] [] F (fun v S => ∃ va, v = .tuple #[va, .int .i64 0] ∧ S = [slA 5 1 bytE va (wrapL bs)]) := by
 refine Spec.intro (N := 17) (args := [.slice a1 bs.length c1]) Tryz.func23 rfl rfl (by simp) ?_
 refine Zs fun _ hk1 => Sg 0 E3 <| Sg 1 E3 <| Zl hk1 <| Run.seq fun _ hk2 => Zs fun _ hk3 => Mv 0 E3 <| Qp 1 E2 (QP.len rfl rfl rfl Tryz.underlying46) <| Qp 2 E2 (QP.gtr rfl rfl rfl) <| J.decF (by omega) ?_
 refine Zl hk3 <| Zf <| Run.skip <| hk2 _ _ <| Zs fun _ hk4 => Mv 0 E3 <| Qp 1 E2 (QP.len rfl rfl rfl Tryz.underlying46) <| Qp 2 E2 (QP.shr64 rfl rfl rfl (by decide) (by decide)) ?_
 rw [show ((bs.length : Nat) : Int) / 2 ^ (8 : Int).toNat = ((bs.length / 256 : Nat) : Int) by rfl]
 refine Qp 3 E2 (QP.conv rfl rfl Tryz.underlying3 Tryz.underlying5) ?_
 rw [wrap8_nat]
 refine Mv 4 E3 <| Qp 5 E2 (QP.len rfl rfl rfl Tryz.underlying46) <| Qp 6 E2 (QP.conv rfl rfl Tryz.underlying3 Tryz.underlying5) ?_
 rw [wrap8_nat]
 refine Ef 7 E2 (EF.buildSliceS rfl Tryz.underlying46 z5 zero5 rfl (by decide) rfl rfl rfl rfl) ?_
 rintro _ _ ⟨b14, rfl, rfl⟩
 refine J.close (A := slA 5 1 bytE (.slice (some ⟨b14, 0, none⟩) 4 4) [42, 2, UInt8.ofNat (bs.length / 256), UInt8.ofNat bs.length]) (m := [blk b14 [.int .u8 42, .int .u8 2, .int .u8 ((UInt8.ofNat (bs.length / 256)).toNat : Int), .int .u8 ((UInt8.ofNat bs.length).toNat : Int)] 5]) Tk1 (fun _ q => slA_blk (xs := [42, 2, UInt8.ofNat (bs.length / 256), UInt8.ofNat bs.length]) rfl q) ?_
 refine Mv 8 E3 <| Ef 9 E2 (EF.appendArg (xs := [42, 2, UInt8.ofNat (bs.length / 256), UInt8.ofNat bs.length]) (ys := bs) el5 (fun _ => rfl) (fun _ => cell_one rfl) rfl rfl rfl Tryz.underlying46 Tryz.underlying46 rfl rfl Rc ha (by simp; omega)) ?_
 rintro sl16 _ rfl
 exact Sg 10 E3 <| Sg 11 E3 <| Zl hk4 <| Run.ret <| J.ends (res_tmp2 rfl rfl rfl) Tk1 ⟨_, rfl, rfl⟩

theorem rae_spec (F : Fr) (a : Bs 16) : Spec Tryz.prog 83 #[.agg (Bs.enc a).toArray] [] F (fun v S => v = .int .i64 (if familyB a = 4 then 1 else 2) ∧ S = []) := by
 refine Spec.intro (N := 6) (args := [.agg (Bs.enc a).toArray]) Tryz.func83 rfl rfl (by simp) ?_
 refine Zs fun _ hk1 => Ef 0 E2 (EF.boxA rfl rfl) ?_
 rintro _ _ ⟨b1, rfl, rfl⟩
 refine Sg 1 E3 <| Zl hk1 <| Run.seq fun _ hk2 => Zs fun _ hk3 => Qq 0 E2 (Z0 E2 g23 (Bs.sub _)) ?_
 refine Ef 1 E2 (EF.call rfl ce44 rfl Takes.nil (fun F' hle hr => rfamily_spec F' a)) ?_
 rintro _ _ ⟨_, ⟨rfl, rfl⟩, rfl⟩
 refine J.app <| Qp 2 E2 (Ze E3) <| J.caseD (fun c5 => ?_) (fun c5 => ?_)
 ·exact Zl hk3 <| Zt <| Zs fun _ hk4 => Sg 0 E3 <| Zl hk4 <| Run.ret <| J.ends (res_tmp rfl rfl) Takes.nil ⟨congrArg (Value.int .i64) (by rw [if_pos c5]), rfl⟩
 ·exact Zl hk3 <| Zf <| Run.skip <| hk2 _ _ <| Zs fun _ hk5 => Sg 0 E3 <| Zl hk5 <| Run.ret <| J.ends (res_tmp rfl rfl) Takes.nil ⟨congrArg (Value.int .i64) (by rw [if_neg c5]), rfl⟩
end Slb
