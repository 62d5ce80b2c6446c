/- J30: a part of the proof that a law of this package holds for every input; no condition. -/
import Derived.Test.YtfokodhfjdhdaaaGreatM2
import Derived.Test.YtfokodhfjdhdaaaGreatJ28
namespace Slb
open Go Go.Proofs
set_option maxRecDepth 20000
/-! ### Bytes laid -/
def beF (n : Nat) : Nat → List UInt8
 | 0 => []
 | w + 1 => UInt8.ofNat (n / 256 ^ w) :: beF n w
theorem beF_len (n : Nat) : ∀ w, (beF n w).length = w
 | 0 => rfl
 | w + 1 => by rw [beF, List.length_cons, beF_len n w]
abbrev u16E (n : Int) : List Value := [.int .u16 n]
structure SlX where
 a : Option Addr
 n : Nat
 c : Nat
 l : List UInt8
 h : n = l.length
@[reducible] def slE (y : SlX) : List Value := [.slice y.a y.n y.c]
def catL (ls : List SlX) : List UInt8 := ls.flatMap (·.l)
theorem catL_take {ls : List SlX} {i : Nat} {y : SlX} (h : ls[i]? = some y) : catL (ls.take (i + 1)) = catL (ls.take i) ++ y.l := by
 unfold catL
 rw [take_succ_get h, List.flatMap_append]
 simp
theorem catL_le {ls : List SlX} (i : Nat) : (catL (ls.take i)).length ≤ (catL ls).length := by
 have h : catL ls = catL (ls.take i) ++ catL (ls.drop i) := by unfold catL; rw [← List.flatMap_append, List.take_append_drop]
 rw [h, List.length_append]; omega
def nums (k : Nat) (ns : List Int) : List UInt8 := ns.flatMap fun n => beF n.toNat k
theorem nums_take {k : Nat} {ns : List Int} {i : Nat} {n : Int} (h : ns[i]? = some n) : nums k (ns.take (i + 1)) = nums k (ns.take i) ++ beF n.toNat k := by
 unfold nums
 rw [take_succ_get h, List.flatMap_append]
 simp
theorem nums_len (k : Nat) (ns : List Int) : (nums k ns).length = ns.length * k := by
 unfold nums
 induction ns with
 | nil => simp
 | cons n ns ih => rw [List.flatMap_cons, List.length_append, ih, beF_len, List.length_cons, Nat.add_one_mul]; omega
theorem wrap8_nat (k : Nat) : IntKind.u8.wrap (k : Int) = ((UInt8.ofNat k).toNat : Int) := by
 unfold IntKind.wrap
 simp only [show (IntKind.u8.bits : Nat) = 8 from rfl, show IntKind.u8.signed = false from rfl]
 simp
section
variable {P : Program} {N : Nat} {G : Env} {S : List HProp} {F : Fr} {o : Oper} {t t' : TypeId} {x y : Operand}
theorem QP.shr32 {yk : IntKind} {m n : Int} (ho : o.op = .binOp .shr t x y t') (hx : opv G x = some (.int .u32 m)) (hy : opv G y = some (.int yk n)) (h0 : 0 ≤ n) (h1 : n ≤ 32) : QP P N G S F o (.int .u32 (m / 2 ^ n.toNat)) := fun ac w s w' => by
 unfold execOp; simp [ho, s.eval hx, s.eval hy, eqGuard_at_int, binOp, shift_shr_u32 (h₀ := h0) (h₁ := h1)]
end
theorem shr_be {n w : Nat} : ((n : Int) / 2 ^ ((8 * (w : Int)).toNat)) = ((n / 256 ^ w : Nat) : Int) := by
 rw [show (8 * (w : Int)).toNat = 8 * w by omega, show (256 : Nat) ^ w = 2 ^ (8 * w) by rw [Nat.pow_mul]]
 norm_cast

theorem put_spec (F : Fr) {u : Value} {xs : List UInt8} (n k : Nat) (hk : k ≤ 4) (hx : xs.length ≤ 1000000)  : Spec Tryz.prog 142 #[u, .int .u32 (n : Int), .int .i64 (k : Int)] [slA 5 1 bytE u xs] F (fun v S => S = [slA 5 1 bytE v (xs ++ beF n k)]) := by
 refine Spec.intro (N := 20) (args := [u, .int .u32 (n : Int), .int .i64 (k : Int)]) Tryz.func142 rfl rfl (by simp) ?_
 refine Zs fun _ hk1 => Sg 0 E3 <| Zl hk1 <| Run.seq fun _ hk2 => Run.block <| Run.loop3 (fun (w0 : Nat) (vo : Value) (ys : List UInt8) => w0 ≤ 4 ∧ ys.length + w0 ≤ xs.length + k ∧ xs ++ beF n k = ys ++ beF n w0) (fun w0 vo ys => .cons 0 (vo) (.cons 1 (.int .u32 (n : Int)) (.cons 2 (.int .i64 (w0 : Int)) (.nil)))) (fun w0 vo ys => [slA 5 1 bytE vo ys]) (fun w0 vo ys => w0) (k) (u) (xs) (⟨hk, by omega, rfl⟩) ?_ ?_
 ·exact fun _ j => J.envJ (J.keep Tk1 j) ⟨rfl, rfl, rfl, trivial⟩
 rintro w0 vo ys ⟨hw4, hyl, hbe⟩ kl3 hl3
 refine Run.seq fun _ hk4 => Zs fun _ hk5 => Mv 0 E3 <| Qp 1 E2 (QP.gtr rfl rfl rfl) <| J.caseD (fun c8 => ?_) (fun c8 => ?_)
 ·refine Zl hk5 <| Zt <| Run.skip <| hk4 _ _ <| Run.block <| Run.seq fun _ hk6 => Run.region ?_
  replace c8 : ((w0 : Nat) : Int) > 0 := c8
  obtain ⟨w, rfl⟩ : ∃ w, w0 = w + 1 := ⟨w0 - 1, by omega⟩
  refine Mv 0 E3 <| Qp 1 E2 (QP.sub64 rfl rfl rfl Og Og) ?_
  rw [show (((w + 1 : Nat) : Int) - 1) = (w : Int) by omega]
  refine Sg 2 E3 <| Zl hk6 <| Run.region <| Mv 0 E3 <| Mv 1 E3 <| Mv 2 E3 <| Qp 3 E2 (QP.mul rfl rfl rfl) ?_
  rw [wrap_i64 (n := 8 * (w : Int)) (by omega) (by omega)]
  refine Qp 4 E2 (QP.shr32 rfl rfl rfl (by omega) (by omega)) ?_
  rw [shr_be]
  refine Qp 5 E2 (QP.conv rfl rfl Tryz.underlying101 Tryz.underlying5) ?_
  rw [wrap8_nat]
  refine Ef 6 E2 (EF.buildSliceS rfl Tryz.underlying75 z5 zero5 rfl (by decide) rfl rfl rfl rfl) ?_
  rintro _ _ ⟨b17, rfl, rfl⟩
  refine Ef 7 E2 (EF.append1 (xs := ys) (s := UInt8.ofNat (n / 256 ^ w)) (enc := bytE) el5 (fun _ => rfl) (fun _ => cell_one rfl) rfl rfl rfl Tryz.underlying75 Tryz.underlying75 rfl rfl Rc Rc (by first | omega | (simp only [List.length_append]; omega))) ?_
  rintro sl18 _ rfl
  exact Sg 8 E3 <| Sq.nil <| J.envJ (J.keep Tk1 (hl3 (w) (sl18) ((ys ++ [UInt8.ofNat (n / 256 ^ w)])) (⟨by omega, by simp only [List.length_append, List.length_cons, List.length_nil]; omega, by rw [hbe, beF, List.append_assoc]; rfl⟩) (by omega))) ⟨rfl, rfl, rfl, trivial⟩
 ·refine Zl hk5 <| Zf <| Run.exit rfl <| hk2 _ _ <| Zs fun _ hk7 => Mv 0 E3 <| Sg 1 E3 <| Zl hk7 <| Run.ret ?_
  obtain rfl : w0 = 0 := by have h9 : ¬ ((w0 : Nat) : Int) > 0 := c8; omega
  rw [hbe, show beF n 0 = [] from rfl, List.append_nil]
  exact J.ends (res_tmp rfl rfl) Tk1 rfl

theorem put8_spec (F : Fr) {u : Value} {xs ys : List UInt8} {a2 : Option Addr} {c2 : Nat} (hb : ArgSl F a2 1 bytE ys) (hl : xs.length + ys.length ≤ 4294967296)  : Spec Tryz.prog 103 #[u, .slice a2 ys.length c2] [slA 5 1 bytE u xs] F (fun v S => S = [slA 5 1 bytE v (xs ++ ys)]) := by
 refine Spec.intro (N := 8) (args := [u, .slice a2 ys.length c2]) Tryz.func103 rfl rfl (by simp) ?_
 refine Zs fun _ hk1 => Sg 0 E3 <| Zl hk1 <| Zs fun _ hk2 => Mv 0 E3 <| Mv 1 E3 <| Ef 2 E2 (EF.appendArg (xs := xs) (ys := ys) el5 (fun _ => rfl) (fun _ => cell_one rfl) rfl rfl rfl Tryz.underlying75 Tryz.underlying75 rfl rfl Rc hb hl) ?_
 rintro sl7 _ rfl
 exact Sg 3 E3 <| Zl hk2 <| Run.ret <| J.ends (res_tmp rfl rfl) Tk1 rfl

theorem put16_spec (F : Fr) {u : Value} {xs : List UInt8} {ns : List Int} {a2 : Option Addr} {c2 : Nat} (hb : ArgSl F a2 1 u16E ns) (hn : ∀ n ∈ ns, 0 ≤ n ∧ n < 65536) (hl : xs.length + ns.length * 2 ≤ 1000000)  : Spec Tryz.prog 102 #[u, .slice a2 ns.length c2] [slA 5 1 bytE u xs] F (fun v S => S = [slA 5 1 bytE v (xs ++ nums 2 ns)]) := by
 have h00 : xs = xs ++ nums 2 (ns.take 0) := by simp [nums]
 refine Spec.intro (N := 19) (args := [u, .slice a2 ns.length c2]) Tryz.func102 rfl rfl (by simp) ?_
 refine Zs fun _ hk1 => Sg 0 E3 <| Zl hk1 <| Run.seq fun _ hk2 => Zs fun _ hk3 => J.slEq (v := u) Rc h00 ?_
 refine Mv 0 E3 <| Qp 1 E2 (QP.len rfl rfl rfl Tryz.underlying246) <| Mv 2 E3 <| Zl hk3 <| Run.block <| Run.loop2 (fun (i : Nat) (vo : Value) => i ≤ ns.length) (fun i vo => .cons 0 (vo) (.cons 7 (.slice a2 ns.length c2) (.cons 8 (.int .i64 ns.length) (.cons 9 (.int .i64 i) (.nil))))) (fun i vo => [slA 5 1 bytE vo (xs ++ nums 2 (ns.take i))]) (fun i vo => ns.length - i) (0) (u) (Nat.zero_le _) ?_ ?_
 ·exact fun _ j => J.envJ (J.keep Tk1 j) ⟨rfl, rfl, rfl, rfl, trivial⟩
 rintro i vo hile kl4 hl4
 refine Zs fun _ hk5 => Qp 0 E2 (Zb E3) <| J.caseD (fun c10 => ?_) (fun c10 => ?_)
 ·refine Zl hk5 <| Run.seq fun _ hk6 => Zt <| Run.skip <| hk6 _ _ <| Run.seq fun _ hk7 => Run.block <| Run.seq fun _ hk8 => Run.region ?_
  obtain ⟨n, hi⟩ : ∃ n, ns[i]? = some n := ⟨_, GE (by omega)⟩
  obtain ⟨q1, o1, rfl, hs1⟩ := hb.get (by omega)
  have hnr := hn n (List.mem_of_getElem? hi)
  obtain ⟨m, rfl⟩ := Int.eq_ofNat_of_zero_le hnr.1
  refine Qp 0 E2 (QP.indexAddr rfl rfl rfl Tryz.underlying246 z40 Og Og) <| Qq 1 E2 (QR.loadSl1 (ev := fun n => Value.int .u16 n) rfl rfl g40 (hs1 _) hi) ?_
  refine Sg 2 E3 <| Zl hk8 <| Run.region <| Mv 0 E3 <| Mv 1 E3 <| Qp 2 E2 (QP.conv rfl rfl Tryz.underlying40 Tryz.underlying101) ?_
  rw [wrap_u32 (n := ((m : Nat) : Int)) (by omega) (by omega)]
  refine Ef 3 E2 (Zc E2 ce142 Tk1 (fun F' hle hr => put_spec F' (xs := xs ++ nums 2 (ns.take i)) m 2 (by decide) (by rw [List.length_append, nums_len, List.length_take]; have : min i ns.length * 2 ≤ ns.length * 2 := Nat.mul_le_mul_right _ (Nat.min_le_right _ _); omega))) ?_
  rintro v16 _ ⟨_, rfl, rfl⟩
  refine J.app <| Sg 4 E3 <| Zl hk7 <| Run.region <| Qp 0 E2 (QP.add64 rfl rfl rfl Og Og) <| Mv 1 E3 <| Sq.nil ?_
  rw [show (xs ++ nums 2 (ns.take i)) ++ beF m 2 = xs ++ nums 2 (ns.take (i + 1)) by rw [nums_take hi, List.append_assoc]; rfl]
  exact J.envJ (J.keep Tk1 (hl4 (i + 1) (v16) (by omega) (by omega))) ⟨rfl, rfl, rfl, rfl, trivial⟩
 ·refine Zl hk5 <| Run.seq fun _ hk9 => Zf <| Run.exit rfl <| hk2 _ _ <| Zs fun _ hk10 => Mv 0 E3 <| Sg 1 E3 <| Zl hk10 <| Run.ret ?_
  rw [List.take_of_length_le (by omega)]
  exact J.ends (res_tmp rfl rfl) Tk1 rfl

theorem put32_spec (F : Fr) {u : Value} {xs : List UInt8} {ns : List Int} {a2 : Option Addr} {c2 : Nat} (hb : ArgSl F a2 1 u32E ns) (hn : ∀ n ∈ ns, 0 ≤ n ∧ n < 4294967296) (hl : xs.length + ns.length * 4 ≤ 1000000)  : Spec Tryz.prog 144 #[u, .slice a2 ns.length c2] [slA 5 1 bytE u xs] F (fun v S => S = [slA 5 1 bytE v (xs ++ nums 4 ns)]) := by
 have h00 : xs = xs ++ nums 4 (ns.take 0) := by simp [nums]
 refine Spec.intro (N := 18) (args := [u, .slice a2 ns.length c2]) Tryz.func144 rfl rfl (by simp) ?_
 refine Zs fun _ hk1 => Sg 0 E3 <| Zl hk1 <| Run.seq fun _ hk2 => Zs fun _ hk3 => J.slEq (v := u) Rc h00 ?_
 refine Mv 0 E3 <| Qp 1 E2 (QP.len rfl rfl rfl Tryz.underlying47) <| Mv 2 E3 <| Zl hk3 <| Run.block <| Run.loop2 (fun (i : Nat) (vo : Value) => i ≤ ns.length) (fun i vo => .cons 0 (vo) (.cons 7 (.slice a2 ns.length c2) (.cons 8 (.int .i64 ns.length) (.cons 9 (.int .i64 i) (.nil))))) (fun i vo => [slA 5 1 bytE vo (xs ++ nums 4 (ns.take i))]) (fun i vo => ns.length - i) (0) (u) (Nat.zero_le _) ?_ ?_
 ·exact fun _ j => J.envJ (J.keep Tk1 j) ⟨rfl, rfl, rfl, rfl, trivial⟩
 rintro i vo hile kl4 hl4
 refine Zs fun _ hk5 => Qp 0 E2 (Zb E3) <| J.caseD (fun c10 => ?_) (fun c10 => ?_)
 ·refine Zl hk5 <| Run.seq fun _ hk6 => Zt <| Run.skip <| hk6 _ _ <| Run.seq fun _ hk7 => Run.block <| Run.seq fun _ hk8 => Run.region ?_
  obtain ⟨n, hi⟩ : ∃ n, ns[i]? = some n := ⟨_, GE (by omega)⟩
  obtain ⟨q1, o1, rfl, hs1⟩ := hb.get (by omega)
  have hnr := hn n (List.mem_of_getElem? hi)
  obtain ⟨m, rfl⟩ := Int.eq_ofNat_of_zero_le hnr.1
  refine Qp 0 E2 (QP.indexAddr rfl rfl rfl Tryz.underlying47 z101 Og Og) <| Qq 1 E2 (QR.loadSl1 (ev := fun n => Value.int .u32 n) rfl rfl g101 (hs1 _) hi) ?_
  refine Sg 2 E3 <| Zl hk8 <| Run.region <| Mv 0 E3 <| Mv 1 E3 <| Ef 2 E2 (Zc E2 ce142 Tk1 (fun F' hle hr => put_spec F' (xs := xs ++ nums 4 (ns.take i)) m 4 (by decide) (by rw [List.length_append, nums_len, List.length_take]; have : min i ns.length * 4 ≤ ns.length * 4 := Nat.mul_le_mul_right _ (Nat.min_le_right _ _); omega))) ?_
  rintro v15 _ ⟨_, rfl, rfl⟩
  refine J.app <| Sg 3 E3 <| Zl hk7 <| Run.region <| Qp 0 E2 (QP.add64 rfl rfl rfl Og Og) <| Mv 1 E3 <| Sq.nil ?_
  rw [show (xs ++ nums 4 (ns.take i)) ++ beF m 4 = xs ++ nums 4 (ns.take (i + 1)) by rw [nums_take hi, List.append_assoc]; rfl]
  exact J.envJ (J.keep Tk1 (hl4 (i + 1) (v15) (by omega) (by omega))) ⟨rfl, rfl, rfl, rfl, trivial⟩
 ·refine Zl hk5 <| Run.seq fun _ hk9 => Zf <| Run.exit rfl <| hk2 _ _ <| Zs fun _ hk10 => Mv 0 E3 <| Sg 1 E3 <| Zl hk10 <| Run.ret ?_
  rw [List.take_of_length_le (by omega)]
  exact J.ends (res_tmp rfl rfl) Tk1 rfl

theorem putbytes_spec (F : Fr) {u : Value} {xs : List UInt8} {ls : List SlX} {a2 : Option Addr} {c2 : Nat} (hb : ArgSl F a2 1 slE ls) (hy : ∀ y ∈ ls, ArgSl F y.a 1 bytE y.l) (hl : xs.length + (catL ls).length ≤ 4294967296) (hn : ls.length ≤ 1000000)  : Spec Tryz.prog 101 #[u, .slice a2 ls.length c2] [slA 5 1 bytE u xs] F (fun v S => S = [slA 5 1 bytE v (xs ++ catL ls)]) := by
 have h00 : xs = xs ++ catL (ls.take 0) := by simp [catL]
 refine Spec.intro (N := 18) (args := [u, .slice a2 ls.length c2]) Tryz.func101 rfl rfl (by simp) ?_
 refine Zs fun _ hk1 => Sg 0 E3 <| Zl hk1 <| Run.seq fun _ hk2 => Zs fun _ hk3 => J.slEq (v := u) Rc h00 ?_
 refine Mv 0 E3 <| Qp 1 E2 (QP.len rfl rfl rfl Tryz.underlying108) <| Mv 2 E3 <| Zl hk3 <| Run.block <| Run.loop2 (fun (i : Nat) (vo : Value) => i ≤ ls.length) (fun i vo => .cons 0 (vo) (.cons 7 (.slice a2 ls.length c2) (.cons 8 (.int .i64 ls.length) (.cons 9 (.int .i64 i) (.nil))))) (fun i vo => [slA 5 1 bytE vo (xs ++ catL (ls.take i))]) (fun i vo => ls.length - i) (0) (u) (Nat.zero_le _) ?_ ?_
 ·exact fun _ j => J.envJ (J.keep Tk1 j) ⟨rfl, rfl, rfl, rfl, trivial⟩
 rintro i vo hile kl4 hl4
 refine Zs fun _ hk5 => Qp 0 E2 (Zb E3) <| J.caseD (fun c10 => ?_) (fun c10 => ?_)
 ·refine Zl hk5 <| Run.seq fun _ hk6 => Zt <| Run.skip <| hk6 _ _ <| Run.seq fun _ hk7 => Run.block <| Run.seq fun _ hk8 => Run.region ?_
  obtain ⟨y, hi⟩ : ∃ y, ls[i]? = some y := ⟨_, GE (by omega)⟩
  obtain ⟨q1, o1, rfl, hs1⟩ := hb.get (by omega)
  refine Qp 0 E2 (QP.indexAddr rfl rfl rfl Tryz.underlying108 z75 Og Og) <| Qq 1 E2 (QR.loadSl1 (ev := fun y : SlX => Value.slice y.a y.n y.c) rfl rfl g75 (hs1 _) hi) ?_
  rw [y.h]
  refine Sg 2 E3 <| Zl hk8 <| Run.region <| Mv 0 E3 <| Mv 1 E3 <| Ef 2 E2 (EF.appendArg (xs := xs ++ catL (ls.take i)) (ys := y.l) el5 (fun _ => rfl) (fun _ => cell_one rfl) rfl rfl rfl Tryz.underlying75 Tryz.underlying75 rfl rfl Rc (hy y (List.mem_of_getElem? hi)) (by have h1 := catL_le (ls := ls) (i + 1); rw [catL_take hi, List.length_append] at h1; rw [List.length_append]; omega)) ?_
  rintro sl15 _ rfl
  refine Sg 3 E3 <| Zl hk7 <| Run.region <| Qp 0 E2 (QP.add64 rfl rfl rfl Og Og) <| Mv 1 E3 <| Sq.nil ?_
  rw [show (xs ++ catL (ls.take i)) ++ y.l = xs ++ catL (ls.take (i + 1)) by rw [catL_take hi, List.append_assoc]]
  exact J.envJ (J.keep Tk1 (hl4 (i + 1) (sl15) (by omega) (by omega))) ⟨rfl, rfl, rfl, rfl, trivial⟩
 ·refine Zl hk5 <| Run.seq fun _ hk9 => Zf <| Run.exit rfl <| hk2 _ _ <| Zs fun _ hk10 => Mv 0 E3 <| Sg 1 E3 <| Zl hk10 <| Run.ret ?_
  rw [List.take_of_length_le (by omega)]
  exact J.ends (res_tmp rfl rfl) Tk1 rfl
end Slb
