/- J3: a part of the proof that a law of this package holds for every input; no condition. -/
import Derived.Test.YtfokodhfjdhdaaaGreatM2
import Derived.Test.YtfokodhfjdhdaaaGreatJ2
namespace Slb
open Go Go.Proofs
set_option maxRecDepth 20000
/-! ### Pieces -/
structure RawX where
 t : Int
 a : Option Addr
 c : Nat
 l : List UInt8
@[reducible] def rawS (x : RawX) : Raw := ⟨x.t, ⟨x.a, x.l.length, x.c⟩⟩
@[reducible] def rawE (x : RawX) : List Value := (rawS x).enc
theorem rawE_len (x : RawX) : (rawE x).length = 2 := Raw.enc_len _
def rawM (x : RawX) : Int × List UInt8 := (x.t, x.l)
@[reducible] def bodyA (x : RawX) : HProp := slA 5 1 bytE (.slice x.a x.l.length x.c) x.l
def rowsB (rs : List RawX) : HProp := stars (rs.map bodyA)
theorem rowsB_snoc {rs : List RawX} {x : RawX} {p : PH} (g : stars [rowsB rs, bodyA x] p) : rowsB (rs ++ [x]) p := by
 obtain ⟨h1, h2, d, rfl, g1, g2⟩ := g
 unfold rowsB
 rw [List.map_append]
 exact stars_append.2 ⟨h1, h2, d, rfl, g1, g2⟩
theorem rowsB_out {rs rest : List RawX} {x : RawX} (h : rs.Perm (x :: rest)) {p : PH} (g : rowsB rs p) : stars [bodyA x, rowsB rest] p := by
 have := stars_perm (h.map bodyA) g
 obtain ⟨h1, h2, d, rfl, g1, g2⟩ := this
 exact ⟨h1, h2, d, rfl, g1, stars_one.2 g2⟩
theorem J.addBodies {N : Nat} {G : Env} {S : List HProp} {F : Fr} {Φ : Act → World → Prop} (j : J N G (rowsB [] :: S) F Φ) : J N G S F Φ := j.conseq fun w s => by
 obtain ⟨a, b, c, d, k, hk, f, h⟩ := s
 exact ⟨a, b, c, d, k, ⟨PH.none, k, PH.none_disj k, (PH.none_union k).symm, rfl, hk⟩, f, h⟩
/-- A body's pieces, and whether it was whole. -/
def splitN : Nat → List UInt8 → List (Int × List UInt8) × Int
 | 0, _ => ([], 0)
 | f + 1, l =>
   if l = [] then ([], 0) else
   let r1 := (rdTake ⟨l, 0⟩ 1).2
   if u8F ⟨l, 0⟩ ≠ 0 then
     let r2 := (rdTake r1 1).2
     let r3 := (rdTake r2 (u8F r1)).2
     if r3.e ≠ 0 then ([], 52) else ((u8F ⟨l, 0⟩, (rdTake r2 (u8F r1)).1) :: (splitN f r3.l).1, (splitN f r3.l).2)
   else ((0, []) :: (splitN f r1.l).1, (splitN f r1.l).2)
def preR (rs : List RawX) (q : List (Int × List UInt8) × Int) : List (Int × List UInt8) × Int := (rs.map rawM ++ q.1, q.2)
theorem preR_snoc (rs : List RawX) (x : RawX) (q : List (Int × List UInt8) × Int) : preR rs (rawM x :: q.1, q.2) = preR (rs ++ [x]) q := by
 unfold preR; simp
theorem split_nil : ∀ f, splitN f [] = ([], 0)
 | 0 => rfl
 | f + 1 => by unfold splitN; rw [if_pos rfl]
theorem Rs.eta {r : Rs} (h : r.e = 0) : r = ⟨r.l, 0⟩ := by cases r; simp only at h; rw [h]
theorem rdTake_one {l : List UInt8} (h : l ≠ []) : (rdTake ⟨l, 0⟩ 1).2 = ⟨l.drop 1, 0⟩ := by
 unfold rdTake
 cases l with
 | nil => exact absurd rfl h
 | cons c l => rw [if_neg (by simp), if_neg (by omega), if_neg (by simp; omega)]; rfl
theorem rdTake_fail {r : Rs} (h : r.e ≠ 0) (n : Int) : (rdTake r n).2 = r := by
 unfold rdTake
 rw [if_pos h]
set_option maxHeartbeats 1000000 in
theorem split_spec (F : Fr) {a : Option Addr} {c : Nat} {xs : List UInt8} (hx : xs.length ≤ 1000000) (ha : ArgSl F a 1 bytE xs) : Spec Tryz.prog 50 #[.slice a xs.length c] [] F (fun v S => ∃ (rs : List RawX) (va : Value) (e : Int), v = .tuple #[va, .int .i64 e] ∧ splitN xs.length xs = (rs.map rawM, e) ∧ S = [slA 137 2 rawE va rs, rowsB rs]) := by
 refine Spec.intro (N := 39) (args := [.slice a xs.length c]) Tryz.func50 rfl rfl (by simp) ?_
 refine Zs fun _ hk1 => Sg 0 E3 <| Sg 1 E3 <| Zl hk1 <| Zs fun _ hk2 => J.addSl 137 2 rawE ?_
 refine J.addBodies ?_
 refine Sg 0 E3 <| Zl hk2 <| Zs fun _ hk3 => Mv 0 E3 <| Ef 1 E2 (Zc E2 ce70 TN (fun F' hle hr => newR F' hx (ha.mono hle))) ?_
 rintro _ _ ⟨_, ⟨rb, rfl, rfl⟩, rfl⟩
 refine J.app <| Sg 2 E3 <| Zl hk3 <| Run.seq fun _ hk4 => Run.block <| Run.loop4 (fun (f0 : Nat) (l : List UInt8) (rs : List RawX) (va : Value) => l.length ≤ f0 ∧ f0 + rs.length ≤ xs.length ∧ splitN xs.length xs = preR rs (splitN f0 l)) (fun f0 l rs va => .cons 4 (va) (.cons 5 (fp rb) (.nil))) (fun f0 l rs va => [RdA rb (⟨l, 0⟩ : Rs), slA 137 2 rawE va rs, rowsB rs]) (fun f0 l rs va => f0) (xs.length) (xs) ([]) (.slice none 0 0) (⟨Nat.le_refl _, by simp, by simp [preR]⟩) ?_ ?_
 ·exact fun _ j => J.envJ (J.keep Tk3 j) ⟨rfl, rfl, trivial⟩
 rintro f0 l rs va ⟨hlf, hfr, hsp⟩ kl5 hl5
 refine Run.seq fun _ hk6 => Zs fun _ hk7 => Mv 0 E3 <| Ef 1 E2 (Zc E2 ce74 Tk1 (fun F' hle hr => left_spec F' (r := (⟨l, 0⟩ : Rs)))) ?_
 rintro _ _ ⟨_, ⟨rfl, rfl⟩, rfl⟩
 refine J.app <| Qp 2 E2 (QP.gtr rfl rfl rfl) <| J.caseD (fun c13 => ?_) (fun c13 => ?_)
 ·refine Zl hk7 <| Zt <| Run.skip <| hk6 _ _ <| Run.block <| Run.seq fun _ hk8 => Run.region ?_
  replace c13 : (0 : Int) < (l.length : Int) := c13
  obtain ⟨f, rfl⟩ : ∃ f, f0 = f + 1 := ⟨f0 - 1, by omega⟩
  have hne : l ≠ [] := fun h => by subst h; simp at c13
  have hr := rdTake_one hne
  have hrs : rs.length ≤ 1000000 := by omega
  refine Mv 0 E3 <| Ef 1 E2 (Zc E2 ce71 Tk1 (fun F' hle hr => u8_spec F' (r := (⟨l, 0⟩ : Rs)))) ?_
  rintro _ _ ⟨_, ⟨rfl, rfl⟩, rfl⟩
  refine J.app ?_
  generalize hr1 : (rdTake (⟨l, 0⟩ : Rs) 1).2 = r1 at hr ⊢
  have hl1 : r1.l.length + 1 = l.length := by rw [hr]; show (l.drop 1).length + 1 = l.length; rw [List.length_drop]; omega
  refine Qp 2 E2 (QP.build (l := Raw.enc ⟨u8F (⟨l, 0⟩ : Rs), Slc.zero⟩) rfl st137 rfl (by exact ⟨rfl, trivial⟩) rfl) <| Ef 3 E2 (EF.allocA (l := Raw.enc Raw.zero) rfl zero137) ?_
  rintro _ _ ⟨b6, rfl, rfl⟩
  refine Ac 4 rfl (EF.storeA rfl rfl rfl z137 (SetL.all (Raw.enc_len _) (Raw.enc_len _)) (Raw.enc_cell _)) ?_
  rintro _ _ rfl
  refine Zl hk8 <| Run.seq fun _ hk9 => Zs fun _ hk10 => Fa 0 E3 f137_0 <| Qq 1 E2 (Z1 E2 g5 (Raw.sub_type _)) ?_
  refine Qp 2 E2 (Zq E3) <| J.caseD (fun c19 => ?_) (fun c19 => ?_)
  ·refine Zl hk10 <| Zt <| Run.region <| Mv 0 E3 <| Mv 1 E3 <| Ef 2 E2 (Zc E2 ce71 Tk1 (fun F' hle hr => u8_spec F' (r := r1))) ?_
   rintro _ _ ⟨_, ⟨rfl, rfl⟩, rfl⟩
   refine J.app ?_
   generalize hr2 : (rdTake r1 1).2 = r2
   have hl2 : r2.l.length ≤ r1.l.length := by rw [← hr2]; exact (rdTake_len _ _).2
   have hu8 := u8_range r1
   refine Qp 3 E2 (QP.conv rfl rfl Tryz.underlying5 Tryz.underlying3) ?_
   rw [wrap_i64 (n := u8F r1) (by omega) (by omega)]
   refine Ef 4 E2 (Zc E2 ce75 Tk1 (fun F' hle hr => bytes_spec F' (r := r2) (u8F r1))) ?_
   rintro v24 _ ⟨_, rfl, rfl⟩
   refine J.app ?_
   generalize hr3 : (rdTake r2 (u8F r1)).2 = r3
   have hl3 : r3.l.length ≤ r2.l.length := by rw [← hr3]; exact (rdTake_len _ _).2
   generalize hB : (rdTake r2 (u8F r1)).1 = B
   refine Sq.slCase (v := v24) (xs := B) Rc (fun a24 c24 hv24 hh24 => ?_)
   subst hv24
   refine Fa 5 E3 f137_1 <| Ac 6 rfl (EF.store rfl rfl rfl z75 (Raw.set_body _ ⟨a24, B.length, c24⟩) (cell_one rfl)) ?_
   rintro _ _ rfl
   refine Zl hk9 <| Run.seq fun _ hk11 => Zs fun _ hk12 => Mv 0 E3 <| Ef 1 E2 (Zc E2 ce73 Tk1 (fun F' hle hr => why_spec F' (r := r3))) ?_
   rintro _ _ ⟨_, ⟨sp, rfl, rfl⟩, rfl⟩
   refine J.app <| Mv 2 E3 <| Qp 3 E2 (Zx E3) <| Qp 4 E2 (Zx E3) <| Sg 5 E3 <| Sg 6 E3 <| Zl hk12 <| Zs fun _ hk13 => Mv 0 E3 <| Qp 1 E2 (Zq E3) <| J.caseD (fun c32 => ?_) (fun c32 => ?_)
   ·refine Zl hk13 <| Zt <| Zs fun _ hk14 => Mv 0 E3 <| Sg 1 E3 <| Sg 2 E3 <| Zl hk14 <| Run.ret <| J.ends (m := [slA 137 2 rawE va rs, rowsB rs]) (res_tmp2 rfl rfl rfl) Tk2 ⟨rs, va, 52, rfl, ?_, rfl⟩
    rw [hsp]
    have hst : splitN (f + 1) l = ([], 52) := (by rw [splitN, if_neg hne]; simp only [hr1, hr2, hr3]; rw [if_pos (show u8F (⟨l, 0⟩ : Rs) ≠ 0 from c19), if_pos c32])
    rw [hst]
    simp [preR]
   ·refine Zl hk13 <| Zf <| Run.skip <| hk11 _ _ <| Run.region <| Mv 0 E3 <| Qq 1 E2 (Z0 E2 g137 (Raw.enc_sub _)) ?_
    refine Ef 2 E2 (EF.buildSlice1 rfl Tryz.underlying133 z137 zero137 (by simp [Value.cells, Raw.enc_len]) (by decide) rfl rfl (Raw.enc_len _) (by decide)) ?_
    rintro _ _ ⟨b36, rfl, rfl⟩
    refine Ef 3 E2 (EF.append1 (xs := rs) (s := (⟨u8F (⟨l, 0⟩ : Rs), a24, c24, B⟩ : RawX)) el137 rawE_len (fun _ => Raw.enc_cell _) rfl rfl rfl Tryz.underlying133 Tryz.underlying133 rfl rfl Rc Rc (by omega)) ?_
    rintro sl37 _ rfl
    refine Sg 4 E3 <| Sq.nil ?_
    rw [Rs.eta (r := r3) (Classical.not_not.1 c32)]
    refine J.close (A := rowsB (rs ++ [(⟨u8F (⟨l, 0⟩ : Rs), a24, c24, B⟩ : RawX)])) (m := [rowsB rs, bodyA (⟨u8F (⟨l, 0⟩ : Rs), a24, c24, B⟩ : RawX)]) Tk2 (fun _ q => rowsB_snoc q) ?_
    exact J.envJ (J.keep Tk3 (hl5 (f) (r3.l) ((rs ++ [⟨u8F (⟨l, 0⟩ : Rs), a24, c24, B⟩])) (sl37) (⟨by omega, by simp only [List.length_append, List.length_cons, List.length_nil]; omega, by rw [hsp]; have hst : splitN (f + 1) l = ((u8F (⟨l, 0⟩ : Rs), B) :: (splitN f r3.l).1, (splitN f r3.l).2) := (by rw [splitN, if_neg hne]; simp only [hr1, hr2, hr3]; rw [if_pos (show u8F (⟨l, 0⟩ : Rs) ≠ 0 from c19), if_neg c32]; rw [hB]); rw [hst]; exact preR_snoc rs ⟨u8F (⟨l, 0⟩ : Rs), a24, c24, B⟩ _⟩) (by omega))) ⟨rfl, rfl, trivial⟩
  ·refine Zl hk10 <| Zf <| Run.skip <| hk9 _ _ <| Run.seq fun _ hk15 => Zs fun _ hk16 => J.addSl 5 1 bytE ?_
   refine Mv 0 E3 <| Ef 1 E2 (Zc E2 ce73 Tk1 (fun F' hle hr => why_spec F' (r := r1))) ?_
   rintro _ _ ⟨_, ⟨sp, rfl, rfl⟩, rfl⟩
   refine J.app <| Mv 2 E3 <| Qp 3 E2 (Zx E3) <| Qp 4 E2 (Zx E3) <| Sg 5 E3 <| Sg 6 E3 <| Zl hk16 <| Zs fun _ hk17 => Mv 0 E3 <| Qp 1 E2 (Zq E3) <| J.decF (by rw [hr]; simp) ?_
   refine Zl hk17 <| Zf <| Run.skip <| hk15 _ _ <| Run.region <| Mv 0 E3 <| Qq 1 E2 (Z0 E2 g137 (Raw.enc_sub _)) ?_
   refine Ef 2 E2 (EF.buildSlice1 rfl Tryz.underlying133 z137 zero137 (by simp [Value.cells, Raw.enc_len]) (by decide) rfl rfl (Raw.enc_len _) (by decide)) ?_
   rintro _ _ ⟨b36, rfl, rfl⟩
   refine Ef 3 E2 (EF.append1 (xs := rs) (s := (⟨u8F (⟨l, 0⟩ : Rs), none, 0, []⟩ : RawX)) el137 rawE_len (fun _ => Raw.enc_cell _) rfl rfl rfl Tryz.underlying133 Tryz.underlying133 rfl rfl Rc Rc (by omega)) ?_
   rintro sl37 _ rfl
   refine Sg 4 E3 <| Sq.nil ?_
   have ht0 : u8F (⟨l, 0⟩ : Rs) = 0 := Classical.not_not.1 c19
   rw [Rs.eta (r := r1) (by rw [hr])]
   refine J.close (A := rowsB (rs ++ [(⟨u8F (⟨l, 0⟩ : Rs), none, 0, []⟩ : RawX)])) (m := [rowsB rs, bodyA (⟨u8F (⟨l, 0⟩ : Rs), none, 0, []⟩ : RawX)]) Tk2 (fun _ q => rowsB_snoc q) ?_
   exact J.envJ (J.keep Tk3 (hl5 (f) (r1.l) ((rs ++ [⟨u8F (⟨l, 0⟩ : Rs), none, 0, []⟩])) (sl37) (⟨by omega, by simp only [List.length_append, List.length_cons, List.length_nil]; omega, by rw [hsp]; have hst : splitN (f + 1) l = ((0, []) :: (splitN f r1.l).1, (splitN f r1.l).2) := (by rw [splitN, if_neg hne]; simp only [hr1]; rw [if_neg (show ¬ u8F (⟨l, 0⟩ : Rs) ≠ 0 from c19)]); rw [hst]; exact (congrArg (fun t => preR rs ((t, []) :: _, _)) ht0.symm).trans (preR_snoc rs ⟨u8F (⟨l, 0⟩ : Rs), none, 0, []⟩ _)⟩) (by omega))) ⟨rfl, rfl, trivial⟩
 ·refine Zl hk7 <| Zf <| Run.exit rfl <| hk4 _ _ <| Zs fun _ hk18 => Mv 0 E3 <| Sg 1 E3 <| Sg 2 E3 <| Zl hk18 <| Run.ret <| J.ends (m := [slA 137 2 rawE va rs, rowsB rs]) (res_tmp2 rfl rfl rfl) Tk2 ⟨rs, va, 0, rfl, ?_, rfl⟩
  replace c13 : ¬ (0 : Int) < (l.length : Int) := c13
  rw [hsp, show l = [] from List.eq_nil_of_length_eq_zero (by omega), split_nil]
  simp [preR]

def inT (ts : List UInt8) (x : Int) : Bool := ts.any fun c => decide ((c.toNat : Int) = x)
theorem inT_take {ts : List UInt8} {i : Nat} {c : UInt8} {x : Int} (h : inT (ts.take i) x = false) (hi : ts[i]? = some c) (hx : ¬ x = (c.toNat : Int)) : inT (ts.take (i + 1)) x = false := by
 unfold inT at *
 rw [take_succ_get hi, List.any_append, h]
 simp only [List.any_cons, List.any_nil, Bool.or_false, Bool.false_or, decide_eq_false_iff_not]
 exact fun h => hx h.symm
theorem inT_at {ts : List UInt8} {i : Nat} {c : UInt8} {x : Int} (hi : ts[i]? = some c) (hx : x = (c.toNat : Int)) : inT ts x = true := by
 unfold inT
 rw [List.any_eq_true]
 exact ⟨c, List.mem_of_getElem? hi, by simpa using hx.symm⟩

theorem index8_spec (F : Fr) {at1 : Option Addr} {ct : Nat} {ts : List UInt8} (hts : ts.length ≤ 1000000) (hta : ArgSl F at1 1 bytE ts) (x : Int) : Spec Tryz.prog 161 #[.slice at1 ts.length ct, .int .u8 x] [] F (fun v S => S = [] ∧ ∃ n : Int, v = .int .i64 n ∧ (0 ≤ n ↔ inT ts x = true)) := by
 refine Spec.intro (N := 19) (args := [.slice at1 ts.length ct, .int .u8 x]) Tryz.func161 rfl rfl (by simp) ?_
 refine Zs fun _ hk1 => Sg 0 E3 <| Zl hk1 <| Run.seq fun _ hk2 => Zs fun _ hk3 => Mv 0 E3 <| Qp 1 E2 (QP.len rfl rfl rfl Tryz.underlying75) <| Mv 2 E3 <| Zl hk3 <| Run.block <| Run.loop1 (fun (i : Nat) => i ≤ ts.length ∧ inT (ts.take i) x = false) (fun i => .cons 0 (.slice at1 ts.length ct) (.cons 1 (.int .u8 x) (.cons 7 (.int .i64 ts.length) (.cons 8 (.int .i64 i) (.nil))))) (fun i => []) (fun i => ts.length - i) (0) (⟨Nat.zero_le _, rfl⟩) ?_ ?_
 ·exact fun _ j => J.envJ (J.keep TN j) ⟨rfl, rfl, rfl, rfl, trivial⟩
 rintro i ⟨hile, hno⟩ kl4 hl4
 refine Zs fun _ hk5 => Qp 0 E2 (Zb E3) <| J.caseD (fun c9 => ?_) (fun c9 => ?_)
 ·refine Zl hk5 <| Run.seq fun _ hk6 => Zt <| Run.skip <| hk6 _ _ <| Run.seq fun _ hk7 => Run.block <| Run.seq fun _ hk8 => Run.region ?_
  obtain ⟨x1, hi⟩ : ∃ c, ts[i]? = some c := ⟨_, GE (by omega)⟩
  obtain ⟨b0, o0, hat, hs0⟩ := hta.get (by omega)
  subst hat
  refine Mv 0 E3 <| Sg 1 E3 <| Zl hk8 <| Zs fun _ hk9 => Mv 0 E3 <| Mv 1 E3 <| Mv 2 E3 <| Qp 3 E2 (QP.indexAddr rfl rfl rfl Tryz.underlying75 z5 Og Og) <| Qq 4 E2 (QR.loadSl1 (ev := byteV) rfl rfl g5 (hs0 _) hi) ?_
  refine Qp 5 E2 (Ze E3) <| J.caseD (fun c16 => ?_) (fun c16 => ?_)
  ·exact Zl hk9 <| Zt <| Zs fun _ hk10 => Mv 0 E3 <| Sg 1 E3 <| Zl hk10 <| Run.ret <| Je E2 ⟨rfl, _, rfl, ⟨fun _ => inT_at hi c16, fun _ => by omega⟩⟩
  ·exact Zl hk9 <| Zf <| Run.skip <| hk7 _ _ <| Run.region <| Qp 0 E2 (QP.add64 rfl rfl rfl Og Og) <| Mv 1 E3 <| Sq.nil <| J.envJ (J.keep TN (hl4 (i + 1) (⟨by omega, inT_take hno hi c16⟩) (by omega))) ⟨rfl, rfl, rfl, rfl, trivial⟩
 ·exact Zl hk5 <| Run.seq fun _ hk11 => Zf <| Run.exit rfl <| hk2 _ _ <| Zs fun _ hk12 => Sg 0 E3 <| Zl hk12 <| Run.ret <| Je E2 ⟨rfl, _, rfl, ⟨fun h => by omega, fun h => by rw [List.take_of_length_le (by omega), h] at hno; cases hno⟩⟩

theorem contains8_spec (F : Fr) {at1 : Option Addr} {ct : Nat} {ts : List UInt8} (hts : ts.length ≤ 1000000) (hta : ArgSl F at1 1 bytE ts) (x : Int) : Spec Tryz.prog 146 #[.slice at1 ts.length ct, .int .u8 x] [] F (fun v S => v = .bool (inT ts x) ∧ S = []) := by
 refine Spec.intro (N := 9) (args := [.slice at1 ts.length ct, .int .u8 x]) Tryz.func146 rfl rfl (by simp) ?_
 refine Zs fun _ hk1 => Sg 0 E3 <| Zl hk1 <| Zs fun _ hk2 => Mv 0 E3 <| Mv 1 E3 <| Ef 2 E2 (Zc E2 ce161 TN (fun F' hle hr => index8_spec F' hts (hta.mono hle) x)) ?_
 rintro _ _ ⟨_, ⟨rfl, n, rfl, hn⟩, rfl⟩
 exact J.app <| Qp 3 E2 (QP.geq rfl rfl rfl) <| Sg 4 E3 <| Zl hk2 <| Run.ret <| Je E2 ⟨congrArg Value.bool (by rw [show inT ts x = decide (inT ts x = true) by simp]; exact decide_eq_decide.2 hn), rfl⟩

theorem rowsB_sub {rs rs2 : List RawX} (h : rs2.Sublist rs) : ∀ {p : PH}, rowsB rs p → ∃ q, PH.le q p ∧ rowsB rs2 q := by
 induction h with
 | slnil => intro p g; exact ⟨p, PH.le.refl p, g⟩
 | cons x _ ih =>
   intro p g
   obtain ⟨h1, h2, d, rfl, g1, g2⟩ := g
   obtain ⟨q, hq, hr⟩ := ih g2
   exact ⟨q, PH.le.trans hq (PH.le_union_right d), hr⟩
 | cons_cons x _ ih =>
   intro p g
   obtain ⟨h1, h2, d, rfl, g1, g2⟩ := g
   obtain ⟨q, hq, hr⟩ := ih g2
   have d2 : PH.disj h1 q := (PH.disj_of_le hq d.symm).symm
   exact ⟨PH.union h1 q, PH.union_le PH.le_union_left (PH.le.trans hq (PH.le_union_right d)), h1, q, d2, rfl, g1, hr⟩
theorem J.subBodies {N : Nat} {G : Env} {S S1 : List HProp} {F : Fr} {Φ : Act → World → Prop} {rs rs2 : List RawX} (pk : Pick S (rowsB rs) S1) (h : rs2.Sublist rs) (j : J N G (rowsB rs2 :: S1) F Φ) : J N G S F Φ :=
 j.conseq fun _ s => Sat.mono (S := rowsB rs :: S1) (fun p g => by
   obtain ⟨h1, h2, d, rfl, g1, g2⟩ := g
   obtain ⟨q, hq, hr⟩ := rowsB_sub h g1
   have d2 := PH.disj_of_le hq d
   exact ⟨PH.union q h2, PH.union_le (PH.le.trans hq PH.le_union_left) (PH.le_union_right d), q, h2, d2, rfl, hr, g2⟩) (s.perm pk.perm)
/-- A piece within a piece that is wanted; one that may be. -/
def subK (ts : List UInt8) (t : Int) : Bool := !(decide (t = 0)) && (!(decide (t = 1)) && inT ts t)
def subO (ts : List UInt8) (t : Int) : Bool := decide (t = 0) || (decide (t = 1) || (inT ts t || decide (t < 128)))
theorem filt_succ {α : Type} (q : α → Bool) {L : List α} {i : Nat} {x : α} (h : L[i]? = some x) : (L.take (i + 1)).filter q = (L.take i).filter q ++ if q x then [x] else [] := by
 rw [take_succ_get h, List.filter_append]
 congr 1
 cases hq : q x <;> simp [hq]
theorem all_succ {α : Type} (q : α → Bool) {L : List α} {i : Nat} {x : α} (h : L[i]? = some x) : (L.take (i + 1)).all q = ((L.take i).all q && q x) := by
 rw [take_succ_get h, List.all_append]
 simp

theorem split_len : ∀ (f : Nat) (l : List UInt8), (splitN f l).1.length ≤ f
 | 0, _ => Nat.le_refl _
 | f + 1, l => by
   unfold splitN
   split
   · exact Nat.zero_le _
   · simp only
     split
     · split
       · exact Nat.zero_le _
       · simp only [List.length_cons]; exact Nat.succ_le_succ (split_len f _)
     · simp only [List.length_cons]; exact Nat.succ_le_succ (split_len f _)

set_option maxHeartbeats 1000000 in
theorem sub_spec (F : Fr) {at1 : Option Addr} {ct : Nat} {ts : List UInt8} (hts : ts.length ≤ 1000000) (hta : ArgSl F at1 1 bytE ts) {a : Option Addr} {c : Nat} {xs : List UInt8} (hx : xs.length ≤ 1000000) (ha : ArgSl F a 1 bytE xs) : Spec Tryz.prog 110 #[.slice at1 ts.length ct, .slice a xs.length c] [] F (fun v S => ∃ (rs : List RawX) (va : Value) (e : Int), v = .tuple #[va, .bool ((splitN xs.length xs).1.all fun x => subO ts x.1), .int .i64 e] ∧ e = (splitN xs.length xs).2 ∧ rs.map rawM = (splitN xs.length xs).1.filter (fun x => subK ts x.1) ∧ S = [slA 137 2 rawE va rs, rowsB rs]) := by
 refine Spec.intro (N := 48) (args := [.slice at1 ts.length ct, .slice a xs.length c]) Tryz.func110 rfl rfl (by simp) ?_
 refine Zs fun _ hk1 => Sg 0 E3 <| Sg 1 E3 <| Sg 2 E3 <| Zl hk1 <| Zs fun _ hk2 => Mv 0 E3 <| Ef 1 E2 (Zc E2 ce50 TN (fun F' hle hr => split_spec F' hx (ha.mono hle))) ?_
 rintro _ _ ⟨_, ⟨rs, va, e0, rfl, hsp, rfl⟩, rfl⟩
 refine J.app <| Mv 2 E3 <| Qp 3 E2 (Zx E3) <| Qp 4 E2 (Zx E3) <| Sg 5 E3 <| Sg 6 E3 <| Zl hk2 <| Zs fun _ hk3 => Sq.slCase (v := va) (xs := rs) Rc (fun ar cr hvr hhr => ?_)
 subst hvr
 have hrl : rs.length ≤ 1000000 := by have := split_len xs.length xs; rw [hsp] at this; simp only [List.length_map] at this; omega
 refine Sg 0 E3 <| Zl hk3 <| Zs fun _ hk4 => J.addSl 137 2 rawE ?_
 refine Sg 0 E3 <| Zl hk4 <| Run.seq fun _ hk5 => Zs fun _ hk6 => Mv 0 E3 <| Qp 1 E2 (QP.len rfl rfl rfl Tryz.underlying133) <| Mv 2 E3 <| Zl hk6 <| Run.block <| Run.loop3 (fun (i : Nat) (vo : Value) (ok : Bool) => i ≤ rs.length ∧ ok = (rs.take i).all (fun x => subO ts x.t)) (fun i vo ok => .cons 0 (.slice at1 ts.length ct) (.cons 8 (.int .i64 e0) (.cons 9 (vo) (.cons 10 (.bool ok) (.cons 18 (.slice ar rs.length cr) (.cons 19 (.int .i64 rs.length) (.cons 20 (.int .i64 i) (.nil)))))))) (fun i vo ok => [slA 137 2 rawE (.slice ar rs.length cr) rs, rowsB rs, slA 137 2 rawE vo ((rs.take i).filter (fun x => subK ts x.t))]) (fun i vo ok => rs.length - i) (0) (.slice none 0 0) (true) (⟨Nat.zero_le _, rfl⟩) ?_ ?_
 ·exact fun _ j => J.envJ (J.keep Tk3 j) ⟨rfl, rfl, rfl, rfl, rfl, rfl, rfl, trivial⟩
 rintro i vo ok ⟨hile, hok⟩ kl7 hl7
 refine Zs fun _ hk8 => Qp 0 E2 (Zb E3) <| J.caseD (fun c21 => ?_) (fun c21 => ?_)
 ·refine Zl hk8 <| Run.seq fun _ hk9 => Zt <| Run.skip <| hk9 _ _ <| Run.seq fun _ hk10 => Run.block <| Run.seq fun _ hk11 => Run.region ?_
  obtain ⟨x, hi⟩ : ∃ x, rs[i]? = some x := ⟨_, GE (by omega)⟩
  obtain ⟨b0, o0, rfl⟩ := hhr.get (by omega)
  have hfl := List.length_filter_le (fun x : RawX => subK ts x.t) (rs.take i)
  have htl := List.length_take_le i rs
  refine Qp 0 E2 (QP.indexAddr rfl rfl rfl Tryz.underlying133 z137 Og Og) <| Qq 1 E2 (QR.loadSl (y := x) rfl rfl g137 rawE_len (SlAt.own rawE_len Rc) hi) ?_
  refine Ef 2 E2 (EF.allocA (l := Raw.enc Raw.zero) rfl zero137) ?_
  rintro _ _ ⟨b12, rfl, rfl⟩
  refine Ac 3 rfl (EF.storeA rfl rfl rfl z137 (SetL.all (Raw.enc_len _) (Raw.enc_len _)) (Raw.enc_cell _)) ?_
  rintro _ _ rfl
  refine Zl hk11 <| Run.seq fun _ hk12 => Zs fun _ hk13 => Fa 0 E3 f137_0 <| Qq 1 E2 (Z1 E2 g5 (Raw.sub_type _)) ?_
  refine Zl hk13 <| Run.block <| Run.seq fun _ hk14 => Run.block <| Run.block <| Run.seq fun _ hk15 => Run.seq fun _ hk16 => Zs fun _ hk17 => Qp 0 E2 (Ze E3) <| J.caseD (fun c27 => ?_) (fun c27 => ?_)
  ·refine Sg 1 E3 <| Zl hk17 <| Zt <| Run.exit rfl <| hk14 _ _ <| Run.seq fun _ hk18 => Run.exit rfl <| hk10 _ _ <| Run.region <| Qp 0 E2 (QP.add64 rfl rfl rfl Og Og) <| Mv 1 E3 <| Sq.nil ?_
   have hk := filt_succ (fun x : RawX => subK ts x.t) hi
   rw [show subK ts x.t = false by simp [subK, show x.t = 0 from c27]] at hk
   simp only [if_true, Bool.false_eq_true, if_false, List.append_nil] at hk
   refine J.slEq (v := vo) Rc hk.symm ?_
   exact J.envJ (J.keep Tk3 (hl7 (i + 1) (vo) (ok) (⟨by omega, by rw [all_succ _ hi, ← hok, show subO ts x.t = true by simp [subO, show x.t = 0 from c27], Bool.and_true]⟩) (by omega))) ⟨rfl, rfl, rfl, rfl, rfl, rfl, rfl, trivial⟩
  ·refine Sg 1 E3 <| Zl hk17 <| Zf <| Run.skip <| hk16 _ _ <| Zs fun _ hk19 => Qp 0 E2 (Ze E3) <| J.caseD (fun c29 => ?_) (fun c29 => ?_)
   ·refine Sg 1 E3 <| Zl hk19 <| Zt <| Run.exit rfl <| hk14 _ _ <| Run.seq fun _ hk20 => Run.exit rfl <| hk10 _ _ <| Run.region <| Qp 0 E2 (QP.add64 rfl rfl rfl Og Og) <| Mv 1 E3 <| Sq.nil ?_
    have hk := filt_succ (fun x : RawX => subK ts x.t) hi
    rw [show subK ts x.t = false by simp [subK, show x.t = 1 from c29]] at hk
    simp only [if_true, Bool.false_eq_true, if_false, List.append_nil] at hk
    refine J.slEq (v := vo) Rc hk.symm ?_
    exact J.envJ (J.keep Tk3 (hl7 (i + 1) (vo) (ok) (⟨by omega, by rw [all_succ _ hi, ← hok, show subO ts x.t = true by simp [subO, show x.t = 1 from c29], Bool.and_true]⟩) (by omega))) ⟨rfl, rfl, rfl, rfl, rfl, rfl, rfl, trivial⟩
   ·refine Sg 1 E3 <| Zl hk19 <| Zf <| Run.skip <| hk15 _ _ <| Run.exit rfl <| hk12 _ _ <| Zs fun _ hk21 => Mv 0 E3 <| Fa 1 E3 f137_0 <| Qq 2 E2 (Z1 E2 g5 (Raw.sub_type _)) ?_
    refine Ef 3 E2 (Zc E2 ce146 TN (fun F' hle hr => contains8_spec F' hts (hta.mono hle) x.t)) ?_
    rintro _ _ ⟨_, ⟨rfl, rfl⟩, rfl⟩
    refine J.app <| J.caseB (fun c33 => ?_) (fun c33 => ?_)
    ·refine Zl hk21 <| Zt <| Run.region <| Mv 0 E3 <| Qq 1 E2 (Z0 E2 g137 (Raw.enc_sub _)) ?_
     refine Ef 2 E2 (EF.buildSlice1 rfl Tryz.underlying133 z137 zero137 (by simp [Value.cells, Raw.enc_len]) (by decide) rfl rfl (Raw.enc_len _) (by decide)) ?_
     rintro _ _ ⟨b36, rfl, rfl⟩
     refine Ef 3 E2 (EF.append1 (xs := (rs.take i).filter (fun x => subK ts x.t)) (s := x) el137 rawE_len (fun _ => Raw.enc_cell _) rfl rfl rfl Tryz.underlying133 Tryz.underlying133 rfl rfl Rc Rc (by omega)) ?_
     rintro sl37 _ rfl
     refine Sg 4 E3 <| Zl hk10 <| Run.region <| Qp 0 E2 (QP.add64 rfl rfl rfl Og Og) <| Mv 1 E3 <| Sq.nil ?_
     have hk := filt_succ (fun x : RawX => subK ts x.t) hi
     rw [show subK ts x.t = true by simp [subK, show ¬ x.t = 0 from c27, show ¬ x.t = 1 from c29, c33]] at hk
     simp only [if_true, Bool.false_eq_true, if_false, List.append_nil] at hk
     refine J.slEq (v := sl37) Rc hk.symm ?_
     exact J.envJ (J.keep Tk3 (hl7 (i + 1) (sl37) (ok) (⟨by omega, by rw [all_succ _ hi, ← hok, show subO ts x.t = true by simp [subO, c33], Bool.and_true]⟩) (by omega))) ⟨rfl, rfl, rfl, rfl, rfl, rfl, rfl, trivial⟩
    ·refine Zl hk21 <| Zf <| Run.region <| Mv 0 E3 <| J.caseB (fun c38 => ?_) (fun c38 => ?_)
     ·refine Mv 1 E3 <| Yf 2 E4 f137_0 <| Yq 3 E3 (Z1 E2 g5 (Raw.sub_type _)) ?_
      refine Yp 4 E3 (Zb E3) <| J.caseD (fun c42 => ?_) (fun c42 => ?_)
      ·refine Pt 5 E4 <| Sg 6 E3 <| Zl hk10 <| Run.region <| Qp 0 E2 (QP.add64 rfl rfl rfl Og Og) <| Mv 1 E3 <| Sq.nil ?_
       have hk := filt_succ (fun x : RawX => subK ts x.t) hi
       rw [show subK ts x.t = false by simp [subK, c33]] at hk
       simp only [if_true, Bool.false_eq_true, if_false, List.append_nil] at hk
       refine J.slEq (v := vo) Rc hk.symm ?_
       exact J.envJ (J.keep Tk3 (hl7 (i + 1) (vo) (_) (⟨by omega, by rw [all_succ _ hi, ← hok]; simp_all [subO]⟩) (by omega))) ⟨rfl, rfl, rfl, rfl, rfl, rfl, rfl, trivial⟩
      ·refine Pt 5 E4 <| Sg 6 E3 <| Zl hk10 <| Run.region <| Qp 0 E2 (QP.add64 rfl rfl rfl Og Og) <| Mv 1 E3 <| Sq.nil ?_
       have hk := filt_succ (fun x : RawX => subK ts x.t) hi
       rw [show subK ts x.t = false by simp [subK, c33]] at hk
       simp only [if_true, Bool.false_eq_true, if_false, List.append_nil] at hk
       refine J.slEq (v := vo) Rc hk.symm ?_
       exact J.envJ (J.keep Tk3 (hl7 (i + 1) (vo) (_) (⟨by omega, by rw [all_succ _ hi, ← hok]; simp_all [subO]⟩) (by omega))) ⟨rfl, rfl, rfl, rfl, rfl, rfl, rfl, trivial⟩
     ·refine Mv 1 E3 <| Sk 2 E3 <| Sk 3 E3 <| Sk 4 E3 <| Pf 5 E4 <| Sg 6 E3 <| Zl hk10 <| Run.region <| Qp 0 E2 (QP.add64 rfl rfl rfl Og Og) <| Mv 1 E3 <| Sq.nil ?_
      have hk := filt_succ (fun x : RawX => subK ts x.t) hi
      rw [show subK ts x.t = false by simp [subK, c33]] at hk
      simp only [if_true, Bool.false_eq_true, if_false, List.append_nil] at hk
      refine J.slEq (v := vo) Rc hk.symm ?_
      exact J.envJ (J.keep Tk3 (hl7 (i + 1) (vo) (false) (⟨by omega, by rw [all_succ _ hi, ← hok, c38]; rfl⟩) (by omega))) ⟨rfl, rfl, rfl, rfl, rfl, rfl, rfl, trivial⟩
 ·refine Zl hk8 <| Run.seq fun _ hk22 => Zf <| Run.exit rfl <| hk5 _ _ <| Zs fun _ hk23 => Mv 0 E3 <| Mv 1 E3 <| Mv 2 E3 <| Sg 3 E3 <| Sg 4 E3 <| Sg 5 E3 <| Zl hk23 <| Run.ret ?_
  have hti : rs.take i = rs := List.take_of_length_le (by omega)
  rw [hti] at hok ⊢
  refine J.subBodies Rc (List.filter_sublist (p := fun x : RawX => subK ts x.t)) ?_
  exact J.ends (m := [slA 137 2 rawE vo (rs.filter fun x => subK ts x.t), rowsB (rs.filter fun x => subK ts x.t)]) (res_tmp3 rfl rfl rfl rfl) Tk2 ⟨_, vo, e0, by rw [hsp, hok, List.all_map]; rfl, by rw [hsp], by rw [hsp, List.filter_map]; rfl, rfl⟩
end Slb
