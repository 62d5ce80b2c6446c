/- J73: a part of the proof that a law of this package holds for every input; no condition. -/
import Derived.Test.YtfokodhfjdhdaaaGreatM2
import Derived.Test.YtfokodhfjdhdaaaGreatJ72
namespace Slb
open Go Go.Proofs
set_option maxRecDepth 20000
/-- A buffer of an interface. -/
structure BufX where
 la : Option Addr
 lc : Nat
 ts : List TlvX
@[reducible] def bufL (c : IfConf) (bb : Nat) (q : BufX) : List HProp := [blk bb (PackBuffer.enc ⟨c.addr, c.mtu, ⟨q.la, q.ts.length, q.lc⟩⟩) 150, slA 49 68 tlvE (.slice q.la q.ts.length q.lc) q.ts, rowsT q.ts]
def bufA (c : IfConf) (bb : Nat) (q : BufX) : HProp := stars (bufL c bb q)
abbrev WsX := List (Bs 16 × List (Tlv × List Int))
abbrev EnX := List (Bs 16 × (Nat × BufX))
/-- An interface. -/
structure OneX where
 c : IfConf
 up : Bool
 next : Int
 ws : WsX
def wsOf (E : EnX) : WsX := E.map fun e => (e.1, e.2.2.ts.map tlvM)
@[reducible] def oneO (x : OneX) (w : Option Nat) : IfaceOne := ⟨x.c, x.up, x.next, w⟩
@[reducible] def oneL (bi : Nat) (x : OneX) (z : Option Nat × EnX) : List HProp := [fact (wsOf z.2 = x.ws), blk bi (IfaceOne.enc (oneO x z.1)) 91, mapE z.1 (ptrs z.2), rowsQ (bufA x.c) z.2]
def oneA (bi : Nat) (x : OneX) : HProp := ex fun z => stars (oneL bi x z)
theorem one_open {bi : Nat} {x : OneX} (p : PH) (h : oneA bi x p) : ∃ z, stars (oneL bi x z) p := h
theorem one_mk {bi : Nat} {x : OneX} {w : Option Nat} {E : EnX} (hE : wsOf E = x.ws) (p : PH) (h : stars [blk bi (IfaceOne.enc (oneO x w)) 91, mapE w (ptrs E), rowsQ (bufA x.c) E] p) : oneA bi x p :=
 ⟨(w, E), PH.none, p, PH.none_disj p, (PH.none_union p).symm, ⟨hE, rfl⟩, h⟩
/-- An interface where nothing waits. -/
theorem one_new {bi : Nat} {x : OneX} (hw : x.ws = []) (p : PH) (h : stars [blk bi (IfaceOne.enc (oneO x none)) 91] p) : oneA bi x p := by
 refine one_mk (w := none) (E := []) (by rw [hw]; rfl) p ?_
 obtain ⟨h1, h2, d, rfl, g1, g2⟩ := h
 refine ⟨h1, h2, d, rfl, g1, PH.none, h2, PH.none_disj h2, (PH.none_union h2).symm, ⟨rfl, rfl⟩, PH.none, h2, PH.none_disj h2, (PH.none_union h2).symm, rfl, g2⟩
/-- A Set, whole. -/
@[reducible] def qsL (b : Nat) (M : List OneX) (z : Option Addr × Nat × List (Nat × OneX)) : List HProp := [fact (z.2.2.map (·.2) = M), blk b (IfaceSet.enc ⟨⟨z.1, (z.2.2.map (·.1)).length, z.2.1⟩⟩) 87, slA 88 1 ptE (.slice z.1 (z.2.2.map (·.1)).length z.2.1) (z.2.2.map (·.1)), rowsW oneA z.2.2]
def QS (b : Nat) (M : List OneX) : HProp := ex fun z => stars (qsL b M z)
theorem qs_open {b : Nat} {M : List OneX} (p : PH) (h : QS b M p) : ∃ z, stars (qsL b M z) p := h
theorem qs_mk {b : Nat} {M : List OneX} {a : Option Addr} {c : Nat} {L : List (Nat × OneX)} (hL : L.map (·.2) = M) (p : PH) (h : stars [blk b (IfaceSet.enc ⟨⟨a, (L.map (·.1)).length, c⟩⟩) 87, slA 88 1 ptE (.slice a (L.map (·.1)).length c) (L.map (·.1)), rowsW oneA L] p) : QS b M p :=
 ⟨(a, c, L), PH.none, p, PH.none_disj p, (PH.none_union p).symm, ⟨hL, rfl⟩, h⟩
def newX (c : IfConf) : OneX := ⟨c, false, 0, []⟩
theorem J.addRowsW {N : Nat} {G : Env} {S : List HProp} {F : Fr} {Φ : Act → World → Prop} (j : J N G (rowsW oneA [] :: S) F Φ) : J N G S F Φ := j.conseq fun w s => by
 obtain ⟨a, b, c, d, k, hk, f, h⟩ := s
 exact ⟨a, b, c, d, k, ⟨PH.none, k, PH.none_disj k, (PH.none_union k).symm, rfl, hk⟩, f, h⟩

set_option maxHeartbeats 1000000 in
theorem newS_spec (F : Fr) {cs : List IfConf} {a : Option Addr} {c : Nat} (ha : ArgSl F a 43 IfConf.enc cs) (hn : cs.length ≤ 1000000)  : Spec Tryz.prog 8 #[.slice a cs.length c] [] F (fun v S => ∃ b, v = .pointer (some ⟨b, 0, none⟩) ∧ S = [QS b (cs.map newX)]) := by
 refine Spec.intro (N := 28) (args := [.slice a cs.length c]) Tryz.func8 rfl rfl (by simp) ?_
 refine Zs fun _ hk1 => Sg 0 E3 <| Zl hk1 <| Zs fun _ hk2 => Qp 0 E2 (QP.build (l := IfaceSet.enc IfaceSet.zero) rfl st87 rfl (by exact trivial) rfl) <| Ef 1 E2 (EF.boxA rfl rfl) ?_
 rintro _ _ ⟨b7, rfl, rfl⟩
 refine Sg 2 E3 <| Zl hk2 <| Run.seq fun _ hk3 => Zs fun _ hk4 => J.addSl 88 1 ptE ?_
 refine J.addRowsW ?_
 refine Mv 0 E3 <| Qp 1 E2 (QP.len rfl rfl rfl Tryz.underlying22) <| Mv 2 E3 <| Zl hk4 <| Run.block <| Run.loop4 (fun (i : Nat) (L : List (Nat × OneX)) (al : Option Addr) (cl : Nat) => i ≤ cs.length ∧ L.map (·.2) = (cs.take i).map newX) (fun i L al cl => .cons 3 (.pointer (some ⟨b7, 0, none⟩)) (.cons 8 (.slice a cs.length c) (.cons 9 (.int .i64 cs.length) (.cons 10 (.int .i64 i) (.nil))))) (fun i L al cl => [blk b7 (IfaceSet.enc ⟨⟨al, (L.map (·.1)).length, cl⟩⟩) 87, slA 88 1 ptE (.slice al (L.map (·.1)).length cl) (L.map (·.1)), rowsW oneA L]) (fun i L al cl => cs.length - i) (0) ([]) (none) (0) (⟨Nat.zero_le _, rfl⟩) ?_ ?_
 ·exact fun _ j => J.envJ (J.keep Tk3 j) ⟨rfl, rfl, rfl, rfl, trivial⟩
 rintro i L al cl ⟨hile, hL⟩ kl5 hl5
 refine Zs fun _ hk6 => Qp 0 E2 (Zb E3) <| J.caseD (fun c11 => ?_) (fun c11 => ?_)
 ·refine Zl hk6 <| Run.seq fun _ hk7 => Zt <| Run.skip <| hk7 _ _ <| Run.seq fun _ hk8 => Run.block <| Run.seq fun _ hk9 => Run.region ?_
  obtain ⟨cf, hi⟩ : ∃ x, cs[i]? = some x := ⟨_, GE (by omega)⟩
  obtain ⟨q1, o1, rfl, hs0⟩ := ha.get (by omega)
  have hLl : L.length = i := by have h9 := congrArg List.length hL; simp only [List.length_map, List.length_take] at h9; omega
  refine Qp 0 E2 (QP.indexAddr rfl rfl rfl Tryz.underlying22 z65 Og Og) <| Qq 1 E2 (QR.loadSl (y := cf) rfl rfl g65 IfConf.enc_len (hs0 _) hi) ?_
  refine Ef 2 E2 (EF.allocA (l := IfConf.enc IfConf.zero) rfl zero65) ?_
  rintro _ _ ⟨b5, rfl, rfl⟩
  refine Ac 3 rfl (EF.storeA rfl rfl rfl z65 (SetL.all (IfConf.enc_len _) (IfConf.enc_len _)) (IfConf.enc_cell _)) ?_
  rintro _ _ rfl
  refine Zl hk9 <| Run.regionD (M := [0, 0, 2, 6, 14, 0, 32, 96, 224, 510, 1023, 2047, 4095]) (q := 3199) (r := 48) Kr ?_
  refine Dp 0 E2 (Zm E2) <| Dp 1 E2 (Zm E2) <| Dp 2 E2 (Zn E2) <| Dp 3 E2 (Za E2 f87_0) <| Dr 4 E2 (QR.load1 (v := .slice al (L.map (·.1)).length cl) rfl rfl g85 (IfaceSet.sub_l _)) ?_
  refine Dr 5 E2 (Z0 E2 g65 (IfConf.enc_sub _)) ?_
  refine Dp 6 E2 (QP.build (l := IfaceOne.enc (oneO (newX cf) none)) rfl st91 rfl (by exact ⟨congrArg some (IfConf.enc_len _).symm, trivial⟩) rfl) <| De 7 <| Om [4] rfl rfl (EF.boxA rfl rfl) ?_
  rintro _ _ ⟨b21, rfl, rfl⟩
  refine ⟨?_, ?_⟩
  ·rw [FM]
   refine ⟨?_, NO⟩
   ·exact Lk E3 (QR.load1 (v := .slice al (L.map (·.1)).length cl) rfl rfl g85 (IfaceSet.sub_l _))
  refine ?_
  refine De 8 <| Om [4] rfl rfl (EF.buildSliceS rfl Tryz.underlying85 z88 zero88 rfl (by decide) rfl rfl rfl rfl) ?_
  rintro _ _ ⟨b22, rfl, rfl⟩
  refine ⟨?_, ?_⟩
  ·rw [FM]
   refine ⟨?_, NO⟩
   ·exact Lk E3 (QR.load1 (v := .slice al (L.map (·.1)).length cl) rfl rfl g85 (IfaceSet.sub_l _))
  refine ?_
  refine De 9 <| Om [] rfl rfl (EF.append1 (xs := (L.map (·.1))) (s := b21) (enc := ptE) el88 (fun _ => rfl) (fun _ => cell_one rfl) rfl rfl rfl Tryz.underlying85 Tryz.underlying85 rfl rfl Rc Rc (by simp only [List.length_map]; omega)) ?_
  rintro sl23 _ rfl
  refine N0 <| Dw.slCase (v := sl23) (xs := ((L.map (·.1)) ++ [b21])) Rc (fun a23 c23 hv23 hh23 => ?_)
  subst hv23
  refine Dp 10 E2 (Zn E2) <| Dp 11 E2 (Za E2 f87_0) <| De 12 <| Oa [] rfl (EF.store rfl rfl rfl z85 (IfaceSet.set_l _ (⟨a23, ((L.map (·.1)) ++ [b21]).length, c23⟩ : Slc)) (cell_one rfl)) ?_
  rintro _ _ rfl
  refine N0 <| Dn <| hk8 _ _ <| Run.region <| Qp 0 E2 (QP.add64 rfl rfl rfl Og Og) <| Mv 1 E3 <| Sq.nil <| J.close (A := oneA b21 (newX cf)) (m := [blk b21 (IfaceOne.enc (oneO (newX cf) none)) 91]) Tk1 (fun p q => one_new rfl p q) ?_
  refine J.close (A := rowsW oneA (L ++ [(b21, newX cf)])) (m := [oneA b21 (newX cf), rowsW oneA L]) Tk2 (fun _ q => rowsW_snoc q) ?_
  rw [show (L.map (·.1)) ++ [b21] = ((L ++ [(b21, newX cf)]).map (·.1)) by rw [List.map_append]; rfl]
  exact J.envJ (J.keep Tk3 (hl5 (i + 1) (L ++ [(b21, newX cf)]) (a23) (c23) (⟨by omega, by rw [List.map_append, hL, take_succ_get hi, List.map_append]; rfl⟩) (by omega))) ⟨rfl, rfl, rfl, rfl, trivial⟩
 ·refine Zl hk6 <| Run.seq fun _ hk10 => Zf <| Run.exit rfl <| hk3 _ _ <| Zs fun _ hk11 => Mv 0 E3 <| Sg 1 E3 <| Zl hk11 <| Run.ret ?_
  rw [List.take_of_length_le (by omega)] at hL
  refine J.close (A := QS b7 (cs.map newX)) (m := [blk b7 (IfaceSet.enc ⟨⟨al, (L.map (·.1)).length, cl⟩⟩) 87, slA 88 1 ptE (.slice al (L.map (·.1)).length cl) (L.map (·.1)), rowsW oneA L]) Tk3 (fun p q => qs_mk hL p q) ?_
  exact J.ends (res_tmp rfl rfl) Tk1 ⟨b7, rfl, rfl⟩
end Slb
