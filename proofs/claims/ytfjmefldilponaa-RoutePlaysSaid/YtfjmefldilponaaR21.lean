/- R21: a part of the proof that a law of this package holds for every input; no condition. -/
import Derived.Test.YtfjmefldilponaaR20
namespace Slb
open Go Go.Proofs
set_option maxRecDepth 20000
def rselE (L : List Route) (p : Pair) (j : I64) (fr : Bs 16) : Int := if L.any (fun s => decide (keyR s = ⟨p, j, fr⟩)) then 0 else 7
def rselL (L : List Route) (p : Pair) (j : I64) (fr : Bs 16) : List Route := if L.any (fun s => decide (keyR s = ⟨p, j, fr⟩)) then L.map (selR p j fr) else L
theorem rselectT (F : Fr) {b : Nat} {mr : Int} {a : Option Addr} {c : Nat} {L : List Route} (hh : SlH a c L) (hL : L.length ≤ 1000000) (p : Pair) (j : I64) (fr : Bs 16) :
    Spec Try.prog 42 #[.pointer (some ⟨b, 0, none⟩), .agg (Pair.enc p).toArray, .int .i64 j.val, .agg (Bs.enc fr).toArray] [blk b (Ref16Table.enc ⟨mr, ⟨a, L.length, c⟩⟩) 57, slA 37 81 Route.enc (.slice a L.length c) L] F
    fun v S => v = .int .i64 (rselE L p j fr) ∧ S = [blk b (Ref16Table.enc ⟨mr, ⟨a, L.length, c⟩⟩) 57, slA 37 81 Route.enc (.slice a L.length c) (rselL L p j fr)] := by
  unfold rselE rselL
  by_cases h : L.any (fun s => decide (keyR s = ⟨p, j, fr⟩)) = true
  · rw [if_pos h, if_pos h]
    obtain ⟨s, hs, hk⟩ := List.any_eq_true.1 h
    obtain ⟨i, hi⟩ := List.mem_iff_getElem?.1 hs
    exact rselect_some F hh hL p j fr hi (by simpa using hk)
  · rw [if_neg h, if_neg h]
    exact rselect_none F hh hL p j fr fun s hs hk => h (List.any_eq_true.2 ⟨s, hs, by simpa using hk⟩)
theorem rsel_len (L : List Route) (p : Pair) (j : I64) (fr : Bs 16) : (rselL L p j fr).length = L.length := by unfold rselL; split <;> simp
theorem rsel_ord {M : TabR} {L : List Route} (h : OrdR M L) (p : Pair) (j : I64) (fr : Bs 16) : selE M p j fr = rselE L p j fr ∧ OrdR (selM M p j fr) (rselL L p j fr) := by
  unfold rselE rselL
  by_cases h2 : L.any (fun s => decide (keyR s = ⟨p, j, fr⟩)) = true
  · rw [if_pos h2, if_pos h2]
    obtain ⟨s, hs, hk⟩ := List.any_eq_true.1 h2
    obtain ⟨i, hi⟩ := List.mem_iff_getElem?.1 hs
    have hk' : keyR s = ⟨p, j, fr⟩ := by simpa using hk
    refine ⟨?_, sel_ord h p j fr hi hk'⟩
    unfold selE
    rw [h.look_iff.2 ⟨hs, hk'⟩]
  · rw [if_neg h2, if_neg h2]
    have hno : alook M ⟨p, j, fr⟩ = none := h.look_none.2 fun s hs hk => h2 (List.any_eq_true.2 ⟨s, hs, by simpa using hk⟩)
    unfold selE selM
    rw [hno]
    exact ⟨rfl, h⟩

theorem Dw.slEq {P : Program} {N : Nat} {ops : Array Oper} {Ms : List Nat} {q r : Nat} {Dn : List Nat} {k : Act → World → Prop} {G : Env} {S S1 : List HProp} {F : Fr} {α : Type} {e : TypeId} {z : Nat} {enc : α → List Value} {v : Value} {xs ys : List α} (pk : Pick S (slA e z enc v xs) S1) (h : xs = ys) (j : Dw P N ops Ms q r Dn k G (slA e z enc v ys :: S1) F) : Dw P N ops Ms q r Dn k G S F := J.slEq pk h j
theorem mapTo_done {f : Route → Route} {L : List Route} {i : Nat} {x : Route} (h : L[i]? = some x) : (mapTo f (i + 1) L)[i]? = some (f x) := by
  have hi : i < L.length := (List.getElem?_eq_some_iff.1 h).1
  rw [← mapTo_set h rfl]
  exact set_get (by rw [mapTo_len]; exact hi)
theorem rsetmetricN (F : Fr) {b : Nat} {most : Int} {a : Option Addr} {c n : Nat} {L : List Route} (hh : SlH a c L) (hL : L.length ≤ 1000000) (hn : n = L.length) {i : Nat} {x : Route} (hi : L[i]? = some x) (m : Int) :
    Spec Try.prog 41 #[.pointer (some ⟨b, 0, none⟩), .int .i64 (i : Int), .int .u16 m] [blk b (Ref16Table.enc ⟨most, ⟨a, n, c⟩⟩) 57, slA 37 81 Route.enc (.slice a n c) L] F
    fun v S => v = .bool (decide (x.metric ≠ m)) ∧ S = [blk b (Ref16Table.enc ⟨most, ⟨a, n, c⟩⟩) 57, slA 37 81 Route.enc (.slice a n c) (L.set i { x with metric := m })] := by
  subst hn
  exact rsetmetric_spec F hh hL hi m
theorem st_eq {bt b n c : Nat} {most mr : Int} {a : Option Addr} {M1 M2 : TabR} {L2 : List Route} (hM : M1 = M2) (hl : L2.length = n) : [RTab bt most M1, blk b (Ref16Table.enc ⟨mr, ⟨a, n, c⟩⟩) 57, slA 37 81 Route.enc (.slice a n c) L2] = [RTab bt most M2, blk b (Ref16Table.enc ⟨mr, ⟨a, L2.length, c⟩⟩) 57, slA 37 81 Route.enc (.slice a L2.length c) L2] := by
  subst hM; subst hl; rfl
theorem newM_of {y : Route} (h : y.metric ≠ plusF y) : newM y = true := decide_eq_true fun hc => h hc.symm
theorem newM_not {y : Route} (h : ¬ y.metric ≠ plusF y) : newM y = false := decide_eq_false fun hc => h fun he => hc he.symm
theorem newPs_all (L : List Route) : newPs L L.length = (L.filter newM).map Route.pair := by unfold newPs; rw [List.take_length]

theorem do_spec (F : Fr) {bt b : Nat} {most mr : Int} {a : Option Addr} {c : Nat} {M : TabR} {L LM : List Route} (hord : OrdR M LM) (hM : M.length ≤ 1000000) (now : Int) (hn0 : 0 ≤ now) (hn1 : now ≤ 1000000000000) (hgood : GoodR now 2147483648 M) (hh : SlH a c L) (hL : L.length ≤ 1000000) (hs : L.Pairwise fun a b => cmpRoute a b < 0) (hrh : ∀ x ∈ L, 1 ≤ x.hold ∧ x.hold ≤ 2147483648) (hru : ∀ x ∈ L, 0 ≤ x.until_ ∧ x.until_ ≤ 2305843009213693952) (x : Law16Act) : Spec Try.prog 19 #[.pointer (some ⟨bt, 0, none⟩), .pointer (some ⟨b, 0, none⟩), .int .i64 now, .agg (Law16Act.enc x).toArray] [RTab bt most M, blk b (Ref16Table.enc ⟨mr, ⟨a, L.length, c⟩⟩) 57, slA 37 81 Route.enc (.slice a L.length c) L] F (fun v S => ∃ r L2 a2 c2, v = .bool r ∧ SlH a2 c2 L2 ∧ L2.length ≤ L.length + 1 ∧ (L = LM → mr = most → r = true ∧ OrdR (actM most M now x) L2) ∧ S = [RTab bt most (actM most M now x), blk b (Ref16Table.enc ⟨mr, ⟨a2, L2.length, c2⟩⟩) 57, slA 37 81 Route.enc (.slice a2 L2.length c2) L2]) := by
 refine Spec.intro (N := 215) (args := [.pointer (some ⟨bt, 0, none⟩), .pointer (some ⟨b, 0, none⟩), .int .i64 now, .agg (Law16Act.enc x).toArray]) Try.func19 rfl rfl (by simp) ?_
 refine Run.seq fun k1 hk1 => ?_
 refine Run.region ?_
 show Sq _ _ _ [0, 1] _ _ _ _
 have hn2 : now ≤ 2305843009213693952 := by omega
 have hH : HoldR M := hgood.hold
 have hU : UntilR M := fun e he => ⟨(hgood.till e he).1, by have := (hgood.till e he).2; omega⟩
 have hLMl : LM.length ≤ 1000000 := by rw [hord.length]; exact hM
 refine Sq.eff (i := 0) rfl (Want.none rfl) rfl (ltN rfl) (EF.boxA rfl rfl) ?_
 rintro _ _ ⟨b7, rfl, rfl⟩
 refine Sq.quiet (i := 1) rfl (Want.none rfl) rfl (ltN rfl) (QP.assign rfl rfl).read ?_
 refine Sq.nil ?_
 refine hk1 _ _ ?_
 refine Run.seq fun k2 hk2 => ?_
 refine Run.region ?_
 show Sq _ _ _ [0, 1, 2, 3] _ _ _ _
 refine Sq.quiet (i := 0) rfl (Want.none rfl) rfl (ltN rfl) (QP.fieldAddr rfl rfl f39_2).read ?_
 refine Sq.quiet (i := 1) rfl (Want.none rfl) rfl (ltN rfl) (QR.load rfl rfl g37 (Law16Act.sub_r _)) ?_
 refine Sq.eff (i := 2) rfl (Want.none rfl) rfl (ltN rfl) (EF.allocA (l := Route.enc Route.zero) rfl zero37) ?_
 rintro _ _ ⟨b9, rfl, rfl⟩
 refine Sq.act (i := 3) rfl (Want.none rfl) rfl (EF.storeA rfl rfl rfl z37 (SetL.all (Route.enc_len _) (Route.enc_len _)) (Route.enc_cell _)) ?_
 rintro _ _ rfl
 refine Sq.nil ?_
 refine hk2 _ _ ?_
 refine Run.seq fun k3 hk3 => ?_
 refine Run.seq fun k4 hk4 => ?_
 refine Run.region ?_
 show Sq _ _ _ [0, 1] _ _ _ _
 refine Sq.quiet (i := 0) rfl (Want.none rfl) rfl (ltN rfl) (QP.fieldAddr rfl rfl f39_0).read ?_
 refine Sq.quiet (i := 1) rfl (Want.none rfl) rfl (ltN rfl) (QR.load1 rfl rfl g3 (Law16Act.sub_kind _)) ?_
 refine Sq.nil ?_
 refine hk4 _ _ ?_
 refine Run.block ?_
 refine Run.seq fun k5 hk5 => ?_
 refine Run.region ?_
 show Sq _ _ _ [0, 1] _ _ _ _
 refine Sq.quiet (i := 0) rfl (Want.none rfl) rfl (ltN rfl) (QP.eql rfl rfl rfl).read ?_
 refine J.caseD (fun c25 => ?_) (fun c25 => ?_)
 ·skip
  refine Sq.quiet (i := 1) rfl (Want.none rfl) rfl (ltN rfl) (QP.assign rfl rfl).read ?_
  refine Sq.nil ?_
  refine hk5 _ _ ?_
  refine Run.cond_t rfl ?_
  refine Run.seq fun k6 hk6 => ?_
  refine Run.region ?_
  show Sq _ _ _ [0, 1, 2, 3, 4, 5, 6, 7, 8, 9, 10] _ _ _ _
  refine Sq.quiet (i := 0) rfl (Want.none rfl) rfl (ltN rfl) (QP.move rfl rfl).read ?_
  refine Sq.quiet (i := 1) rfl (Want.none rfl) rfl (ltN rfl) (QP.move rfl rfl).read ?_
  refine Sq.quiet (i := 2) rfl (Want.none rfl) rfl (ltN rfl) (QR.load rfl rfl g37 (Route.enc_sub _)) ?_
  refine Sq.quiet (i := 3) rfl (Want.none rfl) rfl (ltN rfl) (QP.fieldAddr rfl rfl f39_3).read ?_
  refine Sq.quiet (i := 4) rfl (Want.none rfl) rfl (ltN rfl) (QR.load1 rfl rfl g4 (Law16Act.sub_ok _)) ?_
  refine Sq.eff (i := 5) rfl (Want.none rfl) rfl (ltN rfl) (EF.call rfl ce12 rfl (.cons (by repeat constructor) Takes.nil) (fun F' hle hr => tellT F' now hn0 hn2 x.r x.ok hH)) ?_
  rintro _ _ ⟨_, ⟨rfl, rfl⟩, rfl⟩
  refine J.app ?_
  refine Sq.quiet (i := 6) rfl (Want.none rfl) rfl (ltN rfl) (QP.move rfl rfl).read ?_
  refine Sq.quiet (i := 7) rfl (Want.none rfl) rfl (ltN rfl) (QP.extract rfl rfl rfl).read ?_
  refine Sq.quiet (i := 8) rfl (Want.none rfl) rfl (ltN rfl) (QP.extract rfl rfl rfl).read ?_
  refine Sq.quiet (i := 9) rfl (Want.none rfl) rfl (ltN rfl) (QP.assign rfl rfl).read ?_
  refine Sq.quiet (i := 10) rfl (Want.none rfl) rfl (ltN rfl) (QP.assign rfl rfl).read ?_
  refine Sq.nil ?_
  refine hk6 _ _ ?_
  refine Run.seq fun k7 hk7 => ?_
  refine Run.region ?_
  show Sq _ _ _ [0, 1, 2, 3, 4, 5, 6, 7, 8, 9, 10] _ _ _ _
  refine Sq.quiet (i := 0) rfl (Want.none rfl) rfl (ltN rfl) (QP.move rfl rfl).read ?_
  refine Sq.quiet (i := 1) rfl (Want.none rfl) rfl (ltN rfl) (QP.move rfl rfl).read ?_
  refine Sq.quiet (i := 2) rfl (Want.none rfl) rfl (ltN rfl) (QR.load rfl rfl g37 (Route.enc_sub _)) ?_
  refine Sq.quiet (i := 3) rfl (Want.none rfl) rfl (ltN rfl) (QP.fieldAddr rfl rfl f39_3).read ?_
  refine Sq.quiet (i := 4) rfl (Want.none rfl) rfl (ltN rfl) (QR.load1 rfl rfl g4 (Law16Act.sub_ok _)) ?_
  refine Sq.eff (i := 5) rfl (Want.none rfl) rfl (ltN rfl) (EF.call rfl ce39 rfl (.cons (by repeat constructor) (.cons (by repeat constructor) Takes.nil)) (fun F' hle hr => rtell_spec F' hh hL hs hrh now hn0 hn2 x.r x.ok)) ?_
  rintro _ _ ⟨_, ⟨a2, c2, L2, hh2, ta, te, rfl, hr, rfl⟩, rfl⟩
  refine J.app ?_
  refine Sq.quiet (i := 6) rfl (Want.none rfl) rfl (ltN rfl) (QP.move rfl rfl).read ?_
  refine Sq.quiet (i := 7) rfl (Want.none rfl) rfl (ltN rfl) (QP.extract rfl rfl rfl).read ?_
  refine Sq.quiet (i := 8) rfl (Want.none rfl) rfl (ltN rfl) (QP.extract rfl rfl rfl).read ?_
  refine Sq.quiet (i := 9) rfl (Want.none rfl) rfl (ltN rfl) (QP.assign rfl rfl).read ?_
  refine Sq.quiet (i := 10) rfl (Want.none rfl) rfl (ltN rfl) (QP.assign rfl rfl).read ?_
  refine Sq.nil ?_
  refine hk7 _ _ ?_
  refine Run.seq fun k8 hk8 => ?_
  refine Run.region ?_
  show Sq _ _ _ [0, 1, 2, 3, 4, 5, 6, 7, 8, 9] _ _ _ _
  refine Sq.quiet (i := 0) rfl (Want.none rfl) rfl (ltN rfl) (QP.move rfl rfl).read ?_
  refine Sq.quiet (i := 1) rfl (Want.none rfl) rfl (ltN rfl) (QP.move rfl rfl).read ?_
  refine Sq.quiet (i := 2) rfl (Want.none rfl) rfl (ltN rfl) (QP.eql rfl rfl rfl).read ?_
  refine J.caseD (fun c46 => ?_) (fun c46 => ?_)
  ·skip
   refine Sq.quiet (i := 3) rfl (Want.none rfl) rfl (ltN rfl) (QP.move rfl rfl).read ?_
   refine Sq.quiet (i := 4) rfl (Want.yes rfl rfl rfl rfl) rfl (ltN rfl) (QP.move rfl rfl).read ?_
   refine Sq.eff (i := 5) rfl (Want.yes rfl rfl rfl rfl) rfl (ltN rfl) (EF.call rfl ce31 rfl Takes.nil (fun F' hle hr => num_spec F' _)) ?_
   rintro _ _ ⟨_, ⟨rfl, rfl⟩, rfl⟩
   refine J.app ?_
   refine Sq.quiet (i := 6) rfl (Want.yes rfl rfl rfl rfl) rfl (ltN rfl) (QP.move rfl rfl).read ?_
   refine Sq.quiet (i := 7) rfl (Want.yes rfl rfl rfl rfl) rfl (ltN rfl) (QP.eql rfl rfl rfl).read ?_
   refine Sq.quiet (i := 8) rfl (Want.none rfl) rfl (ltN rfl) (QP.pick_t rfl rfl rfl).read ?_
   refine Sq.quiet (i := 9) rfl (Want.none rfl) rfl (ltN rfl) (QP.assign rfl rfl).read ?_
   refine Sq.nil ?_
   refine hk8 _ _ ?_
   refine Run.ret ?_
   have hact : actM most M now x = (tellF most M now x.r x.ok).2.2 := by unfold actM; rw [if_pos c25]
   rw [hact]
   exact J.ends (res_tmp rfl rfl) (.cons (by repeat constructor) (.cons (by repeat constructor) (.cons (by repeat constructor) Takes.nil))) ⟨_, _, _, _, rfl, hh2, tell_len hr, fun hLM hmm => by subst hLM; subst hmm; have ht := tell_ord hord hr; exact ⟨decide_eq_true ht.2.1, ht.2.2⟩, rfl⟩
  ·skip
   refine Sq.quiet (i := 3) rfl (Want.none rfl) rfl (ltN rfl) (QP.move rfl rfl).read ?_
   refine Sq.skip (i := 4) rfl (Want.no rfl rfl rfl rfl) rfl (ltN rfl) ?_
   refine Sq.skip (i := 5) rfl (Want.no rfl rfl rfl rfl) rfl (ltN rfl) ?_
   refine Sq.skip (i := 6) rfl (Want.no rfl rfl rfl rfl) rfl (ltN rfl) ?_
   refine Sq.skip (i := 7) rfl (Want.no rfl rfl rfl rfl) rfl (ltN rfl) ?_
   refine Sq.quiet (i := 8) rfl (Want.none rfl) rfl (ltN rfl) (QP.pick_f rfl rfl rfl).read ?_
   refine Sq.quiet (i := 9) rfl (Want.none rfl) rfl (ltN rfl) (QP.assign rfl rfl).read ?_
   refine Sq.nil ?_
   refine hk8 _ _ ?_
   refine Run.ret ?_
   have hact : actM most M now x = (tellF most M now x.r x.ok).2.2 := by unfold actM; rw [if_pos c25]
   rw [hact]
   exact J.ends (res_tmp rfl rfl) (.cons (by repeat constructor) (.cons (by repeat constructor) (.cons (by repeat constructor) Takes.nil))) ⟨_, _, _, _, rfl, hh2, tell_len hr, fun hLM hmm => by subst hLM; subst hmm; have ht := tell_ord hord hr; exact absurd ht.1 c46, rfl⟩
 ·skip
  refine Sq.quiet (i := 1) rfl (Want.none rfl) rfl (ltN rfl) (QP.assign rfl rfl).read ?_
  refine Sq.nil ?_
  refine hk5 _ _ ?_
  refine Run.cond_f rfl ?_
  refine Run.seq fun k9 hk9 => ?_
  refine Run.region ?_
  show Sq _ _ _ [0, 1] _ _ _ _
  refine Sq.quiet (i := 0) rfl (Want.none rfl) rfl (ltN rfl) (QP.eql rfl rfl rfl).read ?_
  refine J.caseD (fun c54 => ?_) (fun c54 => ?_)
  ·skip
   refine Sq.quiet (i := 1) rfl (Want.none rfl) rfl (ltN rfl) (QP.assign rfl rfl).read ?_
   refine Sq.nil ?_
   refine hk9 _ _ ?_
   refine Run.cond_t rfl ?_
   refine Run.seq fun k10 hk10 => ?_
   refine Run.regionD (M := [0, 0, 0, 4, 0, 16, 63, 0, 0, 0, 512, 0, 2048, 8191, 16383, 32767]) (q := 24511) (r := 5160) (by kernel_rfl) ?_
   refine Dw.pure (i := 0) rfl (by kernel_rfl) (Want.none rfl) rfl (ltN rfl) (QP.move rfl rfl) ?_
   refine Dw.pure (i := 1) rfl (by kernel_rfl) (Want.none rfl) rfl (ltN rfl) (QP.move rfl rfl) ?_
   refine Dw.pure (i := 2) rfl (by kernel_rfl) (Want.none rfl) rfl (ltN rfl) (QP.fieldAddr rfl rfl f37_1) ?_
   refine Dw.read (i := 3) rfl (by kernel_rfl) (Want.none rfl) rfl (ltN rfl) (QR.load1 rfl rfl g3 (Route.sub_if_ _)) ?_
   refine Dw.pure (i := 4) rfl (by kernel_rfl) (Want.none rfl) rfl (ltN rfl) (QP.fieldAddr rfl rfl f37_2) ?_
   refine Dw.read (i := 5) rfl (by kernel_rfl) (Want.none rfl) rfl (ltN rfl) (QR.load rfl rfl g28 (Route.sub_from_ _)) ?_
   refine Dw.pure (i := 7) rfl (by kernel_rfl) (Want.none rfl) rfl (ltN rfl) (QP.move rfl rfl) ?_
   refine Dw.pure (i := 8) rfl (by kernel_rfl) (Want.none rfl) rfl (ltN rfl) (QP.move rfl rfl) ?_
   refine Dw.pure (i := 9) rfl (by kernel_rfl) (Want.none rfl) rfl (ltN rfl) (QP.fieldAddr rfl rfl f37_1) ?_
   refine Dw.read (i := 10) rfl (by kernel_rfl) (Want.none rfl) rfl (ltN rfl) (QR.load1 rfl rfl g3 (Route.sub_if_ _)) ?_
   refine Dw.pure (i := 11) rfl (by kernel_rfl) (Want.none rfl) rfl (ltN rfl) (QP.fieldAddr rfl rfl f37_2) ?_
   refine Dw.read (i := 12) rfl (by kernel_rfl) (Want.none rfl) rfl (ltN rfl) (QR.load rfl rfl g28 (Route.sub_from_ _)) ?_
   refine Dw.eff (i := 6) (by kernel_rfl) (by kernel_rfl) ?_
   refine One.mk (o := _) (l := [12, 10]) rfl (by kernel_rfl) (Want.none rfl) rfl (ltN rfl) (EF.call rfl ce17 rfl (.cons (by repeat constructor) Takes.nil) (fun F' hle hr => retractT F' hM hH now hn0 hn2 x.r.if_.val x.r.from_)) (by kernel_rfl) ?_
   rintro _ _ ⟨_, ⟨rfl, rfl⟩, rfl⟩
   refine ⟨?_, ?_⟩
   ·rw [List.forall_mem_cons, List.forall_mem_cons]
    refine ⟨?_, ?_, fun _ h => (by cases h)⟩
    ·refine Look.app ?_
     exact Look.mk rfl rfl rfl (QR.load rfl rfl g28 (Route.sub_from_ _))
    ·refine Look.app ?_
     exact Look.mk rfl rfl rfl (QR.load1 rfl rfl g3 (Route.sub_if_ _))
   refine ?_
   refine J.app ?_
   refine Dw.eff (i := 13) (by kernel_rfl) (by kernel_rfl) ?_
   refine One.mk (o := _) (l := []) rfl (by kernel_rfl) (Want.none rfl) rfl (ltN rfl) (EF.call rfl ce40 rfl (.cons (by repeat constructor) (.cons (by repeat constructor) Takes.nil)) (fun F' hle hr => rretract_spec F' hh hL hrh now hn0 hn2 x.r.if_.val x.r.from_)) (by kernel_rfl) ?_
   rintro _ _ ⟨_, ⟨rfl, rfl⟩, rfl⟩
   refine ⟨fun _ h => (by cases h), ?_⟩
   refine J.app ?_
   refine Dw.pure (i := 14) rfl (by kernel_rfl) (Want.none rfl) rfl (ltN rfl) (QP.eql rfl rfl rfl) ?_
   refine Dw.eff (i := 15) (by kernel_rfl) (by kernel_rfl) ?_
   refine One.mk (o := _) (l := []) rfl (by kernel_rfl) (Want.none rfl) rfl (ltN rfl) ((QP.assign rfl rfl).eff) (by kernel_rfl) ?_
   rintro _ _ ⟨rfl, rfl⟩
   refine ⟨fun _ h => (by cases h), ?_⟩
   refine Dw.nil (by kernel_rfl) ?_
   refine hk10 _ _ ?_
   refine Run.ret ?_
   have hact : actM most M now x = mapM (retrR now x.r.if_.val x.r.from_) M := by unfold actM; rw [if_neg c25, if_pos c54]
   rw [hact]
   exact J.ends (res_tmp rfl rfl) (.cons (by repeat constructor) (.cons (by repeat constructor) (.cons (by repeat constructor) Takes.nil))) ⟨_, L.map (retrR now x.r.if_.val x.r.from_), a, c, rfl, hh.of_len (List.length_map _), by rw [List.length_map]; omega, fun hLM hmm => by subst hLM; exact ⟨decide_eq_true (by rw [count_L hord]), ord_map (retr_key now x.r.if_.val x.r.from_) hord⟩, st_eq rfl (List.length_map _)⟩
  ·skip
   refine Sq.quiet (i := 1) rfl (Want.none rfl) rfl (ltN rfl) (QP.assign rfl rfl).read ?_
   refine Sq.nil ?_
   refine hk9 _ _ ?_
   refine Run.cond_f rfl ?_
   refine Run.seq fun k11 hk11 => ?_
   refine Run.region ?_
   show Sq _ _ _ [0, 1] _ _ _ _
   refine Sq.quiet (i := 0) rfl (Want.none rfl) rfl (ltN rfl) (QP.eql rfl rfl rfl).read ?_
   refine J.caseD (fun c71 => ?_) (fun c71 => ?_)
   ·skip
    refine Sq.quiet (i := 1) rfl (Want.none rfl) rfl (ltN rfl) (QP.assign rfl rfl).read ?_
    refine Sq.nil ?_
    refine hk11 _ _ ?_
    refine Run.cond_t rfl ?_
    refine Run.seq fun k12 hk12 => ?_
    refine Run.region ?_
    show Sq _ _ _ [0] _ _ _ _
    refine Sq.addSl 32 34 Pair.enc ?_
    refine Sq.quiet (i := 0) rfl (Want.none rfl) rfl (ltN rfl) (QP.assign rfl rfl).read ?_
    refine Sq.nil ?_
    refine hk12 _ _ ?_
    refine Run.seq fun k13 hk13 => ?_
    refine Run.seq fun k14 hk14 => ?_
    refine Run.region ?_
    show Sq _ _ _ [0] _ _ _ _
    refine Sq.slEq (e := 37) (enc := Route.enc) (by repeat constructor) (mapTo_zero recR L).symm ?_
    refine Sq.quiet (i := 0) rfl (Want.none rfl) rfl (ltN rfl) (QP.assign rfl rfl).read ?_
    refine Sq.nil ?_
    refine hk14 _ _ ?_
    refine Run.block ?_
    refine Run.loop2 (fun (i : Nat) (vw : Value) => i ≤ L.length) (fun i vw => .cons 0 (.pointer (some ⟨bt, 0, none⟩)) (.cons 1 (.pointer (some ⟨b, 0, none⟩)) (.cons 14 (vw) (.cons 15 (.int .i64 i) (.nil))))) (fun i vw => [RTab bt most M, blk b (Ref16Table.enc ⟨mr, ⟨a, L.length, c⟩⟩) 57, slA 37 81 Route.enc (.slice a L.length c) (mapTo recR i L), slA 32 34 Pair.enc vw (compL (newPs L i))]) (fun i vw => L.length - i) (0) (.slice none 0 0) (Nat.zero_le _) ?_ ?_
    ·exact fun _ j => J.envJ (J.keep (.cons (by repeat constructor) (.cons (by repeat constructor) (.cons (by repeat constructor) (.cons (by repeat constructor) Takes.nil)))) j) ⟨rfl, rfl, rfl, rfl, trivial⟩
    rintro i vw hile kl15 hl15
    refine Run.seq fun k16 hk16 => ?_
    refine Run.seq fun k17 hk17 => ?_
    refine Run.region ?_
    show Sq _ _ _ [0, 1, 2, 3, 4, 5, 6] _ _ _ _
    refine Sq.quiet (i := 0) rfl (Want.none rfl) rfl (ltN rfl) (QP.move rfl rfl).read ?_
    refine Sq.quiet (i := 1) rfl (Want.none rfl) rfl (ltN rfl) (QP.move rfl rfl).read ?_
    refine Sq.quiet (i := 2) rfl (Want.none rfl) rfl (ltN rfl) (QP.nilCheck rfl rfl).read ?_
    refine Sq.quiet (i := 3) rfl (Want.none rfl) rfl (ltN rfl) (QP.fieldAddr rfl rfl f57_1).read ?_
    refine Sq.quiet (i := 4) rfl (Want.none rfl) rfl (ltN rfl) (QR.load1 (v := .slice _ L.length _) rfl rfl g46 (Ref16Table.sub_l _)) ?_
    refine Sq.quiet (i := 5) rfl (Want.none rfl) rfl (ltN rfl) (QP.len rfl rfl rfl Try.underlying46).read ?_
    refine Sq.quiet (i := 6) rfl (Want.none rfl) rfl (ltN rfl) (QP.lss rfl rfl rfl).read ?_
    refine J.caseD (fun c78 => ?_) (fun c78 => ?_)
    ·skip
     refine Sq.nil ?_
     refine hk17 _ _ ?_
     refine Run.cond_t rfl ?_
     refine Run.skip ?_
     refine hk16 _ _ ?_
     refine Run.seq fun k18 hk18 => ?_
     refine Run.block ?_
     refine Run.seq fun k19 hk19 => ?_
     refine Run.regionD (M := [0, 0, 0, 4, 12, 28, 0, 124, 252, 508, 1023, 2047, 4095, 8191, 16383, 32767, 65535, 65535, 196607, 458751, 1048575, 2097151, 65535, 4259839, 12648447, 29425663, 65535, 130088959, 264306687, 532742143, 1073741823, 2147483647, 4294967295]) (q := 8589933055) (r := 572522784) (by kernel_rfl) ?_
     have hlt : i < L.length := by omega
     obtain ⟨y, hi⟩ : ∃ y, L[i]? = some y := ⟨_, List.getElem?_eq_getElem hlt⟩
     obtain ⟨b0, o0, rfl⟩ := hh.get (by omega)
     have hm := mapTo_get recR hi
     have hml := mapTo_len recR i L
     have hml2 := mapTo_len recR (i + 1) L
     have hd := mapTo_done (f := recR) hi
     have hwl := want_len L i
     refine Dw.slCase (v := vw) (xs := (compL (newPs L i))) (by repeat constructor) (fun aw cw hvw hhw => ?_)
     subst hvw
     refine Dw.pure (i := 0) rfl (by kernel_rfl) (Want.none rfl) rfl (ltN rfl) (QP.move rfl rfl) ?_
     refine Dw.pure (i := 1) rfl (by kernel_rfl) (Want.none rfl) rfl (ltN rfl) (QP.move rfl rfl) ?_
     refine Dw.pure (i := 2) rfl (by kernel_rfl) (Want.none rfl) rfl (ltN rfl) (QP.move rfl rfl) ?_
     refine Dw.pure (i := 3) rfl (by kernel_rfl) (Want.none rfl) rfl (ltN rfl) (QP.nilCheck rfl rfl) ?_
     refine Dw.pure (i := 4) rfl (by kernel_rfl) (Want.none rfl) rfl (ltN rfl) (QP.fieldAddr rfl rfl f57_1) ?_
     refine Dw.read (i := 5) rfl (by kernel_rfl) (Want.none rfl) rfl (ltN rfl) (QR.load1 (v := .slice _ L.length _) rfl rfl g46 (Ref16Table.sub_l _)) ?_
     refine Dw.pure (i := 6) rfl (by kernel_rfl) (Want.none rfl) rfl (ltN rfl) (QP.move rfl rfl) ?_
     refine Dw.pure (i := 7) rfl (by kernel_rfl) (Want.none rfl) rfl (ltN rfl) (QP.indexAddr rfl rfl rfl Try.underlying46 z37 (by first | omega | (simp <;> omega)) (by first | omega | (simp <;> omega))) ?_
     refine Dw.read (i := 8) rfl (by kernel_rfl) (Want.none rfl) rfl (ltN rfl) (QR.loadSl rfl rfl g37 Route.enc_len (SlAt.own Route.enc_len (by repeat constructor)) hm) ?_
     refine Dw.eff (i := 9) (by kernel_rfl) (by kernel_rfl) ?_
     refine One.mk (o := _) (l := []) rfl (by kernel_rfl) (Want.none rfl) rfl (ltN rfl) (EF.call rfl ce14 rfl Takes.nil (fun F' hle hr => plus_spec F' y)) (by kernel_rfl) ?_
     rintro _ _ ⟨_, ⟨rfl, rfl⟩, rfl⟩
     refine ⟨fun _ h => (by cases h), ?_⟩
     refine J.app ?_
     refine Dw.eff (i := 10) (by kernel_rfl) (by kernel_rfl) ?_
     refine One.mk (o := _) (l := []) rfl (by kernel_rfl) (Want.none rfl) rfl (ltN rfl) (EF.call rfl ce41 rfl (.cons (by repeat constructor) (.cons (by repeat constructor) Takes.nil)) (fun F' hle hr => rsetmetricN F' (hh.of_len hml) (by omega) hml.symm hm (plusF y))) (by kernel_rfl) ?_
     rintro _ _ ⟨_, ⟨rfl, rfl⟩, rfl⟩
     refine ⟨fun _ h => (by cases h), ?_⟩
     refine J.app ?_
     refine Dw.slEq (e := 37) (enc := Route.enc) (by repeat constructor) (mapTo_set (f := recR) hi rfl) ?_
     refine J.caseB (fun c91 => ?_) (fun c91 => ?_)
     ·skip
      refine Dw.pure (i := 11) rfl (by kernel_rfl) (Want.none rfl) rfl (ltN rfl) (QP.move rfl rfl) ?_
      refine Dw.pure (i := 12) rfl (by kernel_rfl) (Want.yes rfl rfl rfl rfl) rfl (ltN rfl) (QP.move rfl rfl) ?_
      refine Dw.pure (i := 13) rfl (by kernel_rfl) (Want.yes rfl rfl rfl rfl) rfl (ltN rfl) (QP.len rfl rfl rfl Try.underlying43) ?_
      refine Dw.pure (i := 14) rfl (by kernel_rfl) (Want.yes rfl rfl rfl rfl) rfl (ltN rfl) (QP.eql rfl rfl rfl) ?_
      refine J.caseD (fun c95 => ?_) (fun c95 => ?_)
      ·skip
       refine Dw.pure (i := 15) rfl (by kernel_rfl) (Want.yes rfl rfl rfl rfl) rfl (ltN rfl) (QP.move rfl rfl) ?_
       refine Dw.skip (i := 16) rfl (by kernel_rfl) (Want.no rfl rfl rfl rfl) rfl (ltN rfl) ?_
       refine Dw.skip (i := 17) rfl (by kernel_rfl) (Want.no rfl rfl rfl rfl) rfl (ltN rfl) ?_
       refine Dw.skip (i := 18) rfl (by kernel_rfl) (Want.no rfl rfl rfl rfl) rfl (ltN rfl) ?_
       refine Dw.skip (i := 19) rfl (by kernel_rfl) (Want.no rfl rfl rfl rfl) rfl (ltN rfl) ?_
       refine Dw.skip (i := 20) rfl (by kernel_rfl) (Want.no rfl rfl rfl rfl) rfl (ltN rfl) ?_
       refine Dw.skip (i := 21) rfl (by kernel_rfl) (Want.no rfl rfl rfl rfl) rfl (ltN rfl) ?_
       refine Dw.skip (i := 22) rfl (by kernel_rfl) (Want.no rfl rfl rfl rfl) rfl (ltN rfl) ?_
       refine Dw.skip (i := 23) rfl (by kernel_rfl) (Want.no rfl rfl rfl rfl) rfl (ltN rfl) ?_
       refine Dw.skip (i := 24) rfl (by kernel_rfl) (Want.no rfl rfl rfl rfl) rfl (ltN rfl) ?_
       refine Dw.skip (i := 25) rfl (by kernel_rfl) (Want.no rfl rfl rfl rfl) rfl (ltN rfl) ?_
       refine Dw.skip (i := 26) rfl (by kernel_rfl) (Want.no rfl rfl rfl rfl) rfl (ltN rfl) ?_
       refine Dw.skip (i := 27) rfl (by kernel_rfl) (Want.no rfl rfl rfl rfl) rfl (ltN rfl) ?_
       refine Dw.skip (i := 28) rfl (by kernel_rfl) (Want.no rfl rfl rfl rfl) rfl (ltN rfl) ?_
       refine Dw.skip (i := 29) rfl (by kernel_rfl) (Want.no rfl rfl rfl rfl) rfl (ltN rfl) ?_
       refine Dw.skip (i := 30) rfl (by kernel_rfl) (Want.no rfl rfl rfl rfl) rfl (ltN rfl) ?_
       refine Dw.pure (i := 31) rfl (by kernel_rfl) (Want.yes rfl rfl rfl rfl) rfl (ltN rfl) (QP.pick_t rfl rfl rfl) ?_
       refine Dw.pure (i := 32) rfl (by kernel_rfl) (Want.none rfl) rfl (ltN rfl) (QP.pick_t rfl rfl rfl) ?_
       refine Dw.nil (by kernel_rfl) ?_
       refine hk19 _ _ ?_
       refine Run.cond_t rfl ?_
       refine Run.region ?_
       show Sq _ _ _ [0, 1, 2, 3, 4, 5, 6, 7, 8, 9, 10, 11] _ _ _ _
       refine Sq.quiet (i := 0) rfl (Want.none rfl) rfl (ltN rfl) (QP.move rfl rfl).read ?_
       refine Sq.quiet (i := 1) rfl (Want.none rfl) rfl (ltN rfl) (QP.move rfl rfl).read ?_
       refine Sq.quiet (i := 2) rfl (Want.none rfl) rfl (ltN rfl) (QP.nilCheck rfl rfl).read ?_
       refine Sq.quiet (i := 3) rfl (Want.none rfl) rfl (ltN rfl) (QP.fieldAddr rfl rfl f57_1).read ?_
       refine Sq.quiet (i := 4) rfl (Want.none rfl) rfl (ltN rfl) (QR.load1 (v := .slice _ L.length _) rfl rfl g46 (Ref16Table.sub_l _)) ?_
       refine Sq.quiet (i := 5) rfl (Want.none rfl) rfl (ltN rfl) (QP.move rfl rfl).read ?_
       refine Sq.quiet (i := 6) rfl (Want.none rfl) rfl (ltN rfl) (QP.indexAddr rfl rfl rfl Try.underlying46 z37 (by first | omega | (simp <;> omega)) (by first | omega | (simp <;> omega))).read ?_
       refine Sq.quiet (i := 7) rfl (Want.none rfl) rfl (ltN rfl) (QP.fieldAddr rfl rfl f37_0).read ?_
       refine Sq.quiet (i := 8) rfl (Want.none rfl) rfl (ltN rfl) (QR.loadSlF rfl rfl g32 Route.enc_len (SlAt.own Route.enc_len (by repeat constructor)) hd (Route.sub_pair _)) ?_
       refine Sq.eff (i := 9) rfl (Want.none rfl) rfl (ltN rfl) (EF.buildSlice1 rfl Try.underlying43 z32 zero32 (by simp [Value.cells, Pair.enc_len]) (by decide) rfl rfl (Pair.enc_len _) (by decide)) ?_
       rintro _ _ ⟨b123, rfl, rfl⟩
       refine Sq.eff (i := 10) rfl (Want.none rfl) rfl (ltN rfl) (EF.append1 (xs := (compL (newPs L i))) (s := ((recR y)).pair) el32 Pair.enc_len Pair.enc_cell rfl rfl rfl Try.underlying43 Try.underlying43 rfl rfl (by repeat constructor) (by repeat constructor) (by first | omega | (simp <;> omega))) ?_
       rintro sl124 _ rfl
       refine Sq.quiet (i := 11) rfl (Want.none rfl) rfl (ltN rfl) (QP.assign rfl rfl).read ?_
       refine Sq.nil ?_
       refine hk18 _ _ ?_
       refine Run.region ?_
       show Sq _ _ _ [0, 1, 2] _ _ _ _
       refine Sq.slEq (e := 32) (enc := Pair.enc) (by repeat constructor) (Eq.symm (want_none hi (newM_of (of_decide_eq_true c91)) (by omega))) ?_
       refine Sq.quiet (i := 0) rfl (Want.none rfl) rfl (ltN rfl) (QP.move rfl rfl).read ?_
       refine Sq.quiet (i := 1) rfl (Want.none rfl) rfl (ltN rfl) (QP.add64 rfl rfl rfl (by first | omega | (simp <;> omega)) (by first | omega | (simp <;> omega))).read ?_
       refine Sq.quiet (i := 2) rfl (Want.none rfl) rfl (ltN rfl) (QP.assign rfl rfl).read ?_
       refine Sq.nil ?_
       exact J.envJ (J.keep (.cons (by repeat constructor) (.cons (by repeat constructor) (.cons (by repeat constructor) (.cons (by repeat constructor) Takes.nil)))) (hl15 (i + 1) (sl124) (by omega) (by omega))) ⟨rfl, rfl, rfl, rfl, trivial⟩
      ·skip
       refine Dw.pure (i := 15) rfl (by kernel_rfl) (Want.yes rfl rfl rfl rfl) rfl (ltN rfl) (QP.move rfl rfl) ?_
       obtain ⟨b2, o2, rfl⟩ := hhw.get (by omega)
       obtain ⟨q, hq⟩ : ∃ q, (compL (newPs L i))[(compL (newPs L i)).length - 1]? = some q := ⟨_, List.getElem?_eq_getElem (by omega)⟩
       have htn : (((compL (newPs L i)).length : Int) - 1).toNat = (compL (newPs L i)).length - 1 := by omega
       refine Dw.pure (i := 16) rfl (by kernel_rfl) (Want.yes rfl rfl rfl rfl) rfl (ltN rfl) (QP.move rfl rfl) ?_
       refine Dw.pure (i := 17) rfl (by kernel_rfl) (Want.yes rfl rfl rfl rfl) rfl (ltN rfl) (QP.move rfl rfl) ?_
       refine Dw.pure (i := 18) rfl (by kernel_rfl) (Want.yes rfl rfl rfl rfl) rfl (ltN rfl) (QP.len rfl rfl rfl Try.underlying43) ?_
       refine Dw.pure (i := 19) rfl (by kernel_rfl) (Want.yes rfl rfl rfl rfl) rfl (ltN rfl) (QP.sub64 rfl rfl rfl (by first | omega | (simp <;> omega)) (by first | omega | (simp <;> omega))) ?_
       refine Dw.pure (i := 20) rfl (by kernel_rfl) (Want.yes rfl rfl rfl rfl) rfl (ltN rfl) (QP.indexAddr rfl rfl rfl Try.underlying43 z32 (by first | omega | (simp <;> omega)) (by first | omega | (simp <;> omega))) ?_
       rw [htn]
       refine Dw.read (i := 21) rfl (by kernel_rfl) (Want.yes rfl rfl rfl rfl) rfl (ltN rfl) (QR.loadSl rfl rfl g32 Pair.enc_len (SlAt.own Pair.enc_len (by repeat constructor)) hq) ?_
       refine Dw.pure (i := 22) rfl (by kernel_rfl) (Want.yes rfl rfl rfl rfl) rfl (ltN rfl) (QP.move rfl rfl) ?_
       refine Dw.pure (i := 23) rfl (by kernel_rfl) (Want.yes rfl rfl rfl rfl) rfl (ltN rfl) (QP.nilCheck rfl rfl) ?_
       refine Dw.pure (i := 24) rfl (by kernel_rfl) (Want.yes rfl rfl rfl rfl) rfl (ltN rfl) (QP.fieldAddr rfl rfl f57_1) ?_
       refine Dw.read (i := 25) rfl (by kernel_rfl) (Want.yes rfl rfl rfl rfl) rfl (ltN rfl) (QR.load1 (v := .slice _ L.length _) rfl rfl g46 (Ref16Table.sub_l _)) ?_
       refine Dw.pure (i := 26) rfl (by kernel_rfl) (Want.yes rfl rfl rfl rfl) rfl (ltN rfl) (QP.move rfl rfl) ?_
       refine Dw.pure (i := 27) rfl (by kernel_rfl) (Want.yes rfl rfl rfl rfl) rfl (ltN rfl) (QP.indexAddr rfl rfl rfl Try.underlying46 z37 (by first | omega | (simp <;> omega)) (by first | omega | (simp <;> omega))) ?_
       refine Dw.pure (i := 28) rfl (by kernel_rfl) (Want.yes rfl rfl rfl rfl) rfl (ltN rfl) (QP.fieldAddr rfl rfl f37_0) ?_
       refine Dw.read (i := 29) rfl (by kernel_rfl) (Want.yes rfl rfl rfl rfl) rfl (ltN rfl) (QR.loadSlF rfl rfl g32 Route.enc_len (SlAt.own Route.enc_len (by repeat constructor)) hd (Route.sub_pair _)) ?_
       refine Dw.pure (i := 30) rfl (by kernel_rfl) (Want.yes rfl rfl rfl rfl) rfl (ltN rfl) (QP.neq_agg eq32 rfl rfl rfl) ?_
       refine J.caseD (fun c111 => ?_) (fun c111 => ?_)
       ·skip
        refine Dw.pure (i := 31) rfl (by kernel_rfl) (Want.yes rfl rfl rfl rfl) rfl (ltN rfl) (QP.pick_f rfl rfl rfl) ?_
        refine Dw.pure (i := 32) rfl (by kernel_rfl) (Want.none rfl) rfl (ltN rfl) (QP.pick_t rfl rfl rfl) ?_
        refine Dw.nil (by kernel_rfl) ?_
        refine hk19 _ _ ?_
        refine Run.cond_t rfl ?_
        refine Run.region ?_
        show Sq _ _ _ [0, 1, 2, 3, 4, 5, 6, 7, 8, 9, 10, 11] _ _ _ _
        refine Sq.quiet (i := 0) rfl (Want.none rfl) rfl (ltN rfl) (QP.move rfl rfl).read ?_
        refine Sq.quiet (i := 1) rfl (Want.none rfl) rfl (ltN rfl) (QP.move rfl rfl).read ?_
        refine Sq.quiet (i := 2) rfl (Want.none rfl) rfl (ltN rfl) (QP.nilCheck rfl rfl).read ?_
        refine Sq.quiet (i := 3) rfl (Want.none rfl) rfl (ltN rfl) (QP.fieldAddr rfl rfl f57_1).read ?_
        refine Sq.quiet (i := 4) rfl (Want.none rfl) rfl (ltN rfl) (QR.load1 (v := .slice _ L.length _) rfl rfl g46 (Ref16Table.sub_l _)) ?_
        refine Sq.quiet (i := 5) rfl (Want.none rfl) rfl (ltN rfl) (QP.move rfl rfl).read ?_
        refine Sq.quiet (i := 6) rfl (Want.none rfl) rfl (ltN rfl) (QP.indexAddr rfl rfl rfl Try.underlying46 z37 (by first | omega | (simp <;> omega)) (by first | omega | (simp <;> omega))).read ?_
        refine Sq.quiet (i := 7) rfl (Want.none rfl) rfl (ltN rfl) (QP.fieldAddr rfl rfl f37_0).read ?_
        refine Sq.quiet (i := 8) rfl (Want.none rfl) rfl (ltN rfl) (QR.loadSlF rfl rfl g32 Route.enc_len (SlAt.own Route.enc_len (by repeat constructor)) hd (Route.sub_pair _)) ?_
        refine Sq.eff (i := 9) rfl (Want.none rfl) rfl (ltN rfl) (EF.buildSlice1 rfl Try.underlying43 z32 zero32 (by simp [Value.cells, Pair.enc_len]) (by decide) rfl rfl (Pair.enc_len _) (by decide)) ?_
        rintro _ _ ⟨b123, rfl, rfl⟩
        refine Sq.eff (i := 10) rfl (Want.none rfl) rfl (ltN rfl) (EF.append1 (xs := (compL (newPs L i))) (s := ((recR y)).pair) el32 Pair.enc_len Pair.enc_cell rfl rfl rfl Try.underlying43 Try.underlying43 rfl rfl (by repeat constructor) (by repeat constructor) (by first | omega | (simp <;> omega))) ?_
        rintro sl124 _ rfl
        refine Sq.quiet (i := 11) rfl (Want.none rfl) rfl (ltN rfl) (QP.assign rfl rfl).read ?_
        refine Sq.nil ?_
        refine hk18 _ _ ?_
        refine Run.region ?_
        show Sq _ _ _ [0, 1, 2] _ _ _ _
        refine Sq.slEq (e := 32) (enc := Pair.enc) (by repeat constructor) (Eq.symm ((want_some hi (newM_of (of_decide_eq_true c91)) hq).trans (if_neg c111))) ?_
        refine Sq.quiet (i := 0) rfl (Want.none rfl) rfl (ltN rfl) (QP.move rfl rfl).read ?_
        refine Sq.quiet (i := 1) rfl (Want.none rfl) rfl (ltN rfl) (QP.add64 rfl rfl rfl (by first | omega | (simp <;> omega)) (by first | omega | (simp <;> omega))).read ?_
        refine Sq.quiet (i := 2) rfl (Want.none rfl) rfl (ltN rfl) (QP.assign rfl rfl).read ?_
        refine Sq.nil ?_
        exact J.envJ (J.keep (.cons (by repeat constructor) (.cons (by repeat constructor) (.cons (by repeat constructor) (.cons (by repeat constructor) Takes.nil)))) (hl15 (i + 1) (sl124) (by omega) (by omega))) ⟨rfl, rfl, rfl, rfl, trivial⟩
       ·skip
        refine Dw.pure (i := 31) rfl (by kernel_rfl) (Want.yes rfl rfl rfl rfl) rfl (ltN rfl) (QP.pick_f rfl rfl rfl) ?_
        refine Dw.pure (i := 32) rfl (by kernel_rfl) (Want.none rfl) rfl (ltN rfl) (QP.pick_t rfl rfl rfl) ?_
        refine Dw.nil (by kernel_rfl) ?_
        refine hk19 _ _ ?_
        refine Run.cond_f rfl ?_
        refine Run.skip ?_
        refine hk18 _ _ ?_
        refine Run.region ?_
        show Sq _ _ _ [0, 1, 2] _ _ _ _
        refine Sq.slEq (e := 32) (enc := Pair.enc) (by repeat constructor) (Eq.symm ((want_some hi (newM_of (of_decide_eq_true c91)) hq).trans (if_pos (Classical.byContradiction fun hc => c111 hc)))) ?_
        refine Sq.quiet (i := 0) rfl (Want.none rfl) rfl (ltN rfl) (QP.move rfl rfl).read ?_
        refine Sq.quiet (i := 1) rfl (Want.none rfl) rfl (ltN rfl) (QP.add64 rfl rfl rfl (by first | omega | (simp <;> omega)) (by first | omega | (simp <;> omega))).read ?_
        refine Sq.quiet (i := 2) rfl (Want.none rfl) rfl (ltN rfl) (QP.assign rfl rfl).read ?_
        refine Sq.nil ?_
        exact J.envJ (J.keep (.cons (by repeat constructor) (.cons (by repeat constructor) (.cons (by repeat constructor) (.cons (by repeat constructor) Takes.nil)))) (hl15 (i + 1) (.slice (some ⟨b2, o2, none⟩) (compL (newPs L i)).length cw) (by omega) (by omega))) ⟨rfl, rfl, rfl, rfl, trivial⟩
     ·skip
      refine Dw.pure (i := 11) rfl (by kernel_rfl) (Want.none rfl) rfl (ltN rfl) (QP.move rfl rfl) ?_
      refine Dw.skip (i := 12) rfl (by kernel_rfl) (Want.no rfl rfl rfl rfl) rfl (ltN rfl) ?_
      refine Dw.skip (i := 13) rfl (by kernel_rfl) (Want.no rfl rfl rfl rfl) rfl (ltN rfl) ?_
      refine Dw.skip (i := 14) rfl (by kernel_rfl) (Want.no rfl rfl rfl rfl) rfl (ltN rfl) ?_
      refine Dw.skip (i := 15) rfl (by kernel_rfl) (Want.no rfl rfl rfl rfl) rfl (ltN rfl) ?_
      refine Dw.skip (i := 16) rfl (by kernel_rfl) (Want.undef rfl rfl rfl) rfl (ltN rfl) ?_
      refine Dw.skip (i := 17) rfl (by kernel_rfl) (Want.undef rfl rfl rfl) rfl (ltN rfl) ?_
      refine Dw.skip (i := 18) rfl (by kernel_rfl) (Want.undef rfl rfl rfl) rfl (ltN rfl) ?_
      refine Dw.skip (i := 19) rfl (by kernel_rfl) (Want.undef rfl rfl rfl) rfl (ltN rfl) ?_
      refine Dw.skip (i := 20) rfl (by kernel_rfl) (Want.undef rfl rfl rfl) rfl (ltN rfl) ?_
      refine Dw.skip (i := 21) rfl (by kernel_rfl) (Want.undef rfl rfl rfl) rfl (ltN rfl) ?_
      refine Dw.skip (i := 22) rfl (by kernel_rfl) (Want.undef rfl rfl rfl) rfl (ltN rfl) ?_
      refine Dw.skip (i := 23) rfl (by kernel_rfl) (Want.undef rfl rfl rfl) rfl (ltN rfl) ?_
      refine Dw.skip (i := 24) rfl (by kernel_rfl) (Want.undef rfl rfl rfl) rfl (ltN rfl) ?_
      refine Dw.skip (i := 25) rfl (by kernel_rfl) (Want.undef rfl rfl rfl) rfl (ltN rfl) ?_
      refine Dw.skip (i := 26) rfl (by kernel_rfl) (Want.undef rfl rfl rfl) rfl (ltN rfl) ?_
      refine Dw.skip (i := 27) rfl (by kernel_rfl) (Want.undef rfl rfl rfl) rfl (ltN rfl) ?_
      refine Dw.skip (i := 28) rfl (by kernel_rfl) (Want.undef rfl rfl rfl) rfl (ltN rfl) ?_
      refine Dw.skip (i := 29) rfl (by kernel_rfl) (Want.undef rfl rfl rfl) rfl (ltN rfl) ?_
      refine Dw.skip (i := 30) rfl (by kernel_rfl) (Want.undef rfl rfl rfl) rfl (ltN rfl) ?_
      refine Dw.skip (i := 31) rfl (by kernel_rfl) (Want.no rfl rfl rfl rfl) rfl (ltN rfl) ?_
      refine Dw.pure (i := 32) rfl (by kernel_rfl) (Want.none rfl) rfl (ltN rfl) (QP.pick_f rfl rfl rfl) ?_
      refine Dw.nil (by kernel_rfl) ?_
      refine hk19 _ _ ?_
      refine Run.cond_f rfl ?_
      refine Run.skip ?_
      refine hk18 _ _ ?_
      refine Run.region ?_
      show Sq _ _ _ [0, 1, 2] _ _ _ _
      refine Sq.slEq (e := 32) (enc := Pair.enc) (by repeat constructor) (Eq.symm (congrArg compL (newPs_old hi (newM_not (of_decide_eq_false c91))))) ?_
      refine Sq.quiet (i := 0) rfl (Want.none rfl) rfl (ltN rfl) (QP.move rfl rfl).read ?_
      refine Sq.quiet (i := 1) rfl (Want.none rfl) rfl (ltN rfl) (QP.add64 rfl rfl rfl (by first | omega | (simp <;> omega)) (by first | omega | (simp <;> omega))).read ?_
      refine Sq.quiet (i := 2) rfl (Want.none rfl) rfl (ltN rfl) (QP.assign rfl rfl).read ?_
      refine Sq.nil ?_
      exact J.envJ (J.keep (.cons (by repeat constructor) (.cons (by repeat constructor) (.cons (by repeat constructor) (.cons (by repeat constructor) Takes.nil)))) (hl15 (i + 1) (.slice aw (compL (newPs L i)).length cw) (by omega) (by omega))) ⟨rfl, rfl, rfl, rfl, trivial⟩
    ·skip
     refine Sq.nil ?_
     refine hk17 _ _ ?_
     refine Run.cond_f rfl ?_
     refine Run.exit rfl ?_
     refine hk13 _ _ ?_
     refine Run.seq fun k20 hk20 => ?_
     refine Run.region ?_
     show Sq _ _ _ [0, 1, 2, 3, 4] _ _ _ _
     obtain rfl : i = L.length := by omega
     refine Sq.slEq (e := 37) (enc := Route.enc) (by repeat constructor) (mapTo_all recR (Nat.le_refl _)) ?_
     have hwl := want_len L L.length
     refine Sq.slCase (v := vw) (xs := compL (newPs L L.length)) (by repeat constructor) (fun aw cw hvw hhw => ?_)
     subst hvw
     refine Sq.quiet (i := 0) rfl (Want.none rfl) rfl (ltN rfl) (QP.move rfl rfl).read ?_
     refine Sq.eff (i := 1) rfl (Want.none rfl) rfl (ltN rfl) (EF.call rfl ce13 rfl (.cons (by repeat constructor) Takes.nil) (fun F' hle hr => reckonT F' hgood.keyed hM hH)) ?_
     rintro v126 _ ⟨_, ⟨LR, hLR, rfl⟩, rfl⟩
     refine J.app ?_
     refine Sq.slCase (v := v126) (xs := compL ((LR.filter newM).map Route.pair)) (by repeat constructor) (fun a126 c126 hv126 hh126 => ?_)
     subst hv126
     have hrl : (compL ((LR.filter newM).map Route.pair)).length ≤ 1000000 := by
       refine Nat.le_trans (compL_len _) ?_
       rw [List.length_map]
       have := List.length_filter_le newM LR
       have := hLR.length
       omega
     refine Sq.quiet (i := 2) rfl (Want.none rfl) rfl (ltN rfl) (QP.move rfl rfl).read ?_
     refine Sq.eff (i := 3) rfl (Want.none rfl) rfl (ltN rfl) (EF.call rfl ce28 rfl (.cons (by repeat constructor) (.cons (by repeat constructor) Takes.nil)) (fun F' hle hr => sameP F' hh126 hhw (by omega) (by omega))) ?_
     rintro _ _ ⟨_, ⟨rfl, rfl⟩, rfl⟩
     refine J.app ?_
     refine Sq.quiet (i := 4) rfl (Want.none rfl) rfl (ltN rfl) (QP.assign rfl rfl).read ?_
     refine Sq.nil ?_
     refine hk20 _ _ ?_
     refine Run.ret ?_
     have hact : actM most M now x = mapM recR M := by unfold actM; rw [if_neg c25, if_neg c54, if_pos c71]
     rw [hact]
     exact J.ends (res_tmp rfl rfl) (.cons (by repeat constructor) (.cons (by repeat constructor) (.cons (by repeat constructor) Takes.nil))) ⟨_, L.map recR, a, c, rfl, hh.of_len (List.length_map _), by rw [List.length_map]; omega, fun hLM hmm => by subst hLM; exact ⟨decide_eq_true (by rw [ord_ex hord hLR, newPs_all]), ord_map rec_key hord⟩, st_eq rfl (List.length_map _)⟩
   ·skip
    refine Sq.quiet (i := 1) rfl (Want.none rfl) rfl (ltN rfl) (QP.assign rfl rfl).read ?_
    refine Sq.nil ?_
    refine hk11 _ _ ?_
    refine Run.cond_f rfl ?_
    refine Run.seq fun k21 hk21 => ?_
    refine Run.region ?_
    show Sq _ _ _ [0, 1] _ _ _ _
    refine Sq.quiet (i := 0) rfl (Want.none rfl) rfl (ltN rfl) (QP.eql rfl rfl rfl).read ?_
    refine J.caseD (fun c130 => ?_) (fun c130 => ?_)
    ·skip
     refine Sq.quiet (i := 1) rfl (Want.none rfl) rfl (ltN rfl) (QP.assign rfl rfl).read ?_
     refine Sq.nil ?_
     refine hk21 _ _ ?_
     refine Run.cond_t rfl ?_
     refine Run.seq fun k22 hk22 => ?_
     refine Run.regionD (M := [0, 0, 2, 0, 8, 0, 32, 127, 255, 0, 0, 1024, 0, 4096, 0, 16384, 65535, 131071, 262143]) (q := 196223) (r := 43092) (by kernel_rfl) ?_
     refine Dw.pure (i := 0) rfl (by kernel_rfl) (Want.none rfl) rfl (ltN rfl) (QP.move rfl rfl) ?_
     refine Dw.pure (i := 1) rfl (by kernel_rfl) (Want.none rfl) rfl (ltN rfl) (QP.fieldAddr rfl rfl f37_0) ?_
     refine Dw.read (i := 2) rfl (by kernel_rfl) (Want.none rfl) rfl (ltN rfl) (QR.load rfl rfl g32 (Route.sub_pair _)) ?_
     refine Dw.pure (i := 3) rfl (by kernel_rfl) (Want.none rfl) rfl (ltN rfl) (QP.fieldAddr rfl rfl f37_1) ?_
     refine Dw.read (i := 4) rfl (by kernel_rfl) (Want.none rfl) rfl (ltN rfl) (QR.load1 rfl rfl g3 (Route.sub_if_ _)) ?_
     refine Dw.pure (i := 5) rfl (by kernel_rfl) (Want.none rfl) rfl (ltN rfl) (QP.fieldAddr rfl rfl f37_2) ?_
     refine Dw.read (i := 6) rfl (by kernel_rfl) (Want.none rfl) rfl (ltN rfl) (QR.load rfl rfl g28 (Route.sub_from_ _)) ?_
     refine Dw.pure (i := 9) rfl (by kernel_rfl) (Want.none rfl) rfl (ltN rfl) (QP.move rfl rfl) ?_
     refine Dw.pure (i := 10) rfl (by kernel_rfl) (Want.none rfl) rfl (ltN rfl) (QP.fieldAddr rfl rfl f37_0) ?_
     refine Dw.read (i := 11) rfl (by kernel_rfl) (Want.none rfl) rfl (ltN rfl) (QR.load rfl rfl g32 (Route.sub_pair _)) ?_
     refine Dw.pure (i := 12) rfl (by kernel_rfl) (Want.none rfl) rfl (ltN rfl) (QP.fieldAddr rfl rfl f37_1) ?_
     refine Dw.read (i := 13) rfl (by kernel_rfl) (Want.none rfl) rfl (ltN rfl) (QR.load1 rfl rfl g3 (Route.sub_if_ _)) ?_
     refine Dw.pure (i := 14) rfl (by kernel_rfl) (Want.none rfl) rfl (ltN rfl) (QP.fieldAddr rfl rfl f37_2) ?_
     refine Dw.read (i := 15) rfl (by kernel_rfl) (Want.none rfl) rfl (ltN rfl) (QR.load rfl rfl g28 (Route.sub_from_ _)) ?_
     refine Dw.eff (i := 7) (by kernel_rfl) (by kernel_rfl) ?_
     refine One.mk (o := _) (l := [15, 13, 11]) rfl (by kernel_rfl) (Want.none rfl) rfl (ltN rfl) (EF.call rfl ce32 rfl (.cons (by repeat constructor) Takes.nil) (fun F' hle hr => selectT F' hM x.r.pair x.r.if_ x.r.from_)) (by kernel_rfl) ?_
     rintro _ _ ⟨_, ⟨rfl, rfl⟩, rfl⟩
     refine ⟨?_, ?_⟩
     ·rw [List.forall_mem_cons, List.forall_mem_cons, List.forall_mem_cons]
      refine ⟨?_, ?_, ?_, fun _ h => (by cases h)⟩
      ·refine Look.app ?_
       exact Look.mk rfl rfl rfl (QR.load rfl rfl g28 (Route.sub_from_ _))
      ·refine Look.app ?_
       exact Look.mk rfl rfl rfl (QR.load1 rfl rfl g3 (Route.sub_if_ _))
      ·refine Look.app ?_
       exact Look.mk rfl rfl rfl (QR.load rfl rfl g32 (Route.sub_pair _))
     refine ?_
     refine J.app ?_
     refine Dw.eff (i := 8) (by kernel_rfl) (by kernel_rfl) ?_
     refine One.mk (o := _) (l := [15, 13, 11]) rfl (by kernel_rfl) (Want.none rfl) rfl (ltN rfl) (EF.call rfl ce31 rfl Takes.nil (fun F' hle hr => num_spec F' _)) (by kernel_rfl) ?_
     rintro _ _ ⟨_, ⟨rfl, rfl⟩, rfl⟩
     refine ⟨?_, ?_⟩
     ·rw [List.forall_mem_cons, List.forall_mem_cons, List.forall_mem_cons]
      refine ⟨?_, ?_, ?_, fun _ h => (by cases h)⟩
      ·refine Look.app ?_
       exact Look.mk rfl rfl rfl (QR.load rfl rfl g28 (Route.sub_from_ _))
      ·refine Look.app ?_
       exact Look.mk rfl rfl rfl (QR.load1 rfl rfl g3 (Route.sub_if_ _))
      ·refine Look.app ?_
       exact Look.mk rfl rfl rfl (QR.load rfl rfl g32 (Route.sub_pair _))
     refine ?_
     refine J.app ?_
     refine Dw.eff (i := 16) (by kernel_rfl) (by kernel_rfl) ?_
     refine One.mk (o := _) (l := []) rfl (by kernel_rfl) (Want.none rfl) rfl (ltN rfl) (EF.call rfl ce42 rfl (.cons (by repeat constructor) (.cons (by repeat constructor) Takes.nil)) (fun F' hle hr => rselectT F' hh hL x.r.pair x.r.if_ x.r.from_)) (by kernel_rfl) ?_
     rintro _ _ ⟨_, ⟨rfl, rfl⟩, rfl⟩
     refine ⟨fun _ h => (by cases h), ?_⟩
     refine J.app ?_
     refine Dw.pure (i := 17) rfl (by kernel_rfl) (Want.none rfl) rfl (ltN rfl) (QP.eql rfl rfl rfl) ?_
     refine Dw.eff (i := 18) (by kernel_rfl) (by kernel_rfl) ?_
     refine One.mk (o := _) (l := []) rfl (by kernel_rfl) (Want.none rfl) rfl (ltN rfl) ((QP.assign rfl rfl).eff) (by kernel_rfl) ?_
     rintro _ _ ⟨rfl, rfl⟩
     refine ⟨fun _ h => (by cases h), ?_⟩
     refine Dw.nil (by kernel_rfl) ?_
     refine hk22 _ _ ?_
     refine Run.ret ?_
     have hact : actM most M now x = selM M x.r.pair x.r.if_ x.r.from_ := by unfold actM; rw [if_neg c25, if_neg c54, if_neg c71, if_pos c130]
     rw [hact]
     exact J.ends (res_tmp rfl rfl) (.cons (by repeat constructor) (.cons (by repeat constructor) (.cons (by repeat constructor) Takes.nil))) ⟨_, rselL L x.r.pair x.r.if_ x.r.from_, a, c, rfl, hh.of_len (rsel_len _ _ _ _), by rw [rsel_len]; omega, fun hLM hmm => by subst hLM; exact ⟨decide_eq_true (rsel_ord hord x.r.pair x.r.if_ x.r.from_).1, (rsel_ord hord x.r.pair x.r.if_ x.r.from_).2⟩, st_eq rfl (rsel_len _ _ _ _)⟩
    ·skip
     refine Sq.quiet (i := 1) rfl (Want.none rfl) rfl (ltN rfl) (QP.assign rfl rfl).read ?_
     refine Sq.nil ?_
     refine hk21 _ _ ?_
     refine Run.cond_f rfl ?_
     refine Run.seq fun k23 hk23 => ?_
     refine Run.region ?_
     show Sq _ _ _ [0, 1] _ _ _ _
     refine Sq.quiet (i := 0) rfl (Want.none rfl) rfl (ltN rfl) (QP.eql rfl rfl rfl).read ?_
     refine J.caseD (fun c150 => ?_) (fun c150 => ?_)
     ·skip
      refine Sq.quiet (i := 1) rfl (Want.none rfl) rfl (ltN rfl) (QP.assign rfl rfl).read ?_
      refine Sq.nil ?_
      refine hk23 _ _ ?_
      refine Run.cond_t rfl ?_
      refine Run.seq fun k24 hk24 => ?_
      refine Run.regionD (M := [0, 0, 2, 0, 8, 30, 63, 0, 0, 256, 1023, 2047, 4095]) (q := 2975) (r := 532) (by kernel_rfl) ?_
      refine Dw.pure (i := 0) rfl (by kernel_rfl) (Want.none rfl) rfl (ltN rfl) (QP.move rfl rfl) ?_
      refine Dw.pure (i := 1) rfl (by kernel_rfl) (Want.none rfl) rfl (ltN rfl) (QP.fieldAddr rfl rfl f37_0) ?_
      refine Dw.read (i := 2) rfl (by kernel_rfl) (Want.none rfl) rfl (ltN rfl) (QR.load rfl rfl g32 (Route.sub_pair _)) ?_
      refine Dw.pure (i := 3) rfl (by kernel_rfl) (Want.none rfl) rfl (ltN rfl) (QP.fieldAddr rfl rfl f37_0) ?_
      refine Dw.read (i := 4) rfl (by kernel_rfl) (Want.none rfl) rfl (ltN rfl) (QR.load rfl rfl g32 (Route.sub_pair _)) ?_
      refine Dw.pure (i := 7) rfl (by kernel_rfl) (Want.none rfl) rfl (ltN rfl) (QP.move rfl rfl) ?_
      refine Dw.pure (i := 8) rfl (by kernel_rfl) (Want.none rfl) rfl (ltN rfl) (QP.fieldAddr rfl rfl f37_0) ?_
      refine Dw.read (i := 9) rfl (by kernel_rfl) (Want.none rfl) rfl (ltN rfl) (QR.load rfl rfl g32 (Route.sub_pair _)) ?_
      refine Dw.eff (i := 5) (by kernel_rfl) (by kernel_rfl) ?_
      refine One.mk (o := _) (l := [9]) rfl (by kernel_rfl) (Want.none rfl) rfl (ltN rfl) (EF.buildSliceN (enc := Pair.enc) (xs := [((x).r).pair, ((x).r).pair]) rfl Try.underlying43 z32 zero32 (by simp [Value.cells, Pair.enc_len]) (by decide) rfl rfl rfl Pair.enc_len (by decide)) (by kernel_rfl) ?_
      rintro _ _ ⟨b156, rfl, rfl⟩
      refine ⟨?_, ?_⟩
      ·rw [List.forall_mem_cons]
       refine ⟨?_, fun _ h => (by cases h)⟩
       ·exact Look.mk rfl rfl rfl (QR.load rfl rfl g32 (Route.sub_pair _))
      refine ?_
      refine Dw.eff (i := 6) (by kernel_rfl) (by kernel_rfl) ?_
      refine One.mk (o := _) (l := [9]) rfl (by kernel_rfl) (Want.none rfl) rfl (ltN rfl) (EF.call rfl ce33 rfl (.cons (by repeat constructor) Takes.nil) (fun F' hle hr => unselectT F' hM (xs := [x.r.pair, x.r.pair]) (by simp) (argSl_all Pair.enc_len (hr b156 _ (by repeat constructor))))) (by kernel_rfl) ?_
      rintro _ _ ⟨_, ⟨rfl, rfl⟩, rfl⟩
      refine ⟨?_, ?_⟩
      ·rw [List.forall_mem_cons]
       refine ⟨?_, fun _ h => (by cases h)⟩
       ·refine Look.app ?_
        exact Look.mk rfl rfl rfl (QR.load rfl rfl g32 (Route.sub_pair _))
      refine ?_
      refine J.app ?_
      refine Dw.eff (i := 10) (by kernel_rfl) (by kernel_rfl) ?_
      refine One.mk (o := _) (l := []) rfl (by kernel_rfl) (Want.none rfl) rfl (ltN rfl) (EF.call rfl ce43 rfl (.cons (by repeat constructor) (.cons (by repeat constructor) Takes.nil)) (fun F' hle hr => runselect_spec F' hh hL x.r.pair)) (by kernel_rfl) ?_
      rintro _ _ ⟨_, ⟨rfl, rfl⟩, rfl⟩
      refine ⟨fun _ h => (by cases h), ?_⟩
      refine J.app ?_
      refine Dw.pure (i := 11) rfl (by kernel_rfl) (Want.none rfl) rfl (ltN rfl) (QP.eql rfl rfl rfl) ?_
      refine Dw.eff (i := 12) (by kernel_rfl) (by kernel_rfl) ?_
      refine One.mk (o := _) (l := []) rfl (by kernel_rfl) (Want.none rfl) rfl (ltN rfl) ((QP.assign rfl rfl).eff) (by kernel_rfl) ?_
      rintro _ _ ⟨rfl, rfl⟩
      refine ⟨fun _ h => (by cases h), ?_⟩
      refine Dw.nil (by kernel_rfl) ?_
      refine hk24 _ _ ?_
      refine Run.ret ?_
      have hact : actM most M now x = mapM (unsR [x.r.pair]) M := by unfold actM; rw [if_neg c25, if_neg c54, if_neg c71, if_neg c130, if_pos c150]
      rw [hact]
      exact J.ends (res_tmp rfl rfl) (.cons (by repeat constructor) (.cons (by repeat constructor) (.cons (by repeat constructor) Takes.nil))) ⟨_, L.map (unsR [x.r.pair]), a, c, rfl, hh.of_len (List.length_map _), by rw [List.length_map]; omega, fun hLM hmm => by subst hLM; exact ⟨decide_eq_true (by rw [uns_two, count_L hord]), ord_map (uns_key [x.r.pair]) hord⟩, st_eq (by rw [unsR_two]) (List.length_map _)⟩
     ·skip
      refine Sq.quiet (i := 1) rfl (Want.none rfl) rfl (ltN rfl) (QP.assign rfl rfl).read ?_
      refine Sq.nil ?_
      refine hk23 _ _ ?_
      refine Run.cond_f rfl ?_
      refine Run.seq fun k25 hk25 => ?_
      refine Run.region ?_
      show Sq _ _ _ [0, 1] _ _ _ _
      refine Sq.quiet (i := 0) rfl (Want.none rfl) rfl (ltN rfl) (QP.eql rfl rfl rfl).read ?_
      refine J.caseD (fun c164 => ?_) (fun c164 => ?_)
      ·skip
       refine Sq.quiet (i := 1) rfl (Want.none rfl) rfl (ltN rfl) (QP.assign rfl rfl).read ?_
       refine Sq.nil ?_
       refine hk25 _ _ ?_
       refine Run.cond_t rfl ?_
       refine Run.seq fun k26 hk26 => ?_
       refine Run.region ?_
       show Sq _ _ _ [0, 1, 2, 3, 4, 5, 6, 7] _ _ _ _
       refine Sq.quiet (i := 0) rfl (Want.none rfl) rfl (ltN rfl) (QP.move rfl rfl).read ?_
       refine Sq.quiet (i := 1) rfl (Want.none rfl) rfl (ltN rfl) (QP.move rfl rfl).read ?_
       refine Sq.eff (i := 2) rfl (Want.none rfl) rfl (ltN rfl) (EF.call rfl ce18 rfl (.cons (by repeat constructor) Takes.nil) (fun F' hle hr => tickT F' hord hM hH hU now hn0 hn2)) ?_
       rintro _ _ ⟨_, ⟨va, vg, rfl, rfl⟩, rfl⟩
       refine J.app ?_
       refine Sq.quiet (i := 3) rfl (Want.none rfl) rfl (ltN rfl) (QP.move rfl rfl).read ?_
       refine Sq.quiet (i := 4) rfl (Want.none rfl) rfl (ltN rfl) (QP.extract rfl rfl rfl).read ?_
       refine Sq.quiet (i := 5) rfl (Want.none rfl) rfl (ltN rfl) (QP.extract rfl rfl rfl).read ?_
       refine Sq.quiet (i := 6) rfl (Want.none rfl) rfl (ltN rfl) (QP.assign rfl rfl).read ?_
       refine Sq.quiet (i := 7) rfl (Want.none rfl) rfl (ltN rfl) (QP.assign rfl rfl).read ?_
       refine Sq.nil ?_
       refine hk26 _ _ ?_
       refine Run.seq fun k27 hk27 => ?_
       refine Run.region ?_
       show Sq _ _ _ [0, 1, 2, 3, 4, 5, 6, 7] _ _ _ _
       refine Sq.quiet (i := 0) rfl (Want.none rfl) rfl (ltN rfl) (QP.move rfl rfl).read ?_
       refine Sq.quiet (i := 1) rfl (Want.none rfl) rfl (ltN rfl) (QP.move rfl rfl).read ?_
       refine Sq.eff (i := 2) rfl (Want.none rfl) rfl (ltN rfl) (EF.call rfl ce44 rfl (.cons (by repeat constructor) (.cons (by repeat constructor) Takes.nil)) (fun F' hle hr => rtick_spec F' hh hL hrh hru now hn0 hn2)) ?_
       rintro _ _ ⟨_, ⟨a2, c2, vb, vh, hh2, rfl, rfl⟩, rfl⟩
       refine J.app ?_
       refine Sq.slCase (v := va) (xs := (LM.filter (expR now)).map (agedR now)) (by repeat constructor) (fun ava cva hvva hhva => ?_)
       subst hvva
       refine Sq.slCase (v := vg) (xs := (LM.filter (goneR now)).map (agedR now)) (by repeat constructor) (fun avg cvg hvvg hhvg => ?_)
       subst hvvg
       refine Sq.slCase (v := vb) (xs := (L.filter (expR now)).map (agedR now)) (by repeat constructor) (fun avb cvb hvvb hhvb => ?_)
       subst hvvb
       refine Sq.slCase (v := vh) (xs := (L.filter (goneR now)).map (agedR now)) (by repeat constructor) (fun avh cvh hvvh hhvh => ?_)
       subst hvvh
       have hl1 := hLMl
       have hl2 := List.length_filter_le (expR now) LM
       have hl3 := List.length_filter_le (goneR now) LM
       have hl4 := List.length_filter_le (expR now) L
       have hl5 := List.length_filter_le (goneR now) L
       have hm1 : ((LM.filter (expR now)).map (agedR now)).length ≤ 1000000 := by rw [List.length_map]; omega
       have hm2 : ((LM.filter (goneR now)).map (agedR now)).length ≤ 1000000 := by rw [List.length_map]; omega
       have hm3 : ((L.filter (expR now)).map (agedR now)).length ≤ 1000000 := by rw [List.length_map]; omega
       have hm4 : ((L.filter (goneR now)).map (agedR now)).length ≤ 1000000 := by rw [List.length_map]; omega
       refine Sq.quiet (i := 3) rfl (Want.none rfl) rfl (ltN rfl) (QP.move rfl rfl).read ?_
       refine Sq.quiet (i := 4) rfl (Want.none rfl) rfl (ltN rfl) (QP.extract rfl rfl rfl).read ?_
       refine Sq.quiet (i := 5) rfl (Want.none rfl) rfl (ltN rfl) (QP.extract rfl rfl rfl).read ?_
       refine Sq.quiet (i := 6) rfl (Want.none rfl) rfl (ltN rfl) (QP.assign rfl rfl).read ?_
       refine Sq.quiet (i := 7) rfl (Want.none rfl) rfl (ltN rfl) (QP.assign rfl rfl).read ?_
       refine Sq.nil ?_
       refine hk27 _ _ ?_
       refine Run.seq fun k28 hk28 => ?_
       refine Run.region ?_
       show Sq _ _ _ [0, 1, 2, 3, 4, 5, 6, 7, 8] _ _ _ _
       refine Sq.quiet (i := 0) rfl (Want.none rfl) rfl (ltN rfl) (QP.move rfl rfl).read ?_
       refine Sq.quiet (i := 1) rfl (Want.none rfl) rfl (ltN rfl) (QP.move rfl rfl).read ?_
       refine Sq.eff (i := 2) rfl (Want.none rfl) rfl (ltN rfl) (EF.call rfl ce16 rfl (.cons (by repeat constructor) (.cons (by repeat constructor) Takes.nil)) (fun F' hle hr => sameR F' hhva hhvb (by omega) (by omega))) ?_
       rintro _ _ ⟨_, ⟨rfl, rfl⟩, rfl⟩
       refine J.app ?_
       refine J.caseB (fun c179 => ?_) (fun c179 => ?_)
       ·skip
        refine Sq.quiet (i := 3) rfl (Want.none rfl) rfl (ltN rfl) (QP.move rfl rfl).read ?_
        refine Sq.quiet (i := 4) rfl (Want.yes rfl rfl rfl rfl) rfl (ltN rfl) (QP.move rfl rfl).read ?_
        refine Sq.quiet (i := 5) rfl (Want.yes rfl rfl rfl rfl) rfl (ltN rfl) (QP.move rfl rfl).read ?_
        refine Sq.eff (i := 6) rfl (Want.yes rfl rfl rfl rfl) rfl (ltN rfl) (EF.call rfl ce16 rfl (.cons (by repeat constructor) (.cons (by repeat constructor) Takes.nil)) (fun F' hle hr => sameR F' hhvg hhvh (by omega) (by omega))) ?_
        rintro _ _ ⟨_, ⟨rfl, rfl⟩, rfl⟩
        refine J.app ?_
        refine Sq.quiet (i := 7) rfl (Want.none rfl) rfl (ltN rfl) (QP.pick_t rfl rfl rfl).read ?_
        refine Sq.quiet (i := 8) rfl (Want.none rfl) rfl (ltN rfl) (QP.assign rfl rfl).read ?_
        refine Sq.nil ?_
        refine hk28 _ _ ?_
        refine Run.ret ?_
        have hact : actM most M now x = tickM now M := by unfold actM; rw [if_neg c25, if_neg c54, if_neg c71, if_neg c130, if_neg c150, if_pos c164]
        rw [hact]
        exact J.ends (res_tmp rfl rfl) (.cons (by repeat constructor) (.cons (by repeat constructor) (.cons (by repeat constructor) Takes.nil))) ⟨_, _, _, _, rfl, hh2, Nat.le_succ_of_le (List.length_filterMap_le _ _), fun hLM hmm => by subst hLM; exact ⟨by first | rfl | exact decide_eq_true rfl, tick_ord now hord⟩, rfl⟩
       ·skip
        refine Sq.quiet (i := 3) rfl (Want.none rfl) rfl (ltN rfl) (QP.move rfl rfl).read ?_
        refine Sq.skip (i := 4) rfl (Want.no rfl rfl rfl rfl) rfl (ltN rfl) ?_
        refine Sq.skip (i := 5) rfl (Want.no rfl rfl rfl rfl) rfl (ltN rfl) ?_
        refine Sq.skip (i := 6) rfl (Want.no rfl rfl rfl rfl) rfl (ltN rfl) ?_
        refine Sq.quiet (i := 7) rfl (Want.none rfl) rfl (ltN rfl) (QP.pick_f rfl rfl rfl).read ?_
        refine Sq.quiet (i := 8) rfl (Want.none rfl) rfl (ltN rfl) (QP.assign rfl rfl).read ?_
        refine Sq.nil ?_
        refine hk28 _ _ ?_
        refine Run.ret ?_
        have hact : actM most M now x = tickM now M := by unfold actM; rw [if_neg c25, if_neg c54, if_neg c71, if_neg c130, if_neg c150, if_pos c164]
        rw [hact]
        exact J.ends (res_tmp rfl rfl) (.cons (by repeat constructor) (.cons (by repeat constructor) (.cons (by repeat constructor) Takes.nil))) ⟨_, _, _, _, rfl, hh2, Nat.le_succ_of_le (List.length_filterMap_le _ _), fun hLM hmm => by subst hLM; exact absurd c179 (by simp), rfl⟩
      ·skip
       refine Sq.quiet (i := 1) rfl (Want.none rfl) rfl (ltN rfl) (QP.assign rfl rfl).read ?_
       refine Sq.nil ?_
       refine hk25 _ _ ?_
       refine Run.cond_f rfl ?_
       refine Run.seq fun k29 hk29 => ?_
       refine Run.region ?_
       show Sq _ _ _ [0, 1] _ _ _ _
       refine Sq.quiet (i := 0) rfl (Want.none rfl) rfl (ltN rfl) (QP.eql rfl rfl rfl).read ?_
       refine J.caseD (fun c186 => ?_) (fun c186 => ?_)
       ·skip
        refine Sq.quiet (i := 1) rfl (Want.none rfl) rfl (ltN rfl) (QP.assign rfl rfl).read ?_
        refine Sq.nil ?_
        refine hk29 _ _ ?_
        refine Run.cond_t rfl ?_
        refine Run.seq fun k30 hk30 => ?_
        refine Run.regionD (M := [0, 0, 2, 7, 0, 0, 32, 127, 255, 511]) (q := 119) (r := 68) (by kernel_rfl) ?_
        refine Dw.pure (i := 0) rfl (by kernel_rfl) (Want.none rfl) rfl (ltN rfl) (QP.move rfl rfl) ?_
        refine Dw.pure (i := 1) rfl (by kernel_rfl) (Want.none rfl) rfl (ltN rfl) (QP.fieldAddr rfl rfl f37_1) ?_
        refine Dw.read (i := 2) rfl (by kernel_rfl) (Want.none rfl) rfl (ltN rfl) (QR.load1 rfl rfl g3 (Route.sub_if_ _)) ?_
        refine Dw.pure (i := 4) rfl (by kernel_rfl) (Want.none rfl) rfl (ltN rfl) (QP.move rfl rfl) ?_
        refine Dw.pure (i := 5) rfl (by kernel_rfl) (Want.none rfl) rfl (ltN rfl) (QP.fieldAddr rfl rfl f37_1) ?_
        refine Dw.read (i := 6) rfl (by kernel_rfl) (Want.none rfl) rfl (ltN rfl) (QR.load1 rfl rfl g3 (Route.sub_if_ _)) ?_
        refine Dw.eff (i := 3) (by kernel_rfl) (by kernel_rfl) ?_
        refine One.mk (o := _) (l := [6]) rfl (by kernel_rfl) (Want.none rfl) rfl (ltN rfl) (EF.call rfl ce34 rfl (.cons (by repeat constructor) Takes.nil) (fun F' hle hr => dropT F' hord hM x.r.if_.val (a := none) (xs := []) (c := 0) (by simp) argSl_nil)) (by kernel_rfl) ?_
        rintro v190 _ ⟨_, rfl, rfl⟩
        refine ⟨?_, ?_⟩
        ·rw [List.forall_mem_cons]
         refine ⟨?_, fun _ h => (by cases h)⟩
         ·refine Look.app ?_
          exact Look.mk rfl rfl rfl (QR.load1 rfl rfl g3 (Route.sub_if_ _))
        refine ?_
        refine J.app ?_
        refine Dw.eff (i := 7) (by kernel_rfl) (by kernel_rfl) ?_
        refine One.mk (o := _) (l := []) rfl (by kernel_rfl) (Want.none rfl) rfl (ltN rfl) (EF.call rfl ce45 rfl (.cons (by repeat constructor) (.cons (by repeat constructor) Takes.nil)) (fun F' hle hr => rdrop_spec F' hh hL x.r.if_.val (ax := none) (xs := []) (cx := 0) (by simp) argSl_nil)) (by kernel_rfl) ?_
        rintro v194 _ ⟨_, ⟨a2, c2, hh2, rfl⟩, rfl⟩
        refine ⟨fun _ h => (by cases h), ?_⟩
        refine J.app ?_
        refine Dw.slCase (v := v190) (xs := LM.filter (dropP x.r.if_.val [])) (by repeat constructor) (fun av190 cv190 hvv190 hhv190 => ?_)
        subst hvv190
        refine Dw.slCase (v := v194) (xs := L.filter (dropP x.r.if_.val [])) (by repeat constructor) (fun av194 cv194 hvv194 hhv194 => ?_)
        subst hvv194
        have hl2 := List.length_filter_le (dropP x.r.if_.val []) LM
        have hl3 := List.length_filter_le (dropP x.r.if_.val []) L
        refine Dw.eff (i := 8) (by kernel_rfl) (by kernel_rfl) ?_
        refine One.mk (o := _) (l := []) rfl (by kernel_rfl) (Want.none rfl) rfl (ltN rfl) (EF.call rfl ce16 rfl (.cons (by repeat constructor) (.cons (by repeat constructor) Takes.nil)) (fun F' hle hr => sameR F' hhv190 hhv194 (by omega) (by omega))) (by kernel_rfl) ?_
        rintro _ _ ⟨_, ⟨rfl, rfl⟩, rfl⟩
        refine ⟨fun _ h => (by cases h), ?_⟩
        refine J.app ?_
        refine Dw.eff (i := 9) (by kernel_rfl) (by kernel_rfl) ?_
        refine One.mk (o := _) (l := []) rfl (by kernel_rfl) (Want.none rfl) rfl (ltN rfl) ((QP.assign rfl rfl).eff) (by kernel_rfl) ?_
        rintro _ _ ⟨rfl, rfl⟩
        refine ⟨fun _ h => (by cases h), ?_⟩
        refine Dw.nil (by kernel_rfl) ?_
        refine hk30 _ _ ?_
        refine Run.ret ?_
        have hact : actM most M now x = M.filter fun e => !dropP x.r.if_.val [] e.2 := by unfold actM; rw [if_neg c25, if_neg c54, if_neg c71, if_neg c130, if_neg c150, if_neg c164, if_pos c186]
        rw [hact]
        exact J.ends (res_tmp rfl rfl) (.cons (by repeat constructor) (.cons (by repeat constructor) (.cons (by repeat constructor) Takes.nil))) ⟨_, _, _, _, rfl, hh2, Nat.le_succ_of_le (List.length_filter_le _ _), fun hLM hmm => by subst hLM; exact ⟨decide_eq_true rfl, hord.filter fun s => !dropP x.r.if_.val [] s⟩, rfl⟩
       ·skip
        refine Sq.quiet (i := 1) rfl (Want.none rfl) rfl (ltN rfl) (QP.assign rfl rfl).read ?_
        refine Sq.nil ?_
        refine hk29 _ _ ?_
        refine Run.cond_f rfl ?_
        refine Run.seq fun k31 hk31 => ?_
        refine Run.region ?_
        show Sq _ _ _ [0, 1] _ _ _ _
        refine Sq.quiet (i := 0) rfl (Want.none rfl) rfl (ltN rfl) (QP.eql rfl rfl rfl).read ?_
        refine J.caseD (fun c197 => ?_) (fun c197 => ?_)
        ·skip
         refine Sq.quiet (i := 1) rfl (Want.none rfl) rfl (ltN rfl) (QP.assign rfl rfl).read ?_
         refine Sq.nil ?_
         refine hk31 _ _ ?_
         refine Run.cond_t rfl ?_
         refine Run.seq fun k32 hk32 => ?_
         refine Run.regionD (M := [0, 0, 2, 0, 8, 0, 32, 120, 255, 0, 0, 1024, 0, 4096, 12288, 32767, 65535, 131071]) (q := 15999) (r := 10324) (by kernel_rfl) ?_
         refine Dw.pure (i := 0) rfl (by kernel_rfl) (Want.none rfl) rfl (ltN rfl) (QP.move rfl rfl) ?_
         refine Dw.pure (i := 1) rfl (by kernel_rfl) (Want.none rfl) rfl (ltN rfl) (QP.fieldAddr rfl rfl f37_1) ?_
         refine Dw.read (i := 2) rfl (by kernel_rfl) (Want.none rfl) rfl (ltN rfl) (QR.load1 rfl rfl g3 (Route.sub_if_ _)) ?_
         refine Dw.pure (i := 3) rfl (by kernel_rfl) (Want.none rfl) rfl (ltN rfl) (QP.fieldAddr rfl rfl f37_2) ?_
         refine Dw.read (i := 4) rfl (by kernel_rfl) (Want.none rfl) rfl (ltN rfl) (QR.load rfl rfl g28 (Route.sub_from_ _)) ?_
         refine Dw.pure (i := 5) rfl (by kernel_rfl) (Want.none rfl) rfl (ltN rfl) (QP.fieldAddr rfl rfl f37_2) ?_
         refine Dw.read (i := 6) rfl (by kernel_rfl) (Want.none rfl) rfl (ltN rfl) (QR.load rfl rfl g28 (Route.sub_from_ _)) ?_
         refine Dw.pure (i := 9) rfl (by kernel_rfl) (Want.none rfl) rfl (ltN rfl) (QP.move rfl rfl) ?_
         refine Dw.pure (i := 10) rfl (by kernel_rfl) (Want.none rfl) rfl (ltN rfl) (QP.fieldAddr rfl rfl f37_1) ?_
         refine Dw.read (i := 11) rfl (by kernel_rfl) (Want.none rfl) rfl (ltN rfl) (QR.load1 rfl rfl g3 (Route.sub_if_ _)) ?_
         refine Dw.pure (i := 12) rfl (by kernel_rfl) (Want.none rfl) rfl (ltN rfl) (QP.fieldAddr rfl rfl f37_2) ?_
         refine Dw.read (i := 13) rfl (by kernel_rfl) (Want.none rfl) rfl (ltN rfl) (QR.load rfl rfl g28 (Route.sub_from_ _)) ?_
         refine Dw.effs (l := [7, 14]) (by kernel_rfl) (by kernel_rfl) ?_
         rw [List.forall_mem_cons, List.forall_mem_cons]
         refine ⟨?_, ?_, fun _ h => (by cases h)⟩
         ·skip
          refine One.mk (o := _) (l := [13, 11, 2]) rfl (by kernel_rfl) (Want.none rfl) rfl (ltN rfl) (EF.buildSliceN (enc := Bs.enc) (xs := [((x).r).from_, ((x).r).from_]) rfl Try.underlying89 z28 zero28 (by simp [Value.cells, Bs.len]) (by decide) rfl rfl rfl Bs.len (by decide)) (by kernel_rfl) ?_
          rintro _ _ ⟨b205, rfl, rfl⟩
          refine ⟨?_, ?_⟩
          ·rw [List.forall_mem_cons, List.forall_mem_cons, List.forall_mem_cons]
           refine ⟨?_, ?_, ?_, fun _ h => (by cases h)⟩
           ·exact Look.mk rfl rfl rfl (QR.load rfl rfl g28 (Route.sub_from_ _))
           ·exact Look.mk rfl rfl rfl (QR.load1 rfl rfl g3 (Route.sub_if_ _))
           ·exact Look.mk rfl rfl rfl (QR.load1 rfl rfl g3 (Route.sub_if_ _))
          refine ?_
          refine Dw.effs (l := [8, 14]) (by kernel_rfl) (by kernel_rfl) ?_
          rw [List.forall_mem_cons, List.forall_mem_cons]
          refine ⟨?_, ?_, fun _ h => (by cases h)⟩
          ·skip
           refine One.mk (o := _) (l := [13, 11]) rfl (by kernel_rfl) (Want.none rfl) rfl (ltN rfl) (EF.call rfl ce34 rfl (.cons (by repeat constructor) Takes.nil) (fun F' hle hr => dropT F' hord hM x.r.if_.val (xs := [x.r.from_, x.r.from_]) (by simp) (argSl_all Bs.len (hr b205 _ (by repeat constructor))))) (by kernel_rfl) ?_
           rintro v206 _ ⟨_, rfl, rfl⟩
           refine ⟨?_, ?_⟩
           ·rw [List.forall_mem_cons, List.forall_mem_cons]
            refine ⟨?_, ?_, fun _ h => (by cases h)⟩
            ·refine Look.app ?_
             exact Look.mk rfl rfl rfl (QR.load rfl rfl g28 (Route.sub_from_ _))
            ·refine Look.app ?_
             exact Look.mk rfl rfl rfl (QR.load1 rfl rfl g3 (Route.sub_if_ _))
           refine ?_
           refine J.app ?_
           refine Dw.eff (i := 14) (by kernel_rfl) (by kernel_rfl) ?_
           refine One.mk (o := _) (l := [11, 6, 4, 2]) rfl (by kernel_rfl) (Want.none rfl) rfl (ltN rfl) (EF.buildSlice1 rfl Try.underlying89 z28 zero28 (by simp [Value.cells, Bs.len]) (by decide) rfl rfl (Bs.len _) (by decide)) (by kernel_rfl) ?_
           rintro _ _ ⟨b212, rfl, rfl⟩
           refine ⟨?_, ?_⟩
           ·rw [List.forall_mem_cons, List.forall_mem_cons, List.forall_mem_cons, List.forall_mem_cons]
            refine ⟨?_, ?_, ?_, ?_, fun _ h => (by cases h)⟩
            ·exact Look.mk rfl rfl rfl (QR.load1 rfl rfl g3 (Route.sub_if_ _))
            ·exact Look.mk rfl rfl rfl (QR.load rfl rfl g28 (Route.sub_from_ _))
            ·exact Look.mk rfl rfl rfl (QR.load rfl rfl g28 (Route.sub_from_ _))
            ·exact Look.mk rfl rfl rfl (QR.load1 rfl rfl g3 (Route.sub_if_ _))
           refine ?_
           refine Dw.eff (i := 15) (by kernel_rfl) (by kernel_rfl) ?_
           refine One.mk (o := _) (l := []) rfl (by kernel_rfl) (Want.none rfl) rfl (ltN rfl) (EF.call rfl ce45 rfl (.cons (by repeat constructor) (.cons (by repeat constructor) Takes.nil)) (fun F' hle hr => rdrop_spec F' hh hL x.r.if_.val (xs := [x.r.from_]) (by simp) (argSl_one Bs.len (hr b212 _ (by repeat constructor))))) (by kernel_rfl) ?_
           rintro v213 _ ⟨_, ⟨a2, c2, hh2, rfl⟩, rfl⟩
           refine ⟨fun _ h => (by cases h), ?_⟩
           refine J.app ?_
           refine Dw.slCase (v := v206) (xs := LM.filter (dropP x.r.if_.val [x.r.from_, x.r.from_])) (by repeat constructor) (fun av206 cv206 hvv206 hhv206 => ?_)
           subst hvv206
           refine Dw.slCase (v := v213) (xs := L.filter (dropP x.r.if_.val [x.r.from_])) (by repeat constructor) (fun av213 cv213 hvv213 hhv213 => ?_)
           subst hvv213
           have hl2 := List.length_filter_le (dropP x.r.if_.val [x.r.from_, x.r.from_]) LM
           have hl3 := List.length_filter_le (dropP x.r.if_.val [x.r.from_]) L
           refine Dw.eff (i := 16) (by kernel_rfl) (by kernel_rfl) ?_
           refine One.mk (o := _) (l := []) rfl (by kernel_rfl) (Want.none rfl) rfl (ltN rfl) (EF.call rfl ce16 rfl (.cons (by repeat constructor) (.cons (by repeat constructor) Takes.nil)) (fun F' hle hr => sameR F' hhv206 hhv213 (by omega) (by omega))) (by kernel_rfl) ?_
           rintro _ _ ⟨_, ⟨rfl, rfl⟩, rfl⟩
           refine ⟨fun _ h => (by cases h), ?_⟩
           refine J.app ?_
           refine Dw.eff (i := 17) (by kernel_rfl) (by kernel_rfl) ?_
           refine One.mk (o := _) (l := []) rfl (by kernel_rfl) (Want.none rfl) rfl (ltN rfl) ((QP.assign rfl rfl).eff) (by kernel_rfl) ?_
           rintro _ _ ⟨rfl, rfl⟩
           refine ⟨fun _ h => (by cases h), ?_⟩
           refine Dw.nil (by kernel_rfl) ?_
           refine hk32 _ _ ?_
           refine Run.ret ?_
           have hact : actM most M now x = M.filter fun e => !dropP x.r.if_.val [x.r.from_] e.2 := by unfold actM; rw [if_neg c25, if_neg c54, if_neg c71, if_neg c130, if_neg c150, if_neg c164, if_neg c186, if_pos c197]
           rw [hact]
           exact J.ends (res_tmp rfl rfl) (.cons (by repeat constructor) (.cons (by repeat constructor) (.cons (by repeat constructor) Takes.nil))) ⟨_, _, _, _, rfl, hh2, Nat.le_succ_of_le (List.length_filter_le _ _), fun hLM hmm => by subst hLM; exact ⟨decide_eq_true (by rw [drop_two]), hord.filter fun s => !dropP x.r.if_.val [x.r.from_] s⟩, st_eq (by rw [drop_two]) rfl⟩
          ·skip
           refine One.mk (o := _) (l := [11, 6, 4, 2]) rfl (by kernel_rfl) (Want.none rfl) rfl (ltN rfl) (EF.buildSlice1 rfl Try.underlying89 z28 zero28 (by simp [Value.cells, Bs.len]) (by decide) rfl rfl (Bs.len _) (by decide)) (by kernel_rfl) ?_
           rintro _ _ ⟨b212, rfl, rfl⟩
           refine ⟨?_, ?_⟩
           ·rw [List.forall_mem_cons, List.forall_mem_cons, List.forall_mem_cons, List.forall_mem_cons]
            refine ⟨?_, ?_, ?_, ?_, fun _ h => (by cases h)⟩
            ·exact Look.mk rfl rfl rfl (QR.load1 rfl rfl g3 (Route.sub_if_ _))
            ·exact Look.mk rfl rfl rfl (QR.load rfl rfl g28 (Route.sub_from_ _))
            ·exact Look.mk rfl rfl rfl (QR.load rfl rfl g28 (Route.sub_from_ _))
            ·exact Look.mk rfl rfl rfl (QR.load1 rfl rfl g3 (Route.sub_if_ _))
           refine ?_
           refine Dw.eff (i := 8) (by kernel_rfl) (by kernel_rfl) ?_
           refine One.mk (o := _) (l := [13, 11]) rfl (by kernel_rfl) (Want.none rfl) rfl (ltN rfl) (EF.call rfl ce34 rfl (.cons (by repeat constructor) Takes.nil) (fun F' hle hr => dropT F' hord hM x.r.if_.val (xs := [x.r.from_, x.r.from_]) (by simp) (argSl_all Bs.len (hr b205 _ (by repeat constructor))))) (by kernel_rfl) ?_
           rintro v206 _ ⟨_, rfl, rfl⟩
           refine ⟨?_, ?_⟩
           ·rw [List.forall_mem_cons, List.forall_mem_cons]
            refine ⟨?_, ?_, fun _ h => (by cases h)⟩
            ·refine Look.app ?_
             exact Look.mk rfl rfl rfl (QR.load rfl rfl g28 (Route.sub_from_ _))
            ·refine Look.app ?_
             exact Look.mk rfl rfl rfl (QR.load1 rfl rfl g3 (Route.sub_if_ _))
           refine ?_
           refine J.app ?_
           refine Dw.eff (i := 15) (by kernel_rfl) (by kernel_rfl) ?_
           refine One.mk (o := _) (l := []) rfl (by kernel_rfl) (Want.none rfl) rfl (ltN rfl) (EF.call rfl ce45 rfl (.cons (by repeat constructor) (.cons (by repeat constructor) Takes.nil)) (fun F' hle hr => rdrop_spec F' hh hL x.r.if_.val (xs := [x.r.from_]) (by simp) (argSl_one Bs.len (hr b212 _ (by repeat constructor))))) (by kernel_rfl) ?_
           rintro v213 _ ⟨_, ⟨a2, c2, hh2, rfl⟩, rfl⟩
           refine ⟨fun _ h => (by cases h), ?_⟩
           refine J.app ?_
           refine Dw.slCase (v := v206) (xs := LM.filter (dropP x.r.if_.val [x.r.from_, x.r.from_])) (by repeat constructor) (fun av206 cv206 hvv206 hhv206 => ?_)
           subst hvv206
           refine Dw.slCase (v := v213) (xs := L.filter (dropP x.r.if_.val [x.r.from_])) (by repeat constructor) (fun av213 cv213 hvv213 hhv213 => ?_)
           subst hvv213
           have hl2 := List.length_filter_le (dropP x.r.if_.val [x.r.from_, x.r.from_]) LM
           have hl3 := List.length_filter_le (dropP x.r.if_.val [x.r.from_]) L
           refine Dw.eff (i := 16) (by kernel_rfl) (by kernel_rfl) ?_
           refine One.mk (o := _) (l := []) rfl (by kernel_rfl) (Want.none rfl) rfl (ltN rfl) (EF.call rfl ce16 rfl (.cons (by repeat constructor) (.cons (by repeat constructor) Takes.nil)) (fun F' hle hr => sameR F' hhv206 hhv213 (by omega) (by omega))) (by kernel_rfl) ?_
           rintro _ _ ⟨_, ⟨rfl, rfl⟩, rfl⟩
           refine ⟨fun _ h => (by cases h), ?_⟩
           refine J.app ?_
           refine Dw.eff (i := 17) (by kernel_rfl) (by kernel_rfl) ?_
           refine One.mk (o := _) (l := []) rfl (by kernel_rfl) (Want.none rfl) rfl (ltN rfl) ((QP.assign rfl rfl).eff) (by kernel_rfl) ?_
           rintro _ _ ⟨rfl, rfl⟩
           refine ⟨fun _ h => (by cases h), ?_⟩
           refine Dw.nil (by kernel_rfl) ?_
           refine hk32 _ _ ?_
           refine Run.ret ?_
           have hact : actM most M now x = M.filter fun e => !dropP x.r.if_.val [x.r.from_] e.2 := by unfold actM; rw [if_neg c25, if_neg c54, if_neg c71, if_neg c130, if_neg c150, if_neg c164, if_neg c186, if_pos c197]
           rw [hact]
           exact J.ends (res_tmp rfl rfl) (.cons (by repeat constructor) (.cons (by repeat constructor) (.cons (by repeat constructor) Takes.nil))) ⟨_, _, _, _, rfl, hh2, Nat.le_succ_of_le (List.length_filter_le _ _), fun hLM hmm => by subst hLM; exact ⟨decide_eq_true (by rw [drop_two]), hord.filter fun s => !dropP x.r.if_.val [x.r.from_] s⟩, st_eq (by rw [drop_two]) rfl⟩
         ·skip
          refine One.mk (o := _) (l := [11, 6, 4, 2]) rfl (by kernel_rfl) (Want.none rfl) rfl (ltN rfl) (EF.buildSlice1 rfl Try.underlying89 z28 zero28 (by simp [Value.cells, Bs.len]) (by decide) rfl rfl (Bs.len _) (by decide)) (by kernel_rfl) ?_
          rintro _ _ ⟨b212, rfl, rfl⟩
          refine ⟨?_, ?_⟩
          ·rw [List.forall_mem_cons, List.forall_mem_cons, List.forall_mem_cons, List.forall_mem_cons]
           refine ⟨?_, ?_, ?_, ?_, fun _ h => (by cases h)⟩
           ·exact Look.mk rfl rfl rfl (QR.load1 rfl rfl g3 (Route.sub_if_ _))
           ·exact Look.mk rfl rfl rfl (QR.load rfl rfl g28 (Route.sub_from_ _))
           ·exact Look.mk rfl rfl rfl (QR.load rfl rfl g28 (Route.sub_from_ _))
           ·exact Look.mk rfl rfl rfl (QR.load1 rfl rfl g3 (Route.sub_if_ _))
          refine ?_
          refine Dw.eff (i := 7) (by kernel_rfl) (by kernel_rfl) ?_
          refine One.mk (o := _) (l := [13, 11, 2]) rfl (by kernel_rfl) (Want.none rfl) rfl (ltN rfl) (EF.buildSliceN (enc := Bs.enc) (xs := [((x).r).from_, ((x).r).from_]) rfl Try.underlying89 z28 zero28 (by simp [Value.cells, Bs.len]) (by decide) rfl rfl rfl Bs.len (by decide)) (by kernel_rfl) ?_
          rintro _ _ ⟨b205, rfl, rfl⟩
          refine ⟨?_, ?_⟩
          ·rw [List.forall_mem_cons, List.forall_mem_cons, List.forall_mem_cons]
           refine ⟨?_, ?_, ?_, fun _ h => (by cases h)⟩
           ·exact Look.mk rfl rfl rfl (QR.load rfl rfl g28 (Route.sub_from_ _))
           ·exact Look.mk rfl rfl rfl (QR.load1 rfl rfl g3 (Route.sub_if_ _))
           ·exact Look.mk rfl rfl rfl (QR.load1 rfl rfl g3 (Route.sub_if_ _))
          refine ?_
          refine Dw.eff (i := 8) (by kernel_rfl) (by kernel_rfl) ?_
          refine One.mk (o := _) (l := [13, 11]) rfl (by kernel_rfl) (Want.none rfl) rfl (ltN rfl) (EF.call rfl ce34 rfl (.cons (by repeat constructor) Takes.nil) (fun F' hle hr => dropT F' hord hM x.r.if_.val (xs := [x.r.from_, x.r.from_]) (by simp) (argSl_all Bs.len (hr b205 _ (by repeat constructor))))) (by kernel_rfl) ?_
          rintro v206 _ ⟨_, rfl, rfl⟩
          refine ⟨?_, ?_⟩
          ·rw [List.forall_mem_cons, List.forall_mem_cons]
           refine ⟨?_, ?_, fun _ h => (by cases h)⟩
           ·refine Look.app ?_
            exact Look.mk rfl rfl rfl (QR.load rfl rfl g28 (Route.sub_from_ _))
           ·refine Look.app ?_
            exact Look.mk rfl rfl rfl (QR.load1 rfl rfl g3 (Route.sub_if_ _))
          refine ?_
          refine J.app ?_
          refine Dw.eff (i := 15) (by kernel_rfl) (by kernel_rfl) ?_
          refine One.mk (o := _) (l := []) rfl (by kernel_rfl) (Want.none rfl) rfl (ltN rfl) (EF.call rfl ce45 rfl (.cons (by repeat constructor) (.cons (by repeat constructor) Takes.nil)) (fun F' hle hr => rdrop_spec F' hh hL x.r.if_.val (xs := [x.r.from_]) (by simp) (argSl_one Bs.len (hr b212 _ (by repeat constructor))))) (by kernel_rfl) ?_
          rintro v213 _ ⟨_, ⟨a2, c2, hh2, rfl⟩, rfl⟩
          refine ⟨fun _ h => (by cases h), ?_⟩
          refine J.app ?_
          refine Dw.slCase (v := v206) (xs := LM.filter (dropP x.r.if_.val [x.r.from_, x.r.from_])) (by repeat constructor) (fun av206 cv206 hvv206 hhv206 => ?_)
          subst hvv206
          refine Dw.slCase (v := v213) (xs := L.filter (dropP x.r.if_.val [x.r.from_])) (by repeat constructor) (fun av213 cv213 hvv213 hhv213 => ?_)
          subst hvv213
          have hl2 := List.length_filter_le (dropP x.r.if_.val [x.r.from_, x.r.from_]) LM
          have hl3 := List.length_filter_le (dropP x.r.if_.val [x.r.from_]) L
          refine Dw.eff (i := 16) (by kernel_rfl) (by kernel_rfl) ?_
          refine One.mk (o := _) (l := []) rfl (by kernel_rfl) (Want.none rfl) rfl (ltN rfl) (EF.call rfl ce16 rfl (.cons (by repeat constructor) (.cons (by repeat constructor) Takes.nil)) (fun F' hle hr => sameR F' hhv206 hhv213 (by omega) (by omega))) (by kernel_rfl) ?_
          rintro _ _ ⟨_, ⟨rfl, rfl⟩, rfl⟩
          refine ⟨fun _ h => (by cases h), ?_⟩
          refine J.app ?_
          refine Dw.eff (i := 17) (by kernel_rfl) (by kernel_rfl) ?_
          refine One.mk (o := _) (l := []) rfl (by kernel_rfl) (Want.none rfl) rfl (ltN rfl) ((QP.assign rfl rfl).eff) (by kernel_rfl) ?_
          rintro _ _ ⟨rfl, rfl⟩
          refine ⟨fun _ h => (by cases h), ?_⟩
          refine Dw.nil (by kernel_rfl) ?_
          refine hk32 _ _ ?_
          refine Run.ret ?_
          have hact : actM most M now x = M.filter fun e => !dropP x.r.if_.val [x.r.from_] e.2 := by unfold actM; rw [if_neg c25, if_neg c54, if_neg c71, if_neg c130, if_neg c150, if_neg c164, if_neg c186, if_pos c197]
          rw [hact]
          exact J.ends (res_tmp rfl rfl) (.cons (by repeat constructor) (.cons (by repeat constructor) (.cons (by repeat constructor) Takes.nil))) ⟨_, _, _, _, rfl, hh2, Nat.le_succ_of_le (List.length_filter_le _ _), fun hLM hmm => by subst hLM; exact ⟨decide_eq_true (by rw [drop_two]), hord.filter fun s => !dropP x.r.if_.val [x.r.from_] s⟩, st_eq (by rw [drop_two]) rfl⟩
        ·skip
         refine Sq.quiet (i := 1) rfl (Want.none rfl) rfl (ltN rfl) (QP.assign rfl rfl).read ?_
         refine Sq.nil ?_
         refine hk31 _ _ ?_
         refine Run.cond_f rfl ?_
         refine Run.skip ?_
         refine hk3 _ _ ?_
         refine Run.seq fun k33 hk33 => ?_
         refine Run.region ?_
         show Sq _ _ _ [0] _ _ _ _
         refine Sq.quiet (i := 0) rfl (Want.none rfl) rfl (ltN rfl) (QP.assign rfl rfl).read ?_
         refine Sq.nil ?_
         refine hk33 _ _ ?_
         refine Run.ret ?_
         have hact : actM most M now x = M := by unfold actM; rw [if_neg c25, if_neg c54, if_neg c71, if_neg c130, if_neg c150, if_neg c164, if_neg c186, if_neg c197]
         rw [hact]
         exact J.ends (res_tmp rfl rfl) (.cons (by repeat constructor) (.cons (by repeat constructor) (.cons (by repeat constructor) Takes.nil))) ⟨_, L, a, c, rfl, hh, by omega, fun hLM hmm => by subst hLM; exact ⟨rfl, hord⟩, rfl⟩
end Slb
