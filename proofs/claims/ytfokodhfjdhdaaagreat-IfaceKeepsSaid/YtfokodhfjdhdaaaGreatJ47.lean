/- J47: a part of the proof that a law of this package holds for every input; no condition. -/
import Derived.Test.YtfokodhfjdhdaaaGreatJ46
namespace Slb
open Go Go.Proofs
set_option maxRecDepth 20000
theorem wrapL_size (bs : List UInt8) : (wrapL bs).length = 4 + bs.length := by unfold wrapL; simp; omega
/-- A group and one Tlv more take two packets. -/
def FullB (src : Bs 16) (mtu : Int) (g : List (Tlv × List Int)) (p : Tlv × List Int) : Prop := (pkRun src mtu (g ++ [p])).2.2.length = 1
inductive ChainG (src : Bs 16) (mtu : Int) : List (List (Tlv × List Int)) → List (Tlv × List Int) → Prop
 | one (g : List (Tlv × List Int)) : ChainG src mtu [] g
 | snoc {gs g p r} : ChainG src mtu gs g → FullB src mtu g p → ChainG src mtu (gs ++ [g]) (p :: r)
theorem ChainG.more {src : Bs 16} {mtu : Int} {gs g} (h : ChainG src mtu gs g) (hg : g = [] → gs = []) (r : List (Tlv × List Int)) : ChainG src mtu gs (g ++ r) := by
 cases h with
 | one => exact .one _
 | snoc h1 h2 => exact .snoc h1 h2
theorem ChainG.get {src : Bs 16} {mtu : Int} {gs g} (h : ChainG src mtu gs g) : ∀ i, i < gs.length → ∃ q p r, (gs ++ [g])[i]? = some q ∧ (gs ++ [g])[i + 1]? = some (p :: r) ∧ FullB src mtu q p := by
 induction h with
 | one => intro i hi; exact absurd hi (by simp)
 | @snoc gs g p r h1 h2 ih =>
   intro i hi
   rw [List.length_append, List.length_singleton] at hi
   by_cases hl : i < gs.length
   · obtain ⟨q, p2, r2, e1, e2, e3⟩ := ih i hl
     refine ⟨q, p2, r2, ?_, ?_, e3⟩
     · rw [List.getElem?_append_left (by simp; omega)]; exact e1
     · rw [List.getElem?_append_left (by simp; omega)]; exact e2
   · have hi2 : i = gs.length := by omega
     subst hi2
     refine ⟨g, p, r, ?_, ?_, h2⟩
     · rw [List.getElem?_append_left (by simp), List.getElem?_append_right (Nat.le_refl _)]; simp
     · rw [List.getElem?_append_right (by simp)]; simp
/-- What stands after some Tlvs. -/
structure PkI (src : Bs 16) (mtu : Int) (ps : List (Tlv × List Int)) (s : PackTold × List UInt8 × List (List UInt8)) (gs : List (List (Tlv × List Int))) (g : List (Tlv × List Int)) : Prop where
 out : s.2.2.map (parseF src) = gs.map (fun q => (q, 0))
 now : ∃ pl x, splitF s.2.1 = (pl, 0) ∧ runF (begF src) pl = (g, x) ∧ ToldX s.1 x
 all : gs.flatten ++ g = ps
 some : ∀ q ∈ gs, q ≠ []
 few : ∀ o ∈ s.2.2, (o.length : Int) ≤ mtu
 len : (s.2.1.length : Int) + 4 ≤ mtu
 run : pkRun src mtu g = (s.1, s.2.1, [])
 chain : ChainG src mtu gs g
 nil : g = [] → gs = []
 last : ps ≠ [] → g ≠ []
theorem pkRun_snoc (src : Bs 16) (mtu : Int) (ps : List (Tlv × List Int)) (p : Tlv × List Int) : pkRun src mtu (ps ++ [p]) = pkStep src mtu (pkRun src mtu ps) p := by
 unfold pkRun
 rw [List.foldl_append]
 rfl
theorem addR_t {td : PackTold} {t : Tlv} {st : List Int} {l : List UInt8} {mtu : Int} (h : (l.length : Int) + (addL td t st).length + 4 ≤ mtu) : addR td t st l mtu = ((ahead td t).1, l ++ addL td t st, true) := by
 unfold addR
 rw [if_pos h]
theorem addR_n {td : PackTold} {t : Tlv} {st : List Int} {l : List UInt8} {mtu : Int} (h : ¬ (l.length : Int) + (addL td t st).length + 4 ≤ mtu) : addR td t st l mtu = (td, l, false) := by
 unfold addR
 rw [if_neg h]
theorem pk_step {src : Bs 16} {mtu : Int} (hm : mtu ≤ 65539) {ps s gs g} (h : PkI src mtu ps s gs g) {x : TlvX} (hf : Fine (tlvS x) x.l) (hfit : ((addL (toldB src) (tlvS x) x.l).length : Int) + 4 ≤ mtu) : ∃ gs' g', PkI src mtu (ps ++ [tlvM x]) (pkStep src mtu s (tlvM x)) gs' g' := by
 obtain ⟨td, l, out⟩ := s
 obtain ⟨pl, x0, h1, h2, h3⟩ := h.now
 have hlen := h.len
 simp only at h1 h2 h3 hlen
 by_cases hc : (l.length : Int) + (addL td (tlvS x) x.l).length + 4 ≤ mtu
 · have hr : addR td (tlvM x).1 (tlvM x).2 l mtu = ((ahead td (tlvS x)).1, l ++ addL td (tlvS x) x.l, true) := addR_t hc
   have hs : pkStep src mtu (td, l, out) (tlvM x) = ((ahead td (tlvS x)).1, l ++ addL td (tlvS x) x.l, out) := by
     unfold pkStep
     show (if (addR td (tlvM x).1 (tlvM x).2 l mtu).2.2 = true then _ else _) = _
     rw [hr]
     rfl
   have hs0 : pkStep src mtu (td, l, []) (tlvM x) = ((ahead td (tlvS x)).1, l ++ addL td (tlvS x) x.l, []) := by
     unfold pkStep
     show (if (addR td (tlvM x).1 (tlvM x).2 l mtu).2.2 = true then _ else _) = _
     rw [hr]
     rfl
   obtain ⟨p1, x1, k1, k2, k3⟩ := add_reads h3 hf
   rw [hs]
   refine ⟨gs, g ++ [tlvM x], h.out, ⟨pl ++ p1, x1, ?_, ?_, k3⟩, ?_, h.some, h.few, ?_, ?_, h.chain.more h.nil _, ?_, ?_⟩
   · show splitF (l ++ addL td (tlvS x) x.l) = _
     rw [split_app _ _ _ (Nat.le_refl _) (by rw [h1]), h1, k1]
   · rw [run_append, h2, k2]; rfl
   · rw [← List.append_assoc, h.all]
   · show ((l ++ addL td (tlvS x) x.l).length : Int) + 4 ≤ mtu
     rw [List.length_append]; omega
   · rw [pkRun_snoc, h.run]; exact hs0
   · intro h9; simp at h9
   · intro _ h9; simp at h9
 · have hr : addR td (tlvM x).1 (tlvM x).2 l mtu = (td, l, false) := addR_n hc
   have hr2 : addR (toldB src) (tlvM x).1 (tlvM x).2 [] mtu = ((ahead (toldB src) (tlvS x)).1, addL (toldB src) (tlvS x) x.l, true) := addR_t (t := tlvS x) (st := x.l) (l := []) (by simp; omega)
   have hs : ∀ out, pkStep src mtu (td, l, out) (tlvM x) = ((ahead (toldB src) (tlvS x)).1, addL (toldB src) (tlvS x) x.l, out ++ [wrapL l]) := by
     intro out
     unfold pkStep
     show (if (addR td (tlvM x).1 (tlvM x).2 l mtu).2.2 = true then _ else _) = _
     rw [hr, if_neg (by simp), hr2]
   have hg : g ≠ [] := by
     intro h9
     have hrun := h.run
     rw [h9] at hrun
     have h10 : (toldB src, ([] : List UInt8), ([] : List (List UInt8))) = (td, l, []) := hrun
     simp only [Prod.mk.injEq] at h10
     rw [← h10.1, ← h10.2.1] at hc
     exact hc (by simp; omega)
   obtain ⟨p1, x1, k1, k2, k3⟩ := add_reads (told_begin src) hf
   rw [hs]
   refine ⟨gs ++ [g], [tlvM x], ?_, ⟨p1, x1, k1, k2, k3⟩, ?_, ?_, ?_, ?_, ?_, .snoc h.chain ?_, ?_, ?_⟩
   · show (out ++ [wrapL l]).map (parseF src) = _
     rw [List.map_append, List.map_append, show out.map (parseF src) = _ from h.out]
     congr 1
     show [parseF src (wrapL l)] = [(g, 0)]
     rw [parse_wrap (by omega), h1, h2]
   · rw [List.flatten_append, List.flatten_singleton, h.all]
   · intro q hq
     rcases List.mem_append.1 hq with hq | hq
     · exact h.some q hq
     · rw [List.mem_singleton.1 hq]; exact hg
   · intro o ho
     rcases List.mem_append.1 ho with ho | ho
     · exact h.few o ho
     · rw [List.mem_singleton.1 ho, wrapL_size]; omega
   · exact hfit
   · show pkStep src mtu (toldB src, [], []) (tlvM x) = _
     unfold pkStep
     show (if (addR (toldB src) (tlvM x).1 (tlvM x).2 [] mtu).2.2 = true then _ else _) = _
     rw [hr2]
     rfl
   · unfold FullB
     rw [pkRun_snoc, h.run]
     show (pkStep src mtu (td, l, []) (tlvM x)).2.2.length = 1
     rw [hs]
     rfl
   · intro h9; cases h9
   · intro _ h9; cases h9
theorem pk_all {src : Bs 16} {mtu : Int} (hm0 : 64 ≤ mtu) (hm : mtu ≤ 65539) {ts : List TlvX} (hf : ∀ x ∈ ts, Fine (tlvS x) x.l ∧ ((addL (toldB src) (tlvS x) x.l).length : Int) + 4 ≤ mtu) : ∀ n, n ≤ ts.length → ∃ gs g, PkI src mtu ((ts.take n).map tlvM) (pkRun src mtu ((ts.take n).map tlvM)) gs g
 | 0, _ => ⟨[], [], rfl, ⟨[], begF src, splitF_nil, rfl, told_begin src⟩, rfl, (by simp), (by intro o ho; cases ho), (by show ((0 : Nat) : Int) + 4 ≤ mtu; omega), rfl, .one _, fun _ => rfl, fun h => absurd rfl h⟩
 | n + 1, hn => by
   obtain ⟨gs, g, h⟩ := pk_all hm0 hm hf n (by omega)
   obtain ⟨x, hi⟩ : ∃ x, ts[n]? = some x := ⟨_, GE (by omega)⟩
   obtain ⟨h1, h2⟩ := hf x (List.mem_of_getElem? hi)
   rw [take_succ_get hi, List.map_append, List.map_cons, List.map_nil, pkRun_snoc]
   exact pk_step hm h h1 h2
theorem fine_of {src : Bs 16} {mtu : Int} {x : TlvX} (hw : (tlvS x).WF) (hr : ∀ n ∈ x.l, 0 ≤ n ∧ n < 4294967296) (hf : fitsF src mtu (tlvS x) x.l = 0) : Fine (tlvS x) x.l ∧ ((addL (toldB src) (tlvS x) x.l).length : Int) + 4 ≤ mtu := by
 have hc := fits_chk hf
 unfold fitsF at hf
 rw [if_neg (by rw [hc]; simp)] at hf
 split at hf
 · cases hf
 · rename_i h8
   split at hf
   · rename_i h9
     refine ⟨⟨hw, hc, rfl, hr, fun a b => ?_⟩, h9⟩
     exact Decidable.byContradiction fun h10 => h8 ⟨⟨a, b⟩, h10⟩
   · cases hf
/-- What Pack's packets say, and that they are full. -/
theorem back_law {src : Bs 16} {mtu : Int} {ts : List TlvX} (he : packErr src mtu ts = 0) (hw : ∀ x ∈ ts, (tlvS x).WF) (hr : ∀ x ∈ ts, ∀ n ∈ x.l, 0 ≤ n ∧ n < 4294967296) :
   ∃ gs : List (List (Tlv × List Int)), (packF src mtu ts).map (parseF src) = gs.map (fun q => (q, 0)) ∧ gs.flatten = ts.map tlvM ∧ (∀ q ∈ gs, q ≠ []) ∧ (∀ o ∈ packF src mtu ts, (o.length : Int) ≤ mtu) ∧
     ∀ i, i + 1 < gs.length → ∃ q p r, gs[i]? = some q ∧ gs[i + 1]? = some (p :: r) ∧ FullB src mtu q p := by
 have hmt : ¬ (mtu < 64 ∨ mtu > 65539) := by
   intro h9
   unfold packErr at he
   rw [if_pos h9] at he
   cases he
 have ha : addErr src mtu ts = 0 := by unfold packErr at he; rwa [if_neg hmt] at he
 have hf := fun x hx => fine_of (hw x hx) (hr x hx) (addErr_zero ha x hx)
 obtain ⟨gs, g, h⟩ := pk_all (by omega) (by omega) hf ts.length (Nat.le_refl _)
 rw [List.take_length] at h
 have hp : packF src mtu ts = flushF src mtu (ts.map tlvM) := by unfold packF; rw [if_neg (by rw [he]; simp)]
 rw [hp]
 unfold flushF
 by_cases h0 : ts.map tlvM = []
 · rw [if_pos h0]
   exact ⟨[], rfl, by rw [h0]; rfl, by simp, by simp, fun i hi => absurd hi (by simp)⟩
 · rw [if_neg h0]
   obtain ⟨pl, x0, h1, h2, h3⟩ := h.now
   have hlen := h.len
   refine ⟨gs ++ [g], ?_, ?_, ?_, ?_, ?_⟩
   · rw [List.map_append, List.map_append, h.out]
     congr 1
     show [parseF src (wrapL _)] = [(g, 0)]
     rw [parse_wrap (by omega), h1, h2]
   · rw [List.flatten_append, List.flatten_singleton, h.all]
   · intro q hq
     rcases List.mem_append.1 hq with hq | hq
     · exact h.some q hq
     · rw [List.mem_singleton.1 hq]; exact h.last h0
   · intro o ho
     rcases List.mem_append.1 ho with ho | ho
     · exact h.few o ho
     · rw [List.mem_singleton.1 ho, wrapL_size]; omega
   · intro i hi
     rw [List.length_append, List.length_singleton] at hi
     exact h.chain.get i (by omega)
end Slb
