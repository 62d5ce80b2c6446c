/- J89: a part of the proof that a law of this package holds for every input; no condition. -/
import Derived.Test.YtfokodhfjdhdaaaGreatJ88
namespace Slb
open Go Go.Proofs
set_option maxRecDepth 20000
def ok49 (F : Fr) (x : Tlv) : Prop := x.WF ∧ SlIn F 1 (fun n => [Value.int .u32 n]) (fun n => 0 ≤ n ∧ n ≤ 4294967295) x.stamps
def ok35 (F : Fr) (x : Law14Act) : Prop := x.WF ∧ SlIn F 68 Tlv.enc (ok49 (F)) x.l
/-- Tlvs read in with their times. -/
theorem tlvs_of {F : Fr} : ∀ (l : List Tlv), (∀ x ∈ l, ok49 F x) → ∃ ts : List TlvX, ts.map tlvS = l ∧ ∀ y ∈ ts, TlvIn F y ∧ (tlvS y).WF ∧ ∀ n ∈ y.l, 0 ≤ n ∧ n < 4294967296
 | [], _ => ⟨[], rfl, by simp⟩
 | x :: l, h => by
   obtain ⟨ts, h1, h2⟩ := tlvs_of l (fun y hy => h y (List.mem_cons_of_mem _ hy))
   obtain ⟨hw, xs, e, l1, g, u⟩ := h x (by simp)
   have t : tlvS ⟨x, x.stamps.a, x.stamps.c, xs⟩ = x := by show ({ x with stamps := ⟨x.stamps.a, xs.length, x.stamps.c⟩ } : Tlv) = x; rw [← e]
   refine ⟨⟨x, x.stamps.a, x.stamps.c, xs⟩ :: ts, by rw [List.map_cons, t, h1], fun y hy => ?_⟩
   rcases List.mem_cons.1 hy with rfl | hy
   · exact ⟨g, by rw [t]; exact hw, fun n hn => by have := u n hn; omega⟩
   · exact h2 y hy
theorem tlvs_arg {F : Fr} {a : Option Addr} {ts : List TlvX} (h : ArgSl F a 68 Tlv.enc (ts.map tlvS)) : ArgSl F a 68 tlvE ts := by
 intro h0
 obtain ⟨b, off, h1, l, ty, fz, h2, h3⟩ := h (by rw [List.length_map]; exact h0)
 refine ⟨b, off, h1, l, ty, fz, h2, ?_⟩
 rw [List.length_map, List.flatMap_map] at h3
 exact h3
theorem acts_of {F : Fr} : ∀ (l : List Law14Act), (∀ x ∈ l, ok35 F x) → ∃ ys : List ActX, ys.map actS = l ∧ ∀ y ∈ ys, ActIn F y
 | [], _ => ⟨[], rfl, by simp⟩
 | x :: l, h => by
   obtain ⟨ys, h1, h2⟩ := acts_of l (fun y hy => h y (List.mem_cons_of_mem _ hy))
   obtain ⟨hw, xs, e, l1, g, u⟩ := h x (by simp)
   obtain ⟨ts, rfl, h4⟩ := tlvs_of xs u
   rw [List.length_map] at e l1
   have t : actS ⟨x.kind, x.if_, x.now, x.to, x.l.a, x.l.c, ts⟩ = x := by show (⟨x.kind, x.if_, x.now, x.to, ⟨x.l.a, ts.length, x.l.c⟩⟩ : Law14Act) = x; rw [← e]
   refine ⟨⟨x.kind, x.if_, x.now, x.to, x.l.a, x.l.c, ts⟩ :: ys, by rw [List.map_cons, t, h1], fun y hy => ?_⟩
   rcases List.mem_cons.1 hy with rfl | hy
   · exact ⟨tlvs_arg g, fun x hx => (h4 x hx).1, fun x hx => (h4 x hx).2.1, fun x hx => (h4 x hx).2.2, l1, hw.2.1⟩
   · exact h2 y hy
theorem acts_arg {F : Fr} {a : Option Addr} {ys : List ActX} (h : ArgSl F a 20 Law14Act.enc (ys.map actS)) : ArgSl F a 20 actE ys := by
 intro h0
 obtain ⟨b, off, h1, l, ty, fz, h2, h3⟩ := h (by rw [List.length_map]; exact h0)
 refine ⟨b, off, h1, l, ty, fz, h2, ?_⟩
 rw [List.length_map, List.flatMap_map] at h3
 exact h3
end Slb
