/- R75: a part of the proof that a law of this package holds for every input; no condition. -/
import Derived.Test.YtmolpkkkndopcaaGreatR72
namespace Slb
open Go Go.Proofs
set_option maxRecDepth 20000
def ok45 (F : Fr) (x : Tlv) : Prop := x.WF ∧ SlIn F 1 (fun n => [Value.int .u32 n]) (fun n => 0 ≤ n ∧ n ≤ 4294967295) x.stamps
/-- Tlvs read in with their times. -/
theorem tlvs_of {F : Fr} : ∀ (l : List Tlv), (∀ x ∈ l, ok45 F x) → ∃ ts : List TlvX, ts.map tlvS = l ∧ ∀ y ∈ ts, TlvIn F y ∧ (tlvS y).WF ∧ ∀ n ∈ y.l, 0 ≤ n ∧ n < 4294967296
  | [], _ => ⟨[], rfl, by simp⟩
  | x :: l, h => by
    obtain ⟨ts, h1, h2⟩ := tlvs_of l (fun y hy => h y (List.mem_cons_of_mem _ hy))
    obtain ⟨hw, xs, e, l1, g, u⟩ := h x (by simp)
    have t : tlvS ⟨x, x.stamps.a, x.stamps.c, xs⟩ = x := by show ({ x with stamps := ⟨x.stamps.a, xs.length, x.stamps.c⟩ } : Tlv) = x; rw [← e]
    refine ⟨⟨x, x.stamps.a, x.stamps.c, xs⟩ :: ts, by rw [List.map_cons, t, h1], fun y hy => ?_⟩
    rcases List.mem_cons.1 hy with rfl | hy
    · exact ⟨g, by rw [t]; exact hw, fun n hn => by have := u n hn; omega⟩
    · exact h2 y hy
theorem tlvs_arg {F : Fr} {a : Option Addr} {ts : List TlvX} (h : ArgSl F a 68 Tlv.enc (ts.map tlvS)) : ArgSl F a 68 tlvE ts := by
  intro h0
  obtain ⟨b, off, h1, l, ty, fz, h2, h3⟩ := h (by rw [List.length_map]; exact h0)
  refine ⟨b, off, h1, l, ty, fz, h2, ?_⟩
  rw [List.length_map, List.flatMap_map] at h3
  exact h3
@[reducible] def tlsS (y : TlsX) : Slc := ⟨y.a, y.l.length, y.c⟩
theorem tlss_of {F : Fr} : ∀ (l : List Slc), (∀ s ∈ l, SlIn F 68 Tlv.enc (ok45 F) s) → ∃ ys : List TlsX, ys.map tlsS = l ∧ ∀ y ∈ ys, TlsIn F y
  | [], _ => ⟨[], rfl, by simp⟩
  | s :: l, h => by
    obtain ⟨ys, h1, h2⟩ := tlss_of l (fun y hy => h y (List.mem_cons_of_mem _ hy))
    obtain ⟨xs, e, l1, g, u⟩ := h s (by simp)
    obtain ⟨ts, rfl, h4⟩ := tlvs_of xs u
    rw [List.length_map] at e l1
    have t : tlsS ⟨s.a, s.c, ts⟩ = s := by show (⟨s.a, ts.length, s.c⟩ : Slc) = s; rw [← e]
    refine ⟨⟨s.a, s.c, ts⟩ :: ys, by rw [List.map_cons, t, h1], fun y hy => ?_⟩
    rcases List.mem_cons.1 hy with rfl | hy
    · exact ⟨tlvs_arg g, fun x hx => (h4 x hx).1, fun x hx => (h4 x hx).2.1, fun x hx => (h4 x hx).2.2, l1⟩
    · exact h2 y hy
theorem tlss_arg {F : Fr} {a : Option Addr} {ys : List TlsX} (h : ArgSl F a 1 (fun s : Slc => [Slc.v s]) (ys.map tlsS)) : ArgSl F a 1 tlsE ys := by
  intro h0
  obtain ⟨b, off, h1, l, ty, fz, h2, h3⟩ := h (by rw [List.length_map]; exact h0)
  refine ⟨b, off, h1, l, ty, fz, h2, ?_⟩
  rw [List.length_map, List.flatMap_map] at h3
  exact h3
end Slb
