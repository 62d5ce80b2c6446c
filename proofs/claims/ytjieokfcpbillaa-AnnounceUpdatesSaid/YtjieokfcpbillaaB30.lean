/- Base 30: a slice of one's own is lent to a call that reads it. -/
import Derived.Test.YtjieokfcpbillaaB23
namespace Slb
open Go Go.Proofs
theorem Spec.lendSl {P : Program} {f : FuncId} {args : Array Value} {m : List HProp} {F : Fr} {R : Value → List HProp → Prop} {α : Type} {enc : α → List Value} {e : TypeId} {z : Nat} {a : Option Addr} {c : Nat} {xs : List α} (hl : ∀ x, (enc x).length = z)
    (h : ∀ F' : Fr, PH.le F.h F'.h → ArgSl F' a z enc xs → Spec P f args m F' R) : Spec P f args (slA e z enc (.slice a xs.length c) xs :: m) F fun v S' => ∃ S1, R v S1 ∧ S' = slA e z enc (.slice a xs.length c) xs :: S1 := fun w s => by
  obtain ⟨s1, s2, s3, s4, k, ⟨h1, h2, dd, rfl, hs, hm⟩, hd, hle⟩ := s
  rcases hs with ⟨hv, hx, rfl⟩ | ⟨b, off, c', pre, spare, post, hv, rfl, h3, h4, h5⟩
  · subst hx
    simp only [Value.slice.injEq] at hv
    obtain ⟨rfl, _, rfl⟩ := hv
    have sm : Sat m F w := ⟨s1, s2, s3, s4, h2, hm, by rw [PH.none_union] at hd; exact hd, by rw [PH.none_union] at hle; exact hle⟩
    refine (h F (PH.le.refl _) argSl_nil w sm).mono fun e' w' ⟨v, S', he, hR, s'⟩ => ⟨v, _, he, ⟨S', hR, rfl⟩, ?_⟩
    obtain ⟨t1, t2, t3, t4, k', g1, g2, g3⟩ := s'
    exact ⟨t1, t2, t3, t4, k', ⟨PH.none, k', PH.none_disj k', (PH.none_union k').symm, .inl ⟨rfl, rfl, rfl⟩, g1⟩, g2, g3⟩
  · have hv' := hv
    simp only [Value.slice.injEq] at hv'
    obtain ⟨rfl, _, rfl⟩ := hv'
    have sp : Sat (pts b (.cells (pre ++ (xs.flatMap enc ++ (spare ++ post))).toArray e (0, 0)) :: m) F w := ⟨s1, s2, s3, s4, _, ⟨_, _, dd, rfl, rfl, hm⟩, hd, hle⟩
    obtain ⟨F', sm, hle', hr, back⟩ := Sat.lend (m := m) (r := [pts b (.cells (pre ++ (xs.flatMap enc ++ (spare ++ post))).toArray e (0, 0))]) (sp.perm List.perm_append_comm (S' := m ++ [_]))
    have ha : ArgSl F' (some ⟨b, off, none⟩) z enc xs := fun _ => ⟨b, off, rfl, _, _, _, hr _ _ List.mem_cons_self, pre, spare ++ post, by simp, h3, flatMap_len hl xs⟩
    refine (h F' hle' ha w sm).mono fun e' w' ⟨v, S', he, hR, s'⟩ => ⟨v, _, he, ⟨S', hR, rfl⟩, ?_⟩
    have sb := (back _ _ s').perm (List.perm_append_comm (l₁ := S') (l₂ := [_]))
    exact sb.head fun k hk => .inr ⟨b, off, c, pre, spare, post, rfl, hk, h3, h4, h5⟩
end Slb
