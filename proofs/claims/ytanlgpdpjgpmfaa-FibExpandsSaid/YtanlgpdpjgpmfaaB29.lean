/- Base 29: a string's bytes are copied. -/
import Derived.Test.YtanlgpdpjgpmfaaB27
namespace Slb
open Go Go.Proofs
section
variable {P : Program} {N : Nat} {G : Env} {S : List HProp} {F : Fr} {o : Oper} {t : TypeId} {x y : Operand}
/-- A string's bytes are copied into a slice. -/
theorem EF.copyStr {b off n c : Nat} {e : TypeId} {xs : List UInt8} {l l' : List Value} {ty : TypeId} {C : List Value → List HProp} {ts : Array TypeId} (ho : o.op = .call ⟨.builtin .copy, #[x, y], ts⟩) (hx : opv G x = some (.slice (some ⟨b, off, none⟩) n c)) (hy : opv G y = some (.string ⟨xs.toArray⟩))
    (ht : ts[0]? = some t) (hu : P.underlying t = some (.slice e)) (hz : Sz P e 1) (hn : xs.length ≤ n) [u : UpdBlk b S l ty C] (hs : SetL l off xs.length (bytesV xs) l') : EF P N G S F o fun v S2 => v = .int .i64 xs.length ∧ S2 = C l' := fun a w st => by
  obtain ⟨r, s1, back⟩ := Sat.upd (u.upd l') st.sat
  have hb : w.heap[b]? = some (.cells l.toArray ty (0, 0)) := s1.at
  obtain ⟨pre, mid, post, rfl, rfl, rfl, hm, hlen⟩ := hs
  obtain ⟨w', e1, e2, e3, e4, e5, e6⟩ := run_storeCells (P := P) (off := pre.length) (bytesV xs) 0 w _ hb (by simp; omega) (bytesV_cell _)
  have hmap : #[x, y].map a.eval = #[.slice (some ⟨b, pre.length, none⟩) n c, .string ⟨xs.toArray⟩] := by simp [st.eval hx, st.eval hy]
  have hmin : Nat.min xs.length n = xs.length := Nat.min_eq_left hn
  have hsz : (ByteArray.mk xs.toArray).size = xs.length := by simp [ByteArray.size]
  have hext : (ByteArray.mk xs.toArray).extract 0 xs.length = ByteArray.mk xs.toArray := by
    rw [← hsz]
    exact ByteArray.extract_zero_size
  refine estep_value (v := .int .i64 xs.length) (w' := w') ?_ ⟨_, ⟨rfl, rfl⟩, back _ (s1.set _ e2 e3 e4 ?_ e6)⟩
  · unfold execOp
    simp only [ho, resolve, hmap]
    have hcells : (Builtin.firstCells 1 xs.length (.string ⟨xs.toArray⟩)).run P w = .ok (bytesV xs).toArray w := by
      unfold Builtin.firstCells
      simp only [hext, Sem.run_pure]
      congr 1
      apply Array.ext'
      simp [bytesV]
      intro a _; rfl
    simp [invoke, builtin, Builtin.copy_, ht, run_underlying hu, hz w, Builtin.lenOf, hsz, hmin, hcells, e1, goInt]
  · rw [e5]
    congr 3
    rw [hlen, ← hm]
    simp
end
end Slb
