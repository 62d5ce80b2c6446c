/- J40: a part of the proof that a law of this package holds for every input; no condition. -/
import Derived.Test.YtfokodhfjdhdaaaGreatJ39
import Derived.KernelRfl
namespace Slb
open Go Go.Proofs
set_option maxRecDepth 20000
theorem samesG (F : Fr) (L : List HProp) {a1 a2 : Option Addr} {c1 c2 n : Nat} {xs ys : List TlvX} (hn : n = ys.length) (hm1 : slA 49 68 tlvE (.slice a1 xs.length c1) xs ∈ L) (hm2 : rowsT xs ∈ L) (hxl : xs.length ≤ 4294967296) (hsl : ∀ x ∈ xs, x.l.length ≤ 4294967296)
   (hy : ∀ (F2 : Fr) (q : PH), PH.le F.h F2.h → stars L q → PH.le q F2.h → ArgSl F2 a2 68 tlvE ys ∧ ∀ y ∈ ys, TlvIn F2 y) :
   Spec Tryz.prog 29 #[.slice a1 xs.length c1, .slice a2 n c2] L F fun v S => ∃ b : Bool, v = .bool b ∧ (b = true ↔ xs.map tlvM = ys.map tlvM) ∧ S = L := by
 subst hn
 have h := Spec.lendL (P := Tryz.prog) (f := 29) (args := #[.slice a1 xs.length c1, .slice a2 ys.length c2]) (m := []) (F := F) (L := L) (R := fun v S => ∃ b : Bool, v = .bool b ∧ (b = true ↔ xs.map tlvM = ys.map tlvM) ∧ S = []) (fun F2 q hle hA hq => by
   have h1 := slA_frame (a := a1) (n := xs.length) (c := c1) (e := 49) (enc := tlvE) (xs := xs) tlvE_len hA hq hm1
   have ht : ∀ z ∈ xs, TlvIn F2 z := fun z hm => by
     obtain ⟨p, hp, hpq⟩ := stars_mem hm2 hA
     obtain ⟨p2, hp2, hpq2⟩ := stars_mem (List.mem_map_of_mem (f := stA) hm) hp
     exact slA_arg (fun _ => rfl) hp2 ((hpq2.trans hpq).trans hq)
   obtain ⟨h3, h4⟩ := hy F2 q hle hA hq
   exact rsames_spec F2 (c1 := c1) (c2 := c2) h1 h3 ht h4 hxl hsl)
 rw [List.append_nil] at h
 refine h.mono ?_
 rintro v S ⟨S1, ⟨b, h1, h2, rfl⟩, rfl⟩
 exact ⟨b, h1, h2, List.append_nil _⟩
theorem tlvIn_nil {F : Fr} {x : TlvX} (h : x.l = []) : TlvIn F x := by
 intro h0
 rw [h] at h0
 exact absurd h0 (by simp)

/-! ### The law's own example -/
def lvS : Bs 16 := ⟨[254, 128, 0, 0, 0, 0, 0, 0, 0, 0, 0, 0, 0, 0, 0, 1], rfl⟩
def lvA (k : UInt8) : Bs 16 := ⟨[k, 0, 0, 0, 0, 0, 0, 0, 0, 0, 0, 0, 0, 0, 0, 0], rfl⟩
def lvP (k : UInt8) : Pair := ⟨⟨lvA k, ⟨8, by decide⟩⟩, Prefix.zero⟩
def lvI : Bs 8 := ⟨[0, 0, 0, 0, 0, 0, 0, 1], rfl⟩
def lvT (k : UInt8) : Tlv := ⟨8, 0, 100, 1, 0, 32, 0, false, false, lvI, lvS, lvP k, ⟨none, 0, 0⟩⟩
def lvX (k : UInt8) : TlvX := ⟨lvT k, none, 0, []⟩
def lvR : List UInt8 := [42, 2, 0, 38, 6, 10, 0, 0, 0, 0, 0, 0, 0, 0, 0, 1, 8, 11, 2, 0, 8, 0, 0, 100, 0, 1, 0, 32, 32, 8, 11, 2, 0, 8, 0, 0, 100, 0, 1, 0, 32, 33]
/-- Parse of one of the packets held. -/
theorem parse_held (F : Fr) (src : Bs 16) {os : List SlX} {y : SlX} (hy : y ∈ os) (hl : y.l.length ≤ 1000000) : Spec Tryz.prog 28 #[.agg (Bs.enc src).toArray, .slice y.a y.n y.c] [rowsS os] F fun v S => ∃ (ts : List TlvX) (va : Value), v = .tuple #[va, .int .i64 (parseF src y.l).2] ∧ ts.map tlvM = (parseF src y.l).1 ∧ S = [rowsS os, slA 49 68 tlvE va ts, rowsT ts] := by
 have h := Spec.lendL (P := Tryz.prog) (f := 28) (args := #[.agg (Bs.enc src).toArray, .slice y.a y.n y.c]) (m := []) (F := F) (L := [rowsS os]) (R := fun v S => ∃ (ts : List TlvX) (va : Value), v = .tuple #[va, .int .i64 (parseF src y.l).2] ∧ ts.map tlvM = (parseF src y.l).1 ∧ S = [slA 49 68 tlvE va ts, rowsT ts]) (fun F2 q hle hA hq => by
   have ht : ArgSl F2 y.a 1 bytE y.l := by
     obtain ⟨p, hp, hpq⟩ := stars_mem (A := rowsS os) (by simp) hA
     obtain ⟨p2, hp2, hpq2⟩ := stars_mem (List.mem_map_of_mem (f := slB) hy) hp
     have hp3 : slA 5 1 bytE (.slice y.a y.l.length y.c) y.l p2 := by have h9 : slB y p2 := hp2; unfold slB at h9; rw [y.h] at h9; exact h9
     exact slA_arg (fun _ => rfl) hp3 ((hpq2.trans hpq).trans hq)
   rw [y.h]
   exact parse_spec F2 src hl ht)
 rw [List.append_nil] at h
 refine h.mono ?_
 rintro v S ⟨S1, ⟨ts, va, h1, h2, rfl⟩, rfl⟩
 exact ⟨ts, va, h1, h2, rfl⟩
end Slb
