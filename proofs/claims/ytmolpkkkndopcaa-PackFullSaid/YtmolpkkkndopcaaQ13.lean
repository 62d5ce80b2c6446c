/- Q13: a part of the proof that a law of this package holds for every input; no condition. -/
import Derived.Test.YtmolpkkkndopcaaQ12
import Derived.Test.YtmolpkkkndopcaaM2
namespace Slb
open Go Go.Proofs
set_option maxRecDepth 20000
theorem bs_at {n i : Nat} (x : Bs n) {u : UInt8} (h : x.l[i]? = some u) : SubL x.enc (0 + (Int.toNat i) * 1) 1 [byteV u] := by
  have hi : i < x.l.length := (List.getElem?_eq_some_iff.1 h).1
  have e : x.l = x.l.take i ++ u :: x.l.drop (i + 1) := by
    have : x.l[i] = u := (List.getElem?_eq_some_iff.1 h).2
    rw [← this, ← List.drop_eq_getElem_cons hi, List.take_append_drop]
  refine ⟨bytesV (x.l.take i), bytesV (x.l.drop (i + 1)), ?_, ?_, rfl⟩
  · unfold Bs.enc
    conv => lhs; rw [e]
    simp [bytesV]
  · rw [bytesV_length, List.length_take]
    simp; omega
theorem byte_eq {u t : UInt8} (h : (u.toNat : Int) = t.toNat) : u = t := UInt8.toNat_inj.1 (by omega)
theorem familyB_two (a : Bs 16) : familyB a = 4 ∨ familyB a = 6 := by unfold familyB; split <;> simp

def tmplL : List UInt8 := [0, 0, 0, 0, 0, 0, 0, 0, 0, 0, 255, 255]
theorem familyB_not {x : Bs 16} {i : Nat} {u : UInt8} (hi : i < 12) (hx : x.l[i]? = some u) (h : tmplL[i]? ≠ some u) : familyB x = 6 := by
  unfold familyB
  rw [if_neg fun hc => ?_]
  have h1 : (x.l.take 12)[i]? = some u := by rw [List.getElem?_take_of_lt hi]; exact hx
  rw [hc] at h1
  exact h h1
theorem familyB_yes {x : Bs 16} (h : x.l.take 12 = tmplL.take 12) : familyB x = 4 := by
  unfold familyB
  exact if_pos h
theorem tmpl_lo {i : Nat} (h : i < 10) : tmplL[i]? = some 0 := by
  have : ∀ j : Fin 10, tmplL[j.val]? = some 0 := by decide
  exact this ⟨i, h⟩
theorem tmpl_hi {i : Nat} (h : 10 ≤ i) (h2 : i < 12) : tmplL[i]? = some 255 := by
  have : ∀ j : Fin 12, 10 ≤ j.val → tmplL[j.val]? = some 255 := by decide
  exact this ⟨i, h2⟩ h
theorem u8_0 {u : UInt8} (h : (u.toNat : Int) = 0) : u = 0 := byte_eq h
theorem u8_255 {u : UInt8} (h : (u.toNat : Int) = 255) : u = 255 := byte_eq h

/-! Bits cleared, one by one. -/
def topM (p : Nat) : UInt8 := UInt8.ofNat (65280 / 2 ^ p)
def holeM (p q : Nat) : UInt8 := topM p ||| UInt8.ofNat (255 / 2 ^ q)
def oneM (q : Nat) : UInt8 := UInt8.ofNat (128 / 2 ^ q)
theorem hole_same {p : Nat} (h : p ≤ 8) : holeM p p = 255 := by
  have : ∀ k : Fin 9, holeM k.val k.val = 255 := by decide
  exact this ⟨p, by omega⟩
theorem hole_end {p : Nat} (h : p ≤ 8) : holeM p 8 = topM p := by
  have : ∀ k : Fin 9, holeM k.val 8 = topM k.val := by decide
  exact this ⟨p, by omega⟩
theorem hole_step {p q : Nat} (h : p ≤ q) (hq : q < 8) : holeM p q &&& ~~~(oneM q) = holeM p (q + 1) := by
  have : ∀ k l : Fin 8, k.val ≤ l.val → holeM k.val l.val &&& ~~~(oneM l.val) = holeM k.val (l.val + 1) := by decide
  exact this ⟨p, by omega⟩ ⟨q, hq⟩ h
theorem bit_clear (c : UInt8) {q : Nat} (hq : q < 8) : c &&& ~~~(oneM q) = c ↔ c.toNat / 2 ^ (7 - q) % 2 = 0 := by
  have : ∀ k : Fin 256, ∀ l : Fin 8, (UInt8.ofNat k.val &&& ~~~(oneM l.val) = UInt8.ofNat k.val) ↔ (UInt8.ofNat k.val).toNat / 2 ^ (7 - l.val) % 2 = 0 := by decide +kernel
  have h := this ⟨c.toNat, c.toNat_lt⟩ ⟨q, hq⟩
  simpa using h
def maskU (x : Bs 16) (n : Int) (i : Nat) : Bs 16 := ⟨x.l.mapIdx fun k c => c &&& holeM (keepN n k) (keepN i k), by rw [List.length_mapIdx, x.h]⟩
theorem maskU_at {x : Bs 16} {n : Int} {i k : Nat} {c : UInt8} (h : x.l[k]? = some c) : (maskU x n i).l[k]? = some (c &&& holeM (keepN n k) (keepN i k)) := by
  show (x.l.mapIdx _)[k]? = _
  rw [List.getElem?_mapIdx, h]
  rfl
theorem maskU_start (x : Bs 16) (n : Nat) : maskU x n n = x := by
  apply Bs.ext
  show x.l.mapIdx _ = x.l
  apply List.ext_getElem?
  intro k
  rw [List.getElem?_mapIdx]
  cases x.l[k]? with
  | none => rfl
  | some c =>
    simp only [Option.map_some]
    rw [hole_same (by unfold keepN; omega)]
    have : ∀ j : Fin 256, UInt8.ofNat j.val &&& 255 = UInt8.ofNat j.val := by decide
    have h := this ⟨c.toNat, c.toNat_lt⟩
    simp only [UInt8.ofNat_toNat] at h
    rw [h]
theorem maskU_end (x : Bs 16) (n : Int) : maskU x n 128 = maskedB x n := by
  apply Bs.ext
  show x.l.mapIdx _ = x.l.mapIdx _
  apply List.ext_getElem?
  intro k
  rw [List.getElem?_mapIdx, List.getElem?_mapIdx]
  by_cases hk : k < 16
  · rw [show keepN ((128 : Nat) : Int) k = 8 by unfold keepN; omega, hole_end (by unfold keepN; omega)]
    rfl
  · rw [List.getElem?_eq_none (by rw [x.h]; omega)]; rfl
theorem maskU_step {x : Bs 16} {n i : Nat} {d : UInt8} (hn : n ≤ i) (hi : i < 128) (hd : (maskU x n i).l[i / 8]? = some d) : (maskU x n i).put (i / 8) (d &&& ~~~(oneM (i % 8))) = maskU x n (i + 1) := by
  have hlt : i / 8 < x.l.length := by rw [x.h]; omega
  have hc : x.l[i / 8]? = some x.l[i / 8] := List.getElem?_eq_getElem hlt
  generalize x.l[i / 8] = c at hc
  have hd2 := maskU_at (n := (n : Int)) (i := i) hc
  rw [hd] at hd2
  obtain rfl := Option.some.inj hd2
  apply Bs.ext
  show (x.l.mapIdx _).set (i / 8) _ = x.l.mapIdx _
  apply List.ext_getElem?
  intro k
  rw [List.getElem?_set, List.getElem?_mapIdx, List.getElem?_mapIdx, List.length_mapIdx]
  by_cases he : i / 8 = k
  · subst he
    rw [if_pos rfl, if_pos hlt, hc]
    simp only [Option.map_some]
    rw [UInt8.and_assoc, show keepN (i : Int) (i / 8) = i % 8 by unfold keepN; omega, show keepN ((i + 1 : Nat) : Int) (i / 8) = i % 8 + 1 by unfold keepN; omega, hole_step (by unfold keepN; omega) (by omega)]
  · rw [if_neg he, show keepN ((i + 1 : Nat) : Int) k = keepN (i : Int) k by unfold keepN; omega]
theorem quo8 {i : Nat} (h : i < 1000) : IntKind.i64.wrap ((i : Int).tdiv 8) = ((i / 8 : Nat) : Int) := by
  rw [show ((i : Int).tdiv 8) = ((i / 8 : Nat) : Int) from rfl, wrap_i64 (by omega) (by omega)]
theorem wrapU64 {n : Int} (h0 : 0 ≤ n) (h1 : n < 18446744073709551616) : IntKind.u64.wrap n = n := by
  unfold IntKind.wrap
  simp only [show (IntKind.u64.bits : Nat) = 64 from rfl, show IntKind.u64.signed = false from rfl]
  simp
  omega
theorem sh128 {q : Nat} (h : q < 8) : (128 : Int) / 2 ^ min ((q : Int).toNat) 8 = ((oneM q).toNat : Int) := by
  have : ∀ k : Fin 8, (128 : Int) / 2 ^ min ((k.val : Int).toNat) 8 = ((oneM k.val).toNat : Int) := by decide
  exact this ⟨q, h⟩
theorem mask_self {x : Bs 16} {n i : Nat} {d : UInt8} (hn : n ≤ i) (hi : i < 128) (hx : maskU x n i = x) (hd : x.l[i / 8]? = some d) : maskU x n (i + 1) = x ↔ d.toNat / 2 ^ (7 - i % 8) % 2 = 0 := by
  have hlt : i / 8 < x.l.length := by rw [x.h]; omega
  have hs := maskU_step hn hi (by rw [hx]; exact hd)
  rw [hx] at hs
  rw [← hs, ← bit_clear d (by omega)]
  constructor
  · intro h
    have h2 := congrArg (fun y : Bs 16 => y.l[i / 8]?) h
    simp only [Bs.put, List.getElem?_set_self hlt, hd] at h2
    exact Option.some.inj h2
  · intro h
    rw [h]
    apply Bs.ext
    show x.l.set (i / 8) d = x.l
    obtain ⟨_, rfl⟩ := List.getElem?_eq_some_iff.1 hd
    exact List.set_getElem_self _
theorem holeM_zero {p q : Nat} (c : UInt8) (hp : p ≤ q) (hq : q < 8) (h : c &&& topM p = c) : c.toNat / 2 ^ (7 - q) % 2 = 0 := by
  have : ∀ k : Fin 256, ∀ a b : Fin 8, a.val ≤ b.val → UInt8.ofNat k.val &&& topM a.val = UInt8.ofNat k.val → (UInt8.ofNat k.val).toNat / 2 ^ (7 - b.val) % 2 = 0 := by decide +kernel
  have h2 := this ⟨c.toNat, c.toNat_lt⟩ ⟨p, by omega⟩ ⟨q, hq⟩ hp
  simp only [UInt8.ofNat_toNat] at h2
  exact h2 h
theorem masked_bit {x : Bs 16} {n i : Nat} {d : UInt8} (hn : n ≤ i) (hi : i < 128) (hx : maskedB x n = x) (hd : x.l[i / 8]? = some d) : d.toNat / 2 ^ (7 - i % 8) % 2 = 0 := by
  have h2 := congrArg (fun y : Bs 16 => y.l[i / 8]?) hx
  have h3 : (maskedB x n).l[i / 8]? = some (d &&& maskB n (i / 8)) := by
    show (x.l.mapIdx _)[i / 8]? = _
    rw [List.getElem?_mapIdx, hd]; rfl
  simp only [h3, hd] at h2
  exact holeM_zero d (p := keepN n (i / 8)) (by unfold keepN; omega) (by omega) (Option.some.inj h2)

/-- All of the first ones are c. -/
def allC (x : Bs 8) (c : UInt8) (i : Nat) : Bool := (x.l.take i).all fun d => d == c
theorem allC_succ {x : Bs 8} {c d : UInt8} {i : Nat} (h : x.l[i]? = some d) : allC x c (i + 1) = (allC x c i && (d == c)) := by
  unfold allC
  rw [take_succ_get h, List.all_append]
  simp
theorem allC_end {x : Bs 8} {c : UInt8} : allC x c 8 = decide (x = ⟨List.replicate 8 c, by simp⟩) := by
  unfold allC
  rw [List.take_of_length_le (by rw [x.h]; omega)]
  apply Bool.eq_iff_iff.2
  rw [List.all_eq_true, decide_eq_true_eq]
  constructor
  · intro h
    apply Bs.ext
    show x.l = List.replicate 8 c
    rw [List.eq_replicate_iff]
    exact ⟨x.h, fun d hd => by simpa using h d hd⟩
  · intro h d hd
    rw [h] at hd
    simp only [List.mem_replicate] at hd
    simp [hd.2]
theorem u8_eq {d c : UInt8} : ((d.toNat : Int) = (c.toNat : Int)) ↔ (d == c) = true := by
  rw [beq_iff_eq]
  constructor
  · intro h; exact UInt8.toNat_inj.1 (by omega)
  · intro h; rw [h]
end Slb
