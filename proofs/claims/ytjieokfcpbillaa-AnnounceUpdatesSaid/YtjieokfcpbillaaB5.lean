/- Base 5: building structs and slices; bytes; keys; maps. -/
import Derived.Test.YtjieokfcpbillaaB4
import Derived.DeepKeys5
import Derived.Maps.Keyed
namespace Slb
open Go

/-! ### Structs and slices that are built -/
/-- The lengths of pieces; where each begins. -/
def lens (segs : List (List Value)) : List Nat := segs.map List.length
def placesFrom : Nat → List Nat → List (Nat × Nat)
  | _, [] => []
  | n, k :: r => (n, k) :: placesFrom (n + k) r
def setAll (segs : List (List Value)) : List Nat → List Value → List (List Value)
  | i :: is, v :: vs => setAll (segs.set i v.cells.toList) is vs
  | _, _ => segs
def fitsAll (ls : List Nat) : List Nat → List Value → Prop
  | i :: is, v :: vs => ls[i]? = some v.cells.toList.length ∧ fitsAll ls is vs
  | [], [] => True
  | _, _ => False
theorem placesFrom_get {ls : List Nat} {n i k : Nat} (hi : ls[i]? = some k) : (placesFrom n ls)[i]? = some (n + (ls.take i).sum, k) := by
  induction ls generalizing n i with
  | nil => simp at hi
  | cons s r ih =>
    cases i with
    | zero => simp at hi; simp [placesFrom, hi]
    | succ i =>
      simp only [placesFrom, List.getElem?_cons_succ, List.take_succ_cons, List.sum_cons] at hi ⊢
      rw [ih hi]
      simp; omega
theorem foldl_splice (vs : List Value) (off : Nat) (cells : Array Value) (k : Nat) (h : off + k + vs.length ≤ cells.size) :
    (vs.zipIdx k).foldl (fun cs (p : Value × Nat) => cs.setIfInBounds (off + p.2) p.1) cells = (cells.toList.take (off + k) ++ vs ++ cells.toList.drop (off + k + vs.length)).toArray := by
  induction vs generalizing cells k with
  | nil => simp
  | cons v vs ih =>
    simp only [List.zipIdx_cons, List.foldl_cons, List.length_cons] at h ⊢
    rw [ih _ _ (by simp; omega)]
    congr 1
    simp only [Array.toList_setIfInBounds]
    have : off + k < cells.toList.length := by simp; omega
    rw [show off + (k + 1) = off + k + 1 by omega, List.drop_set_of_lt (by omega), List.take_add_one, List.getElem?_set_self this]
    simp only [Option.toList_some, List.take_set_of_le (Nat.le_refl _)]
    rw [show off + k + 1 + vs.length = off + k + (vs.length + 1) by omega]
    simp
theorem split_at {segs : List (List Value)} {i k : Nat} (hi : (lens segs)[i]? = some k) : ∃ A m B, segs = A ++ m :: B ∧ A.length = i ∧ m.length = k ∧ ((lens segs).take i).sum = A.flatten.length := by
  unfold lens at hi ⊢
  rw [List.getElem?_map] at hi
  cases hm : segs[i]? with
  | none => rw [hm] at hi; cases hi
  | some m =>
    rw [hm] at hi
    simp only [Option.map_some, Option.some.injEq] at hi
    obtain ⟨hlt, rfl⟩ := List.getElem?_eq_some_iff.1 hm
    refine ⟨segs.take i, segs[i], segs.drop (i + 1), by simp, by simp; omega, hi, ?_⟩
    rw [← List.map_take, List.length_flatten]
theorem lens_set {A B : List (List Value)} {m s : List Value} (h : s.length = m.length) : lens (A ++ s :: B) = lens (A ++ m :: B) := by simp [lens, h]
theorem fill_segs (place : Nat → Option (Nat × Nat)) : ∀ (is : List Nat) (vs : List Value) (segs : List (List Value)), (∀ i k, (lens segs)[i]? = some k → place i = some (((lens segs).take i).sum, k)) → fitsAll (lens segs) is vs →
    Instr.fill place segs.flatten.toArray (is.zip vs) = some (setAll segs is vs).flatten.toArray
  | [], [], segs, _, _ => by simp [Instr.fill, setAll]
  | [], _ :: _, _, _, h => h.elim
  | _ :: _, [], _, _, h => h.elim
  | i :: is, v :: vs, segs, hp, h => by
    obtain ⟨h1, h3⟩ := h
    have hpi := hp i _ h1
    obtain ⟨A, m, B, rfl, rfl, hm, hs⟩ := split_at h1
    rw [hs] at hpi
    simp only [List.zip_cons_cons, Instr.fill, hpi]
    have hsz : v.cells.size = m.length := by simpa using hm.symm
    have c1 : ¬ (v.cells.size ≠ v.cells.toList.length || A.flatten.length + v.cells.size > (A ++ m :: B).flatten.toArray.size) = true := by
      simp only [List.flatten_append, List.flatten_cons, List.size_toArray, List.length_append, hsz, Array.length_toList, ne_eq, not_true_eq_false, decide_false, Bool.false_or, decide_eq_true_eq]
      omega
    rw [if_neg c1]
    have hz : v.cells.zipIdx.foldl (fun cs (p : Value × Nat) => cs.setIfInBounds (A.flatten.length + p.2) p.1) (A ++ m :: B).flatten.toArray = (A ++ v.cells.toList :: B).flatten.toArray := by
      have hsp := foldl_splice v.cells.toList A.flatten.length (A ++ m :: B).flatten.toArray 0 (by
        simp only [List.flatten_append, List.flatten_cons, List.size_toArray, List.length_append, Array.length_toList, hsz]; omega)
      rw [← Array.foldl_toList, Array.toList_zipIdx, hsp]
      simp only [Nat.add_zero, List.flatten_append, List.flatten_cons]
      rw [List.take_left' rfl, show A.flatten ++ (m ++ B.flatten) = (A.flatten ++ m) ++ B.flatten by simp, List.drop_left' (by simp [hsz])]
      simp
    have hz' : (v.cells.zipIdx.foldl (fun cs x => match x with | (c, j) => cs.setIfInBounds (A.flatten.length + j) c) (A ++ m :: B).flatten.toArray) = (A ++ v.cells.toList :: B).flatten.toArray := hz
    rw [hz']
    have hset : (A ++ m :: B).set A.length v.cells.toList = A ++ v.cells.toList :: B := by simp
    simp only [setAll, hset]
    have hl : lens (A ++ v.cells.toList :: B) = lens (A ++ m :: B) := lens_set (by simpa using hsz)
    exact fill_segs place is vs _ (by rw [hl]; exact hp) (by rw [hl]; exact h3)

/-- A struct type, its zero value in pieces. -/
structure StructTy (P : Program) (t : TypeId) (segs : List (List Value)) : Prop where
  zero : ∀ w, (zeroValue t).run P w = .ok (.agg segs.flatten.toArray) w
  und : ∃ fs, P.underlying t = some (.struct fs) ∧ ∀ w, (fs.mapM fun f => (do pure (f.offset, ← Go.sizeOf f.type) : Sem (Nat × Nat))).run P w = .ok (placesFrom 0 (lens segs)).toArray w
section
variable {P : Program} {N : Nat} {G : Env} {S : List HProp} {F : Fr} {o : Oper}
theorem parts_eval {a : Act} {w : World} (s : St N G S F a w) {parts : Array (Nat × Operand)} {vs : List Value} (hv : opvs G (parts.toList.map (·.2)) = some vs) :
    (parts.map fun (i, x) => (i, a.eval x)).toList = (parts.toList.map (·.1)).zip vs := by
  have := s.evals hv
  subst this
  simp only [Array.toList_map, List.map_map]
  induction parts.toList with
  | nil => rfl
  | cons p l ih => simp only [List.map_cons, List.zip_cons_cons, ih]; rfl
theorem QP.build {t : TypeId} {parts : Array (Nat × Operand)} {segs : List (List Value)} {vs : List Value} {l : List Value} (ho : o.op = .build t parts) (ht : StructTy P t segs) (hv : opvs G (parts.toList.map (·.2)) = some vs)
    (hf : fitsAll (lens segs) (parts.toList.map (·.1)) vs) (hl : (setAll segs (parts.toList.map (·.1)) vs).flatten = l) : QP P N G S F o (.agg l.toArray) := fun a w s w' => by
  obtain ⟨fs, hu, hm⟩ := ht.und
  unfold execOp
  simp only [ho, Instr.build, Sem.run_bind, ht.zero w', Result.andThen_ok, run_underlying hu, hm w']
  have hfill := fill_segs (fun i => (placesFrom 0 (lens segs)).toArray[i]?) (parts.toList.map (·.1)) vs segs (fun i k hi => by
    rw [List.getElem?_toArray, placesFrom_get hi]; simp) hf
  rw [parts_eval s hv]
  simp only [Value.cells]
  rw [hfill, hl]
  simp
/-- A slice that is written out. -/
theorem EF.buildSlice {t e : TypeId} {n z : Nat} {parts : Array (Nat × Operand)} {vs : List Value} {zero : Value} (ho : o.op = .buildSlice t n parts) (hu : P.underlying t = some (.slice e)) (hz : Sz P e z)
    (h0 : Zero P e zero) (hzl : zero.cells.size = z) (hn : n * z ≤ 16777216) (hi : parts.toList.map (·.1) = List.range n) (hv : opvs G (parts.toList.map (·.2)) = some vs) (hvl : vs.length = n) (hf : ∀ v ∈ vs, v.cells.size = z) (hz0 : z ≠ 0) :
    EF P N G S F o fun u S' => ∃ b, u = .slice (some ⟨b, 0, none⟩) n n ∧ S' = blk b (vs.flatMap fun v => v.cells.toList) e :: S := fun a w st => by
  have hpe := parts_eval st hv
  let segs : List (List Value) := List.replicate n zero.cells.toList
  have hseg : ((Array.range (n * z)).map fun i => (if n * z = 0 then #[] else zero.cells)[i % (if n * z = 0 then #[] else zero.cells).size]!) = segs.flatten.toArray := by
    by_cases hnz : n * z = 0
    · have : n = 0 := by rcases Nat.mul_eq_zero.1 hnz with h | h; exact h; exact absurd h hz0
      subst this
      simp [segs]
    · rw [if_neg hnz]
      apply Array.ext'
      apply List.ext_getElem?
      intro i
      simp only [Array.toList_map, Array.toList_range, List.getElem?_map, segs, hzl]
      by_cases hi : i < n * z
      · rw [List.getElem?_range hi]
        have hz1 : 0 < z := Nat.pos_of_ne_zero hz0
        have hmod : i % z < z := Nat.mod_lt _ hz1
        have hfl : ∀ n i, i < n * z → (List.replicate n zero.cells.toList).flatten[i]? = zero.cells.toList[i % z]? := by
          intro n
          induction n with
          | zero => intro i h; simp at h
          | succ n ih =>
            intro i h
            simp only [List.replicate_succ, List.flatten_cons]
            have hl : zero.cells.toList.length = z := by simpa using hzl
            by_cases hiz : i < z
            · rw [List.getElem?_append_left (by omega), Nat.mod_eq_of_lt hiz]
            · have hmz : i % z = (i - z) % z := Nat.mod_eq_sub_mod (show i ≥ z by omega)
              have hlt : i - z < n * z := by rw [Nat.add_one_mul] at h; omega
              have e1 := List.getElem?_append_right (l₁ := zero.cells.toList) (l₂ := (List.replicate n zero.cells.toList).flatten) (i := i) (by omega)
              rw [e1, hl, ih _ hlt, hmz]
        rw [hfl n i hi]
        simp only [Option.map_some]
        have : i % z < zero.cells.size := by omega
        rw [getElem!_pos zero.cells (i % z) this]
        simp [this]
      · rw [List.getElem?_eq_none (by simp; omega), List.getElem?_eq_none (by simp; rw [hzl]; omega)]
        rfl
  have hls : lens segs = List.replicate n z := by simp [lens, segs, hzl]
  have hfits : fitsAll (lens segs) (List.range n) vs := by
    rw [hls]
    have key : ∀ (is : List Nat) (us : List Value), is.length = us.length → (∀ i ∈ is, i < n) → (∀ v ∈ us, v.cells.size = z) → fitsAll (List.replicate n z) is us := by
      intro is
      induction is with
      | nil => intro us h _ _; cases us with | nil => trivial | cons => simp at h
      | cons i is ih =>
        intro us h h1 h2
        cases us with
        | nil => simp at h
        | cons u us =>
          refine ⟨?_, ih us (by simpa using h) (fun j hj => h1 j (List.mem_cons_of_mem _ hj)) (fun v hv => h2 v (List.mem_cons_of_mem _ hv))⟩
          have := h1 i List.mem_cons_self
          simp [this, h2 u List.mem_cons_self]
    exact key _ _ (by simp [hvl]) (fun i hi => List.mem_range.1 hi) hf
  have hplace : ∀ i k, (lens segs)[i]? = some k → (fun i => some (i * z, z)) i = some (((lens segs).take i).sum, k) := by
    intro i k hi
    rw [hls] at hi ⊢
    rw [List.getElem?_replicate] at hi
    split at hi
    · rename_i hlt
      cases hi
      rw [List.take_replicate, Nat.min_eq_left (Nat.le_of_lt hlt)]
      simp
    · cases hi
  have hset : (setAll segs (List.range n) vs).flatten = vs.flatMap fun v => v.cells.toList := by
    have key : ∀ (us : List Value) (k : Nat) (pre rest : List (List Value)), pre.length = k → rest.length = us.length → setAll (pre ++ rest) (List.range' k us.length) us = pre ++ us.map fun v => v.cells.toList := by
      intro us
      induction us with
      | nil => intro k pre rest _ h; cases rest with | nil => simp [setAll] | cons => simp at h
      | cons u us ih =>
        intro k pre rest hk h
        cases rest with
        | nil => simp at h
        | cons r rest =>
          simp only [List.length_cons, List.range'_succ, setAll]
          rw [show (pre ++ r :: rest).set k u.cells.toList = (pre ++ [u.cells.toList]) ++ rest by rw [← hk]; simp]
          rw [ih (k + 1) _ rest (by simp [hk]) (by simpa using h)]
          simp
    have := key vs 0 [] segs rfl (by simp [segs, hvl])
    rw [List.nil_append, hvl, ← List.range_eq_range'] at this
    rw [this]
    simp [List.flatMap]
  have hrun : (Instr.buildSlice t n (parts.map fun (i, x) => (i, a.eval x))).run P w = .ok (.slice (some ⟨w.heap.size, 0, none⟩) n n) { w with heap := w.heap.push (.cells (vs.flatMap fun v => v.cells.toList).toArray e) } := by
    unfold Instr.buildSlice
    simp only [Sem.run_bind, run_underlying hu, Result.andThen_ok, hz w]
    rw [if_neg (by omega)]
    rw [hpe, hi]
    have hfill := fill_segs (fun i => some (i * z, z)) (List.range n) vs segs hplace hfits
    by_cases hnz : n * z = 0
    · rw [if_pos hnz] at hseg ⊢
      simp only [Sem.run_bind, Sem.run_pure, Result.andThen_ok]
      rw [hseg, hfill, hset]
      simp [newRow, newObj, Sem.run]
    · rw [if_neg hnz] at hseg ⊢
      simp only [Sem.run_bind, h0 w, Sem.run_pure, Result.andThen_ok]
      rw [hseg, hfill, hset]
      simp [newRow, newObj, Sem.run]
  refine estep_value (v := .slice (some ⟨w.heap.size, 0, none⟩) n n) (w' := { w with heap := w.heap.push (.cells (vs.flatMap fun v => v.cells.toList).toArray e) }) (by unfold execOp; simp only [ho, Sem.run_bind, hrun, Result.andThen_ok, Sem.run_pure]) ⟨_, ⟨_, rfl, rfl⟩, ?_⟩
  have := st.sat.new (.cells (vs.flatMap fun v => v.cells.toList).toArray e)
  unfold blk; simpa using this
end

/-! ### Bytes -/
def byteV (c : UInt8) : Value := .int .u8 c.toNat
def bytesV (l : List UInt8) : List Value := l.map byteV
theorem bytesV_length (l : List UInt8) : (bytesV l).length = l.length := by simp [bytesV]
theorem bytesV_cell (l : List UInt8) : ∀ v ∈ bytesV l, Value.cellB v = true := by
  intro v hv; obtain ⟨c, _, rfl⟩ := List.mem_map.1 hv; rfl
theorem byteV_inj {a b : UInt8} (h : byteV a = byteV b) : a = b := by
  unfold byteV at h
  simp only [Value.int.injEq, true_and] at h
  exact UInt8.toNat_inj.1 (by omega)
theorem bytesV_inj {a b : List UInt8} (h : bytesV a = bytesV b) : a = b := by
  unfold bytesV at h
  exact List.map_inj_right (fun _ _ => byteV_inj) |>.1 h
/-- n bytes. -/
structure Bs (n : Nat) where
  l : List UInt8
  h : l.length = n
deriving DecidableEq
def Bs.enc {n : Nat} (b : Bs n) : List Value := bytesV b.l
theorem Bs.len {n : Nat} (b : Bs n) : b.enc.length = n := by unfold Bs.enc; rw [bytesV_length, b.h]
theorem Bs.sub {n : Nat} (b : Bs n) : SubL b.enc 0 n b.enc := by have := SubL.all b.enc; rwa [b.len] at this
theorem Bs.cell {n : Nat} (b : Bs n) : ∀ v ∈ b.enc, Value.cellB v = true := bytesV_cell _
theorem Bs.ext {n : Nat} {a b : Bs n} (h : a.l = b.l) : a = b := by cases a; cases b; simp at h; subst h; rfl
theorem Bs.enc_inj {n : Nat} {a b : Bs n} (h : a.enc = b.enc) : a = b := Bs.ext (bytesV_inj h)
/-- An int of 64 bits. -/
abbrev I64 := { n : Int // -9223372036854775808 ≤ n ∧ n ≤ 9223372036854775807 }
def I64.v (x : I64) : Value := .int .i64 x.val
theorem I64.inj {a b : I64} (h : I64.v a = I64.v b) : a = b := by
  unfold I64.v at h
  simp only [Value.int.injEq, true_and] at h
  exact Subtype.ext h
def Bs.zero (n : Nat) : Bs n := ⟨List.replicate n 0, by simp⟩
/-- A slice's head. -/
structure Slc where
  a : Option Addr
  n : Nat
  c : Nat
def Slc.v (s : Slc) : Value := .slice s.a s.n s.c
def Slc.zero : Slc := ⟨none, 0, 0⟩
/-- A function's value. -/
structure FnV where
  f : Option (Fn × Array Value × Array Value)
def FnV.v (x : FnV) : Value := match x.f with | none => .nilFunc | some (f, a, c) => .func f a c
def FnV.zero : FnV := ⟨none⟩
theorem seg_sub {segs : List (List Value)} {i : Nat} {s : List Value} (h : segs[i]? = some s) : SubL segs.flatten ((lens segs).take i).sum s.length s := by
  have : (lens segs)[i]? = some s.length := by unfold lens; rw [List.getElem?_map, h]; rfl
  obtain ⟨A, m, B, rfl, rfl, hm, hs⟩ := split_at this
  rw [hs]
  have : m = s := by simpa using h
  subst this
  exact ⟨A.flatten, B.flatten, by simp, rfl, rfl⟩
theorem seg_set {segs : List (List Value)} {i : Nat} {m s : List Value} (h : segs[i]? = some m) (hl : s.length = m.length) : SetL segs.flatten ((lens segs).take i).sum m.length s (segs.set i s).flatten := by
  have : (lens segs)[i]? = some m.length := by unfold lens; rw [List.getElem?_map, h]; rfl
  obtain ⟨A, m', B, rfl, rfl, hm, hs⟩ := split_at this
  rw [hs]
  have : m' = m := by simpa using h
  subst this
  exact ⟨A.flatten, m', B.flatten, by simp, by simp, rfl, rfl, hl⟩
theorem cell_one {v : Value} (h : Value.cellB v = true) : ∀ u ∈ [v], Value.cellB u = true := fun u hu => by rw [List.mem_singleton.1 hu]; exact h
theorem cells_nil : ∀ l ∈ ([] : List (List Value)), ∀ v ∈ l, Value.cellB v = true := fun _ h => by cases h
theorem cells_cons {a : List Value} {r : List (List Value)} (h : ∀ v ∈ a, Value.cellB v = true) (hr : ∀ l ∈ r, ∀ v ∈ l, Value.cellB v = true) : ∀ l ∈ a :: r, ∀ v ∈ l, Value.cellB v = true := fun l hl => by
  rcases List.mem_cons.1 hl with rfl | hl
  · exact h
  · exact hr l hl
theorem cells_flatten {segs : List (List Value)} (h : ∀ l ∈ segs, ∀ v ∈ l, Value.cellB v = true) : ∀ v ∈ segs.flatten, Value.cellB v = true := fun v hv => by
  obtain ⟨l, hl, hv⟩ := List.mem_flatten.1 hv
  exact h l hl v hv
end Slb
