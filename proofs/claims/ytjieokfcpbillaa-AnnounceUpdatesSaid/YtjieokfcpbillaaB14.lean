/- Base 14: from a contract to a given statement: what an argument is; what lies behind the call. -/
import Derived.Test.YtjieokfcpbillaaB13
import Derived.ProofKit
import Derived.OpenShut
namespace Slb
open Go Go.Proofs Go.RowKit Go.WideShapes Go.ChangeShapes

/-- What can be read at type t is a datum's cells. -/
def TE (P : Program) (t : TypeId) (α : Type) (enc : α → List Value) : Prop :=
  ∀ {H : Type} (e : TypeId × Value → H) (w : World) (base : Nat) (sp : Nat → Bool) (held : Bool) (fuel : Nat) (cs : List Value) (y : DataW H × List MemPlace), DataW.trod e P w base sp held fuel t cs = some y → ∃ x : α, cs = enc x
section
variable {P : Program} {t : TypeId}
theorem TE.int {k : IntKind} (hu : P.underlying t = some (.int k)) : TE P t Int fun n => [.int k n] := fun e w base sp held fuel cs y h => by
  obtain ⟨n, h1, _, _⟩ := DataW.trod_int hu h
  exact ⟨n, h1⟩
theorem TE.i64 (hu : P.underlying t = some (.int .i64)) : TE P t I64 fun n => [I64.v n] := fun e w base sp held fuel cs y h => by
  obtain ⟨n, h1, _, h2⟩ := DataW.trod_int hu h
  simp only [Lit.wf, IntKind.min, IntKind.max, IntKind.signed, IntKind.bits] at h2
  simp at h2
  exact ⟨⟨n, by omega⟩, h1⟩
theorem TE.bool (hu : P.underlying t = some .bool) : TE P t Bool fun n => [.bool n] := fun e w base sp held fuel cs y h => by
  obtain ⟨n, h1, _⟩ := DataW.trod_bool hu h
  exact ⟨n, h1⟩
theorem bytes_of : ∀ (cs : List Value), (∀ v ∈ cs, ∃ c : UInt8, v = byteV c) → ∃ l, cs = bytesV l
  | [], _ => ⟨[], rfl⟩
  | v :: cs, h => by
    obtain ⟨c, rfl⟩ := h v List.mem_cons_self
    obtain ⟨l, rfl⟩ := bytes_of cs fun u hu => h u (List.mem_cons_of_mem _ hu)
    exact ⟨c :: l, rfl⟩
theorem TE.bytes {n : Nat} {e : TypeId} (ht : P.underlying t = some (.array n e)) (he : P.underlying e = some (.int .u8)) (hct : P.cellsOf t = n) (hce : P.cellsOf e = 1) : TE P t (Bs n) Bs.enc := fun enc w base sp held fuel cs y h => by
  obtain ⟨xs, m, _, _, hl, hx, hf⟩ := DataW.trod_array ht h
  have hall : ∀ v ∈ cs, ∃ c : UInt8, v = byteV c := fun v hv => by
    obtain ⟨i, hi⟩ := List.getElem?_of_mem hv
    have hlt : i < cs.length := (List.getElem?_eq_some_iff.1 hi).1
    have h1 := hf i (by omega)
    rw [hce, Nat.mul_one] at h1
    have h2 : xs[i]? = some xs[i] := List.getElem?_eq_getElem (by omega)
    obtain ⟨k, h3, _, h4⟩ := DataW.trod_int he (h1.trans h2)
    have h5 : (cs.drop i).take 1 = [v] := by
      rw [List.drop_eq_getElem_cons hlt]
      simp only [List.take_succ_cons, List.take_zero]
      rw [(List.getElem?_eq_some_iff.1 hi).2]
    rw [h5] at h3
    simp only [List.cons.injEq, and_true] at h3
    subst h3
    simp only [Lit.wf, IntKind.min, IntKind.max, IntKind.signed, IntKind.bits] at h4
    simp at h4
    refine ⟨UInt8.ofNat k.toNat, ?_⟩
    unfold byteV
    congr 1
    have : (UInt8.ofNat k.toNat).toNat = k.toNat := by
      rw [UInt8.toNat_ofNat']
      exact Nat.mod_eq_of_lt (by omega)
    rw [this]; omega
  obtain ⟨l, rfl⟩ := bytes_of cs hall
  exact ⟨⟨l, by rw [bytesV_length] at hl; omega⟩, rfl⟩
theorem TE.piece {cs s : List Value} {off k : Nat} (hk : P.cellsOf t = k) (e : (cs.drop off).take (P.cellsOf t) = s) : (cs.drop off).take k = s := by rw [← hk]; exact e
def Pieces (cs : List Value) : Nat → List (Nat × List Value) → Prop
  | off, [] => cs.length = off
  | off, (k, s) :: r => (cs.drop off).take k = s ∧ Pieces cs (off + k) r
theorem Pieces.eq {cs : List Value} : ∀ {l : List (Nat × List Value)} {off : Nat}, Pieces cs off l → cs.drop off = (l.map (·.2)).flatten
  | [], off, h => by
    have : cs.length = off := h
    simp [← this]
  | (k, s) :: r, off, h => by
    obtain ⟨h1, h2⟩ := h
    have := Pieces.eq h2
    simp only [List.map_cons, List.flatten_cons, ← this]
    rw [← h1, ← List.drop_drop, List.take_append_drop]
/-- A struct's or an array's value. -/
theorem val_agg {α : Type} {enc : α → List Value} (ht : TE P t α enc) (hw : (match P.underlying t with | some (.struct _) | some (.array _ _) => true | _ => false) = true) {W : World} {r : Reach} {b0 : Nat} {v : Value} (hv : Value.okWide P W r b0 t v)
    {H : Type} {e : TypeId × Value → H} {base : Nat} {sp : Nat → Bool} {held : Bool} {d : DataW H} {ps : List MemPlace} (h : DataW.Trod e P W base sp held t v d ps) : ∃ x : α, v = .agg (enc x).toArray := by
  have hagg : ∃ cs, v = .agg cs := by
    unfold Value.okWide at hv
    split at hv
    · obtain ⟨cs, h1, _⟩ := hv; exact ⟨cs, h1⟩
    · obtain ⟨cs, h1, _⟩ := hv; exact ⟨cs, h1⟩
    · rename_i h1 h2
      split at hw
      · rename_i fs hu; exact absurd hu (h1 fs)
      · rename_i n e' hu; exact absurd hu (h2 n e')
      · cases hw
  obtain ⟨cs, rfl⟩ := hagg
  obtain ⟨fuel, hf⟩ := h
  obtain ⟨x, hx⟩ := ht _ _ _ _ _ _ _ _ hf
  refine ⟨x, ?_⟩
  congr 1
  apply Array.ext'
  simpa [Value.cells] using hx
end

/-! ### Behind the call -/
theorem below_of_sat {S : List HProp} {W w' : World} (s : Sat S (frAll W) w') : Below W.heap.size W w' := by
  obtain ⟨n, os, hw⟩ := grown_of_sat s
  subst hw
  refine ⟨rfl, rfl, rfl, ?_, fun k hk => ?_⟩
  · show W.heap.size ≤ (W.heap ++ os).size
    simp
  · show (W.heap ++ os)[k]? = W.heap[k]?
    rw [Array.getElem?_append_left hk]
theorem stays_all {H : Type} {enc : TypeId × Value → H} {P : Program} (hl : laidOutB P = true) {W W' : World} (hb : Below W.heap.size W W') : ∀ (ts : List TypeId) (vs : List Value) (ds : List (DataW H)) (ps : List MemPlace),
    DataW.TrodAll enc P W 0 (fun _ => true) true ts vs ds ps → (∀ t ∈ ts, P.readableRec t = true ∧ t < P.types.size) → (∀ x ∈ ps, x.block < W.heap.size) → DataW.TrodAll enc P W' 0 (fun b => decide (b < W.heap.size)) true ts vs ds ps
  | [], [], [], ps, h, _, _ => h
  | t :: ts, v :: vs, d :: ds, ps, h, hr, hlt => by
    obtain ⟨p, q, h1, h2, rfl⟩ := h
    obtain ⟨r1, r2⟩ := hr t List.mem_cons_self
    exact ⟨p, q, WideElems.Trod_stays hl r1 r2 h1 (fun x hx => hb.same (hlt x (List.mem_append_left _ hx))) (fun x hx => by simpa using hlt x (List.mem_append_left _ hx)),
      stays_all hl hb ts vs ds q h2 (fun u hu => hr u (List.mem_cons_of_mem _ hu)) (fun x hx => hlt x (List.mem_append_right _ hx)), rfl⟩
  | [], [], _ :: _, _, h, _, _ => h.elim
  | [], _ :: _, _, _, h, _, _ => h.elim
  | _ :: _, [], _, _, h, _, _ => h.elim
  | _ :: _, _ :: _, [], _, h, _, _ => h.elim
/-- What a law's row asks behind the call: true; nothing has turned. -/
theorem post_law {H : Type} {enc : TypeId × Value → H} {P : Program} (hl : laidOutB P = true) {f : Func} {s : ChangeSpec} {W W' : World} {args : Array Value} {ds gs : List (DataW H)} {before : List MemPlace} {bt : TypeId}
    (hW : DataW.Whole enc P f.params.toList s.vars false W args.toList ds gs before) (hv : s.vars = []) (h1 : (s.fn H (ds ++ gs)).results = [.lit (.bool true)]) (h2 : (s.fn H (ds ++ gs)).args = ds) (h3 : (s.fn H (ds ++ gs)).vars = [])
    (hr : f.resultTypes = #[bt]) (hbt : P.underlying bt = some .bool) (hread : ∀ t ∈ f.params.toList, P.readableRec t = true ∧ t < P.types.size) (hb : Below W.heap.size W W') : s.post enc P f false true false false W args (.bool true) W' := by
  have hlt : ∀ p ∈ before, p.block < W.heap.size := fun p hp => hW.lt p hp
  have hW' := hW
  obtain ⟨p, q, hA, hV, hpq, _, _⟩ := hW
  rw [hv] at hV
  have hq : q = [] := (trodVars_none hV).2
  subst hq
  rw [List.append_nil] at hpq
  subst hpq
  refine ⟨ds, gs, before, [], before, [], hW', ?_, ?_, ?_, hb.frame _, fun h => by cases h⟩
  · rw [hr, h1]
    exact trodAll_mk1 (shut_bool hbt true)
  · rw [h2]
    exact stays_all hl hb _ _ _ _ hA hread hlt
  · rw [hv, h3]
    exact rfl
end Slb
