/- The bases B12..B41 in one text: a part of the proof that a law of this package holds for every input; no condition. -/
import Derived.Test.YtfokodhfjdhdaaaGreatM1
import Derived.Shelf.SlSortCmp.WholeK
import Derived.Shelf.SlSortCmp.NoneTotal
import Derived.ProofKit
import Derived.OpenShut
import Derived.Deep.Slices
import Derived.Shelf.SlSortCmp.Whole1
import Derived.Laws.BytesString
import Derived.Laws.Strings
import Derived.StringKeys
import Derived.SizedLaws
import Derived.RangeFuncSeq
/- Base 12: slices.SortFunc at structs, by the shelf's contract. -/
namespace Slb
open Go Go.Proofs Go.Sort Go.Shelf

section
variable {α : Type} [Inhabited α] {enc : α → List Value} {k : Nat}
theorem flatK_get (hk : ∀ x, (enc x).length = k) (xs : List α) {j : Nat} (hj : j < xs.length * k) : (flatK enc k xs.toArray)[j]! = ((xs.flatMap enc)[j]?).getD default := by
 rw [get_flatK enc k xs.toArray j (by simpa using hj)]
 have hkp : 0 < k := by rcases Nat.eq_zero_or_pos k with h | h; · subst h; simp at hj
                        · exact h
 have hlt : j / k < xs.length := Nat.div_lt_of_lt_mul (by rw [Nat.mul_comm]; exact hj)
 have hmod : j % k < k := Nat.mod_lt _ hkp
 have hrow := sub_row (enc := enc) hk (xs := xs) (i := j / k) (List.getElem?_eq_getElem hlt)
 have hg := hrow.get (i := j % k) hmod
 rw [show j / k * k + j % k = j by rw [Nat.mul_comm]; exact Nat.div_add_mod j k] at hg
 rw [hg]
 have e1 : (xs.toArray)[j / k]! = xs[j / k] := by simp [hlt]
 rw [e1]
 have : j % k < (enc xs[j / k]).length := by rw [hk]; exact hmod
 rw [List.getElem?_eq_getElem this]
 simp [this]
end
/-- A world that has the frame's heap as its own. -/
def frAll (w : World) : Fr := ⟨hp w, w.os, w.tape, w.output, w.drawn⟩
theorem sat_frAll (w : World) : Sat [] (frAll w) w := ⟨rfl, rfl, ⟨rfl, Nat.le_refl _⟩, PH.le.refl _, PH.none, rfl, PH.none_disj _, PH.none_le _⟩
theorem grown_of_sat {S : List HProp} {w w' : World} (s : Sat S (frAll w) w') : ∃ q os', w' = Go.Sort.grow (w.drewN q) os' := by
 obtain ⟨a, b, ⟨c, c'⟩, d, _⟩ := s
 refine ⟨w'.drawn - w.drawn, w'.heap.extract w.heap.size, ?_⟩
 have hsz : w.heap.size ≤ w'.heap.size := by
   rcases Nat.eq_zero_or_pos w.heap.size with h | h
   · omega
   · have hlast : w.heap[w.heap.size - 1]? = some w.heap[w.heap.size - 1] := Array.getElem?_eq_getElem (by omega)
     have := d _ _ hlast
     have := (Array.getElem?_eq_some_iff.1 this).1
     omega
 have hheap : w'.heap = w.heap ++ w'.heap.extract w.heap.size := by
   apply Array.ext_getElem?
   intro i
   rw [Array.getElem?_append]
   split
   · rename_i hi
     have := d i _ (Array.getElem?_eq_getElem hi)
     rw [show w'.heap[i]? = _ from this]
     exact (Array.getElem?_eq_getElem hi).symm
   · rename_i hi
     rw [Array.getElem?_extract]
     split
     · congr 1; omega
     · rw [Array.getElem?_eq_none (by omega)]
 have hd : w'.drawn = w.drawn + (w'.drawn - w.drawn) := by
   have : w.drawn ≤ w'.drawn := c'
   omega
 unfold Go.Sort.grow World.drewN
 obtain ⟨h1, h2, h3, h4, h5⟩ := w'
 simp only [frAll] at a b c
 subst a b c
 simp only at hheap hd ⊢
 rw [← hd, ← hheap]
theorem Sat.grow {S : List HProp} {F : Fr} {w : World} (s : Sat S F w) (os : Array Obj) : Sat S F (Go.Sort.grow w os) := by
 obtain ⟨a, b, c, d, h, e, f, g⟩ := s
 have hle : PH.le (hp w) (hp (Go.Sort.grow w os)) := fun i o h => by
   have hlt := (Array.getElem?_eq_some_iff.1 h).1
   show (w.heap ++ os)[i]? = some o
   rw [Array.getElem?_append_left hlt]; exact h
 exact ⟨a, b, c, d.trans hle, h, e, f, g.trans hle⟩
theorem putCells_row {α : Type} [Inhabited α] {enc : α → List Value} {k : Nat} (hk : ∀ x, (enc x).length = k) (xs : List α) {pre mid post : List Value} {off : Nat} (hp : pre.length = off) (hm : mid.length = xs.length * k) :
   putCells id off (flatK enc k xs.toArray) (pre ++ (mid ++ post)).toArray = (pre ++ (xs.flatMap enc ++ post)).toArray := by
 apply Array.ext'
 apply List.ext_getElem?
 intro j
 have hfl := flatMap_len hk xs
 simp only [putCells, Array.toList_mapIdx, List.getElem?_mapIdx, size_flatK, List.size_toArray, id]
 by_cases h1 : j < off
 · rw [List.getElem?_append_left (by omega), List.getElem?_append_left (by omega)]
   rw [List.getElem?_eq_getElem (by omega)]
   simp only [Option.map_some]
   rw [if_neg (by omega)]
 · by_cases h2 : j < off + xs.length * k
   · have hlt : j - pre.length < xs.length * k := by omega
     rw [List.getElem?_append_right (by omega), List.getElem?_append_left (by omega), List.getElem?_append_right (by omega), List.getElem?_append_left (by omega)]
     rw [List.getElem?_eq_getElem (by omega)]
     simp only [Option.map_some]
     rw [if_pos (by omega), ← hp, flatK_get hk xs hlt, List.getElem?_eq_getElem (by omega)]
     rfl
   · rw [List.getElem?_append_right (by omega), List.getElem?_append_right (by omega), List.getElem?_append_right (by omega), List.getElem?_append_right (by omega)]
     rw [hfl, hm]
     cases hq : post[j - pre.length - xs.length * k]? with
     | none => rfl
     | some q => simp only [Option.map_some]; rw [if_neg (by omega)]
/-- slices.SortFunc. -/
theorem Spec.sortFunc {α : Type} [Inhabited α] {P : Program} {ρ : Ren} (L : SlLaysF0.n6 P ρ) {k : Nat} {enc : α → List Value} (aE : ∀ w, (isAgg (ρ.t 24)).run P w = .ok true w) (zE : ∀ w, (Go.sizeOf (ρ.t 24)).run P w = .ok k w) (hk : ∀ x, (enc x).length = k)
   (h1 : ∀ x, ∀ v ∈ enc x, Value.cellB v = true) {cf : α → α → Int} (hO : SWO (ltOf cf)) {g : FuncId} (eg : CanEnter P g)
   (hc : ∀ F x y, Spec P g #[.agg (enc x).toArray, .agg (enc y).toArray] [] F fun v S => v = .int .i64 (cf x y) ∧ S = []) {e : TypeId} {v : Value} {xs : List α} (hn : xs.length < 4611686018427387904) (F : Fr) :
   Spec P (ρ.f 6) #[v, .func (.func g) #[] #[]] [slA e k enc v xs] F fun u S => u = .tuple #[] ∧ ∃ ys, ys.Perm xs ∧ (ys.Pairwise fun a b => ¬ cf b a < 0) ∧ S = [slA e k enc v ys] := fun w s => by
 obtain ⟨p, hp, back⟩ := s.unpack
 rcases hp with ⟨rfl, rfl, hpn⟩ | ⟨b, off, c, pre, spare, post, rfl, hpp, hpre, hcle, hsp⟩
 · refine (AnyF.slices_SortFunc_none L none 0 (.func (.func g) #[] #[]) w).mono ?_
   rintro e' w' ⟨rfl, rfl⟩
   exact ⟨_, _, rfl, ⟨rfl, [], List.Perm.refl _, List.Pairwise.nil, rfl⟩, s⟩
 · have s1 : Sat [pts b (.cells (pre ++ (xs.flatMap enc ++ (spare ++ post))).toArray e (0, 0))] F w := by
     have := back [pts b (.cells (pre ++ (xs.flatMap enc ++ (spare ++ post))).toArray e (0, 0))] (stars_one.2 hpp)
     simpa using this
   have hb := s1.at
   have hblk : b < w.heap.size := (Array.getElem?_eq_some_iff.1 hb).1
   have hfl := flatMap_len hk xs
   have hH : HoldsK enc k w b off xs.toArray := by
     intro j hj
     have hj' : j < xs.length * k := by simpa using hj
     refine ⟨?_, by unfold World.frozen?; simp [hb]⟩
     rw [cell_at hb, id, flatK_get hk xs hj', List.getElem?_append_right (by omega), List.getElem?_append_left (by omega)]
     rw [show off + j - pre.length = j by omega, List.getElem?_eq_getElem (by omega)]
     rfl
   have hcmp : CmpLays P g #[] enc k cf b off xs.toArray.size w := by
     intro m os dk _ x y
     have := (hc (frAll (sortWorldK enc k w b off m dk os)) x y) (sortWorldK enc k w b off m dk os) (sat_frAll _)
     simp only [Array.append_empty]
     refine this.mono ?_
     rintro e' w' ⟨v', S', he, ⟨rfl, rfl⟩, s'⟩
     exact ⟨he, grown_of_sat s'⟩
   have hone : ∀ x, ∀ v ∈ enc x, v.oneCell' = true := fun x v hv => by
     have := h1 x v hv
     cases v <;> simp_all [Value.cellB, Value.oneCell']
   have hmain := AnyQ.slices_SortFunc L k aE zE enc hk hone cf hO g #[] b off c xs.toArray w (run_enter eg) hcmp hH hblk (by simpa using hn)
   refine hmain.mono ?_
   rintro e' w' ⟨rfl, d', n, os, hperm, hsort, rfl⟩
   obtain ⟨hsz, _, hpl⟩ := hperm
   have hsz' : d'.size = xs.length := by simpa using hsz
   have hpl' : d'.toList.Perm xs := by
     have e1 : d'.extract 0 xs.toArray.size = d' := by rw [← hsz]; simp
     have e2 : xs.toArray.extract 0 xs.toArray.size = xs.toArray := by simp
     rw [e1, e2] at hpl
     simpa using hpl
   refine ⟨_, _, rfl, ⟨rfl, d'.toList, hpl', ?_, rfl⟩, ?_⟩
   · rw [List.pairwise_iff_getElem]
     intro i j hi hj hij
     have hj' : j < d'.size := by simpa using hj
     have := hsort i j (Nat.zero_le _) hij (by simpa using (show j < xs.length by omega))
     rw [getElem!_pos d' j hj', getElem!_pos d' i (by omega)] at this
     simpa [ltOf] using this
   · refine Sat.grow ?_ os
     have hw1 : Sat [pts b (.cells (pre ++ (d'.toList.flatMap enc ++ (spare ++ post))).toArray e (0, 0))] F (putRowK enc k (Sort.ahead w n) b off d') := by
       refine s1.set _ rfl rfl ⟨rfl, Nat.le_add_right _ _⟩ ?_ ?_
       · show (w.heap.modify b (onCells (putCells id off (flatK enc k d'))))[b]? = _
         rw [Array.getElem?_modify, if_pos rfl, hb]
         simp only [Option.map_some, onCells]
         have := putCells_row hk d'.toList (pre := pre) (mid := xs.flatMap enc) (post := spare ++ post) hpre (by rw [hfl]; simp [hsz'])
         rw [show d'.toList.toArray = d' by simp] at this
         rw [this]
       · intro c' hc'
         show (w.heap.modify b (onCells (putCells id off (flatK enc k d'))))[c']? = _
         rw [Array.getElem?_modify, if_neg (Ne.symm hc')]
     refine hw1.head fun q hq => .inr ⟨b, off, c, pre, spare, post, ?_, hq, hpre, ?_, ?_⟩
     · simp [hsz']
     · simp [hsz']; exact hcle
     · simp [hsz', hsp]
end Slb

/- Base 13: comparing. -/
namespace Slb
open Go Go.Proofs Go.Sort

/-- What cmp.Or answers: the first that is not 0. -/
def orF : List Int → Int
 | [] => 0
 | x :: l => if x ≠ 0 then x else orF l
def cmpF (a b : Int) : Int := if a < b then -1 else if b < a then 1 else 0
/-- A comparison that is a total order. -/
structure TotCmp {α : Type} (cf : α → α → Int) : Prop where
 eq : ∀ x y, cf x y = 0 ↔ x = y
 neg : ∀ x y, cf x y < 0 ↔ 0 < cf y x
 tr : ∀ x y z, cf x y < 0 → cf y z < 0 → cf x z < 0
namespace TotCmp
variable {α β γ : Type} {cf : α → α → Int}
theorem swo (h : TotCmp cf) : SWO (ltOf cf) where
 irrefl x := by
   have := (h.eq x x).2 rfl
   simp [ltOf, this]
 trans x y z h1 h2 := by
   simp only [ltOf, decide_eq_true_eq] at *
   exact h.tr x y z h1 h2
 ntrans x y z h1 h2 := by
   simp only [ltOf, decide_eq_false_iff_not] at *
   intro h3
   have a1 := (h.neg x z).1 h3
   -- y ≤ x, z ≤ y
   by_cases e1 : cf x y = 0
   · have := (h.eq x y).1 e1; subst this; exact h2 h3
   · by_cases e2 : cf y z = 0
     · have := (h.eq y z).1 e2; subst this; exact h1 h3
     · have b1 : cf y x < 0 := (h.neg y x).2 (by omega)
       have b2 := h.tr y x z b1 h3
       exact h2 b2
theorem int : TotCmp cmpF where
 eq x y := by unfold cmpF; split; · simp; omega
              · split <;> simp <;> omega
 neg x y := by unfold cmpF; (repeat' split) <;> omega
 tr x y z := by unfold cmpF; (repeat' split) <;> omega
theorem bytesNeg : ∀ (a b : List UInt8), Lib.compareBytes a b < 0 ↔ 0 < Lib.compareBytes b a
 | [], [] => by simp [Lib.compareBytes]
 | [], _ :: _ => by simp [Lib.compareBytes]
 | _ :: _, [] => by simp [Lib.compareBytes]
 | a :: la, b :: lb => by
   unfold Lib.compareBytes
   by_cases h1 : a < b
   · have h2 : ¬ b < a := fun h => UInt8.lt_asymm h1 h
     simp [h1, h2]
   · by_cases h2 : b < a
     · simp [h1, h2]
     · simp [h1, h2, bytesNeg la lb]
theorem bytesEq : ∀ (a b : List UInt8), Lib.compareBytes a b = 0 ↔ a = b
 | [], [] => by simp [Lib.compareBytes]
 | [], _ :: _ => by simp [Lib.compareBytes]
 | _ :: _, [] => by simp [Lib.compareBytes]
 | a :: la, b :: lb => by
   unfold Lib.compareBytes
   by_cases h1 : a < b
   · have : a ≠ b := fun h => UInt8.lt_irrefl a (h ▸ h1)
     simp [h1, this]
   · by_cases h2 : b < a
     · have : a ≠ b := fun h => UInt8.lt_irrefl a (h ▸ h2)
       simp [h1, h2, this]
     · have : a = b := UInt8.le_antisymm (UInt8.not_lt.1 h2) (UInt8.not_lt.1 h1)
       subst this
       simp [h1, bytesEq la lb]
theorem bytesTr : ∀ (a b c : List UInt8), Lib.compareBytes a b < 0 → Lib.compareBytes b c < 0 → Lib.compareBytes a c < 0
 | [], [], _, h, _ => by simp [Lib.compareBytes] at h
 | [], _ :: _, [], _, h => by simp [Lib.compareBytes] at h
 | [], _ :: _, _ :: _, _, _ => by simp [Lib.compareBytes]
 | _ :: _, [], _, h, _ => by simp [Lib.compareBytes] at h
 | _ :: _, _ :: _, [], _, h => by simp [Lib.compareBytes] at h
 | a :: la, b :: lb, c :: lc, h1, h2 => by
   unfold Lib.compareBytes at h1 h2 ⊢
   by_cases ab : a < b
   · by_cases bc : b < c
     · simp [UInt8.lt_trans ab bc]
     · by_cases cb : c < b
       · simp [bc, cb] at h2
       · have : b = c := UInt8.le_antisymm (UInt8.not_lt.1 cb) (UInt8.not_lt.1 bc)
         subst this; simp [ab]
   · by_cases ba : b < a
     · simp [ab, ba] at h1
     · have : a = b := UInt8.le_antisymm (UInt8.not_lt.1 ba) (UInt8.not_lt.1 ab)
       subst this
       simp only [ab, if_false] at h1
       by_cases ac : a < c
       · simp [ac]
       · by_cases ca : c < a
         · simp [ac, ca] at h2
         · simp only [ac, ca, if_false] at h2 ⊢
           exact bytesTr la lb lc h1 h2
theorem bytes (n : Nat) : TotCmp fun (x y : Bs n) => Lib.compareBytes x.l y.l where
 eq x y := ⟨fun h => Bs.ext ((bytesEq _ _).1 h), fun h => by subst h; exact (bytesEq _ _).2 rfl⟩
 neg _ _ := bytesNeg _ _
 tr _ _ _ := bytesTr _ _ _
end TotCmp
theorem QP.const {P : Program} {N : Nat} {G : Env} {S : List HProp} {F : Fr} {o : Oper} (v : Value) (h : ∀ (a : Act) w', (execOp a.eval o).run P w' = .ok (.value v) w') : QP P N G S F o v := fun a _ _ => h a
end Slb

/- Base 14: from a contract to a given statement: what an argument is; what lies behind the call. -/
namespace Slb
open Go Go.Proofs Go.RowKit Go.WideShapes Go.ChangeShapes

/-- What can be read at type t is a datum's cells. -/
def TE (P : Program) (t : TypeId) (α : Type) (enc : α → List Value) : Prop :=
 ∀ {H : Type} (e : TypeId × Value → H) (w : World) (base : Nat) (sp : Nat → Bool) (held : Bool) (fuel : Nat) (cs : List Value) (y : DataW H × List MemPlace), DataW.trod e P w base sp held fuel t cs = some y → ∃ x : α, cs = enc x
section
variable {P : Program} {t : TypeId}
theorem TE.int {k : IntKind} (hu : P.underlying t = some (.int k)) : TE P t Int fun n => [.int k n] := fun e w base sp held fuel cs y h => by
 obtain ⟨n, h1, _, _⟩ := DataW.trod_int hu h
 exact ⟨n, h1⟩
theorem TE.i64 (hu : P.underlying t = some (.int .i64)) : TE P t I64 fun n => [I64.v n] := fun e w base sp held fuel cs y h => by
 obtain ⟨n, h1, _, h2⟩ := DataW.trod_int hu h
 simp only [Lit.wf, IntKind.min, IntKind.max, IntKind.signed, IntKind.bits] at h2
 simp at h2
 exact ⟨⟨n, by omega⟩, h1⟩
theorem TE.bool (hu : P.underlying t = some .bool) : TE P t Bool fun n => [.bool n] := fun e w base sp held fuel cs y h => by
 obtain ⟨n, h1, _⟩ := DataW.trod_bool hu h
 exact ⟨n, h1⟩
theorem bytes_of : ∀ (cs : List Value), (∀ v ∈ cs, ∃ c : UInt8, v = byteV c) → ∃ l, cs = bytesV l
 | [], _ => ⟨[], rfl⟩
 | v :: cs, h => by
   obtain ⟨c, rfl⟩ := h v List.mem_cons_self
   obtain ⟨l, rfl⟩ := bytes_of cs fun u hu => h u (List.mem_cons_of_mem _ hu)
   exact ⟨c :: l, rfl⟩
theorem TE.bytes {n : Nat} {e : TypeId} (ht : P.underlying t = some (.array n e)) (he : P.underlying e = some (.int .u8)) (hct : P.cellsOf t = n) (hce : P.cellsOf e = 1) : TE P t (Bs n) Bs.enc := fun enc w base sp held fuel cs y h => by
 obtain ⟨xs, m, _, _, hl, hx, hf⟩ := DataW.trod_array ht h
 have hall : ∀ v ∈ cs, ∃ c : UInt8, v = byteV c := fun v hv => by
   obtain ⟨i, hi⟩ := List.getElem?_of_mem hv
   have hlt : i < cs.length := (List.getElem?_eq_some_iff.1 hi).1
   have h1 := hf i (by omega)
   rw [hce, Nat.mul_one] at h1
   have h2 : xs[i]? = some xs[i] := List.getElem?_eq_getElem (by omega)
   obtain ⟨k, h3, _, h4⟩ := DataW.trod_int he (h1.trans h2)
   have h5 : (cs.drop i).take 1 = [v] := by
     rw [List.drop_eq_getElem_cons hlt]
     simp only [List.take_succ_cons, List.take_zero]
     rw [(List.getElem?_eq_some_iff.1 hi).2]
   rw [h5] at h3
   simp only [List.cons.injEq, and_true] at h3
   subst h3
   simp only [Lit.wf, IntKind.min, IntKind.max, IntKind.signed, IntKind.bits] at h4
   simp at h4
   refine ⟨UInt8.ofNat k.toNat, ?_⟩
   unfold byteV
   congr 1
   have : (UInt8.ofNat k.toNat).toNat = k.toNat := by
     rw [UInt8.toNat_ofNat']
     exact Nat.mod_eq_of_lt (by omega)
   rw [this]; omega
 obtain ⟨l, rfl⟩ := bytes_of cs hall
 exact ⟨⟨l, by rw [bytesV_length] at hl; omega⟩, rfl⟩
theorem TE.piece {cs s : List Value} {off k : Nat} (hk : P.cellsOf t = k) (e : (cs.drop off).take (P.cellsOf t) = s) : (cs.drop off).take k = s := by rw [← hk]; exact e
def Pieces (cs : List Value) : Nat → List (Nat × List Value) → Prop
 | off, [] => cs.length = off
 | off, (k, s) :: r => (cs.drop off).take k = s ∧ Pieces cs (off + k) r
theorem Pieces.eq {cs : List Value} : ∀ {l : List (Nat × List Value)} {off : Nat}, Pieces cs off l → cs.drop off = (l.map (·.2)).flatten
 | [], off, h => by
   have : cs.length = off := h
   simp [← this]
 | (k, s) :: r, off, h => by
   obtain ⟨h1, h2⟩ := h
   have := Pieces.eq h2
   simp only [List.map_cons, List.flatten_cons, ← this]
   rw [← h1, ← List.drop_drop, List.take_append_drop]
/-- A struct's or an array's value. -/
theorem val_agg {α : Type} {enc : α → List Value} (ht : TE P t α enc) (hw : (match P.underlying t with | some (.struct _) | some (.array _ _) => true | _ => false) = true) {W : World} {r : Reach} {b0 : Nat} {v : Value} (hv : Value.okWide P W r b0 t v)
   {H : Type} {e : TypeId × Value → H} {base : Nat} {sp : Nat → Bool} {held : Bool} {d : DataW H} {ps : List MemPlace} (h : DataW.Trod e P W base sp held t v d ps) : ∃ x : α, v = .agg (enc x).toArray := by
 have hagg : ∃ cs, v = .agg cs := by
   unfold Value.okWide at hv
   split at hv
   · obtain ⟨cs, h1, _⟩ := hv; exact ⟨cs, h1⟩
   · obtain ⟨cs, h1, _⟩ := hv; exact ⟨cs, h1⟩
   · rename_i h1 h2
     split at hw
     · rename_i fs hu; exact absurd hu (h1 fs)
     · rename_i n e' hu; exact absurd hu (h2 n e')
     · cases hw
 obtain ⟨cs, rfl⟩ := hagg
 obtain ⟨fuel, hf⟩ := h
 obtain ⟨x, hx⟩ := ht _ _ _ _ _ _ _ _ hf
 refine ⟨x, ?_⟩
 congr 1
 apply Array.ext'
 simpa [Value.cells] using hx
end

/-! ### Behind the call -/
theorem below_of_sat {S : List HProp} {W w' : World} (s : Sat S (frAll W) w') : Below W.heap.size W w' := by
 obtain ⟨n, os, hw⟩ := grown_of_sat s
 subst hw
 refine ⟨rfl, rfl, rfl, ?_, fun k hk => ?_⟩
 · show W.heap.size ≤ (W.heap ++ os).size
   simp
 · show (W.heap ++ os)[k]? = W.heap[k]?
   rw [Array.getElem?_append_left hk]
theorem stays_all {H : Type} {enc : TypeId × Value → H} {P : Program} (hl : laidOutB P = true) {W W' : World} (hb : Below W.heap.size W W') : ∀ (ts : List TypeId) (vs : List Value) (ds : List (DataW H)) (ps : List MemPlace),
   DataW.TrodAll enc P W 0 (fun _ => true) true ts vs ds ps → (∀ t ∈ ts, P.readableRec t = true ∧ t < P.types.size) → (∀ x ∈ ps, x.block < W.heap.size) → DataW.TrodAll enc P W' 0 (fun b => decide (b < W.heap.size)) true ts vs ds ps
 | [], [], [], ps, h, _, _ => h
 | t :: ts, v :: vs, d :: ds, ps, h, hr, hlt => by
   obtain ⟨p, q, h1, h2, rfl⟩ := h
   obtain ⟨r1, r2⟩ := hr t List.mem_cons_self
   exact ⟨p, q, WideElems.Trod_stays hl r1 r2 h1 (fun x hx => hb.same (hlt x (List.mem_append_left _ hx))) (fun x hx => by simpa using hlt x (List.mem_append_left _ hx)),
     stays_all hl hb ts vs ds q h2 (fun u hu => hr u (List.mem_cons_of_mem _ hu)) (fun x hx => hlt x (List.mem_append_right _ hx)), rfl⟩
 | [], [], _ :: _, _, h, _, _ => h.elim
 | [], _ :: _, _, _, h, _, _ => h.elim
 | _ :: _, [], _, _, h, _, _ => h.elim
 | _ :: _, _ :: _, [], _, h, _, _ => h.elim
/-- What a law's row asks behind the call: true; nothing has turned. -/
theorem post_law {H : Type} {enc : TypeId × Value → H} {P : Program} (hl : laidOutB P = true) {f : Func} {s : ChangeSpec} {W W' : World} {args : Array Value} {ds gs : List (DataW H)} {before : List MemPlace} {bt : TypeId}
   (hW : DataW.Whole enc P f.params.toList s.vars false W args.toList ds gs before) (hv : s.vars = []) (h1 : (s.fn H (ds ++ gs)).results = [.lit (.bool true)]) (h2 : (s.fn H (ds ++ gs)).args = ds) (h3 : (s.fn H (ds ++ gs)).vars = [])
   (hr : f.resultTypes = #[bt]) (hbt : P.underlying bt = some .bool) (hread : ∀ t ∈ f.params.toList, P.readableRec t = true ∧ t < P.types.size) (hb : Below W.heap.size W W') : s.post enc P f false true false false W args (.bool true) W' := by
 have hlt : ∀ p ∈ before, p.block < W.heap.size := fun p hp => hW.lt p hp
 have hW' := hW
 obtain ⟨p, q, hA, hV, hpq, _, _⟩ := hW
 rw [hv] at hV
 have hq : q = [] := (trodVars_none hV).2
 subst hq
 rw [List.append_nil] at hpq
 subst hpq
 refine ⟨ds, gs, before, [], before, [], hW', ?_, ?_, ?_, hb.frame _, fun h => by cases h⟩
 · rw [hr, h1]
   exact trodAll_mk1 (shut_bool hbt true)
 · rw [h2]
   exact stays_all hl hb _ _ _ _ hA hread hlt
 · rw [hv, h3]
   exact rfl
end Slb

/- Base 15: an argument that is a slice. -/
namespace Slb
open Go Go.Proofs Go.RowKit Go.WideShapes Go.ChangeShapes

/-- What a slice that was handed in reads as. -/
def ArgSl {α : Type} (F : Fr) (a : Option Addr) (z : Nat) (enc : α → List Value) (xs : List α) : Prop := 0 < xs.length → ∃ b off, a = some ⟨b, off, none⟩ ∧ ∃ (l : List Value) (ty : TypeId) (fz : Nat × Nat), F.h b = some (.cells l.toArray ty fz) ∧ SubL l off (xs.length * z) (xs.flatMap enc)
theorem ArgSl.mono {α : Type} {F F' : Fr} {a : Option Addr} {z : Nat} {enc : α → List Value} {xs : List α} (h : ArgSl F a z enc xs) (hle : PH.le F.h F'.h) : ArgSl F' a z enc xs := fun h0 => by
 obtain ⟨b, off, h1, l, ty, fz, h2, h3⟩ := h h0
 exact ⟨b, off, h1, l, ty, fz, hle _ _ h2, h3⟩
theorem ArgSl.get {α : Type} {F : Fr} {a : Option Addr} {z : Nat} {enc : α → List Value} {xs : List α} (h : ArgSl F a z enc xs) (h0 : 0 < xs.length) : ∃ b off, a = some ⟨b, off, none⟩ ∧ ∀ S, SlAt S F b off z enc xs := by
 obtain ⟨b, off, h1, l, ty, fz, h2, h3⟩ := h h0
 exact ⟨b, off, h1, fun S => SlAt.fr h2 h3⟩
theorem subL_of_get {l s : List Value} {off n : Nat} (hs : s.length = n) (hn : 0 < n) (h : ∀ j, j < n → l[off + j]? = s[j]?) : SubL l off n s := by
 have h0 : off < l.length := by
   have := h 0 hn
   rw [Nat.add_zero, List.getElem?_eq_getElem (by omega : 0 < s.length)] at this
   exact (List.getElem?_eq_some_iff.1 this).1
 have h1 : off + n ≤ l.length := by
   have := h (n - 1) (by omega)
   rw [List.getElem?_eq_getElem (by omega : n - 1 < s.length)] at this
   have := (List.getElem?_eq_some_iff.1 this).1
   omega
 have hmid : (l.drop off).take n = s := by
   apply List.ext_getElem?
   intro j
   by_cases hj : j < n
   · rw [List.getElem?_take_of_lt hj, List.getElem?_drop]
     exact h j hj
   · rw [List.getElem?_eq_none (by simp; omega), List.getElem?_eq_none (by omega)]
 refine ⟨l.take off, l.drop (off + n), ?_, by simp; omega, hs⟩
 rw [← hmid, ← List.drop_drop, List.append_assoc, List.take_append_drop, List.take_append_drop]
theorem list_of_each {α : Type} {Q : Nat → α → Prop} : ∀ (n : Nat), (∀ i, i < n → ∃ x, Q i x) → ∃ xs : List α, xs.length = n ∧ ∀ i x, xs[i]? = some x → Q i x
 | 0, _ => ⟨[], rfl, fun i x h => by simp at h⟩
 | n + 1, h => by
   obtain ⟨xs, h1, h2⟩ := list_of_each n fun i hi => h i (by omega)
   obtain ⟨x, hx⟩ := h n (by omega)
   refine ⟨xs ++ [x], by simp [h1], fun i y hy => ?_⟩
   by_cases hi : i < n
   · rw [List.getElem?_append_left (by omega)] at hy
     exact h2 i y hy
   · have hin : i = n := by
       have := (List.getElem?_eq_some_iff.1 hy).1
       simp at this; omega
     subst hin
     rw [List.getElem?_append_right (by omega)] at hy
     simp [h1] at hy
     subst hy; exact hx
theorem J.decT {N : Nat} {G : Env} {S : List HProp} {F : Fr} {Φ : Act → World → Prop} {d : Nat} {p : Prop} [Decidable p] (hp : p) (j : J N (.cons d (.bool true) G) S F Φ) : J N (.cons d (.bool (decide p)) G) S F Φ := by
 simp only [hp, decide_true]; exact j
theorem J.decF {N : Nat} {G : Env} {S : List HProp} {F : Fr} {Φ : Act → World → Prop} {d : Nat} {p : Prop} [Decidable p] (hp : ¬ p) (j : J N (.cons d (.bool false) G) S F Φ) : J N (.cons d (.bool (decide p)) G) S F Φ := by
 simp only [hp, decide_false]; exact j
theorem J.boolT {N : Nat} {G : Env} {S : List HProp} {F : Fr} {Φ : Act → World → Prop} {d : Nat} {b : Bool} (hp : b = true) (j : J N (.cons d (.bool true) G) S F Φ) : J N (.cons d (.bool b) G) S F Φ := by subst hp; exact j
theorem QP.eqlB {P : Program} {N : Nat} {G : Env} {S : List HProp} {F : Fr} {o : Oper} {t t' : TypeId} {x y : Operand} {a b : Bool} (ho : o.op = .binOp .eql t x y t') (hx : opv G x = some (.bool a)) (hy : opv G y = some (.bool b)) (hu : P.underlying t = some .bool) : QP P N G S F o (.bool (a == b)) := fun ac w s w' => by
 unfold execOp; simp [ho, s.eval hx, s.eval hy, eqGuard_at_bool, run_eql_bool w' t a b hu]
theorem TE.intW {P : Program} {t : TypeId} {k : IntKind} {lo hi : Int} (h1 : k.min = lo) (h2 : k.max = hi) (hu : P.underlying t = some (.int k)) : TE P t { n : Int // lo ≤ n ∧ n ≤ hi } fun n => [.int k n.val] := fun e w base sp held fuel cs y h => by
 obtain ⟨n, e1, _, e2⟩ := DataW.trod_int hu h
 simp only [Lit.wf, Bool.and_eq_true, decide_eq_true_eq] at e2
 exact ⟨⟨n, by rw [← h1]; exact e2.1, by rw [← h2]; exact e2.2⟩, e1⟩
theorem Want.undef {N : Nat} {G : Env} {S : List HProp} {F : Fr} {ops : Array Oper} {o : Oper} {g d : Nat} {b : Bool} (h : o.guard = .some (g, b)) (hg : (ops[g]?).bind (·.dst) = .some d) (hl : lk G d = .some Go.undef) : Want N G S F ops o false :=
 fun a w s => by
   have := s.slots d _ hl
   show wants ops o a = _
   unfold wants Region.wanted yielded
   simp only [h, hg, Option.bind_some, this]
   rfl
end Slb

/- Base 16: shifting; rows that a walk has made. -/
namespace Slb
open Go Go.Proofs
/-- Blocks of a table, as one atom. -/
def rowsA {K α : Type} (enc : α → List Value) (ty : TypeId) (L : List (K × (Nat × α))) : HProp := stars (rows enc ty L)
/-- The same rows, said otherwise. -/
theorem J.slEq {N : Nat} {G : Env} {S S1 : List HProp} {F : Fr} {Φ : Act → World → Prop} {α : Type} {e : TypeId} {z : Nat} {enc : α → List Value} {v : Value} {xs ys : List α} (pk : Pick S (slA e z enc v xs) S1) (h : xs = ys) (j : J N G (slA e z enc v ys :: S1) F Φ) : J N G S F Φ := by
 subst h
 exact j.conseq fun _ s => s.perm pk.perm
end Slb

/- Base 17: an array's element; strings. -/
namespace Slb
open Go Go.Proofs
section
variable {P : Program} {N : Nat} {G : Env} {S : List HProp} {F : Fr} {o : Oper} {t t' e : TypeId} {x y : Operand}
end
/-! ### Parts of slices -/
def slOff (a : Option Addr) (c i z : Nat) : Option Addr := if c = i then a else a.map fun x => x.add (i * z)
section
variable {P : Program} {N : Nat} {G : Env} {S : List HProp} {F : Fr} {o : Oper} {t e : TypeId} {x y y2 : Operand} {z : Nat}
/-- A slice's head: nil, or at a place. -/
def SlH {α : Type} (a : Option Addr) (c : Nat) (xs : List α) : Prop := (a = none ∧ c = 0 ∧ xs = []) ∨ ((∃ b off, a = some ⟨b, off, none⟩) ∧ xs.length ≤ c)
theorem Sat.slCase {α : Type} {enc : α → List Value} {v : Value} {xs : List α} {w : World} (h : slA e z enc v xs ∈ S) (s : Sat S F w) : ∃ a c, v = .slice a xs.length c ∧ SlH a c xs := by
 obtain ⟨p, hp, _⟩ := s.memX h
 rcases hp with ⟨rfl, rfl, _⟩ | ⟨b, off, c, pre, spare, post, rfl, _, _, h4, _⟩
 · exact ⟨none, 0, rfl, .inl ⟨rfl, rfl, rfl⟩⟩
 · exact ⟨_, c, rfl, .inr ⟨⟨b, off, rfl⟩, h4⟩⟩
theorem J.slCase {N : Nat} {G : Env} {Φ : Act → World → Prop} {α : Type} {enc : α → List Value} {v : Value} {xs : List α} (h : slA e z enc v xs ∈ S) (j : ∀ a c, v = .slice a xs.length c → SlH a c xs → J N G S F Φ) : J N G S F Φ := fun ac w s => by
 obtain ⟨a, c, h1, h2⟩ := Sat.slCase h s.sat
 exact j a c h1 h2 ac w s
theorem SlH.get {α : Type} {a : Option Addr} {c : Nat} {xs : List α} (h : SlH a c xs) (h0 : 0 < xs.length) : ∃ b off, a = some ⟨b, off, none⟩ := by
 rcases h with ⟨_, _, rfl⟩ | ⟨h, _⟩
 · simp at h0
 · exact h
theorem SlH.le {α : Type} {a : Option Addr} {c : Nat} {xs : List α} (h : SlH a c xs) : xs.length ≤ c := by
 rcases h with ⟨_, rfl, rfl⟩ | ⟨_, h⟩
 · exact Nat.le_refl _
 · exact h
/-- The rows of a part of a slice. -/
theorem RowsAt.cut {α : Type} {enc : α → List Value} {a : Option Addr} {c i j : Nat} {xs : List α} (hl : ∀ x, (enc x).length = z) (hh : SlH a c xs) (h : ∀ b off, a = some ⟨b, off, none⟩ → SlAt S F b off z enc xs) (hij : i ≤ j) (hj : j ≤ xs.length) :
   RowsAt S F (.slice (slOff a c i z) (j - i) (c - i)) ((xs.take j).drop i).length z (((xs.take j).drop i).flatMap enc) := by
 refine ⟨flatMap_len hl _, ?_⟩
 have hlen : ((xs.take j).drop i).length = j - i := by simp; omega
 rcases hh with ⟨rfl, rfl, rfl⟩ | ⟨⟨b, off, rfl⟩, hc⟩
 · left
   simp at hj; subst hj
   obtain rfl : i = 0 := by omega
   simp [slOff]
 · right
   have hs := (h b off rfl).part hl hij hj
   by_cases hci : c = i
   · refine ⟨b, off, c - i, by rw [hlen]; simp [slOff, hci], fun w s => ?_⟩
     obtain ⟨l, ty, fz, h1, pre, post, h2, h3, h4⟩ := h b off rfl w s
     have hnil : (xs.take j).drop i = [] := List.eq_nil_of_length_eq_zero (by omega)
     refine ⟨l, ty, fz, h1, ?_⟩
     rw [hnil]
     exact ⟨pre, xs.flatMap enc ++ post, by simp [h2], h3, by simp⟩
   · refine ⟨b, off + i * z, c - i, by rw [hlen]; simp [slOff, hci, add_lit], hs⟩
end
/-! ### Calling a function's value -/
section
variable {P : Program} {N : Nat} {G : Env} {S : List HProp} {F : Fr}
theorem EF.callV {o : Oper} {f : FuncId} {x : Operand} {cap : Array Value} {args : Array Operand} {at_ : Array TypeId} {vs : List Value} {m r : List HProp} {R : Value → List HProp → Prop}
   (ho : o.op = .call ⟨.value x, args, at_⟩) (hx : opv G x = some (.func (.func f) #[] cap)) (hc : CanEnter P f) (hv : opvs G args.toList = some vs) (t : Takes S m r)
   (hs : ∀ F' : Fr, PH.le F.h F'.h → (∀ b o, pts b o ∈ r → F'.h b = some o) → Spec P f (vs ++ cap.toList).toArray m F' R) : EF P N G S F o fun v S' => ∃ S1, R v S1 ∧ S' = S1 ++ r := fun a w s => by
 have hargs : args.map a.eval = vs.toArray := by
   have := s.evals hv
   rw [← this]
   apply Array.ext'
   simp
 have hrun : (execOp a.eval o).run P w = .ok (.enter f (vs ++ cap.toList).toArray) w := by
   unfold execOp
   simp only [ho, resolve, s.eval hx, Deferred.ofValue]
   rw [hargs]
   have e : vs.toArray ++ cap = (vs ++ cap.toList).toArray := by apply Array.ext'; simp
   have h2 := run_enter hc (vs ++ cap.toList).toArray w
   simp only [Array.empty_append, Sem.run_bind, Sem.run_pure, Result.andThen_ok, Go.invoke]
   rw [e, h2]
 show EStep P o a w _
 unfold EStep
 rw [hrun]
 obtain ⟨F', s1, hle, hr, back⟩ := (s.sat.takes t).lend
 refine (hs F' hle hr w s1).mono fun e w' ⟨v, S', he, hR, s'⟩ => ?_
 subst he
 exact ⟨S' ++ r, ⟨S', hR, rfl⟩, back _ _ s'⟩
theorem QP.field {o : Oper} {t : TypeId} {x : Operand} {f off : Nat} {l : List Value} {k : Nat} {s : List Value} {fs : Array Field} {fd : Field} (ho : o.op = .field t x f) (hx : opv G x = some (.agg l.toArray)) (hu : P.underlying t = some (.struct fs)) (hf : fs[f]? = some fd) (hoff : fd.offset = off) (ht : Agg P fd.type k) (hs : SubL l off k s) : QP P N G S F o (.agg s.toArray) := fun ac w st w' => by
 unfold execOp
 simp [ho, st.eval hx, Instr.field, run_underlying hu, hf, hoff, asAgg, run_part ht w' hs]
theorem QP.field1 {o : Oper} {t : TypeId} {x : Operand} {f off : Nat} {l : List Value} {v : Value} {fs : Array Field} {fd : Field} (ho : o.op = .field t x f) (hx : opv G x = some (.agg l.toArray)) (hu : P.underlying t = some (.struct fs)) (hf : fs[f]? = some fd) (hoff : fd.offset = off) (ht : Sca P fd.type) (hs : SubL l off 1 [v]) : QP P N G S F o v := fun ac w st w' => by
 unfold execOp
 simp [ho, st.eval hx, Instr.field, run_underlying hu, hf, hoff, asAgg, run_part1 ht w' hs]
theorem QP.rem {o : Oper} {t t' : TypeId} {x y : Operand} {k : IntKind} {m n : Int} (ho : o.op = .binOp .rem t x y t') (hx : opv G x = some (.int k m)) (hy : opv G y = some (.int k n)) (h0 : n ≠ 0) : QP P N G S F o (.int k (m.tmod n)) := fun a w s w' => by
 unfold execOp; simp [ho, s.eval hx, s.eval hy, eqGuard_at_int, binOp, Op.intDiv, h0]
theorem QP.quo {o : Oper} {t t' : TypeId} {x y : Operand} {k : IntKind} {m n : Int} (ho : o.op = .binOp .quo t x y t') (hx : opv G x = some (.int k m)) (hy : opv G y = some (.int k n)) (h0 : n ≠ 0) : QP P N G S F o (.int k (k.wrap (m.tdiv n))) := fun a w s w' => by
 unfold execOp; simp [ho, s.eval hx, s.eval hy, eqGuard_at_int, binOp, Op.intDiv, h0]
end
section
variable {P : Program} {N : Nat} {G : Env} {S : List HProp} {F : Fr} {o : Oper} {t e : TypeId} {z : Nat}
theorem EF.conseq {next next' : Value → List HProp → Prop} (h : EF P N G S F o next) (hs : ∀ v S', next v S' → ∃ S2, next' v S2 ∧ ∀ w, Sat S' F w → Sat S2 F w) : EF P N G S F o next' := fun a w s =>
 (h a w s).mono fun v w' ⟨S', h1, h2⟩ => by
   obtain ⟨S2, h3, h4⟩ := hs v S' h1
   exact ⟨S2, h3, h4 w' h2⟩
theorem slA_zero {α : Type} {enc : α → List Value} {b : Nat} {h : PH} (hh : blk b [] e h) : slA e z enc (.slice (some ⟨b, 0, none⟩) 0 0) [] h :=
 .inr ⟨b, 0, 0, [], [], [], rfl, hh, rfl, Nat.le_refl _, by simp⟩
theorem EF.buildSlice0 {α : Type} {enc : α → List Value} {zero : Value} (ho : o.op = .buildSlice t 0 #[]) (hu : P.underlying t = some (.slice e)) (hz : Sz P e z)
   (h0 : Zero P e zero) (hzl : zero.cells.size = z) (hz0 : z ≠ 0) :
   EF P N G S F o fun u S' => ∃ b, u = .slice (some ⟨b, 0, none⟩) 0 0 ∧ S' = slA e z enc u [] :: S :=
 (EF.buildSlice (N := N) (S := S) (F := F) (vs := []) ho hu hz h0 hzl (by omega) (by rfl) rfl rfl (by simp) hz0).conseq fun v S' ⟨b, h1, h2⟩ => by
   subst h2; subst h1
   exact ⟨_, ⟨b, rfl, rfl⟩, fun w s => s.head fun h hh => slA_zero hh⟩
theorem EF.buildSliceN {α : Type} {enc : α → List Value} {xs : List α} {n : Nat} {parts : Array (Nat × Operand)} {zero : Value} (ho : o.op = .buildSlice t n parts) (hu : P.underlying t = some (.slice e)) (hz : Sz P e z)
   (h0 : Zero P e zero) (hzl : zero.cells.size = z) (hn : n * z ≤ 16777216) (hi : parts.toList.map (·.1) = List.range n) (hv : opvs G (parts.toList.map (·.2)) = some (xs.map fun x => .agg (enc x).toArray)) (hxn : xs.length = n) (hl : ∀ x, (enc x).length = z) (hz0 : z ≠ 0) :
   EF P N G S F o fun u S' => ∃ b, u = .slice (some ⟨b, 0, none⟩) n n ∧ S' = blk b (xs.flatMap enc) e :: S := by
 have := EF.buildSlice (N := N) (S := S) (F := F) ho hu hz h0 hzl hn hi hv (by simpa using hxn) (fun v hv => by obtain ⟨x, _, rfl⟩ := List.mem_map.1 hv; simp [Value.cells, hl]) hz0
 have e1 : ((xs.map fun x => Value.agg (enc x).toArray).flatMap fun v => v.cells.toList) = xs.flatMap enc := by simp [List.flatMap_map, Value.cells]
 rw [e1] at this
 exact this
/-- A row of a slice is written. -/
theorem EF.storeSlF {α : Type} {enc : α → List Value} {x y : Operand} {b off i fo k n c : Nat} {v : Value} {xs : List α} {s : α} {S1 : List HProp} (ho : o.op = .store t x y) (hx : opv G x = some (.pointer (some ⟨b, off + i * z + fo, none⟩))) (hy : opv G y = some v)
   (hz : Sz P t k) (pk : Pick S (slA e z enc (.slice (some ⟨b, off, none⟩) n c) xs) S1) (hl : ∀ x, (enc x).length = z) (hi : i < xs.length) (hset : ∀ x, xs[i]? = some x → SetL (enc x) fo k v.cells.toList (enc s)) (hv : ∀ u ∈ v.cells.toList, Value.cellB u = true) :
   EF P N G S F o fun _ S2 => S2 = slA e z enc (.slice (some ⟨b, off, none⟩) n c) (xs.set i s) :: S1 := fun a w st => by
 obtain ⟨p, hp, back⟩ := (st.sat.perm pk.perm).unpack
 rcases hp with ⟨h1, _, _⟩ | ⟨b', off', c', pre, spare, post, h1, rfl, h3, h4, h5⟩
 · cases h1
 · simp only [Value.slice.injEq, Option.some.injEq, Addr.mk.injEq, and_true] at h1
   obtain ⟨⟨rfl, rfl⟩, rfl, rfl⟩ := h1
   have s1 : Sat (blk b (pre ++ (xs.flatMap enc ++ (spare ++ post))) e :: S1) F w := back [blk b (pre ++ (xs.flatMap enc ++ (spare ++ post))) e] (stars_one.2 rfl)
   obtain ⟨x0, hx0⟩ : ∃ x0, xs[i]? = some x0 := ⟨_, List.getElem?_eq_getElem hi⟩
   have hrow : SetL (xs.flatMap enc) (i * z + fo) k v.cells.toList ((xs.set i s).flatMap enc) :=
     (set_row hl s hi).trans (sub_row hl hx0) (hset x0 hx0)
   have hs : SetL (pre ++ (xs.flatMap enc ++ (spare ++ post))) (off + i * z + fo) k v.cells.toList (pre ++ ((xs.set i s).flatMap enc ++ (spare ++ post))) := by
     have := SetL.right (m := pre) h3 (SetL.left (m := spare ++ post) hrow)
     rwa [← Nat.add_assoc] at this
   have := EF.storeU (P := P) (N := N) (G := G) (F := F) (S := blk b (pre ++ (xs.flatMap enc ++ (spare ++ post))) e :: S1) ho hx hy hz hs hv Upd.head a w (st.world s1)
   refine this.mono fun v' w' ⟨S', h6, h7⟩ => ⟨_, rfl, ?_⟩
   subst h6
   refine h7.head fun q hq => .inr ⟨b, off, c, pre, spare, post, by simp, hq, h3, by simpa using h4, by simpa using h5⟩
theorem Sq.slCase {ops : Array Oper} {l : List Nat} {K : Posts} {α : Type} {enc : α → List Value} {v : Value} {xs : List α} (h : slA e z enc v xs ∈ S) (j : ∀ a c, v = .slice a xs.length c → SlH a c xs → Sq P N ops l K G S F) : Sq P N ops l K G S F := J.slCase h j
theorem Dw.slCase {ops : Array Oper} {M : List Nat} {q r : Nat} {D : List Nat} {k : Act → World → Prop} {α : Type} {enc : α → List Value} {v : Value} {xs : List α} (h : slA e z enc v xs ∈ S) (j : ∀ a c, v = .slice a xs.length c → SlH a c xs → Dw P N ops M q r D k G S F) : Dw P N ops M q r D k G S F := J.slCase h j
end
/-! ### Deleting what is so -/
section dels
variable {K V : Type} [DecidableEq K]
omit [DecidableEq K] in
theorem nodup_filter {M : List (K × V)} (hn : (M.map (·.1)).Nodup) (p : K × V → Bool) : ((M.filter p).map (·.1)).Nodup := hn.sublist (List.filter_sublist.map _)
def delsE (d : V → Bool) (key : V → K) (E : List (K × (Nat × V))) (l : List V) : List (K × (Nat × V)) := l.foldl (fun E s => if d s then adel E (key s) else E) E
def delsM (d : V → Bool) (key : V → K) (M : List (K × V)) (l : List V) : List (K × V) := l.foldl (fun M s => if d s then adel M (key s) else M) M
theorem mem_aset {M : List (K × V)} {k : K} {v : V} {e : K × V} (h : e ∈ aset M k v) : e = (k, v) ∨ e ∈ M := by
 induction M with
 | nil => simp [aset] at h; exact .inl h
 | cons x M ih =>
   obtain ⟨a, u⟩ := x
   unfold aset at h
   by_cases hk : a = k
   · rw [if_pos hk] at h
     rcases List.mem_cons.1 h with h | h
     · exact .inl h
     · exact .inr (List.mem_cons_of_mem _ h)
   · rw [if_neg hk] at h
     rcases List.mem_cons.1 h with h | h
     · exact .inr (h ▸ List.mem_cons_self)
     · rcases ih h with h | h
       · exact .inl h
       · exact .inr (List.mem_cons_of_mem _ h)
theorem alook_aset_self (M : List (K × V)) (k : K) (v : V) : alook (aset M k v) k = some v := by
 induction M with
 | nil => simp [aset, alook]
 | cons x M ih =>
   obtain ⟨a, u⟩ := x
   unfold aset
   by_cases hk : a = k
   · rw [if_pos hk]; simp [alook]
   · rw [if_neg hk]; simp [alook, hk, ih]
theorem alook_aset_ne {M : List (K × V)} {k k' : K} {v : V} (h : k ≠ k') : alook (aset M k v) k' = alook M k' := by
 induction M with
 | nil => simp [aset, alook, h]
 | cons x M ih =>
   obtain ⟨a, u⟩ := x
   unfold aset
   by_cases hk : a = k
   · subst hk; rw [if_pos rfl]; simp [alook, h]
   · rw [if_neg hk]
     by_cases hk' : a = k'
     · simp [alook, hk']
     · simp [alook, hk', ih]
end dels
end Slb

/- Base 18: a table, and the list of what it holds, in order. -/
namespace Slb
open Go Go.Proofs
section
variable {K V : Type} [DecidableEq K]
/-- L holds what M holds, in order. -/
structure InOrder (key : V → K) (cf : V → V → Int) (M : List (K × V)) (L : List V) : Prop where
 keyed : ∀ e ∈ M, e.1 = key e.2
 nodup : (M.map (·.1)).Nodup
 perm : L.Perm (M.map (·.2))
 sort : L.Pairwise fun a b => cf a b < 0
/-- The order is that of the keys. -/
structure KeyCmp (key : V → K) (cf : V → V → Int) : Prop where
 zero : ∀ x y, cf x y = 0 ↔ key x = key y
 neg : ∀ x y, cf x y < 0 ↔ 0 < cf y x
 tr : ∀ x y z, cf x y < 0 → cf y z < 0 → cf x z < 0
 ext : ∀ x y z, key x = key y → cf x z = cf y z
omit [DecidableEq K] in
theorem KeyCmp.of {key : V → K} {cf : V → V → Int} {c : K → K → Int} (t : TotCmp c) (h : ∀ x y, cf x y = c (key x) (key y)) : KeyCmp key cf where
 zero x y := by rw [h]; exact t.eq _ _
 neg x y := by rw [h, h]; exact t.neg _ _
 tr x y z := by rw [h, h, h]; exact t.tr _ _ _
 ext x y z e := by rw [h, h, e]
namespace InOrder
variable {key : V → K} {cf : V → V → Int} {M : List (K × V)} {L : List V}
omit [DecidableEq K] in
theorem nil : InOrder key cf [] [] := ⟨fun _ h => (by cases h), List.nodup_nil, List.Perm.refl _, List.Pairwise.nil⟩
omit [DecidableEq K] in
theorem length (h : InOrder key cf M L) : L.length = M.length := by simpa using h.perm.length_eq
theorem mem (h : InOrder key cf M L) {v : V} : v ∈ L ↔ alook M (key v) = some v := by
 constructor
 · intro hv
   obtain ⟨e, he, rfl⟩ := List.mem_map.1 (h.perm.subset hv)
   have := alook_mem_of_nodup h.nodup (k := e.1) (v := e.2) he
   rwa [h.keyed e he] at this
 · intro hv
   exact h.perm.symm.subset (List.mem_map.2 ⟨_, alook_some hv, rfl⟩)
theorem look (h : InOrder key cf M L) {k : K} {v : V} (e : alook M k = some v) : v ∈ L ∧ key v = k := by
 have h1 := alook_some e
 exact ⟨h.perm.symm.subset (List.mem_map.2 ⟨_, h1, rfl⟩), (h.keyed _ h1).symm⟩
theorem look_iff (h : InOrder key cf M L) {k : K} {v : V} : alook M k = some v ↔ v ∈ L ∧ key v = k :=
 ⟨h.look, fun ⟨h1, h2⟩ => by subst h2; exact h.mem.1 h1⟩
theorem inj (h : InOrder key cf M L) {a b : V} (ha : a ∈ L) (hb : b ∈ L) (hk : key a = key b) : a = b := by
 have h1 := h.mem.1 ha
 have h2 := h.mem.1 hb
 rw [hk, h2] at h1
 exact (Option.some.inj h1).symm
theorem keyed_set {k : K} {v : V} (hk : key v = k) (h : ∀ e ∈ M, e.1 = key e.2) : ∀ e ∈ aset M k v, e.1 = key e.2 := fun e he => by
 rcases mem_aset he with rfl | he
 · exact hk.symm
 · exact h e he
theorem keys_set_some {k : K} {v old : V} (h : alook M k = some old) : (aset M k v).map (·.1) = M.map (·.1) := by
 induction M with
 | nil => simp [alook] at h
 | cons x M ih =>
   obtain ⟨a, u⟩ := x
   unfold aset
   unfold alook at h
   by_cases hk : a = k
   · simp [hk]
   · rw [if_neg hk] at h ⊢
     simp [ih h]
/-- Another value of the same key. -/
theorem set (c : KeyCmp key cf) (h : InOrder key cf M L) {k : K} {v old : V} {i : Nat} (hk : key v = k) (ho : L[i]? = some old) (hok : key old = k) : InOrder key cf (aset M k v) (L.set i v) := by
 have hlook : alook M k = some old := h.look_iff.2 ⟨List.mem_of_getElem? ho, hok⟩
 obtain ⟨A, B, rfl, hA⟩ := alook_split hlook
 have hi : i < L.length := (List.getElem?_eq_some_iff.1 ho).1
 have hL : L = L.take i ++ old :: L.drop (i + 1) := by
   have : L[i] = old := (List.getElem?_eq_some_iff.1 ho).2
   rw [← this, ← List.drop_eq_getElem_cons hi, List.take_append_drop]
 have hset : L.set i v = L.take i ++ v :: L.drop (i + 1) := List.set_eq_take_append_cons_drop ▸ by simp [hi]
 refine ⟨keyed_set hk h.keyed, by rw [keys_set_some hlook]; exact h.nodup, ?_, ?_⟩
 · rw [aset_split hA, hset]
   have hp := h.perm
   rw [hL] at hp
   simp only [List.map_append, List.map_cons] at hp ⊢
   have h1 : (old :: (L.take i ++ L.drop (i + 1))).Perm (old :: (A.map (·.2) ++ B.map (·.2))) := (List.perm_middle.symm.trans hp).trans List.perm_middle
   exact List.perm_middle.trans ((List.Perm.cons v h1.cons_inv).trans List.perm_middle.symm)
 · rw [hset]
   have hs := h.sort
   rw [hL] at hs
   rw [List.pairwise_append] at hs ⊢
   obtain ⟨s1, s2, s3⟩ := hs
   rw [List.pairwise_cons] at s2 ⊢
   have e1 : ∀ z, cf v z = cf old z := fun z => c.ext v old z (hk.trans hok.symm)
   have e2 : ∀ z, cf z v < 0 ↔ cf z old < 0 := fun z => by rw [c.neg, e1, ← c.neg]
   refine ⟨s1, ⟨fun b hb => by rw [e1]; exact s2.1 b hb, s2.2⟩, fun a ha b hb => ?_⟩
   rcases List.mem_cons.1 hb with rfl | hb
   · rw [e2]; exact s3 a ha old List.mem_cons_self
   · exact s3 a ha b (List.mem_cons_of_mem _ hb)
omit [DecidableEq K] in
theorem filter (h : InOrder key cf M L) (p : V → Bool) : InOrder key cf (M.filter fun e => p e.2) (L.filter p) := by
 refine ⟨fun e he => h.keyed e (List.mem_filter.1 he).1, nodup_filter h.nodup _, ?_, h.sort.filter _⟩
 have := h.perm.filter p
 rwa [List.filter_map] at this
end InOrder
end
end Slb

/- Base 19: a table of pointers, its rows owned. -/
namespace Slb
open Go Go.Proofs
section
variable {K V : Type} [DecidableEq K]
/-- A table: its own row, its map, what the map's pointers lead to. -/
def GTab (tr : Nat → List Value) (tty : TypeId) (ek : K → Value) (enc : V → List Value) (vty : TypeId) (b : Nat) (M : List (K × V)) : HProp := fun h =>
 ∃ r E, vals E = M ∧ stars (blk b (tr r) tty :: mapT ek pv r (ptrs E) :: rows enc vty E) h
variable {tr : Nat → List Value} {tty : TypeId} {ek : K → Value} {enc : V → List Value} {vty : TypeId} {b : Nat} {M : List (K × V)}
theorem aset_same {M : List (K × V)} {k : K} {v : V} (h : alook M k = some v) : aset M k v = M := by
 obtain ⟨A, B, rfl, hA⟩ := alook_split h
 exact aset_split hA
omit [DecidableEq K] in
theorem GTab.open {h : PH} (g : GTab tr tty ek enc vty b M h) : ∃ x : Nat × List (K × (Nat × V)), stars [fact (vals x.2 = M), blk b (tr x.1) tty, mapT ek pv x.1 (ptrs x.2), rowsA enc vty x.2] h := by
 obtain ⟨r, E, hv, hs⟩ := g
 refine ⟨(r, E), PH.none, h, PH.none_disj h, (PH.none_union h).symm, ⟨hv, rfl⟩, ?_⟩
 exact (stars_append (l := [blk b (tr r) tty, mapT ek pv r (ptrs E)]) (m := [rowsA enc vty E])).2 (star_mono (fun _ x => x) (fun _ x => star_emp x) ((stars_append (l := [blk b (tr r) tty, mapT ek pv r (ptrs E)]) (m := rows enc vty E)).1 hs))
omit [DecidableEq K] in
theorem GTab.close {r : Nat} {E : List (K × (Nat × V))} (hv : vals E = M) {h : PH} (hs : stars [blk b (tr r) tty, mapT ek pv r (ptrs E), rowsA enc vty E] h) : GTab tr tty ek enc vty b M h := by
 refine ⟨r, E, hv, ?_⟩
 exact (stars_append (l := [blk b (tr r) tty, mapT ek pv r (ptrs E)]) (m := rows enc vty E)).2 (star_mono (fun _ x => x) (fun _ x => of_star_emp x) ((stars_append (l := [blk b (tr r) tty, mapT ek pv r (ptrs E)]) (m := [rowsA enc vty E])).1 hs))
end
section
variable {P : Program} {N : Nat} {G : Env} {S : List HProp} {F : Fr} {ops : Array Oper} {M : List Nat} {q r : Nat} {D : List Nat} {k : Act → World → Prop}
theorem Dw.openE {α : Type} {A : HProp} {r1 : List HProp} {T : α → List HProp} (t : Pick S A r1) (h : ∀ h, A h → ∃ x, stars (T x) h) (j : ∀ x, Dw P N ops M q r D k G (T x ++ r1) F) : Dw P N ops M q r D k G S F := J.openE t h j
theorem Dw.fact {p : Prop} {r1 : List HProp} (t : Pick S (Slb.fact p) r1) (j : p → Dw P N ops M q r D k G r1 F) : Dw P N ops M q r D k G S F := J.fact t j
theorem Dw.app {a b c : List HProp} [App a b c] (j : Dw P N ops M q r D k G c F) : Dw P N ops M q r D k G (a ++ b) F := J.app j
theorem Dw.close {A : HProp} {m r1 : List HProp} (t : Takes S m r1) (h : ∀ h, stars m h → A h) (j : Dw P N ops M q r D k G (A :: r1) F) : Dw P N ops M q r D k G S F := J.close t h j
variable {l : List Nat} {KK : Posts}
theorem Sq.openE {α : Type} {A : HProp} {r1 : List HProp} {T : α → List HProp} (t : Pick S A r1) (h : ∀ h, A h → ∃ x, stars (T x) h) (j : ∀ x, Sq P N ops l KK G (T x ++ r1) F) : Sq P N ops l KK G S F := J.openE t h j
theorem Sq.fact {p : Prop} {r1 : List HProp} (t : Pick S (Slb.fact p) r1) (j : p → Sq P N ops l KK G r1 F) : Sq P N ops l KK G S F := J.fact t j
theorem Sq.app {a b c : List HProp} [App a b c] (j : Sq P N ops l KK G c F) : Sq P N ops l KK G (a ++ b) F := J.app j
theorem Sq.close {A : HProp} {m r1 : List HProp} (t : Takes S m r1) (h : ∀ h, stars m h → A h) (j : Sq P N ops l KK G (A :: r1) F) : Sq P N ops l KK G S F := J.close t h j
theorem Sq.slEq {α : Type} {e : TypeId} {z : Nat} {enc : α → List Value} {v : Value} {S1 : List HProp} {xs ys : List α} (pk : Pick S (slA e z enc v xs) S1) (h : xs = ys) (j : Sq P N ops l KK G (slA e z enc v ys :: S1) F) : Sq P N ops l KK G S F := J.slEq pk h j
theorem Sq.addSl (e : TypeId) (z : Nat) {α : Type} (enc : α → List Value) (j : Sq P N ops l KK G (slA e z enc (.slice none 0 0) [] :: S) F) : Sq P N ops l KK G S F := J.addSl e z enc j
end
end Slb

/- Base 20: sorting pointers; all of a table's rows, one behind the other. -/
namespace Slb
open Go Go.Proofs Go.Sort Go.Shelf
/-! ### Each of a table's rows, one behind the other -/
section
variable {K V : Type} [DecidableEq K]
/-- What one step makes of a table's entries: a row is changed, or gone. -/
def stepE (g : V → Option V) (E l : List (K × (Nat × V))) : List (K × (Nat × V)) := l.foldl (fun E e => match g e.2.2 with | some s => aset E e.1 (e.2.1, s) | none => adel E e.1) E
variable {g : V → Option V} {E es : List (K × (Nat × V))}
end
end Slb

/- Base 21: contracts of a table's functions. -/
namespace Slb
open Go Go.Proofs
section
variable {K V : Type} [DecidableEq K] {P : Program}
variable {tr : Nat → List Value} {tty : TypeId} {ek : K → Value} {enc : V → List Value} {vty : TypeId} {b : Nat} {M : List (K × V)}
end
section
variable {P : Program} {N : Nat} {G : Env} {S : List HProp} {F : Fr} {o : Oper} {t t' : TypeId} {x y : Operand}
theorem QP.makeFunc {f : Fn} {cap : Array Operand} {vs : List Value} (ho : o.op = .makeFunc f #[] cap) (hv : opvs G cap.toList = some vs) : QP P N G S F o (.func f #[] vs.toArray) := fun ac w s w' => by
 have hargs : cap.map ac.eval = vs.toArray := by
   have := s.evals hv
   rw [← this]
   apply Array.ext'
   simp
 unfold execOp; simp [ho, Instr.makeFunc, hargs]
theorem QP.min2 {ts : Array TypeId} {k k' : IntKind} {m n : Int} (ho : o.op = .call ⟨.builtin .min, #[x, y], ts⟩) (hx : opv G x = some (.int k m)) (hy : opv G y = some (.int k' n)) : QP P N G S F o (.int k (if n < m then n else m)) := fun ac w s w' => by
 unfold execOp; simp [ho, s.eval hx, s.eval hy, resolve, Go.invoke, Go.builtin, run_min_int2]
theorem QP.max2 {ts : Array TypeId} {k k' : IntKind} {m n : Int} (ho : o.op = .call ⟨.builtin .max, #[x, y], ts⟩) (hx : opv G x = some (.int k m)) (hy : opv G y = some (.int k' n)) : QP P N G S F o (.int k (if n > m then n else m)) := fun ac w s w' => by
 unfold execOp; simp [ho, s.eval hx, s.eval hy, resolve, Go.invoke, Go.builtin, run_max_int2]
end
end Slb

/- Base 26: tables of whole values: what is looked up; the keys in order. -/
namespace Slb
open Go Go.Proofs
section
variable {P : Program} {N : Nat} {G : Env} {S : List HProp} {F : Fr} {o : Oper} {t kt et : TypeId} {x y : Operand} {r : Nat} {K V : Type} [DecidableEq K] {ek : K → Value} {ev : V → Value} {M : List (K × V)}
theorem QR.lookup2V (hk : KeyTy P kt K ek) (ho : o.op = .lookup t x y true) (hx : opv G x = some (.map (some r))) [hm : HasMap r S K V ek ev M] {k : K} (hy : opv G y = some (ek k)) (hu : P.underlying t = some (.map kt et)) {z : V} (hz : Zero P et (ev z)) :
   QR P N G S F o (.tuple #[ev ((alook M k).getD z), .bool (alook M k).isSome]) := by
 have := QR.lookup2 (N := N) (G := G) (S := S) (F := F) (hm := hm) hk ho hx hy hu hz
 cases h : alook M k with
 | none => rw [h] at this; exact this
 | some v => rw [h] at this; exact this
end
section
variable {K V : Type} [DecidableEq K] {key : V → K} {cf : V → V → Int} {M : List (K × V)} {L : List V}
omit [DecidableEq K] in
theorem InOrder.keys {c : K → K → Int} (tc : TotCmp c) (hc : ∀ x y, cf x y = c (key x) (key y)) (h : InOrder key cf M L) {ks : List K} (hp : ks.Perm (M.map (·.1))) (hs : ks.Pairwise fun a b => ¬ c b a < 0) : ks = L.map key := by
 have h1 : M.map (·.1) = (M.map (·.2)).map key := by
   rw [List.map_map]
   exact List.map_congr_left fun e he => h.keyed e he
 have h2 : (L.map key).Perm (M.map (·.1)) := by rw [h1]; exact h.perm.map key
 have hs2 : (L.map key).Pairwise fun a b => ¬ c b a < 0 := List.pairwise_map.2 (h.sort.imp fun {a b} hab hba => by
   rw [hc] at hab
   have := (tc.neg (key a) (key b)).1 hab
   omega)
 refine List.Perm.eq_of_pairwise (le := fun a b => ¬ c b a < 0) (fun a b _ _ h3 h4 => ?_) hs hs2 (hp.trans h2.symm)
 refine (tc.eq a b).1 ?_
 have h5 := tc.neg b a
 by_cases h6 : 0 < c a b
 · exact absurd (h5.2 h6) h3
 · omega
end
end Slb

/- Base 27: an array's bytes, one by one; bytes as a string; shifting, and. -/
namespace Slb
open Go Go.Proofs
theorem Bs.subAt {n : Nat} (x : Bs n) {i off : Nat} {c : UInt8} (h : x.l[i]? = some c) (ho : off = i) : SubL x.enc off 1 [.int .u8 c.toNat] := by
 subst ho
 obtain ⟨hlt, rfl⟩ := List.getElem?_eq_some_iff.1 h
 refine ⟨bytesV (x.l.take off), bytesV (x.l.drop (off + 1)), ?_, by rw [bytesV_length, List.length_take]; omega, rfl⟩
 have : x.l = x.l.take off ++ [x.l[off]] ++ x.l.drop (off + 1) := by
   rw [List.append_assoc, List.singleton_append, ← List.drop_eq_getElem_cons hlt, List.take_append_drop]
 have h2 := congrArg bytesV this
 simp only [bytesV, List.map_append, List.map_cons, List.map_nil] at h2
 exact h2
theorem Bs.subTake {n k off : Nat} {x : Bs n} {l : List Value} (h : SubL l off n x.enc) (hk : k ≤ n) : SubL l off (x.l.take k).length (bytesV (x.l.take k)) := by
 have h1 : SubL x.enc 0 k (bytesV (x.l.take k)) := ⟨[], bytesV (x.l.drop k), by unfold Bs.enc bytesV; rw [List.nil_append, ← List.map_append, List.take_append_drop], rfl, by rw [bytesV_length, List.length_take, x.h]; omega⟩
 have h2 := h.trans h1
 rw [List.length_take, x.h, Nat.min_eq_left hk]
 exact h2
theorem Bs.takeLen {n k : Nat} (x : Bs n) (hk : k ≤ n) : k = (x.l.take k).length := by rw [List.length_take, x.h]; omega
/-- One byte is written. -/
def Bs.put {n : Nat} (x : Bs n) (i : Nat) (c : UInt8) : Bs n := ⟨x.l.set i c, by rw [List.length_set, x.h]⟩
theorem Bs.setAt {n : Nat} (x : Bs n) {i off : Nat} {c : UInt8} {v : Value} (hi : i < n) (ho : off = i) (hv : v = .int .u8 c.toNat) : SetL x.enc off 1 v.cells.toList (x.put i c).enc := by
 subst ho hv
 have hlt : off < x.l.length := by rw [x.h]; exact hi
 refine ⟨bytesV (x.l.take off), [byteV x.l[off]], bytesV (x.l.drop (off + 1)), ?_, ?_, by rw [bytesV_length, List.length_take]; omega, rfl, rfl⟩
 · have : x.l = x.l.take off ++ [x.l[off]] ++ x.l.drop (off + 1) := by
     rw [List.append_assoc, List.singleton_append, ← List.drop_eq_getElem_cons hlt, List.take_append_drop]
   have h2 := congrArg bytesV this
   simp only [bytesV, List.map_append, List.map_cons, List.map_nil] at h2
   exact h2
 · unfold Bs.enc Bs.put
   show bytesV (x.l.set off c) = _
   rw [List.set_eq_take_append_cons_drop, if_pos hlt]
   simp [bytesV, byteV, Value.cells]
section
variable {P : Program} {N : Nat} {G : Env} {S : List HProp} {F : Fr} {o : Oper} {t t' e : TypeId} {x y : Operand}
theorem QP.shr16 {yk : IntKind} {m n : Int} (ho : o.op = .binOp .shr t x y t') (hx : opv G x = some (.int .u16 m)) (hy : opv G y = some (.int yk n)) (h0 : 0 ≤ n) (h1 : n ≤ 16) : QP P N G S F o (.int .u16 (m / 2 ^ n.toNat)) := fun ac w s w' => by
 unfold execOp; simp [ho, s.eval hx, s.eval hy, eqGuard_at_int, binOp, shift_shr_u16 (h₀ := h0) (h₁ := h1)]
/-- Bytes and bytes. -/
theorem QP.and8 {a b : UInt8} {m n : Int} (ho : o.op = .binOp .and t x y t') (hx : opv G x = some (.int .u8 m)) (hy : opv G y = some (.int .u8 n)) (ha : m = a.toNat) (hb : n = b.toNat) : QP P N G S F o (.int .u8 (a &&& b).toNat) := fun ac w s w' => by
 subst ha hb
 have h8 : ∀ (u v : UInt8), IntKind.u8.wrap ((BitVec.ofInt 8 (u.toNat : Int) &&& BitVec.ofInt 8 (v.toNat : Int)).toNat : Int) = ((u &&& v).toNat : Int) := by
   intro u v
   have e1 : BitVec.ofInt 8 (u.toNat : Int) = u.toBitVec := by
     apply BitVec.eq_of_toNat_eq
     simp
   have e2 : BitVec.ofInt 8 (v.toNat : Int) = v.toBitVec := by
     apply BitVec.eq_of_toNat_eq
     simp
   rw [e1, e2]
   show IntKind.u8.wrap (((u &&& v).toBitVec.toNat : Nat) : Int) = _
   have h3 := (u &&& v).toNat_lt
   show IntKind.u8.wrap (((u &&& v).toNat : Nat) : Int) = _
   generalize (u &&& v).toNat = k at h3 ⊢
   unfold IntKind.wrap
   have h4 : (IntKind.u8.bits : Nat) = 8 := rfl
   simp only [h4, show IntKind.u8.signed = false from rfl]
   simp
   omega
 unfold execOp
 simp [ho, s.eval hx, s.eval hy, eqGuard_at_int, binOp, Op.intBits]
 exact h8 a b
theorem QP.sliceArrHi {b off n z : Nat} {j : Int} (ho : o.op = .slice t x none (some y) none) (hx : opv G x = some (.pointer (some ⟨b, off, none⟩))) (hy : opv G y = some (.int .i64 j)) (hu : P.underlying t = some (.array n e)) (hz : Sz P e z) (h0 : 0 ≤ j) (h1 : j ≤ n) (hn : 0 < n) :
   QP P N G S F o (.slice (some ⟨b, off, none⟩) j.toNat n) := fun a w s w' => by
 unfold execOp
 simp [ho, s.eval hx, s.eval hy, Instr.sliceAt, Instr.sureAddr, Instr.sliceBounds, Instr.sliceBound, asIntOf, run_underlying hu, hz w', h0, h1]
 by_cases h : n = 0 <;> simp [h, add_lit]
theorem foldl_bytes (x : List UInt8) : ∀ acc : ByteArray, ((x.map fun c => (c.toNat : Int)).foldl (fun r n => r.push (UInt8.ofNat n.toNat)) acc).data = acc.data ++ x.toArray := by
 induction x with
 | nil => intro acc; simp
 | cons c x ih =>
   intro acc
   simp only [List.map_cons, List.foldl_cons]
   rw [ih]
   simp [ByteArray.push]
/-- Bytes become a string. -/
theorem QR.bytesStr {e : TypeId} {b off n c : Nat} {l : List Value} {xs : List UInt8} (ho : o.op = .convert t t' x) (hx : opv G x = some (.slice (some ⟨b, off, none⟩) n c)) (h1 : P.underlying t = some (.slice e)) (h2 : P.underlying e = some (.int .u8)) (h3 : P.underlying t' = some .string)
   (hr : Rd S F b l) (hs : SubL l off xs.length (bytesV xs)) (hn : n = xs.length) : QR P N G S F o (.string ⟨xs.toArray⟩) := fun a w s => by
 subst hn
 obtain ⟨ty, fz, hh⟩ := hr.at s.sat
 have hl : (loadCells ⟨b, off, none⟩ xs.length).run P w = .ok (bytesV xs).toArray w := by
   have := run_loadCells (P := P) hh (off := off) [] (bytesV xs) 0 #[] (fun j hj => by rw [Nat.zero_add]; exact hs.get (by rw [bytesV_length] at hj; exact hj))
   rw [bytesV_length] at this
   unfold loadCells
   simpa using this
 have hb : bytesV xs = (xs.map fun c => (c.toNat : Int)).map (Value.int .u8) := by simp [bytesV, byteV]
 rw [hb] at hl
 have h5 := run_bytesToString (P := P) w ⟨b, off, none⟩ xs.length c _ hl
 have h6 : (xs.map fun c => (c.toNat : Int)).foldl (fun r n => r.push (UInt8.ofNat n.toNat)) ByteArray.empty = ⟨xs.toArray⟩ := by
   have := foldl_bytes xs ByteArray.empty
   cases hq : (xs.map fun c => (c.toNat : Int)).foldl (fun r n => r.push (UInt8.ofNat n.toNat)) ByteArray.empty with
   | mk d => rw [hq] at this; simp [ByteArray.empty, ByteArray.emptyWithCapacity] at this; rw [this]; simp; rfl
 rw [h6] at h5
 unfold execOp
 simp only [ho, s.eval hx]
 simp [run_convert_bytes_string w t t' e _ _ _ h1 h2 h3, h5]
theorem QP.eqlStr {a b : List UInt8} (ho : o.op = .binOp .eql t x y t') (hx : opv G x = some (.string ⟨a.toArray⟩)) (hy : opv G y = some (.string ⟨b.toArray⟩)) : QP P N G S F o (.bool (decide (a = b))) := fun ac w s w' => by
 have h : (a == b) = decide (a = b) := by by_cases h : a = b <;> simp [h]
 unfold execOp
 simp [ho, s.eval hx, s.eval hy, eqGuard_at_string, binOp, Op.stringOp, ByteArray.toList_eq, h]
end
end Slb

/- Base 37: a string's bytes; two strings. -/
namespace Slb
open Go Go.Proofs
section
variable {P : Program} {N : Nat} {G : Env} {S : List HProp} {F : Fr} {o : Oper} {t t' e : TypeId} {x y : Operand}
theorem QP.indexS {k : IntKind} {s : ByteArray} {i : Int} {c : UInt8} (ho : o.op = .index t x y) (hx : opv G x = some (.string s)) (hy : opv G y = some (.int k i)) (hu : P.underlying t = some .string) (h0 : 0 ≤ i) (hc : s[i.toNat]? = some c) : QP P N G S F o (.int .u8 c.toNat) := fun a w st w' => by
 unfold execOp
 simp [ho, st.eval hx, st.eval hy, Instr.index, asIntOf, run_underlying hu, h0, hc]
theorem QP.eqS {a b : ByteArray} (ho : o.op = .binOp .eql t x y t') (hx : opv G x = some (.string a)) (hy : opv G y = some (.string b)) : QP P N G S F o (.bool (decide (a.data.toList = b.data.toList))) :=
 QP.eqlStr ho (by rw [hx]) (by rw [hy])
theorem str_get {s : ByteArray} {i : Nat} (h : i < s.size) : ∃ c, s[Int.toNat (i : Int)]? = some c := by
 refine ⟨s[i], ?_⟩
 simp [h]
end
end Slb

/- Base 35: bits of a byte: shifting down, and not, and one; clearing bits of an array. -/
namespace Slb
open Go Go.Proofs
section
variable {P : Program} {N : Nat} {G : Env} {S : List HProp} {F : Fr} {o : Oper} {t t' e : TypeId} {x y : Operand}
end
end Slb

/- Base 39: shifts, and, or, of sixteen bits; a byte of a written-out string; the bits that are set. -/
namespace Slb
open Go Go.Proofs
section
variable {P : Program} {N : Nat} {G : Env} {S : List HProp} {F : Fr} {o : Oper} {t t' e : TypeId} {x y : Operand}
/-- Both bits. -/
def and16 (m n : Int) : Int := ((BitVec.ofInt 16 m &&& BitVec.ofInt 16 n).toNat : Int)
/-- One bit or the other. -/
def or16 (m n : Int) : Int := ((BitVec.ofInt 16 m ||| BitVec.ofInt 16 n).toNat : Int)
theorem wrap16_bv (b : BitVec 16) : IntKind.u16.wrap (b.toNat : Int) = (b.toNat : Int) := by
 have h3 := b.isLt
 generalize b.toNat = k at h3 ⊢
 unfold IntKind.wrap
 have h4 : (IntKind.u16.bits : Nat) = 16 := rfl
 simp only [h4, show IntKind.u16.signed = false from rfl]
 simp
 omega
theorem bits_and16 (a b : Int) : Op.intBits .and .u16 a b = pure (.int .u16 (and16 a b)) := by
 have h : IntKind.u16.wrap ((BitVec.ofInt 16 a &&& BitVec.ofInt 16 b).toNat : Int) = and16 a b := wrap16_bv _
 unfold Op.intBits
 exact congrArg (fun n => (pure (Value.int .u16 n) : Sem Value)) h
theorem bits_or16 (a b : Int) : Op.intBits .or .u16 a b = pure (.int .u16 (or16 a b)) := by
 have h : IntKind.u16.wrap ((BitVec.ofInt 16 a ||| BitVec.ofInt 16 b).toNat : Int) = or16 a b := wrap16_bv _
 unfold Op.intBits
 exact congrArg (fun n => (pure (Value.int .u16 n) : Sem Value)) h
theorem QP.and16 {m n : Int} (ho : o.op = .binOp .and t x y t') (hx : opv G x = some (.int .u16 m)) (hy : opv G y = some (.int .u16 n)) : QP P N G S F o (.int .u16 (and16 m n)) := fun ac w s w' => by
 unfold execOp
 simp [ho, s.eval hx, s.eval hy, eqGuard_at_int, binOp, bits_and16]
theorem QP.or16 {m n : Int} (ho : o.op = .binOp .or t x y t') (hx : opv G x = some (.int .u16 m)) (hy : opv G y = some (.int .u16 n)) : QP P N G S F o (.int .u16 (or16 m n)) := fun ac w s w' => by
 unfold execOp
 simp [ho, s.eval hx, s.eval hy, eqGuard_at_int, binOp, bits_or16]
end
end Slb

/- Base 22: a slice's tail is cleared; what a list is without its repetitions. -/
namespace Slb
open Go Go.Proofs
section
variable {P : Program} {N : Nat} {G : Env} {S : List HProp} {F : Fr} {o : Oper} {t e : TypeId} {x : Operand} {z : Nat}
theorem slOff_at {b off c i z : Nat} (h : i < c) : slOff (some ⟨b, off, none⟩) c i z = some ⟨b, off + i * z, none⟩ := by
 unfold slOff
 rw [if_neg (by omega)]
 simp [add_lit]
theorem SlH.off {α : Type} {a : Option Addr} {c : Nat} {xs : List α} (h : SlH a c xs) (z : Nat) : slOff a c 0 z = a := by
 rcases h with ⟨rfl, rfl, rfl⟩ | ⟨⟨b, off, rfl⟩, _⟩
 · rfl
 · unfold slOff; split
   · rfl
   · simp [add_lit]
end
/-! ### A list without its repetitions -/
section
variable {α : Type} [DecidableEq α]
/-- Of the first j: those that are not the one ahead of them. -/
def compT (xs : List α) : Nat → List α
 | 0 => []
 | j + 1 => match xs[j]? with
   | none => compT xs j
   | some x => if 0 < j ∧ xs[j - 1]? = some x then compT xs j else compT xs j ++ [x]
def compL (xs : List α) : List α := compT xs xs.length
omit [DecidableEq α] in
theorem take_succ_get {xs : List α} {j : Nat} {x : α} (h : xs[j]? = some x) : xs.take (j + 1) = xs.take j ++ [x] := by
 rw [List.take_add_one, h]; rfl
end
end Slb

/- Base 38: a slice cut at both ends. -/
namespace Slb
open Go Go.Proofs
section
variable {P : Program} {N : Nat} {G : Env} {S : List HProp} {F : Fr} {o : Oper} {t e : TypeId} {x y y2 : Operand} {z : Nat}
theorem QP.sliceLoHi {a : Option Addr} {n c : Nat} {i j : Int} (ho : o.op = .slice t x (some y) (some y2) none) (hx : opv G x = some (.slice a n c)) (hy : opv G y = some (.int .i64 i)) (hy2 : opv G y2 = some (.int .i64 j))
   (hu : P.underlying t = some (.slice e)) (hz : Sz P e z) (h0 : 0 ≤ i) (h1 : i ≤ j) (h2 : j ≤ c) : QP P N G S F o (.slice (slOff a c i.toNat z) (j.toNat - i.toNat) (c - i.toNat)) := fun ac w s w' => by
 have h3 : 0 ≤ j := Int.le_trans h0 h1
 unfold execOp
 simp [ho, s.eval hx, s.eval hy, s.eval hy2, Instr.sliceAt, Instr.slice, Instr.sliceBounds, Instr.sliceBound, asIntOf, run_underlying hu, hz w', h0, h1, h2, h3, slOff]
 intro hc; omega
end
end Slb

/- Base 31: arguments that hold slices. -/
namespace Slb
open Go Go.Proofs Go.RowKit Go.WideShapes Go.ChangeShapes
/-- What can be read at type t of the world W is a datum's cells. -/
def TEW (P : Program) (w : World) (t : TypeId) (α : Type) (enc : α → List Value) : Prop :=
 ∀ {H : Type} (e : TypeId × Value → H) (base : Nat) (sp : Nat → Bool) (held : Bool) (fuel : Nat) (cs : List Value) (y : DataW H × List MemPlace), DataW.trod e P w base sp held fuel t cs = some y → ∃ x : α, cs = enc x
theorem TE.at {P : Program} {t : TypeId} {α : Type} {enc : α → List Value} (h : TE P t α enc) (w : World) : TEW P w t α enc := fun e base sp held fuel cs y hf => h e w base sp held fuel cs y hf
/-- A slice's head whose rows lie in the world. -/
def SlIn {α : Type} (F : Fr) (z : Nat) (enc : α → List Value) (p : α → Prop) (s : Slc) : Prop := ∃ xs : List α, s.n = xs.length ∧ xs.length ≤ maxLen ∧ ArgSl F s.a z enc xs ∧ ∀ x ∈ xs, p x
theorem open_sl {P : Program} {t e : TypeId} {α : Type} {enc : α → List Value} {z : Nat} (ht : P.underlying t = some (.slice e)) {W : World} (hte : TEW P W e α enc) (hz : P.cellsOf e = z) (hz0 : 0 < z) (hl : ∀ x, (enc x).length = z)
   {H : Type} {en : TypeId × Value → H} {base : Nat} {sp : Nat → Bool} {held : Bool} {fuel : Nat} {cs : List Value} {y : DataW H × List MemPlace} (hf : DataW.trod en P W base sp held fuel t cs = some y) :
   ∃ (a : Option Addr) (xs : List α) (c : Nat), cs = [.slice a xs.length c] ∧ xs.length ≤ maxLen ∧ ArgSl (frAll W) a z enc xs := by
 rcases Go.Deep.open_slice ht hf with ⟨h1, _⟩ | ⟨a, len, cap, m, n, D, Pl, h1, hb, hle, hm, hmm, _, hx⟩
 · exact ⟨none, [], 0, h1, Nat.zero_le _, fun h => by simp at h⟩
 · have hlm : len ≤ m := by rw [hmm]; split <;> omega
   obtain ⟨xs, hlen, hxs⟩ := list_of_each (Q := fun i x => W.cells? base (a.add (i * z)) z = some (enc x)) len fun i hi => by
     obtain ⟨cs', hc, hd⟩ := hx i (by omega)
     obtain ⟨x, rfl⟩ := hte _ _ _ _ _ _ _ hd
     rw [hz] at hc
     exact ⟨x, hc⟩
   refine ⟨some a, xs, cap, by rw [hlen]; exact h1, by omega, fun h0 => ?_⟩
   have hall : ∀ i x, xs[i]? = some x → ∀ j, j < z → W.cell? ((a.add (i * z)).add j) = (enc x)[j]? := fun i x hi j hj => by
     obtain ⟨_, _, h3⟩ := World.cells?_some (hxs i x hi)
     exact h3 j hj
   have h00 := hall 0 xs[0] (List.getElem?_eq_getElem h0) 0 hz0
   have hl0 : 0 < (enc (xs[0]'h0)).length := by rw [hl]; exact hz0
   obtain ⟨v0, hv0⟩ : ∃ v0, (enc (xs[0]'h0))[0]? = some v0 := ⟨_, List.getElem?_eq_getElem hl0⟩
   rw [hv0] at h00
   rw [show (a.add (0 * z)).add 0 = a by simp [Addr.add]] at h00
   obtain ⟨ab, ao, asp⟩ := a
   have hblk : ∃ l ty fz, W.heap[ab]? = some (.cells l ty fz) ∧ asp = none := by
     unfold World.cell? at h00
     split at h00
     · rename_i c t' f' hh
       refine ⟨c, t', f', hh, ?_⟩
       cases asp with
       | none => rfl
       | some q => simp at h00
     · cases h00
   obtain ⟨l, ty, fz, hh, rfl⟩ := hblk
   refine ⟨ab, ao, rfl, l.toList, ty, fz, (by show W.heap[ab]? = _; simpa using hh), ?_⟩
   refine subL_of_get (flatMap_len hl xs) (Nat.mul_pos h0 hz0) fun j hj => ?_
   have hlt : j / z < xs.length := Nat.div_lt_of_lt_mul (by rw [Nat.mul_comm]; exact hj)
   have hmod : j % z < z := Nat.mod_lt _ hz0
   have hrow := sub_row (enc := enc) hl (xs := xs) (i := j / z) (List.getElem?_eq_getElem hlt)
   have hg := hrow.get (i := j % z) hmod
   have hj2 : j / z * z + j % z = j := by rw [Nat.mul_comm]; exact Nat.div_add_mod j z
   rw [hj2] at hg
   rw [hg, ← hall (j / z) _ (List.getElem?_eq_getElem hlt) (j % z) hmod]
   rw [add_lit, add_lit, show ao + j / z * z + j % z = ao + j by omega]
   unfold World.cell?
   simp [hh]
theorem argSl_val {α : Type} {p : α → Prop} {F : Fr} {a : Option Addr} {z : Nat} {enc : α → List Value} {xs : List { x : α // p x }} (h : ArgSl F a z (fun x => enc x.val) xs) : ArgSl F a z enc (xs.map (·.val)) := fun h0 => by
 obtain ⟨b, off, e1, l, ty, fz, e2, e3⟩ := h (by simpa using h0)
 refine ⟨b, off, e1, l, ty, fz, e2, ?_⟩
 simpa [List.flatMap_map] using e3
theorem TEW.slice {P : Program} {t e : TypeId} {α : Type} {p : α → Prop} {enc : α → List Value} {z : Nat} (ht : P.underlying t = some (.slice e)) {W : World} (hte : TEW P W e { x : α // p x } (fun x => enc x.val)) (hz : P.cellsOf e = z) (hz0 : 0 < z) (hl : ∀ x, (enc x).length = z) :
   TEW P W t { s : Slc // SlIn (frAll W) z enc p s } (fun s => [Slc.v s.val]) := fun en base sp held fuel cs y hf => by
 obtain ⟨a, xs, c, h1, h2, h3⟩ := open_sl ht hte hz hz0 (fun x => hl x.val) hf
 refine ⟨⟨⟨a, xs.length, c⟩, xs.map (·.val), by simp, by simpa using h2, argSl_val h3, fun x hx => ?_⟩, h1⟩
 obtain ⟨y, _, rfl⟩ := List.mem_map.1 hx
 exact y.property
theorem sl_argT {P : Program} {t e : TypeId} {α : Type} {p : α → Prop} {enc : α → List Value} {z : Nat} (ht : P.underlying t = some (.slice e)) {W : World} (hte : TEW P W e { x : α // p x } (fun x => enc x.val)) (hz : P.cellsOf e = z) (hz0 : 0 < z) (hl : ∀ x, (enc x).length = z) {r : Reach} {b0 : Nat} {v : Value} (hv : Value.okWide P W r b0 t v)
   {H : Type} {en : TypeId × Value → H} {base : Nat} {sp : Nat → Bool} {held : Bool} {d : DataW H} {ps : List MemPlace} (h : DataW.Trod en P W base sp held t v d ps) :
   ∃ (a : Option Addr) (xs : List α) (c : Nat), v = .slice a xs.length c ∧ xs.length ≤ maxLen ∧ ArgSl (frAll W) a z enc xs ∧ ∀ x ∈ xs, p x := by
 obtain ⟨fuel, hf⟩ := h
 have hcell : v.cells = #[v] := by
   unfold Value.okWide at hv
   rw [ht] at hv
   simp only at hv
   cases v <;> first | rfl | (simp [Cell.okWide, ht, Cell.ok] at hv)
 rw [hcell] at hf
 obtain ⟨a, xs, c, h1, h2, h3⟩ := open_sl ht hte hz hz0 (fun x => hl x.val) hf
 simp only [List.cons.injEq, and_true] at h1
 refine ⟨a, xs.map (·.val), c, by simpa using h1, by simpa using h2, argSl_val h3, fun x hx => ?_⟩
 obtain ⟨y, _, rfl⟩ := List.mem_map.1 hx
 exact y.property
end Slb

/- Base 36: appending a slice that came in (it may be empty). -/
namespace Slb
open Go Go.Proofs
section append
variable {P : Program} {N : Nat} {G : Env} {S S1 : List HProp} {F : Fr} {o : Oper} {t t1 e : TypeId} {x y : Operand} {z : Nat} {α : Type} {enc : α → List Value}
theorem EF.appendG (hE : ElemTy P e z) (hl : ∀ x, (enc x).length = z) (hc : ∀ x, ∀ v ∈ enc x, Value.cellB v = true) {ts : Array TypeId} (ho : o.op = .call ⟨.builtin .append, #[x, y], ts⟩) (ht : ts[0]? = some t) (ht1 : ts[1]? = some t1)
   (hu : P.underlying t = some (.slice e)) (hu1 : P.underlying t1 = some (.slice e)) {v u : Value} {xs ys : List α} (hx : opv G x = some v) (hy : opv G y = some u) (pk : Pick S (slA e z enc v xs) S1)
   (hlo : ∀ w, Sat S1 F w → (Builtin.firstCells z ys.length u).run P w = .ok (ys.flatMap enc).toArray w) (hle : ∀ w, (Builtin.lenOf u).run P w = .ok ys.length w) (hb : xs.length + ys.length ≤ 4294967296) : EF P N G S F o fun v' S' => S' = slA e z enc v' (xs ++ ys) :: S1 := fun a w st => by
 obtain ⟨i, zv, hi, hz, hby, hzero, hzv⟩ := hE.info
 have hsz : ∀ w, (Go.sizeOf e).run P w = .ok z w := fun w => by rw [run_sizeOf w hi]; unfold Program.cellsOf; rw [hi]; simp [hz]
 have hti : ∀ w, (typeInfo e).run P w = .ok i w := fun w => by unfold typeInfo; simp [program, Sem.run, hi, bind, Sem.bind, pure]
 have hzr : ∀ w, (zeroValue e).run P w = .ok zv w := fun w => by unfold zeroValue; simp only [Sem.run_bind, hti, Result.andThen_ok, hzero, Sem.run_pure]
 have s0 := st.sat.perm pk.perm
 have sS1 := s0.drop
 have hload := hlo w sS1
 have hlen := hle w
 have hmap : #[x, y].map a.eval = #[v, u] := by simp [st.eval hx, st.eval hy]
 have hexec : ∀ {v' w'}, (Builtin.append_ ts o.type #[v, u]).run P w = .ok v' w' → (execOp a.eval o).run P w = .ok (.value v') w' := fun {v' w'} h => by
   unfold execOp
   simp only [ho, resolve, hmap]
   simp only [Sem.run_bind, Sem.run_pure, Result.andThen_ok, Go.invoke, Go.builtin, h]
 obtain ⟨c1, c2, c3, c4, k, ⟨h1, h2, dd, e1, hA, e4⟩, f, g⟩ := s0
 have mkNew : ∀ (old : List Value) (n : Nat), old = xs.flatMap enc → xs.length + ys.length ≤ n →
     Sat (slA e z enc (.slice (some ⟨w.heap.size, 0, none⟩) (xs.length + ys.length) n) (xs ++ ys) :: S1) F { w with heap := w.heap.push (.cells (old.toArray ++ (ys.flatMap enc).toArray ++ Builtin.zeroCells zv.cells (n - (xs.length + ys.length))) e) } := by
   intro old n hold hn
   subst hold
   have s3 := sS1.new (.cells ((xs.flatMap enc).toArray ++ (ys.flatMap enc).toArray ++ Builtin.zeroCells zv.cells (n - (xs.length + ys.length))) e)
   refine s3.head fun k hk => .inr ⟨w.heap.size, 0, n, [], (Builtin.zeroCells zv.cells (n - (xs.length + ys.length))).toList, [], by simp, ?_, rfl, by simpa using hn, ?_⟩
   · rw [show k = _ from hk]
     congr 2
     apply Array.ext'
     simp
   · simp only [Array.length_toList, zeroCells_size, hzv, List.length_append]
 have grow : ∀ (v0 : Value) (cap : Nat), (Builtin.firstCells z xs.length v0).run P w = .ok (xs.flatMap enc).toArray w → v0 = v → (∃ ba, v0 = .slice ba xs.length cap) → cap < xs.length + ys.length →
     ∃ v' w', (Builtin.append_ ts o.type #[v, u]).run P w = .ok v' w' ∧ Sat (slA e z enc v' (xs ++ ys) :: S1) F w' := by
   rintro v0 cap hf rfl ⟨ba, rfl⟩ hcap
   have hq : ∃ n d, w.drawn ≤ d ∧ xs.length + ys.length ≤ n ∧ (choose (.appendCap (xs.length + ys.length) cap e)).run P w = .ok n { w with drawn := d } := by
     unfold choose
     simp only [Sem.run, Question.forced]
     exact ⟨_, _, Nat.le_succ _, Nat.le_add_right _ _, rfl⟩
   obtain ⟨n, d, hdd, hn, hch⟩ := hq
   have hask : ∀ w : World, (askRoom (n * i.bytes)).run P w = .ok () w := fun w => by
     unfold askRoom
     split
     · simp [mark, Sem.run]
     · simp
   have hcapb : ¬ (Builtin.nextslicecap (xs.length + ys.length) cap * i.bytes > 2 ^ 48) := by
     have h1 := next_cap hcap
     have h2 : Builtin.nextslicecap (xs.length + ys.length) cap * i.bytes ≤ (2 * 4294967296) * 4096 := Nat.mul_le_mul (by omega) hby
     omega
   have s1d : Sat S1 F { w with drawn := d } := sS1.drew hdd
   have hload' := hlo _ s1d
   have hf' : (Builtin.firstCells z xs.length (.slice ba xs.length cap)).run P { w with drawn := d } = .ok (xs.flatMap enc).toArray { w with drawn := d } := by
     have key : ∀ {q : Sem (Array Value)} {r0 : Array Value}, q = Builtin.firstCells z xs.length (.slice ba xs.length cap) → q.run P w = .ok r0 w → q.run P { w with drawn := d } = .ok r0 { w with drawn := d } := by
       intro q r0 hq hrun
       subst hq
       cases ba with
       | none => simp only [Builtin.firstCells, Sem.run_pure] at hrun ⊢; cases hrun; rfl
       | some ad =>
         simp only [Builtin.firstCells, loadCells] at hrun ⊢
         have gen : ∀ (m i : Nat) (acc r0 : Array Value), (loadCellsFrom ad i m acc).run P w = .ok r0 w → (loadCellsFrom ad i m acc).run P { w with drawn := d } = .ok r0 { w with drawn := d } := by
           intro m
           induction m with
           | zero => intro i acc r0 h; simp only [loadCellsFrom, Sem.run_pure] at h ⊢; cases h; rfl
           | succ m ih =>
             intro i acc r0 h
             simp only [loadCellsFrom, Sem.run_bind] at h ⊢
             unfold load at h ⊢
             simp only [Sem.run] at h ⊢
             have hc : World.cell? { w with drawn := d } (ad.add i) = w.cell? (ad.add i) := rfl
             rw [hc]
             cases hcell : w.cell? (ad.add i) with
             | some cv => rw [hcell] at h; simp only [Result.andThen_ok] at h ⊢; exact ih _ _ _ h
             | none =>
               rw [hcell] at h
               simp only at h
               split at h
               · rename_i v1 tt hfar
                 have hfar' : World.farLoad P { w with drawn := d } (ad.add i) false = .ok (v1, tt) := hfar
                 simp only [Result.andThen_ok] at h
                 have hm : (Mode.plain == Mode.atomic) = false := rfl
                 simp only [hm] at hfar ⊢
                 have hfar2 : World.farLoad P { w with drawn := d } (ad.add i) false = World.farLoad P w (ad.add i) false := rfl
                 rw [hfar2, hfar]
                 simp only [Result.andThen_ok]
                 exact ih _ _ _ h
               · simp at h
         exact gen _ _ _ _ hrun
     exact key rfl hf
   refine ⟨_, _, ?_, (mkNew _ n rfl hn).drew hdd⟩
   unfold Builtin.append_
   simp only [ht, ht1, List.getElem?_toArray, List.getElem?_cons_zero, List.getElem?_cons_succ, Sem.run_bind, run_underlying hu, run_underlying hu1, Result.andThen_ok, hsz, Sem.run_pure, hlen, Bool.false_eq_true, if_false, Bool.not_false]
   rw [if_neg (by omega)]
   have hneg : ¬ (((xs.length + ys.length : Nat) : Int) > IntKind.i64.max) := by rw [IntKind.max_i64]; omega
   simp only [Sem.run_bind, hti, Result.andThen_ok, Bool.false_eq_true, false_or, hneg, false_and, if_false, hcapb, hch, hask, hf', hload', hzr, Sem.run_pure]
   simp [newRow, newObj, Sem.run]
   have ea : (xs.flatMap enc).toArray ++ ((ys.flatMap enc).toArray ++ Builtin.zeroCells zv.cells (n - (xs.length + ys.length))) = (xs.flatMap enc ++ ys.flatMap enc).toArray ++ Builtin.zeroCells zv.cells (n - (xs.length + ys.length)) := by
     apply Array.ext'; simp
   rw [hload']
   simp only [Result.andThen_ok]
   unfold World.alloc
   rw [ea]
 rcases hA with ⟨rfl, rfl, rfl⟩ | ⟨b, off, c, pre, spare, post, rfl, rfl, hpre, hcle, hsp⟩
 · by_cases hy0 : ys.length = 0
   · have hys : ys = [] := List.eq_nil_of_length_eq_zero hy0
     subst hys
     refine estep_value (v := .slice none 0 0) (w' := w) (hexec ?_) ⟨_, rfl, ?_⟩
     · unfold Builtin.append_
       simp only [ht, ht1, List.getElem?_toArray, List.getElem?_cons_zero, List.getElem?_cons_succ, Sem.run_bind, run_underlying hu, run_underlying hu1, Result.andThen_ok, hsz, Sem.run_pure, hlen, Bool.false_eq_true, if_false, Bool.not_false, List.length_nil, Nat.add_zero, Nat.le_refl, if_true]
       simp only [List.length_nil] at hload
       simp [hload]
     · exact ⟨c1, c2, c3, c4, k, ⟨PH.none, h2, dd, e1, .inl ⟨rfl, rfl, rfl⟩, e4⟩, f, g⟩
   · obtain ⟨v', w', hrun, hs⟩ := grow (.slice none 0 0) 0 (by simp [Builtin.firstCells]) rfl ⟨none, rfl⟩ (by simp; omega)
     exact estep_value (hexec hrun) ⟨_, rfl, hs⟩
 · have hbl : w.heap[b]? = some (.cells (pre ++ (xs.flatMap enc ++ (spare ++ post))).toArray e (0, 0)) := g b _ (by rw [e1]; exact PH.le_union_left b _ (single_self _ _))
   have hxl := flatMap_len hl xs
   have hyl := flatMap_len hl ys
   by_cases hroom : xs.length + ys.length ≤ c
   · obtain ⟨w', r1, r2, r3, r4, r5, r6⟩ := run_storeCells (P := P) (off := off + xs.length * z) (ys.flatMap enc) 0 w _ hbl (by
       simp only [List.length_append, hxl, hyl, hpre, hsp]
       have : ys.length * z ≤ (c - xs.length) * z := Nat.mul_le_mul_right z (by omega)
       omega) (flatMap_cell hc ys)
     refine estep_value (v := .slice (some ⟨b, off, none⟩) (xs.length + ys.length) c) (w' := w') (hexec ?_) ⟨_, rfl, ?_⟩
     · unfold Builtin.append_
       simp only [ht, ht1, List.getElem?_toArray, List.getElem?_cons_zero, List.getElem?_cons_succ, Sem.run_bind, run_underlying hu, run_underlying hu1, Result.andThen_ok, hsz, Sem.run_pure, hlen, Bool.false_eq_true, if_false, Bool.not_false, hroom, if_true, hload, add_lit]
       rw [r1]
       simp
     · have s1 : Sat (pts b (.cells (pre ++ (xs.flatMap enc ++ (spare ++ post))).toArray e (0, 0)) :: S1) F w := ⟨c1, c2, c3, c4, k, ⟨_, h2, dd, e1, rfl, e4⟩, f, g⟩
       refine (s1.set _ r2 r3 r4 r5 r6).head fun k hk => .inr ⟨b, off, c, pre, spare.drop (ys.length * z), post, by simp, ?_, hpre, by simp; omega, ?_⟩
       · rw [show k = _ from hk]
         congr 3
         simp only [Nat.add_zero, List.flatMap_append, List.append_assoc]
         have hle : ys.length * z ≤ spare.length := by rw [hsp]; exact Nat.mul_le_mul_right z (by omega)
         have e1 : (pre ++ (xs.flatMap enc ++ (spare ++ post))).take (off + xs.length * z) = pre ++ xs.flatMap enc := by
           rw [← List.append_assoc]
           exact List.take_left' (by simp [hpre, hxl])
         have e2 : (pre ++ (xs.flatMap enc ++ (spare ++ post))).drop (off + xs.length * z + (ys.flatMap enc).length) = spare.drop (ys.length * z) ++ post := by
           rw [← List.append_assoc, ← List.drop_drop, List.drop_left' (by simp [hpre, hxl]), hyl, List.drop_append_of_le_length hle]
         rw [e1, e2]
         simp
       · simp only [List.length_drop, hsp, List.length_append]
         rw [← Nat.sub_mul]
         congr 1
         omega
   · obtain ⟨v', w', hrun, hs⟩ := grow (.slice (some ⟨b, off, none⟩) xs.length c) c (by
       have hr' : RowsAt [pts b (.cells (pre ++ (xs.flatMap enc ++ (spare ++ post))).toArray e (0, 0))] F (.slice (some ⟨b, off, none⟩) xs.length c) xs.length z (xs.flatMap enc) :=
         ⟨hxl, .inr ⟨b, off, c, rfl, fun w s => ⟨_, e, (0, 0), s.at, ⟨pre, spare ++ post, by simp, hpre, hxl⟩⟩⟩⟩
       refine hr'.load (P := P) (w := w) ?_
       have s1 : Sat (pts b (.cells (pre ++ (xs.flatMap enc ++ (spare ++ post))).toArray e (0, 0)) :: S1) F w := ⟨c1, c2, c3, c4, k, ⟨_, h2, dd, e1, rfl, e4⟩, f, g⟩
       exact Sat.dropR (m := [_]) (r := S1) s1) rfl ⟨_, rfl⟩ (by omega)
     exact estep_value (hexec hrun) ⟨_, rfl, hs⟩
theorem argSl_load {a : Option Addr} {c : Nat} {ys : List α} (hl : ∀ x, (enc x).length = z) (h : ArgSl F a z enc ys) : ∀ w, Sat S1 F w → (Builtin.firstCells z ys.length (.slice a ys.length c)).run P w = .ok (ys.flatMap enc).toArray w := fun w s => by
 by_cases h0 : 0 < ys.length
 · obtain ⟨b, off, rfl, l, ty, fz, h1, h2⟩ := h h0
   refine RowsAt.load (S := S1) (F := F) ⟨flatMap_len hl ys, .inr ⟨b, off, c, rfl, fun w s => ⟨l, ty, fz, s.frame h1, h2⟩⟩⟩ s
 · have : ys = [] := List.eq_nil_of_length_eq_zero (by omega)
   subst this
   cases a with
   | none => simp [Builtin.firstCells]
   | some a => simp [Builtin.firstCells, loadCells, loadCellsFrom]
theorem argSl_len {a : Option Addr} {c : Nat} {ys : List α} (w : World) : (Builtin.lenOf (.slice a ys.length c)).run P w = .ok ys.length w := by simp [Builtin.lenOf]
theorem EF.appendArg (hE : ElemTy P e z) (hl : ∀ x, (enc x).length = z) (hc : ∀ x, ∀ v ∈ enc x, Value.cellB v = true) {ts : Array TypeId} (ho : o.op = .call ⟨.builtin .append, #[x, y], ts⟩) (ht : ts[0]? = some t) (ht1 : ts[1]? = some t1)
   (hu : P.underlying t = some (.slice e)) (hu1 : P.underlying t1 = some (.slice e)) {v : Value} {a : Option Addr} {c : Nat} {xs ys : List α} (hx : opv G x = some v) (hy : opv G y = some (.slice a ys.length c)) (pk : Pick S (slA e z enc v xs) S1)
   (ha : ArgSl F a z enc ys) (hb : xs.length + ys.length ≤ 4294967296) : EF P N G S F o fun v' S' => S' = slA e z enc v' (xs ++ ys) :: S1 :=
 EF.appendG hE hl hc ho ht ht1 hu hu1 hx hy pk (argSl_load hl ha) argSl_len hb
end append
end Slb

/- Base 40: is a slice nil; one element of a slice that came in, as a slice. -/
namespace Slb
open Go Go.Proofs
section
variable {P : Program} {N : Nat} {G : Env} {S : List HProp} {F : Fr} {o : Oper} {t t' e : TypeId} {x y : Operand}
theorem run_eql_sl {w : World} (d : Nat) {a : Option Addr} {n c : Nat} (ht : P.underlying t = some (.slice e)) : (Op.equalIn (d + 1) t (.slice a n c) (.slice none 0 0)).run P w = .ok a.isNone w := by
 cases a <;> simp [Op.equalIn, run_underlying ht]
theorem QP.sl_eq_nil {a : Option Addr} {n c : Nat} (ho : o.op = .binOp .eql t x y t') (hx : opv G x = some (.slice a n c)) (hy : opv G y = some (.slice none 0 0)) (ht : P.underlying t = some (.slice e)) : QP P N G S F o (.bool a.isNone) := fun ac w s w' => by
 unfold execOp; simp [ho, s.eval hx, s.eval hy, eqGuard_at_slice, binOp, show (Op.equal t (.slice a n c) (.slice none 0 0)).run P w' = .ok a.isNone w' from run_eql_sl 9999 ht]
end
theorem ArgSl.one {α : Type} {F : Fr} {b off z : Nat} {enc : α → List Value} {xs : List α} {x : α} {i : Nat} (hl : ∀ x, (enc x).length = z) (h : ArgSl F (some ⟨b, off, none⟩) z enc xs) (hi : xs[i]? = some x) : ArgSl F (some ⟨b, off + i * z, none⟩) z enc [x] := fun _ => by
 have hlt := (List.getElem?_eq_some_iff.1 hi).1
 obtain ⟨b', off', e, l, ty, fz, h1, h2⟩ := h (by omega)
 cases e
 refine ⟨b, off + i * z, rfl, l, ty, fz, h1, h2.trans ?_⟩
 have e : xs = xs.take i ++ ([x] ++ xs.drop (i + 1)) := by
   have e2 : xs[i] = x := (List.getElem?_eq_some_iff.1 hi).2
   rw [← e2, List.singleton_append, ← List.drop_eq_getElem_cons hlt, List.take_append_drop]
 refine ⟨(xs.take i).flatMap enc, (xs.drop (i + 1)).flatMap enc, ?_, ?_, by simp [hl]⟩
 · conv => lhs; rw [e]
   simp only [List.flatMap_append, List.append_assoc]
 · rw [flatMap_len hl, List.length_take, Nat.min_eq_left (by omega)]
theorem ArgSl.nilLen {α : Type} {F : Fr} {a : Option Addr} {z : Nat} {enc : α → List Value} {xs : List α} (h : ArgSl F a z enc xs) (ha : a.isNone = true) : xs = [] := by
 cases xs with
 | nil => rfl
 | cons x xs =>
   obtain ⟨b, off, e, _⟩ := h (by simp)
   subst e; cases ha
end Slb

/- Base 42: calls through an interface; what an interface holds; strings in order; strings as keys. -/
namespace Slb
open Go Go.Proofs
section
variable {P : Program} {N : Nat} {G : Env} {S : List HProp} {F : Fr} {o : Oper} {t t' : TypeId} {x y : Operand}
theorem EF.invoke {f : FuncId} {recv : Operand} {name : String} {args : Array Operand} {at_ : Array TypeId} {v rv : Value} {vs : List Value} {m r : List HProp} {R : Value → List HProp → Prop}
   (ho : o.op = .call ⟨.invoke recv name, args, at_⟩) (hx : opv G recv = some (.iface t v)) (hmeth : ∀ w, Sat S F w → (method (P.types.size + Made.depth) t v name).run P w = .ok (f, rv) w) (hc : CanEnter P f) (hv : opvs G args.toList = some vs) (tk : Takes S m r)
   (hs : ∀ F' : Fr, PH.le F.h F'.h → (∀ b o, pts b o ∈ r → F'.h b = some o) → Spec P f (rv :: vs).toArray m F' R) : EF P N G S F o fun v S' => ∃ S1, R v S1 ∧ S' = S1 ++ r := fun a w s => by
 have hargs : args.map a.eval = vs.toArray := by
   have := s.evals hv
   rw [← this]
   apply Array.ext'
   simp
 have hrun : (execOp a.eval o).run P w = .ok (.enter f (rv :: vs).toArray) w := by
   unfold execOp
   simp only [ho, resolve, s.eval hx, hargs]
   have e1 : (#[Value.iface t v] ++ vs.toArray)[0]? = some (Value.iface t v) := by simp
   have e2 : (#[Value.iface t v] ++ vs.toArray).extract 1 (#[Value.iface t v] ++ vs.toArray).size = vs.toArray := by
     apply Array.ext'
     simp
   have e3 : #[rv] ++ vs.toArray = (rv :: vs).toArray := by apply Array.ext'; simp
   have e4 : (program).run P w = .ok P w := by simp [program, Sem.run]
   simp only [Array.empty_append, Sem.run_bind, Sem.run_pure, Result.andThen_ok, Go.invoke, e1, e2, callMethod, e4, hmeth w s.sat, e3, run_enter hc]
 show EStep P o a w _
 unfold EStep
 rw [hrun]
 obtain ⟨F', s1, hle, hr, back⟩ := (s.sat.takes tk).lend
 refine (hs F' hle hr w s1).mono fun e w' ⟨v, S', he, hR, s'⟩ => ?_
 subst he
 exact ⟨S' ++ r, ⟨S', hR, rfl⟩, back _ _ s'⟩
theorem QP.typeAssert {v : Value} {d : TypeDesc} (ho : o.op = .typeAssert x t' t false) (hx : opv G x = some (.iface t v)) (hu : P.underlying t = some d) (hd : ∀ l, d ≠ .interface l) : QP P N G S F o v := fun ac w s w' => by
 unfold execOp
 simp only [ho, s.eval hx]
 unfold Instr.typeAssert
 cases d <;> first | (simp [run_underlying hu]; done) | exact absurd rfl (hd _)
end
/-! Strings in order. -/
def cmpS (a b : ByteArray) : Int := Lib.compareBytes a.data.toList b.data.toList
section
variable {P : Program} {N : Nat} {G : Env} {S : List HProp} {F : Fr} {o : Oper} {t t' : TypeId} {x y : Operand}
end
/-! A map's keys that are strings. -/
abbrev Str := { s : ByteArray // s.size ≤ maxLen }
theorem KeyTy.str {P : Program} {t : TypeId} (ht : P.underlying t = some .string) : KeyTy P t Str (fun s => .string s.val) where
 lits x := ⟨_, WideMaps.keyOf_string_mk ht x.property⟩
 law := Maps.string_keyed ht
 inj x y e := Subtype.ext (by simpa using e)
end Slb

/- Base 32: more of what can be read at a type: strings, structs that hold slices. -/
namespace Slb
open Go Go.Proofs Go.RowKit Go.WideShapes Go.ChangeShapes
theorem TE.str {P : Program} {t : TypeId} (hu : P.underlying t = some .string) : TE P t ByteArray fun s => [.string s] := fun e w base sp held fuel cs y h => by
 obtain ⟨n, h1, _⟩ := DataW.trod_string hu h
 exact ⟨n, h1⟩
theorem TE.true {P : Program} {t : TypeId} {α : Type} {enc : α → List Value} (h : TE P t α enc) : TE P t { _x : α // True } fun x => enc x.val := fun e w base sp held fuel cs y hf => by
 obtain ⟨x, hx⟩ := h e w base sp held fuel cs y hf
 exact ⟨⟨x, trivial⟩, hx⟩
theorem SlIn.mono {α : Type} {F F' : Fr} {z : Nat} {enc : α → List Value} {p q : α → Prop} {s : Slc} (h : SlIn F z enc p s) (hle : PH.le F.h F'.h) (hpq : ∀ x, p x → q x) : SlIn F' z enc q s := by
 obtain ⟨xs, h1, h2, h3, h4⟩ := h
 exact ⟨xs, h1, h2, h3.mono hle, fun x hx => hpq x (h4 x hx)⟩
end Slb

/- Base 33: a function's contract against a whole object. -/
namespace Slb
open Go Go.Proofs
section
variable {P : Program} {f : FuncId} {args : Array Value} {S : List HProp} {F : Fr} {R : Value → List HProp → Prop}
theorem Spec.open {α : Type} {A : HProp} {T : α → List HProp} (h : ∀ p, A p → ∃ x, stars (T x) p) (j : ∀ x, Spec P f args (T x) F R) : Spec P f args [A] F R := fun w s => by
 obtain ⟨p, hp, back⟩ := s.unpack
 obtain ⟨x, hx⟩ := h p hp
 have := back _ hx
 rw [List.append_nil] at this
 exact j x w this
/-- Of some atoms the function wants the first ones; the rest is read only. -/
theorem Spec.part (m r : List HProp) {R1 : Value → List HProp → Prop} (p : S.Perm (m ++ r)) (h : ∀ F' : Fr, PH.le F.h F'.h → (∀ b o, pts b o ∈ r → F'.h b = some o) → Spec P f args m F' R1)
   (hr : ∀ v S1 w, R1 v S1 → Sat (S1 ++ r) F w → ∃ S2, R v S2 ∧ Sat S2 F w) : Spec P f args S F R :=
 Spec.perm p (Spec.post (Spec.lend h) fun v S1 w ⟨S2, h2, e⟩ s => by subst e; exact hr v S2 w h2 s)
end
end Slb

/- Base 23: a table is opened; a slice that was written out is an argument. -/
namespace Slb
open Go Go.Proofs
/-! ### A table is opened; a slice that was written out is an argument -/
section
variable {P : Program} {N : Nat} {G : Env} {S S1 : List HProp} {F : Fr} {Φ : Act → World → Prop} {K V : Type} [DecidableEq K] {tr : Nat → List Value} {tty vty : TypeId} {ek : K → Value} {enc : V → List Value} {b : Nat} {M : List (K × V)}
end
theorem argSl_all {α : Type} {F : Fr} {b z : Nat} {enc : α → List Value} {xs : List α} {ty : TypeId} {fz : Nat × Nat} (hl : ∀ x, (enc x).length = z) (h : F.h b = some (.cells (xs.flatMap enc).toArray ty fz)) : ArgSl F (some ⟨b, 0, none⟩) z enc xs := fun _ =>
 ⟨b, 0, rfl, _, ty, fz, h, [], [], by simp, rfl, flatMap_len hl xs⟩
theorem argSl_nil {α : Type} {F : Fr} {a : Option Addr} {z : Nat} {enc : α → List Value} : ArgSl F a z enc ([] : List α) := fun h => by simp at h
end Slb

/- Base 30: a slice of one's own is lent to a call that reads it. -/
namespace Slb
open Go Go.Proofs
theorem Spec.lendSl {P : Program} {f : FuncId} {args : Array Value} {m : List HProp} {F : Fr} {R : Value → List HProp → Prop} {α : Type} {enc : α → List Value} {e : TypeId} {z : Nat} {a : Option Addr} {c : Nat} {xs : List α} (hl : ∀ x, (enc x).length = z)
   (h : ∀ F' : Fr, PH.le F.h F'.h → ArgSl F' a z enc xs → Spec P f args m F' R) : Spec P f args (slA e z enc (.slice a xs.length c) xs :: m) F fun v S' => ∃ S1, R v S1 ∧ S' = slA e z enc (.slice a xs.length c) xs :: S1 := fun w s => by
 obtain ⟨s1, s2, s3, s4, k, ⟨h1, h2, dd, rfl, hs, hm⟩, hd, hle⟩ := s
 rcases hs with ⟨hv, hx, rfl⟩ | ⟨b, off, c', pre, spare, post, hv, rfl, h3, h4, h5⟩
 · subst hx
   simp only [Value.slice.injEq] at hv
   obtain ⟨rfl, _, rfl⟩ := hv
   have sm : Sat m F w := ⟨s1, s2, s3, s4, h2, hm, by rw [PH.none_union] at hd; exact hd, by rw [PH.none_union] at hle; exact hle⟩
   refine (h F (PH.le.refl _) argSl_nil w sm).mono fun e' w' ⟨v, S', he, hR, s'⟩ => ⟨v, _, he, ⟨S', hR, rfl⟩, ?_⟩
   obtain ⟨t1, t2, t3, t4, k', g1, g2, g3⟩ := s'
   exact ⟨t1, t2, t3, t4, k', ⟨PH.none, k', PH.none_disj k', (PH.none_union k').symm, .inl ⟨rfl, rfl, rfl⟩, g1⟩, g2, g3⟩
 · have hv' := hv
   simp only [Value.slice.injEq] at hv'
   obtain ⟨rfl, _, rfl⟩ := hv'
   have sp : Sat (pts b (.cells (pre ++ (xs.flatMap enc ++ (spare ++ post))).toArray e (0, 0)) :: m) F w := ⟨s1, s2, s3, s4, _, ⟨_, _, dd, rfl, rfl, hm⟩, hd, hle⟩
   obtain ⟨F', sm, hle', hr, back⟩ := Sat.lend (m := m) (r := [pts b (.cells (pre ++ (xs.flatMap enc ++ (spare ++ post))).toArray e (0, 0))]) (sp.perm List.perm_append_comm (S' := m ++ [_]))
   have ha : ArgSl F' (some ⟨b, off, none⟩) z enc xs := fun _ => ⟨b, off, rfl, _, _, _, hr _ _ List.mem_cons_self, pre, spare ++ post, by simp, h3, flatMap_len hl xs⟩
   refine (h F' hle' ha w sm).mono fun e' w' ⟨v, S', he, hR, s'⟩ => ⟨v, _, he, ⟨S', hR, rfl⟩, ?_⟩
   have sb := (back _ _ s').perm (List.perm_append_comm (l₁ := S') (l₂ := [_]))
   exact sb.head fun k hk => .inr ⟨b, off, c, pre, spare, post, rfl, hk, h3, h4, h5⟩
end Slb

/- Base 43: blocks that a list of pointers leads to. -/
namespace Slb
open Go Go.Proofs
section
variable {α : Type} {enc : α → List Value} {ty : TypeId}
def rowsO (enc : α → List Value) (ty : TypeId) (es : List (Nat × α)) : HProp := stars (es.map fun e => blk e.1 (enc e.2) ty)
variable {P : Program} {f : FuncId} {args : Array Value} {m : List HProp} {F : Fr} {R : Value → List HProp → Prop}
end
end Slb

/- Base 44: a cut in a walk: what comes behind a branching is walked once. -/
namespace Slb
open Go Go.Proofs
section
variable {P : Program} {N : Nat} {K : Posts} {G : Env} {S : List HProp} {F : Fr}
theorem Run.seqCut {X : Type} (GI : X → Env) (SI : X → List HProp) {x y : Code} (rest : ∀ p : X, Run P N y K (GI p) (SI p) F) (first : ∀ k : Act → World → Prop, (∀ p, J N (GI p) (SI p) F k) → Run P N x (K.setN k) G S F) : Run P N (.seq x y) K G S F :=
 Run.seq fun k hk => first k fun p => hk _ _ (rest p)
theorem Run.cut1 {X0 : Type} (I : X0 → Prop) (GI : X0 → Env) (SI : X0 → List HProp) {x y : Code} (rest : ∀ (x0 : X0), I x0 → Run P N y K (GI x0) (SI x0) F)
   (first : ∀ k : Act → World → Prop, (∀ (x0 : X0), I x0 → J N (GI x0) (SI x0) F k) → Run P N x (K.setN k) G S F) : Run P N (.seq x y) K G S F :=
 Run.seqCut (X := { q : X0 // I q }) (fun p => GI p.1) (fun p => SI p.1) (fun p => rest p.1 p.2) fun k hk => first k fun x0 h => hk ⟨x0, h⟩
theorem Run.cut2 {X0 X1 : Type} (I : X0 → X1 → Prop) (GI : X0 → X1 → Env) (SI : X0 → X1 → List HProp) {x y : Code} (rest : ∀ (x0 : X0) (x1 : X1), I x0 x1 → Run P N y K (GI x0 x1) (SI x0 x1) F)
   (first : ∀ k : Act → World → Prop, (∀ (x0 : X0) (x1 : X1), I x0 x1 → J N (GI x0 x1) (SI x0 x1) F k) → Run P N x (K.setN k) G S F) : Run P N (.seq x y) K G S F :=
 Run.seqCut (X := { q : X0 × X1 // I q.1 q.2 }) (fun p => GI p.1.1 p.1.2) (fun p => SI p.1.1 p.1.2) (fun p => rest p.1.1 p.1.2 p.2) fun k hk => first k fun x0 x1 h => hk ⟨(x0, x1), h⟩
theorem Run.cut3 {X0 X1 X2 : Type} (I : X0 → X1 → X2 → Prop) (GI : X0 → X1 → X2 → Env) (SI : X0 → X1 → X2 → List HProp) {x y : Code} (rest : ∀ (x0 : X0) (x1 : X1) (x2 : X2), I x0 x1 x2 → Run P N y K (GI x0 x1 x2) (SI x0 x1 x2) F)
   (first : ∀ k : Act → World → Prop, (∀ (x0 : X0) (x1 : X1) (x2 : X2), I x0 x1 x2 → J N (GI x0 x1 x2) (SI x0 x1 x2) F k) → Run P N x (K.setN k) G S F) : Run P N (.seq x y) K G S F :=
 Run.seqCut (X := { q : X0 × X1 × X2 // I q.1 q.2.1 q.2.2 }) (fun p => GI p.1.1 p.1.2.1 p.1.2.2) (fun p => SI p.1.1 p.1.2.1 p.1.2.2) (fun p => rest p.1.1 p.1.2.1 p.1.2.2 p.2) fun k hk => first k fun x0 x1 x2 h => hk ⟨(x0, x1, x2), h⟩
theorem Run.cut4 {X0 X1 X2 X3 : Type} (I : X0 → X1 → X2 → X3 → Prop) (GI : X0 → X1 → X2 → X3 → Env) (SI : X0 → X1 → X2 → X3 → List HProp) {x y : Code} (rest : ∀ (x0 : X0) (x1 : X1) (x2 : X2) (x3 : X3), I x0 x1 x2 x3 → Run P N y K (GI x0 x1 x2 x3) (SI x0 x1 x2 x3) F)
   (first : ∀ k : Act → World → Prop, (∀ (x0 : X0) (x1 : X1) (x2 : X2) (x3 : X3), I x0 x1 x2 x3 → J N (GI x0 x1 x2 x3) (SI x0 x1 x2 x3) F k) → Run P N x (K.setN k) G S F) : Run P N (.seq x y) K G S F :=
 Run.seqCut (X := { q : X0 × X1 × X2 × X3 // I q.1 q.2.1 q.2.2.1 q.2.2.2 }) (fun p => GI p.1.1 p.1.2.1 p.1.2.2.1 p.1.2.2.2) (fun p => SI p.1.1 p.1.2.1 p.1.2.2.1 p.1.2.2.2) (fun p => rest p.1.1 p.1.2.1 p.1.2.2.1 p.1.2.2.2 p.2) fun k hk => first k fun x0 x1 x2 x3 h => hk ⟨(x0, x1, x2, x3), h⟩
theorem Run.cut6 {X0 X1 X2 X3 X4 X5 : Type} (I : X0 → X1 → X2 → X3 → X4 → X5 → Prop) (GI : X0 → X1 → X2 → X3 → X4 → X5 → Env) (SI : X0 → X1 → X2 → X3 → X4 → X5 → List HProp) {x y : Code} (rest : ∀ (x0 : X0) (x1 : X1) (x2 : X2) (x3 : X3) (x4 : X4) (x5 : X5), I x0 x1 x2 x3 x4 x5 → Run P N y K (GI x0 x1 x2 x3 x4 x5) (SI x0 x1 x2 x3 x4 x5) F)
   (first : ∀ k : Act → World → Prop, (∀ (x0 : X0) (x1 : X1) (x2 : X2) (x3 : X3) (x4 : X4) (x5 : X5), I x0 x1 x2 x3 x4 x5 → J N (GI x0 x1 x2 x3 x4 x5) (SI x0 x1 x2 x3 x4 x5) F k) → Run P N x (K.setN k) G S F) : Run P N (.seq x y) K G S F :=
 Run.seqCut (X := { q : X0 × X1 × X2 × X3 × X4 × X5 // I q.1 q.2.1 q.2.2.1 q.2.2.2.1 q.2.2.2.2.1 q.2.2.2.2.2 }) (fun p => GI p.1.1 p.1.2.1 p.1.2.2.1 p.1.2.2.2.1 p.1.2.2.2.2.1 p.1.2.2.2.2.2) (fun p => SI p.1.1 p.1.2.1 p.1.2.2.1 p.1.2.2.2.1 p.1.2.2.2.2.1 p.1.2.2.2.2.2) (fun p => rest p.1.1 p.1.2.1 p.1.2.2.1 p.1.2.2.2.1 p.1.2.2.2.2.1 p.1.2.2.2.2.2 p.2) fun k hk => first k fun x0 x1 x2 x3 x4 x5 h => hk ⟨(x0, x1, x2, x3, x4, x5), h⟩
end
end Slb

/- Base 29: a string's bytes are copied. -/
namespace Slb
open Go Go.Proofs
section
variable {P : Program} {N : Nat} {G : Env} {S : List HProp} {F : Fr} {o : Oper} {t : TypeId} {x y : Operand}
/-- A string's bytes are copied into a slice. -/
theorem EF.copyStr {b off n c : Nat} {e : TypeId} {xs : List UInt8} {l l' : List Value} {ty : TypeId} {C : List Value → List HProp} {ts : Array TypeId} (ho : o.op = .call ⟨.builtin .copy, #[x, y], ts⟩) (hx : opv G x = some (.slice (some ⟨b, off, none⟩) n c)) (hy : opv G y = some (.string ⟨xs.toArray⟩))
   (ht : ts[0]? = some t) (hu : P.underlying t = some (.slice e)) (hz : Sz P e 1) (hn : xs.length ≤ n) [u : UpdBlk b S l ty C] (hs : SetL l off xs.length (bytesV xs) l') : EF P N G S F o fun v S2 => v = .int .i64 xs.length ∧ S2 = C l' := fun a w st => by
 obtain ⟨r, s1, back⟩ := Sat.upd (u.upd l') st.sat
 have hb : w.heap[b]? = some (.cells l.toArray ty (0, 0)) := s1.at
 obtain ⟨pre, mid, post, rfl, rfl, rfl, hm, hlen⟩ := hs
 obtain ⟨w', e1, e2, e3, e4, e5, e6⟩ := run_storeCells (P := P) (off := pre.length) (bytesV xs) 0 w _ hb (by simp; omega) (bytesV_cell _)
 have hmap : #[x, y].map a.eval = #[.slice (some ⟨b, pre.length, none⟩) n c, .string ⟨xs.toArray⟩] := by simp [st.eval hx, st.eval hy]
 have hmin : Nat.min xs.length n = xs.length := Nat.min_eq_left hn
 have hsz : (ByteArray.mk xs.toArray).size = xs.length := by simp [ByteArray.size]
 have hext : (ByteArray.mk xs.toArray).extract 0 xs.length = ByteArray.mk xs.toArray := by
   rw [← hsz]
   exact ByteArray.extract_zero_size
 refine estep_value (v := .int .i64 xs.length) (w' := w') ?_ ⟨_, ⟨rfl, rfl⟩, back _ (s1.set _ e2 e3 e4 ?_ e6)⟩
 · unfold execOp
   simp only [ho, resolve, hmap]
   have hcells : (Builtin.firstCells 1 xs.length (.string ⟨xs.toArray⟩)).run P w = .ok (bytesV xs).toArray w := by
     unfold Builtin.firstCells
     simp only [hext, Sem.run_pure]
     congr 1
     apply Array.ext'
     simp [bytesV]
     intro a _; rfl
   simp [Go.invoke, Go.builtin, Builtin.copy_, ht, run_underlying hu, hz w, Builtin.lenOf, hsz, hmin, hcells, e1, goInt]
 · rw [e5]
   congr 3
   rw [hlen, ← hm]
   simp
end
end Slb

/- Base 34: a whole slice as what is appended. -/
namespace Slb
open Go Go.Proofs
section
variable {S : List HProp} {F : Fr}
theorem RowsAt.ownH {α : Type} {enc : α → List Value} {e : TypeId} {z : Nat} {a : Option Addr} {c : Nat} {xs : List α} (hl : ∀ x, (enc x).length = z) (hh : SlH a c xs) (h : slA e z enc (.slice a xs.length c) xs ∈ S) : RowsAt S F (.slice a xs.length c) xs.length z (xs.flatMap enc) := by
 rcases hh with ⟨rfl, rfl, rfl⟩ | ⟨⟨b, off, rfl⟩, hc⟩
 · exact RowsAt.empty rfl
 · exact RowsAt.sl hl (SlAt.own hl h)
end
end Slb

/- Base 45: bytes copied into an array; slices of an array. -/
namespace Slb
open Go Go.Proofs
abbrev bytE (c : UInt8) : List Value := [byteV c]
theorem flat_byt (l : List UInt8) : l.flatMap bytE = bytesV l := by
 induction l with
 | nil => rfl
 | cons c l ih => rw [List.flatMap_cons, ih]; rfl
section
variable {P : Program} {N : Nat} {G : Env} {S : List HProp} {F : Fr} {o : Oper} {t e : TypeId} {x y y2 : Operand}
theorem RowsAt.first {v : Value} {n m : Nat} {cells : List Value} (h : RowsAt S F v n 1 cells) (hm : m ≤ n) {w : World} (s : Sat S F w) : (Builtin.firstCells 1 m v).run P w = .ok (cells.take m).toArray w := by
 obtain ⟨hl, ⟨rfl, rfl⟩ | ⟨b, off, c, rfl, hr⟩⟩ := h
 · have : cells = [] := List.eq_nil_of_length_eq_zero (by simpa using hl)
   subst this
   simp [Builtin.firstCells]
 · obtain ⟨l, ty, fz, hh, hs⟩ := hr w s
   simp only [Builtin.firstCells, loadCells]
   have := run_loadCells (P := P) hh (off := off) [] (cells.take m) 0 #[] (fun j hj => by
     rw [Nat.zero_add]
     rw [List.length_take] at hj
     rw [hs.get (by omega), List.getElem?_take_of_lt (by omega)])
   rw [List.length_take, show min m cells.length = m by omega] at this
   rw [Nat.mul_one, this]; simp
theorem QP.sliceArrLo {b off n z : Nat} {i : Int} (ho : o.op = .slice t x (some y) none none) (hx : opv G x = some (.pointer (some ⟨b, off, none⟩))) (hy : opv G y = some (.int .i64 i)) (hu : P.underlying t = some (.array n e)) (hz : Sz P e z) (h0 : 0 ≤ i) (h1 : i ≤ n) :
   QP P N G S F o (.slice (slOff (some ⟨b, off, none⟩) n i.toNat z) (n - i.toNat) (n - i.toNat)) := fun a w s w' => by
 unfold execOp
 simp [ho, s.eval hx, s.eval hy, Instr.sliceAt, Instr.sureAddr, Instr.sliceBounds, Instr.sliceBound, asIntOf, run_underlying hu, hz w', h0, h1, slOff]
 split <;> rfl
theorem QP.sliceArrLoHi {b off n z : Nat} {i j : Int} (ho : o.op = .slice t x (some y) (some y2) none) (hx : opv G x = some (.pointer (some ⟨b, off, none⟩))) (hy : opv G y = some (.int .i64 i)) (hy2 : opv G y2 = some (.int .i64 j)) (hu : P.underlying t = some (.array n e)) (hz : Sz P e z) (h0 : 0 ≤ i) (h1 : i ≤ j) (h2 : j ≤ n) :
   QP P N G S F o (.slice (slOff (some ⟨b, off, none⟩) n i.toNat z) (j.toNat - i.toNat) (n - i.toNat)) := fun a w s w' => by
 have h3 : 0 ≤ j := Int.le_trans h0 h1
 have h4 : max j 0 = j := by omega
 unfold execOp
 simp [ho, s.eval hx, s.eval hy, s.eval hy2, Instr.sliceAt, Instr.sureAddr, Instr.sliceBounds, Instr.sliceBound, asIntOf, run_underlying hu, hz w', h0, h1, h2, h3, h4, slOff]
 split <;> rfl
/-- Bytes of a slice are copied into a block's bytes. -/
theorem EF.copySl {b off n lo k c : Nat} {ys : List UInt8} {sv : Value} {l l' : List Value} {ty : TypeId} {C : List Value → List HProp} {ts : Array TypeId} (ho : o.op = .call ⟨.builtin .copy, #[x, y], ts⟩)
   (hx : opv G x = some (.slice (slOff (some ⟨b, off, none⟩) n lo 1) k c)) (hy : opv G y = some sv) (ht : ts[0]? = some t) (hu : P.underlying t = some (.slice e)) (hz : Sz P e 1) (hr : RowsAt S F sv ys.length 1 (bytesV ys)) (hlo : n = lo → min ys.length k = 0)
   [u : UpdBlk b S l ty C] (hs : SetL l (off + lo) (min ys.length k) (bytesV (ys.take (min ys.length k))) l') : EF P N G S F o fun v S2 => v = .int .i64 (min ys.length k : Nat) ∧ S2 = C l' := fun a w st => by
 generalize hm : min ys.length k = m at *
 have hmy : m ≤ ys.length := by omega
 have hload := hr.first (P := P) (w := w) hmy st.sat
 have hby : (bytesV ys).take m = bytesV (ys.take m) := by simp [bytesV, List.map_take]
 rw [hby] at hload
 have hlen := hr.len (P := P) w
 obtain ⟨r, s1, back⟩ := Sat.upd (u.upd l') st.sat
 have hb : w.heap[b]? = some (.cells l.toArray ty (0, 0)) := s1.at
 obtain ⟨pre, mid, post, rfl, rfl, hp, hmid, hlen2⟩ := hs
 obtain ⟨w', e1, e2, e3, e4, e5, e6⟩ := run_storeCells (P := P) (off := off + lo) (bytesV (ys.take m)) 0 w _ hb (by simp only [List.length_append]; omega) (bytesV_cell _)
 have hmap : #[x, y].map a.eval = #[.slice (slOff (some ⟨b, off, none⟩) n lo 1) k c, sv] := by simp [st.eval hx, st.eval hy]
 have hst : (storeCells ((slOff (some ⟨b, off, none⟩) n lo 1).getD ⟨b, off + lo, none⟩) (bytesV (ys.take m))).run P w = .ok () w' := by
   unfold slOff
   split
   · rename_i hnl
     have hm0 := hlo hnl
     subst hm0
     have hnil : bytesV (ys.take 0) = [] := by simp [bytesV]
     rw [hnil] at e1 ⊢
     simp only [storeCells, Sem.run_pure] at e1 ⊢
     exact e1
   · rw [Option.map_some, Option.getD_some, add_lit, Nat.mul_one]
     exact e1
 refine estep_value (v := .int .i64 (m : Nat)) (w' := w') ?_ ⟨_, ⟨rfl, rfl⟩, back _ (s1.set _ e2 e3 e4 ?_ e6)⟩
 · unfold execOp
   simp only [ho, resolve, hmap]
   have hsome : ∃ ad, slOff (some ⟨b, off, none⟩) n lo 1 = some ad := by unfold slOff; split <;> exact ⟨_, rfl⟩
   obtain ⟨ad, had⟩ := hsome
   rw [had] at hst ⊢
   simp only [Option.getD_some] at hst
   have hmin : Nat.min ys.length k = m := hm
   simp [Go.invoke, Go.builtin, Builtin.copy_, ht, run_underlying hu, hz w, hlen, hmin, hload, hst, goInt]
 · rw [e5]
   congr 3
   rw [Nat.add_zero, ← hp, hlen2, ← hmid]
   simp
end
/-- Bytes of an array, some of them laid anew. -/
def Bs.patch {n : Nat} (x : Bs n) (lo : Nat) (ys : List UInt8) : Bs n := ⟨x.l.take lo ++ ys.take (min ys.length (n - lo)) ++ x.l.drop (min lo n + min ys.length (n - lo)), by
 have := x.h
 simp only [List.length_append, List.length_take, List.length_drop]
 omega⟩
theorem Bs.setPatch {n lo : Nat} (x : Bs n) (ys : List UInt8) (h : lo ≤ n) : SetL x.enc (0 + lo) (min ys.length (n - lo)) (bytesV (ys.take (min ys.length (n - lo)))) (x.patch lo ys).enc := by
 have hx := x.h
 refine ⟨bytesV (x.l.take lo), bytesV ((x.l.drop lo).take (min ys.length (n - lo))), bytesV (x.l.drop (lo + min ys.length (n - lo))), ?_, ?_, ?_, ?_, ?_⟩
 · unfold Bs.enc bytesV
   rw [← List.map_append, ← List.map_append]
   congr 1
   rw [List.append_assoc, ← List.drop_drop, List.take_append_drop, List.take_append_drop]
 · unfold Bs.enc Bs.patch bytesV
   simp only [List.map_append, show min lo n = lo by omega]
 · rw [bytesV_length, List.length_take]; omega
 · rw [bytesV_length, List.length_take, List.length_drop]; omega
 · rw [bytesV_length, List.length_take]; omega
end Slb

/- Base 46: maps by numbers; a map's entry written in a literal. -/
namespace Slb
open Go Go.Proofs
theorem KeyTy.i64 {P : Program} {t : TypeId} (ht : P.underlying t = some (.int .i64)) : KeyTy P t I64 (fun n => .int .i64 n.val) where
 lits x := ⟨_, Maps.keyOf_int_mk ht (by
   obtain ⟨n, h1, h2⟩ := x
   simp only [Lit.wf, Bool.and_eq_true, decide_eq_true_eq]
   exact ⟨h1, h2⟩)⟩
 law := Maps.int_keyed ht
 inj x y e := Subtype.ext (by simpa using e)
abbrev N8 := { n : Int // 0 ≤ n ∧ n ≤ 255 }
theorem KeyTy.u8 {P : Program} {t : TypeId} (ht : P.underlying t = some (.int .u8)) : KeyTy P t N8 (fun n => .int .u8 n.val) where
 lits x := ⟨_, Maps.keyOf_int_mk ht (by
   obtain ⟨n, h1, h2⟩ := x
   simp only [Lit.wf, Bool.and_eq_true, decide_eq_true_eq]
   exact ⟨h1, h2⟩)⟩
 law := Maps.int_keyed ht
 inj x y e := Subtype.ext (by simpa using e)
section
variable {P : Program} {N : Nat} {G : Env} {S : List HProp} {F : Fr} {o : Oper} {t kt et : TypeId} {x y : Operand} {r : Nat} {K V : Type} [DecidableEq K] {ek : K → Value} {ev : V → Value} {M : List (K × V)}
theorem EF.insert (hk : KeyTy P kt K ek) {z : Operand} {k : K} {v : V} {C : List (K × V) → List HProp} (ho : o.op = .insert t x y z) (hx : opv G x = some (.map (some r))) [u : UpdMap r S K V ek ev M C] (hy : opv G y = some (ek k)) (hz : opv G z = some (ev v)) (hu : P.underlying t = some (.map kt et)) :
   EF P N G S F o fun _ S2 => S2 = C (aset M k v) := fun a w st => by
 have h := EF.mapUpdate (N := N) (F := F) (o := { o with op := .mapUpdate t x y z }) hk rfl hx (u := u) hy hz hu a w st
 have e : execOp a.eval o = execOp a.eval { o with op := .mapUpdate t x y z } := by
   unfold execOp
   rw [ho]
 show EStep P o a w _
 unfold EStep
 rw [e]
 exact h
end
end Slb

/- Base 47: anything is lent to a call that reads it; a string appended to bytes; strings joined; bytes of any slice as a string. -/
namespace Slb
open Go Go.Proofs
section
variable {P : Program} {f : FuncId} {args : Array Value} {m : List HProp} {F : Fr} {R : Value → List HProp → Prop}
/-- Anything is lent to a call that reads it. -/
theorem Spec.lendG {A : HProp} (h : ∀ (F' : Fr) (q : PH), PH.le F.h F'.h → A q → PH.le q F'.h → Spec P f args m F' R) : Spec P f args (A :: m) F fun v S' => ∃ S1, R v S1 ∧ S' = A :: S1 := fun w s => by
 obtain ⟨a, b, c, d, k, ⟨h1, h2, dd, rfl, hA, hm⟩, hd, hle⟩ := s
 have d1 := PH.disj_union_left hd
 have d2 := PH.disj_union_right dd hd
 have sm : Sat m { F with h := PH.union F.h h1 } w := ⟨a, b, c, PH.union_le d (PH.le_union_left.trans hle), h2, hm, (PH.disj_union d2.symm dd).symm, (PH.le_union_right dd).trans hle⟩
 refine (h { F with h := PH.union F.h h1 } h1 PH.le_union_left hA (PH.le_union_right d1.symm) w sm).mono fun e w' ⟨v, S', he, hR, s'⟩ => ⟨v, _, he, ⟨S', hR, rfl⟩, ?_⟩
 obtain ⟨a', b', c', d', k', hk, g1, g2⟩ := s'
 have x1 : PH.disj (PH.union F.h h1) k' := g1.symm
 have x2 := PH.disj_union_left x1
 have x3 := PH.disj_union_right d1.symm x1
 exact ⟨a', b', c', PH.le_union_left.trans d', PH.union h1 k', ⟨h1, k', x3, rfl, hA, hk⟩, PH.disj_union d1 x2.symm, PH.union_le ((PH.le_union_right d1.symm).trans d') g2⟩
theorem slA_arg {α : Type} {e : TypeId} {z : Nat} {enc : α → List Value} {a : Option Addr} {n c : Nat} {xs : List α} (hl : ∀ x, (enc x).length = z) {q : PH} (h : slA e z enc (.slice a n c) xs q) (hq : PH.le q F.h) : ArgSl F a z enc xs := fun h0 => by
 rcases h with ⟨_, rfl, _⟩ | ⟨b, off, c', pre, spare, post, hv, rfl, h3, h4, h5⟩
 · simp at h0
 · simp only [Value.slice.injEq] at hv
   obtain ⟨rfl, _, rfl⟩ := hv
   exact ⟨b, off, rfl, _, _, _, hq _ _ (single_self _ _), pre, spare ++ post, by simp, h3, flatMap_len hl xs⟩
theorem stars_mem {A : HProp} : ∀ {l : List HProp} {q : PH}, A ∈ l → stars l q → ∃ p, A p ∧ PH.le p q
 | [], _, h, _ => by cases h
 | B :: l, q, h, ⟨h1, h2, d, e, g1, g2⟩ => by
   subst e
   rcases List.mem_cons.1 h with rfl | h
   · exact ⟨h1, g1, PH.le_union_left⟩
   · obtain ⟨p, hp, hle⟩ := stars_mem h g2
     exact ⟨p, hp, hle.trans (PH.le_union_right d)⟩
end
section
variable {P : Program} {N : Nat} {G : Env} {S S1 : List HProp} {F : Fr} {o : Oper} {t t1 t' e : TypeId} {x y : Operand}
/-- A new slice of zeros (of one cell each). -/
theorem EF.makeSl1 {α : Type} {enc : α → List Value} {x0 : α} {v0 : Value} {n : Int} (hE : ElemTy P e 1) (ho : o.op = .makeSlice t x y) (hx : opv G x = some (.int .i64 n)) (hy : opv G y = some (.int .i64 n)) (hu : P.underlying t = some (.slice e))
   (hz : Zero P e v0) (hv0 : v0.cells = #[v0]) (he : enc x0 = [v0]) (h0 : 0 ≤ n) (h1 : n ≤ 4294967296) : EF P N G S F o fun v S' => ∃ b, v = .slice (some ⟨b, 0, none⟩) n.toNat n.toNat ∧ S' = slA e 1 enc v (List.replicate n.toNat x0) :: S := fun ac w st => by
 obtain ⟨i, zv, hi, hsz, hby, _, _⟩ := hE.info
 have hti : ∀ w, (typeInfo e).run P w = .ok i w := fun w => by unfold typeInfo; simp [program, Sem.run, hi, bind, Sem.bind, pure]
 have hsz' : ∀ w, (Go.sizeOf e).run P w = .ok 1 w := fun w => by rw [run_sizeOf w hi]; unfold Program.cellsOf; rw [hi]; simp [hsz]
 have hask : ∀ (k : Nat) (w : World), (askRoom k).run P w = .ok () w := fun k w => by
   unfold askRoom
   split
   · simp [mark, Sem.run]
   · simp
 have hw : IntKind.i64.wrap n = n := wrap_i64 (by omega) (by omega)
 have hl1 : ¬ ((i.bytes : Int) * n > 2 ^ 48) := by
   have : (i.bytes : Int) * n ≤ 4096 * 4294967296 := Int.mul_le_mul (by omega) h1 h0 (by omega)
   omega
 have hl2 : ¬ (281474976710656 < (i.bytes : Int) * n) := by omega
 refine estep_value (v := .slice (some ⟨w.heap.size, 0, none⟩) n.toNat n.toNat) (w' := { w with heap := w.heap.push (.cells (List.replicate n.toNat v0).toArray e) }) ?_ ⟨_, ⟨w.heap.size, rfl, rfl⟩, ?_⟩
 · unfold execOp
   simp only [ho, st.eval hx, st.eval hy]
   unfold Instr.makeSlice
   have hb1 : (decide (n < 0) || decide ((i.bytes : Int) * n > 2 ^ 48)) = false := by rw [decide_eq_false (by omega), decide_eq_false hl1]; rfl
   by_cases hn0 : n.toNat = 0
   · have hrep : (List.replicate n.toNat v0).toArray = #[] := by rw [hn0]; rfl
     simp [run_underlying hu, asInt, asIntOf, hti, hw, hsz', hb1, hask, hn0, newRow, newObj, Sem.run, show ¬ n < 0 by omega, hl1, hl2]
     have e0 : Array.range 0 = #[] := rfl
     rw [e0, Array.map_empty]
   · have hrep : (Array.range n.toNat).map (fun j => (#[v0] : Array Value)[j % 1]!) = (List.replicate n.toNat v0).toArray := by
       apply Array.ext
       · simp
       · intro j h1 h2
         simp [Nat.mod_one]
     simp [run_underlying hu, asInt, asIntOf, hti, hw, hsz', hb1, hask, hn0, hz _, hv0, newRow, newObj, Sem.run, show ¬ n < 0 by omega, hl1, hl2]
     simp at hrep
     rw [hrep]
 · have s2 := st.sat.new (.cells (List.replicate n.toNat v0).toArray e)
   refine s2.head fun k hk => .inr ⟨w.heap.size, 0, n.toNat, [], [], [], by simp, ?_, rfl, by simp, by simp⟩
   rw [show k = _ from hk]
   have : (List.replicate n.toNat x0).flatMap enc = List.replicate n.toNat v0 := by
     induction n.toNat with
     | zero => rfl
     | succ m ih => rw [List.replicate_succ, List.flatMap_cons, ih, he]; rfl
   rw [this]
   simp
end
end Slb

/- Base 48: a block as a slice; numbers shifted down; loads of a known slice in a struct. -/
namespace Slb
open Go Go.Proofs
theorem slA_blk {α : Type} {e : TypeId} {z : Nat} {enc : α → List Value} {b : Nat} {xs : List α} {l : List Value} {h : PH} (hl : l = xs.flatMap enc) (hh : stars [blk b l e] h) : slA e z enc (.slice (some ⟨b, 0, none⟩) xs.length xs.length) xs h := by
 subst hl
 refine .inr ⟨b, 0, xs.length, [], [], [], rfl, ?_, rfl, Nat.le_refl _, by simp⟩
 have hh2 : blk b (xs.flatMap enc) e h := stars_one.1 hh
 rw [show h = _ from hh2]
 simp
section
variable {P : Program} {N : Nat} {G : Env} {S : List HProp} {F : Fr} {o : Oper} {t t' e : TypeId} {x y : Operand}
end
section
variable {P : Program} {f : FuncId} {args : Array Value} {m : List HProp} {F : Fr} {R : Value → List HProp → Prop}
/-- Several atoms are lent to a call that reads them. -/
theorem Spec.lendL {L : List HProp} (h : ∀ (F' : Fr) (q : PH), PH.le F.h F'.h → stars L q → PH.le q F'.h → Spec P f args m F' R) : Spec P f args (L ++ m) F fun v S' => ∃ S1, R v S1 ∧ S' = L ++ S1 := fun w s => by
 refine (Spec.lendG (A := stars L) h w s.unflat).mono ?_
 rintro e w' ⟨v, S', he, ⟨S1, hR, rfl⟩, s'⟩
 exact ⟨v, _, he, ⟨S1, hR, rfl⟩, s'.flat⟩
theorem slA_frame {α : Type} {e : TypeId} {z : Nat} {enc : α → List Value} {a : Option Addr} {n c : Nat} {xs : List α} {L : List HProp} {q : PH} (hl : ∀ x, (enc x).length = z) (h : stars L q) (hq : PH.le q F.h) (hm : slA e z enc (.slice a n c) xs ∈ L) : ArgSl F a z enc xs := by
 obtain ⟨p, hp, hpq⟩ := stars_mem hm h
 exact slA_arg hl hp (hpq.trans hq)
theorem ArgSl.take {α : Type} {enc : α → List Value} {z : Nat} {a : Option Addr} {xs : List α} {n : Nat} (hl : ∀ x, (enc x).length = z) (h : ArgSl F a z enc xs) (hn : n ≤ xs.length) : ArgSl F a z enc (xs.take n) := fun h0 => by
 rw [List.length_take] at h0
 obtain ⟨b, off, rfl, l, ty, fz, h1, pre, post, h2, h3, h4⟩ := h (by omega)
 refine ⟨b, off, rfl, l, ty, fz, h1, pre, (xs.drop n).flatMap enc ++ post, ?_, h3, flatMap_len hl _⟩
 conv at h2 => rw [← List.take_append_drop n xs]
 rw [List.flatMap_append] at h2
 rw [h2]
 simp
end
section
variable {P : Program} {N : Nat} {G : Env} {S : List HProp} {F : Fr} {o : Oper} {t e : TypeId} {x y : Operand} {z : Nat}
theorem SlH.at {α : Type} {a : Option Addr} {c : Nat} {xs : List α} (h : SlH a c xs) : c = 0 ∨ a = none ∨ ∃ b off, a = some ⟨b, off, none⟩ := by
 rcases h with ⟨h, _, _⟩ | ⟨h, _⟩
 · exact .inr (.inl h)
 · exact .inr (.inr h)
end
end Slb

/- Base 49: how much what comes in may weigh; bytes that came in. -/
namespace Slb
open Go Go.Proofs Go.RowKit Go.WideShapes Go.ChangeShapes
theorem SubL.cut {l s : List Value} {off k : Nat} (h : SubL l off k s) : (l.drop off).take k = s := by
 obtain ⟨pre, post, rfl, h1, h2⟩ := h
 subst h1 h2
 simp
section
variable {P : Program} {H : Type} {en : TypeId × Value → H} {W : World} {base : Nat} {sp : Nat → Bool} {held : Bool}
end
end Slb

/- Base 50: steps of walks, said shortly. -/
namespace Slb
open Go Go.Proofs
theorem Rc {p : Prop} (h : p := by repeat constructor) : p := h
theorem Kr {p : Prop} (h : p := by kernel_rfl) : p := h
theorem Og {p : Prop} (h : p := by first | omega | (simp <;> omega)) : p := h
theorem Tk1 {S r1 : List HProp} {A1 : HProp} (p1 : Pick S A1 r1 := by repeat constructor) : Takes S [A1] r1 := .cons p1 .nil
theorem Tk2 {S r1 r2 : List HProp} {A1 A2 : HProp} (p1 : Pick S A1 r1 := by repeat constructor) (p2 : Pick r1 A2 r2 := by repeat constructor) : Takes S [A1, A2] r2 := .cons p1 (.cons p2 .nil)
theorem Tk3 {S r1 r2 r3 : List HProp} {A1 A2 A3 : HProp} (p1 : Pick S A1 r1 := by repeat constructor) (p2 : Pick r1 A2 r2 := by repeat constructor) (p3 : Pick r2 A3 r3 := by repeat constructor) : Takes S [A1, A2, A3] r3 := .cons p1 (.cons p2 (.cons p3 .nil))
theorem Tk4 {S r1 r2 r3 r4 : List HProp} {A1 A2 A3 A4 : HProp} (p1 : Pick S A1 r1 := by repeat constructor) (p2 : Pick r1 A2 r2 := by repeat constructor) (p3 : Pick r2 A3 r3 := by repeat constructor) (p4 : Pick r3 A4 r4 := by repeat constructor) : Takes S [A1, A2, A3, A4] r4 := .cons p1 (.cons p2 (.cons p3 (.cons p4 .nil)))
theorem Tk5 {S r1 r2 r3 r4 r5 : List HProp} {A1 A2 A3 A4 A5 : HProp} (p1 : Pick S A1 r1 := by repeat constructor) (p2 : Pick r1 A2 r2 := by repeat constructor) (p3 : Pick r2 A3 r3 := by repeat constructor) (p4 : Pick r3 A4 r4 := by repeat constructor) (p5 : Pick r4 A5 r5 := by repeat constructor) : Takes S [A1, A2, A3, A4, A5] r5 := .cons p1 (.cons p2 (.cons p3 (.cons p4 (.cons p5 .nil))))
theorem Tk6 {S r1 r2 r3 r4 r5 r6 : List HProp} {A1 A2 A3 A4 A5 A6 : HProp} (p1 : Pick S A1 r1 := by repeat constructor) (p2 : Pick r1 A2 r2 := by repeat constructor) (p3 : Pick r2 A3 r3 := by repeat constructor) (p4 : Pick r3 A4 r4 := by repeat constructor) (p5 : Pick r4 A5 r5 := by repeat constructor) (p6 : Pick r5 A6 r6 := by repeat constructor) : Takes S [A1, A2, A3, A4, A5, A6] r6 := .cons p1 (.cons p2 (.cons p3 (.cons p4 (.cons p5 (.cons p6 .nil)))))
theorem Tk7 {S r1 r2 r3 r4 r5 r6 r7 : List HProp} {A1 A2 A3 A4 A5 A6 A7 : HProp} (p1 : Pick S A1 r1 := by repeat constructor) (p2 : Pick r1 A2 r2 := by repeat constructor) (p3 : Pick r2 A3 r3 := by repeat constructor) (p4 : Pick r3 A4 r4 := by repeat constructor) (p5 : Pick r4 A5 r5 := by repeat constructor) (p6 : Pick r5 A6 r6 := by repeat constructor) (p7 : Pick r6 A7 r7 := by repeat constructor) : Takes S [A1, A2, A3, A4, A5, A6, A7] r7 := .cons p1 (.cons p2 (.cons p3 (.cons p4 (.cons p5 (.cons p6 (.cons p7 .nil))))))
theorem Tk8 {S r1 r2 r3 r4 r5 r6 r7 r8 : List HProp} {A1 A2 A3 A4 A5 A6 A7 A8 : HProp} (p1 : Pick S A1 r1 := by repeat constructor) (p2 : Pick r1 A2 r2 := by repeat constructor) (p3 : Pick r2 A3 r3 := by repeat constructor) (p4 : Pick r3 A4 r4 := by repeat constructor) (p5 : Pick r4 A5 r5 := by repeat constructor) (p6 : Pick r5 A6 r6 := by repeat constructor) (p7 : Pick r6 A7 r7 := by repeat constructor) (p8 : Pick r7 A8 r8 := by repeat constructor) : Takes S [A1, A2, A3, A4, A5, A6, A7, A8] r8 := .cons p1 (.cons p2 (.cons p3 (.cons p4 (.cons p5 (.cons p6 (.cons p7 (.cons p8 .nil)))))))
theorem Tk9 {S r1 r2 r3 r4 r5 r6 r7 r8 r9 : List HProp} {A1 A2 A3 A4 A5 A6 A7 A8 A9 : HProp} (p1 : Pick S A1 r1 := by repeat constructor) (p2 : Pick r1 A2 r2 := by repeat constructor) (p3 : Pick r2 A3 r3 := by repeat constructor) (p4 : Pick r3 A4 r4 := by repeat constructor) (p5 : Pick r4 A5 r5 := by repeat constructor) (p6 : Pick r5 A6 r6 := by repeat constructor) (p7 : Pick r6 A7 r7 := by repeat constructor) (p8 : Pick r7 A8 r8 := by repeat constructor) (p9 : Pick r8 A9 r9 := by repeat constructor) : Takes S [A1, A2, A3, A4, A5, A6, A7, A8, A9] r9 := .cons p1 (.cons p2 (.cons p3 (.cons p4 (.cons p5 (.cons p6 (.cons p7 (.cons p8 (.cons p9 .nil))))))))
theorem E2 {α β : Type} {a : α} {b : β} : a = a ∧ b = b := ⟨rfl, rfl⟩
theorem E3 {α β γ : Type} {a : α} {b : β} {c : γ} : a = a ∧ b = b ∧ c = c := ⟨rfl, rfl, rfl⟩
theorem E4 {α β γ δ : Type} {a : α} {b : β} {c : γ} {d : δ} : a = a ∧ b = b ∧ c = c ∧ d = d := ⟨rfl, rfl, rfl, rfl⟩
/-- What a guard's slot holds. -/
def gv (ops : Array Oper) (G : Env) (g : Nat) : Option Value := ((ops[g]?).bind (·.dst)).bind (lk G)
section
variable {P : Program} {N : Nat} {K : Posts} {G : Env} {S : List HProp} {F : Fr} {ops : Array Oper} {l : List Nat} {d g : Nat} {op : Op} {t : TypeId} {p : String} {a : Array Edge} {b : Bool} {x y z : Operand} {v : Value}
theorem want_yes {ops : Array Oper} {o : Oper} {g : Nat} {b : Bool} (h : o.guard = some (g, b)) (hg : gv ops G g = some (.bool b)) : Want N G S F ops o true := by
 unfold gv at hg
 cases hd : (ops[g]?).bind (·.dst) with
 | none => rw [hd] at hg; cases hg
 | some d => rw [hd] at hg; exact Want.yes h hd hg (by cases b <;> rfl)
theorem want_no {ops : Array Oper} {o : Oper} {g : Nat} {b : Bool} (h : o.guard = some (g, b)) (hg : gv ops G g = some (.bool !b)) : Want N G S F ops o false := by
 unfold gv at hg
 cases hd : (ops[g]?).bind (·.dst) with
 | none => rw [hd] at hg; cases hg
 | some d => rw [hd] at hg; exact Want.no h hd hg (by cases b <;> rfl)
theorem Mv (i : Nat) (hE : ops[i]? = some ⟨some d, .move x, t, p, a, none⟩ ∧ Nat.ble (d + 1) N = true ∧ opv G x = some v) (h : Sq P N ops l K (.cons d v G) S F) : Sq P N ops (i :: l) K G S F := Sq.quiet hE.1 (Want.none rfl) rfl (ltN hE.2.1) (QP.move rfl hE.2.2).read h
theorem Sg (i : Nat) (hE : ops[i]? = some ⟨some d, .assign x, t, p, a, none⟩ ∧ Nat.ble (d + 1) N = true ∧ opv G x = some v) (h : Sq P N ops l K (.cons d v G) S F) : Sq P N ops (i :: l) K G S F := Sq.quiet hE.1 (Want.none rfl) rfl (ltN hE.2.1) (QP.assign rfl hE.2.2).read h
theorem Pt (i : Nat) (hE : ops[i]? = some ⟨some d, .pick x y z, t, p, a, none⟩ ∧ Nat.ble (d + 1) N = true ∧ opv G x = some (.bool true) ∧ opv G y = some v) (h : Sq P N ops l K (.cons d v G) S F) : Sq P N ops (i :: l) K G S F := Sq.quiet hE.1 (Want.none rfl) rfl (ltN hE.2.1) (QP.pick_t rfl hE.2.2.1 hE.2.2.2).read h
theorem Pf (i : Nat) (hE : ops[i]? = some ⟨some d, .pick x y z, t, p, a, none⟩ ∧ Nat.ble (d + 1) N = true ∧ opv G x = some (.bool false) ∧ opv G z = some v) (h : Sq P N ops l K (.cons d v G) S F) : Sq P N ops (i :: l) K G S F := Sq.quiet hE.1 (Want.none rfl) rfl (ltN hE.2.1) (QP.pick_f rfl hE.2.2.1 hE.2.2.2).read h
theorem Fa (i : Nat) {ty : TypeId} {f n bl off : Nat} (hE : ops[i]? = some ⟨some d, .fieldAddr ty x f, t, p, a, none⟩ ∧ Nat.ble (d + 1) N = true ∧ opv G x = some (.pointer (some ⟨bl, off, none⟩))) (hf : FieldA P ty f n) (h : Sq P N ops l K (.cons d (.pointer (some ⟨bl, off + n, none⟩)) G) S F) : Sq P N ops (i :: l) K G S F := Sq.quiet hE.1 (Want.none rfl) rfl (ltN hE.2.1) (QP.fieldAddr rfl hE.2.2 hf).read h
theorem Qq (i : Nat) (hE : ops[i]? = some ⟨some d, op, t, p, a, none⟩ ∧ Nat.ble (d + 1) N = true) (he : QR P N G S F ⟨some d, op, t, p, a, none⟩ v) (h : Sq P N ops l K (.cons d v G) S F) : Sq P N ops (i :: l) K G S F := Sq.quiet hE.1 (Want.none rfl) rfl (ltN hE.2) he h
theorem Qp (i : Nat) (hE : ops[i]? = some ⟨some d, op, t, p, a, none⟩ ∧ Nat.ble (d + 1) N = true) (he : QP P N G S F ⟨some d, op, t, p, a, none⟩ v) (h : Sq P N ops l K (.cons d v G) S F) : Sq P N ops (i :: l) K G S F := Sq.quiet hE.1 (Want.none rfl) rfl (ltN hE.2) he.read h
theorem Yq (i : Nat) (hE : ops[i]? = some ⟨some d, op, t, p, a, some (g, b)⟩ ∧ Nat.ble (d + 1) N = true ∧ gv ops G g = some (.bool b)) (he : QR P N G S F ⟨some d, op, t, p, a, some (g, b)⟩ v) (h : Sq P N ops l K (.cons d v G) S F) : Sq P N ops (i :: l) K G S F := Sq.quiet hE.1 (want_yes rfl hE.2.2) rfl (ltN hE.2.1) he h
theorem Yp (i : Nat) (hE : ops[i]? = some ⟨some d, op, t, p, a, some (g, b)⟩ ∧ Nat.ble (d + 1) N = true ∧ gv ops G g = some (.bool b)) (he : QP P N G S F ⟨some d, op, t, p, a, some (g, b)⟩ v) (h : Sq P N ops l K (.cons d v G) S F) : Sq P N ops (i :: l) K G S F := Sq.quiet hE.1 (want_yes rfl hE.2.2) rfl (ltN hE.2.1) he.read h
theorem Ym (i : Nat) (hE : ops[i]? = some ⟨some d, .move x, t, p, a, some (g, b)⟩ ∧ Nat.ble (d + 1) N = true ∧ gv ops G g = some (.bool b) ∧ opv G x = some v) (h : Sq P N ops l K (.cons d v G) S F) : Sq P N ops (i :: l) K G S F := Sq.quiet hE.1 (want_yes rfl hE.2.2.1) rfl (ltN hE.2.1) (QP.move rfl hE.2.2.2).read h
theorem Yf (i : Nat) {ty : TypeId} {f n bl off : Nat} (hE : ops[i]? = some ⟨some d, .fieldAddr ty x f, t, p, a, some (g, b)⟩ ∧ Nat.ble (d + 1) N = true ∧ gv ops G g = some (.bool b) ∧ opv G x = some (.pointer (some ⟨bl, off, none⟩))) (hf : FieldA P ty f n) (h : Sq P N ops l K (.cons d (.pointer (some ⟨bl, off + n, none⟩)) G) S F) : Sq P N ops (i :: l) K G S F := Sq.quiet hE.1 (want_yes rfl hE.2.2.1) rfl (ltN hE.2.1) (QP.fieldAddr rfl hE.2.2.2 hf).read h
theorem Sk (i : Nat) (hE : ops[i]? = some ⟨some d, op, t, p, a, some (g, b)⟩ ∧ Nat.ble (d + 1) N = true ∧ gv ops G g = some (.bool !b)) (h : Sq P N ops l K (.cons d undef G) S F) : Sq P N ops (i :: l) K G S F := Sq.skip hE.1 (want_no rfl hE.2.2) rfl (ltN hE.2.1) h
theorem Ef (i : Nat) {next : Value → List HProp → Prop} (hE : ops[i]? = some ⟨some d, op, t, p, a, none⟩ ∧ Nat.ble (d + 1) N = true) (he : EF P N G S F ⟨some d, op, t, p, a, none⟩ next) (h : ∀ v S', next v S' → Sq P N ops l K (.cons d v G) S' F) : Sq P N ops (i :: l) K G S F := Sq.eff hE.1 (Want.none rfl) rfl (ltN hE.2) he h
theorem Ye (i : Nat) {next : Value → List HProp → Prop} (hE : ops[i]? = some ⟨some d, op, t, p, a, some (g, b)⟩ ∧ Nat.ble (d + 1) N = true ∧ gv ops G g = some (.bool b)) (he : EF P N G S F ⟨some d, op, t, p, a, some (g, b)⟩ next) (h : ∀ v S', next v S' → Sq P N ops l K (.cons d v G) S' F) : Sq P N ops (i :: l) K G S F := Sq.eff hE.1 (want_yes rfl hE.2.2) rfl (ltN hE.2.1) he h
theorem Ac (i : Nat) {next : Value → List HProp → Prop} (h1 : ops[i]? = some ⟨none, op, t, p, a, none⟩) (he : EF P N G S F ⟨none, op, t, p, a, none⟩ next) (h : ∀ v S', next v S' → Sq P N ops l K G S' F) : Sq P N ops (i :: l) K G S F := Sq.act h1 (Want.none rfl) rfl he h
variable {M : List Nat} {q r : Nat} {D : List Nat} {k : Act → World → Prop}
theorem Dp (i : Nat) (hE : ops[i]? = some ⟨some d, op, t, p, a, none⟩ ∧ Nat.ble (d + 1) N = true) (he : QP P N G S F ⟨some d, op, t, p, a, none⟩ v) (h : Dw P N ops M q r (i :: D) k (.cons d v G) S F) (hok : (stepOk ops D q i && !r.testBit i) = true := by kernel_rfl) : Dw P N ops M q r D k G S F := Dw.pure hE.1 hok (Want.none rfl) rfl (ltN hE.2) he h
theorem Dy (i : Nat) (hE : ops[i]? = some ⟨some d, op, t, p, a, some (g, b)⟩ ∧ Nat.ble (d + 1) N = true ∧ gv ops G g = some (.bool b)) (he : QP P N G S F ⟨some d, op, t, p, a, some (g, b)⟩ v) (h : Dw P N ops M q r (i :: D) k (.cons d v G) S F) (hok : (stepOk ops D q i && !r.testBit i) = true := by kernel_rfl) : Dw P N ops M q r D k G S F := Dw.pure hE.1 hok (want_yes rfl hE.2.2) rfl (ltN hE.2.1) he h
theorem Dr (i : Nat) (hE : ops[i]? = some ⟨some d, op, t, p, a, none⟩ ∧ Nat.ble (d + 1) N = true) (he : QR P N G S F ⟨some d, op, t, p, a, none⟩ v) (h : Dw P N ops M q r (i :: D) k (.cons d v G) S F) (hok : (stepOk ops D q i && r.testBit i) = true := by kernel_rfl) : Dw P N ops M q r D k G S F := Dw.read hE.1 hok (Want.none rfl) rfl (ltN hE.2) he h
theorem Dz (i : Nat) (hE : ops[i]? = some ⟨some d, op, t, p, a, some (g, b)⟩ ∧ Nat.ble (d + 1) N = true ∧ gv ops G g = some (.bool b)) (he : QR P N G S F ⟨some d, op, t, p, a, some (g, b)⟩ v) (h : Dw P N ops M q r (i :: D) k (.cons d v G) S F) (hok : (stepOk ops D q i && r.testBit i) = true := by kernel_rfl) : Dw P N ops M q r D k G S F := Dw.read hE.1 hok (want_yes rfl hE.2.2) rfl (ltN hE.2.1) he h
theorem Ds (i : Nat) (hE : ops[i]? = some ⟨some d, op, t, p, a, some (g, b)⟩ ∧ Nat.ble (d + 1) N = true ∧ gv ops G g = some (.bool !b)) (h : Dw P N ops M q r (i :: D) k (.cons d undef G) S F) (hok : stepOk ops D q i = true := by kernel_rfl) : Dw P N ops M q r D k G S F := Dw.skip hE.1 hok (want_no rfl hE.2.2) rfl (ltN hE.2.1) h
theorem De (i : Nat) (h : One P N ops M q r D k G S F i) (hl : nexts ops D = [i] := by kernel_rfl) (hne : allIn ops.size D = false := by kernel_rfl) : Dw P N ops M q r D k G S F := Dw.eff hl hne h
theorem Om {i : Nat} (la : List Nat) {next : Value → List HProp → Prop} (h1 : ops[i]? = some ⟨some d, op, t, p, a, none⟩) (h2 : Nat.ble (d + 1) N = true) (he : EF P N G S F ⟨some d, op, t, p, a, none⟩ next)
 (h : ∀ v S', next v S' → (∀ j ∈ la, Look P N ops (.cons d v G) S' F j) ∧ Dw P N ops M q r (i :: D) k (.cons d v G) S' F) (hq : q.testBit i = false := by kernel_rfl) (hl : agains M q r D i = la := by kernel_rfl) : One P N ops M q r D k G S F i := One.mk h1 hq (Want.none rfl) rfl (ltN h2) he hl h
theorem Oa {i : Nat} (la : List Nat) {next : Value → List HProp → Prop} (h1 : ops[i]? = some ⟨none, op, t, p, a, none⟩) (he : EF P N G S F ⟨none, op, t, p, a, none⟩ next)
 (h : ∀ v S', next v S' → (∀ j ∈ la, Look P N ops G S' F j) ∧ Dw P N ops M q r (i :: D) k G S' F) (hq : q.testBit i = false := by kernel_rfl) (hl : agains M q r D i = la := by kernel_rfl) : One P N ops M q r D k G S F i := One.act h1 hq (Want.none rfl) rfl he hl h
theorem Dn (h : J N G S F k) (hall : allIn ops.size D = true := by kernel_rfl) : Dw P N ops M q r D k G S F := Dw.nil hall h
end
theorem Ze {P : Program} {N : Nat} {G : Env} {S : List HProp} {F : Fr} {o : Oper} {t t' : TypeId} {x y : Operand} {k : IntKind} {m n : Int} (h : o.op = .binOp .eql t x y t' ∧ opv G x = some (.int k m) ∧ opv G y = some (.int k n)) : QP P N G S F o (.bool (decide (m = n))) := QP.eql h.1 h.2.1 h.2.2
theorem Zq {P : Program} {N : Nat} {G : Env} {S : List HProp} {F : Fr} {o : Oper} {t t' : TypeId} {x y : Operand} {k : IntKind} {m n : Int} (h : o.op = .binOp .neq t x y t' ∧ opv G x = some (.int k m) ∧ opv G y = some (.int k n)) : QP P N G S F o (.bool (decide (m ≠ n))) := QP.neq h.1 h.2.1 h.2.2
theorem Zb {P : Program} {N : Nat} {G : Env} {S : List HProp} {F : Fr} {o : Oper} {t t' : TypeId} {x y : Operand} {k : IntKind} {m n : Int} (h : o.op = .binOp .lss t x y t' ∧ opv G x = some (.int k m) ∧ opv G y = some (.int k n)) : QP P N G S F o (.bool (decide (m < n))) := QP.lss h.1 h.2.1 h.2.2
theorem Zn {P : Program} {N : Nat} {G : Env} {S : List HProp} {F : Fr} {o : Oper} {x : Operand} {a : Addr} (h : o.op = .nilCheck x ∧ opv G x = some (.pointer (some a))) : QP P N G S F o (.pointer (some a)) := QP.nilCheck h.1 h.2
theorem Za {P : Program} {N : Nat} {G : Env} {S : List HProp} {F : Fr} {o : Oper} {t : TypeId} {x : Operand} {f n b off : Nat} (h : o.op = .fieldAddr t x f ∧ opv G x = some (.pointer (some ⟨b, off, none⟩))) (hf : FieldA P t f n) : QP P N G S F o (.pointer (some ⟨b, off + n, none⟩)) := QP.fieldAddr h.1 h.2 hf
theorem Zm {P : Program} {N : Nat} {G : Env} {S : List HProp} {F : Fr} {o : Oper} {x : Operand} {v : Value} (h : o.op = .move x ∧ opv G x = some v) : QP P N G S F o v := QP.move h.1 h.2
theorem Zg {P : Program} {N : Nat} {G : Env} {S : List HProp} {F : Fr} {o : Oper} {x : Operand} {v : Value} (h : o.op = .assign x ∧ opv G x = some v) : QP P N G S F o v := QP.assign h.1 h.2
theorem Zu {P : Program} {N : Nat} {G : Env} {S : List HProp} {F : Fr} {o : Oper} {t : TypeId} {x : Operand} {b : Bool} (h : o.op = .unOp .not t x ∧ opv G x = some (.bool b)) : QP P N G S F o (.bool !b) := QP.not h.1 h.2
theorem Zx {P : Program} {N : Nat} {G : Env} {S : List HProp} {F : Fr} {o : Oper} {x : Operand} {vs : Array Value} {i : Nat} {v : Value} (h : o.op = .extract x i ∧ opv G x = some (.tuple vs) ∧ vs[i]? = some v) : QP P N G S F o v := QP.extract h.1 h.2.1 h.2.2
theorem Z1 {P : Program} {N : Nat} {G : Env} {S : List HProp} {F : Fr} {o : Oper} {t : TypeId} {x : Operand} {b off : Nat} {l : List Value} {v : Value} {ty : TypeId} (h : o.op = .load t x ∧ opv G x = some (.pointer (some ⟨b, off, none⟩))) (ht : Sca P t) [hb : HasBlk b S l ty] (hs : SubL l off 1 [v]) : QR P N G S F o v := QR.load1 h.1 h.2 ht hs
theorem Z0 {P : Program} {N : Nat} {G : Env} {S : List HProp} {F : Fr} {o : Oper} {t : TypeId} {x : Operand} {b off : Nat} {l : List Value} {k : Nat} {s : List Value} {ty : TypeId} (h : o.op = .load t x ∧ opv G x = some (.pointer (some ⟨b, off, none⟩))) (ht : Agg P t k) [hb : HasBlk b S l ty] (hs : SubL l off k s) : QR P N G S F o (.agg s.toArray) := QR.load h.1 h.2 ht hs
theorem Zl {P : Program} {N : Nat} {K K1 : Posts} {G : Env} {S : List HProp} {F : Fr} {ops : Array Oper} {y : Code} (hk : ∀ G S, Run P N y K1 G S F → J N G S F K.n) (h : Run P N y K1 G S F) : Sq P N ops [] K G S F := Sq.nil (hk _ _ h)
theorem Zt {P : Program} {N : Nat} {K : Posts} {G : Env} {S : List HProp} {F : Fr} {c : Operand} {x y : Code} (h : Run P N x K G S F) (hc : opv G c = some (.bool true) := by rfl) : Run P N (.cond c x y) K G S F := Run.cond_t hc h
theorem Zf {P : Program} {N : Nat} {K : Posts} {G : Env} {S : List HProp} {F : Fr} {c : Operand} {x y : Code} (h : Run P N y K G S F) (hc : opv G c = some (.bool false) := by rfl) : Run P N (.cond c x y) K G S F := Run.cond_f hc h
theorem Zs {P : Program} {N : Nat} {K : Posts} {G : Env} {S : List HProp} {F : Fr} {id : Nat} {ops : Array Oper} {y : Code} (h : ∀ k : Act → World → Prop, (∀ G S, Run P N y K G S F → J N G S F k) → Sq P N ops (List.range ops.size) (K.setN k) G S F) : Run P N (.seq (.region id ops false) y) K G S F := Run.seq fun k hk => Run.region (h k hk)
theorem FM {α : Type} {p : α → Prop} {a : α} {l : List α} : (∀ x ∈ a :: l, p x) ↔ p a ∧ ∀ x ∈ l, p x := List.forall_mem_cons
theorem NO {α : Type} {p : α → Prop} : ∀ x ∈ ([] : List α), p x := fun _ h => (by cases h)
theorem N0 {α : Type} {p : α → Prop} {q : Prop} (h : q) : (∀ x ∈ ([] : List α), p x) ∧ q := ⟨NO, h⟩
theorem Je {P : Program} {N : Nat} {G : Env} {S : List HProp} {F : Fr} {fn : Func} {t : Nat} {v : Value} {R : Value → List HProp → Prop} (h : fn.results = #[.tmp t] ∧ lk G t = some v) (hR : R v []) : J N G S F (Ends P fn F R) := J.ends (res_tmp h.1 h.2) Takes.nil hR
theorem Lk {P : Program} {N : Nat} {G : Env} {S : List HProp} {F : Fr} {ops : Array Oper} {j : Nat} {o : Oper} {d : Nat} {v : Value} (h : ops[j]? = some o ∧ o.dst = some d ∧ lk G d = some v) (he : QR P N G S F o v) : Look P N ops G S F j := Look.mk h.1 h.2.1 h.2.2 he
theorem Zc {P : Program} {N : Nat} {G : Env} {S : List HProp} {F : Fr} {o : Oper} {f : FuncId} {args : Array Operand} {at_ : Array TypeId} {vs : List Value} {m r : List HProp} {R : Value → List HProp → Prop} (h : o.op = .call ⟨.value (.func f), args, at_⟩ ∧ opvs G args.toList = some vs) (hc : CanEnter P f) (t : Takes S m r) (hs : ∀ F' : Fr, PH.le F.h F'.h → (∀ b o, pts b o ∈ r → F'.h b = some o) → Spec P f vs.toArray m F' R) : EF P N G S F o fun v S' => ∃ S1, R v S1 ∧ S' = S1 ++ r := EF.call h.1 hc h.2 t hs
theorem TN {S : List HProp} : Takes S [] S := Takes.nil
theorem GE {α : Type} {l : List α} {i : Nat} (h : i < l.length) : l[i]? = some l[i] := List.getElem?_eq_getElem h
end Slb

/- Base 28: every table has its list in order; what is put in. -/
namespace Slb
open Go Go.Proofs
section
variable {K V : Type} [DecidableEq K] {key : V → K} {cf : V → V → Int} {M : List (K × V)} {L : List V}
end
end Slb

/- Base 51: a region that draws its order, where the ways meet again. -/
namespace Slb
open Go Go.Proofs
def sameSet (D E : List Nat) : Bool := D.all (fun i => E.any (Nat.beq i)) && E.all (fun i => D.any (Nat.beq i))
theorem sameSet_iff {D E : List Nat} (h : sameSet D E = true) (i : Nat) : i ∈ D ↔ i ∈ E := by
 unfold sameSet at h
 rw [Bool.and_eq_true, List.all_eq_true, List.all_eq_true] at h
 exact ⟨fun hi => any_beq (h.1 i hi), fun hi => any_beq (h.2 i hi)⟩
theorem RW.ext {P : Program} {ops : Array Oper} {M : List Nat} {q r : Nat} {Q : Act → World → Prop} {D E : List Nat} {a : Act} {w : World} (h : RW P ops M q r Q D a w) (hDE : ∀ i, i ∈ D ↔ i ∈ E) : RW P ops M q r Q E a w := fun X hX => by
 have hc : Clos P ops M q r Q fun D a w => ∀ E, (∀ i, i ∈ D ↔ i ∈ E) → X E a w := by
   have hcons : ∀ {D E : List Nat} (j : Nat), (∀ i, i ∈ D ↔ i ∈ E) → ∀ i, i ∈ j :: D ↔ i ∈ j :: E := fun j h i => by
     rw [List.mem_cons, List.mem_cons, h i]
   refine ⟨fun D a w h hq E hE => ?_, fun D a w i o d v h1 h2 h3 h4 h5 h6 h7 h8 h9 E hE => ?_, fun D a w i o d h1 h2 h3 h4 h5 h6 h7 h9 E hE => ?_, fun D a w h0 h E hE => ?_⟩
   · exact hX.done E a w (fun i hi => (hE i).1 (h i hi)) hq
   · exact hX.quiet E a w i o d v h1 (fun hm => h2 ((hE i).2 hm)) h3 (fun e he => (hE _).1 (h4 e he)) h5 h6 h7 h8 (h9 _ (hcons i hE))
   · exact hX.skip E a w i o d h1 (fun hm => h2 ((hE i).2 hm)) h3 (fun e he => (hE _).1 (h4 e he)) h5 h6 h7 (h9 _ (hcons i hE))
   · refine hX.effs E a w ?_ fun i o h1 h2 h3 => ?_
     · obtain ⟨i, hi, hn⟩ := h0
       exact ⟨i, hi, fun hm => hn ((hE i).2 hm)⟩
     · obtain ⟨a1, a2, a3⟩ := h i o h1 (fun hm => h2 ((hE i).1 hm)) (fun e he => (hE _).2 (h3 e he))
       refine ⟨a1, fun hw => (a2 hw).mono fun v w' x => ⟨fun j hj => x.1 j ((hE j).2 hj), x.2 _ (hcons i hE)⟩, fun hw => a3 hw _ (hcons i hE)⟩
 exact h _ hc E hDE
section
variable {P : Program} {N : Nat} {G : Env} {S : List HProp} {F : Fr} {ops : Array Oper} {M : List Nat} {q r : Nat} {D : List Nat} {k : Act → World → Prop}
/-- The way goes on from a state that is known. -/
theorem Dw.use {E : List Nat} {G' : Env} {m rest : List HProp} (t : Takes S m rest) (h : Dw P N ops M q r E k G' m F) (ag : G.agree G') (hD : sameSet E D = true := by kernel_rfl) : Dw P N ops M q r D k G S F := fun a w s =>
 RW.ext ((J.envJ (J.keep t h) ag) a w s) (sameSet_iff hD)
theorem Dw.memo1 {X0 : Type} (E : List Nat) (G1 : X0 → Env) (S1 : X0 → List HProp) (h : ∀ x0, Dw P N ops M q r E k (G1 x0) (S1 x0) F) (rest : (∀ x0, Dw P N ops M q r E k (G1 x0) (S1 x0) F) → Dw P N ops M q r D k G S F) : Dw P N ops M q r D k G S F := rest h
theorem Dw.memo2 {X0 X1 : Type} (E : List Nat) (G1 : X0 → X1 → Env) (S1 : X0 → X1 → List HProp) (h : ∀ x0 x1, Dw P N ops M q r E k (G1 x0 x1) (S1 x0 x1) F) (rest : (∀ x0 x1, Dw P N ops M q r E k (G1 x0 x1) (S1 x0 x1) F) → Dw P N ops M q r D k G S F) : Dw P N ops M q r D k G S F := rest h
theorem Dw.memo3 {X0 X1 X2 : Type} (E : List Nat) (G1 : X0 → X1 → X2 → Env) (S1 : X0 → X1 → X2 → List HProp) (h : ∀ x0 x1 x2, Dw P N ops M q r E k (G1 x0 x1 x2) (S1 x0 x1 x2) F) (rest : (∀ x0 x1 x2, Dw P N ops M q r E k (G1 x0 x1 x2) (S1 x0 x1 x2) F) → Dw P N ops M q r D k G S F) : Dw P N ops M q r D k G S F := rest h
theorem Dw.memo4 {X0 X1 X2 X3 : Type} (E : List Nat) (G1 : X0 → X1 → X2 → X3 → Env) (S1 : X0 → X1 → X2 → X3 → List HProp) (h : ∀ x0 x1 x2 x3, Dw P N ops M q r E k (G1 x0 x1 x2 x3) (S1 x0 x1 x2 x3) F) (rest : (∀ x0 x1 x2 x3, Dw P N ops M q r E k (G1 x0 x1 x2 x3) (S1 x0 x1 x2 x3) F) → Dw P N ops M q r D k G S F) : Dw P N ops M q r D k G S F := rest h
end
end Slb

/- Base 52: a map that may be nil. -/
namespace Slb
open Go Go.Proofs
section
variable {P : Program} {N : Nat} {G : Env} {S S1 : List HProp} {F : Fr} {o : Oper} {t kt et : TypeId} {x y : Operand} {it : Nat} {K V : Type} {ek : K → Value} {ev : V → Value} {M todo : List (K × V)} {cur : Option (K × V)} {w : Option Nat}
/-- What a map that may be nil holds. -/
def mapW (ek : K → Value) (ev : V → Value) : Option Nat → List (K × V) → HProp
 | none, M => fact (M = [])
 | some r, M => mapT ek ev r M
def rangeW (ek : K → Value) (ev : V → Value) : Option Nat → Nat → List (K × V) → List (K × V) → Option (K × V) → HProp
 | none, it, M, todo, cur => fun h => (M = [] ∧ todo = [] ∧ cur = none) ∧ pts it (.mapIter none 0 #[] 0) h
 | some r, it, M, todo, cur => rangeT ek ev r it M todo cur
theorem EF.rangeW (ho : o.op = .range t x) (hx : opv G x = some (.map w)) (hu : P.underlying t = some (.map kt et)) (pk : Pick S (mapW ek ev w M) S1) :
   EF P N G S F o fun u S' => ∃ it, u = .pointer (some ⟨it, 0, none⟩) ∧ S' = Slb.rangeW ek ev w it M M none :: S1 := by
 cases w with
 | some r => exact EF.range ho hx hu pk
 | none =>
   intro a w st
   obtain ⟨hM, s1⟩ := (st.sat.perm pk.perm).fact
   subst hM
   have s3 := s1.new (.mapIter none 0 #[] 0)
   refine estep_value (v := .pointer (some ⟨w.heap.size, 0, none⟩)) (w' := { w with heap := w.heap.push (.mapIter none 0 #[] 0) }) ?_ ⟨_, ⟨_, rfl, rfl⟩, ?_⟩
   · unfold execOp
     simp only [ho, st.eval hx, Instr.range, Sem.run_bind, run_underlying hu, Result.andThen_ok, Sem.run_pure]
     simp [newObj, Sem.run]
   · exact s3.head fun k hk => ⟨⟨rfl, rfl, rfl⟩, hk⟩
theorem J.rangeEndW {Φ : Act → World → Prop} (pk : Pick S (rangeW ek ev w it M todo cur) S1) (j : J N G (mapW ek ev w M :: S1) F Φ) : J N G S F Φ := by
 cases w with
 | some r => exact J.rangeEnd pk j
 | none =>
   refine j.conseq fun w s => ?_
   have s1 := s.perm pk.perm
   have s2 : Sat (Slb.fact (M = []) :: pts it (.mapIter none 0 #[] 0) :: S1) F w := by
     obtain ⟨a, b, c, d, k, ⟨h1, h2, e1, e2, ⟨⟨hM, _⟩, hh⟩, e4⟩, f, g⟩ := s1
     exact ⟨a, b, c, d, k, ⟨PH.none, _, PH.none_disj _, (PH.none_union _).symm, ⟨hM, rfl⟩, ⟨h1, h2, e1, e2, hh, e4⟩⟩, f, g⟩
   exact (s2.perm (List.Perm.swap _ _ _)).drop
theorem QR.entryW (ho : o.op = .entry x) (hx : opv G x = some (.pointer (some ⟨it, 0, none⟩))) {p : K × V} (hm : rangeW ek ev w it M todo (some p) ∈ S) : QR P N G S F o (.tuple #[ek p.1, ev p.2]) := by
 cases w with
 | some r =>
   have : HasRange it S K V ek ev r M todo (some p) := ⟨hm⟩
   exact QR.entry ho hx
 | none =>
   intro a w st
   obtain ⟨rr, hp⟩ := mem_perm hm
   obtain ⟨a, b, c, d, k, ⟨h1, h2, e1, e2, ⟨⟨_, _, hc⟩, _⟩, e4⟩, f, g⟩ := st.sat.perm hp
   cases hc
theorem EF.nextW (ho : o.op = .next x false) (hx : opv G x = some (.pointer (some ⟨it, 0, none⟩))) (pk : Pick S (Slb.rangeW ek ev w it M todo cur) S1) :
   EF P N G S F o fun u S' => (todo = [] ∧ u = .tuple #[.bool false] ∧ S' = Slb.rangeW ek ev w it M todo cur :: S1) ∨
     ∃ i p, todo[i]? = some p ∧ u = .tuple #[.bool true, ek p.1, ev p.2] ∧ S' = Slb.rangeW ek ev w it M (todo.eraseIdx i) (some p) :: S1 := by
 cases w with
 | some r => exact EF.next ho hx pk
 | none =>
   intro a w st
   have s0 := st.sat.perm pk.perm
   have h2 : (getObj it).run P w = .ok (.mapIter none 0 #[] 0) w ∧ todo = [] := by
     obtain ⟨a, b, c, d, k, ⟨h1, h2, e1, e2, ⟨⟨_, ht, _⟩, hh⟩, e4⟩, f, g⟩ := s0
     have s1 : Sat (pts it (.mapIter none 0 #[] 0) :: S1) F w := ⟨a, b, c, d, k, ⟨h1, h2, e1, e2, hh, e4⟩, f, g⟩
     exact ⟨by unfold getObj; simp [Sem.run, s1.at], ht⟩
   have hrun : (execOp a.eval o).run P w = .ok (.value (.tuple #[.bool false])) w := by
     unfold execOp
     simp only [ho, st.eval hx, Instr.next, Sem.run_bind, h2.1, Result.andThen_ok, Sem.run_pure]
   exact estep_value (v := .tuple #[.bool false]) (w' := w) hrun ⟨_, .inl ⟨h2.2, rfl, rfl⟩, s0⟩
variable [DecidableEq K]
theorem QR.lookupW (hk : KeyTy P kt K ek) (ho : o.op = .lookup t x y false) (hx : opv G x = some (.map w)) (hm : mapW ek ev w M ∈ S) {k : K} (hy : opv G y = some (ek k)) (hu : P.underlying t = some (.map kt et)) {zv : Value} (hz : Zero P et zv) :
   QR P N G S F o (((alook M k).map ev).getD zv) := by
 cases w with
 | some r =>
   have : HasMap r S K V ek ev M := ⟨hm⟩
   exact QR.lookup hk ho hx hy hu hz
 | none =>
   intro a w st
   obtain ⟨rr, hp⟩ := mem_perm hm
   obtain ⟨hM, _⟩ := (st.sat.perm hp).fact
   subst hM
   obtain ⟨lx, hlx⟩ := hk.lits k
   unfold execOp
   have hc := hk.law.check w (#[] : Array MapEntry).isEmpty hlx
   rcases run_find hk (es := #[]) (c := 0) (M := ([] : List (K × V))) (ev := ev) ⟨rfl, by simp, by simp, by simp⟩ k w with ⟨h1, h2⟩ | ⟨j, v, e, _, h3, _⟩
   · simp only [ho, st.eval hx, st.eval hy, Instr.lookup, Sem.run_bind, run_underlying hu, Result.andThen_ok, Sem.run_pure, hc, h2, hz w]
     rfl
   · cases h3
end
end Slb

/- Base 53: what a map's or a list's pointers lead to, whatever it is. -/
namespace Slb
open Go Go.Proofs
section
variable {K V : Type} [DecidableEq K] {A : Nat → V → HProp}
def rowsQ (A : Nat → V → HProp) (E : List (K × (Nat × V))) : HProp := stars (E.map fun e => A e.2.1 e.2.2)
theorem rowsQ_out {E : List (K × (Nat × V))} {k : K} {c : Nat} {s : V} (h : alook E k = some (c, s)) {p : PH} (hr : rowsQ A E p) : stars [A c s, rowsQ A (adel E k)] p := by
 obtain ⟨X, Y, rfl, hX⟩ := alook_split h
 rw [adel_split hX]
 unfold rowsQ at hr ⊢
 have hp : ((X ++ (k, (c, s)) :: Y).map fun e => A e.2.1 e.2.2).Perm (A c s :: (X ++ Y).map fun e => A e.2.1 e.2.2) := by
   simp only [List.map_append, List.map_cons]
   exact List.perm_middle
 exact star_mono (fun _ x => x) (fun _ x => star_emp x) (stars_perm hp hr)
theorem rowsQ_in {E : List (K × (Nat × V))} {k : K} {c : Nat} {s s' : V} (h : alook E k = some (c, s)) {p : PH} (hr : stars [A c s', rowsQ A (adel E k)] p) : rowsQ A (aset E k (c, s')) p := by
 obtain ⟨X, Y, rfl, hX⟩ := alook_split h
 rw [adel_split hX] at hr
 rw [aset_split hX]
 unfold rowsQ at hr ⊢
 have hp : (A c s' :: (X ++ Y).map fun e => A e.2.1 e.2.2).Perm ((X ++ (k, (c, s')) :: Y).map fun e => A e.2.1 e.2.2) := by
   simp only [List.map_append, List.map_cons]
   exact List.perm_middle.symm
 exact stars_perm hp (star_mono (fun _ x => x) (fun _ x => of_star_emp x) hr)
theorem aset_new {α : Type} {E : List (K × α)} {k : K} {v : α} (h : alook E k = none) : aset E k v = E ++ [(k, v)] := by
 induction E with
 | nil => rfl
 | cons e E ih =>
   obtain ⟨k', v'⟩ := e
   by_cases hk : k' = k
   · subst hk; simp [alook] at h
   · simp only [alook, hk, if_false] at h
     simp only [aset, hk, if_false, ih h, List.cons_append]
theorem rowsQ_new {E : List (K × (Nat × V))} {k : K} {c : Nat} {s : V} (h : alook E k = none) {p : PH} (hr : stars [A c s, rowsQ A E] p) : rowsQ A (aset E k (c, s)) p := by
 rw [aset_new h]
 unfold rowsQ at hr ⊢
 rw [List.map_append]
 exact stars_perm List.perm_append_comm (star_mono (fun _ x => x) (fun _ x => of_star_emp x) hr)
end
section
variable {V : Type} {A : Nat → V → HProp}
def rowsW (A : Nat → V → HProp) (L : List (Nat × V)) : HProp := stars (L.map fun e => A e.1 e.2)
theorem rowsW_at {L : List (Nat × V)} {i : Nat} {e : Nat × V} (h : L[i]? = some e) {p : PH} (hr : rowsW A L p) : stars [A e.1 e.2, rowsW A (L.eraseIdx i)] p := by
 obtain ⟨hlt, he⟩ := List.getElem?_eq_some_iff.1 h
 have e1 : L = L.take i ++ e :: L.drop (i + 1) := by rw [← he]; simp
 have e2 : L.eraseIdx i = L.take i ++ L.drop (i + 1) := List.eraseIdx_eq_take_drop_succ ..
 rw [e2]
 unfold rowsW at hr ⊢
 rw [e1] at hr
 have hp : ((L.take i ++ e :: L.drop (i + 1)).map fun e => A e.1 e.2).Perm (A e.1 e.2 :: (L.take i ++ L.drop (i + 1)).map fun e => A e.1 e.2) := by
   simp only [List.map_append, List.map_cons]
   exact List.perm_middle
 exact star_mono (fun _ x => x) (fun _ x => star_emp x) (stars_perm hp hr)
theorem rowsW_back {L : List (Nat × V)} {i : Nat} {e : Nat × V} (h : L[i]? = some e) {x : V} {p : PH} (hr : stars [A e.1 x, rowsW A (L.eraseIdx i)] p) : rowsW A (L.set i (e.1, x)) p := by
 obtain ⟨hlt, he⟩ := List.getElem?_eq_some_iff.1 h
 have e2 : L.eraseIdx i = L.take i ++ L.drop (i + 1) := List.eraseIdx_eq_take_drop_succ ..
 have e3 : L.set i (e.1, x) = L.take i ++ (e.1, x) :: L.drop (i + 1) := by rw [List.set_eq_take_append_cons_drop, if_pos hlt]
 rw [e2] at hr
 rw [e3]
 unfold rowsW at hr ⊢
 have hp : (A e.1 x :: (L.take i ++ L.drop (i + 1)).map fun e => A e.1 e.2).Perm ((L.take i ++ (e.1, x) :: L.drop (i + 1)).map fun e => A e.1 e.2) := by
   simp only [List.map_append, List.map_cons]
   exact List.perm_middle.symm
 exact stars_perm hp (star_mono (fun _ x => x) (fun _ x => of_star_emp x) hr)
theorem rowsW_snoc {L : List (Nat × V)} {b : Nat} {x : V} {p : PH} (hr : stars [A b x, rowsW A L] p) : rowsW A (L ++ [(b, x)]) p := by
 unfold rowsW at hr ⊢
 rw [List.map_append]
 exact stars_perm List.perm_append_comm (star_mono (fun _ x => x) (fun _ x => of_star_emp x) hr)
end
end Slb

/- Base 25: ranges over functions: a round of a loop, what yield does, the statement itself, a function that holds one. -/
namespace Slb
open Go
section
variable {P : Program} {N : Nat} {G : Env} {S : List HProp} {F : Fr}
/-- A fence that lets everything in. -/
structure Open (W : Fence) : Prop where
 fn : ∀ f, W.fn f
 depth : W.depth = none
 calls : ∀ {n P f args w R}, Calls P f args w R → CallsIn W n P f args w R
 rows : ∀ {n P row args w R}, Rows P row args w R → RowsIn W n P row args w R
theorem calls_wide {n : Nat} {P : Program} {f : FuncId} {args : Array Value} {w : World} {R : Ending → World → Prop} (h : Calls P f args w R) : CallsIn Fence.wide n P f args w R := callsIn_wide.2 h
theorem rows_wide {n : Nat} {P : Program} {row : String} {args : Array Value} {w : World} {R : Value → World → Prop} (h : Rows P row args w R) : RowsIn Fence.wide n P row args w R := fun c cs _ => by
 obtain ⟨v, w', r, s⟩ := h c cs
 exact ⟨v, w', r, stepsIn_wide.2 s⟩
theorem open_wide : Open Fence.wide := ⟨fun _ => trivial, rfl, calls_wide, rows_wide⟩
theorem open_round (l : Nat) : Open (Fence.wide.inRound l) := ⟨fun _ => trivial, rfl, fun h => calls_wide h, fun h => rows_wide h⟩

theorem EStep.wpIn {W : Fence} (hW : Open W) {n : Nat} {o : Oper} {a : Act} {w : World} {next : Value → World → Prop} {K : Act → World → Prop} {Q : Exit → Act → World → Prop} (hd : ∀ c, o.op ≠ .defer c)
   (h : EStep P o a w next) (hk : ∀ v w', next v w' → K (a.put o.dst v) w') : o.wpIn W n P a w K Q := by
 refine ⟨fun f _ => hW.fn f, ?_⟩
 rw [Oper.semAt_eq _ _ _ hd]
 unfold EStep at h
 unfold Oper.uponIn
 split at h
 · rename_i v w' e; simp only [e]; exact hk _ _ h
 · rename_i w' e; simp only [e]; exact hk _ _ h
 · rename_i f args w' e
   simp only [e]
   refine ⟨fun hx => (by rw [hW.depth] at hx; cases hx), (hW.calls h).mono fun e' w'' r => ?_⟩
   cases e' with
   | returned v => exact hk _ _ r
   | panicked c => exact r.elim
   | outgrown => exact r.elim
 · rename_i row args w' e
   simp only [e]
   exact ⟨fun hx => (by rw [hW.depth] at hx; cases hx), (hW.rows h).mono fun v w'' r => hk _ _ r⟩
 · exact h.elim
/-- A region in the text's order, behind a fence. -/
def SqI (P : Program) (W : Fence) (N : Nat) (ops : Array Oper) (l : List Nat) (Q : Exit → Act → World → Prop) (G : Env) (S : List HProp) (F : Fr) : Prop := J N G S F (wpOpsIn W 0 P ops Q l)
theorem SqI.nil {W : Fence} {ops : Array Oper} {Q : Exit → Act → World → Prop} (h : J N G S F (Q .normal)) : SqI P W N ops [] Q G S F := h
theorem SqI.eff {W : Fence} (hW : Open W) {ops : Array Oper} {Q : Exit → Act → World → Prop} {i : Nat} {l : List Nat} {o : Oper} {d : Nat} {next : Value → List HProp → Prop} (ho : ops[i]? = some o) (hdf : ∀ c, o.op ≠ .defer c) (hw : Want N G S F ops o true) (hd : o.dst = some d) (hn : d < N)
   (he : EF P N G S F o next) (h : ∀ v S', next v S' → SqI P W N ops l Q (.cons d v G) S' F) : SqI P W N ops (i :: l) Q G S F := fun a w s => by
 have hw' : Region.wanted o (yielded ops a.tmps) = true := hw a w s
 simp only [wpOpsIn, ho, hw', if_true]
 refine EStep.wpIn hW hdf (he a w s) fun v w' ⟨S', hv, hs⟩ => ?_
 rw [hd]
 exact h v S' hv _ _ (s.put hn v hs)
theorem SqI.act {W : Fence} (hW : Open W) {ops : Array Oper} {Q : Exit → Act → World → Prop} {i : Nat} {l : List Nat} {o : Oper} {next : Value → List HProp → Prop} (ho : ops[i]? = some o) (hdf : ∀ c, o.op ≠ .defer c) (hw : Want N G S F ops o true) (hd : o.dst = none)
   (he : EF P N G S F o next) (h : ∀ v S', next v S' → SqI P W N ops l Q G S' F) : SqI P W N ops (i :: l) Q G S F := fun a w s => by
 have hw' : Region.wanted o (yielded ops a.tmps) = true := hw a w s
 simp only [wpOpsIn, ho, hw', if_true]
 refine EStep.wpIn hW hdf (he a w s) fun v w' ⟨S', hv, hs⟩ => ?_
 rw [hd]
 exact h v S' hv _ _ (s.world hs)
theorem SqI.quiet {W : Fence} (hW : Open W) {ops : Array Oper} {Q : Exit → Act → World → Prop} {i : Nat} {l : List Nat} {o : Oper} {d : Nat} {v : Value} (ho : ops[i]? = some o) (hdf : ∀ c, o.op ≠ .defer c) (hw : Want N G S F ops o true) (hd : o.dst = some d) (hn : d < N)
   (he : QR P N G S F o v) (h : SqI P W N ops l Q (.cons d v G) S F) : SqI P W N ops (i :: l) Q G S F :=
 SqI.eff hW ho hdf hw hd hn he.eff (by rintro _ _ ⟨rfl, rfl⟩; exact h)
/-- What a call of yield does to the round's caller: the round's atoms turn from S to S'; on it goes. -/
def Yields (P : Program) (l : Nat) (v : Value) (S : List HProp) (F : Fr) (S' : List HProp) : Prop :=
 ∀ w, Sat S F w → YieldAt Fence.wide 0 P l #[v] w fun e w' => e = .returned (.bool true) ∧ Sat S' F w'
/-- A call of yield. -/
theorem SqI.yield {ops : Array Oper} {Q : Exit → Act → World → Prop} {i : Nat} {l : List Nat} {o : Oper} {d : Nat} {x y : Operand} {at_ : Array TypeId} {lp : Nat} {v : Value} {m m' r : List HProp} (ho : ops[i]? = some o) (hw : Want N G S F ops o true) (hd : o.dst = some d) (hn : d < N)
   (hop : o.op = .call ⟨.value x, #[y], at_⟩) (hx : opv G x = some (.func (.yield lp) #[] #[])) (hy : opv G y = some v) (t : Takes S m r)
   (hs : ∀ F' : Fr, PH.le F.h F'.h → Yields P lp v m F' m')
   (h : SqI P Fence.wide N ops l Q (.cons d (.bool true) G) (m' ++ r) F) : SqI P Fence.wide N ops (i :: l) Q G S F := fun a w s => by
 have hw' : Region.wanted o (yielded ops a.tmps) = true := hw a w s
 simp only [wpOpsIn, ho, hw', if_true]
 obtain ⟨F', s1, hle, hr, back⟩ := (s.sat.takes t).lend
 obtain ⟨fn, tmps, assign, body, hrun, hR⟩ := hs F' hle w s1
 refine ⟨fun f _ => trivial, ?_⟩
 rw [Oper.semAt_eq _ _ _ (fun c hc => by rw [hop] at hc; cases hc)]
 have hrun' : (execOp a.eval o).run P w = .ok (.round lp fn tmps assign body) w := by
   unfold execOp
   simp only [hop, resolve, s.eval hx, Deferred.ofValue]
   simp [Sem.run_bind, Go.invoke, s.eval hy, hrun, Result.andThen]
 rw [hrun']
 refine ⟨fun hx => (by cases hx), hR.mono fun e w' ⟨he, hs'⟩ => ?_⟩
 subst he
 rw [hd]
 exact h _ _ (s.put hn _ (back _ _ hs'))
theorem Run.regionY {id : Nat} {ops : Array Oper} {K : Posts} (h : SqI P Fence.wide N ops (List.range ops.size) K.q G S F) : Run P N (.region id ops false) K G S F := fun a w s => wpIn_wide.1 (wpIn_region (n := 0) (h a w s))

theorem Sat.putObj {b : Nat} {o : Obj} {w : World} (s : Sat (pts b o :: S) F w) (o' : Obj) : Sat (pts b o' :: S) F (w.putObj b o') :=
 s.set o' rfl rfl ⟨rfl, Nat.le_refl _⟩ (World.putObj_heap_same (Array.getElem?_eq_some_iff.1 s.at).1) fun _ hc => World.putObj_heap_other hc
/-- A loop's record. -/
abbrev lrec (fn : FuncId) (tmps : Array Value) (p : Tmp) (assign body : Code) (D : Nat) : Loop := { state := .ready, pending := none, fn, tmps, params := #[p], assign, body, defers := D }
/-- A round of the loop l: yield does what the body does. The loop's variable lies in a block. -/
theorem yields_of {l : Nat} {fn : FuncId} {tmps : Array Value} {p : Nat} {assign body : Code} {D : Nat} {v : Value} {G0 : Env} {A1 : Nat → HProp} {S' : List HProp} (d : Nat) (hsz : tmps.size = N) (hp : p < N) (hG : ∀ t u, lk G0 t = some u → tmps[t]? = some u)
   (hass : ∀ (S : List HProp) (K : Act → World → Prop), (∀ b, J N (.cons d (.pointer (some ⟨b, 0, none⟩)) (.cons p v G0)) (A1 b :: S) F K) → J N (.cons p v G0) S F (assign.wpIn (Fence.wide.inRound l) 0 P (Exit.then K fun _ _ _ => False)))
   (hbody : ∀ (b : Nat) (A : HProp) (Q : Exit → Act → World → Prop), (∀ G2, J N G2 (A :: S') F (Q .normal)) → J N (.cons d (.pointer (some ⟨b, 0, none⟩)) (.cons p v G0)) (A1 b :: A :: S) F (body.wpIn (Fence.wide.inRound l) 0 P Q)) :
   Yields P l v (pts l (.loop (lrec fn tmps p assign body D)) :: S) F (pts l (.loop (lrec fn tmps p assign body D)) :: S') := fun w s => by
 refine ⟨fn, _, assign, body, run_yield s.at rfl, roundIn_of_wpIn trivial ?_⟩
 have st : St N G0 (pts l (.loop (lrec fn tmps p assign body D)) :: S) F { tmps := tmps, defers := [] } w := ⟨rfl, hsz, hG, s⟩
 have h1 := hass _ (fun a₁ w₁ => ∃ w₂, (Instr.beginRound l).run P w₁ = .ok () w₂ ∧ body.wpIn (Fence.wide.inRound l) 0 P (roundPost P l fun e w' => e = .returned (.bool true) ∧ Sat (pts l (.loop (lrec fn tmps p assign body D)) :: S') F w') a₁ w₂) ?_ _ _ (st.put hp v s)
 · simpa [Act.put] using h1
 · intro b a₁ w₁ s₁
   have s₂ := s₁.sat.perm (List.Perm.swap _ _ _)
   refine ⟨_, run_beginRound s₂.at rfl, ?_⟩
   refine hbody b _ _ (fun G2 a₂ w₂ s₂ => ?_) _ _ (s₁.world ((s₂.putObj _).perm (List.Perm.swap _ _ _)))
   exact ⟨_, _, run_endRound none s₂.sat.at, rfl, s₂.sat.putObj _⟩
theorem Yields.flat {l : Nat} {v : Value} {L L' : List HProp} (h : Yields P l v L F L') : Yields P l v [stars L] F [stars L'] := fun w s => by
 have s1 : Sat L F w := by simpa using Sat.flat s
 obtain ⟨fn, tmps, assign, body, hr, hR⟩ := h w s1
 exact ⟨fn, tmps, assign, body, hr, hR.mono fun e w' ⟨h1, h2⟩ => ⟨h1, Sat.unflat (by simpa using h2)⟩⟩
theorem Spec.conseq {f : FuncId} {args : Array Value} {S1 : List HProp} {R R1 : Value → List HProp → Prop} (hp : ∀ w, Sat S F w → Sat S1 F w) (h : Spec P f args S1 F R1) (hr : ∀ v S' w, R1 v S' → Sat S' F w → ∃ S2, R v S2 ∧ Sat S2 F w) : Spec P f args S F R := fun w s =>
 (h w (hp w s)).mono fun e w' ⟨v, S', he, r, s'⟩ => by
   obtain ⟨S2, r2, s2⟩ := hr v S' w' r s'
   exact ⟨v, S2, he, r2, s2⟩
/-- The statement itself: over a function that has its contract against whatever round. -/
theorem range_over {g : Operand} {p : Tmp} {assign body : Code} {Q : Exit → Act → World → Prop} {gf : FuncId} {lb : Array Value} {X : Type} {T : X → List HProp} (hg : opv G g = some (.func (.func gf) #[] lb)) (hc : CanEnter P gf)
   (hseq : ∀ (F' : Fr) (fn : FuncId) (tmps : Array Value) (l D : Nat), PH.le F.h F'.h → tmps.size = N → (∀ t u, lk G t = some u → tmps[t]? = some u) →
     Spec P gf (#[.func (.yield l) #[] #[]] ++ lb) (pts l (.loop (lrec fn tmps p assign body D)) :: S) F' fun _ S' => ∃ x, S' = pts l (.loop (lrec fn tmps p assign body D)) :: T x)
   (hQ : ∀ (D : Nat) (x : X) (a : Act) (w : World), St N G (pts D (.deferred (some [])) :: T x) F a w → Q .normal { a with defers := [{ target := .collected D, args := #[] }] } w) :
   J N G S F fun a w => (Code.rangeFunc g #[p] assign body).wpIn Fence.wide 0 P Q a w := fun a w s => by
 refine wpIn_rangeFunc fun fn _ => ?_
 have h0 : (Instr.enterLoop fn a.tmps #[p] assign body Fence.wide.round).run P w = .ok (w.heap.size + 1, [{ target := .collected w.heap.size, args := #[] }]) ((w.alloc (.deferred (some []))).alloc (.loop (lrec fn a.tmps p assign body w.heap.size))) := run_enterLoop_outer _ _ _ _ _
 generalize hW1 : (w.alloc (.deferred (some []))).alloc (.loop (lrec fn a.tmps p assign body w.heap.size)) = W1 at h0
 have h1 : (resolve a.eval (rangeCall g (w.heap.size + 1)) 0).run P W1 = .ok { target := .fn (.func gf) lb, args := #[.func (.yield (w.heap.size + 1)) #[] #[]] } W1 := by
   simp only [resolve, s.eval hg]
   simp [go_sem]
 have h2 : (Go.invoke (.fn (.func gf) lb) #[.func (.yield (w.heap.size + 1)) #[] #[]]).run P W1 = .ok (.enter gf (#[.func (.yield (w.heap.size + 1)) #[] #[]] ++ lb)) W1 := by
   simp only [Go.invoke]
   exact run_enter hc _ _
 refine ⟨_, _, W1, _, W1, gf, _, W1, h0, h1, fun _ _ => True.intro, h2, fun h => (by cases h), ?_⟩
 subst hW1
 · refine calls_wide ?_
   have s1 := s.sat.new (.deferred (some []))
   have s2 := s1.new (.loop (lrec fn a.tmps p assign body w.heap.size))
   have s3 : Sat ([pts (w.heap.size + 1) (.loop (lrec fn a.tmps p assign body w.heap.size))] ++ S ++ [pts w.heap.size (.deferred (some []))]) F ((w.alloc (.deferred (some []))).alloc (.loop (lrec fn a.tmps p assign body w.heap.size))) := by
     refine Sat.perm ?_ (by have h := s2; simp only [Array.size_push] at h; exact h)
     simp only [List.cons_append, List.nil_append]
     exact (List.perm_append_comm (l₁ := [_]) (l₂ := S)).cons _
   obtain ⟨F', s4, hle, hr, back⟩ := Sat.lend (m := pts (w.heap.size + 1) (.loop (lrec fn a.tmps p assign body w.heap.size)) :: S) (by simpa using s3)
   refine (hseq F' fn a.tmps (w.heap.size + 1) w.heap.size hle s.size s.slots _ s4).mono fun e w' ⟨v, S', he, ⟨x, hx⟩, s'⟩ => ?_
   subst he hx
   have s5 := back _ _ s'
   refine ⟨_, _, run_endLoop s5.at (fun h => by cases h), ?_⟩
   have s6 := (s5.putObj (.loop { lrec fn a.tmps p assign body w.heap.size with state := .exhausted })).drop
   rw [s.defers]
   refine hQ w.heap.size x a _ ⟨s.defers, s.size, s.slots, Sat.perm ?_ s6⟩
   exact List.perm_append_comm (l₁ := T x) (l₂ := [_])
theorem RunI.seq {W : Fence} {x y : Code} {Q : Exit → Act → World → Prop} (h : ∀ k : Act → World → Prop, (∀ a w, y.wpIn W 0 P Q a w → k a w) → J N G S F (x.wpIn W 0 P (Exit.then k Q))) : J N G S F ((Code.seq x y).wpIn W 0 P Q) := fun a w s =>
 wpIn_seq_k fun K hK => h K hK a w s
theorem RunI.region {W : Fence} {id : Nat} {ops : Array Oper} {Q : Exit → Act → World → Prop} (h : SqI P W N ops (List.range ops.size) Q G S F) : J N G S F ((Code.region id ops false).wpIn W 0 P Q) := fun a w s => wpIn_region (h a w s)
theorem RunI.block {W : Fence} {id : Nat} {c : Code} {Q : Exit → Act → World → Prop} (h : J N G S F (c.wpIn W 0 P (Exit.inBlock id Q))) : J N G S F ((Code.block id c).wpIn W 0 P Q) := fun a w s => wpIn_block (h a w s)
/-- A region's quiet steps where calls are put off. -/
theorem SqM.quiet {W : Fence} (hW : Open W) {ds : List Deferred} {ops : Array Oper} {Q : Exit → Act → World → Prop} {i : Nat} {l : List Nat} {o : Oper} {d : Nat} {v : Value} (ho : ops[i]? = some o) (hdf : ∀ c, o.op ≠ .defer c) (hw : o.guard = none) (hd : o.dst = some d) (hn : d < N)
   (he : QR P N G S F o v) (h : J N (.cons d v G) S F fun a w => wpOpsIn W 0 P ops Q l { a with defers := ds } w) : J N G S F fun a w => wpOpsIn W 0 P ops Q (i :: l) { a with defers := ds } w := fun a w s => by
 have hw' : Region.wanted o (yielded ops a.tmps) = true := Want.none (N := N) (G := G) (S := S) (F := F) hw a w s
 simp only [wpOpsIn, ho, hw', if_true]
 refine ⟨fun f _ => hW.fn f, ?_⟩
 rw [Oper.semAt_eq _ _ _ hdf]
 have he' : (execOp a.eval o).run P w = .ok (.value v) w := he a w s
 rw [show execOp ({ a with defers := ds } : Act).eval o = execOp a.eval o from rfl, he']
 show wpOpsIn W 0 P ops Q l _ w
 rw [hd]
 exact h _ _ (s.put hn v s.sat)
/-- A function that ranges over a function. -/
theorem Spec.introM {f : FuncId} {fn : Func} {c : Code} {args : List Value} {R : Value → List HProp → Prop} (hf : P.funcs[f]? = some fn) (hb : fn.body = some c) (hN : fn.ntmps = N) (hl : args.length ≤ N)
   (h : ∀ Q : Exit → Act → World → Prop, (∀ (D : Nat) (G : Env) (S' : List HProp) (v : Value), (∀ a : Act, (∀ t u, lk G t = some u → a.tmps[t]? = some u) → ∀ w, (results fn a.tmps).run P w = .ok v w) → R v S' →
     J N G (pts D (.deferred (some [])) :: S') F fun a w => Q .ret { a with defers := [{ target := .collected D, args := #[] }] } w) → J N (initG args 0) S F (c.wpIn Fence.wide 0 P Q)) : Spec P f args.toArray S F R := fun w s => by
 refine callsIn_wide.1 (callsIn_of_wp_marks (n := 0) hf hb trivial (h _ ?_ _ w ⟨rfl, by simp [hN]; omega, fun t v e => ?_, s⟩))
 · intro D G S' v hv hR a w' s'
   have hv' := hv a s'.slots
   refine ⟨by simp, .inl ⟨D, _, rfl, run_takeDeferred s'.sat.at, v, hv' _, v, S', rfl, hR, (s'.sat.putObj _).drop⟩⟩
 · obtain ⟨_, h2⟩ := lk_initG e
   have hlt := (List.getElem?_eq_some_iff.1 h2).1
   simp only [Nat.sub_zero] at h2 hlt
   rw [Array.getElem?_append_left (by simpa using hlt)]
   simpa using h2
theorem resM {fn : Func} {t : Nat} {v : Value} (h : fn.results = #[.tmp t]) (hv : lk G t = some v) : ∀ a : Act, (∀ t u, lk G t = some u → a.tmps[t]? = some u) → ∀ w, (results fn a.tmps).run P w = .ok v w := fun a ha w => by
 have := ha t v hv
 simp [results, h, this, pure, Sem.run]
end
end Slb

/- Base 24: a list whose first rows are changed already. -/
namespace Slb
open Go Go.Proofs
section
variable {α : Type} {f : α → α} {L : List α} {i : Nat} {x : α}
/-- The first i are changed. -/
def mapTo (f : α → α) (i : Nat) (L : List α) : List α := (L.take i).map f ++ L.drop i
end
end Slb

/- Base 54: what a list's rows lead to, one by one. -/
namespace Slb
open Go Go.Proofs
section
variable {V : Type} {A : V → HProp}
def rowsV (A : V → HProp) (L : List V) : HProp := stars (L.map A)
theorem rowsV_at {L : List V} {i : Nat} {e : V} (h : L[i]? = some e) {p : PH} (hr : rowsV A L p) : stars [A e, rowsV A (L.eraseIdx i)] p := by
 obtain ⟨hlt, he⟩ := List.getElem?_eq_some_iff.1 h
 have e1 : L = L.take i ++ e :: L.drop (i + 1) := by rw [← he]; simp
 have e2 : L.eraseIdx i = L.take i ++ L.drop (i + 1) := List.eraseIdx_eq_take_drop_succ ..
 rw [e2]
 unfold rowsV at hr ⊢
 rw [e1] at hr
 have hp : ((L.take i ++ e :: L.drop (i + 1)).map A).Perm (A e :: (L.take i ++ L.drop (i + 1)).map A) := by
   simp only [List.map_append, List.map_cons]
   exact List.perm_middle
 exact star_mono (fun _ x => x) (fun _ x => star_emp x) (stars_perm hp hr)
theorem rowsV_back {L : List V} {i : Nat} {e : V} (h : L[i]? = some e) {x : V} {p : PH} (hr : stars [A x, rowsV A (L.eraseIdx i)] p) : rowsV A (L.set i x) p := by
 obtain ⟨hlt, he⟩ := List.getElem?_eq_some_iff.1 h
 have e2 : L.eraseIdx i = L.take i ++ L.drop (i + 1) := List.eraseIdx_eq_take_drop_succ ..
 have e3 : L.set i x = L.take i ++ x :: L.drop (i + 1) := by rw [List.set_eq_take_append_cons_drop, if_pos hlt]
 rw [e2] at hr
 rw [e3]
 unfold rowsV at hr ⊢
 have hp : (A x :: (L.take i ++ L.drop (i + 1)).map A).Perm ((L.take i ++ x :: L.drop (i + 1)).map A) := by
   simp only [List.map_append, List.map_cons]
   exact List.perm_middle.symm
 exact stars_perm hp (star_mono (fun _ x => x) (fun _ x => of_star_emp x) hr)
theorem rowsV_snoc {L : List V} {x : V} {p : PH} (hr : stars [A x, rowsV A L] p) : rowsV A (L ++ [x]) p := by
 unfold rowsV at hr ⊢
 rw [List.map_append]
 exact stars_perm List.perm_append_comm (star_mono (fun _ x => x) (fun _ x => of_star_emp x) hr)
end
end Slb

/- Base 41: a slice that came in is no longer than it has room for. -/
namespace Slb
open Go Go.Proofs
end Slb
