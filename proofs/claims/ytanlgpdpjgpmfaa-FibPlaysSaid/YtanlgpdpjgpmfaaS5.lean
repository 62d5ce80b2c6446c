/- S5: a part of the proof that a law of this package holds for every input; no condition. -/
import Derived.Test.YtanlgpdpjgpmfaaM2
namespace Slb
open Go
structure Prefix where
  a : Bs 16
  len : I64
deriving DecidableEq
namespace Prefix
def enc (x : Prefix) : List Value := [x.a.enc, [I64.v x.len]].flatten
/-- Its numbers are numbers of their kinds. -/
def WF (x : Prefix) : Prop := True ∧ True
theorem enc_len (x : Prefix) : x.enc.length = 17 := by simp [enc, Bs.len]
theorem enc_sub (x : Prefix) : SubL x.enc 0 17 x.enc := by have := SubL.all x.enc; rwa [enc_len] at this
theorem sub_a (x : Prefix) : SubL x.enc 0 16 (x.a.enc) := by have := seg_sub (segs := [x.a.enc, [I64.v x.len]]) (i := 0) rfl; simpa [enc, lens, Bs.len] using this
theorem set_a (x : Prefix) (v : Bs 16) : SetL x.enc 0 16 (v.enc) ({ x with a := v } : Prefix).enc := by have := seg_set (segs := [x.a.enc, [I64.v x.len]]) (i := 0) (s := v.enc) rfl (by simp [Bs.len]); simpa [enc, lens, Bs.len] using this
theorem sub_len (x : Prefix) : SubL x.enc 16 1 ([I64.v x.len]) := by have := seg_sub (segs := [x.a.enc, [I64.v x.len]]) (i := 1) rfl; simpa [enc, lens, Bs.len] using this
theorem set_len (x : Prefix) (v : I64) : SetL x.enc 16 1 ([I64.v v]) ({ x with len := v } : Prefix).enc := by have := seg_set (segs := [x.a.enc, [I64.v x.len]]) (i := 1) (s := [I64.v v]) rfl (by simp [Bs.len]); simpa [enc, lens, Bs.len] using this
theorem enc_cell (x : Prefix) : ∀ v ∈ x.enc, Value.cellB v = true := cells_flatten (cells_cons (Bs.cell x.a) (cells_cons (cell_one rfl) cells_nil))
def zero : Prefix := ⟨(Bs.zero 16), (⟨0, by omega⟩ : I64)⟩
def segs : List (List Value) := [zero.a.enc, [I64.v zero.len]]
theorem enc_inj {x y : Prefix} (h0 : x.enc = y.enc) : x = y := by
  obtain ⟨a0, a1⟩ := x
  obtain ⟨b0, b1⟩ := y
  simp only [enc, List.flatten_cons, List.flatten_nil, List.append_nil] at h0
  obtain ⟨e0, h1⟩ := List.append_inj h0 (by rw [Bs.len, Bs.len])
  obtain rfl := Bs.enc_inj e0
  obtain rfl := I64.inj (by simpa using h1)
  rfl
end Prefix
structure Pair where
  dst : Prefix
  src : Prefix
deriving DecidableEq
namespace Pair
def enc (x : Pair) : List Value := [x.dst.enc, x.src.enc].flatten
/-- Its numbers are numbers of their kinds. -/
def WF (x : Pair) : Prop := x.dst.WF ∧ x.src.WF
theorem enc_len (x : Pair) : x.enc.length = 34 := by simp [enc, Prefix.enc_len]
theorem enc_sub (x : Pair) : SubL x.enc 0 34 x.enc := by have := SubL.all x.enc; rwa [enc_len] at this
theorem sub_dst (x : Pair) : SubL x.enc 0 17 (x.dst.enc) := by have := seg_sub (segs := [x.dst.enc, x.src.enc]) (i := 0) rfl; simpa [enc, lens, Prefix.enc_len] using this
theorem set_dst (x : Pair) (v : Prefix) : SetL x.enc 0 17 (v.enc) ({ x with dst := v } : Pair).enc := by have := seg_set (segs := [x.dst.enc, x.src.enc]) (i := 0) (s := v.enc) rfl (by simp [Prefix.enc_len]); simpa [enc, lens, Prefix.enc_len] using this
theorem sub_src (x : Pair) : SubL x.enc 17 17 (x.src.enc) := by have := seg_sub (segs := [x.dst.enc, x.src.enc]) (i := 1) rfl; simpa [enc, lens, Prefix.enc_len] using this
theorem set_src (x : Pair) (v : Prefix) : SetL x.enc 17 17 (v.enc) ({ x with src := v } : Pair).enc := by have := seg_set (segs := [x.dst.enc, x.src.enc]) (i := 1) (s := v.enc) rfl (by simp [Prefix.enc_len]); simpa [enc, lens, Prefix.enc_len] using this
theorem enc_cell (x : Pair) : ∀ v ∈ x.enc, Value.cellB v = true := cells_flatten (cells_cons (Prefix.enc_cell x.dst) (cells_cons (Prefix.enc_cell x.src) cells_nil))
def zero : Pair := ⟨Prefix.zero, Prefix.zero⟩
def segs : List (List Value) := [zero.dst.enc, zero.src.enc]
theorem enc_inj {x y : Pair} (h0 : x.enc = y.enc) : x = y := by
  obtain ⟨a0, a1⟩ := x
  obtain ⟨b0, b1⟩ := y
  simp only [enc, List.flatten_cons, List.flatten_nil, List.append_nil] at h0
  obtain ⟨e0, h1⟩ := List.append_inj h0 (by rw [Prefix.enc_len, Prefix.enc_len])
  obtain rfl := Prefix.enc_inj e0
  obtain rfl := Prefix.enc_inj h1
  rfl
end Pair
structure Entry where
  pair : Pair
  if_ : I64
  hop : Bs 16
deriving DecidableEq
namespace Entry
def enc (x : Entry) : List Value := [x.pair.enc, [I64.v x.if_], x.hop.enc].flatten
/-- Its numbers are numbers of their kinds. -/
def WF (x : Entry) : Prop := x.pair.WF ∧ True ∧ True
theorem enc_len (x : Entry) : x.enc.length = 51 := by simp [enc, Bs.len, Pair.enc_len]
theorem enc_sub (x : Entry) : SubL x.enc 0 51 x.enc := by have := SubL.all x.enc; rwa [enc_len] at this
theorem sub_pair (x : Entry) : SubL x.enc 0 34 (x.pair.enc) := by have := seg_sub (segs := [x.pair.enc, [I64.v x.if_], x.hop.enc]) (i := 0) rfl; simpa [enc, lens, Bs.len, Pair.enc_len] using this
theorem set_pair (x : Entry) (v : Pair) : SetL x.enc 0 34 (v.enc) ({ x with pair := v } : Entry).enc := by have := seg_set (segs := [x.pair.enc, [I64.v x.if_], x.hop.enc]) (i := 0) (s := v.enc) rfl (by simp [Bs.len, Pair.enc_len]); simpa [enc, lens, Bs.len, Pair.enc_len] using this
theorem sub_if_ (x : Entry) : SubL x.enc 34 1 ([I64.v x.if_]) := by have := seg_sub (segs := [x.pair.enc, [I64.v x.if_], x.hop.enc]) (i := 1) rfl; simpa [enc, lens, Bs.len, Pair.enc_len] using this
theorem set_if_ (x : Entry) (v : I64) : SetL x.enc 34 1 ([I64.v v]) ({ x with if_ := v } : Entry).enc := by have := seg_set (segs := [x.pair.enc, [I64.v x.if_], x.hop.enc]) (i := 1) (s := [I64.v v]) rfl (by simp [Bs.len, Pair.enc_len]); simpa [enc, lens, Bs.len, Pair.enc_len] using this
theorem sub_hop (x : Entry) : SubL x.enc 35 16 (x.hop.enc) := by have := seg_sub (segs := [x.pair.enc, [I64.v x.if_], x.hop.enc]) (i := 2) rfl; simpa [enc, lens, Bs.len, Pair.enc_len] using this
theorem set_hop (x : Entry) (v : Bs 16) : SetL x.enc 35 16 (v.enc) ({ x with hop := v } : Entry).enc := by have := seg_set (segs := [x.pair.enc, [I64.v x.if_], x.hop.enc]) (i := 2) (s := v.enc) rfl (by simp [Bs.len, Pair.enc_len]); simpa [enc, lens, Bs.len, Pair.enc_len] using this
theorem enc_cell (x : Entry) : ∀ v ∈ x.enc, Value.cellB v = true := cells_flatten (cells_cons (Pair.enc_cell x.pair) (cells_cons (cell_one rfl) (cells_cons (Bs.cell x.hop) cells_nil)))
def zero : Entry := ⟨Pair.zero, (⟨0, by omega⟩ : I64), (Bs.zero 16)⟩
def segs : List (List Value) := [zero.pair.enc, [I64.v zero.if_], zero.hop.enc]
theorem enc_inj {x y : Entry} (h0 : x.enc = y.enc) : x = y := by
  obtain ⟨a0, a1, a2⟩ := x
  obtain ⟨b0, b1, b2⟩ := y
  simp only [enc, List.flatten_cons, List.flatten_nil, List.append_nil] at h0
  obtain ⟨e0, h1⟩ := List.append_inj h0 (by rw [Pair.enc_len, Pair.enc_len])
  obtain rfl := Pair.enc_inj e0
  obtain ⟨e1, h2⟩ := List.append_inj h1 (rfl)
  obtain rfl := I64.inj (by simpa using e1)
  obtain rfl := Bs.enc_inj h2
  rfl
end Entry
structure Op where
  kind : Int
  entry : Entry
deriving DecidableEq
namespace Op
def enc (x : Op) : List Value := [[.int .i64 x.kind], x.entry.enc].flatten
/-- Its numbers are numbers of their kinds. -/
def WF (x : Op) : Prop := (-9223372036854775808 ≤ x.kind ∧ x.kind ≤ 9223372036854775807) ∧ x.entry.WF
theorem enc_len (x : Op) : x.enc.length = 52 := by simp [enc, Entry.enc_len]
theorem enc_sub (x : Op) : SubL x.enc 0 52 x.enc := by have := SubL.all x.enc; rwa [enc_len] at this
theorem sub_kind (x : Op) : SubL x.enc 0 1 ([.int .i64 x.kind]) := by have := seg_sub (segs := [[.int .i64 x.kind], x.entry.enc]) (i := 0) rfl; simpa [enc, lens, Entry.enc_len] using this
theorem set_kind (x : Op) (v : Int) : SetL x.enc 0 1 ([.int .i64 v]) ({ x with kind := v } : Op).enc := by have := seg_set (segs := [[.int .i64 x.kind], x.entry.enc]) (i := 0) (s := [.int .i64 v]) rfl (by simp [Entry.enc_len]); simpa [enc, lens, Entry.enc_len] using this
theorem sub_entry (x : Op) : SubL x.enc 1 51 (x.entry.enc) := by have := seg_sub (segs := [[.int .i64 x.kind], x.entry.enc]) (i := 1) rfl; simpa [enc, lens, Entry.enc_len] using this
theorem set_entry (x : Op) (v : Entry) : SetL x.enc 1 51 (v.enc) ({ x with entry := v } : Op).enc := by have := seg_set (segs := [[.int .i64 x.kind], x.entry.enc]) (i := 1) (s := v.enc) rfl (by simp [Entry.enc_len]); simpa [enc, lens, Entry.enc_len] using this
theorem enc_cell (x : Op) : ∀ v ∈ x.enc, Value.cellB v = true := cells_flatten (cells_cons (cell_one rfl) (cells_cons (Entry.enc_cell x.entry) cells_nil))
def zero : Op := ⟨0, Entry.zero⟩
def segs : List (List Value) := [[.int .i64 zero.kind], zero.entry.enc]
theorem enc_inj {x y : Op} (h0 : x.enc = y.enc) : x = y := by
  obtain ⟨a0, a1⟩ := x
  obtain ⟨b0, b1⟩ := y
  simp only [enc, List.flatten_cons, List.flatten_nil, List.append_nil] at h0
  obtain ⟨e0, h1⟩ := List.append_inj h0 (rfl)
  obtain rfl : a0 = b0 := by simpa using e0
  obtain rfl := Entry.enc_inj h1
  rfl
end Op
structure Ref19Fib where
  h : Slc
  w : Slc
  f : Slc
  way : Op
  busy : Bool
namespace Ref19Fib
def enc (x : Ref19Fib) : List Value := [[Slc.v x.h], [Slc.v x.w], [Slc.v x.f], x.way.enc, [.bool x.busy]].flatten
/-- Its numbers are numbers of their kinds. -/
def WF (x : Ref19Fib) : Prop := True ∧ True ∧ True ∧ x.way.WF ∧ True
theorem enc_len (x : Ref19Fib) : x.enc.length = 56 := by simp [enc, Op.enc_len]
theorem enc_sub (x : Ref19Fib) : SubL x.enc 0 56 x.enc := by have := SubL.all x.enc; rwa [enc_len] at this
theorem sub_h (x : Ref19Fib) : SubL x.enc 0 1 ([Slc.v x.h]) := by have := seg_sub (segs := [[Slc.v x.h], [Slc.v x.w], [Slc.v x.f], x.way.enc, [.bool x.busy]]) (i := 0) rfl; simpa [enc, lens, Op.enc_len] using this
theorem set_h (x : Ref19Fib) (v : Slc) : SetL x.enc 0 1 ([Slc.v v]) ({ x with h := v } : Ref19Fib).enc := by have := seg_set (segs := [[Slc.v x.h], [Slc.v x.w], [Slc.v x.f], x.way.enc, [.bool x.busy]]) (i := 0) (s := [Slc.v v]) rfl (by simp [Op.enc_len]); simpa [enc, lens, Op.enc_len] using this
theorem sub_w (x : Ref19Fib) : SubL x.enc 1 1 ([Slc.v x.w]) := by have := seg_sub (segs := [[Slc.v x.h], [Slc.v x.w], [Slc.v x.f], x.way.enc, [.bool x.busy]]) (i := 1) rfl; simpa [enc, lens, Op.enc_len] using this
theorem set_w (x : Ref19Fib) (v : Slc) : SetL x.enc 1 1 ([Slc.v v]) ({ x with w := v } : Ref19Fib).enc := by have := seg_set (segs := [[Slc.v x.h], [Slc.v x.w], [Slc.v x.f], x.way.enc, [.bool x.busy]]) (i := 1) (s := [Slc.v v]) rfl (by simp [Op.enc_len]); simpa [enc, lens, Op.enc_len] using this
theorem sub_f (x : Ref19Fib) : SubL x.enc 2 1 ([Slc.v x.f]) := by have := seg_sub (segs := [[Slc.v x.h], [Slc.v x.w], [Slc.v x.f], x.way.enc, [.bool x.busy]]) (i := 2) rfl; simpa [enc, lens, Op.enc_len] using this
theorem set_f (x : Ref19Fib) (v : Slc) : SetL x.enc 2 1 ([Slc.v v]) ({ x with f := v } : Ref19Fib).enc := by have := seg_set (segs := [[Slc.v x.h], [Slc.v x.w], [Slc.v x.f], x.way.enc, [.bool x.busy]]) (i := 2) (s := [Slc.v v]) rfl (by simp [Op.enc_len]); simpa [enc, lens, Op.enc_len] using this
theorem sub_way (x : Ref19Fib) : SubL x.enc 3 52 (x.way.enc) := by have := seg_sub (segs := [[Slc.v x.h], [Slc.v x.w], [Slc.v x.f], x.way.enc, [.bool x.busy]]) (i := 3) rfl; simpa [enc, lens, Op.enc_len] using this
theorem set_way (x : Ref19Fib) (v : Op) : SetL x.enc 3 52 (v.enc) ({ x with way := v } : Ref19Fib).enc := by have := seg_set (segs := [[Slc.v x.h], [Slc.v x.w], [Slc.v x.f], x.way.enc, [.bool x.busy]]) (i := 3) (s := v.enc) rfl (by simp [Op.enc_len]); simpa [enc, lens, Op.enc_len] using this
theorem sub_busy (x : Ref19Fib) : SubL x.enc 55 1 ([.bool x.busy]) := by have := seg_sub (segs := [[Slc.v x.h], [Slc.v x.w], [Slc.v x.f], x.way.enc, [.bool x.busy]]) (i := 4) rfl; simpa [enc, lens, Op.enc_len] using this
theorem set_busy (x : Ref19Fib) (v : Bool) : SetL x.enc 55 1 ([.bool v]) ({ x with busy := v } : Ref19Fib).enc := by have := seg_set (segs := [[Slc.v x.h], [Slc.v x.w], [Slc.v x.f], x.way.enc, [.bool x.busy]]) (i := 4) (s := [.bool v]) rfl (by simp [Op.enc_len]); simpa [enc, lens, Op.enc_len] using this
theorem enc_cell (x : Ref19Fib) : ∀ v ∈ x.enc, Value.cellB v = true := cells_flatten (cells_cons (cell_one rfl) (cells_cons (cell_one rfl) (cells_cons (cell_one rfl) (cells_cons (Op.enc_cell x.way) (cells_cons (cell_one rfl) cells_nil)))))
def zero : Ref19Fib := ⟨Slc.zero, Slc.zero, Slc.zero, Op.zero, false⟩
def segs : List (List Value) := [[Slc.v zero.h], [Slc.v zero.w], [Slc.v zero.f], zero.way.enc, [.bool zero.busy]]
end Ref19Fib
structure Law19Act where
  kind : Int
  gap : Int
  l : Slc
  ok : Bool
namespace Law19Act
def enc (x : Law19Act) : List Value := [[.int .i64 x.kind], [.int .i64 x.gap], [Slc.v x.l], [.bool x.ok]].flatten
/-- Its numbers are numbers of their kinds. -/
def WF (x : Law19Act) : Prop := (-9223372036854775808 ≤ x.kind ∧ x.kind ≤ 9223372036854775807) ∧ (-9223372036854775808 ≤ x.gap ∧ x.gap ≤ 9223372036854775807) ∧ True ∧ True
theorem enc_len (x : Law19Act) : x.enc.length = 4 := by simp [enc]
theorem enc_sub (x : Law19Act) : SubL x.enc 0 4 x.enc := by have := SubL.all x.enc; rwa [enc_len] at this
theorem sub_kind (x : Law19Act) : SubL x.enc 0 1 ([.int .i64 x.kind]) := by have := seg_sub (segs := [[.int .i64 x.kind], [.int .i64 x.gap], [Slc.v x.l], [.bool x.ok]]) (i := 0) rfl; simpa [enc, lens] using this
theorem set_kind (x : Law19Act) (v : Int) : SetL x.enc 0 1 ([.int .i64 v]) ({ x with kind := v } : Law19Act).enc := by have := seg_set (segs := [[.int .i64 x.kind], [.int .i64 x.gap], [Slc.v x.l], [.bool x.ok]]) (i := 0) (s := [.int .i64 v]) rfl (by simp); simpa [enc, lens] using this
theorem sub_gap (x : Law19Act) : SubL x.enc 1 1 ([.int .i64 x.gap]) := by have := seg_sub (segs := [[.int .i64 x.kind], [.int .i64 x.gap], [Slc.v x.l], [.bool x.ok]]) (i := 1) rfl; simpa [enc, lens] using this
theorem set_gap (x : Law19Act) (v : Int) : SetL x.enc 1 1 ([.int .i64 v]) ({ x with gap := v } : Law19Act).enc := by have := seg_set (segs := [[.int .i64 x.kind], [.int .i64 x.gap], [Slc.v x.l], [.bool x.ok]]) (i := 1) (s := [.int .i64 v]) rfl (by simp); simpa [enc, lens] using this
theorem sub_l (x : Law19Act) : SubL x.enc 2 1 ([Slc.v x.l]) := by have := seg_sub (segs := [[.int .i64 x.kind], [.int .i64 x.gap], [Slc.v x.l], [.bool x.ok]]) (i := 2) rfl; simpa [enc, lens] using this
theorem set_l (x : Law19Act) (v : Slc) : SetL x.enc 2 1 ([Slc.v v]) ({ x with l := v } : Law19Act).enc := by have := seg_set (segs := [[.int .i64 x.kind], [.int .i64 x.gap], [Slc.v x.l], [.bool x.ok]]) (i := 2) (s := [Slc.v v]) rfl (by simp); simpa [enc, lens] using this
theorem sub_ok (x : Law19Act) : SubL x.enc 3 1 ([.bool x.ok]) := by have := seg_sub (segs := [[.int .i64 x.kind], [.int .i64 x.gap], [Slc.v x.l], [.bool x.ok]]) (i := 3) rfl; simpa [enc, lens] using this
theorem set_ok (x : Law19Act) (v : Bool) : SetL x.enc 3 1 ([.bool v]) ({ x with ok := v } : Law19Act).enc := by have := seg_set (segs := [[.int .i64 x.kind], [.int .i64 x.gap], [Slc.v x.l], [.bool x.ok]]) (i := 3) (s := [.bool v]) rfl (by simp); simpa [enc, lens] using this
theorem enc_cell (x : Law19Act) : ∀ v ∈ x.enc, Value.cellB v = true := cells_flatten (cells_cons (cell_one rfl) (cells_cons (cell_one rfl) (cells_cons (cell_one rfl) (cells_cons (cell_one rfl) cells_nil))))
def zero : Law19Act := ⟨0, 0, Slc.zero, false⟩
def segs : List (List Value) := [[.int .i64 zero.kind], [.int .i64 zero.gap], [Slc.v zero.l], [.bool zero.ok]]
end Law19Act
structure FibFib where
  has : Option Nat
  want : Option Nat
  failed : Option Nat
  way : Option Addr
namespace FibFib
def enc (x : FibFib) : List Value := [[.map x.has], [.map x.want], [.map x.failed], [.pointer x.way]].flatten
/-- Its numbers are numbers of their kinds. -/
def WF (x : FibFib) : Prop := True ∧ True ∧ True ∧ True
theorem enc_len (x : FibFib) : x.enc.length = 4 := by simp [enc]
theorem enc_sub (x : FibFib) : SubL x.enc 0 4 x.enc := by have := SubL.all x.enc; rwa [enc_len] at this
theorem sub_has (x : FibFib) : SubL x.enc 0 1 ([.map x.has]) := by have := seg_sub (segs := [[.map x.has], [.map x.want], [.map x.failed], [.pointer x.way]]) (i := 0) rfl; simpa [enc, lens] using this
theorem set_has (x : FibFib) (v : Option Nat) : SetL x.enc 0 1 ([.map v]) ({ x with has := v } : FibFib).enc := by have := seg_set (segs := [[.map x.has], [.map x.want], [.map x.failed], [.pointer x.way]]) (i := 0) (s := [.map v]) rfl (by simp); simpa [enc, lens] using this
theorem sub_want (x : FibFib) : SubL x.enc 1 1 ([.map x.want]) := by have := seg_sub (segs := [[.map x.has], [.map x.want], [.map x.failed], [.pointer x.way]]) (i := 1) rfl; simpa [enc, lens] using this
theorem set_want (x : FibFib) (v : Option Nat) : SetL x.enc 1 1 ([.map v]) ({ x with want := v } : FibFib).enc := by have := seg_set (segs := [[.map x.has], [.map x.want], [.map x.failed], [.pointer x.way]]) (i := 1) (s := [.map v]) rfl (by simp); simpa [enc, lens] using this
theorem sub_failed (x : FibFib) : SubL x.enc 2 1 ([.map x.failed]) := by have := seg_sub (segs := [[.map x.has], [.map x.want], [.map x.failed], [.pointer x.way]]) (i := 2) rfl; simpa [enc, lens] using this
theorem set_failed (x : FibFib) (v : Option Nat) : SetL x.enc 2 1 ([.map v]) ({ x with failed := v } : FibFib).enc := by have := seg_set (segs := [[.map x.has], [.map x.want], [.map x.failed], [.pointer x.way]]) (i := 2) (s := [.map v]) rfl (by simp); simpa [enc, lens] using this
theorem sub_way (x : FibFib) : SubL x.enc 3 1 ([.pointer x.way]) := by have := seg_sub (segs := [[.map x.has], [.map x.want], [.map x.failed], [.pointer x.way]]) (i := 3) rfl; simpa [enc, lens] using this
theorem set_way (x : FibFib) (v : Option Addr) : SetL x.enc 3 1 ([.pointer v]) ({ x with way := v } : FibFib).enc := by have := seg_set (segs := [[.map x.has], [.map x.want], [.map x.failed], [.pointer x.way]]) (i := 3) (s := [.pointer v]) rfl (by simp); simpa [enc, lens] using this
theorem enc_cell (x : FibFib) : ∀ v ∈ x.enc, Value.cellB v = true := cells_flatten (cells_cons (cell_one rfl) (cells_cons (cell_one rfl) (cells_cons (cell_one rfl) (cells_cons (cell_one rfl) cells_nil))))
def zero : FibFib := ⟨none, none, none, none⟩
def segs : List (List Value) := [[.map zero.has], [.map zero.want], [.map zero.failed], [.pointer zero.way]]
end FibFib
structure Ref19Wait where
  p : Pair
  until_ : Int
deriving DecidableEq
namespace Ref19Wait
def enc (x : Ref19Wait) : List Value := [x.p.enc, [.int .i64 x.until_]].flatten
/-- Its numbers are numbers of their kinds. -/
def WF (x : Ref19Wait) : Prop := x.p.WF ∧ (-9223372036854775808 ≤ x.until_ ∧ x.until_ ≤ 9223372036854775807)
theorem enc_len (x : Ref19Wait) : x.enc.length = 35 := by simp [enc, Pair.enc_len]
theorem enc_sub (x : Ref19Wait) : SubL x.enc 0 35 x.enc := by have := SubL.all x.enc; rwa [enc_len] at this
theorem sub_p (x : Ref19Wait) : SubL x.enc 0 34 (x.p.enc) := by have := seg_sub (segs := [x.p.enc, [.int .i64 x.until_]]) (i := 0) rfl; simpa [enc, lens, Pair.enc_len] using this
theorem set_p (x : Ref19Wait) (v : Pair) : SetL x.enc 0 34 (v.enc) ({ x with p := v } : Ref19Wait).enc := by have := seg_set (segs := [x.p.enc, [.int .i64 x.until_]]) (i := 0) (s := v.enc) rfl (by simp [Pair.enc_len]); simpa [enc, lens, Pair.enc_len] using this
theorem sub_until_ (x : Ref19Wait) : SubL x.enc 34 1 ([.int .i64 x.until_]) := by have := seg_sub (segs := [x.p.enc, [.int .i64 x.until_]]) (i := 1) rfl; simpa [enc, lens, Pair.enc_len] using this
theorem set_until_ (x : Ref19Wait) (v : Int) : SetL x.enc 34 1 ([.int .i64 v]) ({ x with until_ := v } : Ref19Wait).enc := by have := seg_set (segs := [x.p.enc, [.int .i64 x.until_]]) (i := 1) (s := [.int .i64 v]) rfl (by simp [Pair.enc_len]); simpa [enc, lens, Pair.enc_len] using this
theorem enc_cell (x : Ref19Wait) : ∀ v ∈ x.enc, Value.cellB v = true := cells_flatten (cells_cons (Pair.enc_cell x.p) (cells_cons (cell_one rfl) cells_nil))
def zero : Ref19Wait := ⟨Pair.zero, 0⟩
def segs : List (List Value) := [zero.p.enc, [.int .i64 zero.until_]]
theorem enc_inj {x y : Ref19Wait} (h0 : x.enc = y.enc) : x = y := by
  obtain ⟨a0, a1⟩ := x
  obtain ⟨b0, b1⟩ := y
  simp only [enc, List.flatten_cons, List.flatten_nil, List.append_nil] at h0
  obtain ⟨e0, h1⟩ := List.append_inj h0 (by rw [Pair.enc_len, Pair.enc_len])
  obtain rfl := Pair.enc_inj e0
  obtain rfl : a1 = b1 := by simpa using h1
  rfl
end Ref19Wait
end Slb
