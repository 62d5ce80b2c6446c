/- S4: a part of the proof that a law of this package holds for every input; no condition. -/
import Derived.Test.YtgcjmamfbcmccaaB13
namespace Slb
open Go
structure Prefix where
  a : Bs 16
  len : I64
deriving DecidableEq
namespace Prefix
def enc (x : Prefix) : List Value := [x.a.enc, [I64.v x.len]].flatten
/-- Its numbers are numbers of their kinds. -/
def WF (x : Prefix) : Prop := True ∧ True
theorem enc_len (x : Prefix) : x.enc.length = 17 := by simp [enc, Bs.len]
theorem enc_sub (x : Prefix) : SubL x.enc 0 17 x.enc := by have := SubL.all x.enc; rwa [enc_len] at this
theorem sub_a (x : Prefix) : SubL x.enc 0 16 (x.a.enc) := by have := seg_sub (segs := [x.a.enc, [I64.v x.len]]) (i := 0) rfl; simpa [enc, lens, Bs.len] using this
theorem set_a (x : Prefix) (v : Bs 16) : SetL x.enc 0 16 (v.enc) ({ x with a := v } : Prefix).enc := by have := seg_set (segs := [x.a.enc, [I64.v x.len]]) (i := 0) (s := v.enc) rfl (by simp [Bs.len]); simpa [enc, lens, Bs.len] using this
theorem sub_len (x : Prefix) : SubL x.enc 16 1 ([I64.v x.len]) := by have := seg_sub (segs := [x.a.enc, [I64.v x.len]]) (i := 1) rfl; simpa [enc, lens, Bs.len] using this
theorem set_len (x : Prefix) (v : I64) : SetL x.enc 16 1 ([I64.v v]) ({ x with len := v } : Prefix).enc := by have := seg_set (segs := [x.a.enc, [I64.v x.len]]) (i := 1) (s := [I64.v v]) rfl (by simp [Bs.len]); simpa [enc, lens, Bs.len] using this
theorem enc_cell (x : Prefix) : ∀ v ∈ x.enc, Value.cellB v = true := cells_flatten (cells_cons (Bs.cell x.a) (cells_cons (cell_one rfl) cells_nil))
def zero : Prefix := ⟨(Bs.zero 16), (⟨0, by omega⟩ : I64)⟩
def segs : List (List Value) := [zero.a.enc, [I64.v zero.len]]
theorem enc_inj {x y : Prefix} (h0 : x.enc = y.enc) : x = y := by
  obtain ⟨a0, a1⟩ := x
  obtain ⟨b0, b1⟩ := y
  simp only [enc, List.flatten_cons, List.flatten_nil, List.append_nil] at h0
  obtain ⟨e0, h1⟩ := List.append_inj h0 (by rw [Bs.len, Bs.len])
  obtain rfl := Bs.enc_inj e0
  obtain rfl := I64.inj (by simpa using h1)
  rfl
end Prefix
structure Pair where
  dst : Prefix
  src : Prefix
deriving DecidableEq
namespace Pair
def enc (x : Pair) : List Value := [x.dst.enc, x.src.enc].flatten
/-- Its numbers are numbers of their kinds. -/
def WF (x : Pair) : Prop := x.dst.WF ∧ x.src.WF
theorem enc_len (x : Pair) : x.enc.length = 34 := by simp [enc, Prefix.enc_len]
theorem enc_sub (x : Pair) : SubL x.enc 0 34 x.enc := by have := SubL.all x.enc; rwa [enc_len] at this
theorem sub_dst (x : Pair) : SubL x.enc 0 17 (x.dst.enc) := by have := seg_sub (segs := [x.dst.enc, x.src.enc]) (i := 0) rfl; simpa [enc, lens, Prefix.enc_len] using this
theorem set_dst (x : Pair) (v : Prefix) : SetL x.enc 0 17 (v.enc) ({ x with dst := v } : Pair).enc := by have := seg_set (segs := [x.dst.enc, x.src.enc]) (i := 0) (s := v.enc) rfl (by simp [Prefix.enc_len]); simpa [enc, lens, Prefix.enc_len] using this
theorem sub_src (x : Pair) : SubL x.enc 17 17 (x.src.enc) := by have := seg_sub (segs := [x.dst.enc, x.src.enc]) (i := 1) rfl; simpa [enc, lens, Prefix.enc_len] using this
theorem set_src (x : Pair) (v : Prefix) : SetL x.enc 17 17 (v.enc) ({ x with src := v } : Pair).enc := by have := seg_set (segs := [x.dst.enc, x.src.enc]) (i := 1) (s := v.enc) rfl (by simp [Prefix.enc_len]); simpa [enc, lens, Prefix.enc_len] using this
theorem enc_cell (x : Pair) : ∀ v ∈ x.enc, Value.cellB v = true := cells_flatten (cells_cons (Prefix.enc_cell x.dst) (cells_cons (Prefix.enc_cell x.src) cells_nil))
def zero : Pair := ⟨Prefix.zero, Prefix.zero⟩
def segs : List (List Value) := [zero.dst.enc, zero.src.enc]
theorem enc_inj {x y : Pair} (h0 : x.enc = y.enc) : x = y := by
  obtain ⟨a0, a1⟩ := x
  obtain ⟨b0, b1⟩ := y
  simp only [enc, List.flatten_cons, List.flatten_nil, List.append_nil] at h0
  obtain ⟨e0, h1⟩ := List.append_inj h0 (by rw [Prefix.enc_len, Prefix.enc_len])
  obtain rfl := Prefix.enc_inj e0
  obtain rfl := Prefix.enc_inj h1
  rfl
end Pair
structure Entry where
  pair : Pair
  if_ : I64
  hop : Bs 16
deriving DecidableEq
namespace Entry
def enc (x : Entry) : List Value := [x.pair.enc, [I64.v x.if_], x.hop.enc].flatten
/-- Its numbers are numbers of their kinds. -/
def WF (x : Entry) : Prop := x.pair.WF ∧ True ∧ True
theorem enc_len (x : Entry) : x.enc.length = 51 := by simp [enc, Bs.len, Pair.enc_len]
theorem enc_sub (x : Entry) : SubL x.enc 0 51 x.enc := by have := SubL.all x.enc; rwa [enc_len] at this
theorem sub_pair (x : Entry) : SubL x.enc 0 34 (x.pair.enc) := by have := seg_sub (segs := [x.pair.enc, [I64.v x.if_], x.hop.enc]) (i := 0) rfl; simpa [enc, lens, Bs.len, Pair.enc_len] using this
theorem set_pair (x : Entry) (v : Pair) : SetL x.enc 0 34 (v.enc) ({ x with pair := v } : Entry).enc := by have := seg_set (segs := [x.pair.enc, [I64.v x.if_], x.hop.enc]) (i := 0) (s := v.enc) rfl (by simp [Bs.len, Pair.enc_len]); simpa [enc, lens, Bs.len, Pair.enc_len] using this
theorem sub_if_ (x : Entry) : SubL x.enc 34 1 ([I64.v x.if_]) := by have := seg_sub (segs := [x.pair.enc, [I64.v x.if_], x.hop.enc]) (i := 1) rfl; simpa [enc, lens, Bs.len, Pair.enc_len] using this
theorem set_if_ (x : Entry) (v : I64) : SetL x.enc 34 1 ([I64.v v]) ({ x with if_ := v } : Entry).enc := by have := seg_set (segs := [x.pair.enc, [I64.v x.if_], x.hop.enc]) (i := 1) (s := [I64.v v]) rfl (by simp [Bs.len, Pair.enc_len]); simpa [enc, lens, Bs.len, Pair.enc_len] using this
theorem sub_hop (x : Entry) : SubL x.enc 35 16 (x.hop.enc) := by have := seg_sub (segs := [x.pair.enc, [I64.v x.if_], x.hop.enc]) (i := 2) rfl; simpa [enc, lens, Bs.len, Pair.enc_len] using this
theorem set_hop (x : Entry) (v : Bs 16) : SetL x.enc 35 16 (v.enc) ({ x with hop := v } : Entry).enc := by have := seg_set (segs := [x.pair.enc, [I64.v x.if_], x.hop.enc]) (i := 2) (s := v.enc) rfl (by simp [Bs.len, Pair.enc_len]); simpa [enc, lens, Bs.len, Pair.enc_len] using this
theorem enc_cell (x : Entry) : ∀ v ∈ x.enc, Value.cellB v = true := cells_flatten (cells_cons (Pair.enc_cell x.pair) (cells_cons (cell_one rfl) (cells_cons (Bs.cell x.hop) cells_nil)))
def zero : Entry := ⟨Pair.zero, (⟨0, by omega⟩ : I64), (Bs.zero 16)⟩
def segs : List (List Value) := [zero.pair.enc, [I64.v zero.if_], zero.hop.enc]
theorem enc_inj {x y : Entry} (h0 : x.enc = y.enc) : x = y := by
  obtain ⟨a0, a1, a2⟩ := x
  obtain ⟨b0, b1, b2⟩ := y
  simp only [enc, List.flatten_cons, List.flatten_nil, List.append_nil] at h0
  obtain ⟨e0, h1⟩ := List.append_inj h0 (by rw [Pair.enc_len, Pair.enc_len])
  obtain rfl := Pair.enc_inj e0
  obtain ⟨e1, h2⟩ := List.append_inj h1 (rfl)
  obtain rfl := I64.inj (by simpa using e1)
  obtain rfl := Bs.enc_inj h2
  rfl
end Entry
structure Op where
  kind : Int
  entry : Entry
deriving DecidableEq
namespace Op
def enc (x : Op) : List Value := [[.int .i64 x.kind], x.entry.enc].flatten
/-- Its numbers are numbers of their kinds. -/
def WF (x : Op) : Prop := (-9223372036854775808 ≤ x.kind ∧ x.kind ≤ 9223372036854775807) ∧ x.entry.WF
theorem enc_len (x : Op) : x.enc.length = 52 := by simp [enc, Entry.enc_len]
theorem enc_sub (x : Op) : SubL x.enc 0 52 x.enc := by have := SubL.all x.enc; rwa [enc_len] at this
theorem sub_kind (x : Op) : SubL x.enc 0 1 ([.int .i64 x.kind]) := by have := seg_sub (segs := [[.int .i64 x.kind], x.entry.enc]) (i := 0) rfl; simpa [enc, lens, Entry.enc_len] using this
theorem set_kind (x : Op) (v : Int) : SetL x.enc 0 1 ([.int .i64 v]) ({ x with kind := v } : Op).enc := by have := seg_set (segs := [[.int .i64 x.kind], x.entry.enc]) (i := 0) (s := [.int .i64 v]) rfl (by simp [Entry.enc_len]); simpa [enc, lens, Entry.enc_len] using this
theorem sub_entry (x : Op) : SubL x.enc 1 51 (x.entry.enc) := by have := seg_sub (segs := [[.int .i64 x.kind], x.entry.enc]) (i := 1) rfl; simpa [enc, lens, Entry.enc_len] using this
theorem set_entry (x : Op) (v : Entry) : SetL x.enc 1 51 (v.enc) ({ x with entry := v } : Op).enc := by have := seg_set (segs := [[.int .i64 x.kind], x.entry.enc]) (i := 1) (s := v.enc) rfl (by simp [Entry.enc_len]); simpa [enc, lens, Entry.enc_len] using this
theorem enc_cell (x : Op) : ∀ v ∈ x.enc, Value.cellB v = true := cells_flatten (cells_cons (cell_one rfl) (cells_cons (Entry.enc_cell x.entry) cells_nil))
def zero : Op := ⟨0, Entry.zero⟩
def segs : List (List Value) := [[.int .i64 zero.kind], zero.entry.enc]
theorem enc_inj {x y : Op} (h0 : x.enc = y.enc) : x = y := by
  obtain ⟨a0, a1⟩ := x
  obtain ⟨b0, b1⟩ := y
  simp only [enc, List.flatten_cons, List.flatten_nil, List.append_nil] at h0
  obtain ⟨e0, h1⟩ := List.append_inj h0 (rfl)
  obtain rfl : a0 = b0 := by simpa using e0
  obtain rfl := Entry.enc_inj h1
  rfl
end Op
structure Ref20Kernel where
  l : Slc
  i : Slc
  n : Int
namespace Ref20Kernel
def enc (x : Ref20Kernel) : List Value := [[Slc.v x.l], [Slc.v x.i], [.int .i64 x.n]].flatten
/-- Its numbers are numbers of their kinds. -/
def WF (x : Ref20Kernel) : Prop := True ∧ True ∧ (-9223372036854775808 ≤ x.n ∧ x.n ≤ 9223372036854775807)
theorem enc_len (x : Ref20Kernel) : x.enc.length = 3 := by simp [enc]
theorem enc_sub (x : Ref20Kernel) : SubL x.enc 0 3 x.enc := by have := SubL.all x.enc; rwa [enc_len] at this
theorem sub_l (x : Ref20Kernel) : SubL x.enc 0 1 ([Slc.v x.l]) := by have := seg_sub (segs := [[Slc.v x.l], [Slc.v x.i], [.int .i64 x.n]]) (i := 0) rfl; simpa [enc, lens] using this
theorem set_l (x : Ref20Kernel) (v : Slc) : SetL x.enc 0 1 ([Slc.v v]) ({ x with l := v } : Ref20Kernel).enc := by have := seg_set (segs := [[Slc.v x.l], [Slc.v x.i], [.int .i64 x.n]]) (i := 0) (s := [Slc.v v]) rfl (by simp); simpa [enc, lens] using this
theorem sub_i (x : Ref20Kernel) : SubL x.enc 1 1 ([Slc.v x.i]) := by have := seg_sub (segs := [[Slc.v x.l], [Slc.v x.i], [.int .i64 x.n]]) (i := 1) rfl; simpa [enc, lens] using this
theorem set_i (x : Ref20Kernel) (v : Slc) : SetL x.enc 1 1 ([Slc.v v]) ({ x with i := v } : Ref20Kernel).enc := by have := seg_set (segs := [[Slc.v x.l], [Slc.v x.i], [.int .i64 x.n]]) (i := 1) (s := [Slc.v v]) rfl (by simp); simpa [enc, lens] using this
theorem sub_n (x : Ref20Kernel) : SubL x.enc 2 1 ([.int .i64 x.n]) := by have := seg_sub (segs := [[Slc.v x.l], [Slc.v x.i], [.int .i64 x.n]]) (i := 2) rfl; simpa [enc, lens] using this
theorem set_n (x : Ref20Kernel) (v : Int) : SetL x.enc 2 1 ([.int .i64 v]) ({ x with n := v } : Ref20Kernel).enc := by have := seg_set (segs := [[Slc.v x.l], [Slc.v x.i], [.int .i64 x.n]]) (i := 2) (s := [.int .i64 v]) rfl (by simp); simpa [enc, lens] using this
theorem enc_cell (x : Ref20Kernel) : ∀ v ∈ x.enc, Value.cellB v = true := cells_flatten (cells_cons (cell_one rfl) (cells_cons (cell_one rfl) (cells_cons (cell_one rfl) cells_nil)))
def zero : Ref20Kernel := ⟨Slc.zero, Slc.zero, 0⟩
def segs : List (List Value) := [[Slc.v zero.l], [Slc.v zero.i], [.int .i64 zero.n]]
end Ref20Kernel
structure Law20Act where
  kind : Int
  op : Op
  n : Int
  src : Bs 16
  dst : Bs 16
deriving DecidableEq
namespace Law20Act
def enc (x : Law20Act) : List Value := [[.int .i64 x.kind], x.op.enc, [.int .i64 x.n], x.src.enc, x.dst.enc].flatten
/-- Its numbers are numbers of their kinds. -/
def WF (x : Law20Act) : Prop := (-9223372036854775808 ≤ x.kind ∧ x.kind ≤ 9223372036854775807) ∧ x.op.WF ∧ (-9223372036854775808 ≤ x.n ∧ x.n ≤ 9223372036854775807) ∧ True ∧ True
theorem enc_len (x : Law20Act) : x.enc.length = 86 := by simp [enc, Bs.len, Op.enc_len]
theorem enc_sub (x : Law20Act) : SubL x.enc 0 86 x.enc := by have := SubL.all x.enc; rwa [enc_len] at this
theorem sub_kind (x : Law20Act) : SubL x.enc 0 1 ([.int .i64 x.kind]) := by have := seg_sub (segs := [[.int .i64 x.kind], x.op.enc, [.int .i64 x.n], x.src.enc, x.dst.enc]) (i := 0) rfl; simpa [enc, lens, Bs.len, Op.enc_len] using this
theorem set_kind (x : Law20Act) (v : Int) : SetL x.enc 0 1 ([.int .i64 v]) ({ x with kind := v } : Law20Act).enc := by have := seg_set (segs := [[.int .i64 x.kind], x.op.enc, [.int .i64 x.n], x.src.enc, x.dst.enc]) (i := 0) (s := [.int .i64 v]) rfl (by simp [Bs.len, Op.enc_len]); simpa [enc, lens, Bs.len, Op.enc_len] using this
theorem sub_op (x : Law20Act) : SubL x.enc 1 52 (x.op.enc) := by have := seg_sub (segs := [[.int .i64 x.kind], x.op.enc, [.int .i64 x.n], x.src.enc, x.dst.enc]) (i := 1) rfl; simpa [enc, lens, Bs.len, Op.enc_len] using this
theorem set_op (x : Law20Act) (v : Op) : SetL x.enc 1 52 (v.enc) ({ x with op := v } : Law20Act).enc := by have := seg_set (segs := [[.int .i64 x.kind], x.op.enc, [.int .i64 x.n], x.src.enc, x.dst.enc]) (i := 1) (s := v.enc) rfl (by simp [Bs.len, Op.enc_len]); simpa [enc, lens, Bs.len, Op.enc_len] using this
theorem sub_n (x : Law20Act) : SubL x.enc 53 1 ([.int .i64 x.n]) := by have := seg_sub (segs := [[.int .i64 x.kind], x.op.enc, [.int .i64 x.n], x.src.enc, x.dst.enc]) (i := 2) rfl; simpa [enc, lens, Bs.len, Op.enc_len] using this
theorem set_n (x : Law20Act) (v : Int) : SetL x.enc 53 1 ([.int .i64 v]) ({ x with n := v } : Law20Act).enc := by have := seg_set (segs := [[.int .i64 x.kind], x.op.enc, [.int .i64 x.n], x.src.enc, x.dst.enc]) (i := 2) (s := [.int .i64 v]) rfl (by simp [Bs.len, Op.enc_len]); simpa [enc, lens, Bs.len, Op.enc_len] using this
theorem sub_src (x : Law20Act) : SubL x.enc 54 16 (x.src.enc) := by have := seg_sub (segs := [[.int .i64 x.kind], x.op.enc, [.int .i64 x.n], x.src.enc, x.dst.enc]) (i := 3) rfl; simpa [enc, lens, Bs.len, Op.enc_len] using this
theorem set_src (x : Law20Act) (v : Bs 16) : SetL x.enc 54 16 (v.enc) ({ x with src := v } : Law20Act).enc := by have := seg_set (segs := [[.int .i64 x.kind], x.op.enc, [.int .i64 x.n], x.src.enc, x.dst.enc]) (i := 3) (s := v.enc) rfl (by simp [Bs.len, Op.enc_len]); simpa [enc, lens, Bs.len, Op.enc_len] using this
theorem sub_dst (x : Law20Act) : SubL x.enc 70 16 (x.dst.enc) := by have := seg_sub (segs := [[.int .i64 x.kind], x.op.enc, [.int .i64 x.n], x.src.enc, x.dst.enc]) (i := 4) rfl; simpa [enc, lens, Bs.len, Op.enc_len] using this
theorem set_dst (x : Law20Act) (v : Bs 16) : SetL x.enc 70 16 (v.enc) ({ x with dst := v } : Law20Act).enc := by have := seg_set (segs := [[.int .i64 x.kind], x.op.enc, [.int .i64 x.n], x.src.enc, x.dst.enc]) (i := 4) (s := v.enc) rfl (by simp [Bs.len, Op.enc_len]); simpa [enc, lens, Bs.len, Op.enc_len] using this
theorem enc_cell (x : Law20Act) : ∀ v ∈ x.enc, Value.cellB v = true := cells_flatten (cells_cons (cell_one rfl) (cells_cons (Op.enc_cell x.op) (cells_cons (cell_one rfl) (cells_cons (Bs.cell x.src) (cells_cons (Bs.cell x.dst) cells_nil)))))
def zero : Law20Act := ⟨0, Op.zero, 0, (Bs.zero 16), (Bs.zero 16)⟩
def segs : List (List Value) := [[.int .i64 zero.kind], zero.op.enc, [.int .i64 zero.n], zero.src.enc, zero.dst.enc]
theorem enc_inj {x y : Law20Act} (h0 : x.enc = y.enc) : x = y := by
  obtain ⟨a0, a1, a2, a3, a4⟩ := x
  obtain ⟨b0, b1, b2, b3, b4⟩ := y
  simp only [enc, List.flatten_cons, List.flatten_nil, List.append_nil] at h0
  obtain ⟨e0, h1⟩ := List.append_inj h0 (rfl)
  obtain rfl : a0 = b0 := by simpa using e0
  obtain ⟨e1, h2⟩ := List.append_inj h1 (by rw [Op.enc_len, Op.enc_len])
  obtain rfl := Op.enc_inj e1
  obtain ⟨e2, h3⟩ := List.append_inj h2 (rfl)
  obtain rfl : a2 = b2 := by simpa using e2
  obtain ⟨e3, h4⟩ := List.append_inj h3 (by rw [Bs.len, Bs.len])
  obtain rfl := Bs.enc_inj e3
  obtain rfl := Bs.enc_inj h4
  rfl
end Law20Act
structure KernelKernel where
  own : Option Nat
  others : Option Nat
  fails : Int
namespace KernelKernel
def enc (x : KernelKernel) : List Value := [[.map x.own], [.map x.others], [.int .i64 x.fails]].flatten
/-- Its numbers are numbers of their kinds. -/
def WF (x : KernelKernel) : Prop := True ∧ True ∧ (-9223372036854775808 ≤ x.fails ∧ x.fails ≤ 9223372036854775807)
theorem enc_len (x : KernelKernel) : x.enc.length = 3 := by simp [enc]
theorem enc_sub (x : KernelKernel) : SubL x.enc 0 3 x.enc := by have := SubL.all x.enc; rwa [enc_len] at this
theorem sub_own (x : KernelKernel) : SubL x.enc 0 1 ([.map x.own]) := by have := seg_sub (segs := [[.map x.own], [.map x.others], [.int .i64 x.fails]]) (i := 0) rfl; simpa [enc, lens] using this
theorem set_own (x : KernelKernel) (v : Option Nat) : SetL x.enc 0 1 ([.map v]) ({ x with own := v } : KernelKernel).enc := by have := seg_set (segs := [[.map x.own], [.map x.others], [.int .i64 x.fails]]) (i := 0) (s := [.map v]) rfl (by simp); simpa [enc, lens] using this
theorem sub_others (x : KernelKernel) : SubL x.enc 1 1 ([.map x.others]) := by have := seg_sub (segs := [[.map x.own], [.map x.others], [.int .i64 x.fails]]) (i := 1) rfl; simpa [enc, lens] using this
theorem set_others (x : KernelKernel) (v : Option Nat) : SetL x.enc 1 1 ([.map v]) ({ x with others := v } : KernelKernel).enc := by have := seg_set (segs := [[.map x.own], [.map x.others], [.int .i64 x.fails]]) (i := 1) (s := [.map v]) rfl (by simp); simpa [enc, lens] using this
theorem sub_fails (x : KernelKernel) : SubL x.enc 2 1 ([.int .i64 x.fails]) := by have := seg_sub (segs := [[.map x.own], [.map x.others], [.int .i64 x.fails]]) (i := 2) rfl; simpa [enc, lens] using this
theorem set_fails (x : KernelKernel) (v : Int) : SetL x.enc 2 1 ([.int .i64 v]) ({ x with fails := v } : KernelKernel).enc := by have := seg_set (segs := [[.map x.own], [.map x.others], [.int .i64 x.fails]]) (i := 2) (s := [.int .i64 v]) rfl (by simp); simpa [enc, lens] using this
theorem enc_cell (x : KernelKernel) : ∀ v ∈ x.enc, Value.cellB v = true := cells_flatten (cells_cons (cell_one rfl) (cells_cons (cell_one rfl) (cells_cons (cell_one rfl) cells_nil)))
def zero : KernelKernel := ⟨none, none, 0⟩
def segs : List (List Value) := [[.map zero.own], [.map zero.others], [.int .i64 zero.fails]]
end KernelKernel
end Slb
