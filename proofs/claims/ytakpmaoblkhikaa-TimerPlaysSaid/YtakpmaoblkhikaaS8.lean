/- S8: a part of the proof that a law of this package holds for every input; no condition. -/
import Derived.Test.YtakpmaoblkhikaaM2
namespace Slb
open Go
structure Law04Act where
  kind : Int
  name : ByteArray
  at_ : Int
deriving DecidableEq
namespace Law04Act
def enc (x : Law04Act) : List Value := [[.int .i64 x.kind], [.string x.name], [.int .i64 x.at_]].flatten
/-- Its numbers are numbers of their kinds. -/
def WF (x : Law04Act) : Prop := (-9223372036854775808 ≤ x.kind ∧ x.kind ≤ 9223372036854775807) ∧ x.name.size ≤ maxLen ∧ (-9223372036854775808 ≤ x.at_ ∧ x.at_ ≤ 9223372036854775807)
theorem enc_len (x : Law04Act) : x.enc.length = 3 := by simp [enc]
theorem enc_sub (x : Law04Act) : SubL x.enc 0 3 x.enc := by have := SubL.all x.enc; rwa [enc_len] at this
theorem sub_kind (x : Law04Act) : SubL x.enc 0 1 ([.int .i64 x.kind]) := by have := seg_sub (segs := [[.int .i64 x.kind], [.string x.name], [.int .i64 x.at_]]) (i := 0) rfl; simpa [enc, lens] using this
theorem set_kind (x : Law04Act) (v : Int) : SetL x.enc 0 1 ([.int .i64 v]) ({ x with kind := v } : Law04Act).enc := by have := seg_set (segs := [[.int .i64 x.kind], [.string x.name], [.int .i64 x.at_]]) (i := 0) (s := [.int .i64 v]) rfl (by simp); simpa [enc, lens] using this
theorem sub_name (x : Law04Act) : SubL x.enc 1 1 ([.string x.name]) := by have := seg_sub (segs := [[.int .i64 x.kind], [.string x.name], [.int .i64 x.at_]]) (i := 1) rfl; simpa [enc, lens] using this
theorem set_name (x : Law04Act) (v : ByteArray) : SetL x.enc 1 1 ([.string v]) ({ x with name := v } : Law04Act).enc := by have := seg_set (segs := [[.int .i64 x.kind], [.string x.name], [.int .i64 x.at_]]) (i := 1) (s := [.string v]) rfl (by simp); simpa [enc, lens] using this
theorem sub_at_ (x : Law04Act) : SubL x.enc 2 1 ([.int .i64 x.at_]) := by have := seg_sub (segs := [[.int .i64 x.kind], [.string x.name], [.int .i64 x.at_]]) (i := 2) rfl; simpa [enc, lens] using this
theorem set_at_ (x : Law04Act) (v : Int) : SetL x.enc 2 1 ([.int .i64 v]) ({ x with at_ := v } : Law04Act).enc := by have := seg_set (segs := [[.int .i64 x.kind], [.string x.name], [.int .i64 x.at_]]) (i := 2) (s := [.int .i64 v]) rfl (by simp); simpa [enc, lens] using this
theorem enc_cell (x : Law04Act) : ∀ v ∈ x.enc, Value.cellB v = true := cells_flatten (cells_cons (cell_one rfl) (cells_cons (cell_one rfl) (cells_cons (cell_one rfl) cells_nil)))
def zero : Law04Act := ⟨0, ByteArray.empty, 0⟩
def segs : List (List Value) := [[.int .i64 zero.kind], [.string zero.name], [.int .i64 zero.at_]]
theorem enc_inj {x y : Law04Act} (h0 : x.enc = y.enc) : x = y := by
  obtain ⟨a0, a1, a2⟩ := x
  obtain ⟨b0, b1, b2⟩ := y
  simp only [enc, List.flatten_cons, List.flatten_nil, List.append_nil] at h0
  obtain ⟨e0, h1⟩ := List.append_inj h0 (rfl)
  obtain rfl : a0 = b0 := by simpa using e0
  obtain ⟨e1, h2⟩ := List.append_inj h1 (rfl)
  obtain rfl : a1 = b1 := by simpa using e1
  obtain rfl : a2 = b2 := by simpa using h2
  rfl
end Law04Act
structure Due where
  name : ByteArray
  at_ : Int
deriving DecidableEq
namespace Due
def enc (x : Due) : List Value := [[.string x.name], [.int .i64 x.at_]].flatten
/-- Its numbers are numbers of their kinds. -/
def WF (x : Due) : Prop := True ∧ (-9223372036854775808 ≤ x.at_ ∧ x.at_ ≤ 9223372036854775807)
theorem enc_len (x : Due) : x.enc.length = 2 := by simp [enc]
theorem enc_sub (x : Due) : SubL x.enc 0 2 x.enc := by have := SubL.all x.enc; rwa [enc_len] at this
theorem sub_name (x : Due) : SubL x.enc 0 1 ([.string x.name]) := by have := seg_sub (segs := [[.string x.name], [.int .i64 x.at_]]) (i := 0) rfl; simpa [enc, lens] using this
theorem set_name (x : Due) (v : ByteArray) : SetL x.enc 0 1 ([.string v]) ({ x with name := v } : Due).enc := by have := seg_set (segs := [[.string x.name], [.int .i64 x.at_]]) (i := 0) (s := [.string v]) rfl (by simp); simpa [enc, lens] using this
theorem sub_at_ (x : Due) : SubL x.enc 1 1 ([.int .i64 x.at_]) := by have := seg_sub (segs := [[.string x.name], [.int .i64 x.at_]]) (i := 1) rfl; simpa [enc, lens] using this
theorem set_at_ (x : Due) (v : Int) : SetL x.enc 1 1 ([.int .i64 v]) ({ x with at_ := v } : Due).enc := by have := seg_set (segs := [[.string x.name], [.int .i64 x.at_]]) (i := 1) (s := [.int .i64 v]) rfl (by simp); simpa [enc, lens] using this
theorem enc_cell (x : Due) : ∀ v ∈ x.enc, Value.cellB v = true := cells_flatten (cells_cons (cell_one rfl) (cells_cons (cell_one rfl) cells_nil))
def zero : Due := ⟨ByteArray.empty, 0⟩
def segs : List (List Value) := [[.string zero.name], [.int .i64 zero.at_]]
theorem enc_inj {x y : Due} (h0 : x.enc = y.enc) : x = y := by
  obtain ⟨a0, a1⟩ := x
  obtain ⟨b0, b1⟩ := y
  simp only [enc, List.flatten_cons, List.flatten_nil, List.append_nil] at h0
  obtain ⟨e0, h1⟩ := List.append_inj h0 (rfl)
  obtain rfl : a0 = b0 := by simpa using e0
  obtain rfl : a1 = b1 := by simpa using h1
  rfl
end Due
structure Ref04Queue where
  l : Slc
namespace Ref04Queue
def enc (x : Ref04Queue) : List Value := [[Slc.v x.l]].flatten
/-- Its numbers are numbers of their kinds. -/
def WF (x : Ref04Queue) : Prop := True
theorem enc_len (x : Ref04Queue) : x.enc.length = 1 := by simp [enc]
theorem enc_sub (x : Ref04Queue) : SubL x.enc 0 1 x.enc := by have := SubL.all x.enc; rwa [enc_len] at this
theorem sub_l (x : Ref04Queue) : SubL x.enc 0 1 ([Slc.v x.l]) := by have := seg_sub (segs := [[Slc.v x.l]]) (i := 0) rfl; simpa [enc, lens] using this
theorem set_l (x : Ref04Queue) (v : Slc) : SetL x.enc 0 1 ([Slc.v v]) ({ x with l := v } : Ref04Queue).enc := by have := seg_set (segs := [[Slc.v x.l]]) (i := 0) (s := [Slc.v v]) rfl (by simp); simpa [enc, lens] using this
theorem enc_cell (x : Ref04Queue) : ∀ v ∈ x.enc, Value.cellB v = true := cells_flatten (cells_cons (cell_one rfl) cells_nil)
def zero : Ref04Queue := ⟨Slc.zero⟩
def segs : List (List Value) := [[Slc.v zero.l]]
end Ref04Queue
structure TimerQueue where
  row : Slc
  by_ : Option Nat
namespace TimerQueue
def enc (x : TimerQueue) : List Value := [[Slc.v x.row], [.map x.by_]].flatten
/-- Its numbers are numbers of their kinds. -/
def WF (x : TimerQueue) : Prop := True ∧ True
theorem enc_len (x : TimerQueue) : x.enc.length = 2 := by simp [enc]
theorem enc_sub (x : TimerQueue) : SubL x.enc 0 2 x.enc := by have := SubL.all x.enc; rwa [enc_len] at this
theorem sub_row (x : TimerQueue) : SubL x.enc 0 1 ([Slc.v x.row]) := by have := seg_sub (segs := [[Slc.v x.row], [.map x.by_]]) (i := 0) rfl; simpa [enc, lens] using this
theorem set_row (x : TimerQueue) (v : Slc) : SetL x.enc 0 1 ([Slc.v v]) ({ x with row := v } : TimerQueue).enc := by have := seg_set (segs := [[Slc.v x.row], [.map x.by_]]) (i := 0) (s := [Slc.v v]) rfl (by simp); simpa [enc, lens] using this
theorem sub_by_ (x : TimerQueue) : SubL x.enc 1 1 ([.map x.by_]) := by have := seg_sub (segs := [[Slc.v x.row], [.map x.by_]]) (i := 1) rfl; simpa [enc, lens] using this
theorem set_by_ (x : TimerQueue) (v : Option Nat) : SetL x.enc 1 1 ([.map v]) ({ x with by_ := v } : TimerQueue).enc := by have := seg_set (segs := [[Slc.v x.row], [.map x.by_]]) (i := 1) (s := [.map v]) rfl (by simp); simpa [enc, lens] using this
theorem enc_cell (x : TimerQueue) : ∀ v ∈ x.enc, Value.cellB v = true := cells_flatten (cells_cons (cell_one rfl) (cells_cons (cell_one rfl) cells_nil))
def zero : TimerQueue := ⟨Slc.zero, none⟩
def segs : List (List Value) := [[Slc.v zero.row], [.map zero.by_]]
end TimerQueue
structure TimerOne where
  due : Due
  place : Int
deriving DecidableEq
namespace TimerOne
def enc (x : TimerOne) : List Value := [x.due.enc, [.int .i64 x.place]].flatten
/-- Its numbers are numbers of their kinds. -/
def WF (x : TimerOne) : Prop := x.due.WF ∧ (-9223372036854775808 ≤ x.place ∧ x.place ≤ 9223372036854775807)
theorem enc_len (x : TimerOne) : x.enc.length = 3 := by simp [enc, Due.enc_len]
theorem enc_sub (x : TimerOne) : SubL x.enc 0 3 x.enc := by have := SubL.all x.enc; rwa [enc_len] at this
theorem sub_due (x : TimerOne) : SubL x.enc 0 2 (x.due.enc) := by have := seg_sub (segs := [x.due.enc, [.int .i64 x.place]]) (i := 0) rfl; simpa [enc, lens, Due.enc_len] using this
theorem set_due (x : TimerOne) (v : Due) : SetL x.enc 0 2 (v.enc) ({ x with due := v } : TimerOne).enc := by have := seg_set (segs := [x.due.enc, [.int .i64 x.place]]) (i := 0) (s := v.enc) rfl (by simp [Due.enc_len]); simpa [enc, lens, Due.enc_len] using this
theorem sub_place (x : TimerOne) : SubL x.enc 2 1 ([.int .i64 x.place]) := by have := seg_sub (segs := [x.due.enc, [.int .i64 x.place]]) (i := 1) rfl; simpa [enc, lens, Due.enc_len] using this
theorem set_place (x : TimerOne) (v : Int) : SetL x.enc 2 1 ([.int .i64 v]) ({ x with place := v } : TimerOne).enc := by have := seg_set (segs := [x.due.enc, [.int .i64 x.place]]) (i := 1) (s := [.int .i64 v]) rfl (by simp); simpa [enc, lens, Due.enc_len] using this
theorem enc_cell (x : TimerOne) : ∀ v ∈ x.enc, Value.cellB v = true := cells_flatten (cells_cons (Due.enc_cell x.due) (cells_cons (cell_one rfl) cells_nil))
def zero : TimerOne := ⟨Due.zero, 0⟩
def segs : List (List Value) := [zero.due.enc, [.int .i64 zero.place]]
theorem enc_inj {x y : TimerOne} (h0 : x.enc = y.enc) : x = y := by
  obtain ⟨a0, a1⟩ := x
  obtain ⟨b0, b1⟩ := y
  simp only [enc, List.flatten_cons, List.flatten_nil, List.append_nil] at h0
  obtain ⟨e0, h1⟩ := List.append_inj h0 (by rw [Due.enc_len, Due.enc_len])
  obtain rfl := Due.enc_inj e0
  obtain rfl : a1 = b1 := by simpa using h1
  rfl
end TimerOne
end Slb
