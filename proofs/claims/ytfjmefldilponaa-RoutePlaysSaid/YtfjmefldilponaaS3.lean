/- S3: a part of the proof that a law of this package holds for every input; no condition. -/
import Derived.Test.YtfjmefldilponaaB13
namespace Slb
open Go
structure Prefix where
  a : Bs 16
  len : I64
deriving DecidableEq
namespace Prefix
def enc (x : Prefix) : List Value := [x.a.enc, [I64.v x.len]].flatten
/-- Its numbers are numbers of their kinds. -/
def WF (x : Prefix) : Prop := True ∧ True
theorem enc_len (x : Prefix) : x.enc.length = 17 := by simp [enc, Bs.len]
theorem enc_sub (x : Prefix) : SubL x.enc 0 17 x.enc := by have := SubL.all x.enc; rwa [enc_len] at this
theorem sub_a (x : Prefix) : SubL x.enc 0 16 (x.a.enc) := by have := seg_sub (segs := [x.a.enc, [I64.v x.len]]) (i := 0) rfl; simpa [enc, lens, Bs.len] using this
theorem set_a (x : Prefix) (v : Bs 16) : SetL x.enc 0 16 (v.enc) ({ x with a := v } : Prefix).enc := by have := seg_set (segs := [x.a.enc, [I64.v x.len]]) (i := 0) (s := v.enc) rfl (by simp [Bs.len]); simpa [enc, lens, Bs.len] using this
theorem sub_len (x : Prefix) : SubL x.enc 16 1 ([I64.v x.len]) := by have := seg_sub (segs := [x.a.enc, [I64.v x.len]]) (i := 1) rfl; simpa [enc, lens, Bs.len] using this
theorem set_len (x : Prefix) (v : I64) : SetL x.enc 16 1 ([I64.v v]) ({ x with len := v } : Prefix).enc := by have := seg_set (segs := [x.a.enc, [I64.v x.len]]) (i := 1) (s := [I64.v v]) rfl (by simp [Bs.len]); simpa [enc, lens, Bs.len] using this
theorem enc_cell (x : Prefix) : ∀ v ∈ x.enc, Value.cellB v = true := cells_flatten (cells_cons (Bs.cell x.a) (cells_cons (cell_one rfl) cells_nil))
def zero : Prefix := ⟨(Bs.zero 16), (⟨0, by omega⟩ : I64)⟩
def segs : List (List Value) := [zero.a.enc, [I64.v zero.len]]
theorem enc_inj {x y : Prefix} (h0 : x.enc = y.enc) : x = y := by
  obtain ⟨a0, a1⟩ := x
  obtain ⟨b0, b1⟩ := y
  simp only [enc, List.flatten_cons, List.flatten_nil, List.append_nil] at h0
  obtain ⟨e0, h1⟩ := List.append_inj h0 (by rw [Bs.len, Bs.len])
  obtain rfl := Bs.enc_inj e0
  obtain rfl := I64.inj (by simpa using h1)
  rfl
end Prefix
structure Pair where
  dst : Prefix
  src : Prefix
deriving DecidableEq
namespace Pair
def enc (x : Pair) : List Value := [x.dst.enc, x.src.enc].flatten
/-- Its numbers are numbers of their kinds. -/
def WF (x : Pair) : Prop := x.dst.WF ∧ x.src.WF
theorem enc_len (x : Pair) : x.enc.length = 34 := by simp [enc, Prefix.enc_len]
theorem enc_sub (x : Pair) : SubL x.enc 0 34 x.enc := by have := SubL.all x.enc; rwa [enc_len] at this
theorem sub_dst (x : Pair) : SubL x.enc 0 17 (x.dst.enc) := by have := seg_sub (segs := [x.dst.enc, x.src.enc]) (i := 0) rfl; simpa [enc, lens, Prefix.enc_len] using this
theorem set_dst (x : Pair) (v : Prefix) : SetL x.enc 0 17 (v.enc) ({ x with dst := v } : Pair).enc := by have := seg_set (segs := [x.dst.enc, x.src.enc]) (i := 0) (s := v.enc) rfl (by simp [Prefix.enc_len]); simpa [enc, lens, Prefix.enc_len] using this
theorem sub_src (x : Pair) : SubL x.enc 17 17 (x.src.enc) := by have := seg_sub (segs := [x.dst.enc, x.src.enc]) (i := 1) rfl; simpa [enc, lens, Prefix.enc_len] using this
theorem set_src (x : Pair) (v : Prefix) : SetL x.enc 17 17 (v.enc) ({ x with src := v } : Pair).enc := by have := seg_set (segs := [x.dst.enc, x.src.enc]) (i := 1) (s := v.enc) rfl (by simp [Prefix.enc_len]); simpa [enc, lens, Prefix.enc_len] using this
theorem enc_cell (x : Pair) : ∀ v ∈ x.enc, Value.cellB v = true := cells_flatten (cells_cons (Prefix.enc_cell x.dst) (cells_cons (Prefix.enc_cell x.src) cells_nil))
def zero : Pair := ⟨Prefix.zero, Prefix.zero⟩
def segs : List (List Value) := [zero.dst.enc, zero.src.enc]
theorem enc_inj {x y : Pair} (h0 : x.enc = y.enc) : x = y := by
  obtain ⟨a0, a1⟩ := x
  obtain ⟨b0, b1⟩ := y
  simp only [enc, List.flatten_cons, List.flatten_nil, List.append_nil] at h0
  obtain ⟨e0, h1⟩ := List.append_inj h0 (by rw [Prefix.enc_len, Prefix.enc_len])
  obtain rfl := Prefix.enc_inj e0
  obtain rfl := Prefix.enc_inj h1
  rfl
end Pair
structure Route where
  pair : Pair
  if_ : I64
  from_ : Bs 16
  id_ : Bs 8
  seqno : Int
  ref : Int
  metric : Int
  hop : Bs 16
  until_ : Int
  hold : Int
  selected : Bool
deriving DecidableEq
namespace Route
def enc (x : Route) : List Value := [x.pair.enc, [I64.v x.if_], x.from_.enc, x.id_.enc, [.int .u16 x.seqno], [.int .u16 x.ref], [.int .u16 x.metric], x.hop.enc, [.int .i64 x.until_], [.int .i64 x.hold], [.bool x.selected]].flatten
/-- Its numbers are numbers of their kinds. -/
def WF (x : Route) : Prop := x.pair.WF ∧ True ∧ True ∧ True ∧ (0 ≤ x.seqno ∧ x.seqno ≤ 65535) ∧ (0 ≤ x.ref ∧ x.ref ≤ 65535) ∧ (0 ≤ x.metric ∧ x.metric ≤ 65535) ∧ True ∧ (-9223372036854775808 ≤ x.until_ ∧ x.until_ ≤ 9223372036854775807) ∧ (-9223372036854775808 ≤ x.hold ∧ x.hold ≤ 9223372036854775807) ∧ True
theorem enc_len (x : Route) : x.enc.length = 81 := by simp [enc, Bs.len, Pair.enc_len]
theorem enc_sub (x : Route) : SubL x.enc 0 81 x.enc := by have := SubL.all x.enc; rwa [enc_len] at this
theorem sub_pair (x : Route) : SubL x.enc 0 34 (x.pair.enc) := by have := seg_sub (segs := [x.pair.enc, [I64.v x.if_], x.from_.enc, x.id_.enc, [.int .u16 x.seqno], [.int .u16 x.ref], [.int .u16 x.metric], x.hop.enc, [.int .i64 x.until_], [.int .i64 x.hold], [.bool x.selected]]) (i := 0) rfl; simpa [enc, lens, Bs.len, Pair.enc_len] using this
theorem set_pair (x : Route) (v : Pair) : SetL x.enc 0 34 (v.enc) ({ x with pair := v } : Route).enc := by have := seg_set (segs := [x.pair.enc, [I64.v x.if_], x.from_.enc, x.id_.enc, [.int .u16 x.seqno], [.int .u16 x.ref], [.int .u16 x.metric], x.hop.enc, [.int .i64 x.until_], [.int .i64 x.hold], [.bool x.selected]]) (i := 0) (s := v.enc) rfl (by simp [Bs.len, Pair.enc_len]); simpa [enc, lens, Bs.len, Pair.enc_len] using this
theorem sub_if_ (x : Route) : SubL x.enc 34 1 ([I64.v x.if_]) := by have := seg_sub (segs := [x.pair.enc, [I64.v x.if_], x.from_.enc, x.id_.enc, [.int .u16 x.seqno], [.int .u16 x.ref], [.int .u16 x.metric], x.hop.enc, [.int .i64 x.until_], [.int .i64 x.hold], [.bool x.selected]]) (i := 1) rfl; simpa [enc, lens, Bs.len, Pair.enc_len] using this
theorem set_if_ (x : Route) (v : I64) : SetL x.enc 34 1 ([I64.v v]) ({ x with if_ := v } : Route).enc := by have := seg_set (segs := [x.pair.enc, [I64.v x.if_], x.from_.enc, x.id_.enc, [.int .u16 x.seqno], [.int .u16 x.ref], [.int .u16 x.metric], x.hop.enc, [.int .i64 x.until_], [.int .i64 x.hold], [.bool x.selected]]) (i := 1) (s := [I64.v v]) rfl (by simp [Bs.len, Pair.enc_len]); simpa [enc, lens, Bs.len, Pair.enc_len] using this
theorem sub_from_ (x : Route) : SubL x.enc 35 16 (x.from_.enc) := by have := seg_sub (segs := [x.pair.enc, [I64.v x.if_], x.from_.enc, x.id_.enc, [.int .u16 x.seqno], [.int .u16 x.ref], [.int .u16 x.metric], x.hop.enc, [.int .i64 x.until_], [.int .i64 x.hold], [.bool x.selected]]) (i := 2) rfl; simpa [enc, lens, Bs.len, Pair.enc_len] using this
theorem set_from_ (x : Route) (v : Bs 16) : SetL x.enc 35 16 (v.enc) ({ x with from_ := v } : Route).enc := by have := seg_set (segs := [x.pair.enc, [I64.v x.if_], x.from_.enc, x.id_.enc, [.int .u16 x.seqno], [.int .u16 x.ref], [.int .u16 x.metric], x.hop.enc, [.int .i64 x.until_], [.int .i64 x.hold], [.bool x.selected]]) (i := 2) (s := v.enc) rfl (by simp [Bs.len, Pair.enc_len]); simpa [enc, lens, Bs.len, Pair.enc_len] using this
theorem sub_id_ (x : Route) : SubL x.enc 51 8 (x.id_.enc) := by have := seg_sub (segs := [x.pair.enc, [I64.v x.if_], x.from_.enc, x.id_.enc, [.int .u16 x.seqno], [.int .u16 x.ref], [.int .u16 x.metric], x.hop.enc, [.int .i64 x.until_], [.int .i64 x.hold], [.bool x.selected]]) (i := 3) rfl; simpa [enc, lens, Bs.len, Pair.enc_len] using this
theorem set_id_ (x : Route) (v : Bs 8) : SetL x.enc 51 8 (v.enc) ({ x with id_ := v } : Route).enc := by have := seg_set (segs := [x.pair.enc, [I64.v x.if_], x.from_.enc, x.id_.enc, [.int .u16 x.seqno], [.int .u16 x.ref], [.int .u16 x.metric], x.hop.enc, [.int .i64 x.until_], [.int .i64 x.hold], [.bool x.selected]]) (i := 3) (s := v.enc) rfl (by simp [Bs.len, Pair.enc_len]); simpa [enc, lens, Bs.len, Pair.enc_len] using this
theorem sub_seqno (x : Route) : SubL x.enc 59 1 ([.int .u16 x.seqno]) := by have := seg_sub (segs := [x.pair.enc, [I64.v x.if_], x.from_.enc, x.id_.enc, [.int .u16 x.seqno], [.int .u16 x.ref], [.int .u16 x.metric], x.hop.enc, [.int .i64 x.until_], [.int .i64 x.hold], [.bool x.selected]]) (i := 4) rfl; simpa [enc, lens, Bs.len, Pair.enc_len] using this
theorem set_seqno (x : Route) (v : Int) : SetL x.enc 59 1 ([.int .u16 v]) ({ x with seqno := v } : Route).enc := by have := seg_set (segs := [x.pair.enc, [I64.v x.if_], x.from_.enc, x.id_.enc, [.int .u16 x.seqno], [.int .u16 x.ref], [.int .u16 x.metric], x.hop.enc, [.int .i64 x.until_], [.int .i64 x.hold], [.bool x.selected]]) (i := 4) (s := [.int .u16 v]) rfl (by simp [Bs.len, Pair.enc_len]); simpa [enc, lens, Bs.len, Pair.enc_len] using this
theorem sub_ref (x : Route) : SubL x.enc 60 1 ([.int .u16 x.ref]) := by have := seg_sub (segs := [x.pair.enc, [I64.v x.if_], x.from_.enc, x.id_.enc, [.int .u16 x.seqno], [.int .u16 x.ref], [.int .u16 x.metric], x.hop.enc, [.int .i64 x.until_], [.int .i64 x.hold], [.bool x.selected]]) (i := 5) rfl; simpa [enc, lens, Bs.len, Pair.enc_len] using this
theorem set_ref (x : Route) (v : Int) : SetL x.enc 60 1 ([.int .u16 v]) ({ x with ref := v } : Route).enc := by have := seg_set (segs := [x.pair.enc, [I64.v x.if_], x.from_.enc, x.id_.enc, [.int .u16 x.seqno], [.int .u16 x.ref], [.int .u16 x.metric], x.hop.enc, [.int .i64 x.until_], [.int .i64 x.hold], [.bool x.selected]]) (i := 5) (s := [.int .u16 v]) rfl (by simp [Bs.len, Pair.enc_len]); simpa [enc, lens, Bs.len, Pair.enc_len] using this
theorem sub_metric (x : Route) : SubL x.enc 61 1 ([.int .u16 x.metric]) := by have := seg_sub (segs := [x.pair.enc, [I64.v x.if_], x.from_.enc, x.id_.enc, [.int .u16 x.seqno], [.int .u16 x.ref], [.int .u16 x.metric], x.hop.enc, [.int .i64 x.until_], [.int .i64 x.hold], [.bool x.selected]]) (i := 6) rfl; simpa [enc, lens, Bs.len, Pair.enc_len] using this
theorem set_metric (x : Route) (v : Int) : SetL x.enc 61 1 ([.int .u16 v]) ({ x with metric := v } : Route).enc := by have := seg_set (segs := [x.pair.enc, [I64.v x.if_], x.from_.enc, x.id_.enc, [.int .u16 x.seqno], [.int .u16 x.ref], [.int .u16 x.metric], x.hop.enc, [.int .i64 x.until_], [.int .i64 x.hold], [.bool x.selected]]) (i := 6) (s := [.int .u16 v]) rfl (by simp [Bs.len, Pair.enc_len]); simpa [enc, lens, Bs.len, Pair.enc_len] using this
theorem sub_hop (x : Route) : SubL x.enc 62 16 (x.hop.enc) := by have := seg_sub (segs := [x.pair.enc, [I64.v x.if_], x.from_.enc, x.id_.enc, [.int .u16 x.seqno], [.int .u16 x.ref], [.int .u16 x.metric], x.hop.enc, [.int .i64 x.until_], [.int .i64 x.hold], [.bool x.selected]]) (i := 7) rfl; simpa [enc, lens, Bs.len, Pair.enc_len] using this
theorem set_hop (x : Route) (v : Bs 16) : SetL x.enc 62 16 (v.enc) ({ x with hop := v } : Route).enc := by have := seg_set (segs := [x.pair.enc, [I64.v x.if_], x.from_.enc, x.id_.enc, [.int .u16 x.seqno], [.int .u16 x.ref], [.int .u16 x.metric], x.hop.enc, [.int .i64 x.until_], [.int .i64 x.hold], [.bool x.selected]]) (i := 7) (s := v.enc) rfl (by simp [Bs.len, Pair.enc_len]); simpa [enc, lens, Bs.len, Pair.enc_len] using this
theorem sub_until_ (x : Route) : SubL x.enc 78 1 ([.int .i64 x.until_]) := by have := seg_sub (segs := [x.pair.enc, [I64.v x.if_], x.from_.enc, x.id_.enc, [.int .u16 x.seqno], [.int .u16 x.ref], [.int .u16 x.metric], x.hop.enc, [.int .i64 x.until_], [.int .i64 x.hold], [.bool x.selected]]) (i := 8) rfl; simpa [enc, lens, Bs.len, Pair.enc_len] using this
theorem set_until_ (x : Route) (v : Int) : SetL x.enc 78 1 ([.int .i64 v]) ({ x with until_ := v } : Route).enc := by have := seg_set (segs := [x.pair.enc, [I64.v x.if_], x.from_.enc, x.id_.enc, [.int .u16 x.seqno], [.int .u16 x.ref], [.int .u16 x.metric], x.hop.enc, [.int .i64 x.until_], [.int .i64 x.hold], [.bool x.selected]]) (i := 8) (s := [.int .i64 v]) rfl (by simp [Bs.len, Pair.enc_len]); simpa [enc, lens, Bs.len, Pair.enc_len] using this
theorem sub_hold (x : Route) : SubL x.enc 79 1 ([.int .i64 x.hold]) := by have := seg_sub (segs := [x.pair.enc, [I64.v x.if_], x.from_.enc, x.id_.enc, [.int .u16 x.seqno], [.int .u16 x.ref], [.int .u16 x.metric], x.hop.enc, [.int .i64 x.until_], [.int .i64 x.hold], [.bool x.selected]]) (i := 9) rfl; simpa [enc, lens, Bs.len, Pair.enc_len] using this
theorem set_hold (x : Route) (v : Int) : SetL x.enc 79 1 ([.int .i64 v]) ({ x with hold := v } : Route).enc := by have := seg_set (segs := [x.pair.enc, [I64.v x.if_], x.from_.enc, x.id_.enc, [.int .u16 x.seqno], [.int .u16 x.ref], [.int .u16 x.metric], x.hop.enc, [.int .i64 x.until_], [.int .i64 x.hold], [.bool x.selected]]) (i := 9) (s := [.int .i64 v]) rfl (by simp [Bs.len, Pair.enc_len]); simpa [enc, lens, Bs.len, Pair.enc_len] using this
theorem sub_selected (x : Route) : SubL x.enc 80 1 ([.bool x.selected]) := by have := seg_sub (segs := [x.pair.enc, [I64.v x.if_], x.from_.enc, x.id_.enc, [.int .u16 x.seqno], [.int .u16 x.ref], [.int .u16 x.metric], x.hop.enc, [.int .i64 x.until_], [.int .i64 x.hold], [.bool x.selected]]) (i := 10) rfl; simpa [enc, lens, Bs.len, Pair.enc_len] using this
theorem set_selected (x : Route) (v : Bool) : SetL x.enc 80 1 ([.bool v]) ({ x with selected := v } : Route).enc := by have := seg_set (segs := [x.pair.enc, [I64.v x.if_], x.from_.enc, x.id_.enc, [.int .u16 x.seqno], [.int .u16 x.ref], [.int .u16 x.metric], x.hop.enc, [.int .i64 x.until_], [.int .i64 x.hold], [.bool x.selected]]) (i := 10) (s := [.bool v]) rfl (by simp [Bs.len, Pair.enc_len]); simpa [enc, lens, Bs.len, Pair.enc_len] using this
theorem enc_cell (x : Route) : ∀ v ∈ x.enc, Value.cellB v = true := cells_flatten (cells_cons (Pair.enc_cell x.pair) (cells_cons (cell_one rfl) (cells_cons (Bs.cell x.from_) (cells_cons (Bs.cell x.id_) (cells_cons (cell_one rfl) (cells_cons (cell_one rfl) (cells_cons (cell_one rfl) (cells_cons (Bs.cell x.hop) (cells_cons (cell_one rfl) (cells_cons (cell_one rfl) (cells_cons (cell_one rfl) cells_nil)))))))))))
def zero : Route := ⟨Pair.zero, (⟨0, by omega⟩ : I64), (Bs.zero 16), (Bs.zero 8), 0, 0, 0, (Bs.zero 16), 0, 0, false⟩
def segs : List (List Value) := [zero.pair.enc, [I64.v zero.if_], zero.from_.enc, zero.id_.enc, [.int .u16 zero.seqno], [.int .u16 zero.ref], [.int .u16 zero.metric], zero.hop.enc, [.int .i64 zero.until_], [.int .i64 zero.hold], [.bool zero.selected]]
theorem enc_inj {x y : Route} (h0 : x.enc = y.enc) : x = y := by
  obtain ⟨a0, a1, a2, a3, a4, a5, a6, a7, a8, a9, a10⟩ := x
  obtain ⟨b0, b1, b2, b3, b4, b5, b6, b7, b8, b9, b10⟩ := y
  simp only [enc, List.flatten_cons, List.flatten_nil, List.append_nil] at h0
  obtain ⟨e0, h1⟩ := List.append_inj h0 (by rw [Pair.enc_len, Pair.enc_len])
  obtain rfl := Pair.enc_inj e0
  obtain ⟨e1, h2⟩ := List.append_inj h1 (rfl)
  obtain rfl := I64.inj (by simpa using e1)
  obtain ⟨e2, h3⟩ := List.append_inj h2 (by rw [Bs.len, Bs.len])
  obtain rfl := Bs.enc_inj e2
  obtain ⟨e3, h4⟩ := List.append_inj h3 (by rw [Bs.len, Bs.len])
  obtain rfl := Bs.enc_inj e3
  obtain ⟨e4, h5⟩ := List.append_inj h4 (rfl)
  obtain rfl : a4 = b4 := by simpa using e4
  obtain ⟨e5, h6⟩ := List.append_inj h5 (rfl)
  obtain rfl : a5 = b5 := by simpa using e5
  obtain ⟨e6, h7⟩ := List.append_inj h6 (rfl)
  obtain rfl : a6 = b6 := by simpa using e6
  obtain ⟨e7, h8⟩ := List.append_inj h7 (by rw [Bs.len, Bs.len])
  obtain rfl := Bs.enc_inj e7
  obtain ⟨e8, h9⟩ := List.append_inj h8 (rfl)
  obtain rfl : a8 = b8 := by simpa using e8
  obtain ⟨e9, h10⟩ := List.append_inj h9 (rfl)
  obtain rfl : a9 = b9 := by simpa using e9
  obtain rfl : a10 = b10 := by simpa using h10
  rfl
end Route
structure Law16Act where
  kind : Int
  gap : Int
  r : Route
  ok : Bool
deriving DecidableEq
namespace Law16Act
def enc (x : Law16Act) : List Value := [[.int .i64 x.kind], [.int .i64 x.gap], x.r.enc, [.bool x.ok]].flatten
/-- Its numbers are numbers of their kinds. -/
def WF (x : Law16Act) : Prop := (-9223372036854775808 ≤ x.kind ∧ x.kind ≤ 9223372036854775807) ∧ (-9223372036854775808 ≤ x.gap ∧ x.gap ≤ 9223372036854775807) ∧ x.r.WF ∧ True
theorem enc_len (x : Law16Act) : x.enc.length = 84 := by simp [enc, Route.enc_len]
theorem enc_sub (x : Law16Act) : SubL x.enc 0 84 x.enc := by have := SubL.all x.enc; rwa [enc_len] at this
theorem sub_kind (x : Law16Act) : SubL x.enc 0 1 ([.int .i64 x.kind]) := by have := seg_sub (segs := [[.int .i64 x.kind], [.int .i64 x.gap], x.r.enc, [.bool x.ok]]) (i := 0) rfl; simpa [enc, lens, Route.enc_len] using this
theorem set_kind (x : Law16Act) (v : Int) : SetL x.enc 0 1 ([.int .i64 v]) ({ x with kind := v } : Law16Act).enc := by have := seg_set (segs := [[.int .i64 x.kind], [.int .i64 x.gap], x.r.enc, [.bool x.ok]]) (i := 0) (s := [.int .i64 v]) rfl (by simp [Route.enc_len]); simpa [enc, lens, Route.enc_len] using this
theorem sub_gap (x : Law16Act) : SubL x.enc 1 1 ([.int .i64 x.gap]) := by have := seg_sub (segs := [[.int .i64 x.kind], [.int .i64 x.gap], x.r.enc, [.bool x.ok]]) (i := 1) rfl; simpa [enc, lens, Route.enc_len] using this
theorem set_gap (x : Law16Act) (v : Int) : SetL x.enc 1 1 ([.int .i64 v]) ({ x with gap := v } : Law16Act).enc := by have := seg_set (segs := [[.int .i64 x.kind], [.int .i64 x.gap], x.r.enc, [.bool x.ok]]) (i := 1) (s := [.int .i64 v]) rfl (by simp [Route.enc_len]); simpa [enc, lens, Route.enc_len] using this
theorem sub_r (x : Law16Act) : SubL x.enc 2 81 (x.r.enc) := by have := seg_sub (segs := [[.int .i64 x.kind], [.int .i64 x.gap], x.r.enc, [.bool x.ok]]) (i := 2) rfl; simpa [enc, lens, Route.enc_len] using this
theorem set_r (x : Law16Act) (v : Route) : SetL x.enc 2 81 (v.enc) ({ x with r := v } : Law16Act).enc := by have := seg_set (segs := [[.int .i64 x.kind], [.int .i64 x.gap], x.r.enc, [.bool x.ok]]) (i := 2) (s := v.enc) rfl (by simp [Route.enc_len]); simpa [enc, lens, Route.enc_len] using this
theorem sub_ok (x : Law16Act) : SubL x.enc 83 1 ([.bool x.ok]) := by have := seg_sub (segs := [[.int .i64 x.kind], [.int .i64 x.gap], x.r.enc, [.bool x.ok]]) (i := 3) rfl; simpa [enc, lens, Route.enc_len] using this
theorem set_ok (x : Law16Act) (v : Bool) : SetL x.enc 83 1 ([.bool v]) ({ x with ok := v } : Law16Act).enc := by have := seg_set (segs := [[.int .i64 x.kind], [.int .i64 x.gap], x.r.enc, [.bool x.ok]]) (i := 3) (s := [.bool v]) rfl (by simp [Route.enc_len]); simpa [enc, lens, Route.enc_len] using this
theorem enc_cell (x : Law16Act) : ∀ v ∈ x.enc, Value.cellB v = true := cells_flatten (cells_cons (cell_one rfl) (cells_cons (cell_one rfl) (cells_cons (Route.enc_cell x.r) (cells_cons (cell_one rfl) cells_nil))))
def zero : Law16Act := ⟨0, 0, Route.zero, false⟩
def segs : List (List Value) := [[.int .i64 zero.kind], [.int .i64 zero.gap], zero.r.enc, [.bool zero.ok]]
theorem enc_inj {x y : Law16Act} (h0 : x.enc = y.enc) : x = y := by
  obtain ⟨a0, a1, a2, a3⟩ := x
  obtain ⟨b0, b1, b2, b3⟩ := y
  simp only [enc, List.flatten_cons, List.flatten_nil, List.append_nil] at h0
  obtain ⟨e0, h1⟩ := List.append_inj h0 (rfl)
  obtain rfl : a0 = b0 := by simpa using e0
  obtain ⟨e1, h2⟩ := List.append_inj h1 (rfl)
  obtain rfl : a1 = b1 := by simpa using e1
  obtain ⟨e2, h3⟩ := List.append_inj h2 (by rw [Route.enc_len, Route.enc_len])
  obtain rfl := Route.enc_inj e2
  obtain rfl : a3 = b3 := by simpa using h3
  rfl
end Law16Act
structure Ref16Table where
  most : Int
  l : Slc
namespace Ref16Table
def enc (x : Ref16Table) : List Value := [[.int .i64 x.most], [Slc.v x.l]].flatten
/-- Its numbers are numbers of their kinds. -/
def WF (x : Ref16Table) : Prop := (-9223372036854775808 ≤ x.most ∧ x.most ≤ 9223372036854775807) ∧ True
theorem enc_len (x : Ref16Table) : x.enc.length = 2 := by simp [enc]
theorem enc_sub (x : Ref16Table) : SubL x.enc 0 2 x.enc := by have := SubL.all x.enc; rwa [enc_len] at this
theorem sub_most (x : Ref16Table) : SubL x.enc 0 1 ([.int .i64 x.most]) := by have := seg_sub (segs := [[.int .i64 x.most], [Slc.v x.l]]) (i := 0) rfl; simpa [enc, lens] using this
theorem set_most (x : Ref16Table) (v : Int) : SetL x.enc 0 1 ([.int .i64 v]) ({ x with most := v } : Ref16Table).enc := by have := seg_set (segs := [[.int .i64 x.most], [Slc.v x.l]]) (i := 0) (s := [.int .i64 v]) rfl (by simp); simpa [enc, lens] using this
theorem sub_l (x : Ref16Table) : SubL x.enc 1 1 ([Slc.v x.l]) := by have := seg_sub (segs := [[.int .i64 x.most], [Slc.v x.l]]) (i := 1) rfl; simpa [enc, lens] using this
theorem set_l (x : Ref16Table) (v : Slc) : SetL x.enc 1 1 ([Slc.v v]) ({ x with l := v } : Ref16Table).enc := by have := seg_set (segs := [[.int .i64 x.most], [Slc.v x.l]]) (i := 1) (s := [Slc.v v]) rfl (by simp); simpa [enc, lens] using this
theorem enc_cell (x : Ref16Table) : ∀ v ∈ x.enc, Value.cellB v = true := cells_flatten (cells_cons (cell_one rfl) (cells_cons (cell_one rfl) cells_nil))
def zero : Ref16Table := ⟨0, Slc.zero⟩
def segs : List (List Value) := [[.int .i64 zero.most], [Slc.v zero.l]]
end Ref16Table
structure RouteTable where
  most : Int
  m : Option Nat
namespace RouteTable
def enc (x : RouteTable) : List Value := [[.int .i64 x.most], [.map x.m]].flatten
/-- Its numbers are numbers of their kinds. -/
def WF (x : RouteTable) : Prop := (-9223372036854775808 ≤ x.most ∧ x.most ≤ 9223372036854775807) ∧ True
theorem enc_len (x : RouteTable) : x.enc.length = 2 := by simp [enc]
theorem enc_sub (x : RouteTable) : SubL x.enc 0 2 x.enc := by have := SubL.all x.enc; rwa [enc_len] at this
theorem sub_most (x : RouteTable) : SubL x.enc 0 1 ([.int .i64 x.most]) := by have := seg_sub (segs := [[.int .i64 x.most], [.map x.m]]) (i := 0) rfl; simpa [enc, lens] using this
theorem set_most (x : RouteTable) (v : Int) : SetL x.enc 0 1 ([.int .i64 v]) ({ x with most := v } : RouteTable).enc := by have := seg_set (segs := [[.int .i64 x.most], [.map x.m]]) (i := 0) (s := [.int .i64 v]) rfl (by simp); simpa [enc, lens] using this
theorem sub_m (x : RouteTable) : SubL x.enc 1 1 ([.map x.m]) := by have := seg_sub (segs := [[.int .i64 x.most], [.map x.m]]) (i := 1) rfl; simpa [enc, lens] using this
theorem set_m (x : RouteTable) (v : Option Nat) : SetL x.enc 1 1 ([.map v]) ({ x with m := v } : RouteTable).enc := by have := seg_set (segs := [[.int .i64 x.most], [.map x.m]]) (i := 1) (s := [.map v]) rfl (by simp); simpa [enc, lens] using this
theorem enc_cell (x : RouteTable) : ∀ v ∈ x.enc, Value.cellB v = true := cells_flatten (cells_cons (cell_one rfl) (cells_cons (cell_one rfl) cells_nil))
def zero : RouteTable := ⟨0, none⟩
def segs : List (List Value) := [[.int .i64 zero.most], [.map zero.m]]
end RouteTable
structure RouteKey where
  p : Pair
  i : I64
  from_ : Bs 16
deriving DecidableEq
namespace RouteKey
def enc (x : RouteKey) : List Value := [x.p.enc, [I64.v x.i], x.from_.enc].flatten
/-- Its numbers are numbers of their kinds. -/
def WF (x : RouteKey) : Prop := x.p.WF ∧ True ∧ True
theorem enc_len (x : RouteKey) : x.enc.length = 51 := by simp [enc, Bs.len, Pair.enc_len]
theorem enc_sub (x : RouteKey) : SubL x.enc 0 51 x.enc := by have := SubL.all x.enc; rwa [enc_len] at this
theorem sub_p (x : RouteKey) : SubL x.enc 0 34 (x.p.enc) := by have := seg_sub (segs := [x.p.enc, [I64.v x.i], x.from_.enc]) (i := 0) rfl; simpa [enc, lens, Bs.len, Pair.enc_len] using this
theorem set_p (x : RouteKey) (v : Pair) : SetL x.enc 0 34 (v.enc) ({ x with p := v } : RouteKey).enc := by have := seg_set (segs := [x.p.enc, [I64.v x.i], x.from_.enc]) (i := 0) (s := v.enc) rfl (by simp [Bs.len, Pair.enc_len]); simpa [enc, lens, Bs.len, Pair.enc_len] using this
theorem sub_i (x : RouteKey) : SubL x.enc 34 1 ([I64.v x.i]) := by have := seg_sub (segs := [x.p.enc, [I64.v x.i], x.from_.enc]) (i := 1) rfl; simpa [enc, lens, Bs.len, Pair.enc_len] using this
theorem set_i (x : RouteKey) (v : I64) : SetL x.enc 34 1 ([I64.v v]) ({ x with i := v } : RouteKey).enc := by have := seg_set (segs := [x.p.enc, [I64.v x.i], x.from_.enc]) (i := 1) (s := [I64.v v]) rfl (by simp [Bs.len, Pair.enc_len]); simpa [enc, lens, Bs.len, Pair.enc_len] using this
theorem sub_from_ (x : RouteKey) : SubL x.enc 35 16 (x.from_.enc) := by have := seg_sub (segs := [x.p.enc, [I64.v x.i], x.from_.enc]) (i := 2) rfl; simpa [enc, lens, Bs.len, Pair.enc_len] using this
theorem set_from_ (x : RouteKey) (v : Bs 16) : SetL x.enc 35 16 (v.enc) ({ x with from_ := v } : RouteKey).enc := by have := seg_set (segs := [x.p.enc, [I64.v x.i], x.from_.enc]) (i := 2) (s := v.enc) rfl (by simp [Bs.len, Pair.enc_len]); simpa [enc, lens, Bs.len, Pair.enc_len] using this
theorem enc_cell (x : RouteKey) : ∀ v ∈ x.enc, Value.cellB v = true := cells_flatten (cells_cons (Pair.enc_cell x.p) (cells_cons (cell_one rfl) (cells_cons (Bs.cell x.from_) cells_nil)))
def zero : RouteKey := ⟨Pair.zero, (⟨0, by omega⟩ : I64), (Bs.zero 16)⟩
def segs : List (List Value) := [zero.p.enc, [I64.v zero.i], zero.from_.enc]
theorem enc_inj {x y : RouteKey} (h0 : x.enc = y.enc) : x = y := by
  obtain ⟨a0, a1, a2⟩ := x
  obtain ⟨b0, b1, b2⟩ := y
  simp only [enc, List.flatten_cons, List.flatten_nil, List.append_nil] at h0
  obtain ⟨e0, h1⟩ := List.append_inj h0 (by rw [Pair.enc_len, Pair.enc_len])
  obtain rfl := Pair.enc_inj e0
  obtain ⟨e1, h2⟩ := List.append_inj h1 (rfl)
  obtain rfl := I64.inj (by simpa using e1)
  obtain rfl := Bs.enc_inj h2
  rfl
end RouteKey
end Slb
