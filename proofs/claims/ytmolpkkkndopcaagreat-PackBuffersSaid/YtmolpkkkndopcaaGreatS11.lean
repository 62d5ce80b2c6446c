/- S11: a part of the proof that a law of this package holds for every input; no condition. -/
import Derived.Test.YtmolpkkkndopcaaGreatM2
namespace Slb
open Go
structure Prefix where
  a : Bs 16
  len : I64
deriving DecidableEq
namespace Prefix
def enc (x : Prefix) : List Value := [x.a.enc, [I64.v x.len]].flatten
/-- Its numbers are numbers of their kinds. -/
def WF (x : Prefix) : Prop := True ∧ True
theorem enc_len (x : Prefix) : x.enc.length = 17 := by simp [enc, Bs.len]
theorem enc_sub (x : Prefix) : SubL x.enc 0 17 x.enc := by have := SubL.all x.enc; rwa [enc_len] at this
theorem sub_a (x : Prefix) : SubL x.enc 0 16 (x.a.enc) := by have := seg_sub (segs := [x.a.enc, [I64.v x.len]]) (i := 0) rfl; simpa [enc, lens, Bs.len] using this
theorem sub_len (x : Prefix) : SubL x.enc 16 1 ([I64.v x.len]) := by have := seg_sub (segs := [x.a.enc, [I64.v x.len]]) (i := 1) rfl; simpa [enc, lens, Bs.len] using this
theorem enc_cell (x : Prefix) : ∀ v ∈ x.enc, Value.cellB v = true := cells_flatten (cells_cons (Bs.cell x.a) (cells_cons (cell_one rfl) cells_nil))
def zero : Prefix := ⟨(Bs.zero 16), (⟨0, by omega⟩ : I64)⟩
def segs : List (List Value) := [zero.a.enc, [I64.v zero.len]]
end Prefix
structure Pair where
  dst : Prefix
  src : Prefix
deriving DecidableEq
namespace Pair
def enc (x : Pair) : List Value := [x.dst.enc, x.src.enc].flatten
/-- Its numbers are numbers of their kinds. -/
def WF (x : Pair) : Prop := x.dst.WF ∧ x.src.WF
theorem enc_len (x : Pair) : x.enc.length = 34 := by simp [enc, Prefix.enc_len]
theorem enc_sub (x : Pair) : SubL x.enc 0 34 x.enc := by have := SubL.all x.enc; rwa [enc_len] at this
theorem sub_dst (x : Pair) : SubL x.enc 0 17 (x.dst.enc) := by have := seg_sub (segs := [x.dst.enc, x.src.enc]) (i := 0) rfl; simpa [enc, lens, Prefix.enc_len] using this
theorem sub_src (x : Pair) : SubL x.enc 17 17 (x.src.enc) := by have := seg_sub (segs := [x.dst.enc, x.src.enc]) (i := 1) rfl; simpa [enc, lens, Prefix.enc_len] using this
theorem set_src (x : Pair) (v : Prefix) : SetL x.enc 17 17 (v.enc) ({ x with src := v } : Pair).enc := by have := seg_set (segs := [x.dst.enc, x.src.enc]) (i := 1) (s := v.enc) rfl (by simp [Prefix.enc_len]); simpa [enc, lens, Prefix.enc_len] using this
theorem enc_cell (x : Pair) : ∀ v ∈ x.enc, Value.cellB v = true := cells_flatten (cells_cons (Prefix.enc_cell x.dst) (cells_cons (Prefix.enc_cell x.src) cells_nil))
def zero : Pair := ⟨Prefix.zero, Prefix.zero⟩
def segs : List (List Value) := [zero.dst.enc, zero.src.enc]
end Pair
structure Tlv where
  type : Int
  nonce : Int
  interval : Int
  seqno : Int
  rxcost : Int
  metric : Int
  hops : Int
  unicast : Bool
  all : Bool
  id_ : Bs 8
  addr : Bs 16
  pair : Pair
  stamps : Slc
namespace Tlv
def enc (x : Tlv) : List Value := [[.int .u8 x.type], [.int .u16 x.nonce], [.int .u16 x.interval], [.int .u16 x.seqno], [.int .u16 x.rxcost], [.int .u16 x.metric], [.int .u8 x.hops], [.bool x.unicast], [.bool x.all], x.id_.enc, x.addr.enc, x.pair.enc, [Slc.v x.stamps]].flatten
/-- Its numbers are numbers of their kinds. -/
def WF (x : Tlv) : Prop := (0 ≤ x.type ∧ x.type ≤ 255) ∧ (0 ≤ x.nonce ∧ x.nonce ≤ 65535) ∧ (0 ≤ x.interval ∧ x.interval ≤ 65535) ∧ (0 ≤ x.seqno ∧ x.seqno ≤ 65535) ∧ (0 ≤ x.rxcost ∧ x.rxcost ≤ 65535) ∧ (0 ≤ x.metric ∧ x.metric ≤ 65535) ∧ (0 ≤ x.hops ∧ x.hops ≤ 255) ∧ True ∧ True ∧ True ∧ True ∧ x.pair.WF ∧ True
theorem enc_len (x : Tlv) : x.enc.length = 68 := by simp [enc, Bs.len, Pair.enc_len]
theorem enc_sub (x : Tlv) : SubL x.enc 0 68 x.enc := by have := SubL.all x.enc; rwa [enc_len] at this
theorem sub_type (x : Tlv) : SubL x.enc 0 1 ([.int .u8 x.type]) := by have := seg_sub (segs := [[.int .u8 x.type], [.int .u16 x.nonce], [.int .u16 x.interval], [.int .u16 x.seqno], [.int .u16 x.rxcost], [.int .u16 x.metric], [.int .u8 x.hops], [.bool x.unicast], [.bool x.all], x.id_.enc, x.addr.enc, x.pair.enc, [Slc.v x.stamps]]) (i := 0) rfl; simpa [enc, lens, Bs.len, Pair.enc_len] using this
theorem sub_nonce (x : Tlv) : SubL x.enc 1 1 ([.int .u16 x.nonce]) := by have := seg_sub (segs := [[.int .u8 x.type], [.int .u16 x.nonce], [.int .u16 x.interval], [.int .u16 x.seqno], [.int .u16 x.rxcost], [.int .u16 x.metric], [.int .u8 x.hops], [.bool x.unicast], [.bool x.all], x.id_.enc, x.addr.enc, x.pair.enc, [Slc.v x.stamps]]) (i := 1) rfl; simpa [enc, lens, Bs.len, Pair.enc_len] using this
theorem set_nonce (x : Tlv) (v : Int) : SetL x.enc 1 1 ([.int .u16 v]) ({ x with nonce := v } : Tlv).enc := by have := seg_set (segs := [[.int .u8 x.type], [.int .u16 x.nonce], [.int .u16 x.interval], [.int .u16 x.seqno], [.int .u16 x.rxcost], [.int .u16 x.metric], [.int .u8 x.hops], [.bool x.unicast], [.bool x.all], x.id_.enc, x.addr.enc, x.pair.enc, [Slc.v x.stamps]]) (i := 1) (s := [.int .u16 v]) rfl (by simp); simpa [enc, lens, Bs.len, Pair.enc_len] using this
theorem sub_interval (x : Tlv) : SubL x.enc 2 1 ([.int .u16 x.interval]) := by have := seg_sub (segs := [[.int .u8 x.type], [.int .u16 x.nonce], [.int .u16 x.interval], [.int .u16 x.seqno], [.int .u16 x.rxcost], [.int .u16 x.metric], [.int .u8 x.hops], [.bool x.unicast], [.bool x.all], x.id_.enc, x.addr.enc, x.pair.enc, [Slc.v x.stamps]]) (i := 2) rfl; simpa [enc, lens, Bs.len, Pair.enc_len] using this
theorem set_interval (x : Tlv) (v : Int) : SetL x.enc 2 1 ([.int .u16 v]) ({ x with interval := v } : Tlv).enc := by have := seg_set (segs := [[.int .u8 x.type], [.int .u16 x.nonce], [.int .u16 x.interval], [.int .u16 x.seqno], [.int .u16 x.rxcost], [.int .u16 x.metric], [.int .u8 x.hops], [.bool x.unicast], [.bool x.all], x.id_.enc, x.addr.enc, x.pair.enc, [Slc.v x.stamps]]) (i := 2) (s := [.int .u16 v]) rfl (by simp); simpa [enc, lens, Bs.len, Pair.enc_len] using this
theorem sub_seqno (x : Tlv) : SubL x.enc 3 1 ([.int .u16 x.seqno]) := by have := seg_sub (segs := [[.int .u8 x.type], [.int .u16 x.nonce], [.int .u16 x.interval], [.int .u16 x.seqno], [.int .u16 x.rxcost], [.int .u16 x.metric], [.int .u8 x.hops], [.bool x.unicast], [.bool x.all], x.id_.enc, x.addr.enc, x.pair.enc, [Slc.v x.stamps]]) (i := 3) rfl; simpa [enc, lens, Bs.len, Pair.enc_len] using this
theorem set_seqno (x : Tlv) (v : Int) : SetL x.enc 3 1 ([.int .u16 v]) ({ x with seqno := v } : Tlv).enc := by have := seg_set (segs := [[.int .u8 x.type], [.int .u16 x.nonce], [.int .u16 x.interval], [.int .u16 x.seqno], [.int .u16 x.rxcost], [.int .u16 x.metric], [.int .u8 x.hops], [.bool x.unicast], [.bool x.all], x.id_.enc, x.addr.enc, x.pair.enc, [Slc.v x.stamps]]) (i := 3) (s := [.int .u16 v]) rfl (by simp); simpa [enc, lens, Bs.len, Pair.enc_len] using this
theorem sub_rxcost (x : Tlv) : SubL x.enc 4 1 ([.int .u16 x.rxcost]) := by have := seg_sub (segs := [[.int .u8 x.type], [.int .u16 x.nonce], [.int .u16 x.interval], [.int .u16 x.seqno], [.int .u16 x.rxcost], [.int .u16 x.metric], [.int .u8 x.hops], [.bool x.unicast], [.bool x.all], x.id_.enc, x.addr.enc, x.pair.enc, [Slc.v x.stamps]]) (i := 4) rfl; simpa [enc, lens, Bs.len, Pair.enc_len] using this
theorem set_rxcost (x : Tlv) (v : Int) : SetL x.enc 4 1 ([.int .u16 v]) ({ x with rxcost := v } : Tlv).enc := by have := seg_set (segs := [[.int .u8 x.type], [.int .u16 x.nonce], [.int .u16 x.interval], [.int .u16 x.seqno], [.int .u16 x.rxcost], [.int .u16 x.metric], [.int .u8 x.hops], [.bool x.unicast], [.bool x.all], x.id_.enc, x.addr.enc, x.pair.enc, [Slc.v x.stamps]]) (i := 4) (s := [.int .u16 v]) rfl (by simp); simpa [enc, lens, Bs.len, Pair.enc_len] using this
theorem sub_metric (x : Tlv) : SubL x.enc 5 1 ([.int .u16 x.metric]) := by have := seg_sub (segs := [[.int .u8 x.type], [.int .u16 x.nonce], [.int .u16 x.interval], [.int .u16 x.seqno], [.int .u16 x.rxcost], [.int .u16 x.metric], [.int .u8 x.hops], [.bool x.unicast], [.bool x.all], x.id_.enc, x.addr.enc, x.pair.enc, [Slc.v x.stamps]]) (i := 5) rfl; simpa [enc, lens, Bs.len, Pair.enc_len] using this
theorem set_metric (x : Tlv) (v : Int) : SetL x.enc 5 1 ([.int .u16 v]) ({ x with metric := v } : Tlv).enc := by have := seg_set (segs := [[.int .u8 x.type], [.int .u16 x.nonce], [.int .u16 x.interval], [.int .u16 x.seqno], [.int .u16 x.rxcost], [.int .u16 x.metric], [.int .u8 x.hops], [.bool x.unicast], [.bool x.all], x.id_.enc, x.addr.enc, x.pair.enc, [Slc.v x.stamps]]) (i := 5) (s := [.int .u16 v]) rfl (by simp); simpa [enc, lens, Bs.len, Pair.enc_len] using this
theorem sub_hops (x : Tlv) : SubL x.enc 6 1 ([.int .u8 x.hops]) := by have := seg_sub (segs := [[.int .u8 x.type], [.int .u16 x.nonce], [.int .u16 x.interval], [.int .u16 x.seqno], [.int .u16 x.rxcost], [.int .u16 x.metric], [.int .u8 x.hops], [.bool x.unicast], [.bool x.all], x.id_.enc, x.addr.enc, x.pair.enc, [Slc.v x.stamps]]) (i := 6) rfl; simpa [enc, lens, Bs.len, Pair.enc_len] using this
theorem set_hops (x : Tlv) (v : Int) : SetL x.enc 6 1 ([.int .u8 v]) ({ x with hops := v } : Tlv).enc := by have := seg_set (segs := [[.int .u8 x.type], [.int .u16 x.nonce], [.int .u16 x.interval], [.int .u16 x.seqno], [.int .u16 x.rxcost], [.int .u16 x.metric], [.int .u8 x.hops], [.bool x.unicast], [.bool x.all], x.id_.enc, x.addr.enc, x.pair.enc, [Slc.v x.stamps]]) (i := 6) (s := [.int .u8 v]) rfl (by simp); simpa [enc, lens, Bs.len, Pair.enc_len] using this
theorem sub_unicast (x : Tlv) : SubL x.enc 7 1 ([.bool x.unicast]) := by have := seg_sub (segs := [[.int .u8 x.type], [.int .u16 x.nonce], [.int .u16 x.interval], [.int .u16 x.seqno], [.int .u16 x.rxcost], [.int .u16 x.metric], [.int .u8 x.hops], [.bool x.unicast], [.bool x.all], x.id_.enc, x.addr.enc, x.pair.enc, [Slc.v x.stamps]]) (i := 7) rfl; simpa [enc, lens, Bs.len, Pair.enc_len] using this
theorem set_unicast (x : Tlv) (v : Bool) : SetL x.enc 7 1 ([.bool v]) ({ x with unicast := v } : Tlv).enc := by have := seg_set (segs := [[.int .u8 x.type], [.int .u16 x.nonce], [.int .u16 x.interval], [.int .u16 x.seqno], [.int .u16 x.rxcost], [.int .u16 x.metric], [.int .u8 x.hops], [.bool x.unicast], [.bool x.all], x.id_.enc, x.addr.enc, x.pair.enc, [Slc.v x.stamps]]) (i := 7) (s := [.bool v]) rfl (by simp); simpa [enc, lens, Bs.len, Pair.enc_len] using this
theorem sub_all (x : Tlv) : SubL x.enc 8 1 ([.bool x.all]) := by have := seg_sub (segs := [[.int .u8 x.type], [.int .u16 x.nonce], [.int .u16 x.interval], [.int .u16 x.seqno], [.int .u16 x.rxcost], [.int .u16 x.metric], [.int .u8 x.hops], [.bool x.unicast], [.bool x.all], x.id_.enc, x.addr.enc, x.pair.enc, [Slc.v x.stamps]]) (i := 8) rfl; simpa [enc, lens, Bs.len, Pair.enc_len] using this
theorem set_all (x : Tlv) (v : Bool) : SetL x.enc 8 1 ([.bool v]) ({ x with all := v } : Tlv).enc := by have := seg_set (segs := [[.int .u8 x.type], [.int .u16 x.nonce], [.int .u16 x.interval], [.int .u16 x.seqno], [.int .u16 x.rxcost], [.int .u16 x.metric], [.int .u8 x.hops], [.bool x.unicast], [.bool x.all], x.id_.enc, x.addr.enc, x.pair.enc, [Slc.v x.stamps]]) (i := 8) (s := [.bool v]) rfl (by simp); simpa [enc, lens, Bs.len, Pair.enc_len] using this
theorem sub_id_ (x : Tlv) : SubL x.enc 9 8 (x.id_.enc) := by have := seg_sub (segs := [[.int .u8 x.type], [.int .u16 x.nonce], [.int .u16 x.interval], [.int .u16 x.seqno], [.int .u16 x.rxcost], [.int .u16 x.metric], [.int .u8 x.hops], [.bool x.unicast], [.bool x.all], x.id_.enc, x.addr.enc, x.pair.enc, [Slc.v x.stamps]]) (i := 9) rfl; simpa [enc, lens, Bs.len, Pair.enc_len] using this
theorem set_id_ (x : Tlv) (v : Bs 8) : SetL x.enc 9 8 (v.enc) ({ x with id_ := v } : Tlv).enc := by have := seg_set (segs := [[.int .u8 x.type], [.int .u16 x.nonce], [.int .u16 x.interval], [.int .u16 x.seqno], [.int .u16 x.rxcost], [.int .u16 x.metric], [.int .u8 x.hops], [.bool x.unicast], [.bool x.all], x.id_.enc, x.addr.enc, x.pair.enc, [Slc.v x.stamps]]) (i := 9) (s := v.enc) rfl (by simp [Bs.len]); simpa [enc, lens, Bs.len, Pair.enc_len] using this
theorem sub_addr (x : Tlv) : SubL x.enc 17 16 (x.addr.enc) := by have := seg_sub (segs := [[.int .u8 x.type], [.int .u16 x.nonce], [.int .u16 x.interval], [.int .u16 x.seqno], [.int .u16 x.rxcost], [.int .u16 x.metric], [.int .u8 x.hops], [.bool x.unicast], [.bool x.all], x.id_.enc, x.addr.enc, x.pair.enc, [Slc.v x.stamps]]) (i := 10) rfl; simpa [enc, lens, Bs.len, Pair.enc_len] using this
theorem set_addr (x : Tlv) (v : Bs 16) : SetL x.enc 17 16 (v.enc) ({ x with addr := v } : Tlv).enc := by have := seg_set (segs := [[.int .u8 x.type], [.int .u16 x.nonce], [.int .u16 x.interval], [.int .u16 x.seqno], [.int .u16 x.rxcost], [.int .u16 x.metric], [.int .u8 x.hops], [.bool x.unicast], [.bool x.all], x.id_.enc, x.addr.enc, x.pair.enc, [Slc.v x.stamps]]) (i := 10) (s := v.enc) rfl (by simp [Bs.len]); simpa [enc, lens, Bs.len, Pair.enc_len] using this
theorem sub_pair (x : Tlv) : SubL x.enc 33 34 (x.pair.enc) := by have := seg_sub (segs := [[.int .u8 x.type], [.int .u16 x.nonce], [.int .u16 x.interval], [.int .u16 x.seqno], [.int .u16 x.rxcost], [.int .u16 x.metric], [.int .u8 x.hops], [.bool x.unicast], [.bool x.all], x.id_.enc, x.addr.enc, x.pair.enc, [Slc.v x.stamps]]) (i := 11) rfl; simpa [enc, lens, Bs.len, Pair.enc_len] using this
theorem set_pair (x : Tlv) (v : Pair) : SetL x.enc 33 34 (v.enc) ({ x with pair := v } : Tlv).enc := by have := seg_set (segs := [[.int .u8 x.type], [.int .u16 x.nonce], [.int .u16 x.interval], [.int .u16 x.seqno], [.int .u16 x.rxcost], [.int .u16 x.metric], [.int .u8 x.hops], [.bool x.unicast], [.bool x.all], x.id_.enc, x.addr.enc, x.pair.enc, [Slc.v x.stamps]]) (i := 11) (s := v.enc) rfl (by simp [Pair.enc_len]); simpa [enc, lens, Bs.len, Pair.enc_len] using this
theorem sub_stamps (x : Tlv) : SubL x.enc 67 1 ([Slc.v x.stamps]) := by have := seg_sub (segs := [[.int .u8 x.type], [.int .u16 x.nonce], [.int .u16 x.interval], [.int .u16 x.seqno], [.int .u16 x.rxcost], [.int .u16 x.metric], [.int .u8 x.hops], [.bool x.unicast], [.bool x.all], x.id_.enc, x.addr.enc, x.pair.enc, [Slc.v x.stamps]]) (i := 12) rfl; simpa [enc, lens, Bs.len, Pair.enc_len] using this
theorem set_stamps (x : Tlv) (v : Slc) : SetL x.enc 67 1 ([Slc.v v]) ({ x with stamps := v } : Tlv).enc := by have := seg_set (segs := [[.int .u8 x.type], [.int .u16 x.nonce], [.int .u16 x.interval], [.int .u16 x.seqno], [.int .u16 x.rxcost], [.int .u16 x.metric], [.int .u8 x.hops], [.bool x.unicast], [.bool x.all], x.id_.enc, x.addr.enc, x.pair.enc, [Slc.v x.stamps]]) (i := 12) (s := [Slc.v v]) rfl (by simp); simpa [enc, lens, Bs.len, Pair.enc_len] using this
theorem enc_cell (x : Tlv) : ∀ v ∈ x.enc, Value.cellB v = true := cells_flatten (cells_cons (cell_one rfl) (cells_cons (cell_one rfl) (cells_cons (cell_one rfl) (cells_cons (cell_one rfl) (cells_cons (cell_one rfl) (cells_cons (cell_one rfl) (cells_cons (cell_one rfl) (cells_cons (cell_one rfl) (cells_cons (cell_one rfl) (cells_cons (Bs.cell x.id_) (cells_cons (Bs.cell x.addr) (cells_cons (Pair.enc_cell x.pair) (cells_cons (cell_one rfl) cells_nil)))))))))))))
def zero : Tlv := ⟨0, 0, 0, 0, 0, 0, 0, false, false, (Bs.zero 8), (Bs.zero 16), Pair.zero, Slc.zero⟩
def segs : List (List Value) := [[.int .u8 zero.type], [.int .u16 zero.nonce], [.int .u16 zero.interval], [.int .u16 zero.seqno], [.int .u16 zero.rxcost], [.int .u16 zero.metric], [.int .u8 zero.hops], [.bool zero.unicast], [.bool zero.all], zero.id_.enc, zero.addr.enc, zero.pair.enc, [Slc.v zero.stamps]]
end Tlv
structure Ref07Open where
  b : Slc
  s : Option Addr
namespace Ref07Open
def enc (x : Ref07Open) : List Value := [[Slc.v x.b], [.pointer x.s]].flatten
/-- Its numbers are numbers of their kinds. -/
def WF (x : Ref07Open) : Prop := True ∧ True
theorem enc_len (x : Ref07Open) : x.enc.length = 2 := by simp [enc]
theorem enc_sub (x : Ref07Open) : SubL x.enc 0 2 x.enc := by have := SubL.all x.enc; rwa [enc_len] at this
theorem sub_b (x : Ref07Open) : SubL x.enc 0 1 ([Slc.v x.b]) := by have := seg_sub (segs := [[Slc.v x.b], [.pointer x.s]]) (i := 0) rfl; simpa [enc, lens] using this
theorem set_b (x : Ref07Open) (v : Slc) : SetL x.enc 0 1 ([Slc.v v]) ({ x with b := v } : Ref07Open).enc := by have := seg_set (segs := [[Slc.v x.b], [.pointer x.s]]) (i := 0) (s := [Slc.v v]) rfl (by simp); simpa [enc, lens] using this
theorem sub_s (x : Ref07Open) : SubL x.enc 1 1 ([.pointer x.s]) := by have := seg_sub (segs := [[Slc.v x.b], [.pointer x.s]]) (i := 1) rfl; simpa [enc, lens] using this
theorem set_s (x : Ref07Open) (v : Option Addr) : SetL x.enc 1 1 ([.pointer v]) ({ x with s := v } : Ref07Open).enc := by have := seg_set (segs := [[Slc.v x.b], [.pointer x.s]]) (i := 1) (s := [.pointer v]) rfl (by simp); simpa [enc, lens] using this
theorem enc_cell (x : Ref07Open) : ∀ v ∈ x.enc, Value.cellB v = true := cells_flatten (cells_cons (cell_one rfl) (cells_cons (cell_one rfl) cells_nil))
def zero : Ref07Open := ⟨Slc.zero, none⟩
def segs : List (List Value) := [[Slc.v zero.b], [.pointer zero.s]]
end Ref07Open
structure Raw where
  type : Int
  body : Slc
namespace Raw
def enc (x : Raw) : List Value := [[.int .u8 x.type], [Slc.v x.body]].flatten
/-- Its numbers are numbers of their kinds. -/
def WF (x : Raw) : Prop := (0 ≤ x.type ∧ x.type ≤ 255) ∧ True
theorem enc_len (x : Raw) : x.enc.length = 2 := by simp [enc]
theorem enc_sub (x : Raw) : SubL x.enc 0 2 x.enc := by have := SubL.all x.enc; rwa [enc_len] at this
theorem sub_type (x : Raw) : SubL x.enc 0 1 ([.int .u8 x.type]) := by have := seg_sub (segs := [[.int .u8 x.type], [Slc.v x.body]]) (i := 0) rfl; simpa [enc, lens] using this
theorem sub_body (x : Raw) : SubL x.enc 1 1 ([Slc.v x.body]) := by have := seg_sub (segs := [[.int .u8 x.type], [Slc.v x.body]]) (i := 1) rfl; simpa [enc, lens] using this
theorem set_body (x : Raw) (v : Slc) : SetL x.enc 1 1 ([Slc.v v]) ({ x with body := v } : Raw).enc := by have := seg_set (segs := [[.int .u8 x.type], [Slc.v x.body]]) (i := 1) (s := [Slc.v v]) rfl (by simp); simpa [enc, lens] using this
theorem enc_cell (x : Raw) : ∀ v ∈ x.enc, Value.cellB v = true := cells_flatten (cells_cons (cell_one rfl) (cells_cons (cell_one rfl) cells_nil))
def zero : Raw := ⟨0, Slc.zero⟩
def segs : List (List Value) := [[.int .u8 zero.type], [Slc.v zero.body]]
end Raw
structure PackBuffer where
  src : Bs 16
  mtu : Int
  l : Slc
namespace PackBuffer
def enc (x : PackBuffer) : List Value := [x.src.enc, [.int .i64 x.mtu], [Slc.v x.l]].flatten
/-- Its numbers are numbers of their kinds. -/
def WF (x : PackBuffer) : Prop := True ∧ (-9223372036854775808 ≤ x.mtu ∧ x.mtu ≤ 9223372036854775807) ∧ True
theorem enc_len (x : PackBuffer) : x.enc.length = 18 := by simp [enc, Bs.len]
theorem enc_sub (x : PackBuffer) : SubL x.enc 0 18 x.enc := by have := SubL.all x.enc; rwa [enc_len] at this
theorem sub_src (x : PackBuffer) : SubL x.enc 0 16 (x.src.enc) := by have := seg_sub (segs := [x.src.enc, [.int .i64 x.mtu], [Slc.v x.l]]) (i := 0) rfl; simpa [enc, lens, Bs.len] using this
theorem set_src (x : PackBuffer) (v : Bs 16) : SetL x.enc 0 16 (v.enc) ({ x with src := v } : PackBuffer).enc := by have := seg_set (segs := [x.src.enc, [.int .i64 x.mtu], [Slc.v x.l]]) (i := 0) (s := v.enc) rfl (by simp [Bs.len]); simpa [enc, lens, Bs.len] using this
theorem sub_mtu (x : PackBuffer) : SubL x.enc 16 1 ([.int .i64 x.mtu]) := by have := seg_sub (segs := [x.src.enc, [.int .i64 x.mtu], [Slc.v x.l]]) (i := 1) rfl; simpa [enc, lens, Bs.len] using this
theorem sub_l (x : PackBuffer) : SubL x.enc 17 1 ([Slc.v x.l]) := by have := seg_sub (segs := [x.src.enc, [.int .i64 x.mtu], [Slc.v x.l]]) (i := 2) rfl; simpa [enc, lens, Bs.len] using this
theorem set_l (x : PackBuffer) (v : Slc) : SetL x.enc 17 1 ([Slc.v v]) ({ x with l := v } : PackBuffer).enc := by have := seg_set (segs := [x.src.enc, [.int .i64 x.mtu], [Slc.v x.l]]) (i := 2) (s := [Slc.v v]) rfl (by simp); simpa [enc, lens, Bs.len] using this
theorem enc_cell (x : PackBuffer) : ∀ v ∈ x.enc, Value.cellB v = true := cells_flatten (cells_cons (Bs.cell x.src) (cells_cons (cell_one rfl) (cells_cons (cell_one rfl) cells_nil)))
def zero : PackBuffer := ⟨(Bs.zero 16), 0, Slc.zero⟩
def segs : List (List Value) := [zero.src.enc, [.int .i64 zero.mtu], [Slc.v zero.l]]
end PackBuffer
structure PacketKnown where
  id_ : Option Addr
  hops : Option Nat
  bases : Option Nat
namespace PacketKnown
def enc (x : PacketKnown) : List Value := [[.pointer x.id_], [.map x.hops], [.map x.bases]].flatten
/-- Its numbers are numbers of their kinds. -/
def WF (x : PacketKnown) : Prop := True ∧ True ∧ True
theorem enc_len (x : PacketKnown) : x.enc.length = 3 := by simp [enc]
theorem enc_sub (x : PacketKnown) : SubL x.enc 0 3 x.enc := by have := SubL.all x.enc; rwa [enc_len] at this
theorem sub_id_ (x : PacketKnown) : SubL x.enc 0 1 ([.pointer x.id_]) := by have := seg_sub (segs := [[.pointer x.id_], [.map x.hops], [.map x.bases]]) (i := 0) rfl; simpa [enc, lens] using this
theorem set_id_ (x : PacketKnown) (v : Option Addr) : SetL x.enc 0 1 ([.pointer v]) ({ x with id_ := v } : PacketKnown).enc := by have := seg_set (segs := [[.pointer x.id_], [.map x.hops], [.map x.bases]]) (i := 0) (s := [.pointer v]) rfl (by simp); simpa [enc, lens] using this
theorem sub_hops (x : PacketKnown) : SubL x.enc 1 1 ([.map x.hops]) := by have := seg_sub (segs := [[.pointer x.id_], [.map x.hops], [.map x.bases]]) (i := 1) rfl; simpa [enc, lens] using this
theorem set_hops (x : PacketKnown) (v : Option Nat) : SetL x.enc 1 1 ([.map v]) ({ x with hops := v } : PacketKnown).enc := by have := seg_set (segs := [[.pointer x.id_], [.map x.hops], [.map x.bases]]) (i := 1) (s := [.map v]) rfl (by simp); simpa [enc, lens] using this
theorem sub_bases (x : PacketKnown) : SubL x.enc 2 1 ([.map x.bases]) := by have := seg_sub (segs := [[.pointer x.id_], [.map x.hops], [.map x.bases]]) (i := 2) rfl; simpa [enc, lens] using this
theorem enc_cell (x : PacketKnown) : ∀ v ∈ x.enc, Value.cellB v = true := cells_flatten (cells_cons (cell_one rfl) (cells_cons (cell_one rfl) (cells_cons (cell_one rfl) cells_nil)))
def zero : PacketKnown := ⟨none, none, none⟩
def segs : List (List Value) := [[.pointer zero.id_], [.map zero.hops], [.map zero.bases]]
end PacketKnown
structure PacketParser where
  known : PacketKnown
namespace PacketParser
def enc (x : PacketParser) : List Value := [x.known.enc].flatten
/-- Its numbers are numbers of their kinds. -/
def WF (x : PacketParser) : Prop := x.known.WF
theorem enc_len (x : PacketParser) : x.enc.length = 3 := by simp [enc, PacketKnown.enc_len]
theorem enc_sub (x : PacketParser) : SubL x.enc 0 3 x.enc := by have := SubL.all x.enc; rwa [enc_len] at this
theorem sub_known (x : PacketParser) : SubL x.enc 0 3 (x.known.enc) := by have := seg_sub (segs := [x.known.enc]) (i := 0) rfl; simpa [enc, lens, PacketKnown.enc_len] using this
theorem set_known (x : PacketParser) (v : PacketKnown) : SetL x.enc 0 3 (v.enc) ({ x with known := v } : PacketParser).enc := by have := seg_set (segs := [x.known.enc]) (i := 0) (s := v.enc) rfl (by simp [PacketKnown.enc_len]); simpa [enc, lens, PacketKnown.enc_len] using this
theorem enc_cell (x : PacketParser) : ∀ v ∈ x.enc, Value.cellB v = true := cells_flatten (cells_cons (PacketKnown.enc_cell x.known) cells_nil)
def zero : PacketParser := ⟨PacketKnown.zero⟩
def segs : List (List Value) := [zero.known.enc]
end PacketParser
structure PacketPiece where
  reader : Option Addr
  tlv : Tlv
  bad : Bool
namespace PacketPiece
def enc (x : PacketPiece) : List Value := [[.pointer x.reader], x.tlv.enc, [.bool x.bad]].flatten
/-- Its numbers are numbers of their kinds. -/
def WF (x : PacketPiece) : Prop := True ∧ x.tlv.WF ∧ True
theorem enc_len (x : PacketPiece) : x.enc.length = 70 := by simp [enc, Tlv.enc_len]
theorem enc_sub (x : PacketPiece) : SubL x.enc 0 70 x.enc := by have := SubL.all x.enc; rwa [enc_len] at this
theorem sub_reader (x : PacketPiece) : SubL x.enc 0 1 ([.pointer x.reader]) := by have := seg_sub (segs := [[.pointer x.reader], x.tlv.enc, [.bool x.bad]]) (i := 0) rfl; simpa [enc, lens, Tlv.enc_len] using this
theorem sub_tlv (x : PacketPiece) : SubL x.enc 1 68 (x.tlv.enc) := by have := seg_sub (segs := [[.pointer x.reader], x.tlv.enc, [.bool x.bad]]) (i := 1) rfl; simpa [enc, lens, Tlv.enc_len] using this
theorem set_tlv (x : PacketPiece) (v : Tlv) : SetL x.enc 1 68 (v.enc) ({ x with tlv := v } : PacketPiece).enc := by have := seg_set (segs := [[.pointer x.reader], x.tlv.enc, [.bool x.bad]]) (i := 1) (s := v.enc) rfl (by simp [Tlv.enc_len]); simpa [enc, lens, Tlv.enc_len] using this
theorem sub_bad (x : PacketPiece) : SubL x.enc 69 1 ([.bool x.bad]) := by have := seg_sub (segs := [[.pointer x.reader], x.tlv.enc, [.bool x.bad]]) (i := 2) rfl; simpa [enc, lens, Tlv.enc_len] using this
theorem set_bad (x : PacketPiece) (v : Bool) : SetL x.enc 69 1 ([.bool v]) ({ x with bad := v } : PacketPiece).enc := by have := seg_set (segs := [[.pointer x.reader], x.tlv.enc, [.bool x.bad]]) (i := 2) (s := [.bool v]) rfl (by simp); simpa [enc, lens, Tlv.enc_len] using this
theorem enc_cell (x : PacketPiece) : ∀ v ∈ x.enc, Value.cellB v = true := cells_flatten (cells_cons (cell_one rfl) (cells_cons (Tlv.enc_cell x.tlv) (cells_cons (cell_one rfl) cells_nil)))
def zero : PacketPiece := ⟨none, Tlv.zero, false⟩
def segs : List (List Value) := [[.pointer zero.reader], zero.tlv.enc, [.bool zero.bad]]
end PacketPiece
structure OctetReader where
  p : Slc
  at_ : Int
  err : Int
  spot : Int
namespace OctetReader
def enc (x : OctetReader) : List Value := [[Slc.v x.p], [.int .i64 x.at_], [.int .i64 x.err], [.int .i64 x.spot]].flatten
/-- Its numbers are numbers of their kinds. -/
def WF (x : OctetReader) : Prop := True ∧ (-9223372036854775808 ≤ x.at_ ∧ x.at_ ≤ 9223372036854775807) ∧ (-9223372036854775808 ≤ x.err ∧ x.err ≤ 9223372036854775807) ∧ (-9223372036854775808 ≤ x.spot ∧ x.spot ≤ 9223372036854775807)
theorem enc_len (x : OctetReader) : x.enc.length = 4 := by simp [enc]
theorem enc_sub (x : OctetReader) : SubL x.enc 0 4 x.enc := by have := SubL.all x.enc; rwa [enc_len] at this
theorem sub_p (x : OctetReader) : SubL x.enc 0 1 ([Slc.v x.p]) := by have := seg_sub (segs := [[Slc.v x.p], [.int .i64 x.at_], [.int .i64 x.err], [.int .i64 x.spot]]) (i := 0) rfl; simpa [enc, lens] using this
theorem sub_at_ (x : OctetReader) : SubL x.enc 1 1 ([.int .i64 x.at_]) := by have := seg_sub (segs := [[Slc.v x.p], [.int .i64 x.at_], [.int .i64 x.err], [.int .i64 x.spot]]) (i := 1) rfl; simpa [enc, lens] using this
theorem set_at_ (x : OctetReader) (v : Int) : SetL x.enc 1 1 ([.int .i64 v]) ({ x with at_ := v } : OctetReader).enc := by have := seg_set (segs := [[Slc.v x.p], [.int .i64 x.at_], [.int .i64 x.err], [.int .i64 x.spot]]) (i := 1) (s := [.int .i64 v]) rfl (by simp); simpa [enc, lens] using this
theorem sub_err (x : OctetReader) : SubL x.enc 2 1 ([.int .i64 x.err]) := by have := seg_sub (segs := [[Slc.v x.p], [.int .i64 x.at_], [.int .i64 x.err], [.int .i64 x.spot]]) (i := 2) rfl; simpa [enc, lens] using this
theorem set_err (x : OctetReader) (v : Int) : SetL x.enc 2 1 ([.int .i64 v]) ({ x with err := v } : OctetReader).enc := by have := seg_set (segs := [[Slc.v x.p], [.int .i64 x.at_], [.int .i64 x.err], [.int .i64 x.spot]]) (i := 2) (s := [.int .i64 v]) rfl (by simp); simpa [enc, lens] using this
theorem sub_spot (x : OctetReader) : SubL x.enc 3 1 ([.int .i64 x.spot]) := by have := seg_sub (segs := [[Slc.v x.p], [.int .i64 x.at_], [.int .i64 x.err], [.int .i64 x.spot]]) (i := 3) rfl; simpa [enc, lens] using this
theorem set_spot (x : OctetReader) (v : Int) : SetL x.enc 3 1 ([.int .i64 v]) ({ x with spot := v } : OctetReader).enc := by have := seg_set (segs := [[Slc.v x.p], [.int .i64 x.at_], [.int .i64 x.err], [.int .i64 x.spot]]) (i := 3) (s := [.int .i64 v]) rfl (by simp); simpa [enc, lens] using this
theorem enc_cell (x : OctetReader) : ∀ v ∈ x.enc, Value.cellB v = true := cells_flatten (cells_cons (cell_one rfl) (cells_cons (cell_one rfl) (cells_cons (cell_one rfl) (cells_cons (cell_one rfl) cells_nil))))
def zero : OctetReader := ⟨Slc.zero, 0, 0, 0⟩
def segs : List (List Value) := [[Slc.v zero.p], [.int .i64 zero.at_], [.int .i64 zero.err], [.int .i64 zero.spot]]
end OctetReader
structure Ref01Reader where
  p : Slc
  place : Int
  e : Int
  spot : Int
namespace Ref01Reader
def enc (x : Ref01Reader) : List Value := [[Slc.v x.p], [.int .i64 x.place], [.int .i64 x.e], [.int .i64 x.spot]].flatten
/-- Its numbers are numbers of their kinds. -/
def WF (x : Ref01Reader) : Prop := True ∧ (-9223372036854775808 ≤ x.place ∧ x.place ≤ 9223372036854775807) ∧ (-9223372036854775808 ≤ x.e ∧ x.e ≤ 9223372036854775807) ∧ (-9223372036854775808 ≤ x.spot ∧ x.spot ≤ 9223372036854775807)
theorem enc_len (x : Ref01Reader) : x.enc.length = 4 := by simp [enc]
theorem enc_sub (x : Ref01Reader) : SubL x.enc 0 4 x.enc := by have := SubL.all x.enc; rwa [enc_len] at this
theorem sub_p (x : Ref01Reader) : SubL x.enc 0 1 ([Slc.v x.p]) := by have := seg_sub (segs := [[Slc.v x.p], [.int .i64 x.place], [.int .i64 x.e], [.int .i64 x.spot]]) (i := 0) rfl; simpa [enc, lens] using this
theorem sub_spot (x : Ref01Reader) : SubL x.enc 3 1 ([.int .i64 x.spot]) := by have := seg_sub (segs := [[Slc.v x.p], [.int .i64 x.place], [.int .i64 x.e], [.int .i64 x.spot]]) (i := 3) rfl; simpa [enc, lens] using this
theorem set_spot (x : Ref01Reader) (v : Int) : SetL x.enc 3 1 ([.int .i64 v]) ({ x with spot := v } : Ref01Reader).enc := by have := seg_set (segs := [[Slc.v x.p], [.int .i64 x.place], [.int .i64 x.e], [.int .i64 x.spot]]) (i := 3) (s := [.int .i64 v]) rfl (by simp); simpa [enc, lens] using this
theorem enc_cell (x : Ref01Reader) : ∀ v ∈ x.enc, Value.cellB v = true := cells_flatten (cells_cons (cell_one rfl) (cells_cons (cell_one rfl) (cells_cons (cell_one rfl) (cells_cons (cell_one rfl) cells_nil))))
def zero : Ref01Reader := ⟨Slc.zero, 0, 0, 0⟩
def segs : List (List Value) := [[Slc.v zero.p], [.int .i64 zero.place], [.int .i64 zero.e], [.int .i64 zero.spot]]
end Ref01Reader
end Slb
