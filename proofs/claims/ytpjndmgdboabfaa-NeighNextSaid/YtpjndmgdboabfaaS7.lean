/- S7: a part of the proof that a law of this package holds for every input; no condition. -/
import Derived.Test.YtpjndmgdboabfaaM2
namespace Slb
open Go
structure Prefix where
  a : Bs 16
  len : I64
deriving DecidableEq
namespace Prefix
def enc (x : Prefix) : List Value := [x.a.enc, [I64.v x.len]].flatten
/-- Its numbers are numbers of their kinds. -/
def WF (x : Prefix) : Prop := True ∧ True
theorem enc_len (x : Prefix) : x.enc.length = 17 := by simp [enc, Bs.len]
theorem enc_sub (x : Prefix) : SubL x.enc 0 17 x.enc := by have := SubL.all x.enc; rwa [enc_len] at this
theorem sub_a (x : Prefix) : SubL x.enc 0 16 (x.a.enc) := by have := seg_sub (segs := [x.a.enc, [I64.v x.len]]) (i := 0) rfl; simpa [enc, lens, Bs.len] using this
theorem set_a (x : Prefix) (v : Bs 16) : SetL x.enc 0 16 (v.enc) ({ x with a := v } : Prefix).enc := by have := seg_set (segs := [x.a.enc, [I64.v x.len]]) (i := 0) (s := v.enc) rfl (by simp [Bs.len]); simpa [enc, lens, Bs.len] using this
theorem sub_len (x : Prefix) : SubL x.enc 16 1 ([I64.v x.len]) := by have := seg_sub (segs := [x.a.enc, [I64.v x.len]]) (i := 1) rfl; simpa [enc, lens, Bs.len] using this
theorem set_len (x : Prefix) (v : I64) : SetL x.enc 16 1 ([I64.v v]) ({ x with len := v } : Prefix).enc := by have := seg_set (segs := [x.a.enc, [I64.v x.len]]) (i := 1) (s := [I64.v v]) rfl (by simp); simpa [enc, lens, Bs.len] using this
theorem enc_cell (x : Prefix) : ∀ v ∈ x.enc, Value.cellB v = true := cells_flatten (cells_cons (Bs.cell x.a) (cells_cons (cell_one rfl) cells_nil))
def zero : Prefix := ⟨(Bs.zero 16), (⟨0, by omega⟩ : I64)⟩
def segs : List (List Value) := [zero.a.enc, [I64.v zero.len]]
theorem enc_inj {x y : Prefix} (h0 : x.enc = y.enc) : x = y := by
  obtain ⟨a0, a1⟩ := x
  obtain ⟨b0, b1⟩ := y
  simp only [enc, List.flatten_cons, List.flatten_nil, List.append_nil] at h0
  obtain ⟨e0, h1⟩ := List.append_inj h0 (by rw [Bs.len, Bs.len])
  obtain rfl := Bs.enc_inj e0
  obtain rfl := I64.inj (by simpa using h1)
  rfl
end Prefix
structure Pair where
  dst : Prefix
  src : Prefix
deriving DecidableEq
namespace Pair
def enc (x : Pair) : List Value := [x.dst.enc, x.src.enc].flatten
/-- Its numbers are numbers of their kinds. -/
def WF (x : Pair) : Prop := x.dst.WF ∧ x.src.WF
theorem enc_len (x : Pair) : x.enc.length = 34 := by simp [enc, Prefix.enc_len]
theorem enc_sub (x : Pair) : SubL x.enc 0 34 x.enc := by have := SubL.all x.enc; rwa [enc_len] at this
theorem sub_dst (x : Pair) : SubL x.enc 0 17 (x.dst.enc) := by have := seg_sub (segs := [x.dst.enc, x.src.enc]) (i := 0) rfl; simpa [enc, lens, Prefix.enc_len] using this
theorem set_dst (x : Pair) (v : Prefix) : SetL x.enc 0 17 (v.enc) ({ x with dst := v } : Pair).enc := by have := seg_set (segs := [x.dst.enc, x.src.enc]) (i := 0) (s := v.enc) rfl (by simp [Prefix.enc_len]); simpa [enc, lens, Prefix.enc_len] using this
theorem sub_src (x : Pair) : SubL x.enc 17 17 (x.src.enc) := by have := seg_sub (segs := [x.dst.enc, x.src.enc]) (i := 1) rfl; simpa [enc, lens, Prefix.enc_len] using this
theorem set_src (x : Pair) (v : Prefix) : SetL x.enc 17 17 (v.enc) ({ x with src := v } : Pair).enc := by have := seg_set (segs := [x.dst.enc, x.src.enc]) (i := 1) (s := v.enc) rfl (by simp [Prefix.enc_len]); simpa [enc, lens, Prefix.enc_len] using this
theorem enc_cell (x : Pair) : ∀ v ∈ x.enc, Value.cellB v = true := cells_flatten (cells_cons (Prefix.enc_cell x.dst) (cells_cons (Prefix.enc_cell x.src) cells_nil))
def zero : Pair := ⟨Prefix.zero, Prefix.zero⟩
def segs : List (List Value) := [zero.dst.enc, zero.src.enc]
theorem enc_inj {x y : Pair} (h0 : x.enc = y.enc) : x = y := by
  obtain ⟨a0, a1⟩ := x
  obtain ⟨b0, b1⟩ := y
  simp only [enc, List.flatten_cons, List.flatten_nil, List.append_nil] at h0
  obtain ⟨e0, h1⟩ := List.append_inj h0 (by rw [Prefix.enc_len, Prefix.enc_len])
  obtain rfl := Prefix.enc_inj e0
  obtain rfl := Prefix.enc_inj h1
  rfl
end Pair
structure Tlv where
  type : Int
  nonce : Int
  interval : Int
  seqno : Int
  rxcost : Int
  metric : Int
  hops : Int
  unicast : Bool
  all : Bool
  id_ : Bs 8
  addr : Bs 16
  pair : Pair
  stamps : Slc
namespace Tlv
def enc (x : Tlv) : List Value := [[.int .u8 x.type], [.int .u16 x.nonce], [.int .u16 x.interval], [.int .u16 x.seqno], [.int .u16 x.rxcost], [.int .u16 x.metric], [.int .u8 x.hops], [.bool x.unicast], [.bool x.all], x.id_.enc, x.addr.enc, x.pair.enc, [Slc.v x.stamps]].flatten
/-- Its numbers are numbers of their kinds. -/
def WF (x : Tlv) : Prop := (0 ≤ x.type ∧ x.type ≤ 255) ∧ (0 ≤ x.nonce ∧ x.nonce ≤ 65535) ∧ (0 ≤ x.interval ∧ x.interval ≤ 65535) ∧ (0 ≤ x.seqno ∧ x.seqno ≤ 65535) ∧ (0 ≤ x.rxcost ∧ x.rxcost ≤ 65535) ∧ (0 ≤ x.metric ∧ x.metric ≤ 65535) ∧ (0 ≤ x.hops ∧ x.hops ≤ 255) ∧ True ∧ True ∧ True ∧ True ∧ x.pair.WF ∧ True
theorem enc_len (x : Tlv) : x.enc.length = 68 := by simp [enc, Bs.len, Pair.enc_len]
theorem enc_sub (x : Tlv) : SubL x.enc 0 68 x.enc := by have := SubL.all x.enc; rwa [enc_len] at this
theorem sub_type (x : Tlv) : SubL x.enc 0 1 ([.int .u8 x.type]) := by have := seg_sub (segs := [[.int .u8 x.type], [.int .u16 x.nonce], [.int .u16 x.interval], [.int .u16 x.seqno], [.int .u16 x.rxcost], [.int .u16 x.metric], [.int .u8 x.hops], [.bool x.unicast], [.bool x.all], x.id_.enc, x.addr.enc, x.pair.enc, [Slc.v x.stamps]]) (i := 0) rfl; simpa [enc, lens, Bs.len, Pair.enc_len] using this
theorem set_type (x : Tlv) (v : Int) : SetL x.enc 0 1 ([.int .u8 v]) ({ x with type := v } : Tlv).enc := by have := seg_set (segs := [[.int .u8 x.type], [.int .u16 x.nonce], [.int .u16 x.interval], [.int .u16 x.seqno], [.int .u16 x.rxcost], [.int .u16 x.metric], [.int .u8 x.hops], [.bool x.unicast], [.bool x.all], x.id_.enc, x.addr.enc, x.pair.enc, [Slc.v x.stamps]]) (i := 0) (s := [.int .u8 v]) rfl (by simp); simpa [enc, lens, Bs.len, Pair.enc_len] using this
theorem sub_nonce (x : Tlv) : SubL x.enc 1 1 ([.int .u16 x.nonce]) := by have := seg_sub (segs := [[.int .u8 x.type], [.int .u16 x.nonce], [.int .u16 x.interval], [.int .u16 x.seqno], [.int .u16 x.rxcost], [.int .u16 x.metric], [.int .u8 x.hops], [.bool x.unicast], [.bool x.all], x.id_.enc, x.addr.enc, x.pair.enc, [Slc.v x.stamps]]) (i := 1) rfl; simpa [enc, lens, Bs.len, Pair.enc_len] using this
theorem set_nonce (x : Tlv) (v : Int) : SetL x.enc 1 1 ([.int .u16 v]) ({ x with nonce := v } : Tlv).enc := by have := seg_set (segs := [[.int .u8 x.type], [.int .u16 x.nonce], [.int .u16 x.interval], [.int .u16 x.seqno], [.int .u16 x.rxcost], [.int .u16 x.metric], [.int .u8 x.hops], [.bool x.unicast], [.bool x.all], x.id_.enc, x.addr.enc, x.pair.enc, [Slc.v x.stamps]]) (i := 1) (s := [.int .u16 v]) rfl (by simp); simpa [enc, lens, Bs.len, Pair.enc_len] using this
theorem sub_interval (x : Tlv) : SubL x.enc 2 1 ([.int .u16 x.interval]) := by have := seg_sub (segs := [[.int .u8 x.type], [.int .u16 x.nonce], [.int .u16 x.interval], [.int .u16 x.seqno], [.int .u16 x.rxcost], [.int .u16 x.metric], [.int .u8 x.hops], [.bool x.unicast], [.bool x.all], x.id_.enc, x.addr.enc, x.pair.enc, [Slc.v x.stamps]]) (i := 2) rfl; simpa [enc, lens, Bs.len, Pair.enc_len] using this
theorem set_interval (x : Tlv) (v : Int) : SetL x.enc 2 1 ([.int .u16 v]) ({ x with interval := v } : Tlv).enc := by have := seg_set (segs := [[.int .u8 x.type], [.int .u16 x.nonce], [.int .u16 x.interval], [.int .u16 x.seqno], [.int .u16 x.rxcost], [.int .u16 x.metric], [.int .u8 x.hops], [.bool x.unicast], [.bool x.all], x.id_.enc, x.addr.enc, x.pair.enc, [Slc.v x.stamps]]) (i := 2) (s := [.int .u16 v]) rfl (by simp); simpa [enc, lens, Bs.len, Pair.enc_len] using this
theorem sub_seqno (x : Tlv) : SubL x.enc 3 1 ([.int .u16 x.seqno]) := by have := seg_sub (segs := [[.int .u8 x.type], [.int .u16 x.nonce], [.int .u16 x.interval], [.int .u16 x.seqno], [.int .u16 x.rxcost], [.int .u16 x.metric], [.int .u8 x.hops], [.bool x.unicast], [.bool x.all], x.id_.enc, x.addr.enc, x.pair.enc, [Slc.v x.stamps]]) (i := 3) rfl; simpa [enc, lens, Bs.len, Pair.enc_len] using this
theorem set_seqno (x : Tlv) (v : Int) : SetL x.enc 3 1 ([.int .u16 v]) ({ x with seqno := v } : Tlv).enc := by have := seg_set (segs := [[.int .u8 x.type], [.int .u16 x.nonce], [.int .u16 x.interval], [.int .u16 x.seqno], [.int .u16 x.rxcost], [.int .u16 x.metric], [.int .u8 x.hops], [.bool x.unicast], [.bool x.all], x.id_.enc, x.addr.enc, x.pair.enc, [Slc.v x.stamps]]) (i := 3) (s := [.int .u16 v]) rfl (by simp); simpa [enc, lens, Bs.len, Pair.enc_len] using this
theorem sub_rxcost (x : Tlv) : SubL x.enc 4 1 ([.int .u16 x.rxcost]) := by have := seg_sub (segs := [[.int .u8 x.type], [.int .u16 x.nonce], [.int .u16 x.interval], [.int .u16 x.seqno], [.int .u16 x.rxcost], [.int .u16 x.metric], [.int .u8 x.hops], [.bool x.unicast], [.bool x.all], x.id_.enc, x.addr.enc, x.pair.enc, [Slc.v x.stamps]]) (i := 4) rfl; simpa [enc, lens, Bs.len, Pair.enc_len] using this
theorem set_rxcost (x : Tlv) (v : Int) : SetL x.enc 4 1 ([.int .u16 v]) ({ x with rxcost := v } : Tlv).enc := by have := seg_set (segs := [[.int .u8 x.type], [.int .u16 x.nonce], [.int .u16 x.interval], [.int .u16 x.seqno], [.int .u16 x.rxcost], [.int .u16 x.metric], [.int .u8 x.hops], [.bool x.unicast], [.bool x.all], x.id_.enc, x.addr.enc, x.pair.enc, [Slc.v x.stamps]]) (i := 4) (s := [.int .u16 v]) rfl (by simp); simpa [enc, lens, Bs.len, Pair.enc_len] using this
theorem sub_metric (x : Tlv) : SubL x.enc 5 1 ([.int .u16 x.metric]) := by have := seg_sub (segs := [[.int .u8 x.type], [.int .u16 x.nonce], [.int .u16 x.interval], [.int .u16 x.seqno], [.int .u16 x.rxcost], [.int .u16 x.metric], [.int .u8 x.hops], [.bool x.unicast], [.bool x.all], x.id_.enc, x.addr.enc, x.pair.enc, [Slc.v x.stamps]]) (i := 5) rfl; simpa [enc, lens, Bs.len, Pair.enc_len] using this
theorem set_metric (x : Tlv) (v : Int) : SetL x.enc 5 1 ([.int .u16 v]) ({ x with metric := v } : Tlv).enc := by have := seg_set (segs := [[.int .u8 x.type], [.int .u16 x.nonce], [.int .u16 x.interval], [.int .u16 x.seqno], [.int .u16 x.rxcost], [.int .u16 x.metric], [.int .u8 x.hops], [.bool x.unicast], [.bool x.all], x.id_.enc, x.addr.enc, x.pair.enc, [Slc.v x.stamps]]) (i := 5) (s := [.int .u16 v]) rfl (by simp); simpa [enc, lens, Bs.len, Pair.enc_len] using this
theorem sub_hops (x : Tlv) : SubL x.enc 6 1 ([.int .u8 x.hops]) := by have := seg_sub (segs := [[.int .u8 x.type], [.int .u16 x.nonce], [.int .u16 x.interval], [.int .u16 x.seqno], [.int .u16 x.rxcost], [.int .u16 x.metric], [.int .u8 x.hops], [.bool x.unicast], [.bool x.all], x.id_.enc, x.addr.enc, x.pair.enc, [Slc.v x.stamps]]) (i := 6) rfl; simpa [enc, lens, Bs.len, Pair.enc_len] using this
theorem set_hops (x : Tlv) (v : Int) : SetL x.enc 6 1 ([.int .u8 v]) ({ x with hops := v } : Tlv).enc := by have := seg_set (segs := [[.int .u8 x.type], [.int .u16 x.nonce], [.int .u16 x.interval], [.int .u16 x.seqno], [.int .u16 x.rxcost], [.int .u16 x.metric], [.int .u8 x.hops], [.bool x.unicast], [.bool x.all], x.id_.enc, x.addr.enc, x.pair.enc, [Slc.v x.stamps]]) (i := 6) (s := [.int .u8 v]) rfl (by simp); simpa [enc, lens, Bs.len, Pair.enc_len] using this
theorem sub_unicast (x : Tlv) : SubL x.enc 7 1 ([.bool x.unicast]) := by have := seg_sub (segs := [[.int .u8 x.type], [.int .u16 x.nonce], [.int .u16 x.interval], [.int .u16 x.seqno], [.int .u16 x.rxcost], [.int .u16 x.metric], [.int .u8 x.hops], [.bool x.unicast], [.bool x.all], x.id_.enc, x.addr.enc, x.pair.enc, [Slc.v x.stamps]]) (i := 7) rfl; simpa [enc, lens, Bs.len, Pair.enc_len] using this
theorem set_unicast (x : Tlv) (v : Bool) : SetL x.enc 7 1 ([.bool v]) ({ x with unicast := v } : Tlv).enc := by have := seg_set (segs := [[.int .u8 x.type], [.int .u16 x.nonce], [.int .u16 x.interval], [.int .u16 x.seqno], [.int .u16 x.rxcost], [.int .u16 x.metric], [.int .u8 x.hops], [.bool x.unicast], [.bool x.all], x.id_.enc, x.addr.enc, x.pair.enc, [Slc.v x.stamps]]) (i := 7) (s := [.bool v]) rfl (by simp); simpa [enc, lens, Bs.len, Pair.enc_len] using this
theorem sub_all (x : Tlv) : SubL x.enc 8 1 ([.bool x.all]) := by have := seg_sub (segs := [[.int .u8 x.type], [.int .u16 x.nonce], [.int .u16 x.interval], [.int .u16 x.seqno], [.int .u16 x.rxcost], [.int .u16 x.metric], [.int .u8 x.hops], [.bool x.unicast], [.bool x.all], x.id_.enc, x.addr.enc, x.pair.enc, [Slc.v x.stamps]]) (i := 8) rfl; simpa [enc, lens, Bs.len, Pair.enc_len] using this
theorem set_all (x : Tlv) (v : Bool) : SetL x.enc 8 1 ([.bool v]) ({ x with all := v } : Tlv).enc := by have := seg_set (segs := [[.int .u8 x.type], [.int .u16 x.nonce], [.int .u16 x.interval], [.int .u16 x.seqno], [.int .u16 x.rxcost], [.int .u16 x.metric], [.int .u8 x.hops], [.bool x.unicast], [.bool x.all], x.id_.enc, x.addr.enc, x.pair.enc, [Slc.v x.stamps]]) (i := 8) (s := [.bool v]) rfl (by simp); simpa [enc, lens, Bs.len, Pair.enc_len] using this
theorem sub_id_ (x : Tlv) : SubL x.enc 9 8 (x.id_.enc) := by have := seg_sub (segs := [[.int .u8 x.type], [.int .u16 x.nonce], [.int .u16 x.interval], [.int .u16 x.seqno], [.int .u16 x.rxcost], [.int .u16 x.metric], [.int .u8 x.hops], [.bool x.unicast], [.bool x.all], x.id_.enc, x.addr.enc, x.pair.enc, [Slc.v x.stamps]]) (i := 9) rfl; simpa [enc, lens, Bs.len, Pair.enc_len] using this
theorem set_id_ (x : Tlv) (v : Bs 8) : SetL x.enc 9 8 (v.enc) ({ x with id_ := v } : Tlv).enc := by have := seg_set (segs := [[.int .u8 x.type], [.int .u16 x.nonce], [.int .u16 x.interval], [.int .u16 x.seqno], [.int .u16 x.rxcost], [.int .u16 x.metric], [.int .u8 x.hops], [.bool x.unicast], [.bool x.all], x.id_.enc, x.addr.enc, x.pair.enc, [Slc.v x.stamps]]) (i := 9) (s := v.enc) rfl (by simp [Bs.len]); simpa [enc, lens, Bs.len, Pair.enc_len] using this
theorem sub_addr (x : Tlv) : SubL x.enc 17 16 (x.addr.enc) := by have := seg_sub (segs := [[.int .u8 x.type], [.int .u16 x.nonce], [.int .u16 x.interval], [.int .u16 x.seqno], [.int .u16 x.rxcost], [.int .u16 x.metric], [.int .u8 x.hops], [.bool x.unicast], [.bool x.all], x.id_.enc, x.addr.enc, x.pair.enc, [Slc.v x.stamps]]) (i := 10) rfl; simpa [enc, lens, Bs.len, Pair.enc_len] using this
theorem set_addr (x : Tlv) (v : Bs 16) : SetL x.enc 17 16 (v.enc) ({ x with addr := v } : Tlv).enc := by have := seg_set (segs := [[.int .u8 x.type], [.int .u16 x.nonce], [.int .u16 x.interval], [.int .u16 x.seqno], [.int .u16 x.rxcost], [.int .u16 x.metric], [.int .u8 x.hops], [.bool x.unicast], [.bool x.all], x.id_.enc, x.addr.enc, x.pair.enc, [Slc.v x.stamps]]) (i := 10) (s := v.enc) rfl (by simp [Bs.len]); simpa [enc, lens, Bs.len, Pair.enc_len] using this
theorem sub_pair (x : Tlv) : SubL x.enc 33 34 (x.pair.enc) := by have := seg_sub (segs := [[.int .u8 x.type], [.int .u16 x.nonce], [.int .u16 x.interval], [.int .u16 x.seqno], [.int .u16 x.rxcost], [.int .u16 x.metric], [.int .u8 x.hops], [.bool x.unicast], [.bool x.all], x.id_.enc, x.addr.enc, x.pair.enc, [Slc.v x.stamps]]) (i := 11) rfl; simpa [enc, lens, Bs.len, Pair.enc_len] using this
theorem set_pair (x : Tlv) (v : Pair) : SetL x.enc 33 34 (v.enc) ({ x with pair := v } : Tlv).enc := by have := seg_set (segs := [[.int .u8 x.type], [.int .u16 x.nonce], [.int .u16 x.interval], [.int .u16 x.seqno], [.int .u16 x.rxcost], [.int .u16 x.metric], [.int .u8 x.hops], [.bool x.unicast], [.bool x.all], x.id_.enc, x.addr.enc, x.pair.enc, [Slc.v x.stamps]]) (i := 11) (s := v.enc) rfl (by simp [Pair.enc_len]); simpa [enc, lens, Bs.len, Pair.enc_len] using this
theorem sub_stamps (x : Tlv) : SubL x.enc 67 1 ([Slc.v x.stamps]) := by have := seg_sub (segs := [[.int .u8 x.type], [.int .u16 x.nonce], [.int .u16 x.interval], [.int .u16 x.seqno], [.int .u16 x.rxcost], [.int .u16 x.metric], [.int .u8 x.hops], [.bool x.unicast], [.bool x.all], x.id_.enc, x.addr.enc, x.pair.enc, [Slc.v x.stamps]]) (i := 12) rfl; simpa [enc, lens, Bs.len, Pair.enc_len] using this
theorem set_stamps (x : Tlv) (v : Slc) : SetL x.enc 67 1 ([Slc.v v]) ({ x with stamps := v } : Tlv).enc := by have := seg_set (segs := [[.int .u8 x.type], [.int .u16 x.nonce], [.int .u16 x.interval], [.int .u16 x.seqno], [.int .u16 x.rxcost], [.int .u16 x.metric], [.int .u8 x.hops], [.bool x.unicast], [.bool x.all], x.id_.enc, x.addr.enc, x.pair.enc, [Slc.v x.stamps]]) (i := 12) (s := [Slc.v v]) rfl (by simp); simpa [enc, lens, Bs.len, Pair.enc_len] using this
theorem enc_cell (x : Tlv) : ∀ v ∈ x.enc, Value.cellB v = true := cells_flatten (cells_cons (cell_one rfl) (cells_cons (cell_one rfl) (cells_cons (cell_one rfl) (cells_cons (cell_one rfl) (cells_cons (cell_one rfl) (cells_cons (cell_one rfl) (cells_cons (cell_one rfl) (cells_cons (cell_one rfl) (cells_cons (cell_one rfl) (cells_cons (Bs.cell x.id_) (cells_cons (Bs.cell x.addr) (cells_cons (Pair.enc_cell x.pair) (cells_cons (cell_one rfl) cells_nil)))))))))))))
def zero : Tlv := ⟨0, 0, 0, 0, 0, 0, 0, false, false, (Bs.zero 8), (Bs.zero 16), Pair.zero, Slc.zero⟩
def segs : List (List Value) := [[.int .u8 zero.type], [.int .u16 zero.nonce], [.int .u16 zero.interval], [.int .u16 zero.seqno], [.int .u16 zero.rxcost], [.int .u16 zero.metric], [.int .u8 zero.hops], [.bool zero.unicast], [.bool zero.all], zero.id_.enc, zero.addr.enc, zero.pair.enc, [Slc.v zero.stamps]]
end Tlv
structure Law13Act where
  kind : Int
  gap : Int
  if_ : I64
  from_ : Bs 16
  h : Tlv
namespace Law13Act
def enc (x : Law13Act) : List Value := [[.int .i64 x.kind], [.int .i64 x.gap], [I64.v x.if_], x.from_.enc, x.h.enc].flatten
/-- Its numbers are numbers of their kinds. -/
def WF (x : Law13Act) : Prop := (-9223372036854775808 ≤ x.kind ∧ x.kind ≤ 9223372036854775807) ∧ (-9223372036854775808 ≤ x.gap ∧ x.gap ≤ 9223372036854775807) ∧ True ∧ True ∧ x.h.WF
theorem enc_len (x : Law13Act) : x.enc.length = 87 := by simp [enc, Bs.len, Tlv.enc_len]
theorem enc_sub (x : Law13Act) : SubL x.enc 0 87 x.enc := by have := SubL.all x.enc; rwa [enc_len] at this
theorem sub_kind (x : Law13Act) : SubL x.enc 0 1 ([.int .i64 x.kind]) := by have := seg_sub (segs := [[.int .i64 x.kind], [.int .i64 x.gap], [I64.v x.if_], x.from_.enc, x.h.enc]) (i := 0) rfl; simpa [enc, lens, Bs.len, Tlv.enc_len] using this
theorem set_kind (x : Law13Act) (v : Int) : SetL x.enc 0 1 ([.int .i64 v]) ({ x with kind := v } : Law13Act).enc := by have := seg_set (segs := [[.int .i64 x.kind], [.int .i64 x.gap], [I64.v x.if_], x.from_.enc, x.h.enc]) (i := 0) (s := [.int .i64 v]) rfl (by simp); simpa [enc, lens, Bs.len, Tlv.enc_len] using this
theorem sub_gap (x : Law13Act) : SubL x.enc 1 1 ([.int .i64 x.gap]) := by have := seg_sub (segs := [[.int .i64 x.kind], [.int .i64 x.gap], [I64.v x.if_], x.from_.enc, x.h.enc]) (i := 1) rfl; simpa [enc, lens, Bs.len, Tlv.enc_len] using this
theorem set_gap (x : Law13Act) (v : Int) : SetL x.enc 1 1 ([.int .i64 v]) ({ x with gap := v } : Law13Act).enc := by have := seg_set (segs := [[.int .i64 x.kind], [.int .i64 x.gap], [I64.v x.if_], x.from_.enc, x.h.enc]) (i := 1) (s := [.int .i64 v]) rfl (by simp); simpa [enc, lens, Bs.len, Tlv.enc_len] using this
theorem sub_if_ (x : Law13Act) : SubL x.enc 2 1 ([I64.v x.if_]) := by have := seg_sub (segs := [[.int .i64 x.kind], [.int .i64 x.gap], [I64.v x.if_], x.from_.enc, x.h.enc]) (i := 2) rfl; simpa [enc, lens, Bs.len, Tlv.enc_len] using this
theorem set_if_ (x : Law13Act) (v : I64) : SetL x.enc 2 1 ([I64.v v]) ({ x with if_ := v } : Law13Act).enc := by have := seg_set (segs := [[.int .i64 x.kind], [.int .i64 x.gap], [I64.v x.if_], x.from_.enc, x.h.enc]) (i := 2) (s := [I64.v v]) rfl (by simp); simpa [enc, lens, Bs.len, Tlv.enc_len] using this
theorem sub_from_ (x : Law13Act) : SubL x.enc 3 16 (x.from_.enc) := by have := seg_sub (segs := [[.int .i64 x.kind], [.int .i64 x.gap], [I64.v x.if_], x.from_.enc, x.h.enc]) (i := 3) rfl; simpa [enc, lens, Bs.len, Tlv.enc_len] using this
theorem set_from_ (x : Law13Act) (v : Bs 16) : SetL x.enc 3 16 (v.enc) ({ x with from_ := v } : Law13Act).enc := by have := seg_set (segs := [[.int .i64 x.kind], [.int .i64 x.gap], [I64.v x.if_], x.from_.enc, x.h.enc]) (i := 3) (s := v.enc) rfl (by simp [Bs.len]); simpa [enc, lens, Bs.len, Tlv.enc_len] using this
theorem sub_h (x : Law13Act) : SubL x.enc 19 68 (x.h.enc) := by have := seg_sub (segs := [[.int .i64 x.kind], [.int .i64 x.gap], [I64.v x.if_], x.from_.enc, x.h.enc]) (i := 4) rfl; simpa [enc, lens, Bs.len, Tlv.enc_len] using this
theorem set_h (x : Law13Act) (v : Tlv) : SetL x.enc 19 68 (v.enc) ({ x with h := v } : Law13Act).enc := by have := seg_set (segs := [[.int .i64 x.kind], [.int .i64 x.gap], [I64.v x.if_], x.from_.enc, x.h.enc]) (i := 4) (s := v.enc) rfl (by simp [Tlv.enc_len]); simpa [enc, lens, Bs.len, Tlv.enc_len] using this
theorem enc_cell (x : Law13Act) : ∀ v ∈ x.enc, Value.cellB v = true := cells_flatten (cells_cons (cell_one rfl) (cells_cons (cell_one rfl) (cells_cons (cell_one rfl) (cells_cons (Bs.cell x.from_) (cells_cons (Tlv.enc_cell x.h) cells_nil)))))
def zero : Law13Act := ⟨0, 0, (⟨0, by omega⟩ : I64), (Bs.zero 16), Tlv.zero⟩
def segs : List (List Value) := [[.int .i64 zero.kind], [.int .i64 zero.gap], [I64.v zero.if_], zero.from_.enc, zero.h.enc]
end Law13Act
structure History where
  bits : Int
  next : Int
  known : Bool
deriving DecidableEq
namespace History
def enc (x : History) : List Value := [[.int .u16 x.bits], [.int .u16 x.next], [.bool x.known]].flatten
/-- Its numbers are numbers of their kinds. -/
def WF (x : History) : Prop := (0 ≤ x.bits ∧ x.bits ≤ 65535) ∧ (0 ≤ x.next ∧ x.next ≤ 65535) ∧ True
theorem enc_len (x : History) : x.enc.length = 3 := by simp [enc]
theorem enc_sub (x : History) : SubL x.enc 0 3 x.enc := by have := SubL.all x.enc; rwa [enc_len] at this
theorem sub_bits (x : History) : SubL x.enc 0 1 ([.int .u16 x.bits]) := by have := seg_sub (segs := [[.int .u16 x.bits], [.int .u16 x.next], [.bool x.known]]) (i := 0) rfl; simpa [enc, lens] using this
theorem set_bits (x : History) (v : Int) : SetL x.enc 0 1 ([.int .u16 v]) ({ x with bits := v } : History).enc := by have := seg_set (segs := [[.int .u16 x.bits], [.int .u16 x.next], [.bool x.known]]) (i := 0) (s := [.int .u16 v]) rfl (by simp); simpa [enc, lens] using this
theorem sub_next (x : History) : SubL x.enc 1 1 ([.int .u16 x.next]) := by have := seg_sub (segs := [[.int .u16 x.bits], [.int .u16 x.next], [.bool x.known]]) (i := 1) rfl; simpa [enc, lens] using this
theorem set_next (x : History) (v : Int) : SetL x.enc 1 1 ([.int .u16 v]) ({ x with next := v } : History).enc := by have := seg_set (segs := [[.int .u16 x.bits], [.int .u16 x.next], [.bool x.known]]) (i := 1) (s := [.int .u16 v]) rfl (by simp); simpa [enc, lens] using this
theorem sub_known (x : History) : SubL x.enc 2 1 ([.bool x.known]) := by have := seg_sub (segs := [[.int .u16 x.bits], [.int .u16 x.next], [.bool x.known]]) (i := 2) rfl; simpa [enc, lens] using this
theorem set_known (x : History) (v : Bool) : SetL x.enc 2 1 ([.bool v]) ({ x with known := v } : History).enc := by have := seg_set (segs := [[.int .u16 x.bits], [.int .u16 x.next], [.bool x.known]]) (i := 2) (s := [.bool v]) rfl (by simp); simpa [enc, lens] using this
theorem enc_cell (x : History) : ∀ v ∈ x.enc, Value.cellB v = true := cells_flatten (cells_cons (cell_one rfl) (cells_cons (cell_one rfl) (cells_cons (cell_one rfl) cells_nil)))
def zero : History := ⟨0, 0, false⟩
def segs : List (List Value) := [[.int .u16 zero.bits], [.int .u16 zero.next], [.bool zero.known]]
theorem enc_inj {x y : History} (h0 : x.enc = y.enc) : x = y := by
  obtain ⟨a0, a1, a2⟩ := x
  obtain ⟨b0, b1, b2⟩ := y
  simp only [enc, List.flatten_cons, List.flatten_nil, List.append_nil] at h0
  obtain ⟨e0, h1⟩ := List.append_inj h0 (rfl)
  obtain rfl : a0 = b0 := by simpa using e0
  obtain ⟨e1, h2⟩ := List.append_inj h1 (rfl)
  obtain rfl : a1 = b1 := by simpa using e1
  obtain rfl : a2 = b2 := by simpa using h2
  rfl
end History
structure Neighbour where
  if_ : I64
  addr : Bs 16
  multi : History
  uni : History
  multiGap : Int
  uniGap : Int
  multiAt : Int
  uniAt : Int
  tx : Int
  txAt : Int
  sent : Int
  heard : Int
  hasSent : Bool
  rtt : Int
  hasRtt : Bool
deriving DecidableEq
namespace Neighbour
def enc (x : Neighbour) : List Value := [[I64.v x.if_], x.addr.enc, x.multi.enc, x.uni.enc, [.int .i64 x.multiGap], [.int .i64 x.uniGap], [.int .i64 x.multiAt], [.int .i64 x.uniAt], [.int .u16 x.tx], [.int .i64 x.txAt], [.int .u32 x.sent], [.int .i64 x.heard], [.bool x.hasSent], [.int .i64 x.rtt], [.bool x.hasRtt]].flatten
/-- Its numbers are numbers of their kinds. -/
def WF (x : Neighbour) : Prop := True ∧ True ∧ x.multi.WF ∧ x.uni.WF ∧ (-9223372036854775808 ≤ x.multiGap ∧ x.multiGap ≤ 9223372036854775807) ∧ (-9223372036854775808 ≤ x.uniGap ∧ x.uniGap ≤ 9223372036854775807) ∧ (-9223372036854775808 ≤ x.multiAt ∧ x.multiAt ≤ 9223372036854775807) ∧ (-9223372036854775808 ≤ x.uniAt ∧ x.uniAt ≤ 9223372036854775807) ∧ (0 ≤ x.tx ∧ x.tx ≤ 65535) ∧ (-9223372036854775808 ≤ x.txAt ∧ x.txAt ≤ 9223372036854775807) ∧ (0 ≤ x.sent ∧ x.sent ≤ 4294967295) ∧ (-9223372036854775808 ≤ x.heard ∧ x.heard ≤ 9223372036854775807) ∧ True ∧ (-9223372036854775808 ≤ x.rtt ∧ x.rtt ≤ 9223372036854775807) ∧ True
theorem enc_len (x : Neighbour) : x.enc.length = 34 := by simp [enc, Bs.len, History.enc_len]
theorem enc_sub (x : Neighbour) : SubL x.enc 0 34 x.enc := by have := SubL.all x.enc; rwa [enc_len] at this
theorem sub_if_ (x : Neighbour) : SubL x.enc 0 1 ([I64.v x.if_]) := by have := seg_sub (segs := [[I64.v x.if_], x.addr.enc, x.multi.enc, x.uni.enc, [.int .i64 x.multiGap], [.int .i64 x.uniGap], [.int .i64 x.multiAt], [.int .i64 x.uniAt], [.int .u16 x.tx], [.int .i64 x.txAt], [.int .u32 x.sent], [.int .i64 x.heard], [.bool x.hasSent], [.int .i64 x.rtt], [.bool x.hasRtt]]) (i := 0) rfl; simpa [enc, lens, Bs.len, History.enc_len] using this
theorem set_if_ (x : Neighbour) (v : I64) : SetL x.enc 0 1 ([I64.v v]) ({ x with if_ := v } : Neighbour).enc := by have := seg_set (segs := [[I64.v x.if_], x.addr.enc, x.multi.enc, x.uni.enc, [.int .i64 x.multiGap], [.int .i64 x.uniGap], [.int .i64 x.multiAt], [.int .i64 x.uniAt], [.int .u16 x.tx], [.int .i64 x.txAt], [.int .u32 x.sent], [.int .i64 x.heard], [.bool x.hasSent], [.int .i64 x.rtt], [.bool x.hasRtt]]) (i := 0) (s := [I64.v v]) rfl (by simp); simpa [enc, lens, Bs.len, History.enc_len] using this
theorem sub_addr (x : Neighbour) : SubL x.enc 1 16 (x.addr.enc) := by have := seg_sub (segs := [[I64.v x.if_], x.addr.enc, x.multi.enc, x.uni.enc, [.int .i64 x.multiGap], [.int .i64 x.uniGap], [.int .i64 x.multiAt], [.int .i64 x.uniAt], [.int .u16 x.tx], [.int .i64 x.txAt], [.int .u32 x.sent], [.int .i64 x.heard], [.bool x.hasSent], [.int .i64 x.rtt], [.bool x.hasRtt]]) (i := 1) rfl; simpa [enc, lens, Bs.len, History.enc_len] using this
theorem set_addr (x : Neighbour) (v : Bs 16) : SetL x.enc 1 16 (v.enc) ({ x with addr := v } : Neighbour).enc := by have := seg_set (segs := [[I64.v x.if_], x.addr.enc, x.multi.enc, x.uni.enc, [.int .i64 x.multiGap], [.int .i64 x.uniGap], [.int .i64 x.multiAt], [.int .i64 x.uniAt], [.int .u16 x.tx], [.int .i64 x.txAt], [.int .u32 x.sent], [.int .i64 x.heard], [.bool x.hasSent], [.int .i64 x.rtt], [.bool x.hasRtt]]) (i := 1) (s := v.enc) rfl (by simp [Bs.len]); simpa [enc, lens, Bs.len, History.enc_len] using this
theorem sub_multi (x : Neighbour) : SubL x.enc 17 3 (x.multi.enc) := by have := seg_sub (segs := [[I64.v x.if_], x.addr.enc, x.multi.enc, x.uni.enc, [.int .i64 x.multiGap], [.int .i64 x.uniGap], [.int .i64 x.multiAt], [.int .i64 x.uniAt], [.int .u16 x.tx], [.int .i64 x.txAt], [.int .u32 x.sent], [.int .i64 x.heard], [.bool x.hasSent], [.int .i64 x.rtt], [.bool x.hasRtt]]) (i := 2) rfl; simpa [enc, lens, Bs.len, History.enc_len] using this
theorem set_multi (x : Neighbour) (v : History) : SetL x.enc 17 3 (v.enc) ({ x with multi := v } : Neighbour).enc := by have := seg_set (segs := [[I64.v x.if_], x.addr.enc, x.multi.enc, x.uni.enc, [.int .i64 x.multiGap], [.int .i64 x.uniGap], [.int .i64 x.multiAt], [.int .i64 x.uniAt], [.int .u16 x.tx], [.int .i64 x.txAt], [.int .u32 x.sent], [.int .i64 x.heard], [.bool x.hasSent], [.int .i64 x.rtt], [.bool x.hasRtt]]) (i := 2) (s := v.enc) rfl (by simp [History.enc_len]); simpa [enc, lens, Bs.len, History.enc_len] using this
theorem sub_uni (x : Neighbour) : SubL x.enc 20 3 (x.uni.enc) := by have := seg_sub (segs := [[I64.v x.if_], x.addr.enc, x.multi.enc, x.uni.enc, [.int .i64 x.multiGap], [.int .i64 x.uniGap], [.int .i64 x.multiAt], [.int .i64 x.uniAt], [.int .u16 x.tx], [.int .i64 x.txAt], [.int .u32 x.sent], [.int .i64 x.heard], [.bool x.hasSent], [.int .i64 x.rtt], [.bool x.hasRtt]]) (i := 3) rfl; simpa [enc, lens, Bs.len, History.enc_len] using this
theorem set_uni (x : Neighbour) (v : History) : SetL x.enc 20 3 (v.enc) ({ x with uni := v } : Neighbour).enc := by have := seg_set (segs := [[I64.v x.if_], x.addr.enc, x.multi.enc, x.uni.enc, [.int .i64 x.multiGap], [.int .i64 x.uniGap], [.int .i64 x.multiAt], [.int .i64 x.uniAt], [.int .u16 x.tx], [.int .i64 x.txAt], [.int .u32 x.sent], [.int .i64 x.heard], [.bool x.hasSent], [.int .i64 x.rtt], [.bool x.hasRtt]]) (i := 3) (s := v.enc) rfl (by simp [History.enc_len]); simpa [enc, lens, Bs.len, History.enc_len] using this
theorem sub_multiGap (x : Neighbour) : SubL x.enc 23 1 ([.int .i64 x.multiGap]) := by have := seg_sub (segs := [[I64.v x.if_], x.addr.enc, x.multi.enc, x.uni.enc, [.int .i64 x.multiGap], [.int .i64 x.uniGap], [.int .i64 x.multiAt], [.int .i64 x.uniAt], [.int .u16 x.tx], [.int .i64 x.txAt], [.int .u32 x.sent], [.int .i64 x.heard], [.bool x.hasSent], [.int .i64 x.rtt], [.bool x.hasRtt]]) (i := 4) rfl; simpa [enc, lens, Bs.len, History.enc_len] using this
theorem set_multiGap (x : Neighbour) (v : Int) : SetL x.enc 23 1 ([.int .i64 v]) ({ x with multiGap := v } : Neighbour).enc := by have := seg_set (segs := [[I64.v x.if_], x.addr.enc, x.multi.enc, x.uni.enc, [.int .i64 x.multiGap], [.int .i64 x.uniGap], [.int .i64 x.multiAt], [.int .i64 x.uniAt], [.int .u16 x.tx], [.int .i64 x.txAt], [.int .u32 x.sent], [.int .i64 x.heard], [.bool x.hasSent], [.int .i64 x.rtt], [.bool x.hasRtt]]) (i := 4) (s := [.int .i64 v]) rfl (by simp); simpa [enc, lens, Bs.len, History.enc_len] using this
theorem sub_uniGap (x : Neighbour) : SubL x.enc 24 1 ([.int .i64 x.uniGap]) := by have := seg_sub (segs := [[I64.v x.if_], x.addr.enc, x.multi.enc, x.uni.enc, [.int .i64 x.multiGap], [.int .i64 x.uniGap], [.int .i64 x.multiAt], [.int .i64 x.uniAt], [.int .u16 x.tx], [.int .i64 x.txAt], [.int .u32 x.sent], [.int .i64 x.heard], [.bool x.hasSent], [.int .i64 x.rtt], [.bool x.hasRtt]]) (i := 5) rfl; simpa [enc, lens, Bs.len, History.enc_len] using this
theorem set_uniGap (x : Neighbour) (v : Int) : SetL x.enc 24 1 ([.int .i64 v]) ({ x with uniGap := v } : Neighbour).enc := by have := seg_set (segs := [[I64.v x.if_], x.addr.enc, x.multi.enc, x.uni.enc, [.int .i64 x.multiGap], [.int .i64 x.uniGap], [.int .i64 x.multiAt], [.int .i64 x.uniAt], [.int .u16 x.tx], [.int .i64 x.txAt], [.int .u32 x.sent], [.int .i64 x.heard], [.bool x.hasSent], [.int .i64 x.rtt], [.bool x.hasRtt]]) (i := 5) (s := [.int .i64 v]) rfl (by simp); simpa [enc, lens, Bs.len, History.enc_len] using this
theorem sub_multiAt (x : Neighbour) : SubL x.enc 25 1 ([.int .i64 x.multiAt]) := by have := seg_sub (segs := [[I64.v x.if_], x.addr.enc, x.multi.enc, x.uni.enc, [.int .i64 x.multiGap], [.int .i64 x.uniGap], [.int .i64 x.multiAt], [.int .i64 x.uniAt], [.int .u16 x.tx], [.int .i64 x.txAt], [.int .u32 x.sent], [.int .i64 x.heard], [.bool x.hasSent], [.int .i64 x.rtt], [.bool x.hasRtt]]) (i := 6) rfl; simpa [enc, lens, Bs.len, History.enc_len] using this
theorem set_multiAt (x : Neighbour) (v : Int) : SetL x.enc 25 1 ([.int .i64 v]) ({ x with multiAt := v } : Neighbour).enc := by have := seg_set (segs := [[I64.v x.if_], x.addr.enc, x.multi.enc, x.uni.enc, [.int .i64 x.multiGap], [.int .i64 x.uniGap], [.int .i64 x.multiAt], [.int .i64 x.uniAt], [.int .u16 x.tx], [.int .i64 x.txAt], [.int .u32 x.sent], [.int .i64 x.heard], [.bool x.hasSent], [.int .i64 x.rtt], [.bool x.hasRtt]]) (i := 6) (s := [.int .i64 v]) rfl (by simp); simpa [enc, lens, Bs.len, History.enc_len] using this
theorem sub_uniAt (x : Neighbour) : SubL x.enc 26 1 ([.int .i64 x.uniAt]) := by have := seg_sub (segs := [[I64.v x.if_], x.addr.enc, x.multi.enc, x.uni.enc, [.int .i64 x.multiGap], [.int .i64 x.uniGap], [.int .i64 x.multiAt], [.int .i64 x.uniAt], [.int .u16 x.tx], [.int .i64 x.txAt], [.int .u32 x.sent], [.int .i64 x.heard], [.bool x.hasSent], [.int .i64 x.rtt], [.bool x.hasRtt]]) (i := 7) rfl; simpa [enc, lens, Bs.len, History.enc_len] using this
theorem set_uniAt (x : Neighbour) (v : Int) : SetL x.enc 26 1 ([.int .i64 v]) ({ x with uniAt := v } : Neighbour).enc := by have := seg_set (segs := [[I64.v x.if_], x.addr.enc, x.multi.enc, x.uni.enc, [.int .i64 x.multiGap], [.int .i64 x.uniGap], [.int .i64 x.multiAt], [.int .i64 x.uniAt], [.int .u16 x.tx], [.int .i64 x.txAt], [.int .u32 x.sent], [.int .i64 x.heard], [.bool x.hasSent], [.int .i64 x.rtt], [.bool x.hasRtt]]) (i := 7) (s := [.int .i64 v]) rfl (by simp); simpa [enc, lens, Bs.len, History.enc_len] using this
theorem sub_tx (x : Neighbour) : SubL x.enc 27 1 ([.int .u16 x.tx]) := by have := seg_sub (segs := [[I64.v x.if_], x.addr.enc, x.multi.enc, x.uni.enc, [.int .i64 x.multiGap], [.int .i64 x.uniGap], [.int .i64 x.multiAt], [.int .i64 x.uniAt], [.int .u16 x.tx], [.int .i64 x.txAt], [.int .u32 x.sent], [.int .i64 x.heard], [.bool x.hasSent], [.int .i64 x.rtt], [.bool x.hasRtt]]) (i := 8) rfl; simpa [enc, lens, Bs.len, History.enc_len] using this
theorem set_tx (x : Neighbour) (v : Int) : SetL x.enc 27 1 ([.int .u16 v]) ({ x with tx := v } : Neighbour).enc := by have := seg_set (segs := [[I64.v x.if_], x.addr.enc, x.multi.enc, x.uni.enc, [.int .i64 x.multiGap], [.int .i64 x.uniGap], [.int .i64 x.multiAt], [.int .i64 x.uniAt], [.int .u16 x.tx], [.int .i64 x.txAt], [.int .u32 x.sent], [.int .i64 x.heard], [.bool x.hasSent], [.int .i64 x.rtt], [.bool x.hasRtt]]) (i := 8) (s := [.int .u16 v]) rfl (by simp); simpa [enc, lens, Bs.len, History.enc_len] using this
theorem sub_txAt (x : Neighbour) : SubL x.enc 28 1 ([.int .i64 x.txAt]) := by have := seg_sub (segs := [[I64.v x.if_], x.addr.enc, x.multi.enc, x.uni.enc, [.int .i64 x.multiGap], [.int .i64 x.uniGap], [.int .i64 x.multiAt], [.int .i64 x.uniAt], [.int .u16 x.tx], [.int .i64 x.txAt], [.int .u32 x.sent], [.int .i64 x.heard], [.bool x.hasSent], [.int .i64 x.rtt], [.bool x.hasRtt]]) (i := 9) rfl; simpa [enc, lens, Bs.len, History.enc_len] using this
theorem set_txAt (x : Neighbour) (v : Int) : SetL x.enc 28 1 ([.int .i64 v]) ({ x with txAt := v } : Neighbour).enc := by have := seg_set (segs := [[I64.v x.if_], x.addr.enc, x.multi.enc, x.uni.enc, [.int .i64 x.multiGap], [.int .i64 x.uniGap], [.int .i64 x.multiAt], [.int .i64 x.uniAt], [.int .u16 x.tx], [.int .i64 x.txAt], [.int .u32 x.sent], [.int .i64 x.heard], [.bool x.hasSent], [.int .i64 x.rtt], [.bool x.hasRtt]]) (i := 9) (s := [.int .i64 v]) rfl (by simp); simpa [enc, lens, Bs.len, History.enc_len] using this
theorem sub_sent (x : Neighbour) : SubL x.enc 29 1 ([.int .u32 x.sent]) := by have := seg_sub (segs := [[I64.v x.if_], x.addr.enc, x.multi.enc, x.uni.enc, [.int .i64 x.multiGap], [.int .i64 x.uniGap], [.int .i64 x.multiAt], [.int .i64 x.uniAt], [.int .u16 x.tx], [.int .i64 x.txAt], [.int .u32 x.sent], [.int .i64 x.heard], [.bool x.hasSent], [.int .i64 x.rtt], [.bool x.hasRtt]]) (i := 10) rfl; simpa [enc, lens, Bs.len, History.enc_len] using this
theorem set_sent (x : Neighbour) (v : Int) : SetL x.enc 29 1 ([.int .u32 v]) ({ x with sent := v } : Neighbour).enc := by have := seg_set (segs := [[I64.v x.if_], x.addr.enc, x.multi.enc, x.uni.enc, [.int .i64 x.multiGap], [.int .i64 x.uniGap], [.int .i64 x.multiAt], [.int .i64 x.uniAt], [.int .u16 x.tx], [.int .i64 x.txAt], [.int .u32 x.sent], [.int .i64 x.heard], [.bool x.hasSent], [.int .i64 x.rtt], [.bool x.hasRtt]]) (i := 10) (s := [.int .u32 v]) rfl (by simp); simpa [enc, lens, Bs.len, History.enc_len] using this
theorem sub_heard (x : Neighbour) : SubL x.enc 30 1 ([.int .i64 x.heard]) := by have := seg_sub (segs := [[I64.v x.if_], x.addr.enc, x.multi.enc, x.uni.enc, [.int .i64 x.multiGap], [.int .i64 x.uniGap], [.int .i64 x.multiAt], [.int .i64 x.uniAt], [.int .u16 x.tx], [.int .i64 x.txAt], [.int .u32 x.sent], [.int .i64 x.heard], [.bool x.hasSent], [.int .i64 x.rtt], [.bool x.hasRtt]]) (i := 11) rfl; simpa [enc, lens, Bs.len, History.enc_len] using this
theorem set_heard (x : Neighbour) (v : Int) : SetL x.enc 30 1 ([.int .i64 v]) ({ x with heard := v } : Neighbour).enc := by have := seg_set (segs := [[I64.v x.if_], x.addr.enc, x.multi.enc, x.uni.enc, [.int .i64 x.multiGap], [.int .i64 x.uniGap], [.int .i64 x.multiAt], [.int .i64 x.uniAt], [.int .u16 x.tx], [.int .i64 x.txAt], [.int .u32 x.sent], [.int .i64 x.heard], [.bool x.hasSent], [.int .i64 x.rtt], [.bool x.hasRtt]]) (i := 11) (s := [.int .i64 v]) rfl (by simp); simpa [enc, lens, Bs.len, History.enc_len] using this
theorem sub_hasSent (x : Neighbour) : SubL x.enc 31 1 ([.bool x.hasSent]) := by have := seg_sub (segs := [[I64.v x.if_], x.addr.enc, x.multi.enc, x.uni.enc, [.int .i64 x.multiGap], [.int .i64 x.uniGap], [.int .i64 x.multiAt], [.int .i64 x.uniAt], [.int .u16 x.tx], [.int .i64 x.txAt], [.int .u32 x.sent], [.int .i64 x.heard], [.bool x.hasSent], [.int .i64 x.rtt], [.bool x.hasRtt]]) (i := 12) rfl; simpa [enc, lens, Bs.len, History.enc_len] using this
theorem set_hasSent (x : Neighbour) (v : Bool) : SetL x.enc 31 1 ([.bool v]) ({ x with hasSent := v } : Neighbour).enc := by have := seg_set (segs := [[I64.v x.if_], x.addr.enc, x.multi.enc, x.uni.enc, [.int .i64 x.multiGap], [.int .i64 x.uniGap], [.int .i64 x.multiAt], [.int .i64 x.uniAt], [.int .u16 x.tx], [.int .i64 x.txAt], [.int .u32 x.sent], [.int .i64 x.heard], [.bool x.hasSent], [.int .i64 x.rtt], [.bool x.hasRtt]]) (i := 12) (s := [.bool v]) rfl (by simp); simpa [enc, lens, Bs.len, History.enc_len] using this
theorem sub_rtt (x : Neighbour) : SubL x.enc 32 1 ([.int .i64 x.rtt]) := by have := seg_sub (segs := [[I64.v x.if_], x.addr.enc, x.multi.enc, x.uni.enc, [.int .i64 x.multiGap], [.int .i64 x.uniGap], [.int .i64 x.multiAt], [.int .i64 x.uniAt], [.int .u16 x.tx], [.int .i64 x.txAt], [.int .u32 x.sent], [.int .i64 x.heard], [.bool x.hasSent], [.int .i64 x.rtt], [.bool x.hasRtt]]) (i := 13) rfl; simpa [enc, lens, Bs.len, History.enc_len] using this
theorem set_rtt (x : Neighbour) (v : Int) : SetL x.enc 32 1 ([.int .i64 v]) ({ x with rtt := v } : Neighbour).enc := by have := seg_set (segs := [[I64.v x.if_], x.addr.enc, x.multi.enc, x.uni.enc, [.int .i64 x.multiGap], [.int .i64 x.uniGap], [.int .i64 x.multiAt], [.int .i64 x.uniAt], [.int .u16 x.tx], [.int .i64 x.txAt], [.int .u32 x.sent], [.int .i64 x.heard], [.bool x.hasSent], [.int .i64 x.rtt], [.bool x.hasRtt]]) (i := 13) (s := [.int .i64 v]) rfl (by simp); simpa [enc, lens, Bs.len, History.enc_len] using this
theorem sub_hasRtt (x : Neighbour) : SubL x.enc 33 1 ([.bool x.hasRtt]) := by have := seg_sub (segs := [[I64.v x.if_], x.addr.enc, x.multi.enc, x.uni.enc, [.int .i64 x.multiGap], [.int .i64 x.uniGap], [.int .i64 x.multiAt], [.int .i64 x.uniAt], [.int .u16 x.tx], [.int .i64 x.txAt], [.int .u32 x.sent], [.int .i64 x.heard], [.bool x.hasSent], [.int .i64 x.rtt], [.bool x.hasRtt]]) (i := 14) rfl; simpa [enc, lens, Bs.len, History.enc_len] using this
theorem set_hasRtt (x : Neighbour) (v : Bool) : SetL x.enc 33 1 ([.bool v]) ({ x with hasRtt := v } : Neighbour).enc := by have := seg_set (segs := [[I64.v x.if_], x.addr.enc, x.multi.enc, x.uni.enc, [.int .i64 x.multiGap], [.int .i64 x.uniGap], [.int .i64 x.multiAt], [.int .i64 x.uniAt], [.int .u16 x.tx], [.int .i64 x.txAt], [.int .u32 x.sent], [.int .i64 x.heard], [.bool x.hasSent], [.int .i64 x.rtt], [.bool x.hasRtt]]) (i := 14) (s := [.bool v]) rfl (by simp); simpa [enc, lens, Bs.len, History.enc_len] using this
theorem enc_cell (x : Neighbour) : ∀ v ∈ x.enc, Value.cellB v = true := cells_flatten (cells_cons (cell_one rfl) (cells_cons (Bs.cell x.addr) (cells_cons (History.enc_cell x.multi) (cells_cons (History.enc_cell x.uni) (cells_cons (cell_one rfl) (cells_cons (cell_one rfl) (cells_cons (cell_one rfl) (cells_cons (cell_one rfl) (cells_cons (cell_one rfl) (cells_cons (cell_one rfl) (cells_cons (cell_one rfl) (cells_cons (cell_one rfl) (cells_cons (cell_one rfl) (cells_cons (cell_one rfl) (cells_cons (cell_one rfl) cells_nil)))))))))))))))
def zero : Neighbour := ⟨(⟨0, by omega⟩ : I64), (Bs.zero 16), History.zero, History.zero, 0, 0, 0, 0, 0, 0, 0, 0, false, 0, false⟩
def segs : List (List Value) := [[I64.v zero.if_], zero.addr.enc, zero.multi.enc, zero.uni.enc, [.int .i64 zero.multiGap], [.int .i64 zero.uniGap], [.int .i64 zero.multiAt], [.int .i64 zero.uniAt], [.int .u16 zero.tx], [.int .i64 zero.txAt], [.int .u32 zero.sent], [.int .i64 zero.heard], [.bool zero.hasSent], [.int .i64 zero.rtt], [.bool zero.hasRtt]]
theorem enc_inj {x y : Neighbour} (h0 : x.enc = y.enc) : x = y := by
  obtain ⟨a0, a1, a2, a3, a4, a5, a6, a7, a8, a9, a10, a11, a12, a13, a14⟩ := x
  obtain ⟨b0, b1, b2, b3, b4, b5, b6, b7, b8, b9, b10, b11, b12, b13, b14⟩ := y
  simp only [enc, List.flatten_cons, List.flatten_nil, List.append_nil] at h0
  obtain ⟨e0, h1⟩ := List.append_inj h0 (rfl)
  obtain rfl := I64.inj (by simpa using e0)
  obtain ⟨e1, h2⟩ := List.append_inj h1 (by rw [Bs.len, Bs.len])
  obtain rfl := Bs.enc_inj e1
  obtain ⟨e2, h3⟩ := List.append_inj h2 (by rw [History.enc_len, History.enc_len])
  obtain rfl := History.enc_inj e2
  obtain ⟨e3, h4⟩ := List.append_inj h3 (by rw [History.enc_len, History.enc_len])
  obtain rfl := History.enc_inj e3
  obtain ⟨e4, h5⟩ := List.append_inj h4 (rfl)
  obtain rfl : a4 = b4 := by simpa using e4
  obtain ⟨e5, h6⟩ := List.append_inj h5 (rfl)
  obtain rfl : a5 = b5 := by simpa using e5
  obtain ⟨e6, h7⟩ := List.append_inj h6 (rfl)
  obtain rfl : a6 = b6 := by simpa using e6
  obtain ⟨e7, h8⟩ := List.append_inj h7 (rfl)
  obtain rfl : a7 = b7 := by simpa using e7
  obtain ⟨e8, h9⟩ := List.append_inj h8 (rfl)
  obtain rfl : a8 = b8 := by simpa using e8
  obtain ⟨e9, h10⟩ := List.append_inj h9 (rfl)
  obtain rfl : a9 = b9 := by simpa using e9
  obtain ⟨e10, h11⟩ := List.append_inj h10 (rfl)
  obtain rfl : a10 = b10 := by simpa using e10
  obtain ⟨e11, h12⟩ := List.append_inj h11 (rfl)
  obtain rfl : a11 = b11 := by simpa using e11
  obtain ⟨e12, h13⟩ := List.append_inj h12 (rfl)
  obtain rfl : a12 = b12 := by simpa using e12
  obtain ⟨e13, h14⟩ := List.append_inj h13 (rfl)
  obtain rfl : a13 = b13 := by simpa using e13
  obtain rfl : a14 = b14 := by simpa using h14
  rfl
end Neighbour
structure Rtt where
  on_ : Bool
  min : Int
  max : Int
  cost : Int
  decay : Int
deriving DecidableEq
namespace Rtt
def enc (x : Rtt) : List Value := [[.bool x.on_], [.int .i64 x.min], [.int .i64 x.max], [.int .i64 x.cost], [.int .i64 x.decay]].flatten
/-- Its numbers are numbers of their kinds. -/
def WF (x : Rtt) : Prop := True ∧ (-9223372036854775808 ≤ x.min ∧ x.min ≤ 9223372036854775807) ∧ (-9223372036854775808 ≤ x.max ∧ x.max ≤ 9223372036854775807) ∧ (-9223372036854775808 ≤ x.cost ∧ x.cost ≤ 9223372036854775807) ∧ (-9223372036854775808 ≤ x.decay ∧ x.decay ≤ 9223372036854775807)
theorem enc_len (x : Rtt) : x.enc.length = 5 := by simp [enc]
theorem enc_sub (x : Rtt) : SubL x.enc 0 5 x.enc := by have := SubL.all x.enc; rwa [enc_len] at this
theorem sub_on_ (x : Rtt) : SubL x.enc 0 1 ([.bool x.on_]) := by have := seg_sub (segs := [[.bool x.on_], [.int .i64 x.min], [.int .i64 x.max], [.int .i64 x.cost], [.int .i64 x.decay]]) (i := 0) rfl; simpa [enc, lens] using this
theorem set_on_ (x : Rtt) (v : Bool) : SetL x.enc 0 1 ([.bool v]) ({ x with on_ := v } : Rtt).enc := by have := seg_set (segs := [[.bool x.on_], [.int .i64 x.min], [.int .i64 x.max], [.int .i64 x.cost], [.int .i64 x.decay]]) (i := 0) (s := [.bool v]) rfl (by simp); simpa [enc, lens] using this
theorem sub_min (x : Rtt) : SubL x.enc 1 1 ([.int .i64 x.min]) := by have := seg_sub (segs := [[.bool x.on_], [.int .i64 x.min], [.int .i64 x.max], [.int .i64 x.cost], [.int .i64 x.decay]]) (i := 1) rfl; simpa [enc, lens] using this
theorem set_min (x : Rtt) (v : Int) : SetL x.enc 1 1 ([.int .i64 v]) ({ x with min := v } : Rtt).enc := by have := seg_set (segs := [[.bool x.on_], [.int .i64 x.min], [.int .i64 x.max], [.int .i64 x.cost], [.int .i64 x.decay]]) (i := 1) (s := [.int .i64 v]) rfl (by simp); simpa [enc, lens] using this
theorem sub_max (x : Rtt) : SubL x.enc 2 1 ([.int .i64 x.max]) := by have := seg_sub (segs := [[.bool x.on_], [.int .i64 x.min], [.int .i64 x.max], [.int .i64 x.cost], [.int .i64 x.decay]]) (i := 2) rfl; simpa [enc, lens] using this
theorem set_max (x : Rtt) (v : Int) : SetL x.enc 2 1 ([.int .i64 v]) ({ x with max := v } : Rtt).enc := by have := seg_set (segs := [[.bool x.on_], [.int .i64 x.min], [.int .i64 x.max], [.int .i64 x.cost], [.int .i64 x.decay]]) (i := 2) (s := [.int .i64 v]) rfl (by simp); simpa [enc, lens] using this
theorem sub_cost (x : Rtt) : SubL x.enc 3 1 ([.int .i64 x.cost]) := by have := seg_sub (segs := [[.bool x.on_], [.int .i64 x.min], [.int .i64 x.max], [.int .i64 x.cost], [.int .i64 x.decay]]) (i := 3) rfl; simpa [enc, lens] using this
theorem set_cost (x : Rtt) (v : Int) : SetL x.enc 3 1 ([.int .i64 v]) ({ x with cost := v } : Rtt).enc := by have := seg_set (segs := [[.bool x.on_], [.int .i64 x.min], [.int .i64 x.max], [.int .i64 x.cost], [.int .i64 x.decay]]) (i := 3) (s := [.int .i64 v]) rfl (by simp); simpa [enc, lens] using this
theorem sub_decay (x : Rtt) : SubL x.enc 4 1 ([.int .i64 x.decay]) := by have := seg_sub (segs := [[.bool x.on_], [.int .i64 x.min], [.int .i64 x.max], [.int .i64 x.cost], [.int .i64 x.decay]]) (i := 4) rfl; simpa [enc, lens] using this
theorem set_decay (x : Rtt) (v : Int) : SetL x.enc 4 1 ([.int .i64 v]) ({ x with decay := v } : Rtt).enc := by have := seg_set (segs := [[.bool x.on_], [.int .i64 x.min], [.int .i64 x.max], [.int .i64 x.cost], [.int .i64 x.decay]]) (i := 4) (s := [.int .i64 v]) rfl (by simp); simpa [enc, lens] using this
theorem enc_cell (x : Rtt) : ∀ v ∈ x.enc, Value.cellB v = true := cells_flatten (cells_cons (cell_one rfl) (cells_cons (cell_one rfl) (cells_cons (cell_one rfl) (cells_cons (cell_one rfl) (cells_cons (cell_one rfl) cells_nil)))))
def zero : Rtt := ⟨false, 0, 0, 0, 0⟩
def segs : List (List Value) := [[.bool zero.on_], [.int .i64 zero.min], [.int .i64 zero.max], [.int .i64 zero.cost], [.int .i64 zero.decay]]
theorem enc_inj {x y : Rtt} (h0 : x.enc = y.enc) : x = y := by
  obtain ⟨a0, a1, a2, a3, a4⟩ := x
  obtain ⟨b0, b1, b2, b3, b4⟩ := y
  simp only [enc, List.flatten_cons, List.flatten_nil, List.append_nil] at h0
  obtain ⟨e0, h1⟩ := List.append_inj h0 (rfl)
  obtain rfl : a0 = b0 := by simpa using e0
  obtain ⟨e1, h2⟩ := List.append_inj h1 (rfl)
  obtain rfl : a1 = b1 := by simpa using e1
  obtain ⟨e2, h3⟩ := List.append_inj h2 (rfl)
  obtain rfl : a2 = b2 := by simpa using e2
  obtain ⟨e3, h4⟩ := List.append_inj h3 (rfl)
  obtain rfl : a3 = b3 := by simpa using e3
  obtain rfl : a4 = b4 := by simpa using h4
  rfl
end Rtt
structure IfConf where
  name : ByteArray
  kind : Int
  cost : Int
  hello : Int
  update : Int
  mtu : Int
  addr : Bs 16
  addr4 : Bs 16
  rtt : Rtt
deriving DecidableEq
namespace IfConf
def enc (x : IfConf) : List Value := [[.string x.name], [.int .i64 x.kind], [.int .i64 x.cost], [.int .i64 x.hello], [.int .i64 x.update], [.int .i64 x.mtu], x.addr.enc, x.addr4.enc, x.rtt.enc].flatten
/-- Its numbers are numbers of their kinds. -/
def WF (x : IfConf) : Prop := True ∧ (-9223372036854775808 ≤ x.kind ∧ x.kind ≤ 9223372036854775807) ∧ (-9223372036854775808 ≤ x.cost ∧ x.cost ≤ 9223372036854775807) ∧ (-9223372036854775808 ≤ x.hello ∧ x.hello ≤ 9223372036854775807) ∧ (-9223372036854775808 ≤ x.update ∧ x.update ≤ 9223372036854775807) ∧ (-9223372036854775808 ≤ x.mtu ∧ x.mtu ≤ 9223372036854775807) ∧ True ∧ True ∧ x.rtt.WF
theorem enc_len (x : IfConf) : x.enc.length = 43 := by simp [enc, Bs.len, Rtt.enc_len]
theorem enc_sub (x : IfConf) : SubL x.enc 0 43 x.enc := by have := SubL.all x.enc; rwa [enc_len] at this
theorem sub_name (x : IfConf) : SubL x.enc 0 1 ([.string x.name]) := by have := seg_sub (segs := [[.string x.name], [.int .i64 x.kind], [.int .i64 x.cost], [.int .i64 x.hello], [.int .i64 x.update], [.int .i64 x.mtu], x.addr.enc, x.addr4.enc, x.rtt.enc]) (i := 0) rfl; simpa [enc, lens, Bs.len, Rtt.enc_len] using this
theorem set_name (x : IfConf) (v : ByteArray) : SetL x.enc 0 1 ([.string v]) ({ x with name := v } : IfConf).enc := by have := seg_set (segs := [[.string x.name], [.int .i64 x.kind], [.int .i64 x.cost], [.int .i64 x.hello], [.int .i64 x.update], [.int .i64 x.mtu], x.addr.enc, x.addr4.enc, x.rtt.enc]) (i := 0) (s := [.string v]) rfl (by simp); simpa [enc, lens, Bs.len, Rtt.enc_len] using this
theorem sub_kind (x : IfConf) : SubL x.enc 1 1 ([.int .i64 x.kind]) := by have := seg_sub (segs := [[.string x.name], [.int .i64 x.kind], [.int .i64 x.cost], [.int .i64 x.hello], [.int .i64 x.update], [.int .i64 x.mtu], x.addr.enc, x.addr4.enc, x.rtt.enc]) (i := 1) rfl; simpa [enc, lens, Bs.len, Rtt.enc_len] using this
theorem set_kind (x : IfConf) (v : Int) : SetL x.enc 1 1 ([.int .i64 v]) ({ x with kind := v } : IfConf).enc := by have := seg_set (segs := [[.string x.name], [.int .i64 x.kind], [.int .i64 x.cost], [.int .i64 x.hello], [.int .i64 x.update], [.int .i64 x.mtu], x.addr.enc, x.addr4.enc, x.rtt.enc]) (i := 1) (s := [.int .i64 v]) rfl (by simp); simpa [enc, lens, Bs.len, Rtt.enc_len] using this
theorem sub_cost (x : IfConf) : SubL x.enc 2 1 ([.int .i64 x.cost]) := by have := seg_sub (segs := [[.string x.name], [.int .i64 x.kind], [.int .i64 x.cost], [.int .i64 x.hello], [.int .i64 x.update], [.int .i64 x.mtu], x.addr.enc, x.addr4.enc, x.rtt.enc]) (i := 2) rfl; simpa [enc, lens, Bs.len, Rtt.enc_len] using this
theorem set_cost (x : IfConf) (v : Int) : SetL x.enc 2 1 ([.int .i64 v]) ({ x with cost := v } : IfConf).enc := by have := seg_set (segs := [[.string x.name], [.int .i64 x.kind], [.int .i64 x.cost], [.int .i64 x.hello], [.int .i64 x.update], [.int .i64 x.mtu], x.addr.enc, x.addr4.enc, x.rtt.enc]) (i := 2) (s := [.int .i64 v]) rfl (by simp); simpa [enc, lens, Bs.len, Rtt.enc_len] using this
theorem sub_hello (x : IfConf) : SubL x.enc 3 1 ([.int .i64 x.hello]) := by have := seg_sub (segs := [[.string x.name], [.int .i64 x.kind], [.int .i64 x.cost], [.int .i64 x.hello], [.int .i64 x.update], [.int .i64 x.mtu], x.addr.enc, x.addr4.enc, x.rtt.enc]) (i := 3) rfl; simpa [enc, lens, Bs.len, Rtt.enc_len] using this
theorem set_hello (x : IfConf) (v : Int) : SetL x.enc 3 1 ([.int .i64 v]) ({ x with hello := v } : IfConf).enc := by have := seg_set (segs := [[.string x.name], [.int .i64 x.kind], [.int .i64 x.cost], [.int .i64 x.hello], [.int .i64 x.update], [.int .i64 x.mtu], x.addr.enc, x.addr4.enc, x.rtt.enc]) (i := 3) (s := [.int .i64 v]) rfl (by simp); simpa [enc, lens, Bs.len, Rtt.enc_len] using this
theorem sub_update (x : IfConf) : SubL x.enc 4 1 ([.int .i64 x.update]) := by have := seg_sub (segs := [[.string x.name], [.int .i64 x.kind], [.int .i64 x.cost], [.int .i64 x.hello], [.int .i64 x.update], [.int .i64 x.mtu], x.addr.enc, x.addr4.enc, x.rtt.enc]) (i := 4) rfl; simpa [enc, lens, Bs.len, Rtt.enc_len] using this
theorem set_update (x : IfConf) (v : Int) : SetL x.enc 4 1 ([.int .i64 v]) ({ x with update := v } : IfConf).enc := by have := seg_set (segs := [[.string x.name], [.int .i64 x.kind], [.int .i64 x.cost], [.int .i64 x.hello], [.int .i64 x.update], [.int .i64 x.mtu], x.addr.enc, x.addr4.enc, x.rtt.enc]) (i := 4) (s := [.int .i64 v]) rfl (by simp); simpa [enc, lens, Bs.len, Rtt.enc_len] using this
theorem sub_mtu (x : IfConf) : SubL x.enc 5 1 ([.int .i64 x.mtu]) := by have := seg_sub (segs := [[.string x.name], [.int .i64 x.kind], [.int .i64 x.cost], [.int .i64 x.hello], [.int .i64 x.update], [.int .i64 x.mtu], x.addr.enc, x.addr4.enc, x.rtt.enc]) (i := 5) rfl; simpa [enc, lens, Bs.len, Rtt.enc_len] using this
theorem set_mtu (x : IfConf) (v : Int) : SetL x.enc 5 1 ([.int .i64 v]) ({ x with mtu := v } : IfConf).enc := by have := seg_set (segs := [[.string x.name], [.int .i64 x.kind], [.int .i64 x.cost], [.int .i64 x.hello], [.int .i64 x.update], [.int .i64 x.mtu], x.addr.enc, x.addr4.enc, x.rtt.enc]) (i := 5) (s := [.int .i64 v]) rfl (by simp); simpa [enc, lens, Bs.len, Rtt.enc_len] using this
theorem sub_addr (x : IfConf) : SubL x.enc 6 16 (x.addr.enc) := by have := seg_sub (segs := [[.string x.name], [.int .i64 x.kind], [.int .i64 x.cost], [.int .i64 x.hello], [.int .i64 x.update], [.int .i64 x.mtu], x.addr.enc, x.addr4.enc, x.rtt.enc]) (i := 6) rfl; simpa [enc, lens, Bs.len, Rtt.enc_len] using this
theorem set_addr (x : IfConf) (v : Bs 16) : SetL x.enc 6 16 (v.enc) ({ x with addr := v } : IfConf).enc := by have := seg_set (segs := [[.string x.name], [.int .i64 x.kind], [.int .i64 x.cost], [.int .i64 x.hello], [.int .i64 x.update], [.int .i64 x.mtu], x.addr.enc, x.addr4.enc, x.rtt.enc]) (i := 6) (s := v.enc) rfl (by simp [Bs.len]); simpa [enc, lens, Bs.len, Rtt.enc_len] using this
theorem sub_addr4 (x : IfConf) : SubL x.enc 22 16 (x.addr4.enc) := by have := seg_sub (segs := [[.string x.name], [.int .i64 x.kind], [.int .i64 x.cost], [.int .i64 x.hello], [.int .i64 x.update], [.int .i64 x.mtu], x.addr.enc, x.addr4.enc, x.rtt.enc]) (i := 7) rfl; simpa [enc, lens, Bs.len, Rtt.enc_len] using this
theorem set_addr4 (x : IfConf) (v : Bs 16) : SetL x.enc 22 16 (v.enc) ({ x with addr4 := v } : IfConf).enc := by have := seg_set (segs := [[.string x.name], [.int .i64 x.kind], [.int .i64 x.cost], [.int .i64 x.hello], [.int .i64 x.update], [.int .i64 x.mtu], x.addr.enc, x.addr4.enc, x.rtt.enc]) (i := 7) (s := v.enc) rfl (by simp [Bs.len]); simpa [enc, lens, Bs.len, Rtt.enc_len] using this
theorem sub_rtt (x : IfConf) : SubL x.enc 38 5 (x.rtt.enc) := by have := seg_sub (segs := [[.string x.name], [.int .i64 x.kind], [.int .i64 x.cost], [.int .i64 x.hello], [.int .i64 x.update], [.int .i64 x.mtu], x.addr.enc, x.addr4.enc, x.rtt.enc]) (i := 8) rfl; simpa [enc, lens, Bs.len, Rtt.enc_len] using this
theorem set_rtt (x : IfConf) (v : Rtt) : SetL x.enc 38 5 (v.enc) ({ x with rtt := v } : IfConf).enc := by have := seg_set (segs := [[.string x.name], [.int .i64 x.kind], [.int .i64 x.cost], [.int .i64 x.hello], [.int .i64 x.update], [.int .i64 x.mtu], x.addr.enc, x.addr4.enc, x.rtt.enc]) (i := 8) (s := v.enc) rfl (by simp [Rtt.enc_len]); simpa [enc, lens, Bs.len, Rtt.enc_len] using this
theorem enc_cell (x : IfConf) : ∀ v ∈ x.enc, Value.cellB v = true := cells_flatten (cells_cons (cell_one rfl) (cells_cons (cell_one rfl) (cells_cons (cell_one rfl) (cells_cons (cell_one rfl) (cells_cons (cell_one rfl) (cells_cons (cell_one rfl) (cells_cons (Bs.cell x.addr) (cells_cons (Bs.cell x.addr4) (cells_cons (Rtt.enc_cell x.rtt) cells_nil)))))))))
def zero : IfConf := ⟨ByteArray.empty, 0, 0, 0, 0, 0, (Bs.zero 16), (Bs.zero 16), Rtt.zero⟩
def segs : List (List Value) := [[.string zero.name], [.int .i64 zero.kind], [.int .i64 zero.cost], [.int .i64 zero.hello], [.int .i64 zero.update], [.int .i64 zero.mtu], zero.addr.enc, zero.addr4.enc, zero.rtt.enc]
theorem enc_inj {x y : IfConf} (h0 : x.enc = y.enc) : x = y := by
  obtain ⟨a0, a1, a2, a3, a4, a5, a6, a7, a8⟩ := x
  obtain ⟨b0, b1, b2, b3, b4, b5, b6, b7, b8⟩ := y
  simp only [enc, List.flatten_cons, List.flatten_nil, List.append_nil] at h0
  obtain ⟨e0, h1⟩ := List.append_inj h0 (rfl)
  obtain rfl : a0 = b0 := by simpa using e0
  obtain ⟨e1, h2⟩ := List.append_inj h1 (rfl)
  obtain rfl : a1 = b1 := by simpa using e1
  obtain ⟨e2, h3⟩ := List.append_inj h2 (rfl)
  obtain rfl : a2 = b2 := by simpa using e2
  obtain ⟨e3, h4⟩ := List.append_inj h3 (rfl)
  obtain rfl : a3 = b3 := by simpa using e3
  obtain ⟨e4, h5⟩ := List.append_inj h4 (rfl)
  obtain rfl : a4 = b4 := by simpa using e4
  obtain ⟨e5, h6⟩ := List.append_inj h5 (rfl)
  obtain rfl : a5 = b5 := by simpa using e5
  obtain ⟨e6, h7⟩ := List.append_inj h6 (by rw [Bs.len, Bs.len])
  obtain rfl := Bs.enc_inj e6
  obtain ⟨e7, h8⟩ := List.append_inj h7 (by rw [Bs.len, Bs.len])
  obtain rfl := Bs.enc_inj e7
  obtain rfl := Rtt.enc_inj h8
  rfl
end IfConf
structure Config where
  id_ : Bs 8
  ifs : Slc
  rules : Slc
  locals : Slc
  neighbours : Int
  sources : Int
  routes : Int
  requests : Int
namespace Config
def enc (x : Config) : List Value := [x.id_.enc, [Slc.v x.ifs], [Slc.v x.rules], [Slc.v x.locals], [.int .i64 x.neighbours], [.int .i64 x.sources], [.int .i64 x.routes], [.int .i64 x.requests]].flatten
/-- Its numbers are numbers of their kinds. -/
def WF (x : Config) : Prop := True ∧ True ∧ True ∧ True ∧ (-9223372036854775808 ≤ x.neighbours ∧ x.neighbours ≤ 9223372036854775807) ∧ (-9223372036854775808 ≤ x.sources ∧ x.sources ≤ 9223372036854775807) ∧ (-9223372036854775808 ≤ x.routes ∧ x.routes ≤ 9223372036854775807) ∧ (-9223372036854775808 ≤ x.requests ∧ x.requests ≤ 9223372036854775807)
theorem enc_len (x : Config) : x.enc.length = 15 := by simp [enc, Bs.len]
theorem enc_sub (x : Config) : SubL x.enc 0 15 x.enc := by have := SubL.all x.enc; rwa [enc_len] at this
theorem sub_id_ (x : Config) : SubL x.enc 0 8 (x.id_.enc) := by have := seg_sub (segs := [x.id_.enc, [Slc.v x.ifs], [Slc.v x.rules], [Slc.v x.locals], [.int .i64 x.neighbours], [.int .i64 x.sources], [.int .i64 x.routes], [.int .i64 x.requests]]) (i := 0) rfl; simpa [enc, lens, Bs.len] using this
theorem set_id_ (x : Config) (v : Bs 8) : SetL x.enc 0 8 (v.enc) ({ x with id_ := v } : Config).enc := by have := seg_set (segs := [x.id_.enc, [Slc.v x.ifs], [Slc.v x.rules], [Slc.v x.locals], [.int .i64 x.neighbours], [.int .i64 x.sources], [.int .i64 x.routes], [.int .i64 x.requests]]) (i := 0) (s := v.enc) rfl (by simp [Bs.len]); simpa [enc, lens, Bs.len] using this
theorem sub_ifs (x : Config) : SubL x.enc 8 1 ([Slc.v x.ifs]) := by have := seg_sub (segs := [x.id_.enc, [Slc.v x.ifs], [Slc.v x.rules], [Slc.v x.locals], [.int .i64 x.neighbours], [.int .i64 x.sources], [.int .i64 x.routes], [.int .i64 x.requests]]) (i := 1) rfl; simpa [enc, lens, Bs.len] using this
theorem set_ifs (x : Config) (v : Slc) : SetL x.enc 8 1 ([Slc.v v]) ({ x with ifs := v } : Config).enc := by have := seg_set (segs := [x.id_.enc, [Slc.v x.ifs], [Slc.v x.rules], [Slc.v x.locals], [.int .i64 x.neighbours], [.int .i64 x.sources], [.int .i64 x.routes], [.int .i64 x.requests]]) (i := 1) (s := [Slc.v v]) rfl (by simp); simpa [enc, lens, Bs.len] using this
theorem sub_rules (x : Config) : SubL x.enc 9 1 ([Slc.v x.rules]) := by have := seg_sub (segs := [x.id_.enc, [Slc.v x.ifs], [Slc.v x.rules], [Slc.v x.locals], [.int .i64 x.neighbours], [.int .i64 x.sources], [.int .i64 x.routes], [.int .i64 x.requests]]) (i := 2) rfl; simpa [enc, lens, Bs.len] using this
theorem set_rules (x : Config) (v : Slc) : SetL x.enc 9 1 ([Slc.v v]) ({ x with rules := v } : Config).enc := by have := seg_set (segs := [x.id_.enc, [Slc.v x.ifs], [Slc.v x.rules], [Slc.v x.locals], [.int .i64 x.neighbours], [.int .i64 x.sources], [.int .i64 x.routes], [.int .i64 x.requests]]) (i := 2) (s := [Slc.v v]) rfl (by simp); simpa [enc, lens, Bs.len] using this
theorem sub_locals (x : Config) : SubL x.enc 10 1 ([Slc.v x.locals]) := by have := seg_sub (segs := [x.id_.enc, [Slc.v x.ifs], [Slc.v x.rules], [Slc.v x.locals], [.int .i64 x.neighbours], [.int .i64 x.sources], [.int .i64 x.routes], [.int .i64 x.requests]]) (i := 3) rfl; simpa [enc, lens, Bs.len] using this
theorem set_locals (x : Config) (v : Slc) : SetL x.enc 10 1 ([Slc.v v]) ({ x with locals := v } : Config).enc := by have := seg_set (segs := [x.id_.enc, [Slc.v x.ifs], [Slc.v x.rules], [Slc.v x.locals], [.int .i64 x.neighbours], [.int .i64 x.sources], [.int .i64 x.routes], [.int .i64 x.requests]]) (i := 3) (s := [Slc.v v]) rfl (by simp); simpa [enc, lens, Bs.len] using this
theorem sub_neighbours (x : Config) : SubL x.enc 11 1 ([.int .i64 x.neighbours]) := by have := seg_sub (segs := [x.id_.enc, [Slc.v x.ifs], [Slc.v x.rules], [Slc.v x.locals], [.int .i64 x.neighbours], [.int .i64 x.sources], [.int .i64 x.routes], [.int .i64 x.requests]]) (i := 4) rfl; simpa [enc, lens, Bs.len] using this
theorem set_neighbours (x : Config) (v : Int) : SetL x.enc 11 1 ([.int .i64 v]) ({ x with neighbours := v } : Config).enc := by have := seg_set (segs := [x.id_.enc, [Slc.v x.ifs], [Slc.v x.rules], [Slc.v x.locals], [.int .i64 x.neighbours], [.int .i64 x.sources], [.int .i64 x.routes], [.int .i64 x.requests]]) (i := 4) (s := [.int .i64 v]) rfl (by simp); simpa [enc, lens, Bs.len] using this
theorem sub_sources (x : Config) : SubL x.enc 12 1 ([.int .i64 x.sources]) := by have := seg_sub (segs := [x.id_.enc, [Slc.v x.ifs], [Slc.v x.rules], [Slc.v x.locals], [.int .i64 x.neighbours], [.int .i64 x.sources], [.int .i64 x.routes], [.int .i64 x.requests]]) (i := 5) rfl; simpa [enc, lens, Bs.len] using this
theorem set_sources (x : Config) (v : Int) : SetL x.enc 12 1 ([.int .i64 v]) ({ x with sources := v } : Config).enc := by have := seg_set (segs := [x.id_.enc, [Slc.v x.ifs], [Slc.v x.rules], [Slc.v x.locals], [.int .i64 x.neighbours], [.int .i64 x.sources], [.int .i64 x.routes], [.int .i64 x.requests]]) (i := 5) (s := [.int .i64 v]) rfl (by simp); simpa [enc, lens, Bs.len] using this
theorem sub_routes (x : Config) : SubL x.enc 13 1 ([.int .i64 x.routes]) := by have := seg_sub (segs := [x.id_.enc, [Slc.v x.ifs], [Slc.v x.rules], [Slc.v x.locals], [.int .i64 x.neighbours], [.int .i64 x.sources], [.int .i64 x.routes], [.int .i64 x.requests]]) (i := 6) rfl; simpa [enc, lens, Bs.len] using this
theorem set_routes (x : Config) (v : Int) : SetL x.enc 13 1 ([.int .i64 v]) ({ x with routes := v } : Config).enc := by have := seg_set (segs := [x.id_.enc, [Slc.v x.ifs], [Slc.v x.rules], [Slc.v x.locals], [.int .i64 x.neighbours], [.int .i64 x.sources], [.int .i64 x.routes], [.int .i64 x.requests]]) (i := 6) (s := [.int .i64 v]) rfl (by simp); simpa [enc, lens, Bs.len] using this
theorem sub_requests (x : Config) : SubL x.enc 14 1 ([.int .i64 x.requests]) := by have := seg_sub (segs := [x.id_.enc, [Slc.v x.ifs], [Slc.v x.rules], [Slc.v x.locals], [.int .i64 x.neighbours], [.int .i64 x.sources], [.int .i64 x.routes], [.int .i64 x.requests]]) (i := 7) rfl; simpa [enc, lens, Bs.len] using this
theorem set_requests (x : Config) (v : Int) : SetL x.enc 14 1 ([.int .i64 v]) ({ x with requests := v } : Config).enc := by have := seg_set (segs := [x.id_.enc, [Slc.v x.ifs], [Slc.v x.rules], [Slc.v x.locals], [.int .i64 x.neighbours], [.int .i64 x.sources], [.int .i64 x.routes], [.int .i64 x.requests]]) (i := 7) (s := [.int .i64 v]) rfl (by simp); simpa [enc, lens, Bs.len] using this
theorem enc_cell (x : Config) : ∀ v ∈ x.enc, Value.cellB v = true := cells_flatten (cells_cons (Bs.cell x.id_) (cells_cons (cell_one rfl) (cells_cons (cell_one rfl) (cells_cons (cell_one rfl) (cells_cons (cell_one rfl) (cells_cons (cell_one rfl) (cells_cons (cell_one rfl) (cells_cons (cell_one rfl) cells_nil))))))))
def zero : Config := ⟨(Bs.zero 8), Slc.zero, Slc.zero, Slc.zero, 0, 0, 0, 0⟩
def segs : List (List Value) := [zero.id_.enc, [Slc.v zero.ifs], [Slc.v zero.rules], [Slc.v zero.locals], [.int .i64 zero.neighbours], [.int .i64 zero.sources], [.int .i64 zero.routes], [.int .i64 zero.requests]]
end Config
structure NeighTable where
  most : Int
  ifs : Slc
  m : Option Nat
namespace NeighTable
def enc (x : NeighTable) : List Value := [[.int .i64 x.most], [Slc.v x.ifs], [.map x.m]].flatten
/-- Its numbers are numbers of their kinds. -/
def WF (x : NeighTable) : Prop := (-9223372036854775808 ≤ x.most ∧ x.most ≤ 9223372036854775807) ∧ True ∧ True
theorem enc_len (x : NeighTable) : x.enc.length = 3 := by simp [enc]
theorem enc_sub (x : NeighTable) : SubL x.enc 0 3 x.enc := by have := SubL.all x.enc; rwa [enc_len] at this
theorem sub_most (x : NeighTable) : SubL x.enc 0 1 ([.int .i64 x.most]) := by have := seg_sub (segs := [[.int .i64 x.most], [Slc.v x.ifs], [.map x.m]]) (i := 0) rfl; simpa [enc, lens] using this
theorem set_most (x : NeighTable) (v : Int) : SetL x.enc 0 1 ([.int .i64 v]) ({ x with most := v } : NeighTable).enc := by have := seg_set (segs := [[.int .i64 x.most], [Slc.v x.ifs], [.map x.m]]) (i := 0) (s := [.int .i64 v]) rfl (by simp); simpa [enc, lens] using this
theorem sub_ifs (x : NeighTable) : SubL x.enc 1 1 ([Slc.v x.ifs]) := by have := seg_sub (segs := [[.int .i64 x.most], [Slc.v x.ifs], [.map x.m]]) (i := 1) rfl; simpa [enc, lens] using this
theorem set_ifs (x : NeighTable) (v : Slc) : SetL x.enc 1 1 ([Slc.v v]) ({ x with ifs := v } : NeighTable).enc := by have := seg_set (segs := [[.int .i64 x.most], [Slc.v x.ifs], [.map x.m]]) (i := 1) (s := [Slc.v v]) rfl (by simp); simpa [enc, lens] using this
theorem sub_m (x : NeighTable) : SubL x.enc 2 1 ([.map x.m]) := by have := seg_sub (segs := [[.int .i64 x.most], [Slc.v x.ifs], [.map x.m]]) (i := 2) rfl; simpa [enc, lens] using this
theorem set_m (x : NeighTable) (v : Option Nat) : SetL x.enc 2 1 ([.map v]) ({ x with m := v } : NeighTable).enc := by have := seg_set (segs := [[.int .i64 x.most], [Slc.v x.ifs], [.map x.m]]) (i := 2) (s := [.map v]) rfl (by simp); simpa [enc, lens] using this
theorem enc_cell (x : NeighTable) : ∀ v ∈ x.enc, Value.cellB v = true := cells_flatten (cells_cons (cell_one rfl) (cells_cons (cell_one rfl) (cells_cons (cell_one rfl) cells_nil)))
def zero : NeighTable := ⟨0, Slc.zero, none⟩
def segs : List (List Value) := [[.int .i64 zero.most], [Slc.v zero.ifs], [.map zero.m]]
end NeighTable
structure NeighKey where
  i : I64
  from_ : Bs 16
deriving DecidableEq
namespace NeighKey
def enc (x : NeighKey) : List Value := [[I64.v x.i], x.from_.enc].flatten
/-- Its numbers are numbers of their kinds. -/
def WF (x : NeighKey) : Prop := True ∧ True
theorem enc_len (x : NeighKey) : x.enc.length = 17 := by simp [enc, Bs.len]
theorem enc_sub (x : NeighKey) : SubL x.enc 0 17 x.enc := by have := SubL.all x.enc; rwa [enc_len] at this
theorem sub_i (x : NeighKey) : SubL x.enc 0 1 ([I64.v x.i]) := by have := seg_sub (segs := [[I64.v x.i], x.from_.enc]) (i := 0) rfl; simpa [enc, lens, Bs.len] using this
theorem set_i (x : NeighKey) (v : I64) : SetL x.enc 0 1 ([I64.v v]) ({ x with i := v } : NeighKey).enc := by have := seg_set (segs := [[I64.v x.i], x.from_.enc]) (i := 0) (s := [I64.v v]) rfl (by simp); simpa [enc, lens, Bs.len] using this
theorem sub_from_ (x : NeighKey) : SubL x.enc 1 16 (x.from_.enc) := by have := seg_sub (segs := [[I64.v x.i], x.from_.enc]) (i := 1) rfl; simpa [enc, lens, Bs.len] using this
theorem set_from_ (x : NeighKey) (v : Bs 16) : SetL x.enc 1 16 (v.enc) ({ x with from_ := v } : NeighKey).enc := by have := seg_set (segs := [[I64.v x.i], x.from_.enc]) (i := 1) (s := v.enc) rfl (by simp [Bs.len]); simpa [enc, lens, Bs.len] using this
theorem enc_cell (x : NeighKey) : ∀ v ∈ x.enc, Value.cellB v = true := cells_flatten (cells_cons (cell_one rfl) (cells_cons (Bs.cell x.from_) cells_nil))
def zero : NeighKey := ⟨(⟨0, by omega⟩ : I64), (Bs.zero 16)⟩
def segs : List (List Value) := [[I64.v zero.i], zero.from_.enc]
theorem enc_inj {x y : NeighKey} (h0 : x.enc = y.enc) : x = y := by
  obtain ⟨a0, a1⟩ := x
  obtain ⟨b0, b1⟩ := y
  simp only [enc, List.flatten_cons, List.flatten_nil, List.append_nil] at h0
  obtain ⟨e0, h1⟩ := List.append_inj h0 (rfl)
  obtain rfl := I64.inj (by simpa using e0)
  obtain rfl := Bs.enc_inj h1
  rfl
end NeighKey
structure Rule where
  chain : Int
  if_ : ByteArray
  dst : Prefix
  hasDst : Bool
  ge : Int
  le : Int
  src : Prefix
  hasSrc : Bool
  id_ : Bs 8
  deny : Bool
  add : Int
deriving DecidableEq
namespace Rule
def enc (x : Rule) : List Value := [[.int .i64 x.chain], [.string x.if_], x.dst.enc, [.bool x.hasDst], [.int .i64 x.ge], [.int .i64 x.le], x.src.enc, [.bool x.hasSrc], x.id_.enc, [.bool x.deny], [.int .i64 x.add]].flatten
/-- Its numbers are numbers of their kinds. -/
def WF (x : Rule) : Prop := (-9223372036854775808 ≤ x.chain ∧ x.chain ≤ 9223372036854775807) ∧ True ∧ x.dst.WF ∧ True ∧ (-9223372036854775808 ≤ x.ge ∧ x.ge ≤ 9223372036854775807) ∧ (-9223372036854775808 ≤ x.le ∧ x.le ≤ 9223372036854775807) ∧ x.src.WF ∧ True ∧ True ∧ True ∧ (-9223372036854775808 ≤ x.add ∧ x.add ≤ 9223372036854775807)
theorem enc_len (x : Rule) : x.enc.length = 50 := by simp [enc, Bs.len, Prefix.enc_len]
theorem enc_sub (x : Rule) : SubL x.enc 0 50 x.enc := by have := SubL.all x.enc; rwa [enc_len] at this
theorem sub_chain (x : Rule) : SubL x.enc 0 1 ([.int .i64 x.chain]) := by have := seg_sub (segs := [[.int .i64 x.chain], [.string x.if_], x.dst.enc, [.bool x.hasDst], [.int .i64 x.ge], [.int .i64 x.le], x.src.enc, [.bool x.hasSrc], x.id_.enc, [.bool x.deny], [.int .i64 x.add]]) (i := 0) rfl; simpa [enc, lens, Bs.len, Prefix.enc_len] using this
theorem set_chain (x : Rule) (v : Int) : SetL x.enc 0 1 ([.int .i64 v]) ({ x with chain := v } : Rule).enc := by have := seg_set (segs := [[.int .i64 x.chain], [.string x.if_], x.dst.enc, [.bool x.hasDst], [.int .i64 x.ge], [.int .i64 x.le], x.src.enc, [.bool x.hasSrc], x.id_.enc, [.bool x.deny], [.int .i64 x.add]]) (i := 0) (s := [.int .i64 v]) rfl (by simp); simpa [enc, lens, Bs.len, Prefix.enc_len] using this
theorem sub_if_ (x : Rule) : SubL x.enc 1 1 ([.string x.if_]) := by have := seg_sub (segs := [[.int .i64 x.chain], [.string x.if_], x.dst.enc, [.bool x.hasDst], [.int .i64 x.ge], [.int .i64 x.le], x.src.enc, [.bool x.hasSrc], x.id_.enc, [.bool x.deny], [.int .i64 x.add]]) (i := 1) rfl; simpa [enc, lens, Bs.len, Prefix.enc_len] using this
theorem set_if_ (x : Rule) (v : ByteArray) : SetL x.enc 1 1 ([.string v]) ({ x with if_ := v } : Rule).enc := by have := seg_set (segs := [[.int .i64 x.chain], [.string x.if_], x.dst.enc, [.bool x.hasDst], [.int .i64 x.ge], [.int .i64 x.le], x.src.enc, [.bool x.hasSrc], x.id_.enc, [.bool x.deny], [.int .i64 x.add]]) (i := 1) (s := [.string v]) rfl (by simp); simpa [enc, lens, Bs.len, Prefix.enc_len] using this
theorem sub_dst (x : Rule) : SubL x.enc 2 17 (x.dst.enc) := by have := seg_sub (segs := [[.int .i64 x.chain], [.string x.if_], x.dst.enc, [.bool x.hasDst], [.int .i64 x.ge], [.int .i64 x.le], x.src.enc, [.bool x.hasSrc], x.id_.enc, [.bool x.deny], [.int .i64 x.add]]) (i := 2) rfl; simpa [enc, lens, Bs.len, Prefix.enc_len] using this
theorem set_dst (x : Rule) (v : Prefix) : SetL x.enc 2 17 (v.enc) ({ x with dst := v } : Rule).enc := by have := seg_set (segs := [[.int .i64 x.chain], [.string x.if_], x.dst.enc, [.bool x.hasDst], [.int .i64 x.ge], [.int .i64 x.le], x.src.enc, [.bool x.hasSrc], x.id_.enc, [.bool x.deny], [.int .i64 x.add]]) (i := 2) (s := v.enc) rfl (by simp [Prefix.enc_len]); simpa [enc, lens, Bs.len, Prefix.enc_len] using this
theorem sub_hasDst (x : Rule) : SubL x.enc 19 1 ([.bool x.hasDst]) := by have := seg_sub (segs := [[.int .i64 x.chain], [.string x.if_], x.dst.enc, [.bool x.hasDst], [.int .i64 x.ge], [.int .i64 x.le], x.src.enc, [.bool x.hasSrc], x.id_.enc, [.bool x.deny], [.int .i64 x.add]]) (i := 3) rfl; simpa [enc, lens, Bs.len, Prefix.enc_len] using this
theorem set_hasDst (x : Rule) (v : Bool) : SetL x.enc 19 1 ([.bool v]) ({ x with hasDst := v } : Rule).enc := by have := seg_set (segs := [[.int .i64 x.chain], [.string x.if_], x.dst.enc, [.bool x.hasDst], [.int .i64 x.ge], [.int .i64 x.le], x.src.enc, [.bool x.hasSrc], x.id_.enc, [.bool x.deny], [.int .i64 x.add]]) (i := 3) (s := [.bool v]) rfl (by simp); simpa [enc, lens, Bs.len, Prefix.enc_len] using this
theorem sub_ge (x : Rule) : SubL x.enc 20 1 ([.int .i64 x.ge]) := by have := seg_sub (segs := [[.int .i64 x.chain], [.string x.if_], x.dst.enc, [.bool x.hasDst], [.int .i64 x.ge], [.int .i64 x.le], x.src.enc, [.bool x.hasSrc], x.id_.enc, [.bool x.deny], [.int .i64 x.add]]) (i := 4) rfl; simpa [enc, lens, Bs.len, Prefix.enc_len] using this
theorem set_ge (x : Rule) (v : Int) : SetL x.enc 20 1 ([.int .i64 v]) ({ x with ge := v } : Rule).enc := by have := seg_set (segs := [[.int .i64 x.chain], [.string x.if_], x.dst.enc, [.bool x.hasDst], [.int .i64 x.ge], [.int .i64 x.le], x.src.enc, [.bool x.hasSrc], x.id_.enc, [.bool x.deny], [.int .i64 x.add]]) (i := 4) (s := [.int .i64 v]) rfl (by simp); simpa [enc, lens, Bs.len, Prefix.enc_len] using this
theorem sub_le (x : Rule) : SubL x.enc 21 1 ([.int .i64 x.le]) := by have := seg_sub (segs := [[.int .i64 x.chain], [.string x.if_], x.dst.enc, [.bool x.hasDst], [.int .i64 x.ge], [.int .i64 x.le], x.src.enc, [.bool x.hasSrc], x.id_.enc, [.bool x.deny], [.int .i64 x.add]]) (i := 5) rfl; simpa [enc, lens, Bs.len, Prefix.enc_len] using this
theorem set_le (x : Rule) (v : Int) : SetL x.enc 21 1 ([.int .i64 v]) ({ x with le := v } : Rule).enc := by have := seg_set (segs := [[.int .i64 x.chain], [.string x.if_], x.dst.enc, [.bool x.hasDst], [.int .i64 x.ge], [.int .i64 x.le], x.src.enc, [.bool x.hasSrc], x.id_.enc, [.bool x.deny], [.int .i64 x.add]]) (i := 5) (s := [.int .i64 v]) rfl (by simp); simpa [enc, lens, Bs.len, Prefix.enc_len] using this
theorem sub_src (x : Rule) : SubL x.enc 22 17 (x.src.enc) := by have := seg_sub (segs := [[.int .i64 x.chain], [.string x.if_], x.dst.enc, [.bool x.hasDst], [.int .i64 x.ge], [.int .i64 x.le], x.src.enc, [.bool x.hasSrc], x.id_.enc, [.bool x.deny], [.int .i64 x.add]]) (i := 6) rfl; simpa [enc, lens, Bs.len, Prefix.enc_len] using this
theorem set_src (x : Rule) (v : Prefix) : SetL x.enc 22 17 (v.enc) ({ x with src := v } : Rule).enc := by have := seg_set (segs := [[.int .i64 x.chain], [.string x.if_], x.dst.enc, [.bool x.hasDst], [.int .i64 x.ge], [.int .i64 x.le], x.src.enc, [.bool x.hasSrc], x.id_.enc, [.bool x.deny], [.int .i64 x.add]]) (i := 6) (s := v.enc) rfl (by simp [Prefix.enc_len]); simpa [enc, lens, Bs.len, Prefix.enc_len] using this
theorem sub_hasSrc (x : Rule) : SubL x.enc 39 1 ([.bool x.hasSrc]) := by have := seg_sub (segs := [[.int .i64 x.chain], [.string x.if_], x.dst.enc, [.bool x.hasDst], [.int .i64 x.ge], [.int .i64 x.le], x.src.enc, [.bool x.hasSrc], x.id_.enc, [.bool x.deny], [.int .i64 x.add]]) (i := 7) rfl; simpa [enc, lens, Bs.len, Prefix.enc_len] using this
theorem set_hasSrc (x : Rule) (v : Bool) : SetL x.enc 39 1 ([.bool v]) ({ x with hasSrc := v } : Rule).enc := by have := seg_set (segs := [[.int .i64 x.chain], [.string x.if_], x.dst.enc, [.bool x.hasDst], [.int .i64 x.ge], [.int .i64 x.le], x.src.enc, [.bool x.hasSrc], x.id_.enc, [.bool x.deny], [.int .i64 x.add]]) (i := 7) (s := [.bool v]) rfl (by simp); simpa [enc, lens, Bs.len, Prefix.enc_len] using this
theorem sub_id_ (x : Rule) : SubL x.enc 40 8 (x.id_.enc) := by have := seg_sub (segs := [[.int .i64 x.chain], [.string x.if_], x.dst.enc, [.bool x.hasDst], [.int .i64 x.ge], [.int .i64 x.le], x.src.enc, [.bool x.hasSrc], x.id_.enc, [.bool x.deny], [.int .i64 x.add]]) (i := 8) rfl; simpa [enc, lens, Bs.len, Prefix.enc_len] using this
theorem set_id_ (x : Rule) (v : Bs 8) : SetL x.enc 40 8 (v.enc) ({ x with id_ := v } : Rule).enc := by have := seg_set (segs := [[.int .i64 x.chain], [.string x.if_], x.dst.enc, [.bool x.hasDst], [.int .i64 x.ge], [.int .i64 x.le], x.src.enc, [.bool x.hasSrc], x.id_.enc, [.bool x.deny], [.int .i64 x.add]]) (i := 8) (s := v.enc) rfl (by simp [Bs.len]); simpa [enc, lens, Bs.len, Prefix.enc_len] using this
theorem sub_deny (x : Rule) : SubL x.enc 48 1 ([.bool x.deny]) := by have := seg_sub (segs := [[.int .i64 x.chain], [.string x.if_], x.dst.enc, [.bool x.hasDst], [.int .i64 x.ge], [.int .i64 x.le], x.src.enc, [.bool x.hasSrc], x.id_.enc, [.bool x.deny], [.int .i64 x.add]]) (i := 9) rfl; simpa [enc, lens, Bs.len, Prefix.enc_len] using this
theorem set_deny (x : Rule) (v : Bool) : SetL x.enc 48 1 ([.bool v]) ({ x with deny := v } : Rule).enc := by have := seg_set (segs := [[.int .i64 x.chain], [.string x.if_], x.dst.enc, [.bool x.hasDst], [.int .i64 x.ge], [.int .i64 x.le], x.src.enc, [.bool x.hasSrc], x.id_.enc, [.bool x.deny], [.int .i64 x.add]]) (i := 9) (s := [.bool v]) rfl (by simp); simpa [enc, lens, Bs.len, Prefix.enc_len] using this
theorem sub_add (x : Rule) : SubL x.enc 49 1 ([.int .i64 x.add]) := by have := seg_sub (segs := [[.int .i64 x.chain], [.string x.if_], x.dst.enc, [.bool x.hasDst], [.int .i64 x.ge], [.int .i64 x.le], x.src.enc, [.bool x.hasSrc], x.id_.enc, [.bool x.deny], [.int .i64 x.add]]) (i := 10) rfl; simpa [enc, lens, Bs.len, Prefix.enc_len] using this
theorem set_add (x : Rule) (v : Int) : SetL x.enc 49 1 ([.int .i64 v]) ({ x with add := v } : Rule).enc := by have := seg_set (segs := [[.int .i64 x.chain], [.string x.if_], x.dst.enc, [.bool x.hasDst], [.int .i64 x.ge], [.int .i64 x.le], x.src.enc, [.bool x.hasSrc], x.id_.enc, [.bool x.deny], [.int .i64 x.add]]) (i := 10) (s := [.int .i64 v]) rfl (by simp); simpa [enc, lens, Bs.len, Prefix.enc_len] using this
theorem enc_cell (x : Rule) : ∀ v ∈ x.enc, Value.cellB v = true := cells_flatten (cells_cons (cell_one rfl) (cells_cons (cell_one rfl) (cells_cons (Prefix.enc_cell x.dst) (cells_cons (cell_one rfl) (cells_cons (cell_one rfl) (cells_cons (cell_one rfl) (cells_cons (Prefix.enc_cell x.src) (cells_cons (cell_one rfl) (cells_cons (Bs.cell x.id_) (cells_cons (cell_one rfl) (cells_cons (cell_one rfl) cells_nil)))))))))))
def zero : Rule := ⟨0, ByteArray.empty, Prefix.zero, false, 0, 0, Prefix.zero, false, (Bs.zero 8), false, 0⟩
def segs : List (List Value) := [[.int .i64 zero.chain], [.string zero.if_], zero.dst.enc, [.bool zero.hasDst], [.int .i64 zero.ge], [.int .i64 zero.le], zero.src.enc, [.bool zero.hasSrc], zero.id_.enc, [.bool zero.deny], [.int .i64 zero.add]]
theorem enc_inj {x y : Rule} (h0 : x.enc = y.enc) : x = y := by
  obtain ⟨a0, a1, a2, a3, a4, a5, a6, a7, a8, a9, a10⟩ := x
  obtain ⟨b0, b1, b2, b3, b4, b5, b6, b7, b8, b9, b10⟩ := y
  simp only [enc, List.flatten_cons, List.flatten_nil, List.append_nil] at h0
  obtain ⟨e0, h1⟩ := List.append_inj h0 (rfl)
  obtain rfl : a0 = b0 := by simpa using e0
  obtain ⟨e1, h2⟩ := List.append_inj h1 (rfl)
  obtain rfl : a1 = b1 := by simpa using e1
  obtain ⟨e2, h3⟩ := List.append_inj h2 (by rw [Prefix.enc_len, Prefix.enc_len])
  obtain rfl := Prefix.enc_inj e2
  obtain ⟨e3, h4⟩ := List.append_inj h3 (rfl)
  obtain rfl : a3 = b3 := by simpa using e3
  obtain ⟨e4, h5⟩ := List.append_inj h4 (rfl)
  obtain rfl : a4 = b4 := by simpa using e4
  obtain ⟨e5, h6⟩ := List.append_inj h5 (rfl)
  obtain rfl : a5 = b5 := by simpa using e5
  obtain ⟨e6, h7⟩ := List.append_inj h6 (by rw [Prefix.enc_len, Prefix.enc_len])
  obtain rfl := Prefix.enc_inj e6
  obtain ⟨e7, h8⟩ := List.append_inj h7 (rfl)
  obtain rfl : a7 = b7 := by simpa using e7
  obtain ⟨e8, h9⟩ := List.append_inj h8 (by rw [Bs.len, Bs.len])
  obtain rfl := Bs.enc_inj e8
  obtain ⟨e9, h10⟩ := List.append_inj h9 (rfl)
  obtain rfl : a9 = b9 := by simpa using e9
  obtain rfl : a10 = b10 := by simpa using h10
  rfl
end Rule
structure Local where
  pair : Pair
  metric : Int
deriving DecidableEq
namespace Local
def enc (x : Local) : List Value := [x.pair.enc, [.int .i64 x.metric]].flatten
/-- Its numbers are numbers of their kinds. -/
def WF (x : Local) : Prop := x.pair.WF ∧ (-9223372036854775808 ≤ x.metric ∧ x.metric ≤ 9223372036854775807)
theorem enc_len (x : Local) : x.enc.length = 35 := by simp [enc, Pair.enc_len]
theorem enc_sub (x : Local) : SubL x.enc 0 35 x.enc := by have := SubL.all x.enc; rwa [enc_len] at this
theorem sub_pair (x : Local) : SubL x.enc 0 34 (x.pair.enc) := by have := seg_sub (segs := [x.pair.enc, [.int .i64 x.metric]]) (i := 0) rfl; simpa [enc, lens, Pair.enc_len] using this
theorem set_pair (x : Local) (v : Pair) : SetL x.enc 0 34 (v.enc) ({ x with pair := v } : Local).enc := by have := seg_set (segs := [x.pair.enc, [.int .i64 x.metric]]) (i := 0) (s := v.enc) rfl (by simp [Pair.enc_len]); simpa [enc, lens, Pair.enc_len] using this
theorem sub_metric (x : Local) : SubL x.enc 34 1 ([.int .i64 x.metric]) := by have := seg_sub (segs := [x.pair.enc, [.int .i64 x.metric]]) (i := 1) rfl; simpa [enc, lens, Pair.enc_len] using this
theorem set_metric (x : Local) (v : Int) : SetL x.enc 34 1 ([.int .i64 v]) ({ x with metric := v } : Local).enc := by have := seg_set (segs := [x.pair.enc, [.int .i64 x.metric]]) (i := 1) (s := [.int .i64 v]) rfl (by simp); simpa [enc, lens, Pair.enc_len] using this
theorem enc_cell (x : Local) : ∀ v ∈ x.enc, Value.cellB v = true := cells_flatten (cells_cons (Pair.enc_cell x.pair) (cells_cons (cell_one rfl) cells_nil))
def zero : Local := ⟨Pair.zero, 0⟩
def segs : List (List Value) := [zero.pair.enc, [.int .i64 zero.metric]]
theorem enc_inj {x y : Local} (h0 : x.enc = y.enc) : x = y := by
  obtain ⟨a0, a1⟩ := x
  obtain ⟨b0, b1⟩ := y
  simp only [enc, List.flatten_cons, List.flatten_nil, List.append_nil] at h0
  obtain ⟨e0, h1⟩ := List.append_inj h0 (by rw [Pair.enc_len, Pair.enc_len])
  obtain rfl := Pair.enc_inj e0
  obtain rfl : a1 = b1 := by simpa using h1
  rfl
end Local
end Slb
