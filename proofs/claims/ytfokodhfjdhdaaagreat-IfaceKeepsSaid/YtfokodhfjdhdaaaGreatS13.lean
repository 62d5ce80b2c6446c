/- S13: a part of the proof that a law of this package holds for every input; no condition. -/
import Derived.Test.YtfokodhfjdhdaaaGreatM2
namespace Slb
open Go
structure Law14Act where
 kind : Int
 if_ : Int
 now : Int
 to : Bs 16
 l : Slc
namespace Law14Act
def enc (x : Law14Act) : List Value := [[.int .i64 x.kind], [.int .i64 x.if_], [.int .i64 x.now], x.to.enc, [Slc.v x.l]].flatten
/-- Its numbers are numbers of their kinds. -/
def WF (x : Law14Act) : Prop := (-9223372036854775808 ≤ x.kind ∧ x.kind ≤ 9223372036854775807) ∧ (-9223372036854775808 ≤ x.if_ ∧ x.if_ ≤ 9223372036854775807) ∧ (-9223372036854775808 ≤ x.now ∧ x.now ≤ 9223372036854775807) ∧ True ∧ True
theorem enc_len (x : Law14Act) : x.enc.length = 20 := by simp [enc, Bs.len]
theorem enc_sub (x : Law14Act) : SubL x.enc 0 20 x.enc := by have := SubL.all x.enc; rwa [enc_len] at this
theorem sub_kind (x : Law14Act) : SubL x.enc 0 1 ([.int .i64 x.kind]) := by have := seg_sub (segs := [[.int .i64 x.kind], [.int .i64 x.if_], [.int .i64 x.now], x.to.enc, [Slc.v x.l]]) (i := 0) rfl; simpa [enc, lens, Bs.len] using this
theorem sub_if_ (x : Law14Act) : SubL x.enc 1 1 ([.int .i64 x.if_]) := by have := seg_sub (segs := [[.int .i64 x.kind], [.int .i64 x.if_], [.int .i64 x.now], x.to.enc, [Slc.v x.l]]) (i := 1) rfl; simpa [enc, lens, Bs.len] using this
theorem sub_to (x : Law14Act) : SubL x.enc 3 16 (x.to.enc) := by have := seg_sub (segs := [[.int .i64 x.kind], [.int .i64 x.if_], [.int .i64 x.now], x.to.enc, [Slc.v x.l]]) (i := 3) rfl; simpa [enc, lens, Bs.len] using this
theorem sub_l (x : Law14Act) : SubL x.enc 19 1 ([Slc.v x.l]) := by have := seg_sub (segs := [[.int .i64 x.kind], [.int .i64 x.if_], [.int .i64 x.now], x.to.enc, [Slc.v x.l]]) (i := 4) rfl; simpa [enc, lens, Bs.len] using this
theorem set_l (x : Law14Act) (v : Slc) : SetL x.enc 19 1 ([Slc.v v]) ({ x with l := v } : Law14Act).enc := by have := seg_set (segs := [[.int .i64 x.kind], [.int .i64 x.if_], [.int .i64 x.now], x.to.enc, [Slc.v x.l]]) (i := 4) (s := [Slc.v v]) rfl (by simp); simpa [enc, lens, Bs.len] using this
theorem enc_cell (x : Law14Act) : ∀ v ∈ x.enc, Value.cellB v = true := cells_flatten (cells_cons (cell_one rfl) (cells_cons (cell_one rfl) (cells_cons (cell_one rfl) (cells_cons (Bs.cell x.to) (cells_cons (cell_one rfl) cells_nil)))))
def zero : Law14Act := ⟨0, 0, 0, (Bs.zero 16), Slc.zero⟩
def segs : List (List Value) := [[.int .i64 zero.kind], [.int .i64 zero.if_], [.int .i64 zero.now], zero.to.enc, [Slc.v zero.l]]
end Law14Act
structure Prefix where
 a : Bs 16
 len : I64
deriving DecidableEq
namespace Prefix
def enc (x : Prefix) : List Value := [x.a.enc, [I64.v x.len]].flatten
/-- Its numbers are numbers of their kinds. -/
def WF (x : Prefix) : Prop := True ∧ True
theorem enc_len (x : Prefix) : x.enc.length = 17 := by simp [enc, Bs.len]
theorem enc_sub (x : Prefix) : SubL x.enc 0 17 x.enc := by have := SubL.all x.enc; rwa [enc_len] at this
theorem sub_a (x : Prefix) : SubL x.enc 0 16 (x.a.enc) := by have := seg_sub (segs := [x.a.enc, [I64.v x.len]]) (i := 0) rfl; simpa [enc, lens, Bs.len] using this
theorem sub_len (x : Prefix) : SubL x.enc 16 1 ([I64.v x.len]) := by have := seg_sub (segs := [x.a.enc, [I64.v x.len]]) (i := 1) rfl; simpa [enc, lens, Bs.len] using this
theorem enc_cell (x : Prefix) : ∀ v ∈ x.enc, Value.cellB v = true := cells_flatten (cells_cons (Bs.cell x.a) (cells_cons (cell_one rfl) cells_nil))
def zero : Prefix := ⟨(Bs.zero 16), (⟨0, by omega⟩ : I64)⟩
def segs : List (List Value) := [zero.a.enc, [I64.v zero.len]]
theorem enc_inj {x y : Prefix} (h0 : x.enc = y.enc) : x = y := by
 obtain ⟨a0, a1⟩ := x
 obtain ⟨b0, b1⟩ := y
 simp only [enc, List.flatten_cons, List.flatten_nil, List.append_nil] at h0
 obtain ⟨e0, h1⟩ := List.append_inj h0 (by rw [Bs.len, Bs.len])
 obtain rfl := Bs.enc_inj e0
 obtain rfl := I64.inj (by simpa using h1)
 rfl
end Prefix
structure Pair where
 dst : Prefix
 src : Prefix
deriving DecidableEq
namespace Pair
def enc (x : Pair) : List Value := [x.dst.enc, x.src.enc].flatten
/-- Its numbers are numbers of their kinds. -/
def WF (x : Pair) : Prop := x.dst.WF ∧ x.src.WF
theorem enc_len (x : Pair) : x.enc.length = 34 := by simp [enc, Prefix.enc_len]
theorem enc_sub (x : Pair) : SubL x.enc 0 34 x.enc := by have := SubL.all x.enc; rwa [enc_len] at this
theorem sub_dst (x : Pair) : SubL x.enc 0 17 (x.dst.enc) := by have := seg_sub (segs := [x.dst.enc, x.src.enc]) (i := 0) rfl; simpa [enc, lens, Prefix.enc_len] using this
theorem sub_src (x : Pair) : SubL x.enc 17 17 (x.src.enc) := by have := seg_sub (segs := [x.dst.enc, x.src.enc]) (i := 1) rfl; simpa [enc, lens, Prefix.enc_len] using this
theorem set_src (x : Pair) (v : Prefix) : SetL x.enc 17 17 (v.enc) ({ x with src := v } : Pair).enc := by have := seg_set (segs := [x.dst.enc, x.src.enc]) (i := 1) (s := v.enc) rfl (by simp [Prefix.enc_len]); simpa [enc, lens, Prefix.enc_len] using this
theorem enc_cell (x : Pair) : ∀ v ∈ x.enc, Value.cellB v = true := cells_flatten (cells_cons (Prefix.enc_cell x.dst) (cells_cons (Prefix.enc_cell x.src) cells_nil))
def zero : Pair := ⟨Prefix.zero, Prefix.zero⟩
def segs : List (List Value) := [zero.dst.enc, zero.src.enc]
theorem enc_inj {x y : Pair} (h0 : x.enc = y.enc) : x = y := by
 obtain ⟨a0, a1⟩ := x
 obtain ⟨b0, b1⟩ := y
 simp only [enc, List.flatten_cons, List.flatten_nil, List.append_nil] at h0
 obtain ⟨e0, h1⟩ := List.append_inj h0 (by rw [Prefix.enc_len, Prefix.enc_len])
 obtain rfl := Prefix.enc_inj e0
 obtain rfl := Prefix.enc_inj h1
 rfl
end Pair
structure Tlv where
 type : Int
 nonce : Int
 interval : Int
 seqno : Int
 rxcost : Int
 metric : Int
 hops : Int
 unicast : Bool
 all : Bool
 id_ : Bs 8
 addr : Bs 16
 pair : Pair
 stamps : Slc
namespace Tlv
def enc (x : Tlv) : List Value := [[.int .u8 x.type], [.int .u16 x.nonce], [.int .u16 x.interval], [.int .u16 x.seqno], [.int .u16 x.rxcost], [.int .u16 x.metric], [.int .u8 x.hops], [.bool x.unicast], [.bool x.all], x.id_.enc, x.addr.enc, x.pair.enc, [Slc.v x.stamps]].flatten
/-- Its numbers are numbers of their kinds. -/
def WF (x : Tlv) : Prop := (0 ≤ x.type ∧ x.type ≤ 255) ∧ (0 ≤ x.nonce ∧ x.nonce ≤ 65535) ∧ (0 ≤ x.interval ∧ x.interval ≤ 65535) ∧ (0 ≤ x.seqno ∧ x.seqno ≤ 65535) ∧ (0 ≤ x.rxcost ∧ x.rxcost ≤ 65535) ∧ (0 ≤ x.metric ∧ x.metric ≤ 65535) ∧ (0 ≤ x.hops ∧ x.hops ≤ 255) ∧ True ∧ True ∧ True ∧ True ∧ x.pair.WF ∧ True
theorem enc_len (x : Tlv) : x.enc.length = 68 := by simp [enc, Bs.len, Pair.enc_len]
theorem enc_sub (x : Tlv) : SubL x.enc 0 68 x.enc := by have := SubL.all x.enc; rwa [enc_len] at this
theorem sub_type (x : Tlv) : SubL x.enc 0 1 ([.int .u8 x.type]) := by have := seg_sub (segs := [[.int .u8 x.type], [.int .u16 x.nonce], [.int .u16 x.interval], [.int .u16 x.seqno], [.int .u16 x.rxcost], [.int .u16 x.metric], [.int .u8 x.hops], [.bool x.unicast], [.bool x.all], x.id_.enc, x.addr.enc, x.pair.enc, [Slc.v x.stamps]]) (i := 0) rfl; simpa [enc, lens, Bs.len, Pair.enc_len] using this
theorem sub_nonce (x : Tlv) : SubL x.enc 1 1 ([.int .u16 x.nonce]) := by have := seg_sub (segs := [[.int .u8 x.type], [.int .u16 x.nonce], [.int .u16 x.interval], [.int .u16 x.seqno], [.int .u16 x.rxcost], [.int .u16 x.metric], [.int .u8 x.hops], [.bool x.unicast], [.bool x.all], x.id_.enc, x.addr.enc, x.pair.enc, [Slc.v x.stamps]]) (i := 1) rfl; simpa [enc, lens, Bs.len, Pair.enc_len] using this
theorem set_nonce (x : Tlv) (v : Int) : SetL x.enc 1 1 ([.int .u16 v]) ({ x with nonce := v } : Tlv).enc := by have := seg_set (segs := [[.int .u8 x.type], [.int .u16 x.nonce], [.int .u16 x.interval], [.int .u16 x.seqno], [.int .u16 x.rxcost], [.int .u16 x.metric], [.int .u8 x.hops], [.bool x.unicast], [.bool x.all], x.id_.enc, x.addr.enc, x.pair.enc, [Slc.v x.stamps]]) (i := 1) (s := [.int .u16 v]) rfl (by simp); simpa [enc, lens, Bs.len, Pair.enc_len] using this
theorem sub_interval (x : Tlv) : SubL x.enc 2 1 ([.int .u16 x.interval]) := by have := seg_sub (segs := [[.int .u8 x.type], [.int .u16 x.nonce], [.int .u16 x.interval], [.int .u16 x.seqno], [.int .u16 x.rxcost], [.int .u16 x.metric], [.int .u8 x.hops], [.bool x.unicast], [.bool x.all], x.id_.enc, x.addr.enc, x.pair.enc, [Slc.v x.stamps]]) (i := 2) rfl; simpa [enc, lens, Bs.len, Pair.enc_len] using this
theorem set_interval (x : Tlv) (v : Int) : SetL x.enc 2 1 ([.int .u16 v]) ({ x with interval := v } : Tlv).enc := by have := seg_set (segs := [[.int .u8 x.type], [.int .u16 x.nonce], [.int .u16 x.interval], [.int .u16 x.seqno], [.int .u16 x.rxcost], [.int .u16 x.metric], [.int .u8 x.hops], [.bool x.unicast], [.bool x.all], x.id_.enc, x.addr.enc, x.pair.enc, [Slc.v x.stamps]]) (i := 2) (s := [.int .u16 v]) rfl (by simp); simpa [enc, lens, Bs.len, Pair.enc_len] using this
theorem sub_seqno (x : Tlv) : SubL x.enc 3 1 ([.int .u16 x.seqno]) := by have := seg_sub (segs := [[.int .u8 x.type], [.int .u16 x.nonce], [.int .u16 x.interval], [.int .u16 x.seqno], [.int .u16 x.rxcost], [.int .u16 x.metric], [.int .u8 x.hops], [.bool x.unicast], [.bool x.all], x.id_.enc, x.addr.enc, x.pair.enc, [Slc.v x.stamps]]) (i := 3) rfl; simpa [enc, lens, Bs.len, Pair.enc_len] using this
theorem set_seqno (x : Tlv) (v : Int) : SetL x.enc 3 1 ([.int .u16 v]) ({ x with seqno := v } : Tlv).enc := by have := seg_set (segs := [[.int .u8 x.type], [.int .u16 x.nonce], [.int .u16 x.interval], [.int .u16 x.seqno], [.int .u16 x.rxcost], [.int .u16 x.metric], [.int .u8 x.hops], [.bool x.unicast], [.bool x.all], x.id_.enc, x.addr.enc, x.pair.enc, [Slc.v x.stamps]]) (i := 3) (s := [.int .u16 v]) rfl (by simp); simpa [enc, lens, Bs.len, Pair.enc_len] using this
theorem sub_rxcost (x : Tlv) : SubL x.enc 4 1 ([.int .u16 x.rxcost]) := by have := seg_sub (segs := [[.int .u8 x.type], [.int .u16 x.nonce], [.int .u16 x.interval], [.int .u16 x.seqno], [.int .u16 x.rxcost], [.int .u16 x.metric], [.int .u8 x.hops], [.bool x.unicast], [.bool x.all], x.id_.enc, x.addr.enc, x.pair.enc, [Slc.v x.stamps]]) (i := 4) rfl; simpa [enc, lens, Bs.len, Pair.enc_len] using this
theorem set_rxcost (x : Tlv) (v : Int) : SetL x.enc 4 1 ([.int .u16 v]) ({ x with rxcost := v } : Tlv).enc := by have := seg_set (segs := [[.int .u8 x.type], [.int .u16 x.nonce], [.int .u16 x.interval], [.int .u16 x.seqno], [.int .u16 x.rxcost], [.int .u16 x.metric], [.int .u8 x.hops], [.bool x.unicast], [.bool x.all], x.id_.enc, x.addr.enc, x.pair.enc, [Slc.v x.stamps]]) (i := 4) (s := [.int .u16 v]) rfl (by simp); simpa [enc, lens, Bs.len, Pair.enc_len] using this
theorem sub_metric (x : Tlv) : SubL x.enc 5 1 ([.int .u16 x.metric]) := by have := seg_sub (segs := [[.int .u8 x.type], [.int .u16 x.nonce], [.int .u16 x.interval], [.int .u16 x.seqno], [.int .u16 x.rxcost], [.int .u16 x.metric], [.int .u8 x.hops], [.bool x.unicast], [.bool x.all], x.id_.enc, x.addr.enc, x.pair.enc, [Slc.v x.stamps]]) (i := 5) rfl; simpa [enc, lens, Bs.len, Pair.enc_len] using this
theorem set_metric (x : Tlv) (v : Int) : SetL x.enc 5 1 ([.int .u16 v]) ({ x with metric := v } : Tlv).enc := by have := seg_set (segs := [[.int .u8 x.type], [.int .u16 x.nonce], [.int .u16 x.interval], [.int .u16 x.seqno], [.int .u16 x.rxcost], [.int .u16 x.metric], [.int .u8 x.hops], [.bool x.unicast], [.bool x.all], x.id_.enc, x.addr.enc, x.pair.enc, [Slc.v x.stamps]]) (i := 5) (s := [.int .u16 v]) rfl (by simp); simpa [enc, lens, Bs.len, Pair.enc_len] using this
theorem sub_hops (x : Tlv) : SubL x.enc 6 1 ([.int .u8 x.hops]) := by have := seg_sub (segs := [[.int .u8 x.type], [.int .u16 x.nonce], [.int .u16 x.interval], [.int .u16 x.seqno], [.int .u16 x.rxcost], [.int .u16 x.metric], [.int .u8 x.hops], [.bool x.unicast], [.bool x.all], x.id_.enc, x.addr.enc, x.pair.enc, [Slc.v x.stamps]]) (i := 6) rfl; simpa [enc, lens, Bs.len, Pair.enc_len] using this
theorem set_hops (x : Tlv) (v : Int) : SetL x.enc 6 1 ([.int .u8 v]) ({ x with hops := v } : Tlv).enc := by have := seg_set (segs := [[.int .u8 x.type], [.int .u16 x.nonce], [.int .u16 x.interval], [.int .u16 x.seqno], [.int .u16 x.rxcost], [.int .u16 x.metric], [.int .u8 x.hops], [.bool x.unicast], [.bool x.all], x.id_.enc, x.addr.enc, x.pair.enc, [Slc.v x.stamps]]) (i := 6) (s := [.int .u8 v]) rfl (by simp); simpa [enc, lens, Bs.len, Pair.enc_len] using this
theorem sub_unicast (x : Tlv) : SubL x.enc 7 1 ([.bool x.unicast]) := by have := seg_sub (segs := [[.int .u8 x.type], [.int .u16 x.nonce], [.int .u16 x.interval], [.int .u16 x.seqno], [.int .u16 x.rxcost], [.int .u16 x.metric], [.int .u8 x.hops], [.bool x.unicast], [.bool x.all], x.id_.enc, x.addr.enc, x.pair.enc, [Slc.v x.stamps]]) (i := 7) rfl; simpa [enc, lens, Bs.len, Pair.enc_len] using this
theorem set_unicast (x : Tlv) (v : Bool) : SetL x.enc 7 1 ([.bool v]) ({ x with unicast := v } : Tlv).enc := by have := seg_set (segs := [[.int .u8 x.type], [.int .u16 x.nonce], [.int .u16 x.interval], [.int .u16 x.seqno], [.int .u16 x.rxcost], [.int .u16 x.metric], [.int .u8 x.hops], [.bool x.unicast], [.bool x.all], x.id_.enc, x.addr.enc, x.pair.enc, [Slc.v x.stamps]]) (i := 7) (s := [.bool v]) rfl (by simp); simpa [enc, lens, Bs.len, Pair.enc_len] using this
theorem sub_all (x : Tlv) : SubL x.enc 8 1 ([.bool x.all]) := by have := seg_sub (segs := [[.int .u8 x.type], [.int .u16 x.nonce], [.int .u16 x.interval], [.int .u16 x.seqno], [.int .u16 x.rxcost], [.int .u16 x.metric], [.int .u8 x.hops], [.bool x.unicast], [.bool x.all], x.id_.enc, x.addr.enc, x.pair.enc, [Slc.v x.stamps]]) (i := 8) rfl; simpa [enc, lens, Bs.len, Pair.enc_len] using this
theorem set_all (x : Tlv) (v : Bool) : SetL x.enc 8 1 ([.bool v]) ({ x with all := v } : Tlv).enc := by have := seg_set (segs := [[.int .u8 x.type], [.int .u16 x.nonce], [.int .u16 x.interval], [.int .u16 x.seqno], [.int .u16 x.rxcost], [.int .u16 x.metric], [.int .u8 x.hops], [.bool x.unicast], [.bool x.all], x.id_.enc, x.addr.enc, x.pair.enc, [Slc.v x.stamps]]) (i := 8) (s := [.bool v]) rfl (by simp); simpa [enc, lens, Bs.len, Pair.enc_len] using this
theorem sub_id_ (x : Tlv) : SubL x.enc 9 8 (x.id_.enc) := by have := seg_sub (segs := [[.int .u8 x.type], [.int .u16 x.nonce], [.int .u16 x.interval], [.int .u16 x.seqno], [.int .u16 x.rxcost], [.int .u16 x.metric], [.int .u8 x.hops], [.bool x.unicast], [.bool x.all], x.id_.enc, x.addr.enc, x.pair.enc, [Slc.v x.stamps]]) (i := 9) rfl; simpa [enc, lens, Bs.len, Pair.enc_len] using this
theorem set_id_ (x : Tlv) (v : Bs 8) : SetL x.enc 9 8 (v.enc) ({ x with id_ := v } : Tlv).enc := by have := seg_set (segs := [[.int .u8 x.type], [.int .u16 x.nonce], [.int .u16 x.interval], [.int .u16 x.seqno], [.int .u16 x.rxcost], [.int .u16 x.metric], [.int .u8 x.hops], [.bool x.unicast], [.bool x.all], x.id_.enc, x.addr.enc, x.pair.enc, [Slc.v x.stamps]]) (i := 9) (s := v.enc) rfl (by simp [Bs.len]); simpa [enc, lens, Bs.len, Pair.enc_len] using this
theorem sub_addr (x : Tlv) : SubL x.enc 17 16 (x.addr.enc) := by have := seg_sub (segs := [[.int .u8 x.type], [.int .u16 x.nonce], [.int .u16 x.interval], [.int .u16 x.seqno], [.int .u16 x.rxcost], [.int .u16 x.metric], [.int .u8 x.hops], [.bool x.unicast], [.bool x.all], x.id_.enc, x.addr.enc, x.pair.enc, [Slc.v x.stamps]]) (i := 10) rfl; simpa [enc, lens, Bs.len, Pair.enc_len] using this
theorem set_addr (x : Tlv) (v : Bs 16) : SetL x.enc 17 16 (v.enc) ({ x with addr := v } : Tlv).enc := by have := seg_set (segs := [[.int .u8 x.type], [.int .u16 x.nonce], [.int .u16 x.interval], [.int .u16 x.seqno], [.int .u16 x.rxcost], [.int .u16 x.metric], [.int .u8 x.hops], [.bool x.unicast], [.bool x.all], x.id_.enc, x.addr.enc, x.pair.enc, [Slc.v x.stamps]]) (i := 10) (s := v.enc) rfl (by simp [Bs.len]); simpa [enc, lens, Bs.len, Pair.enc_len] using this
theorem sub_pair (x : Tlv) : SubL x.enc 33 34 (x.pair.enc) := by have := seg_sub (segs := [[.int .u8 x.type], [.int .u16 x.nonce], [.int .u16 x.interval], [.int .u16 x.seqno], [.int .u16 x.rxcost], [.int .u16 x.metric], [.int .u8 x.hops], [.bool x.unicast], [.bool x.all], x.id_.enc, x.addr.enc, x.pair.enc, [Slc.v x.stamps]]) (i := 11) rfl; simpa [enc, lens, Bs.len, Pair.enc_len] using this
theorem set_pair (x : Tlv) (v : Pair) : SetL x.enc 33 34 (v.enc) ({ x with pair := v } : Tlv).enc := by have := seg_set (segs := [[.int .u8 x.type], [.int .u16 x.nonce], [.int .u16 x.interval], [.int .u16 x.seqno], [.int .u16 x.rxcost], [.int .u16 x.metric], [.int .u8 x.hops], [.bool x.unicast], [.bool x.all], x.id_.enc, x.addr.enc, x.pair.enc, [Slc.v x.stamps]]) (i := 11) (s := v.enc) rfl (by simp [Pair.enc_len]); simpa [enc, lens, Bs.len, Pair.enc_len] using this
theorem sub_stamps (x : Tlv) : SubL x.enc 67 1 ([Slc.v x.stamps]) := by have := seg_sub (segs := [[.int .u8 x.type], [.int .u16 x.nonce], [.int .u16 x.interval], [.int .u16 x.seqno], [.int .u16 x.rxcost], [.int .u16 x.metric], [.int .u8 x.hops], [.bool x.unicast], [.bool x.all], x.id_.enc, x.addr.enc, x.pair.enc, [Slc.v x.stamps]]) (i := 12) rfl; simpa [enc, lens, Bs.len, Pair.enc_len] using this
theorem set_stamps (x : Tlv) (v : Slc) : SetL x.enc 67 1 ([Slc.v v]) ({ x with stamps := v } : Tlv).enc := by have := seg_set (segs := [[.int .u8 x.type], [.int .u16 x.nonce], [.int .u16 x.interval], [.int .u16 x.seqno], [.int .u16 x.rxcost], [.int .u16 x.metric], [.int .u8 x.hops], [.bool x.unicast], [.bool x.all], x.id_.enc, x.addr.enc, x.pair.enc, [Slc.v x.stamps]]) (i := 12) (s := [Slc.v v]) rfl (by simp); simpa [enc, lens, Bs.len, Pair.enc_len] using this
theorem enc_cell (x : Tlv) : ∀ v ∈ x.enc, Value.cellB v = true := cells_flatten (cells_cons (cell_one rfl) (cells_cons (cell_one rfl) (cells_cons (cell_one rfl) (cells_cons (cell_one rfl) (cells_cons (cell_one rfl) (cells_cons (cell_one rfl) (cells_cons (cell_one rfl) (cells_cons (cell_one rfl) (cells_cons (cell_one rfl) (cells_cons (Bs.cell x.id_) (cells_cons (Bs.cell x.addr) (cells_cons (Pair.enc_cell x.pair) (cells_cons (cell_one rfl) cells_nil)))))))))))))
def zero : Tlv := ⟨0, 0, 0, 0, 0, 0, 0, false, false, (Bs.zero 8), (Bs.zero 16), Pair.zero, Slc.zero⟩
def segs : List (List Value) := [[.int .u8 zero.type], [.int .u16 zero.nonce], [.int .u16 zero.interval], [.int .u16 zero.seqno], [.int .u16 zero.rxcost], [.int .u16 zero.metric], [.int .u8 zero.hops], [.bool zero.unicast], [.bool zero.all], zero.id_.enc, zero.addr.enc, zero.pair.enc, [Slc.v zero.stamps]]
end Tlv
structure Rtt where
 on_ : Bool
 min : Int
 max : Int
 cost : Int
 decay : Int
deriving DecidableEq
namespace Rtt
def enc (x : Rtt) : List Value := [[.bool x.on_], [.int .i64 x.min], [.int .i64 x.max], [.int .i64 x.cost], [.int .i64 x.decay]].flatten
/-- Its numbers are numbers of their kinds. -/
def WF (x : Rtt) : Prop := True ∧ (-9223372036854775808 ≤ x.min ∧ x.min ≤ 9223372036854775807) ∧ (-9223372036854775808 ≤ x.max ∧ x.max ≤ 9223372036854775807) ∧ (-9223372036854775808 ≤ x.cost ∧ x.cost ≤ 9223372036854775807) ∧ (-9223372036854775808 ≤ x.decay ∧ x.decay ≤ 9223372036854775807)
theorem enc_len (x : Rtt) : x.enc.length = 5 := by simp [enc]
theorem enc_sub (x : Rtt) : SubL x.enc 0 5 x.enc := by have := SubL.all x.enc; rwa [enc_len] at this
theorem sub_on_ (x : Rtt) : SubL x.enc 0 1 ([.bool x.on_]) := by have := seg_sub (segs := [[.bool x.on_], [.int .i64 x.min], [.int .i64 x.max], [.int .i64 x.cost], [.int .i64 x.decay]]) (i := 0) rfl; simpa [enc, lens] using this
theorem sub_min (x : Rtt) : SubL x.enc 1 1 ([.int .i64 x.min]) := by have := seg_sub (segs := [[.bool x.on_], [.int .i64 x.min], [.int .i64 x.max], [.int .i64 x.cost], [.int .i64 x.decay]]) (i := 1) rfl; simpa [enc, lens] using this
theorem sub_max (x : Rtt) : SubL x.enc 2 1 ([.int .i64 x.max]) := by have := seg_sub (segs := [[.bool x.on_], [.int .i64 x.min], [.int .i64 x.max], [.int .i64 x.cost], [.int .i64 x.decay]]) (i := 2) rfl; simpa [enc, lens] using this
theorem sub_cost (x : Rtt) : SubL x.enc 3 1 ([.int .i64 x.cost]) := by have := seg_sub (segs := [[.bool x.on_], [.int .i64 x.min], [.int .i64 x.max], [.int .i64 x.cost], [.int .i64 x.decay]]) (i := 3) rfl; simpa [enc, lens] using this
theorem sub_decay (x : Rtt) : SubL x.enc 4 1 ([.int .i64 x.decay]) := by have := seg_sub (segs := [[.bool x.on_], [.int .i64 x.min], [.int .i64 x.max], [.int .i64 x.cost], [.int .i64 x.decay]]) (i := 4) rfl; simpa [enc, lens] using this
theorem enc_cell (x : Rtt) : ∀ v ∈ x.enc, Value.cellB v = true := cells_flatten (cells_cons (cell_one rfl) (cells_cons (cell_one rfl) (cells_cons (cell_one rfl) (cells_cons (cell_one rfl) (cells_cons (cell_one rfl) cells_nil)))))
def zero : Rtt := ⟨false, 0, 0, 0, 0⟩
def segs : List (List Value) := [[.bool zero.on_], [.int .i64 zero.min], [.int .i64 zero.max], [.int .i64 zero.cost], [.int .i64 zero.decay]]
theorem enc_inj {x y : Rtt} (h0 : x.enc = y.enc) : x = y := by
 obtain ⟨a0, a1, a2, a3, a4⟩ := x
 obtain ⟨b0, b1, b2, b3, b4⟩ := y
 simp only [enc, List.flatten_cons, List.flatten_nil, List.append_nil] at h0
 obtain ⟨e0, h1⟩ := List.append_inj h0 (rfl)
 obtain rfl : a0 = b0 := by simpa using e0
 obtain ⟨e1, h2⟩ := List.append_inj h1 (rfl)
 obtain rfl : a1 = b1 := by simpa using e1
 obtain ⟨e2, h3⟩ := List.append_inj h2 (rfl)
 obtain rfl : a2 = b2 := by simpa using e2
 obtain ⟨e3, h4⟩ := List.append_inj h3 (rfl)
 obtain rfl : a3 = b3 := by simpa using e3
 obtain rfl : a4 = b4 := by simpa using h4
 rfl
end Rtt
structure IfConf where
 name : ByteArray
 kind : Int
 cost : Int
 hello : Int
 update : Int
 mtu : Int
 addr : Bs 16
 addr4 : Bs 16
 rtt : Rtt
deriving DecidableEq
namespace IfConf
def enc (x : IfConf) : List Value := [[.string x.name], [.int .i64 x.kind], [.int .i64 x.cost], [.int .i64 x.hello], [.int .i64 x.update], [.int .i64 x.mtu], x.addr.enc, x.addr4.enc, x.rtt.enc].flatten
/-- Its numbers are numbers of their kinds. -/
def WF (x : IfConf) : Prop := True ∧ (-9223372036854775808 ≤ x.kind ∧ x.kind ≤ 9223372036854775807) ∧ (-9223372036854775808 ≤ x.cost ∧ x.cost ≤ 9223372036854775807) ∧ (-9223372036854775808 ≤ x.hello ∧ x.hello ≤ 9223372036854775807) ∧ (-9223372036854775808 ≤ x.update ∧ x.update ≤ 9223372036854775807) ∧ (-9223372036854775808 ≤ x.mtu ∧ x.mtu ≤ 9223372036854775807) ∧ True ∧ True ∧ x.rtt.WF
theorem enc_len (x : IfConf) : x.enc.length = 43 := by simp [enc, Bs.len, Rtt.enc_len]
theorem enc_sub (x : IfConf) : SubL x.enc 0 43 x.enc := by have := SubL.all x.enc; rwa [enc_len] at this
theorem sub_name (x : IfConf) : SubL x.enc 0 1 ([.string x.name]) := by have := seg_sub (segs := [[.string x.name], [.int .i64 x.kind], [.int .i64 x.cost], [.int .i64 x.hello], [.int .i64 x.update], [.int .i64 x.mtu], x.addr.enc, x.addr4.enc, x.rtt.enc]) (i := 0) rfl; simpa [enc, lens, Bs.len, Rtt.enc_len] using this
theorem sub_kind (x : IfConf) : SubL x.enc 1 1 ([.int .i64 x.kind]) := by have := seg_sub (segs := [[.string x.name], [.int .i64 x.kind], [.int .i64 x.cost], [.int .i64 x.hello], [.int .i64 x.update], [.int .i64 x.mtu], x.addr.enc, x.addr4.enc, x.rtt.enc]) (i := 1) rfl; simpa [enc, lens, Bs.len, Rtt.enc_len] using this
theorem sub_cost (x : IfConf) : SubL x.enc 2 1 ([.int .i64 x.cost]) := by have := seg_sub (segs := [[.string x.name], [.int .i64 x.kind], [.int .i64 x.cost], [.int .i64 x.hello], [.int .i64 x.update], [.int .i64 x.mtu], x.addr.enc, x.addr4.enc, x.rtt.enc]) (i := 2) rfl; simpa [enc, lens, Bs.len, Rtt.enc_len] using this
theorem sub_hello (x : IfConf) : SubL x.enc 3 1 ([.int .i64 x.hello]) := by have := seg_sub (segs := [[.string x.name], [.int .i64 x.kind], [.int .i64 x.cost], [.int .i64 x.hello], [.int .i64 x.update], [.int .i64 x.mtu], x.addr.enc, x.addr4.enc, x.rtt.enc]) (i := 3) rfl; simpa [enc, lens, Bs.len, Rtt.enc_len] using this
theorem sub_update (x : IfConf) : SubL x.enc 4 1 ([.int .i64 x.update]) := by have := seg_sub (segs := [[.string x.name], [.int .i64 x.kind], [.int .i64 x.cost], [.int .i64 x.hello], [.int .i64 x.update], [.int .i64 x.mtu], x.addr.enc, x.addr4.enc, x.rtt.enc]) (i := 4) rfl; simpa [enc, lens, Bs.len, Rtt.enc_len] using this
theorem sub_mtu (x : IfConf) : SubL x.enc 5 1 ([.int .i64 x.mtu]) := by have := seg_sub (segs := [[.string x.name], [.int .i64 x.kind], [.int .i64 x.cost], [.int .i64 x.hello], [.int .i64 x.update], [.int .i64 x.mtu], x.addr.enc, x.addr4.enc, x.rtt.enc]) (i := 5) rfl; simpa [enc, lens, Bs.len, Rtt.enc_len] using this
theorem sub_addr (x : IfConf) : SubL x.enc 6 16 (x.addr.enc) := by have := seg_sub (segs := [[.string x.name], [.int .i64 x.kind], [.int .i64 x.cost], [.int .i64 x.hello], [.int .i64 x.update], [.int .i64 x.mtu], x.addr.enc, x.addr4.enc, x.rtt.enc]) (i := 6) rfl; simpa [enc, lens, Bs.len, Rtt.enc_len] using this
theorem set_addr (x : IfConf) (v : Bs 16) : SetL x.enc 6 16 (v.enc) ({ x with addr := v } : IfConf).enc := by have := seg_set (segs := [[.string x.name], [.int .i64 x.kind], [.int .i64 x.cost], [.int .i64 x.hello], [.int .i64 x.update], [.int .i64 x.mtu], x.addr.enc, x.addr4.enc, x.rtt.enc]) (i := 6) (s := v.enc) rfl (by simp [Bs.len]); simpa [enc, lens, Bs.len, Rtt.enc_len] using this
theorem sub_addr4 (x : IfConf) : SubL x.enc 22 16 (x.addr4.enc) := by have := seg_sub (segs := [[.string x.name], [.int .i64 x.kind], [.int .i64 x.cost], [.int .i64 x.hello], [.int .i64 x.update], [.int .i64 x.mtu], x.addr.enc, x.addr4.enc, x.rtt.enc]) (i := 7) rfl; simpa [enc, lens, Bs.len, Rtt.enc_len] using this
theorem sub_rtt (x : IfConf) : SubL x.enc 38 5 (x.rtt.enc) := by have := seg_sub (segs := [[.string x.name], [.int .i64 x.kind], [.int .i64 x.cost], [.int .i64 x.hello], [.int .i64 x.update], [.int .i64 x.mtu], x.addr.enc, x.addr4.enc, x.rtt.enc]) (i := 8) rfl; simpa [enc, lens, Bs.len, Rtt.enc_len] using this
theorem enc_cell (x : IfConf) : ∀ v ∈ x.enc, Value.cellB v = true := cells_flatten (cells_cons (cell_one rfl) (cells_cons (cell_one rfl) (cells_cons (cell_one rfl) (cells_cons (cell_one rfl) (cells_cons (cell_one rfl) (cells_cons (cell_one rfl) (cells_cons (Bs.cell x.addr) (cells_cons (Bs.cell x.addr4) (cells_cons (Rtt.enc_cell x.rtt) cells_nil)))))))))
def zero : IfConf := ⟨ByteArray.empty, 0, 0, 0, 0, 0, (Bs.zero 16), (Bs.zero 16), Rtt.zero⟩
def segs : List (List Value) := [[.string zero.name], [.int .i64 zero.kind], [.int .i64 zero.cost], [.int .i64 zero.hello], [.int .i64 zero.update], [.int .i64 zero.mtu], zero.addr.enc, zero.addr4.enc, zero.rtt.enc]
theorem enc_inj {x y : IfConf} (h0 : x.enc = y.enc) : x = y := by
 obtain ⟨a0, a1, a2, a3, a4, a5, a6, a7, a8⟩ := x
 obtain ⟨b0, b1, b2, b3, b4, b5, b6, b7, b8⟩ := y
 simp only [enc, List.flatten_cons, List.flatten_nil, List.append_nil] at h0
 obtain ⟨e0, h1⟩ := List.append_inj h0 (rfl)
 obtain rfl : a0 = b0 := by simpa using e0
 obtain ⟨e1, h2⟩ := List.append_inj h1 (rfl)
 obtain rfl : a1 = b1 := by simpa using e1
 obtain ⟨e2, h3⟩ := List.append_inj h2 (rfl)
 obtain rfl : a2 = b2 := by simpa using e2
 obtain ⟨e3, h4⟩ := List.append_inj h3 (rfl)
 obtain rfl : a3 = b3 := by simpa using e3
 obtain ⟨e4, h5⟩ := List.append_inj h4 (rfl)
 obtain rfl : a4 = b4 := by simpa using e4
 obtain ⟨e5, h6⟩ := List.append_inj h5 (rfl)
 obtain rfl : a5 = b5 := by simpa using e5
 obtain ⟨e6, h7⟩ := List.append_inj h6 (by rw [Bs.len, Bs.len])
 obtain rfl := Bs.enc_inj e6
 obtain ⟨e7, h8⟩ := List.append_inj h7 (by rw [Bs.len, Bs.len])
 obtain rfl := Bs.enc_inj e7
 obtain rfl := Rtt.enc_inj h8
 rfl
end IfConf
structure Sent where
 if_ : Int
 to : Bs 16
 p : Slc
namespace Sent
def enc (x : Sent) : List Value := [[.int .i64 x.if_], x.to.enc, [Slc.v x.p]].flatten
/-- Its numbers are numbers of their kinds. -/
def WF (x : Sent) : Prop := (-9223372036854775808 ≤ x.if_ ∧ x.if_ ≤ 9223372036854775807) ∧ True ∧ True
theorem enc_len (x : Sent) : x.enc.length = 18 := by simp [enc, Bs.len]
theorem enc_sub (x : Sent) : SubL x.enc 0 18 x.enc := by have := SubL.all x.enc; rwa [enc_len] at this
theorem sub_if_ (x : Sent) : SubL x.enc 0 1 ([.int .i64 x.if_]) := by have := seg_sub (segs := [[.int .i64 x.if_], x.to.enc, [Slc.v x.p]]) (i := 0) rfl; simpa [enc, lens, Bs.len] using this
theorem sub_to (x : Sent) : SubL x.enc 1 16 (x.to.enc) := by have := seg_sub (segs := [[.int .i64 x.if_], x.to.enc, [Slc.v x.p]]) (i := 1) rfl; simpa [enc, lens, Bs.len] using this
theorem sub_p (x : Sent) : SubL x.enc 17 1 ([Slc.v x.p]) := by have := seg_sub (segs := [[.int .i64 x.if_], x.to.enc, [Slc.v x.p]]) (i := 2) rfl; simpa [enc, lens, Bs.len] using this
theorem enc_cell (x : Sent) : ∀ v ∈ x.enc, Value.cellB v = true := cells_flatten (cells_cons (cell_one rfl) (cells_cons (Bs.cell x.to) (cells_cons (cell_one rfl) cells_nil)))
def zero : Sent := ⟨0, (Bs.zero 16), Slc.zero⟩
def segs : List (List Value) := [[.int .i64 zero.if_], zero.to.enc, [Slc.v zero.p]]
end Sent
structure Config where
 id_ : Bs 8
 ifs : Slc
 rules : Slc
 locals : Slc
 neighbours : Int
 sources : Int
 routes : Int
 requests : Int
namespace Config
def enc (x : Config) : List Value := [x.id_.enc, [Slc.v x.ifs], [Slc.v x.rules], [Slc.v x.locals], [.int .i64 x.neighbours], [.int .i64 x.sources], [.int .i64 x.routes], [.int .i64 x.requests]].flatten
/-- Its numbers are numbers of their kinds. -/
def WF (x : Config) : Prop := True ∧ True ∧ True ∧ True ∧ (-9223372036854775808 ≤ x.neighbours ∧ x.neighbours ≤ 9223372036854775807) ∧ (-9223372036854775808 ≤ x.sources ∧ x.sources ≤ 9223372036854775807) ∧ (-9223372036854775808 ≤ x.routes ∧ x.routes ≤ 9223372036854775807) ∧ (-9223372036854775808 ≤ x.requests ∧ x.requests ≤ 9223372036854775807)
theorem enc_len (x : Config) : x.enc.length = 15 := by simp [enc, Bs.len]
theorem enc_sub (x : Config) : SubL x.enc 0 15 x.enc := by have := SubL.all x.enc; rwa [enc_len] at this
theorem sub_id_ (x : Config) : SubL x.enc 0 8 (x.id_.enc) := by have := seg_sub (segs := [x.id_.enc, [Slc.v x.ifs], [Slc.v x.rules], [Slc.v x.locals], [.int .i64 x.neighbours], [.int .i64 x.sources], [.int .i64 x.routes], [.int .i64 x.requests]]) (i := 0) rfl; simpa [enc, lens, Bs.len] using this
theorem set_id_ (x : Config) (v : Bs 8) : SetL x.enc 0 8 (v.enc) ({ x with id_ := v } : Config).enc := by have := seg_set (segs := [x.id_.enc, [Slc.v x.ifs], [Slc.v x.rules], [Slc.v x.locals], [.int .i64 x.neighbours], [.int .i64 x.sources], [.int .i64 x.routes], [.int .i64 x.requests]]) (i := 0) (s := v.enc) rfl (by simp [Bs.len]); simpa [enc, lens, Bs.len] using this
theorem sub_ifs (x : Config) : SubL x.enc 8 1 ([Slc.v x.ifs]) := by have := seg_sub (segs := [x.id_.enc, [Slc.v x.ifs], [Slc.v x.rules], [Slc.v x.locals], [.int .i64 x.neighbours], [.int .i64 x.sources], [.int .i64 x.routes], [.int .i64 x.requests]]) (i := 1) rfl; simpa [enc, lens, Bs.len] using this
theorem sub_rules (x : Config) : SubL x.enc 9 1 ([Slc.v x.rules]) := by have := seg_sub (segs := [x.id_.enc, [Slc.v x.ifs], [Slc.v x.rules], [Slc.v x.locals], [.int .i64 x.neighbours], [.int .i64 x.sources], [.int .i64 x.routes], [.int .i64 x.requests]]) (i := 2) rfl; simpa [enc, lens, Bs.len] using this
theorem sub_locals (x : Config) : SubL x.enc 10 1 ([Slc.v x.locals]) := by have := seg_sub (segs := [x.id_.enc, [Slc.v x.ifs], [Slc.v x.rules], [Slc.v x.locals], [.int .i64 x.neighbours], [.int .i64 x.sources], [.int .i64 x.routes], [.int .i64 x.requests]]) (i := 3) rfl; simpa [enc, lens, Bs.len] using this
theorem sub_neighbours (x : Config) : SubL x.enc 11 1 ([.int .i64 x.neighbours]) := by have := seg_sub (segs := [x.id_.enc, [Slc.v x.ifs], [Slc.v x.rules], [Slc.v x.locals], [.int .i64 x.neighbours], [.int .i64 x.sources], [.int .i64 x.routes], [.int .i64 x.requests]]) (i := 4) rfl; simpa [enc, lens, Bs.len] using this
theorem sub_sources (x : Config) : SubL x.enc 12 1 ([.int .i64 x.sources]) := by have := seg_sub (segs := [x.id_.enc, [Slc.v x.ifs], [Slc.v x.rules], [Slc.v x.locals], [.int .i64 x.neighbours], [.int .i64 x.sources], [.int .i64 x.routes], [.int .i64 x.requests]]) (i := 5) rfl; simpa [enc, lens, Bs.len] using this
theorem sub_routes (x : Config) : SubL x.enc 13 1 ([.int .i64 x.routes]) := by have := seg_sub (segs := [x.id_.enc, [Slc.v x.ifs], [Slc.v x.rules], [Slc.v x.locals], [.int .i64 x.neighbours], [.int .i64 x.sources], [.int .i64 x.routes], [.int .i64 x.requests]]) (i := 6) rfl; simpa [enc, lens, Bs.len] using this
theorem sub_requests (x : Config) : SubL x.enc 14 1 ([.int .i64 x.requests]) := by have := seg_sub (segs := [x.id_.enc, [Slc.v x.ifs], [Slc.v x.rules], [Slc.v x.locals], [.int .i64 x.neighbours], [.int .i64 x.sources], [.int .i64 x.routes], [.int .i64 x.requests]]) (i := 7) rfl; simpa [enc, lens, Bs.len] using this
theorem enc_cell (x : Config) : ∀ v ∈ x.enc, Value.cellB v = true := cells_flatten (cells_cons (Bs.cell x.id_) (cells_cons (cell_one rfl) (cells_cons (cell_one rfl) (cells_cons (cell_one rfl) (cells_cons (cell_one rfl) (cells_cons (cell_one rfl) (cells_cons (cell_one rfl) (cells_cons (cell_one rfl) cells_nil))))))))
def zero : Config := ⟨(Bs.zero 8), Slc.zero, Slc.zero, Slc.zero, 0, 0, 0, 0⟩
def segs : List (List Value) := [zero.id_.enc, [Slc.v zero.ifs], [Slc.v zero.rules], [Slc.v zero.locals], [.int .i64 zero.neighbours], [.int .i64 zero.sources], [.int .i64 zero.routes], [.int .i64 zero.requests]]
end Config
structure IfaceSet where
 l : Slc
namespace IfaceSet
def enc (x : IfaceSet) : List Value := [[Slc.v x.l]].flatten
/-- Its numbers are numbers of their kinds. -/
def WF (x : IfaceSet) : Prop := True
theorem enc_len (x : IfaceSet) : x.enc.length = 1 := by simp [enc]
theorem enc_sub (x : IfaceSet) : SubL x.enc 0 1 x.enc := by have := SubL.all x.enc; rwa [enc_len] at this
theorem sub_l (x : IfaceSet) : SubL x.enc 0 1 ([Slc.v x.l]) := by have := seg_sub (segs := [[Slc.v x.l]]) (i := 0) rfl; simpa [enc, lens] using this
theorem set_l (x : IfaceSet) (v : Slc) : SetL x.enc 0 1 ([Slc.v v]) ({ x with l := v } : IfaceSet).enc := by have := seg_set (segs := [[Slc.v x.l]]) (i := 0) (s := [Slc.v v]) rfl (by simp); simpa [enc, lens] using this
theorem enc_cell (x : IfaceSet) : ∀ v ∈ x.enc, Value.cellB v = true := cells_flatten (cells_cons (cell_one rfl) cells_nil)
def zero : IfaceSet := ⟨Slc.zero⟩
def segs : List (List Value) := [[Slc.v zero.l]]
end IfaceSet
structure IfaceOne where
 ifConf : IfConf
 up : Bool
 next : Int
 wait : Option Nat
namespace IfaceOne
def enc (x : IfaceOne) : List Value := [x.ifConf.enc, [.bool x.up], [.int .u16 x.next], [.map x.wait]].flatten
/-- Its numbers are numbers of their kinds. -/
def WF (x : IfaceOne) : Prop := x.ifConf.WF ∧ True ∧ (0 ≤ x.next ∧ x.next ≤ 65535) ∧ True
theorem enc_len (x : IfaceOne) : x.enc.length = 46 := by simp [enc, IfConf.enc_len]
theorem enc_sub (x : IfaceOne) : SubL x.enc 0 46 x.enc := by have := SubL.all x.enc; rwa [enc_len] at this
theorem sub_ifConf (x : IfaceOne) : SubL x.enc 0 43 (x.ifConf.enc) := by have := seg_sub (segs := [x.ifConf.enc, [.bool x.up], [.int .u16 x.next], [.map x.wait]]) (i := 0) rfl; simpa [enc, lens, IfConf.enc_len] using this
theorem sub_up (x : IfaceOne) : SubL x.enc 43 1 ([.bool x.up]) := by have := seg_sub (segs := [x.ifConf.enc, [.bool x.up], [.int .u16 x.next], [.map x.wait]]) (i := 1) rfl; simpa [enc, lens, IfConf.enc_len] using this
theorem set_up (x : IfaceOne) (v : Bool) : SetL x.enc 43 1 ([.bool v]) ({ x with up := v } : IfaceOne).enc := by have := seg_set (segs := [x.ifConf.enc, [.bool x.up], [.int .u16 x.next], [.map x.wait]]) (i := 1) (s := [.bool v]) rfl (by simp); simpa [enc, lens, IfConf.enc_len] using this
theorem sub_next (x : IfaceOne) : SubL x.enc 44 1 ([.int .u16 x.next]) := by have := seg_sub (segs := [x.ifConf.enc, [.bool x.up], [.int .u16 x.next], [.map x.wait]]) (i := 2) rfl; simpa [enc, lens, IfConf.enc_len] using this
theorem set_next (x : IfaceOne) (v : Int) : SetL x.enc 44 1 ([.int .u16 v]) ({ x with next := v } : IfaceOne).enc := by have := seg_set (segs := [x.ifConf.enc, [.bool x.up], [.int .u16 x.next], [.map x.wait]]) (i := 2) (s := [.int .u16 v]) rfl (by simp); simpa [enc, lens, IfConf.enc_len] using this
theorem sub_wait (x : IfaceOne) : SubL x.enc 45 1 ([.map x.wait]) := by have := seg_sub (segs := [x.ifConf.enc, [.bool x.up], [.int .u16 x.next], [.map x.wait]]) (i := 3) rfl; simpa [enc, lens, IfConf.enc_len] using this
theorem set_wait (x : IfaceOne) (v : Option Nat) : SetL x.enc 45 1 ([.map v]) ({ x with wait := v } : IfaceOne).enc := by have := seg_set (segs := [x.ifConf.enc, [.bool x.up], [.int .u16 x.next], [.map x.wait]]) (i := 3) (s := [.map v]) rfl (by simp); simpa [enc, lens, IfConf.enc_len] using this
theorem enc_cell (x : IfaceOne) : ∀ v ∈ x.enc, Value.cellB v = true := cells_flatten (cells_cons (IfConf.enc_cell x.ifConf) (cells_cons (cell_one rfl) (cells_cons (cell_one rfl) (cells_cons (cell_one rfl) cells_nil))))
def zero : IfaceOne := ⟨IfConf.zero, false, 0, none⟩
def segs : List (List Value) := [zero.ifConf.enc, [.bool zero.up], [.int .u16 zero.next], [.map zero.wait]]
end IfaceOne
structure Ref14Set where
 l : Slc
namespace Ref14Set
def enc (x : Ref14Set) : List Value := [[Slc.v x.l]].flatten
/-- Its numbers are numbers of their kinds. -/
def WF (x : Ref14Set) : Prop := True
theorem enc_len (x : Ref14Set) : x.enc.length = 1 := by simp [enc]
theorem enc_sub (x : Ref14Set) : SubL x.enc 0 1 x.enc := by have := SubL.all x.enc; rwa [enc_len] at this
theorem sub_l (x : Ref14Set) : SubL x.enc 0 1 ([Slc.v x.l]) := by have := seg_sub (segs := [[Slc.v x.l]]) (i := 0) rfl; simpa [enc, lens] using this
theorem set_l (x : Ref14Set) (v : Slc) : SetL x.enc 0 1 ([Slc.v v]) ({ x with l := v } : Ref14Set).enc := by have := seg_set (segs := [[Slc.v x.l]]) (i := 0) (s := [Slc.v v]) rfl (by simp); simpa [enc, lens] using this
theorem enc_cell (x : Ref14Set) : ∀ v ∈ x.enc, Value.cellB v = true := cells_flatten (cells_cons (cell_one rfl) cells_nil)
def zero : Ref14Set := ⟨Slc.zero⟩
def segs : List (List Value) := [[Slc.v zero.l]]
end Ref14Set
structure Ref14If where
 c : IfConf
 up : Bool
 next : Int
 w : Slc
namespace Ref14If
def enc (x : Ref14If) : List Value := [x.c.enc, [.bool x.up], [.int .u16 x.next], [Slc.v x.w]].flatten
/-- Its numbers are numbers of their kinds. -/
def WF (x : Ref14If) : Prop := x.c.WF ∧ True ∧ (0 ≤ x.next ∧ x.next ≤ 65535) ∧ True
theorem enc_len (x : Ref14If) : x.enc.length = 46 := by simp [enc, IfConf.enc_len]
theorem enc_sub (x : Ref14If) : SubL x.enc 0 46 x.enc := by have := SubL.all x.enc; rwa [enc_len] at this
theorem sub_up (x : Ref14If) : SubL x.enc 43 1 ([.bool x.up]) := by have := seg_sub (segs := [x.c.enc, [.bool x.up], [.int .u16 x.next], [Slc.v x.w]]) (i := 1) rfl; simpa [enc, lens, IfConf.enc_len] using this
theorem set_up (x : Ref14If) (v : Bool) : SetL x.enc 43 1 ([.bool v]) ({ x with up := v } : Ref14If).enc := by have := seg_set (segs := [x.c.enc, [.bool x.up], [.int .u16 x.next], [Slc.v x.w]]) (i := 1) (s := [.bool v]) rfl (by simp); simpa [enc, lens, IfConf.enc_len] using this
theorem sub_next (x : Ref14If) : SubL x.enc 44 1 ([.int .u16 x.next]) := by have := seg_sub (segs := [x.c.enc, [.bool x.up], [.int .u16 x.next], [Slc.v x.w]]) (i := 2) rfl; simpa [enc, lens, IfConf.enc_len] using this
theorem set_next (x : Ref14If) (v : Int) : SetL x.enc 44 1 ([.int .u16 v]) ({ x with next := v } : Ref14If).enc := by have := seg_set (segs := [x.c.enc, [.bool x.up], [.int .u16 x.next], [Slc.v x.w]]) (i := 2) (s := [.int .u16 v]) rfl (by simp); simpa [enc, lens, IfConf.enc_len] using this
theorem enc_cell (x : Ref14If) : ∀ v ∈ x.enc, Value.cellB v = true := cells_flatten (cells_cons (IfConf.enc_cell x.c) (cells_cons (cell_one rfl) (cells_cons (cell_one rfl) (cells_cons (cell_one rfl) cells_nil))))
def zero : Ref14If := ⟨IfConf.zero, false, 0, Slc.zero⟩
def segs : List (List Value) := [zero.c.enc, [.bool zero.up], [.int .u16 zero.next], [Slc.v zero.w]]
end Ref14If
structure Ref14Wait where
 to : Bs 16
 l : Slc
namespace Ref14Wait
def enc (x : Ref14Wait) : List Value := [x.to.enc, [Slc.v x.l]].flatten
/-- Its numbers are numbers of their kinds. -/
def WF (x : Ref14Wait) : Prop := True ∧ True
theorem enc_len (x : Ref14Wait) : x.enc.length = 17 := by simp [enc, Bs.len]
theorem enc_sub (x : Ref14Wait) : SubL x.enc 0 17 x.enc := by have := SubL.all x.enc; rwa [enc_len] at this
theorem sub_to (x : Ref14Wait) : SubL x.enc 0 16 (x.to.enc) := by have := seg_sub (segs := [x.to.enc, [Slc.v x.l]]) (i := 0) rfl; simpa [enc, lens, Bs.len] using this
theorem sub_l (x : Ref14Wait) : SubL x.enc 16 1 ([Slc.v x.l]) := by have := seg_sub (segs := [x.to.enc, [Slc.v x.l]]) (i := 1) rfl; simpa [enc, lens, Bs.len] using this
theorem set_l (x : Ref14Wait) (v : Slc) : SetL x.enc 16 1 ([Slc.v v]) ({ x with l := v } : Ref14Wait).enc := by have := seg_set (segs := [x.to.enc, [Slc.v x.l]]) (i := 1) (s := [Slc.v v]) rfl (by simp); simpa [enc, lens, Bs.len] using this
theorem enc_cell (x : Ref14Wait) : ∀ v ∈ x.enc, Value.cellB v = true := cells_flatten (cells_cons (Bs.cell x.to) (cells_cons (cell_one rfl) cells_nil))
def zero : Ref14Wait := ⟨(Bs.zero 16), Slc.zero⟩
def segs : List (List Value) := [zero.to.enc, [Slc.v zero.l]]
end Ref14Wait
structure PacketKnown where
 id_ : Option Addr
 hops : Option Nat
 bases : Option Nat
namespace PacketKnown
def enc (x : PacketKnown) : List Value := [[.pointer x.id_], [.map x.hops], [.map x.bases]].flatten
/-- Its numbers are numbers of their kinds. -/
def WF (x : PacketKnown) : Prop := True ∧ True ∧ True
theorem enc_len (x : PacketKnown) : x.enc.length = 3 := by simp [enc]
theorem enc_sub (x : PacketKnown) : SubL x.enc 0 3 x.enc := by have := SubL.all x.enc; rwa [enc_len] at this
theorem sub_id_ (x : PacketKnown) : SubL x.enc 0 1 ([.pointer x.id_]) := by have := seg_sub (segs := [[.pointer x.id_], [.map x.hops], [.map x.bases]]) (i := 0) rfl; simpa [enc, lens] using this
theorem set_id_ (x : PacketKnown) (v : Option Addr) : SetL x.enc 0 1 ([.pointer v]) ({ x with id_ := v } : PacketKnown).enc := by have := seg_set (segs := [[.pointer x.id_], [.map x.hops], [.map x.bases]]) (i := 0) (s := [.pointer v]) rfl (by simp); simpa [enc, lens] using this
theorem sub_hops (x : PacketKnown) : SubL x.enc 1 1 ([.map x.hops]) := by have := seg_sub (segs := [[.pointer x.id_], [.map x.hops], [.map x.bases]]) (i := 1) rfl; simpa [enc, lens] using this
theorem set_hops (x : PacketKnown) (v : Option Nat) : SetL x.enc 1 1 ([.map v]) ({ x with hops := v } : PacketKnown).enc := by have := seg_set (segs := [[.pointer x.id_], [.map x.hops], [.map x.bases]]) (i := 1) (s := [.map v]) rfl (by simp); simpa [enc, lens] using this
theorem sub_bases (x : PacketKnown) : SubL x.enc 2 1 ([.map x.bases]) := by have := seg_sub (segs := [[.pointer x.id_], [.map x.hops], [.map x.bases]]) (i := 2) rfl; simpa [enc, lens] using this
theorem enc_cell (x : PacketKnown) : ∀ v ∈ x.enc, Value.cellB v = true := cells_flatten (cells_cons (cell_one rfl) (cells_cons (cell_one rfl) (cells_cons (cell_one rfl) cells_nil)))
def zero : PacketKnown := ⟨none, none, none⟩
def segs : List (List Value) := [[.pointer zero.id_], [.map zero.hops], [.map zero.bases]]
end PacketKnown
structure PacketParser where
 known : PacketKnown
namespace PacketParser
def enc (x : PacketParser) : List Value := [x.known.enc].flatten
/-- Its numbers are numbers of their kinds. -/
def WF (x : PacketParser) : Prop := x.known.WF
theorem enc_len (x : PacketParser) : x.enc.length = 3 := by simp [enc, PacketKnown.enc_len]
theorem enc_sub (x : PacketParser) : SubL x.enc 0 3 x.enc := by have := SubL.all x.enc; rwa [enc_len] at this
theorem sub_known (x : PacketParser) : SubL x.enc 0 3 (x.known.enc) := by have := seg_sub (segs := [x.known.enc]) (i := 0) rfl; simpa [enc, lens, PacketKnown.enc_len] using this
theorem set_known (x : PacketParser) (v : PacketKnown) : SetL x.enc 0 3 (v.enc) ({ x with known := v } : PacketParser).enc := by have := seg_set (segs := [x.known.enc]) (i := 0) (s := v.enc) rfl (by simp [PacketKnown.enc_len]); simpa [enc, lens, PacketKnown.enc_len] using this
theorem enc_cell (x : PacketParser) : ∀ v ∈ x.enc, Value.cellB v = true := cells_flatten (cells_cons (PacketKnown.enc_cell x.known) cells_nil)
def zero : PacketParser := ⟨PacketKnown.zero⟩
def segs : List (List Value) := [zero.known.enc]
end PacketParser
structure Raw where
 type : Int
 body : Slc
namespace Raw
def enc (x : Raw) : List Value := [[.int .u8 x.type], [Slc.v x.body]].flatten
/-- Its numbers are numbers of their kinds. -/
def WF (x : Raw) : Prop := (0 ≤ x.type ∧ x.type ≤ 255) ∧ True
theorem enc_len (x : Raw) : x.enc.length = 2 := by simp [enc]
theorem enc_sub (x : Raw) : SubL x.enc 0 2 x.enc := by have := SubL.all x.enc; rwa [enc_len] at this
theorem sub_type (x : Raw) : SubL x.enc 0 1 ([.int .u8 x.type]) := by have := seg_sub (segs := [[.int .u8 x.type], [Slc.v x.body]]) (i := 0) rfl; simpa [enc, lens] using this
theorem sub_body (x : Raw) : SubL x.enc 1 1 ([Slc.v x.body]) := by have := seg_sub (segs := [[.int .u8 x.type], [Slc.v x.body]]) (i := 1) rfl; simpa [enc, lens] using this
theorem set_body (x : Raw) (v : Slc) : SetL x.enc 1 1 ([Slc.v v]) ({ x with body := v } : Raw).enc := by have := seg_set (segs := [[.int .u8 x.type], [Slc.v x.body]]) (i := 1) (s := [Slc.v v]) rfl (by simp); simpa [enc, lens] using this
theorem enc_cell (x : Raw) : ∀ v ∈ x.enc, Value.cellB v = true := cells_flatten (cells_cons (cell_one rfl) (cells_cons (cell_one rfl) cells_nil))
def zero : Raw := ⟨0, Slc.zero⟩
def segs : List (List Value) := [[.int .u8 zero.type], [Slc.v zero.body]]
end Raw
structure Rule where
 chain : Int
 if_ : ByteArray
 dst : Prefix
 hasDst : Bool
 ge : Int
 le : Int
 src : Prefix
 hasSrc : Bool
 id_ : Bs 8
 deny : Bool
 add : Int
deriving DecidableEq
namespace Rule
def enc (x : Rule) : List Value := [[.int .i64 x.chain], [.string x.if_], x.dst.enc, [.bool x.hasDst], [.int .i64 x.ge], [.int .i64 x.le], x.src.enc, [.bool x.hasSrc], x.id_.enc, [.bool x.deny], [.int .i64 x.add]].flatten
/-- Its numbers are numbers of their kinds. -/
def WF (x : Rule) : Prop := (-9223372036854775808 ≤ x.chain ∧ x.chain ≤ 9223372036854775807) ∧ True ∧ x.dst.WF ∧ True ∧ (-9223372036854775808 ≤ x.ge ∧ x.ge ≤ 9223372036854775807) ∧ (-9223372036854775808 ≤ x.le ∧ x.le ≤ 9223372036854775807) ∧ x.src.WF ∧ True ∧ True ∧ True ∧ (-9223372036854775808 ≤ x.add ∧ x.add ≤ 9223372036854775807)
theorem enc_len (x : Rule) : x.enc.length = 50 := by simp [enc, Bs.len, Prefix.enc_len]
theorem enc_sub (x : Rule) : SubL x.enc 0 50 x.enc := by have := SubL.all x.enc; rwa [enc_len] at this
theorem sub_if_ (x : Rule) : SubL x.enc 1 1 ([.string x.if_]) := by have := seg_sub (segs := [[.int .i64 x.chain], [.string x.if_], x.dst.enc, [.bool x.hasDst], [.int .i64 x.ge], [.int .i64 x.le], x.src.enc, [.bool x.hasSrc], x.id_.enc, [.bool x.deny], [.int .i64 x.add]]) (i := 1) rfl; simpa [enc, lens, Bs.len, Prefix.enc_len] using this
theorem sub_dst (x : Rule) : SubL x.enc 2 17 (x.dst.enc) := by have := seg_sub (segs := [[.int .i64 x.chain], [.string x.if_], x.dst.enc, [.bool x.hasDst], [.int .i64 x.ge], [.int .i64 x.le], x.src.enc, [.bool x.hasSrc], x.id_.enc, [.bool x.deny], [.int .i64 x.add]]) (i := 2) rfl; simpa [enc, lens, Bs.len, Prefix.enc_len] using this
theorem sub_src (x : Rule) : SubL x.enc 22 17 (x.src.enc) := by have := seg_sub (segs := [[.int .i64 x.chain], [.string x.if_], x.dst.enc, [.bool x.hasDst], [.int .i64 x.ge], [.int .i64 x.le], x.src.enc, [.bool x.hasSrc], x.id_.enc, [.bool x.deny], [.int .i64 x.add]]) (i := 6) rfl; simpa [enc, lens, Bs.len, Prefix.enc_len] using this
theorem set_src (x : Rule) (v : Prefix) : SetL x.enc 22 17 (v.enc) ({ x with src := v } : Rule).enc := by have := seg_set (segs := [[.int .i64 x.chain], [.string x.if_], x.dst.enc, [.bool x.hasDst], [.int .i64 x.ge], [.int .i64 x.le], x.src.enc, [.bool x.hasSrc], x.id_.enc, [.bool x.deny], [.int .i64 x.add]]) (i := 6) (s := v.enc) rfl (by simp [Prefix.enc_len]); simpa [enc, lens, Bs.len, Prefix.enc_len] using this
theorem sub_id_ (x : Rule) : SubL x.enc 40 8 (x.id_.enc) := by have := seg_sub (segs := [[.int .i64 x.chain], [.string x.if_], x.dst.enc, [.bool x.hasDst], [.int .i64 x.ge], [.int .i64 x.le], x.src.enc, [.bool x.hasSrc], x.id_.enc, [.bool x.deny], [.int .i64 x.add]]) (i := 8) rfl; simpa [enc, lens, Bs.len, Prefix.enc_len] using this
theorem set_id_ (x : Rule) (v : Bs 8) : SetL x.enc 40 8 (v.enc) ({ x with id_ := v } : Rule).enc := by have := seg_set (segs := [[.int .i64 x.chain], [.string x.if_], x.dst.enc, [.bool x.hasDst], [.int .i64 x.ge], [.int .i64 x.le], x.src.enc, [.bool x.hasSrc], x.id_.enc, [.bool x.deny], [.int .i64 x.add]]) (i := 8) (s := v.enc) rfl (by simp [Bs.len]); simpa [enc, lens, Bs.len, Prefix.enc_len] using this
theorem enc_cell (x : Rule) : ∀ v ∈ x.enc, Value.cellB v = true := cells_flatten (cells_cons (cell_one rfl) (cells_cons (cell_one rfl) (cells_cons (Prefix.enc_cell x.dst) (cells_cons (cell_one rfl) (cells_cons (cell_one rfl) (cells_cons (cell_one rfl) (cells_cons (Prefix.enc_cell x.src) (cells_cons (cell_one rfl) (cells_cons (Bs.cell x.id_) (cells_cons (cell_one rfl) (cells_cons (cell_one rfl) cells_nil)))))))))))
def zero : Rule := ⟨0, ByteArray.empty, Prefix.zero, false, 0, 0, Prefix.zero, false, (Bs.zero 8), false, 0⟩
def segs : List (List Value) := [[.int .i64 zero.chain], [.string zero.if_], zero.dst.enc, [.bool zero.hasDst], [.int .i64 zero.ge], [.int .i64 zero.le], zero.src.enc, [.bool zero.hasSrc], zero.id_.enc, [.bool zero.deny], [.int .i64 zero.add]]
theorem enc_inj {x y : Rule} (h0 : x.enc = y.enc) : x = y := by
 obtain ⟨a0, a1, a2, a3, a4, a5, a6, a7, a8, a9, a10⟩ := x
 obtain ⟨b0, b1, b2, b3, b4, b5, b6, b7, b8, b9, b10⟩ := y
 simp only [enc, List.flatten_cons, List.flatten_nil, List.append_nil] at h0
 obtain ⟨e0, h1⟩ := List.append_inj h0 (rfl)
 obtain rfl : a0 = b0 := by simpa using e0
 obtain ⟨e1, h2⟩ := List.append_inj h1 (rfl)
 obtain rfl : a1 = b1 := by simpa using e1
 obtain ⟨e2, h3⟩ := List.append_inj h2 (by rw [Prefix.enc_len, Prefix.enc_len])
 obtain rfl := Prefix.enc_inj e2
 obtain ⟨e3, h4⟩ := List.append_inj h3 (rfl)
 obtain rfl : a3 = b3 := by simpa using e3
 obtain ⟨e4, h5⟩ := List.append_inj h4 (rfl)
 obtain rfl : a4 = b4 := by simpa using e4
 obtain ⟨e5, h6⟩ := List.append_inj h5 (rfl)
 obtain rfl : a5 = b5 := by simpa using e5
 obtain ⟨e6, h7⟩ := List.append_inj h6 (by rw [Prefix.enc_len, Prefix.enc_len])
 obtain rfl := Prefix.enc_inj e6
 obtain ⟨e7, h8⟩ := List.append_inj h7 (rfl)
 obtain rfl : a7 = b7 := by simpa using e7
 obtain ⟨e8, h9⟩ := List.append_inj h8 (by rw [Bs.len, Bs.len])
 obtain rfl := Bs.enc_inj e8
 obtain ⟨e9, h10⟩ := List.append_inj h9 (rfl)
 obtain rfl : a9 = b9 := by simpa using e9
 obtain rfl : a10 = b10 := by simpa using h10
 rfl
end Rule
structure Local where
 pair : Pair
 metric : Int
deriving DecidableEq
namespace Local
def enc (x : Local) : List Value := [x.pair.enc, [.int .i64 x.metric]].flatten
/-- Its numbers are numbers of their kinds. -/
def WF (x : Local) : Prop := x.pair.WF ∧ (-9223372036854775808 ≤ x.metric ∧ x.metric ≤ 9223372036854775807)
theorem enc_len (x : Local) : x.enc.length = 35 := by simp [enc, Pair.enc_len]
theorem enc_sub (x : Local) : SubL x.enc 0 35 x.enc := by have := SubL.all x.enc; rwa [enc_len] at this
theorem sub_pair (x : Local) : SubL x.enc 0 34 (x.pair.enc) := by have := seg_sub (segs := [x.pair.enc, [.int .i64 x.metric]]) (i := 0) rfl; simpa [enc, lens, Pair.enc_len] using this
theorem set_pair (x : Local) (v : Pair) : SetL x.enc 0 34 (v.enc) ({ x with pair := v } : Local).enc := by have := seg_set (segs := [x.pair.enc, [.int .i64 x.metric]]) (i := 0) (s := v.enc) rfl (by simp [Pair.enc_len]); simpa [enc, lens, Pair.enc_len] using this
theorem sub_metric (x : Local) : SubL x.enc 34 1 ([.int .i64 x.metric]) := by have := seg_sub (segs := [x.pair.enc, [.int .i64 x.metric]]) (i := 1) rfl; simpa [enc, lens, Pair.enc_len] using this
theorem set_metric (x : Local) (v : Int) : SetL x.enc 34 1 ([.int .i64 v]) ({ x with metric := v } : Local).enc := by have := seg_set (segs := [x.pair.enc, [.int .i64 x.metric]]) (i := 1) (s := [.int .i64 v]) rfl (by simp); simpa [enc, lens, Pair.enc_len] using this
theorem enc_cell (x : Local) : ∀ v ∈ x.enc, Value.cellB v = true := cells_flatten (cells_cons (Pair.enc_cell x.pair) (cells_cons (cell_one rfl) cells_nil))
def zero : Local := ⟨Pair.zero, 0⟩
def segs : List (List Value) := [zero.pair.enc, [.int .i64 zero.metric]]
theorem enc_inj {x y : Local} (h0 : x.enc = y.enc) : x = y := by
 obtain ⟨a0, a1⟩ := x
 obtain ⟨b0, b1⟩ := y
 simp only [enc, List.flatten_cons, List.flatten_nil, List.append_nil] at h0
 obtain ⟨e0, h1⟩ := List.append_inj h0 (by rw [Pair.enc_len, Pair.enc_len])
 obtain rfl := Pair.enc_inj e0
 obtain rfl : a1 = b1 := by simpa using h1
 rfl
end Local
structure PackBuffer where
 src : Bs 16
 mtu : Int
 l : Slc
namespace PackBuffer
def enc (x : PackBuffer) : List Value := [x.src.enc, [.int .i64 x.mtu], [Slc.v x.l]].flatten
/-- Its numbers are numbers of their kinds. -/
def WF (x : PackBuffer) : Prop := True ∧ (-9223372036854775808 ≤ x.mtu ∧ x.mtu ≤ 9223372036854775807) ∧ True
theorem enc_len (x : PackBuffer) : x.enc.length = 18 := by simp [enc, Bs.len]
theorem enc_sub (x : PackBuffer) : SubL x.enc 0 18 x.enc := by have := SubL.all x.enc; rwa [enc_len] at this
theorem sub_src (x : PackBuffer) : SubL x.enc 0 16 (x.src.enc) := by have := seg_sub (segs := [x.src.enc, [.int .i64 x.mtu], [Slc.v x.l]]) (i := 0) rfl; simpa [enc, lens, Bs.len] using this
theorem set_src (x : PackBuffer) (v : Bs 16) : SetL x.enc 0 16 (v.enc) ({ x with src := v } : PackBuffer).enc := by have := seg_set (segs := [x.src.enc, [.int .i64 x.mtu], [Slc.v x.l]]) (i := 0) (s := v.enc) rfl (by simp [Bs.len]); simpa [enc, lens, Bs.len] using this
theorem sub_mtu (x : PackBuffer) : SubL x.enc 16 1 ([.int .i64 x.mtu]) := by have := seg_sub (segs := [x.src.enc, [.int .i64 x.mtu], [Slc.v x.l]]) (i := 1) rfl; simpa [enc, lens, Bs.len] using this
theorem sub_l (x : PackBuffer) : SubL x.enc 17 1 ([Slc.v x.l]) := by have := seg_sub (segs := [x.src.enc, [.int .i64 x.mtu], [Slc.v x.l]]) (i := 2) rfl; simpa [enc, lens, Bs.len] using this
theorem set_l (x : PackBuffer) (v : Slc) : SetL x.enc 17 1 ([Slc.v v]) ({ x with l := v } : PackBuffer).enc := by have := seg_set (segs := [x.src.enc, [.int .i64 x.mtu], [Slc.v x.l]]) (i := 2) (s := [Slc.v v]) rfl (by simp); simpa [enc, lens, Bs.len] using this
theorem enc_cell (x : PackBuffer) : ∀ v ∈ x.enc, Value.cellB v = true := cells_flatten (cells_cons (Bs.cell x.src) (cells_cons (cell_one rfl) (cells_cons (cell_one rfl) cells_nil)))
def zero : PackBuffer := ⟨(Bs.zero 16), 0, Slc.zero⟩
def segs : List (List Value) := [zero.src.enc, [.int .i64 zero.mtu], [Slc.v zero.l]]
end PackBuffer
structure Ref07Open where
 b : Slc
 s : Option Addr
namespace Ref07Open
def enc (x : Ref07Open) : List Value := [[Slc.v x.b], [.pointer x.s]].flatten
/-- Its numbers are numbers of their kinds. -/
def WF (x : Ref07Open) : Prop := True ∧ True
theorem enc_len (x : Ref07Open) : x.enc.length = 2 := by simp [enc]
theorem enc_sub (x : Ref07Open) : SubL x.enc 0 2 x.enc := by have := SubL.all x.enc; rwa [enc_len] at this
theorem enc_cell (x : Ref07Open) : ∀ v ∈ x.enc, Value.cellB v = true := cells_flatten (cells_cons (cell_one rfl) (cells_cons (cell_one rfl) cells_nil))
def zero : Ref07Open := ⟨Slc.zero, none⟩
def segs : List (List Value) := [[Slc.v zero.b], [.pointer zero.s]]
end Ref07Open
structure PacketPiece where
 reader : Option Addr
 tlv : Tlv
 bad : Bool
namespace PacketPiece
def enc (x : PacketPiece) : List Value := [[.pointer x.reader], x.tlv.enc, [.bool x.bad]].flatten
/-- Its numbers are numbers of their kinds. -/
def WF (x : PacketPiece) : Prop := True ∧ x.tlv.WF ∧ True
theorem enc_len (x : PacketPiece) : x.enc.length = 70 := by simp [enc, Tlv.enc_len]
theorem enc_sub (x : PacketPiece) : SubL x.enc 0 70 x.enc := by have := SubL.all x.enc; rwa [enc_len] at this
theorem sub_reader (x : PacketPiece) : SubL x.enc 0 1 ([.pointer x.reader]) := by have := seg_sub (segs := [[.pointer x.reader], x.tlv.enc, [.bool x.bad]]) (i := 0) rfl; simpa [enc, lens, Tlv.enc_len] using this
theorem sub_tlv (x : PacketPiece) : SubL x.enc 1 68 (x.tlv.enc) := by have := seg_sub (segs := [[.pointer x.reader], x.tlv.enc, [.bool x.bad]]) (i := 1) rfl; simpa [enc, lens, Tlv.enc_len] using this
theorem set_tlv (x : PacketPiece) (v : Tlv) : SetL x.enc 1 68 (v.enc) ({ x with tlv := v } : PacketPiece).enc := by have := seg_set (segs := [[.pointer x.reader], x.tlv.enc, [.bool x.bad]]) (i := 1) (s := v.enc) rfl (by simp [Tlv.enc_len]); simpa [enc, lens, Tlv.enc_len] using this
theorem sub_bad (x : PacketPiece) : SubL x.enc 69 1 ([.bool x.bad]) := by have := seg_sub (segs := [[.pointer x.reader], x.tlv.enc, [.bool x.bad]]) (i := 2) rfl; simpa [enc, lens, Tlv.enc_len] using this
theorem set_bad (x : PacketPiece) (v : Bool) : SetL x.enc 69 1 ([.bool v]) ({ x with bad := v } : PacketPiece).enc := by have := seg_set (segs := [[.pointer x.reader], x.tlv.enc, [.bool x.bad]]) (i := 2) (s := [.bool v]) rfl (by simp); simpa [enc, lens, Tlv.enc_len] using this
theorem enc_cell (x : PacketPiece) : ∀ v ∈ x.enc, Value.cellB v = true := cells_flatten (cells_cons (cell_one rfl) (cells_cons (Tlv.enc_cell x.tlv) (cells_cons (cell_one rfl) cells_nil)))
def zero : PacketPiece := ⟨none, Tlv.zero, false⟩
def segs : List (List Value) := [[.pointer zero.reader], zero.tlv.enc, [.bool zero.bad]]
end PacketPiece
structure OctetReader where
 p : Slc
 at_ : Int
 err : Int
 spot : Int
namespace OctetReader
def enc (x : OctetReader) : List Value := [[Slc.v x.p], [.int .i64 x.at_], [.int .i64 x.err], [.int .i64 x.spot]].flatten
/-- Its numbers are numbers of their kinds. -/
def WF (x : OctetReader) : Prop := True ∧ (-9223372036854775808 ≤ x.at_ ∧ x.at_ ≤ 9223372036854775807) ∧ (-9223372036854775808 ≤ x.err ∧ x.err ≤ 9223372036854775807) ∧ (-9223372036854775808 ≤ x.spot ∧ x.spot ≤ 9223372036854775807)
theorem enc_len (x : OctetReader) : x.enc.length = 4 := by simp [enc]
theorem enc_sub (x : OctetReader) : SubL x.enc 0 4 x.enc := by have := SubL.all x.enc; rwa [enc_len] at this
theorem sub_p (x : OctetReader) : SubL x.enc 0 1 ([Slc.v x.p]) := by have := seg_sub (segs := [[Slc.v x.p], [.int .i64 x.at_], [.int .i64 x.err], [.int .i64 x.spot]]) (i := 0) rfl; simpa [enc, lens] using this
theorem sub_at_ (x : OctetReader) : SubL x.enc 1 1 ([.int .i64 x.at_]) := by have := seg_sub (segs := [[Slc.v x.p], [.int .i64 x.at_], [.int .i64 x.err], [.int .i64 x.spot]]) (i := 1) rfl; simpa [enc, lens] using this
theorem set_at_ (x : OctetReader) (v : Int) : SetL x.enc 1 1 ([.int .i64 v]) ({ x with at_ := v } : OctetReader).enc := by have := seg_set (segs := [[Slc.v x.p], [.int .i64 x.at_], [.int .i64 x.err], [.int .i64 x.spot]]) (i := 1) (s := [.int .i64 v]) rfl (by simp); simpa [enc, lens] using this
theorem sub_err (x : OctetReader) : SubL x.enc 2 1 ([.int .i64 x.err]) := by have := seg_sub (segs := [[Slc.v x.p], [.int .i64 x.at_], [.int .i64 x.err], [.int .i64 x.spot]]) (i := 2) rfl; simpa [enc, lens] using this
theorem set_err (x : OctetReader) (v : Int) : SetL x.enc 2 1 ([.int .i64 v]) ({ x with err := v } : OctetReader).enc := by have := seg_set (segs := [[Slc.v x.p], [.int .i64 x.at_], [.int .i64 x.err], [.int .i64 x.spot]]) (i := 2) (s := [.int .i64 v]) rfl (by simp); simpa [enc, lens] using this
theorem sub_spot (x : OctetReader) : SubL x.enc 3 1 ([.int .i64 x.spot]) := by have := seg_sub (segs := [[Slc.v x.p], [.int .i64 x.at_], [.int .i64 x.err], [.int .i64 x.spot]]) (i := 3) rfl; simpa [enc, lens] using this
theorem set_spot (x : OctetReader) (v : Int) : SetL x.enc 3 1 ([.int .i64 v]) ({ x with spot := v } : OctetReader).enc := by have := seg_set (segs := [[Slc.v x.p], [.int .i64 x.at_], [.int .i64 x.err], [.int .i64 x.spot]]) (i := 3) (s := [.int .i64 v]) rfl (by simp); simpa [enc, lens] using this
theorem enc_cell (x : OctetReader) : ∀ v ∈ x.enc, Value.cellB v = true := cells_flatten (cells_cons (cell_one rfl) (cells_cons (cell_one rfl) (cells_cons (cell_one rfl) (cells_cons (cell_one rfl) cells_nil))))
def zero : OctetReader := ⟨Slc.zero, 0, 0, 0⟩
def segs : List (List Value) := [[Slc.v zero.p], [.int .i64 zero.at_], [.int .i64 zero.err], [.int .i64 zero.spot]]
end OctetReader
structure Ref01Reader where
 p : Slc
 place : Int
 e : Int
 spot : Int
namespace Ref01Reader
def enc (x : Ref01Reader) : List Value := [[Slc.v x.p], [.int .i64 x.place], [.int .i64 x.e], [.int .i64 x.spot]].flatten
/-- Its numbers are numbers of their kinds. -/
def WF (x : Ref01Reader) : Prop := True ∧ (-9223372036854775808 ≤ x.place ∧ x.place ≤ 9223372036854775807) ∧ (-9223372036854775808 ≤ x.e ∧ x.e ≤ 9223372036854775807) ∧ (-9223372036854775808 ≤ x.spot ∧ x.spot ≤ 9223372036854775807)
theorem enc_len (x : Ref01Reader) : x.enc.length = 4 := by simp [enc]
theorem enc_sub (x : Ref01Reader) : SubL x.enc 0 4 x.enc := by have := SubL.all x.enc; rwa [enc_len] at this
theorem sub_p (x : Ref01Reader) : SubL x.enc 0 1 ([Slc.v x.p]) := by have := seg_sub (segs := [[Slc.v x.p], [.int .i64 x.place], [.int .i64 x.e], [.int .i64 x.spot]]) (i := 0) rfl; simpa [enc, lens] using this
theorem sub_spot (x : Ref01Reader) : SubL x.enc 3 1 ([.int .i64 x.spot]) := by have := seg_sub (segs := [[Slc.v x.p], [.int .i64 x.place], [.int .i64 x.e], [.int .i64 x.spot]]) (i := 3) rfl; simpa [enc, lens] using this
theorem set_spot (x : Ref01Reader) (v : Int) : SetL x.enc 3 1 ([.int .i64 v]) ({ x with spot := v } : Ref01Reader).enc := by have := seg_set (segs := [[Slc.v x.p], [.int .i64 x.place], [.int .i64 x.e], [.int .i64 x.spot]]) (i := 3) (s := [.int .i64 v]) rfl (by simp); simpa [enc, lens] using this
theorem enc_cell (x : Ref01Reader) : ∀ v ∈ x.enc, Value.cellB v = true := cells_flatten (cells_cons (cell_one rfl) (cells_cons (cell_one rfl) (cells_cons (cell_one rfl) (cells_cons (cell_one rfl) cells_nil))))
def zero : Ref01Reader := ⟨Slc.zero, 0, 0, 0⟩
def segs : List (List Value) := [[Slc.v zero.p], [.int .i64 zero.place], [.int .i64 zero.e], [.int .i64 zero.spot]]
end Ref01Reader
end Slb
