/- Q16: a part of the proof that a law of this package holds for every input; no condition. -/
import Derived.Test.YtgelmgaackblcaaQ15
namespace Slb
open Go Go.Proofs
set_option maxRecDepth 20000
/-- What the document's table becomes where something may meet a request. -/
def RMet (L : List Pending) (p : Pair) (id : Bs 8) (d : Distance) (ok : Bool) (L' : List Pending) : Prop :=
  (ok = false ∧ L' = L ∧ ((∀ x ∈ L, keyQ x ≠ ⟨p, id⟩) ∨ ∃ x ∈ L, keyQ x = ⟨p, id⟩ ∧ meetsB d x.seqno = false)) ∨
  (ok = true ∧ ∃ (i : Nat) (x : Pending), L[i]? = some x ∧ keyQ x = ⟨p, id⟩ ∧ meetsB d x.seqno = true ∧ L' = L.eraseIdx i)
theorem cut_del {L : List Pending} {i : Nat} : ([] ++ (L.take i).drop 0) ++ (L.take L.length).drop (i + 1) = L.eraseIdx i := by simp [List.eraseIdx_eq_take_drop_succ]
theorem rt_eq {b : Nat} {most : Int} {a : Option Addr} {c : Nat} {L L2 : List Pending} (h : L = L2) : [blk b (Ref18Table.enc ⟨most, ⟨a, L.length, c⟩⟩) 57, slA 67 45 Pending.enc (.slice a L.length c) L] = [blk b (Ref18Table.enc ⟨most, ⟨a, L2.length, c⟩⟩) 57, slA 67 45 Pending.enc (.slice a L2.length c) L2] := by rw [h]

theorem rmet_spec (F : Fr) {b : Nat} {most : Int} {a : Option Addr} {c : Nat} {L : List Pending} (hh : SlH a c L) (hL : L.length ≤ 1000000) (hW : ∀ x ∈ L, 0 ≤ x.seqno ∧ x.seqno ≤ 65535) (p : Pair) (id : Bs 8)(d : Distance) (hd : d.WF) : Spec Try.prog 20 #[.pointer (some ⟨b, 0, none⟩), .agg (Pair.enc p).toArray, .agg (Bs.enc id).toArray, .agg (Distance.enc d).toArray] [blk b (Ref18Table.enc ⟨most, ⟨a, L.length, c⟩⟩) 57, slA 67 45 Pending.enc (.slice a L.length c) L] F (fun v S => ∃ a2 c2, ∃ L2 : List Pending, SlH a2 c2 L2 ∧ ∃ ok, v = .bool ok ∧ RMet L p id d ok L2 ∧ S = [blk b (Ref18Table.enc ⟨most, ⟨a2, L2.length, c2⟩⟩) 57, slA 67 45 Pending.enc (.slice a2 L2.length c2) L2]) := by
  have hcle := hh.le
  refine Spec.intro (N := 48) (args := [.pointer (some ⟨b, 0, none⟩), .agg (Pair.enc p).toArray, .agg (Bs.enc id).toArray, .agg (Distance.enc d).toArray]) Try.func20 rfl rfl (by simp) ?_
  refine Run.seq fun k1 hk1 => ?_
  refine Run.region ?_
  show Sq _ _ _ [0, 1, 2, 3] _ _ _ _
  refine Sq.eff (i := 0) rfl (Want.none rfl) rfl (ltN rfl) (EF.boxA rfl rfl) ?_
  rintro _ _ ⟨b5, rfl, rfl⟩
  refine Sq.eff (i := 1) rfl (Want.none rfl) rfl (ltN rfl) (EF.boxA rfl rfl) ?_
  rintro _ _ ⟨b6, rfl, rfl⟩
  refine Sq.eff (i := 2) rfl (Want.none rfl) rfl (ltN rfl) (EF.boxA rfl rfl) ?_
  rintro _ _ ⟨b7, rfl, rfl⟩
  refine Sq.quiet (i := 3) rfl (Want.none rfl) rfl (ltN rfl) (QP.assign rfl rfl).read ?_
  refine Sq.nil ?_
  refine hk1 _ _ ?_
  refine Run.seq fun k2 hk2 => ?_
  refine Run.region ?_
  show Sq _ _ _ [0, 1, 2, 3, 4] _ _ _ _
  refine Sq.quiet (i := 0) rfl (Want.none rfl) rfl (ltN rfl) (QP.move rfl rfl).read ?_
  refine Sq.quiet (i := 1) rfl (Want.none rfl) rfl (ltN rfl) (QR.load rfl rfl g28 (Pair.enc_sub _)) ?_
  refine Sq.quiet (i := 2) rfl (Want.none rfl) rfl (ltN rfl) (QR.load rfl rfl g30 (Bs.sub _)) ?_
  refine Sq.eff (i := 3) rfl (Want.none rfl) rfl (ltN rfl) (EF.call rfl ce36 rfl (.cons (by repeat (first | exact Pick.head | apply Pick.tail)) (.cons (by repeat (first | exact Pick.head | apply Pick.tail)) Takes.nil)) (fun F' hle hr => rfind_spec F' hh hL p id)) ?_
  rintro _ _ ⟨_, ⟨rfl, n13, rfl, hfind⟩, rfl⟩
  refine J.app ?_
  refine Sq.quiet (i := 4) rfl (Want.none rfl) rfl (ltN rfl) (QP.assign rfl rfl).read ?_
  refine Sq.nil ?_
  refine hk2 _ _ ?_
  refine Run.seq fun k3 hk3 => ?_
  refine Run.seq fun k4 hk4 => ?_
  refine Run.regionD (M := [0, 1, 3, 7, 7, 23, 55, 119, 7, 503, 1015, 2039, 4095, 8191, 16383]) (q := 28671) (r := 2184) (by kernel_rfl) ?_
  refine Dw.pure (i := 0) rfl (by kernel_rfl) (Want.none rfl) rfl (ltN rfl) (QP.move rfl rfl) ?_
  refine Dw.pure (i := 1) rfl (by kernel_rfl) (Want.none rfl) rfl (ltN rfl) (QP.lss rfl rfl rfl) ?_
  refine J.caseD (fun c15 => ?_) (fun c15 => ?_)
  · skip
    refine Dw.pure (i := 2) rfl (by kernel_rfl) (Want.none rfl) rfl (ltN rfl) (QP.move rfl rfl) ?_
    refine Dw.skip (i := 3) rfl (by kernel_rfl) (Want.no rfl rfl rfl rfl) rfl (ltN rfl) ?_
    refine Dw.skip (i := 4) rfl (by kernel_rfl) (Want.no rfl rfl rfl rfl) rfl (ltN rfl) ?_
    refine Dw.skip (i := 5) rfl (by kernel_rfl) (Want.no rfl rfl rfl rfl) rfl (ltN rfl) ?_
    refine Dw.skip (i := 6) rfl (by kernel_rfl) (Want.no rfl rfl rfl rfl) rfl (ltN rfl) ?_
    refine Dw.skip (i := 7) rfl (by kernel_rfl) (Want.no rfl rfl rfl rfl) rfl (ltN rfl) ?_
    refine Dw.skip (i := 8) rfl (by kernel_rfl) (Want.no rfl rfl rfl rfl) rfl (ltN rfl) ?_
    refine Dw.skip (i := 9) rfl (by kernel_rfl) (Want.no rfl rfl rfl rfl) rfl (ltN rfl) ?_
    refine Dw.skip (i := 10) rfl (by kernel_rfl) (Want.no rfl rfl rfl rfl) rfl (ltN rfl) ?_
    refine Dw.skip (i := 11) rfl (by kernel_rfl) (Want.no rfl rfl rfl rfl) rfl (ltN rfl) ?_
    refine Dw.eff (i := 12) (by kernel_rfl) (by kernel_rfl) ?_
    refine One.skipD (o := _) rfl (by kernel_rfl) (Want.no rfl rfl rfl rfl) rfl (ltN rfl) ?_
    refine Dw.skip (i := 13) rfl (by kernel_rfl) (Want.no rfl rfl rfl rfl) rfl (ltN rfl) ?_
    refine Dw.pure (i := 14) rfl (by kernel_rfl) (Want.none rfl) rfl (ltN rfl) (QP.pick_t rfl rfl rfl) ?_
    refine Dw.nil (by kernel_rfl) ?_
    refine hk4 _ _ ?_
    refine Run.cond_t rfl ?_
    refine Run.seq fun k5 hk5 => ?_
    refine Run.region ?_
    show Sq _ _ _ [0] _ _ _ _
    refine Sq.quiet (i := 0) rfl (Want.none rfl) rfl (ltN rfl) (QP.assign rfl rfl).read ?_
    refine Sq.nil ?_
    refine hk5 _ _ ?_
    refine Run.ret ?_
    exact J.ends (res_tmp rfl rfl) (.cons (by repeat (first | exact Pick.head | apply Pick.tail)) (.cons (by repeat (first | exact Pick.head | apply Pick.tail)) Takes.nil)) ⟨_, _, _, hh, false, rfl, .inl ⟨rfl, rfl, .inl (by rcases hfind with ⟨_, h1⟩ | ⟨i, x, h1, _, _⟩; exact h1; omega)⟩, rfl⟩
  · skip
    refine Dw.pure (i := 2) rfl (by kernel_rfl) (Want.none rfl) rfl (ltN rfl) (QP.move rfl rfl) ?_
    obtain ⟨i, x, rfl, hi, hkx⟩ : ∃ (i : Nat) (x : Pending), n13 = (i : Int) ∧ L[i]? = some x ∧ keyQ x = ⟨p, id⟩ := by
      rcases hfind with ⟨h1, _⟩ | ⟨i, x, h1, h2, h3⟩
      · omega
      · exact ⟨i, x, h1, h2, h3⟩
    have hlt : i < L.length := (List.getElem?_eq_some_iff.1 hi).1
    obtain ⟨b0, o0, rfl⟩ := hh.get (by omega)
    refine Dw.read (i := 3) rfl (by kernel_rfl) (Want.yes rfl rfl rfl rfl) rfl (ltN rfl) (QR.load rfl rfl g45 (Distance.enc_sub _)) ?_
    refine Dw.pure (i := 4) rfl (by kernel_rfl) (Want.yes rfl rfl rfl rfl) rfl (ltN rfl) (QP.move rfl rfl) ?_
    refine Dw.pure (i := 5) rfl (by kernel_rfl) (Want.yes rfl rfl rfl rfl) rfl (ltN rfl) (QP.nilCheck rfl rfl) ?_
    refine Dw.pure (i := 6) rfl (by kernel_rfl) (Want.yes rfl rfl rfl rfl) rfl (ltN rfl) (QP.fieldAddr rfl rfl f57_1) ?_
    refine Dw.read (i := 7) rfl (by kernel_rfl) (Want.yes rfl rfl rfl rfl) rfl (ltN rfl) (QR.load1 (v := .slice _ L.length _) rfl rfl g40 (Ref18Table.sub_l _)) ?_
    refine Dw.pure (i := 8) rfl (by kernel_rfl) (Want.yes rfl rfl rfl rfl) rfl (ltN rfl) (QP.move rfl rfl) ?_
    refine Dw.pure (i := 9) rfl (by kernel_rfl) (Want.yes rfl rfl rfl rfl) rfl (ltN rfl) (QP.indexAddr rfl rfl rfl Try.underlying40 z67 (by first | omega | (simp only [List.length_map, List.length_append, List.length_cons, List.length_nil, List.length_take, List.length_drop]; omega)) (by first | omega | (simp only [List.length_map, List.length_append, List.length_cons, List.length_nil, List.length_take, List.length_drop]; omega))) ?_
    refine Dw.pure (i := 10) rfl (by kernel_rfl) (Want.yes rfl rfl rfl rfl) rfl (ltN rfl) (QP.fieldAddr rfl rfl f67_2) ?_
    refine Dw.read (i := 11) rfl (by kernel_rfl) (Want.yes rfl rfl rfl rfl) rfl (ltN rfl) (QR.loadSlF1 rfl rfl g31 Pending.enc_len (SlAt.own Pending.enc_len (by repeat (first | exact List.Mem.head _ | apply List.Mem.tail))) hi (Pending.sub_seqno _)) ?_
    refine Dw.eff (i := 12) (by kernel_rfl) (by kernel_rfl) ?_
    refine One.mk (o := _) (l := []) rfl (by kernel_rfl) (Want.yes rfl rfl rfl rfl) rfl (ltN rfl) (EF.call rfl ce39 rfl Takes.nil (fun F' hle hr => rmeets_spec F' d x.seqno hd (hW x (List.mem_of_getElem? hi)))) (by kernel_rfl) ?_
    rintro _ _ ⟨_, ⟨rfl, rfl⟩, rfl⟩
    refine ⟨fun _ h => (by cases h), ?_⟩
    refine J.app ?_
    refine J.caseB (fun c26 => ?_) (fun c26 => ?_)
    · skip
      refine Dw.pure (i := 13) rfl (by kernel_rfl) (Want.yes rfl rfl rfl rfl) rfl (ltN rfl) (QP.not rfl rfl) ?_
      refine Dw.pure (i := 14) rfl (by kernel_rfl) (Want.none rfl) rfl (ltN rfl) (QP.pick_f rfl rfl rfl) ?_
      refine Dw.nil (by kernel_rfl) ?_
      refine hk4 _ _ ?_
      refine Run.cond_f rfl ?_
      refine Run.skip ?_
      refine hk3 _ _ ?_
      refine Run.seq fun k6 hk6 => ?_
      refine Run.regionD (M := [0, 0, 0, 4, 12, 28, 0, 124, 254, 0, 512, 1536, 3584, 0, 8192, 32256, 65534, 131071, 262143, 524287]) (q := 458493) (r := 4128) (by kernel_rfl) ?_
      refine Dw.pure (i := 0) rfl (by kernel_rfl) (Want.none rfl) rfl (ltN rfl) (QP.move rfl rfl) ?_
      refine Dw.pure (i := 2) rfl (by kernel_rfl) (Want.none rfl) rfl (ltN rfl) (QP.move rfl rfl) ?_
      refine Dw.pure (i := 3) rfl (by kernel_rfl) (Want.none rfl) rfl (ltN rfl) (QP.nilCheck rfl rfl) ?_
      refine Dw.pure (i := 4) rfl (by kernel_rfl) (Want.none rfl) rfl (ltN rfl) (QP.fieldAddr rfl rfl f57_1) ?_
      refine Dw.read (i := 5) rfl (by kernel_rfl) (Want.none rfl) rfl (ltN rfl) (QR.load1 (v := .slice _ L.length _) rfl rfl g40 (Ref18Table.sub_l _)) ?_
      refine Dw.pure (i := 6) rfl (by kernel_rfl) (Want.none rfl) rfl (ltN rfl) (QP.move rfl rfl) ?_
      refine Dw.pure (i := 7) rfl (by kernel_rfl) (Want.none rfl) rfl (ltN rfl) (QP.sliceHi rfl rfl rfl Try.underlying40 z67 (by first | omega | (simp only [List.length_map, List.length_append, List.length_cons, List.length_nil, List.length_take, List.length_drop]; omega)) (by first | omega | (simp only [List.length_map, List.length_append, List.length_cons, List.length_nil, List.length_take, List.length_drop]; omega))) ?_
      refine Dw.pure (i := 9) rfl (by kernel_rfl) (Want.none rfl) rfl (ltN rfl) (QP.move rfl rfl) ?_
      refine Dw.pure (i := 10) rfl (by kernel_rfl) (Want.none rfl) rfl (ltN rfl) (QP.nilCheck rfl rfl) ?_
      refine Dw.pure (i := 11) rfl (by kernel_rfl) (Want.none rfl) rfl (ltN rfl) (QP.fieldAddr rfl rfl f57_1) ?_
      refine Dw.read (i := 12) rfl (by kernel_rfl) (Want.none rfl) rfl (ltN rfl) (QR.load1 (v := .slice _ L.length _) rfl rfl g40 (Ref18Table.sub_l _)) ?_
      refine Dw.pure (i := 13) rfl (by kernel_rfl) (Want.none rfl) rfl (ltN rfl) (QP.move rfl rfl) ?_
      refine Dw.pure (i := 14) rfl (by kernel_rfl) (Want.none rfl) rfl (ltN rfl) (QP.add64 rfl rfl rfl (by first | omega | (simp only [List.length_map, List.length_append, List.length_cons, List.length_nil, List.length_take, List.length_drop]; omega)) (by first | omega | (simp only [List.length_map, List.length_append, List.length_cons, List.length_nil, List.length_take, List.length_drop]; omega))) ?_
      refine Dw.pure (i := 15) rfl (by kernel_rfl) (Want.none rfl) rfl (ltN rfl) (QP.sliceLo rfl rfl rfl Try.underlying40 z67 (by first | omega | (simp only [List.length_map, List.length_append, List.length_cons, List.length_nil, List.length_take, List.length_drop]; omega)) (by first | omega | (simp only [List.length_map, List.length_append, List.length_cons, List.length_nil, List.length_take, List.length_drop]; omega))) ?_
      refine Dw.eff (i := 1) (by kernel_rfl) (by kernel_rfl) ?_
      refine One.mk (o := _) (l := [12, 5]) rfl (by kernel_rfl) (Want.none rfl) rfl (ltN rfl) (EF.buildSlice0 (enc := Pending.enc) rfl Try.underlying40 z67 zero67 (by simp [Value.cells, Pending.enc_len]) (by decide)) (by kernel_rfl) ?_
      rintro _ _ ⟨b30, rfl, rfl⟩
      refine ⟨?_, ?_⟩
      · rw [List.forall_mem_cons, List.forall_mem_cons]
        refine ⟨?_, ?_, fun _ h => (by cases h)⟩
        · exact Look.mk rfl rfl rfl (QR.load1 (v := .slice _ L.length _) rfl rfl g40 (Ref18Table.sub_l _))
        · exact Look.mk rfl rfl rfl (QR.load1 (v := .slice _ L.length _) rfl rfl g40 (Ref18Table.sub_l _))
      refine ?_
      refine Dw.eff (i := 8) (by kernel_rfl) (by kernel_rfl) ?_
      refine One.mk (o := _) (l := [12]) rfl (by kernel_rfl) (Want.none rfl) rfl (ltN rfl) (EF.append (xs := []) (ys := ((L.take i).drop 0)) el67 Pending.enc_len Pending.enc_cell rfl rfl rfl Try.underlying40 Try.underlying40 rfl rfl (by repeat (first | exact Pick.head | apply Pick.tail)) (RowsAt.cutOwn (i := 0) (j := i) Pending.enc_len hh (by repeat (first | exact List.Mem.head _ | apply List.Mem.tail)) (by omega) (by omega)) (by first | omega | (simp only [List.length_map, List.length_append, List.length_cons, List.length_nil, List.length_take, List.length_drop]; omega))) (by kernel_rfl) ?_
      rintro sl37 _ rfl
      refine ⟨?_, ?_⟩
      · rw [List.forall_mem_cons]
        refine ⟨?_, fun _ h => (by cases h)⟩
        · exact Look.mk rfl rfl rfl (QR.load1 (v := .slice _ L.length _) rfl rfl g40 (Ref18Table.sub_l _))
      refine ?_
      refine Dw.slCase (v := sl37) (by repeat (first | exact List.Mem.head _ | apply List.Mem.tail)) (fun a37 c37 hv37 hh37 => ?_)
      subst hv37
      refine Dw.eff (i := 16) (by kernel_rfl) (by kernel_rfl) ?_
      refine One.mk (o := _) (l := []) rfl (by kernel_rfl) (Want.none rfl) rfl (ltN rfl) (EF.append (xs := _) (ys := ((L.take L.length).drop (i + 1))) el67 Pending.enc_len Pending.enc_cell rfl rfl rfl Try.underlying40 Try.underlying40 rfl rfl (by repeat (first | exact Pick.head | apply Pick.tail)) (RowsAt.cutOwn (i := (i + 1)) (j := L.length) Pending.enc_len hh (by repeat (first | exact List.Mem.head _ | apply List.Mem.tail)) (by omega) (by omega)) (by first | omega | (simp only [List.length_map, List.length_append, List.length_cons, List.length_nil, List.length_take, List.length_drop]; omega))) (by kernel_rfl) ?_
      rintro sl45 _ rfl
      refine ⟨fun _ h => (by cases h), ?_⟩
      refine Dw.slCase (v := sl45) (by repeat (first | exact List.Mem.head _ | apply List.Mem.tail)) (fun a45 c45 hv45 hh45 => ?_)
      subst hv45
      refine Dw.pure (i := 17) rfl (by kernel_rfl) (Want.none rfl) rfl (ltN rfl) (QP.nilCheck rfl rfl) ?_
      refine Dw.pure (i := 18) rfl (by kernel_rfl) (Want.none rfl) rfl (ltN rfl) (QP.fieldAddr rfl rfl f57_1) ?_
      refine Dw.eff (i := 19) (by kernel_rfl) (by kernel_rfl) ?_
      refine One.act (o := _) (l := []) rfl (by kernel_rfl) (Want.none rfl) rfl (EF.store rfl rfl rfl z40 (Ref18Table.set_l _ ⟨a45, _, c45⟩) (cell_one rfl)) (by kernel_rfl) ?_
      rintro _ _ rfl
      refine ⟨fun _ h => (by cases h), ?_⟩
      refine Dw.nil (by kernel_rfl) ?_
      refine hk6 _ _ ?_
      refine Run.seq fun k7 hk7 => ?_
      refine Run.region ?_
      show Sq _ _ _ [0] _ _ _ _
      refine Sq.quiet (i := 0) rfl (Want.none rfl) rfl (ltN rfl) (QP.assign rfl rfl).read ?_
      refine Sq.nil ?_
      refine hk7 _ _ ?_
      refine Run.ret ?_
      exact J.ends (res_tmp rfl rfl) (.cons (by repeat (first | exact Pick.head | apply Pick.tail)) (.cons (by repeat (first | exact Pick.head | apply Pick.tail)) Takes.nil)) ⟨_, _, L.eraseIdx i, cut_del ▸ hh45, true, rfl, .inr ⟨rfl, i, x, hi, hkx, c26, rfl⟩, rt_eq cut_del⟩
    · skip
      refine Dw.pure (i := 13) rfl (by kernel_rfl) (Want.yes rfl rfl rfl rfl) rfl (ltN rfl) (QP.not rfl rfl) ?_
      refine Dw.pure (i := 14) rfl (by kernel_rfl) (Want.none rfl) rfl (ltN rfl) (QP.pick_f rfl rfl rfl) ?_
      refine Dw.nil (by kernel_rfl) ?_
      refine hk4 _ _ ?_
      refine Run.cond_t rfl ?_
      refine Run.seq fun k8 hk8 => ?_
      refine Run.region ?_
      show Sq _ _ _ [0] _ _ _ _
      refine Sq.quiet (i := 0) rfl (Want.none rfl) rfl (ltN rfl) (QP.assign rfl rfl).read ?_
      refine Sq.nil ?_
      refine hk8 _ _ ?_
      refine Run.ret ?_
      exact J.ends (res_tmp rfl rfl) (.cons (by repeat (first | exact Pick.head | apply Pick.tail)) (.cons (by repeat (first | exact Pick.head | apply Pick.tail)) Takes.nil)) ⟨_, _, _, hh, false, rfl, .inl ⟨rfl, rfl, .inr ⟨x, List.mem_of_getElem? hi, hkx, by simpa using c26⟩⟩, rfl⟩

def notP (p : Pair) (s : Pending) : Bool := decide (s.pair ≠ p)

theorem rforget_spec (F : Fr) {b : Nat} {most : Int} {a : Option Addr} {c : Nat} {L : List Pending} (hh : SlH a c L) (hL : L.length ≤ 1000000) (p : Pair) : Spec Try.prog 21 #[.pointer (some ⟨b, 0, none⟩), .agg (Pair.enc p).toArray] [blk b (Ref18Table.enc ⟨most, ⟨a, L.length, c⟩⟩) 57, slA 67 45 Pending.enc (.slice a L.length c) L] F (fun v S => ∃ a2 c2, ∃ L2 : List Pending, SlH a2 c2 L2 ∧ v = .int .i64 ((L.length : Int) - L2.length) ∧ L2 = L.filter (notP p) ∧ S = [blk b (Ref18Table.enc ⟨most, ⟨a2, L2.length, c2⟩⟩) 57, slA 67 45 Pending.enc (.slice a2 L2.length c2) L2]) := by
  refine Spec.intro (N := 50) (args := [.pointer (some ⟨b, 0, none⟩), .agg (Pair.enc p).toArray]) Try.func21 rfl rfl (by simp) ?_
  refine Run.seq fun k1 hk1 => ?_
  refine Run.region ?_
  show Sq _ _ _ [0, 1] _ _ _ _
  refine J.addSl 67 45 Pending.enc ?_
  refine Sq.eff (i := 0) rfl (Want.none rfl) rfl (ltN rfl) (EF.boxA rfl rfl) ?_
  rintro _ _ ⟨b3, rfl, rfl⟩
  refine Sq.quiet (i := 1) rfl (Want.none rfl) rfl (ltN rfl) (QP.assign rfl rfl).read ?_
  refine Sq.nil ?_
  refine hk1 _ _ ?_
  refine Run.seq fun k2 hk2 => ?_
  refine Run.region ?_
  show Sq _ _ _ [0] _ _ _ _
  refine Sq.quiet (i := 0) rfl (Want.none rfl) rfl (ltN rfl) (QP.assign rfl rfl).read ?_
  refine Sq.nil ?_
  refine hk2 _ _ ?_
  refine Run.seq fun k3 hk3 => ?_
  refine Run.seq fun k4 hk4 => ?_
  refine Run.region ?_
  show Sq _ _ _ [0] _ _ _ _
  refine Sq.quiet (i := 0) rfl (Want.none rfl) rfl (ltN rfl) (QP.assign rfl rfl).read ?_
  refine Sq.nil ?_
  refine hk4 _ _ ?_
  refine Run.block ?_
  refine Run.loop2 (fun (i : Nat) (va : Value) => i ≤ L.length) (fun i va => .cons 0 (.pointer (some ⟨b, 0, none⟩)) (.cons 3 (.pointer (some ⟨b3, 0, none⟩)) (.cons 5 (va) (.cons 6 (.int .i64 i) (.nil))))) (fun i va => [blk b (Ref18Table.enc ⟨most, ⟨a, L.length, c⟩⟩) 57, slA 67 45 Pending.enc (.slice a L.length c) L, blk b3 (Pair.enc p) 28, slA 67 45 Pending.enc va ((L.take i).filter (notP p))]) (fun i va => L.length - i) (0) (.slice none 0 0) (Nat.zero_le _) ?_ ?_
  · exact fun _ j => J.envJ (J.keep (.cons (by repeat (first | exact Pick.head | apply Pick.tail)) (.cons (by repeat (first | exact Pick.head | apply Pick.tail)) (.cons (by repeat (first | exact Pick.head | apply Pick.tail)) (.cons (by repeat (first | exact Pick.head | apply Pick.tail)) Takes.nil)))) j) ⟨rfl, rfl, rfl, rfl, trivial⟩
  rintro i va hile kl5 hl5
  refine Run.seq fun k6 hk6 => ?_
  refine Run.seq fun k7 hk7 => ?_
  refine Run.region ?_
  show Sq _ _ _ [0, 1, 2, 3, 4, 5, 6] _ _ _ _
  refine Sq.quiet (i := 0) rfl (Want.none rfl) rfl (ltN rfl) (QP.move rfl rfl).read ?_
  refine Sq.quiet (i := 1) rfl (Want.none rfl) rfl (ltN rfl) (QP.move rfl rfl).read ?_
  refine Sq.quiet (i := 2) rfl (Want.none rfl) rfl (ltN rfl) (QP.nilCheck rfl rfl).read ?_
  refine Sq.quiet (i := 3) rfl (Want.none rfl) rfl (ltN rfl) (QP.fieldAddr rfl rfl f57_1).read ?_
  refine Sq.quiet (i := 4) rfl (Want.none rfl) rfl (ltN rfl) (QR.load1 (v := .slice _ L.length _) rfl rfl g40 (Ref18Table.sub_l _)) ?_
  refine Sq.quiet (i := 5) rfl (Want.none rfl) rfl (ltN rfl) (QP.len rfl rfl rfl Try.underlying40).read ?_
  refine Sq.quiet (i := 6) rfl (Want.none rfl) rfl (ltN rfl) (QP.lss rfl rfl rfl).read ?_
  refine J.caseD (fun c14 => ?_) (fun c14 => ?_)
  · skip
    refine Sq.nil ?_
    refine hk7 _ _ ?_
    refine Run.cond_t rfl ?_
    refine Run.skip ?_
    refine hk6 _ _ ?_
    refine Run.seq fun k8 hk8 => ?_
    refine Run.block ?_
    refine Run.seq fun k9 hk9 => ?_
    refine Run.regionD (M := [0, 1, 3, 7, 0, 31, 63, 127, 0, 511]) (q := 1023) (r := 392) (by kernel_rfl) ?_
    have hlt : i < L.length := by omega
    obtain ⟨x, hi⟩ : ∃ x, L[i]? = some x := ⟨_, List.getElem?_eq_getElem hlt⟩
    obtain ⟨b0, o0, rfl⟩ := hh.get (by omega)
    have hfl : ((L.take i).filter (notP p)).length ≤ 1000000 := by
      have := List.length_filter_le (notP p) (L.take i)
      have := List.length_take_le i L
      omega
    refine Dw.pure (i := 0) rfl (by kernel_rfl) (Want.none rfl) rfl (ltN rfl) (QP.move rfl rfl) ?_
    refine Dw.pure (i := 1) rfl (by kernel_rfl) (Want.none rfl) rfl (ltN rfl) (QP.nilCheck rfl rfl) ?_
    refine Dw.pure (i := 2) rfl (by kernel_rfl) (Want.none rfl) rfl (ltN rfl) (QP.fieldAddr rfl rfl f57_1) ?_
    refine Dw.read (i := 3) rfl (by kernel_rfl) (Want.none rfl) rfl (ltN rfl) (QR.load1 (v := .slice _ L.length _) rfl rfl g40 (Ref18Table.sub_l _)) ?_
    refine Dw.pure (i := 4) rfl (by kernel_rfl) (Want.none rfl) rfl (ltN rfl) (QP.move rfl rfl) ?_
    refine Dw.pure (i := 5) rfl (by kernel_rfl) (Want.none rfl) rfl (ltN rfl) (QP.indexAddr rfl rfl rfl Try.underlying40 z67 (by first | omega | (simp only [List.length_map, List.length_append, List.length_cons, List.length_nil, List.length_take, List.length_drop]; omega)) (by first | omega | (simp only [List.length_map, List.length_append, List.length_cons, List.length_nil, List.length_take, List.length_drop]; omega))) ?_
    refine Dw.pure (i := 6) rfl (by kernel_rfl) (Want.none rfl) rfl (ltN rfl) (QP.fieldAddr rfl rfl f67_0) ?_
    refine Dw.read (i := 7) rfl (by kernel_rfl) (Want.none rfl) rfl (ltN rfl) (QR.loadSlF rfl rfl g28 Pending.enc_len (SlAt.own Pending.enc_len (by repeat (first | exact List.Mem.head _ | apply List.Mem.tail))) hi (Pending.sub_pair _)) ?_
    refine Dw.read (i := 8) rfl (by kernel_rfl) (Want.none rfl) rfl (ltN rfl) (QR.load rfl rfl g28 (Pair.enc_sub _)) ?_
    refine Dw.pure (i := 9) rfl (by kernel_rfl) (Want.none rfl) rfl (ltN rfl) (QP.neq_agg eq28 rfl rfl rfl) ?_
    refine J.caseD (fun c26 => ?_) (fun c26 => ?_)
    · skip
      refine Dw.nil (by kernel_rfl) ?_
      refine hk9 _ _ ?_
      refine Run.cond_t rfl ?_
      refine Run.region ?_
      show Sq _ _ _ [0, 1, 2, 3, 4, 5, 6, 7, 8, 9, 10] _ _ _ _
      refine Sq.quiet (i := 0) rfl (Want.none rfl) rfl (ltN rfl) (QP.move rfl rfl).read ?_
      refine Sq.quiet (i := 1) rfl (Want.none rfl) rfl (ltN rfl) (QP.move rfl rfl).read ?_
      refine Sq.quiet (i := 2) rfl (Want.none rfl) rfl (ltN rfl) (QP.nilCheck rfl rfl).read ?_
      refine Sq.quiet (i := 3) rfl (Want.none rfl) rfl (ltN rfl) (QP.fieldAddr rfl rfl f57_1).read ?_
      refine Sq.quiet (i := 4) rfl (Want.none rfl) rfl (ltN rfl) (QR.load1 (v := .slice _ L.length _) rfl rfl g40 (Ref18Table.sub_l _)) ?_
      refine Sq.quiet (i := 5) rfl (Want.none rfl) rfl (ltN rfl) (QP.move rfl rfl).read ?_
      refine Sq.quiet (i := 6) rfl (Want.none rfl) rfl (ltN rfl) (QP.indexAddr rfl rfl rfl Try.underlying40 z67 (by first | omega | (simp only [List.length_map, List.length_append, List.length_cons, List.length_nil, List.length_take, List.length_drop]; omega)) (by first | omega | (simp only [List.length_map, List.length_append, List.length_cons, List.length_nil, List.length_take, List.length_drop]; omega))).read ?_
      refine Sq.quiet (i := 7) rfl (Want.none rfl) rfl (ltN rfl) (QR.loadSl rfl rfl g67 Pending.enc_len (SlAt.own Pending.enc_len (by repeat (first | exact List.Mem.head _ | apply List.Mem.tail))) hi) ?_
      refine Sq.eff (i := 8) rfl (Want.none rfl) rfl (ltN rfl) (EF.buildSlice1 rfl Try.underlying40 z67 zero67 (by simp [Value.cells, Pending.enc_len]) (by decide) rfl rfl (Pending.enc_len _) (by decide)) ?_
      rintro _ _ ⟨b35, rfl, rfl⟩
      refine Sq.eff (i := 9) rfl (Want.none rfl) rfl (ltN rfl) (EF.append1 (xs := ((L.take i).filter (notP p))) (s := x) el67 Pending.enc_len Pending.enc_cell rfl rfl rfl Try.underlying40 Try.underlying40 rfl rfl (by repeat (first | exact Pick.head | apply Pick.tail)) (by repeat (first | exact List.Mem.head _ | apply List.Mem.tail)) (by first | omega | (simp only [List.length_map, List.length_append, List.length_cons, List.length_nil, List.length_take, List.length_drop]; omega))) ?_
      rintro sl36 _ rfl
      refine Sq.quiet (i := 10) rfl (Want.none rfl) rfl (ltN rfl) (QP.assign rfl rfl).read ?_
      refine Sq.nil ?_
      refine hk8 _ _ ?_
      refine Run.region ?_
      show Sq _ _ _ [0, 1, 2] _ _ _ _
      refine Sq.quiet (i := 0) rfl (Want.none rfl) rfl (ltN rfl) (QP.move rfl rfl).read ?_
      refine Sq.quiet (i := 1) rfl (Want.none rfl) rfl (ltN rfl) (QP.add64 rfl rfl rfl (by first | omega | (simp only [List.length_map, List.length_append, List.length_cons, List.length_nil, List.length_take, List.length_drop]; omega)) (by first | omega | (simp only [List.length_map, List.length_append, List.length_cons, List.length_nil, List.length_take, List.length_drop]; omega))).read ?_
      refine Sq.quiet (i := 2) rfl (Want.none rfl) rfl (ltN rfl) (QP.assign rfl rfl).read ?_
      refine Sq.nil ?_
      have hd : notP p x = true := decide_eq_true c26
      have hf := filter_succ (notP p) hi
      rw [hd] at hf
      simp only [if_true, if_false, Bool.false_eq_true, List.append_nil] at hf
      rw [← hf]
      exact J.envJ (J.keep (.cons (by repeat (first | exact Pick.head | apply Pick.tail)) (.cons (by repeat (first | exact Pick.head | apply Pick.tail)) (.cons (by repeat (first | exact Pick.head | apply Pick.tail)) (.cons (by repeat (first | exact Pick.head | apply Pick.tail)) Takes.nil)))) (hl5 (i + 1) (sl36) (by omega) (by omega))) ⟨rfl, rfl, rfl, rfl, trivial⟩
    · skip
      refine Dw.nil (by kernel_rfl) ?_
      refine hk9 _ _ ?_
      refine Run.cond_f rfl ?_
      refine Run.skip ?_
      refine hk8 _ _ ?_
      refine Run.region ?_
      show Sq _ _ _ [0, 1, 2] _ _ _ _
      refine Sq.quiet (i := 0) rfl (Want.none rfl) rfl (ltN rfl) (QP.move rfl rfl).read ?_
      refine Sq.quiet (i := 1) rfl (Want.none rfl) rfl (ltN rfl) (QP.add64 rfl rfl rfl (by first | omega | (simp only [List.length_map, List.length_append, List.length_cons, List.length_nil, List.length_take, List.length_drop]; omega)) (by first | omega | (simp only [List.length_map, List.length_append, List.length_cons, List.length_nil, List.length_take, List.length_drop]; omega))).read ?_
      refine Sq.quiet (i := 2) rfl (Want.none rfl) rfl (ltN rfl) (QP.assign rfl rfl).read ?_
      refine Sq.nil ?_
      have hd : notP p x = false := decide_eq_false c26
      have hf := filter_succ (notP p) hi
      rw [hd] at hf
      simp only [if_true, if_false, Bool.false_eq_true, List.append_nil] at hf
      rw [← hf]
      exact J.envJ (J.keep (.cons (by repeat (first | exact Pick.head | apply Pick.tail)) (.cons (by repeat (first | exact Pick.head | apply Pick.tail)) (.cons (by repeat (first | exact Pick.head | apply Pick.tail)) (.cons (by repeat (first | exact Pick.head | apply Pick.tail)) Takes.nil)))) (hl5 (i + 1) (va) (by omega) (by omega))) ⟨rfl, rfl, rfl, rfl, trivial⟩
  · skip
    refine Sq.nil ?_
    refine hk7 _ _ ?_
    refine Run.cond_f rfl ?_
    refine Run.exit rfl ?_
    refine hk3 _ _ ?_
    refine Run.seq fun k10 hk10 => ?_
    refine Run.region ?_
    show Sq _ _ _ [0, 1, 2, 3, 4, 5, 6, 7, 8] _ _ _ _
    have hil : i = L.length := by omega
    subst hil
    rw [List.take_length]
    refine Sq.slCase (v := va) (xs := L.filter (notP p)) (by repeat (first | exact List.Mem.head _ | apply List.Mem.tail)) (fun av cv hv hhv => ?_)
    subst hv
    have hfl : (L.filter (notP p)).length ≤ L.length := List.length_filter_le _ _
    refine Sq.quiet (i := 0) rfl (Want.none rfl) rfl (ltN rfl) (QP.move rfl rfl).read ?_
    refine Sq.quiet (i := 1) rfl (Want.none rfl) rfl (ltN rfl) (QP.nilCheck rfl rfl).read ?_
    refine Sq.quiet (i := 2) rfl (Want.none rfl) rfl (ltN rfl) (QP.fieldAddr rfl rfl f57_1).read ?_
    refine Sq.quiet (i := 3) rfl (Want.none rfl) rfl (ltN rfl) (QR.load1 (v := .slice _ L.length _) rfl rfl g40 (Ref18Table.sub_l _)) ?_
    refine Sq.quiet (i := 4) rfl (Want.none rfl) rfl (ltN rfl) (QP.len rfl rfl rfl Try.underlying40).read ?_
    refine Sq.quiet (i := 5) rfl (Want.none rfl) rfl (ltN rfl) (QP.move rfl rfl).read ?_
    refine Sq.quiet (i := 6) rfl (Want.none rfl) rfl (ltN rfl) (QP.len rfl rfl rfl Try.underlying40).read ?_
    refine Sq.quiet (i := 7) rfl (Want.none rfl) rfl (ltN rfl) (QP.sub64 rfl rfl rfl (by first | omega | (simp only [List.length_map, List.length_append, List.length_cons, List.length_nil, List.length_take, List.length_drop]; omega)) (by first | omega | (simp only [List.length_map, List.length_append, List.length_cons, List.length_nil, List.length_take, List.length_drop]; omega))).read ?_
    refine Sq.quiet (i := 8) rfl (Want.none rfl) rfl (ltN rfl) (QP.assign rfl rfl).read ?_
    refine Sq.nil ?_
    refine hk10 _ _ ?_
    refine Run.seq fun k11 hk11 => ?_
    refine Run.region ?_
    show Sq _ _ _ [0, 1, 2, 3, 4] _ _ _ _
    refine Sq.quiet (i := 0) rfl (Want.none rfl) rfl (ltN rfl) (QP.move rfl rfl).read ?_
    refine Sq.quiet (i := 1) rfl (Want.none rfl) rfl (ltN rfl) (QP.move rfl rfl).read ?_
    refine Sq.quiet (i := 2) rfl (Want.none rfl) rfl (ltN rfl) (QP.nilCheck rfl rfl).read ?_
    refine Sq.quiet (i := 3) rfl (Want.none rfl) rfl (ltN rfl) (QP.fieldAddr rfl rfl f57_1).read ?_
    refine Sq.act (i := 4) rfl (Want.none rfl) rfl (EF.store rfl rfl rfl z40 (Ref18Table.set_l _ ⟨av, _, cv⟩) (cell_one rfl)) ?_
    rintro _ _ rfl
    refine Sq.nil ?_
    refine hk11 _ _ ?_
    refine Run.seq fun k12 hk12 => ?_
    refine Run.region ?_
    show Sq _ _ _ [0, 1] _ _ _ _
    refine Sq.quiet (i := 0) rfl (Want.none rfl) rfl (ltN rfl) (QP.move rfl rfl).read ?_
    refine Sq.quiet (i := 1) rfl (Want.none rfl) rfl (ltN rfl) (QP.assign rfl rfl).read ?_
    refine Sq.nil ?_
    refine hk12 _ _ ?_
    refine Run.ret ?_
    exact J.ends (res_tmp rfl rfl) (.cons (by repeat (first | exact Pick.head | apply Pick.tail)) (.cons (by repeat (first | exact Pick.head | apply Pick.tail)) Takes.nil)) ⟨_, _, _, hhv, rfl, rfl, rfl⟩

abbrev TkQ := List Pending × List Pending × List Pending
def rstepQ (now : Int) (st : TkQ) (x : Pending) : TkQ :=
  if now < x.at_ then (st.1 ++ [x], st.2.1, st.2.2) else if x.tries = 4 then (st.1, st.2.1, st.2.2 ++ [x]) else (st.1 ++ [laterQ now x], st.2.1 ++ [laterQ now x], st.2.2)
def rtickQ (now : Int) (L : List Pending) : TkQ := L.foldl (rstepQ now) ([], [], [])
theorem rtickQ_succ (now : Int) {L : List Pending} {i : Nat} {s : Pending} (h : L[i]? = some s) : rtickQ now (L.take (i + 1)) = rstepQ now (rtickQ now (L.take i)) s := by
  rw [List.take_add_one, h]
  simp [rtickQ, List.foldl_append]
theorem rtickQ_len (now : Int) : ∀ (i : Nat) (L : List Pending), i ≤ L.length → (rtickQ now (L.take i)).1.length ≤ i ∧ (rtickQ now (L.take i)).2.1.length ≤ i ∧ (rtickQ now (L.take i)).2.2.length ≤ i
  | 0, L, _ => by simp [rtickQ]
  | i + 1, L, h => by
    have hi : L[i]? = some L[i] := List.getElem?_eq_getElem (by omega)
    obtain ⟨h1, h2, h3⟩ := rtickQ_len now i L (by omega)
    rw [rtickQ_succ now hi]
    unfold rstepQ
    split
    · simp only [List.length_append, List.length_cons, List.length_nil]; exact ⟨by omega, by omega, by omega⟩
    · split
      · simp only [List.length_append, List.length_cons, List.length_nil]; exact ⟨by omega, by omega, by omega⟩
      · simp only [List.length_append, List.length_cons, List.length_nil]; exact ⟨by omega, by omega, by omega⟩
theorem wait_step {k : Nat} (h : k < 4) : IntKind.i64.wrap (2 * (2000 * 2 ^ k)) = 2000 * 2 ^ (k + 1) := by
  have : k = 0 ∨ k = 1 ∨ k = 2 ∨ k = 3 := by omega
  rcases this with rfl | rfl | rfl | rfl <;> decide
theorem wait_lim {k : Nat} (h : k ≤ 4) : 0 ≤ (2000 * 2 ^ k : Int) ∧ (2000 * 2 ^ k : Int) ≤ 32000 := by
  have : k = 0 ∨ k = 1 ∨ k = 2 ∨ k = 3 ∨ k = 4 := by omega
  rcases this with rfl | rfl | rfl | rfl | rfl <;> decide
theorem later_eq (now : Int) {x : Pending} (h0 : 1 ≤ x.tries) (h1 : x.tries ≤ 4) {k : Nat} (hk : (k : Int) = x.tries) : laterQ now x = { x with at_ := now + 2000 * 2 ^ k, tries := x.tries + 1 } := by
  have : x.tries.toNat = k := by omega
  unfold laterQ
  rw [this]
  have h2 := wait_lim (k := k) (by omega)
  rw [wrap_i64 (by omega) (by omega)]

theorem rtick_spec (F : Fr) {b : Nat} {most : Int} {a : Option Addr} {c : Nat} {L : List Pending} (hh : SlH a c L) (hL : L.length ≤ 1000000) (now : Int) (hn0 : 0 ≤ now) (hn1 : now ≤ 2305843009213693952) (hT : ∀ x ∈ L, OkQ x) : Spec Try.prog 22 #[.pointer (some ⟨b, 0, none⟩), .int .i64 now] [blk b (Ref18Table.enc ⟨most, ⟨a, L.length, c⟩⟩) 57, slA 67 45 Pending.enc (.slice a L.length c) L] F (fun v S => ∃ a2 c2 va vg, SlH a2 c2 (rtickQ now L).1 ∧ v = .tuple #[va, vg] ∧ S = [blk b (Ref18Table.enc ⟨most, ⟨a2, (rtickQ now L).1.length, c2⟩⟩) 57, slA 67 45 Pending.enc (.slice a2 (rtickQ now L).1.length c2) (rtickQ now L).1, slA 67 45 Pending.enc va (rtickQ now L).2.1, slA 67 45 Pending.enc vg (rtickQ now L).2.2]) := by
  refine Spec.intro (N := 74) (args := [.pointer (some ⟨b, 0, none⟩), .int .i64 now]) Try.func22 rfl rfl (by simp) ?_
  refine Run.seq fun k1 hk1 => ?_
  refine Run.region ?_
  show Sq _ _ _ [0, 1] _ _ _ _
  refine J.addSl 67 45 Pending.enc ?_
  refine J.addSl 67 45 Pending.enc ?_
  refine J.addSl 67 45 Pending.enc ?_
  refine Sq.quiet (i := 0) rfl (Want.none rfl) rfl (ltN rfl) (QP.assign rfl rfl).read ?_
  refine Sq.quiet (i := 1) rfl (Want.none rfl) rfl (ltN rfl) (QP.assign rfl rfl).read ?_
  refine Sq.nil ?_
  refine hk1 _ _ ?_
  refine Run.seq fun k2 hk2 => ?_
  refine Run.region ?_
  show Sq _ _ _ [0, 1, 2] _ _ _ _
  refine Sq.quiet (i := 0) rfl (Want.none rfl) rfl (ltN rfl) (QP.assign rfl rfl).read ?_
  refine Sq.quiet (i := 1) rfl (Want.none rfl) rfl (ltN rfl) (QP.assign rfl rfl).read ?_
  refine Sq.quiet (i := 2) rfl (Want.none rfl) rfl (ltN rfl) (QP.assign rfl rfl).read ?_
  refine Sq.nil ?_
  refine hk2 _ _ ?_
  refine Run.seq fun k3 hk3 => ?_
  refine Run.seq fun k4 hk4 => ?_
  refine Run.region ?_
  show Sq _ _ _ [0] _ _ _ _
  refine Sq.quiet (i := 0) rfl (Want.none rfl) rfl (ltN rfl) (QP.assign rfl rfl).read ?_
  refine Sq.nil ?_
  refine hk4 _ _ ?_
  refine Run.block ?_
  refine Run.loop4 (fun (i : Nat) (va : Value) (vb : Value) (vg : Value) => i ≤ L.length) (fun i va vb vg => .cons 0 (.pointer (some ⟨b, 0, none⟩)) (.cons 1 (.int .i64 now) (.cons 6 (va) (.cons 7 (vb) (.cons 8 (vg) (.cons 9 (.int .i64 i) (.nil))))))) (fun i va vb vg => [blk b (Ref18Table.enc ⟨most, ⟨a, L.length, c⟩⟩) 57, slA 67 45 Pending.enc (.slice a L.length c) L, slA 67 45 Pending.enc va (rtickQ now (L.take i)).1, slA 67 45 Pending.enc vb (rtickQ now (L.take i)).2.1, slA 67 45 Pending.enc vg (rtickQ now (L.take i)).2.2]) (fun i va vb vg => L.length - i) (0) (.slice none 0 0) (.slice none 0 0) (.slice none 0 0) (Nat.zero_le _) ?_ ?_
  · exact fun _ j => J.envJ (J.keep (.cons (by repeat (first | exact Pick.head | apply Pick.tail)) (.cons (by repeat (first | exact Pick.head | apply Pick.tail)) (.cons (by repeat (first | exact Pick.head | apply Pick.tail)) (.cons (by repeat (first | exact Pick.head | apply Pick.tail)) (.cons (by repeat (first | exact Pick.head | apply Pick.tail)) Takes.nil))))) j) ⟨rfl, rfl, rfl, rfl, rfl, rfl, trivial⟩
  rintro i va vb vg hile kl5 hl5
  refine Run.seq fun k6 hk6 => ?_
  refine Run.seq fun k7 hk7 => ?_
  refine Run.region ?_
  show Sq _ _ _ [0, 1, 2, 3, 4, 5, 6] _ _ _ _
  refine Sq.quiet (i := 0) rfl (Want.none rfl) rfl (ltN rfl) (QP.move rfl rfl).read ?_
  refine Sq.quiet (i := 1) rfl (Want.none rfl) rfl (ltN rfl) (QP.move rfl rfl).read ?_
  refine Sq.quiet (i := 2) rfl (Want.none rfl) rfl (ltN rfl) (QP.nilCheck rfl rfl).read ?_
  refine Sq.quiet (i := 3) rfl (Want.none rfl) rfl (ltN rfl) (QP.fieldAddr rfl rfl f57_1).read ?_
  refine Sq.quiet (i := 4) rfl (Want.none rfl) rfl (ltN rfl) (QR.load1 (v := .slice _ L.length _) rfl rfl g40 (Ref18Table.sub_l _)) ?_
  refine Sq.quiet (i := 5) rfl (Want.none rfl) rfl (ltN rfl) (QP.len rfl rfl rfl Try.underlying40).read ?_
  refine Sq.quiet (i := 6) rfl (Want.none rfl) rfl (ltN rfl) (QP.lss rfl rfl rfl).read ?_
  refine J.caseD (fun c19 => ?_) (fun c19 => ?_)
  · skip
    refine Sq.nil ?_
    refine hk7 _ _ ?_
    refine Run.cond_t rfl ?_
    refine Run.skip ?_
    refine hk6 _ _ ?_
    refine Run.seq fun k8 hk8 => ?_
    refine Run.block ?_
    refine Run.seq fun k9 hk9 => ?_
    refine Run.region ?_
    show Sq _ _ _ [0, 1, 2, 3, 4, 5, 6, 7, 8] _ _ _ _
    have hlt : i < L.length := by omega
    obtain ⟨x, hi⟩ : ∃ x, L[i]? = some x := ⟨_, List.getElem?_eq_getElem hlt⟩
    obtain ⟨b0, o0, rfl⟩ := hh.get (by omega)
    have hat : OkQ x := hT x (List.mem_of_getElem? hi)
    unfold OkQ at hat
    have hll := rtickQ_len now i L hile
    refine Sq.quiet (i := 0) rfl (Want.none rfl) rfl (ltN rfl) (QP.move rfl rfl).read ?_
    refine Sq.quiet (i := 1) rfl (Want.none rfl) rfl (ltN rfl) (QP.nilCheck rfl rfl).read ?_
    refine Sq.quiet (i := 2) rfl (Want.none rfl) rfl (ltN rfl) (QP.fieldAddr rfl rfl f57_1).read ?_
    refine Sq.quiet (i := 3) rfl (Want.none rfl) rfl (ltN rfl) (QR.load1 (v := .slice _ L.length _) rfl rfl g40 (Ref18Table.sub_l _)) ?_
    refine Sq.quiet (i := 4) rfl (Want.none rfl) rfl (ltN rfl) (QP.move rfl rfl).read ?_
    refine Sq.quiet (i := 5) rfl (Want.none rfl) rfl (ltN rfl) (QP.indexAddr rfl rfl rfl Try.underlying40 z67 (by first | omega | (simp only [List.length_map, List.length_append, List.length_cons, List.length_nil, List.length_take, List.length_drop]; omega)) (by first | omega | (simp only [List.length_map, List.length_append, List.length_cons, List.length_nil, List.length_take, List.length_drop]; omega))).read ?_
    refine Sq.quiet (i := 6) rfl (Want.none rfl) rfl (ltN rfl) (QR.loadSl rfl rfl g67 Pending.enc_len (SlAt.own Pending.enc_len (by repeat (first | exact List.Mem.head _ | apply List.Mem.tail))) hi) ?_
    refine Sq.eff (i := 7) rfl (Want.none rfl) rfl (ltN rfl) (EF.allocA (l := Pending.enc Pending.zero) rfl zero67) ?_
    rintro _ _ ⟨b10, rfl, rfl⟩
    refine Sq.act (i := 8) rfl (Want.none rfl) rfl (EF.storeA rfl rfl rfl z67 (SetL.all (Pending.enc_len _) (Pending.enc_len _)) (Pending.enc_cell _)) ?_
    rintro _ _ rfl
    refine Sq.nil ?_
    refine hk9 _ _ ?_
    refine Run.seq fun k10 hk10 => ?_
    refine Run.seq fun k11 hk11 => ?_
    refine Run.region ?_
    show Sq _ _ _ [0, 1, 2, 3] _ _ _ _
    refine Sq.quiet (i := 0) rfl (Want.none rfl) rfl (ltN rfl) (QP.fieldAddr rfl rfl f67_4).read ?_
    refine Sq.quiet (i := 1) rfl (Want.none rfl) rfl (ltN rfl) (QR.load1 rfl rfl g3 (Pending.sub_at_ _)) ?_
    refine Sq.quiet (i := 2) rfl (Want.none rfl) rfl (ltN rfl) (QP.move rfl rfl).read ?_
    refine Sq.quiet (i := 3) rfl (Want.none rfl) rfl (ltN rfl) (QP.gtr rfl rfl rfl).read ?_
    refine J.caseD (fun c32 => ?_) (fun c32 => ?_)
    · skip
      refine Sq.nil ?_
      refine hk11 _ _ ?_
      refine Run.cond_t rfl ?_
      refine Run.seq fun k12 hk12 => ?_
      refine Run.region ?_
      show Sq _ _ _ [0, 1, 2, 3, 4] _ _ _ _
      refine Sq.quiet (i := 0) rfl (Want.none rfl) rfl (ltN rfl) (QP.move rfl rfl).read ?_
      refine Sq.quiet (i := 1) rfl (Want.none rfl) rfl (ltN rfl) (QR.load rfl rfl g67 (Pending.enc_sub _)) ?_
      refine Sq.eff (i := 2) rfl (Want.none rfl) rfl (ltN rfl) (EF.buildSlice1 rfl Try.underlying40 z67 zero67 (by simp [Value.cells, Pending.enc_len]) (by decide) rfl rfl (Pending.enc_len _) (by decide)) ?_
      rintro _ _ ⟨b35, rfl, rfl⟩
      refine Sq.eff (i := 3) rfl (Want.none rfl) rfl (ltN rfl) (EF.append1 (xs := (rtickQ now (L.take i)).1) (s := x) el67 Pending.enc_len Pending.enc_cell rfl rfl rfl Try.underlying40 Try.underlying40 rfl rfl (by repeat (first | exact Pick.head | apply Pick.tail)) (by repeat (first | exact List.Mem.head _ | apply List.Mem.tail)) (by first | omega | (simp only [List.length_map, List.length_append, List.length_cons, List.length_nil, List.length_take, List.length_drop]; omega))) ?_
      rintro sl36 _ rfl
      refine Sq.quiet (i := 4) rfl (Want.none rfl) rfl (ltN rfl) (QP.assign rfl rfl).read ?_
      refine Sq.nil ?_
      refine hk12 _ _ ?_
      refine Run.exit rfl ?_
      refine hk8 _ _ ?_
      refine Run.region ?_
      show Sq _ _ _ [0, 1, 2] _ _ _ _
      refine Sq.quiet (i := 0) rfl (Want.none rfl) rfl (ltN rfl) (QP.move rfl rfl).read ?_
      refine Sq.quiet (i := 1) rfl (Want.none rfl) rfl (ltN rfl) (QP.add64 rfl rfl rfl (by first | omega | (simp only [List.length_map, List.length_append, List.length_cons, List.length_nil, List.length_take, List.length_drop]; omega)) (by first | omega | (simp only [List.length_map, List.length_append, List.length_cons, List.length_nil, List.length_take, List.length_drop]; omega))).read ?_
      refine Sq.quiet (i := 2) rfl (Want.none rfl) rfl (ltN rfl) (QP.assign rfl rfl).read ?_
      refine Sq.nil ?_
      have hT1 : (rtickQ now (L.take (i + 1))) = ((rtickQ now (L.take i)).1 ++ [x], (rtickQ now (L.take i)).2.1, (rtickQ now (L.take i)).2.2) := by rw [rtickQ_succ now hi, rstepQ, if_pos c32]
      have e1 := congrArg (fun q => q.1) hT1
      have e2 := congrArg (fun q => q.2.1) hT1
      have e3 := congrArg (fun q => q.2.2) hT1
      simp only at e1 e2 e3
      refine J.slEq (v := sl36) (by repeat (first | exact Pick.head | apply Pick.tail)) e1.symm ?_
      refine J.slEq (v := vb) (by repeat (first | exact Pick.head | apply Pick.tail)) e2.symm ?_
      refine J.slEq (v := vg) (by repeat (first | exact Pick.head | apply Pick.tail)) e3.symm ?_
      exact J.envJ (J.keep (.cons (by repeat (first | exact Pick.head | apply Pick.tail)) (.cons (by repeat (first | exact Pick.head | apply Pick.tail)) (.cons (by repeat (first | exact Pick.head | apply Pick.tail)) (.cons (by repeat (first | exact Pick.head | apply Pick.tail)) (.cons (by repeat (first | exact Pick.head | apply Pick.tail)) Takes.nil))))) (hl5 (i + 1) (sl36) (vb) (vg) (by omega) (by omega))) ⟨rfl, rfl, rfl, rfl, rfl, rfl, trivial⟩
    · skip
      refine Sq.nil ?_
      refine hk11 _ _ ?_
      refine Run.cond_f rfl ?_
      refine Run.skip ?_
      refine hk10 _ _ ?_
      refine Run.seq fun k13 hk13 => ?_
      refine Run.seq fun k14 hk14 => ?_
      refine Run.region ?_
      show Sq _ _ _ [0, 1, 2] _ _ _ _
      refine Sq.quiet (i := 0) rfl (Want.none rfl) rfl (ltN rfl) (QP.fieldAddr rfl rfl f67_3).read ?_
      refine Sq.quiet (i := 1) rfl (Want.none rfl) rfl (ltN rfl) (QR.load1 rfl rfl g3 (Pending.sub_tries _)) ?_
      refine Sq.quiet (i := 2) rfl (Want.none rfl) rfl (ltN rfl) (QP.eql rfl rfl rfl).read ?_
      refine J.caseD (fun c39 => ?_) (fun c39 => ?_)
      · skip
        refine Sq.nil ?_
        refine hk14 _ _ ?_
        refine Run.cond_t rfl ?_
        refine Run.seq fun k15 hk15 => ?_
        refine Run.region ?_
        show Sq _ _ _ [0, 1, 2, 3, 4] _ _ _ _
        refine Sq.quiet (i := 0) rfl (Want.none rfl) rfl (ltN rfl) (QP.move rfl rfl).read ?_
        refine Sq.quiet (i := 1) rfl (Want.none rfl) rfl (ltN rfl) (QR.load rfl rfl g67 (Pending.enc_sub _)) ?_
        refine Sq.eff (i := 2) rfl (Want.none rfl) rfl (ltN rfl) (EF.buildSlice1 rfl Try.underlying40 z67 zero67 (by simp [Value.cells, Pending.enc_len]) (by decide) rfl rfl (Pending.enc_len _) (by decide)) ?_
        rintro _ _ ⟨b42, rfl, rfl⟩
        refine Sq.eff (i := 3) rfl (Want.none rfl) rfl (ltN rfl) (EF.append1 (xs := (rtickQ now (L.take i)).2.2) (s := x) el67 Pending.enc_len Pending.enc_cell rfl rfl rfl Try.underlying40 Try.underlying40 rfl rfl (by repeat (first | exact Pick.head | apply Pick.tail)) (by repeat (first | exact List.Mem.head _ | apply List.Mem.tail)) (by first | omega | (simp only [List.length_map, List.length_append, List.length_cons, List.length_nil, List.length_take, List.length_drop]; omega))) ?_
        rintro sl43 _ rfl
        refine Sq.quiet (i := 4) rfl (Want.none rfl) rfl (ltN rfl) (QP.assign rfl rfl).read ?_
        refine Sq.nil ?_
        refine hk15 _ _ ?_
        refine Run.exit rfl ?_
        refine hk8 _ _ ?_
        refine Run.region ?_
        show Sq _ _ _ [0, 1, 2] _ _ _ _
        refine Sq.quiet (i := 0) rfl (Want.none rfl) rfl (ltN rfl) (QP.move rfl rfl).read ?_
        refine Sq.quiet (i := 1) rfl (Want.none rfl) rfl (ltN rfl) (QP.add64 rfl rfl rfl (by first | omega | (simp only [List.length_map, List.length_append, List.length_cons, List.length_nil, List.length_take, List.length_drop]; omega)) (by first | omega | (simp only [List.length_map, List.length_append, List.length_cons, List.length_nil, List.length_take, List.length_drop]; omega))).read ?_
        refine Sq.quiet (i := 2) rfl (Want.none rfl) rfl (ltN rfl) (QP.assign rfl rfl).read ?_
        refine Sq.nil ?_
        have hT1 : (rtickQ now (L.take (i + 1))) = ((rtickQ now (L.take i)).1, (rtickQ now (L.take i)).2.1, (rtickQ now (L.take i)).2.2 ++ [x]) := by rw [rtickQ_succ now hi, rstepQ, if_neg c32, if_pos c39]
        have e1 := congrArg (fun q => q.1) hT1
        have e2 := congrArg (fun q => q.2.1) hT1
        have e3 := congrArg (fun q => q.2.2) hT1
        simp only at e1 e2 e3
        refine J.slEq (v := va) (by repeat (first | exact Pick.head | apply Pick.tail)) e1.symm ?_
        refine J.slEq (v := vb) (by repeat (first | exact Pick.head | apply Pick.tail)) e2.symm ?_
        refine J.slEq (v := sl43) (by repeat (first | exact Pick.head | apply Pick.tail)) e3.symm ?_
        exact J.envJ (J.keep (.cons (by repeat (first | exact Pick.head | apply Pick.tail)) (.cons (by repeat (first | exact Pick.head | apply Pick.tail)) (.cons (by repeat (first | exact Pick.head | apply Pick.tail)) (.cons (by repeat (first | exact Pick.head | apply Pick.tail)) (.cons (by repeat (first | exact Pick.head | apply Pick.tail)) Takes.nil))))) (hl5 (i + 1) (va) (vb) (sl43) (by omega) (by omega))) ⟨rfl, rfl, rfl, rfl, rfl, rfl, trivial⟩
      · skip
        refine Sq.nil ?_
        refine hk14 _ _ ?_
        refine Run.cond_f rfl ?_
        refine Run.skip ?_
        refine hk13 _ _ ?_
        refine Run.seq fun k16 hk16 => ?_
        refine Run.region ?_
        show Sq _ _ _ [0] _ _ _ _
        refine Sq.quiet (i := 0) rfl (Want.none rfl) rfl (ltN rfl) (QP.assign rfl rfl).read ?_
        refine Sq.nil ?_
        refine hk16 _ _ ?_
        refine Run.seq fun k17 hk17 => ?_
        refine Run.seq fun k18 hk18 => ?_
        refine Run.region ?_
        show Sq _ _ _ [0] _ _ _ _
        refine Sq.quiet (i := 0) rfl (Want.none rfl) rfl (ltN rfl) (QP.assign rfl rfl).read ?_
        refine Sq.nil ?_
        refine hk18 _ _ ?_
        refine Run.block ?_
        refine Run.loop1 (fun (k : Nat) => (k : Int) ≤ x.tries) (fun k => .cons 0 (.pointer (some ⟨b, 0, none⟩)) (.cons 1 (.int .i64 now) (.cons 6 (va) (.cons 7 (vb) (.cons 8 (vg) (.cons 9 (.int .i64 i) (.cons 10 (.pointer (some ⟨b10, 0, none⟩)) (.cons 11 (.int .i64 (2000 * 2 ^ k)) (.cons 12 (.int .i64 k) (.nil)))))))))) (fun k => [blk b (Ref18Table.enc ⟨most, ⟨some ⟨b0, o0, none⟩, L.length, c⟩⟩) 57, slA 67 45 Pending.enc (.slice (some ⟨b0, o0, none⟩) L.length c) L, slA 67 45 Pending.enc va (rtickQ now (L.take i)).1, slA 67 45 Pending.enc vb (rtickQ now (L.take i)).2.1, slA 67 45 Pending.enc vg (rtickQ now (L.take i)).2.2, blk b10 (Pending.enc x) 67]) (fun k => x.tries.toNat - k) (0) (by omega) ?_ ?_
        · exact fun _ j => J.envJ (J.keep (.cons (by repeat (first | exact Pick.head | apply Pick.tail)) (.cons (by repeat (first | exact Pick.head | apply Pick.tail)) (.cons (by repeat (first | exact Pick.head | apply Pick.tail)) (.cons (by repeat (first | exact Pick.head | apply Pick.tail)) (.cons (by repeat (first | exact Pick.head | apply Pick.tail)) (.cons (by repeat (first | exact Pick.head | apply Pick.tail)) Takes.nil)))))) j) ⟨rfl, rfl, rfl, rfl, rfl, rfl, rfl, rfl, rfl, trivial⟩
        rintro k hkl kl19 hl19
        refine Run.seq fun k20 hk20 => ?_
        refine Run.seq fun k21 hk21 => ?_
        refine Run.region ?_
        show Sq _ _ _ [0, 1, 2, 3] _ _ _ _
        refine Sq.quiet (i := 0) rfl (Want.none rfl) rfl (ltN rfl) (QP.move rfl rfl).read ?_
        refine Sq.quiet (i := 1) rfl (Want.none rfl) rfl (ltN rfl) (QP.fieldAddr rfl rfl f67_3).read ?_
        refine Sq.quiet (i := 2) rfl (Want.none rfl) rfl (ltN rfl) (QR.load1 rfl rfl g3 (Pending.sub_tries _)) ?_
        refine Sq.quiet (i := 3) rfl (Want.none rfl) rfl (ltN rfl) (QP.lss rfl rfl rfl).read ?_
        refine J.caseD (fun c47 => ?_) (fun c47 => ?_)
        · skip
          refine Sq.nil ?_
          refine hk21 _ _ ?_
          refine Run.cond_t rfl ?_
          refine Run.skip ?_
          refine hk20 _ _ ?_
          refine Run.seq fun k22 hk22 => ?_
          refine Run.block ?_
          refine Run.region ?_
          show Sq _ _ _ [0, 1, 2] _ _ _ _
          refine Sq.quiet (i := 0) rfl (Want.none rfl) rfl (ltN rfl) (QP.move rfl rfl).read ?_
          refine Sq.quiet (i := 1) rfl (Want.none rfl) rfl (ltN rfl) (QP.mul rfl rfl rfl).read ?_
          refine Sq.quiet (i := 2) rfl (Want.none rfl) rfl (ltN rfl) (QP.assign rfl rfl).read ?_
          refine Sq.nil ?_
          refine hk22 _ _ ?_
          refine Run.region ?_
          show Sq _ _ _ [0, 1, 2] _ _ _ _
          refine Sq.quiet (i := 0) rfl (Want.none rfl) rfl (ltN rfl) (QP.move rfl rfl).read ?_
          refine Sq.quiet (i := 1) rfl (Want.none rfl) rfl (ltN rfl) (QP.add64 rfl rfl rfl (by first | omega | (simp only [List.length_map, List.length_append, List.length_cons, List.length_nil, List.length_take, List.length_drop]; omega)) (by first | omega | (simp only [List.length_map, List.length_append, List.length_cons, List.length_nil, List.length_take, List.length_drop]; omega))).read ?_
          refine Sq.quiet (i := 2) rfl (Want.none rfl) rfl (ltN rfl) (QP.assign rfl rfl).read ?_
          refine Sq.nil ?_
          exact J.envJ (J.keep (.cons (by repeat (first | exact Pick.head | apply Pick.tail)) (.cons (by repeat (first | exact Pick.head | apply Pick.tail)) (.cons (by repeat (first | exact Pick.head | apply Pick.tail)) (.cons (by repeat (first | exact Pick.head | apply Pick.tail)) (.cons (by repeat (first | exact Pick.head | apply Pick.tail)) (.cons (by repeat (first | exact Pick.head | apply Pick.tail)) Takes.nil)))))) (hl19 (k + 1) (by omega) (by omega))) ⟨rfl, rfl, rfl, rfl, rfl, rfl, rfl, (congrArg (fun n => some (Value.int .i64 n)) (wait_step (k := k) (by omega))), rfl, trivial⟩
        · skip
          refine Sq.nil ?_
          refine hk21 _ _ ?_
          refine Run.cond_f rfl ?_
          refine Run.exit rfl ?_
          refine hk17 _ _ ?_
          refine Run.seq fun k23 hk23 => ?_
          refine Run.region ?_
          show Sq _ _ _ [0, 1, 2, 3, 4] _ _ _ _
          have hwl := wait_lim (k := k) (by omega)
          refine Sq.quiet (i := 0) rfl (Want.none rfl) rfl (ltN rfl) (QP.fieldAddr rfl rfl f67_3).read ?_
          refine Sq.quiet (i := 1) rfl (Want.none rfl) rfl (ltN rfl) (QR.load1 rfl rfl g3 (Pending.sub_tries _)) ?_
          refine Sq.quiet (i := 2) rfl (Want.none rfl) rfl (ltN rfl) (QP.add64 rfl rfl rfl (by first | omega | (simp only [List.length_map, List.length_append, List.length_cons, List.length_nil, List.length_take, List.length_drop]; omega)) (by first | omega | (simp only [List.length_map, List.length_append, List.length_cons, List.length_nil, List.length_take, List.length_drop]; omega))).read ?_
          refine Sq.quiet (i := 3) rfl (Want.none rfl) rfl (ltN rfl) (QP.fieldAddr rfl rfl f67_3).read ?_
          refine Sq.act (i := 4) rfl (Want.none rfl) rfl (EF.store rfl rfl rfl z3 (Pending.set_tries _ _) (cell_one rfl)) ?_
          rintro _ _ rfl
          refine Sq.nil ?_
          refine hk23 _ _ ?_
          refine Run.seq fun k24 hk24 => ?_
          refine Run.region ?_
          show Sq _ _ _ [0, 1, 2, 3, 4] _ _ _ _
          refine Sq.quiet (i := 0) rfl (Want.none rfl) rfl (ltN rfl) (QP.move rfl rfl).read ?_
          refine Sq.quiet (i := 1) rfl (Want.none rfl) rfl (ltN rfl) (QP.move rfl rfl).read ?_
          refine Sq.quiet (i := 2) rfl (Want.none rfl) rfl (ltN rfl) (QP.add64 rfl rfl rfl (by first | omega | (simp only [List.length_map, List.length_append, List.length_cons, List.length_nil, List.length_take, List.length_drop]; omega)) (by first | omega | (simp only [List.length_map, List.length_append, List.length_cons, List.length_nil, List.length_take, List.length_drop]; omega))).read ?_
          refine Sq.quiet (i := 3) rfl (Want.none rfl) rfl (ltN rfl) (QP.fieldAddr rfl rfl f67_4).read ?_
          refine Sq.act (i := 4) rfl (Want.none rfl) rfl (EF.store rfl rfl rfl z3 (Pending.set_at_ _ _) (cell_one rfl)) ?_
          rintro _ _ rfl
          refine Sq.nil ?_
          refine hk24 _ _ ?_
          refine Run.seq fun k25 hk25 => ?_
          refine Run.region ?_
          show Sq _ _ _ [0, 1, 2, 3, 4] _ _ _ _
          refine Sq.quiet (i := 0) rfl (Want.none rfl) rfl (ltN rfl) (QP.move rfl rfl).read ?_
          refine Sq.quiet (i := 1) rfl (Want.none rfl) rfl (ltN rfl) (QR.load rfl rfl g67 (Pending.enc_sub _)) ?_
          refine Sq.eff (i := 2) rfl (Want.none rfl) rfl (ltN rfl) (EF.buildSlice1 rfl Try.underlying40 z67 zero67 (by simp [Value.cells, Pending.enc_len]) (by decide) rfl rfl (Pending.enc_len _) (by decide)) ?_
          rintro _ _ ⟨b62, rfl, rfl⟩
          refine Sq.eff (i := 3) rfl (Want.none rfl) rfl (ltN rfl) (EF.append1 (xs := (rtickQ now (L.take i)).2.1) (s := _) el67 Pending.enc_len Pending.enc_cell rfl rfl rfl Try.underlying40 Try.underlying40 rfl rfl (by repeat (first | exact Pick.head | apply Pick.tail)) (by repeat (first | exact List.Mem.head _ | apply List.Mem.tail)) (by first | omega | (simp only [List.length_map, List.length_append, List.length_cons, List.length_nil, List.length_take, List.length_drop]; omega))) ?_
          rintro sl63 _ rfl
          refine Sq.quiet (i := 4) rfl (Want.none rfl) rfl (ltN rfl) (QP.assign rfl rfl).read ?_
          refine Sq.nil ?_
          refine hk25 _ _ ?_
          refine Run.region ?_
          show Sq _ _ _ [0, 1, 2, 3, 4] _ _ _ _
          refine Sq.quiet (i := 0) rfl (Want.none rfl) rfl (ltN rfl) (QP.move rfl rfl).read ?_
          refine Sq.quiet (i := 1) rfl (Want.none rfl) rfl (ltN rfl) (QR.load rfl rfl g67 (Pending.enc_sub _)) ?_
          refine Sq.eff (i := 2) rfl (Want.none rfl) rfl (ltN rfl) (EF.buildSlice1 rfl Try.underlying40 z67 zero67 (by simp [Value.cells, Pending.enc_len]) (by decide) rfl rfl (Pending.enc_len _) (by decide)) ?_
          rintro _ _ ⟨b66, rfl, rfl⟩
          refine Sq.eff (i := 3) rfl (Want.none rfl) rfl (ltN rfl) (EF.append1 (xs := (rtickQ now (L.take i)).1) (s := _) el67 Pending.enc_len Pending.enc_cell rfl rfl rfl Try.underlying40 Try.underlying40 rfl rfl (by repeat (first | exact Pick.head | apply Pick.tail)) (by repeat (first | exact List.Mem.head _ | apply List.Mem.tail)) (by first | omega | (simp only [List.length_map, List.length_append, List.length_cons, List.length_nil, List.length_take, List.length_drop]; omega))) ?_
          rintro sl67 _ rfl
          refine Sq.quiet (i := 4) rfl (Want.none rfl) rfl (ltN rfl) (QP.assign rfl rfl).read ?_
          refine Sq.nil ?_
          refine hk8 _ _ ?_
          refine Run.region ?_
          show Sq _ _ _ [0, 1, 2] _ _ _ _
          refine Sq.quiet (i := 0) rfl (Want.none rfl) rfl (ltN rfl) (QP.move rfl rfl).read ?_
          refine Sq.quiet (i := 1) rfl (Want.none rfl) rfl (ltN rfl) (QP.add64 rfl rfl rfl (by first | omega | (simp only [List.length_map, List.length_append, List.length_cons, List.length_nil, List.length_take, List.length_drop]; omega)) (by first | omega | (simp only [List.length_map, List.length_append, List.length_cons, List.length_nil, List.length_take, List.length_drop]; omega))).read ?_
          refine Sq.quiet (i := 2) rfl (Want.none rfl) rfl (ltN rfl) (QP.assign rfl rfl).read ?_
          refine Sq.nil ?_
          have hT1 : (rtickQ now (L.take (i + 1))) = ((rtickQ now (L.take i)).1 ++ [laterQ now x], (rtickQ now (L.take i)).2.1 ++ [laterQ now x], (rtickQ now (L.take i)).2.2) := by rw [rtickQ_succ now hi, rstepQ, if_neg c32, if_neg c39]
          have hlat := later_eq now hat.2.2.1 hat.2.2.2 (k := k) (by omega)
          have e1 := congrArg (fun q => q.1) hT1
          have e2 := congrArg (fun q => q.2.1) hT1
          have e3 := congrArg (fun q => q.2.2) hT1
          simp only at e1 e2 e3
          rw [hlat] at e1 e2
          refine J.slEq (v := sl67) (by repeat (first | exact Pick.head | apply Pick.tail)) e1.symm ?_
          refine J.slEq (v := sl63) (by repeat (first | exact Pick.head | apply Pick.tail)) e2.symm ?_
          refine J.slEq (v := vg) (by repeat (first | exact Pick.head | apply Pick.tail)) e3.symm ?_
          exact J.envJ (J.keep (.cons (by repeat (first | exact Pick.head | apply Pick.tail)) (.cons (by repeat (first | exact Pick.head | apply Pick.tail)) (.cons (by repeat (first | exact Pick.head | apply Pick.tail)) (.cons (by repeat (first | exact Pick.head | apply Pick.tail)) (.cons (by repeat (first | exact Pick.head | apply Pick.tail)) Takes.nil))))) (hl5 (i + 1) (sl67) (sl63) (vg) (by omega) (by omega))) ⟨rfl, rfl, rfl, rfl, rfl, rfl, trivial⟩
  · skip
    refine Sq.nil ?_
    refine hk7 _ _ ?_
    refine Run.cond_f rfl ?_
    refine Run.exit rfl ?_
    refine hk3 _ _ ?_
    refine Run.seq fun k26 hk26 => ?_
    refine Run.region ?_
    show Sq _ _ _ [0, 1, 2, 3, 4] _ _ _ _
    have hil : i = L.length := by omega
    subst hil
    rw [List.take_length]
    refine Sq.slCase (v := va) (xs := (rtickQ now L).1) (by repeat (first | exact List.Mem.head _ | apply List.Mem.tail)) (fun av cv hv hhv => ?_)
    subst hv
    refine Sq.quiet (i := 0) rfl (Want.none rfl) rfl (ltN rfl) (QP.move rfl rfl).read ?_
    refine Sq.quiet (i := 1) rfl (Want.none rfl) rfl (ltN rfl) (QP.move rfl rfl).read ?_
    refine Sq.quiet (i := 2) rfl (Want.none rfl) rfl (ltN rfl) (QP.nilCheck rfl rfl).read ?_
    refine Sq.quiet (i := 3) rfl (Want.none rfl) rfl (ltN rfl) (QP.fieldAddr rfl rfl f57_1).read ?_
    refine Sq.act (i := 4) rfl (Want.none rfl) rfl (EF.store rfl rfl rfl z40 (Ref18Table.set_l _ ⟨av, _, cv⟩) (cell_one rfl)) ?_
    rintro _ _ rfl
    refine Sq.nil ?_
    refine hk26 _ _ ?_
    refine Run.seq fun k27 hk27 => ?_
    refine Run.region ?_
    show Sq _ _ _ [0, 1, 2, 3] _ _ _ _
    refine Sq.quiet (i := 0) rfl (Want.none rfl) rfl (ltN rfl) (QP.move rfl rfl).read ?_
    refine Sq.quiet (i := 1) rfl (Want.none rfl) rfl (ltN rfl) (QP.move rfl rfl).read ?_
    refine Sq.quiet (i := 2) rfl (Want.none rfl) rfl (ltN rfl) (QP.assign rfl rfl).read ?_
    refine Sq.quiet (i := 3) rfl (Want.none rfl) rfl (ltN rfl) (QP.assign rfl rfl).read ?_
    refine Sq.nil ?_
    refine hk27 _ _ ?_
    refine Run.ret ?_
    exact J.ends (res_tmp2 rfl rfl rfl) (.cons (by repeat (first | exact Pick.head | apply Pick.tail)) (.cons (by repeat (first | exact Pick.head | apply Pick.tail)) (.cons (by repeat (first | exact Pick.head | apply Pick.tail)) (.cons (by repeat (first | exact Pick.head | apply Pick.tail)) Takes.nil)))) ⟨_, _, vb, vg, hhv, rfl, rfl⟩

/-- When the first is due. -/
def NextIs (L : List Pending) (n : Int) (ok : Bool) : Prop := (L = [] ∧ n = 0 ∧ ok = false) ∨ (ok = true ∧ (∃ x ∈ L, x.at_ = n) ∧ ∀ x ∈ L, n ≤ x.at_)
theorem NextIs.uniq {L : List Pending} {n m : Int} {a b : Bool} (h : NextIs L n a) (k : NextIs L m b) : n = m ∧ a = b := by
  rcases h with ⟨rfl, rfl, rfl⟩ | ⟨rfl, ⟨x, hx, rfl⟩, hl⟩
  · rcases k with ⟨_, rfl, rfl⟩ | ⟨_, ⟨x, hx, _⟩, _⟩
    · exact ⟨rfl, rfl⟩
    · cases hx
  · rcases k with ⟨rfl, _, _⟩ | ⟨rfl, ⟨y, hy, rfl⟩, kl⟩
    · cases hx
    · have := hl y hy
      have := kl x hx
      exact ⟨by omega, rfl⟩
theorem NextIs.less {L : List Pending} {i : Nat} {x : Pending} {n : Int} {ok : Bool} (h : NextIs (L.take i) n ok) (hi : L[i]? = some x) (hx : ok = false ∨ x.at_ < n) : NextIs (L.take (i + 1)) x.at_ true := by
  rw [List.take_add_one, hi]
  refine .inr ⟨rfl, ⟨x, by simp, rfl⟩, fun y hy => ?_⟩
  rcases List.mem_append.1 hy with hy | hy
  · rcases h with ⟨h1, _, _⟩ | ⟨rfl, _, hl⟩
    · rw [h1] at hy; cases hy
    · have := hl y hy
      rcases hx with hx | hx
      · cases hx
      · omega
  · simp at hy; subst hy; exact Int.le_refl _
theorem NextIs.keep {L : List Pending} {i : Nat} {x : Pending} {n : Int} (h : NextIs (L.take i) n true) (hi : L[i]? = some x) (hx : ¬ x.at_ < n) : NextIs (L.take (i + 1)) n true := by
  rcases h with ⟨_, _, h⟩ | ⟨_, ⟨y, hy, hn⟩, hl⟩
  · cases h
  · rw [List.take_add_one, hi]
    refine .inr ⟨rfl, ⟨y, List.mem_append_left _ hy, hn⟩, fun z hz => ?_⟩
    rcases List.mem_append.1 hz with hz | hz
    · exact hl z hz
    · simp at hz; subst hz; omega

theorem rnext_spec (F : Fr) {b : Nat} {most : Int} {a : Option Addr} {c : Nat} {L : List Pending} (hh : SlH a c L) (hL : L.length ≤ 1000000)  : Spec Try.prog 25 #[.pointer (some ⟨b, 0, none⟩)] [blk b (Ref18Table.enc ⟨most, ⟨a, L.length, c⟩⟩) 57, slA 67 45 Pending.enc (.slice a L.length c) L] F (fun v S => S = [blk b (Ref18Table.enc ⟨most, ⟨a, L.length, c⟩⟩) 57, slA 67 45 Pending.enc (.slice a L.length c) L] ∧ ∃ n ok, v = .tuple #[.int .i64 n, .bool ok] ∧ NextIs L n ok) := by
  refine Spec.intro (N := 40) (args := [.pointer (some ⟨b, 0, none⟩)]) Try.func25 rfl rfl (by simp) ?_
  refine Run.seq fun k1 hk1 => ?_
  refine Run.region ?_
  show Sq _ _ _ [0, 1] _ _ _ _
  refine Sq.quiet (i := 0) rfl (Want.none rfl) rfl (ltN rfl) (QP.assign rfl rfl).read ?_
  refine Sq.quiet (i := 1) rfl (Want.none rfl) rfl (ltN rfl) (QP.assign rfl rfl).read ?_
  refine Sq.nil ?_
  refine hk1 _ _ ?_
  refine Run.seq fun k2 hk2 => ?_
  refine Run.region ?_
  show Sq _ _ _ [0, 1] _ _ _ _
  refine Sq.quiet (i := 0) rfl (Want.none rfl) rfl (ltN rfl) (QP.assign rfl rfl).read ?_
  refine Sq.quiet (i := 1) rfl (Want.none rfl) rfl (ltN rfl) (QP.assign rfl rfl).read ?_
  refine Sq.nil ?_
  refine hk2 _ _ ?_
  refine Run.seq fun k3 hk3 => ?_
  refine Run.seq fun k4 hk4 => ?_
  refine Run.region ?_
  show Sq _ _ _ [0] _ _ _ _
  refine Sq.quiet (i := 0) rfl (Want.none rfl) rfl (ltN rfl) (QP.assign rfl rfl).read ?_
  refine Sq.nil ?_
  refine hk4 _ _ ?_
  refine Run.block ?_
  refine Run.loop3 (fun (i : Nat) (n : Int) (ok : Bool) => i ≤ L.length ∧ NextIs (L.take i) n ok) (fun i n ok => .cons 0 (.pointer (some ⟨b, 0, none⟩)) (.cons 4 (.int .i64 n) (.cons 5 (.bool ok) (.cons 6 (.int .i64 i) (.nil))))) (fun i n ok => [blk b (Ref18Table.enc ⟨most, ⟨a, L.length, c⟩⟩) 57, slA 67 45 Pending.enc (.slice a L.length c) L]) (fun i n ok => L.length - i) (0) (0) (false) (⟨Nat.zero_le _, .inl ⟨by simp, rfl, rfl⟩⟩) ?_ ?_
  · exact fun _ j => J.envJ (J.keep (.cons (by repeat (first | exact Pick.head | apply Pick.tail)) (.cons (by repeat (first | exact Pick.head | apply Pick.tail)) Takes.nil)) j) ⟨rfl, rfl, rfl, rfl, trivial⟩
  rintro i n ok ⟨hile, hnx⟩ kl5 hl5
  refine Run.seq fun k6 hk6 => ?_
  refine Run.seq fun k7 hk7 => ?_
  refine Run.region ?_
  show Sq _ _ _ [0, 1, 2, 3, 4, 5, 6] _ _ _ _
  refine Sq.quiet (i := 0) rfl (Want.none rfl) rfl (ltN rfl) (QP.move rfl rfl).read ?_
  refine Sq.quiet (i := 1) rfl (Want.none rfl) rfl (ltN rfl) (QP.move rfl rfl).read ?_
  refine Sq.quiet (i := 2) rfl (Want.none rfl) rfl (ltN rfl) (QP.nilCheck rfl rfl).read ?_
  refine Sq.quiet (i := 3) rfl (Want.none rfl) rfl (ltN rfl) (QP.fieldAddr rfl rfl f57_1).read ?_
  refine Sq.quiet (i := 4) rfl (Want.none rfl) rfl (ltN rfl) (QR.load1 (v := .slice _ L.length _) rfl rfl g40 (Ref18Table.sub_l _)) ?_
  refine Sq.quiet (i := 5) rfl (Want.none rfl) rfl (ltN rfl) (QP.len rfl rfl rfl Try.underlying40).read ?_
  refine Sq.quiet (i := 6) rfl (Want.none rfl) rfl (ltN rfl) (QP.lss rfl rfl rfl).read ?_
  refine J.caseD (fun c13 => ?_) (fun c13 => ?_)
  · skip
    refine Sq.nil ?_
    refine hk7 _ _ ?_
    refine Run.cond_t rfl ?_
    refine Run.skip ?_
    refine hk6 _ _ ?_
    refine Run.seq fun k8 hk8 => ?_
    refine Run.block ?_
    refine Run.seq fun k9 hk9 => ?_
    refine Run.region ?_
    show Sq _ _ _ [0, 1, 2, 3, 4, 5, 6, 7, 8, 9, 10, 11, 12, 13] _ _ _ _
    have hlt : i < L.length := by omega
    obtain ⟨x, hi⟩ : ∃ x, L[i]? = some x := ⟨_, List.getElem?_eq_getElem hlt⟩
    obtain ⟨b0, o0, rfl⟩ := hh.get (by omega)
    refine Sq.quiet (i := 0) rfl (Want.none rfl) rfl (ltN rfl) (QP.move rfl rfl).read ?_
    refine J.caseB (fun c16 => ?_) (fun c16 => ?_)
    · skip
      refine Sq.quiet (i := 1) rfl (Want.none rfl) rfl (ltN rfl) (QP.not rfl rfl).read ?_
      refine Sq.quiet (i := 2) rfl (Want.none rfl) rfl (ltN rfl) (QP.move rfl rfl).read ?_
      refine Sq.quiet (i := 3) rfl (Want.yes rfl rfl rfl rfl) rfl (ltN rfl) (QP.move rfl rfl).read ?_
      refine Sq.quiet (i := 4) rfl (Want.yes rfl rfl rfl rfl) rfl (ltN rfl) (QP.nilCheck rfl rfl).read ?_
      refine Sq.quiet (i := 5) rfl (Want.yes rfl rfl rfl rfl) rfl (ltN rfl) (QP.fieldAddr rfl rfl f57_1).read ?_
      refine Sq.quiet (i := 6) rfl (Want.yes rfl rfl rfl rfl) rfl (ltN rfl) (QR.load1 (v := .slice _ L.length _) rfl rfl g40 (Ref18Table.sub_l _)) ?_
      refine Sq.quiet (i := 7) rfl (Want.yes rfl rfl rfl rfl) rfl (ltN rfl) (QP.move rfl rfl).read ?_
      refine Sq.quiet (i := 8) rfl (Want.yes rfl rfl rfl rfl) rfl (ltN rfl) (QP.indexAddr rfl rfl rfl Try.underlying40 z67 (by first | omega | (simp only [List.length_map, List.length_append, List.length_cons, List.length_nil, List.length_take, List.length_drop]; omega)) (by first | omega | (simp only [List.length_map, List.length_append, List.length_cons, List.length_nil, List.length_take, List.length_drop]; omega))).read ?_
      refine Sq.quiet (i := 9) rfl (Want.yes rfl rfl rfl rfl) rfl (ltN rfl) (QP.fieldAddr rfl rfl f67_4).read ?_
      refine Sq.quiet (i := 10) rfl (Want.yes rfl rfl rfl rfl) rfl (ltN rfl) (QR.loadSlF1 rfl rfl g3 Pending.enc_len (SlAt.own Pending.enc_len (by repeat (first | exact List.Mem.head _ | apply List.Mem.tail))) hi (Pending.sub_at_ _)) ?_
      refine Sq.quiet (i := 11) rfl (Want.yes rfl rfl rfl rfl) rfl (ltN rfl) (QP.move rfl rfl).read ?_
      refine Sq.quiet (i := 12) rfl (Want.yes rfl rfl rfl rfl) rfl (ltN rfl) (QP.lss rfl rfl rfl).read ?_
      refine J.caseD (fun c28 => ?_) (fun c28 => ?_)
      · skip
        refine Sq.quiet (i := 13) rfl (Want.none rfl) rfl (ltN rfl) (QP.pick_f rfl rfl rfl).read ?_
        refine Sq.nil ?_
        refine hk9 _ _ ?_
        refine Run.cond_t rfl ?_
        refine Run.region ?_
        show Sq _ _ _ [0, 1, 2, 3, 4, 5, 6, 7, 8, 9] _ _ _ _
        refine Sq.quiet (i := 0) rfl (Want.none rfl) rfl (ltN rfl) (QP.move rfl rfl).read ?_
        refine Sq.quiet (i := 1) rfl (Want.none rfl) rfl (ltN rfl) (QP.nilCheck rfl rfl).read ?_
        refine Sq.quiet (i := 2) rfl (Want.none rfl) rfl (ltN rfl) (QP.fieldAddr rfl rfl f57_1).read ?_
        refine Sq.quiet (i := 3) rfl (Want.none rfl) rfl (ltN rfl) (QR.load1 (v := .slice _ L.length _) rfl rfl g40 (Ref18Table.sub_l _)) ?_
        refine Sq.quiet (i := 4) rfl (Want.none rfl) rfl (ltN rfl) (QP.move rfl rfl).read ?_
        refine Sq.quiet (i := 5) rfl (Want.none rfl) rfl (ltN rfl) (QP.indexAddr rfl rfl rfl Try.underlying40 z67 (by first | omega | (simp only [List.length_map, List.length_append, List.length_cons, List.length_nil, List.length_take, List.length_drop]; omega)) (by first | omega | (simp only [List.length_map, List.length_append, List.length_cons, List.length_nil, List.length_take, List.length_drop]; omega))).read ?_
        refine Sq.quiet (i := 6) rfl (Want.none rfl) rfl (ltN rfl) (QP.fieldAddr rfl rfl f67_4).read ?_
        refine Sq.quiet (i := 7) rfl (Want.none rfl) rfl (ltN rfl) (QR.loadSlF1 rfl rfl g3 Pending.enc_len (SlAt.own Pending.enc_len (by repeat (first | exact List.Mem.head _ | apply List.Mem.tail))) hi (Pending.sub_at_ _)) ?_
        refine Sq.quiet (i := 8) rfl (Want.none rfl) rfl (ltN rfl) (QP.assign rfl rfl).read ?_
        refine Sq.quiet (i := 9) rfl (Want.none rfl) rfl (ltN rfl) (QP.assign rfl rfl).read ?_
        refine Sq.nil ?_
        refine hk8 _ _ ?_
        refine Run.region ?_
        show Sq _ _ _ [0, 1, 2] _ _ _ _
        refine Sq.quiet (i := 0) rfl (Want.none rfl) rfl (ltN rfl) (QP.move rfl rfl).read ?_
        refine Sq.quiet (i := 1) rfl (Want.none rfl) rfl (ltN rfl) (QP.add64 rfl rfl rfl (by first | omega | (simp only [List.length_map, List.length_append, List.length_cons, List.length_nil, List.length_take, List.length_drop]; omega)) (by first | omega | (simp only [List.length_map, List.length_append, List.length_cons, List.length_nil, List.length_take, List.length_drop]; omega))).read ?_
        refine Sq.quiet (i := 2) rfl (Want.none rfl) rfl (ltN rfl) (QP.assign rfl rfl).read ?_
        refine Sq.nil ?_
        exact J.envJ (J.keep (.cons (by repeat (first | exact Pick.head | apply Pick.tail)) (.cons (by repeat (first | exact Pick.head | apply Pick.tail)) Takes.nil)) (hl5 (i + 1) (x.at_) (true) (⟨by omega, hnx.less hi (.inr c28)⟩) (by omega))) ⟨rfl, rfl, rfl, rfl, trivial⟩
      · skip
        refine Sq.quiet (i := 13) rfl (Want.none rfl) rfl (ltN rfl) (QP.pick_f rfl rfl rfl).read ?_
        refine Sq.nil ?_
        refine hk9 _ _ ?_
        refine Run.cond_f rfl ?_
        refine Run.skip ?_
        refine hk8 _ _ ?_
        refine Run.region ?_
        show Sq _ _ _ [0, 1, 2] _ _ _ _
        refine Sq.quiet (i := 0) rfl (Want.none rfl) rfl (ltN rfl) (QP.move rfl rfl).read ?_
        refine Sq.quiet (i := 1) rfl (Want.none rfl) rfl (ltN rfl) (QP.add64 rfl rfl rfl (by first | omega | (simp only [List.length_map, List.length_append, List.length_cons, List.length_nil, List.length_take, List.length_drop]; omega)) (by first | omega | (simp only [List.length_map, List.length_append, List.length_cons, List.length_nil, List.length_take, List.length_drop]; omega))).read ?_
        refine Sq.quiet (i := 2) rfl (Want.none rfl) rfl (ltN rfl) (QP.assign rfl rfl).read ?_
        refine Sq.nil ?_
        exact J.envJ (J.keep (.cons (by repeat (first | exact Pick.head | apply Pick.tail)) (.cons (by repeat (first | exact Pick.head | apply Pick.tail)) Takes.nil)) (hl5 (i + 1) (n) (ok) (⟨by omega, by rw [c16] at hnx ⊢; exact hnx.keep hi c28⟩) (by omega))) ⟨rfl, rfl, rfl, rfl, trivial⟩
    · skip
      refine Sq.quiet (i := 1) rfl (Want.none rfl) rfl (ltN rfl) (QP.not rfl rfl).read ?_
      refine Sq.quiet (i := 2) rfl (Want.none rfl) rfl (ltN rfl) (QP.move rfl rfl).read ?_
      refine Sq.skip (i := 3) rfl (Want.no rfl rfl rfl rfl) rfl (ltN rfl) ?_
      refine Sq.skip (i := 4) rfl (Want.no rfl rfl rfl rfl) rfl (ltN rfl) ?_
      refine Sq.skip (i := 5) rfl (Want.no rfl rfl rfl rfl) rfl (ltN rfl) ?_
      refine Sq.skip (i := 6) rfl (Want.no rfl rfl rfl rfl) rfl (ltN rfl) ?_
      refine Sq.skip (i := 7) rfl (Want.no rfl rfl rfl rfl) rfl (ltN rfl) ?_
      refine Sq.skip (i := 8) rfl (Want.no rfl rfl rfl rfl) rfl (ltN rfl) ?_
      refine Sq.skip (i := 9) rfl (Want.no rfl rfl rfl rfl) rfl (ltN rfl) ?_
      refine Sq.skip (i := 10) rfl (Want.no rfl rfl rfl rfl) rfl (ltN rfl) ?_
      refine Sq.skip (i := 11) rfl (Want.no rfl rfl rfl rfl) rfl (ltN rfl) ?_
      refine Sq.skip (i := 12) rfl (Want.no rfl rfl rfl rfl) rfl (ltN rfl) ?_
      refine Sq.quiet (i := 13) rfl (Want.none rfl) rfl (ltN rfl) (QP.pick_t rfl rfl rfl).read ?_
      refine Sq.nil ?_
      refine hk9 _ _ ?_
      refine Run.cond_t rfl ?_
      refine Run.region ?_
      show Sq _ _ _ [0, 1, 2, 3, 4, 5, 6, 7, 8, 9] _ _ _ _
      refine Sq.quiet (i := 0) rfl (Want.none rfl) rfl (ltN rfl) (QP.move rfl rfl).read ?_
      refine Sq.quiet (i := 1) rfl (Want.none rfl) rfl (ltN rfl) (QP.nilCheck rfl rfl).read ?_
      refine Sq.quiet (i := 2) rfl (Want.none rfl) rfl (ltN rfl) (QP.fieldAddr rfl rfl f57_1).read ?_
      refine Sq.quiet (i := 3) rfl (Want.none rfl) rfl (ltN rfl) (QR.load1 (v := .slice _ L.length _) rfl rfl g40 (Ref18Table.sub_l _)) ?_
      refine Sq.quiet (i := 4) rfl (Want.none rfl) rfl (ltN rfl) (QP.move rfl rfl).read ?_
      refine Sq.quiet (i := 5) rfl (Want.none rfl) rfl (ltN rfl) (QP.indexAddr rfl rfl rfl Try.underlying40 z67 (by first | omega | (simp only [List.length_map, List.length_append, List.length_cons, List.length_nil, List.length_take, List.length_drop]; omega)) (by first | omega | (simp only [List.length_map, List.length_append, List.length_cons, List.length_nil, List.length_take, List.length_drop]; omega))).read ?_
      refine Sq.quiet (i := 6) rfl (Want.none rfl) rfl (ltN rfl) (QP.fieldAddr rfl rfl f67_4).read ?_
      refine Sq.quiet (i := 7) rfl (Want.none rfl) rfl (ltN rfl) (QR.loadSlF1 rfl rfl g3 Pending.enc_len (SlAt.own Pending.enc_len (by repeat (first | exact List.Mem.head _ | apply List.Mem.tail))) hi (Pending.sub_at_ _)) ?_
      refine Sq.quiet (i := 8) rfl (Want.none rfl) rfl (ltN rfl) (QP.assign rfl rfl).read ?_
      refine Sq.quiet (i := 9) rfl (Want.none rfl) rfl (ltN rfl) (QP.assign rfl rfl).read ?_
      refine Sq.nil ?_
      refine hk8 _ _ ?_
      refine Run.region ?_
      show Sq _ _ _ [0, 1, 2] _ _ _ _
      refine Sq.quiet (i := 0) rfl (Want.none rfl) rfl (ltN rfl) (QP.move rfl rfl).read ?_
      refine Sq.quiet (i := 1) rfl (Want.none rfl) rfl (ltN rfl) (QP.add64 rfl rfl rfl (by first | omega | (simp only [List.length_map, List.length_append, List.length_cons, List.length_nil, List.length_take, List.length_drop]; omega)) (by first | omega | (simp only [List.length_map, List.length_append, List.length_cons, List.length_nil, List.length_take, List.length_drop]; omega))).read ?_
      refine Sq.quiet (i := 2) rfl (Want.none rfl) rfl (ltN rfl) (QP.assign rfl rfl).read ?_
      refine Sq.nil ?_
      exact J.envJ (J.keep (.cons (by repeat (first | exact Pick.head | apply Pick.tail)) (.cons (by repeat (first | exact Pick.head | apply Pick.tail)) Takes.nil)) (hl5 (i + 1) (x.at_) (true) (⟨by omega, hnx.less hi (.inl c16)⟩) (by omega))) ⟨rfl, rfl, rfl, rfl, trivial⟩
  · skip
    refine Sq.nil ?_
    refine hk7 _ _ ?_
    refine Run.cond_f rfl ?_
    refine Run.exit rfl ?_
    refine hk3 _ _ ?_
    refine Run.seq fun k10 hk10 => ?_
    refine Run.region ?_
    show Sq _ _ _ [0, 1, 2, 3] _ _ _ _
    refine Sq.quiet (i := 0) rfl (Want.none rfl) rfl (ltN rfl) (QP.move rfl rfl).read ?_
    refine Sq.quiet (i := 1) rfl (Want.none rfl) rfl (ltN rfl) (QP.move rfl rfl).read ?_
    refine Sq.quiet (i := 2) rfl (Want.none rfl) rfl (ltN rfl) (QP.assign rfl rfl).read ?_
    refine Sq.quiet (i := 3) rfl (Want.none rfl) rfl (ltN rfl) (QP.assign rfl rfl).read ?_
    refine Sq.nil ?_
    refine hk10 _ _ ?_
    refine Run.ret ?_
    exact J.ends (res_tmp2 rfl rfl rfl) (.cons (by repeat (first | exact Pick.head | apply Pick.tail)) (.cons (by repeat (first | exact Pick.head | apply Pick.tail)) Takes.nil)) ⟨rfl, _, _, rfl, by rw [List.take_of_length_le (by omega)] at hnx; exact hnx⟩

theorem same_spec (F : Fr) {a a2 : Option Addr} {c c2 : Nat} {xs ys : List Pending} (h1 : SlH a c xs) (h2 : SlH a2 c2 ys) (hl1 : xs.length ≤ 1000000) (hl2 : ys.length ≤ 1000000)  : Spec Try.prog 23 #[.slice a xs.length c, .slice a2 ys.length c2] [slA 67 45 Pending.enc (.slice a xs.length c) xs, slA 67 45 Pending.enc (.slice a2 ys.length c2) ys] F (fun v S => v = .bool (decide (xs = ys)) ∧ S = [slA 67 45 Pending.enc (.slice a xs.length c) xs, slA 67 45 Pending.enc (.slice a2 ys.length c2) ys]) := by
  refine Spec.intro (N := 26) (args := [.slice a xs.length c, .slice a2 ys.length c2]) Try.func23 rfl rfl (by simp) ?_
  refine Run.seq fun k1 hk1 => ?_
  refine Run.region ?_
  show Sq _ _ _ [0] _ _ _ _
  refine Sq.quiet (i := 0) rfl (Want.none rfl) rfl (ltN rfl) (QP.assign rfl rfl).read ?_
  refine Sq.nil ?_
  refine hk1 _ _ ?_
  refine Run.seq fun k2 hk2 => ?_
  refine Run.seq fun k3 hk3 => ?_
  refine Run.region ?_
  show Sq _ _ _ [0, 1, 2, 3, 4] _ _ _ _
  refine Sq.quiet (i := 0) rfl (Want.none rfl) rfl (ltN rfl) (QP.move rfl rfl).read ?_
  refine Sq.quiet (i := 1) rfl (Want.none rfl) rfl (ltN rfl) (QP.len rfl rfl rfl Try.underlying40).read ?_
  refine Sq.quiet (i := 2) rfl (Want.none rfl) rfl (ltN rfl) (QP.move rfl rfl).read ?_
  refine Sq.quiet (i := 3) rfl (Want.none rfl) rfl (ltN rfl) (QP.len rfl rfl rfl Try.underlying40).read ?_
  refine Sq.quiet (i := 4) rfl (Want.none rfl) rfl (ltN rfl) (QP.neq rfl rfl rfl).read ?_
  refine J.caseD (fun c10 => ?_) (fun c10 => ?_)
  · skip
    refine Sq.nil ?_
    refine hk3 _ _ ?_
    refine Run.cond_t rfl ?_
    refine Run.seq fun k4 hk4 => ?_
    refine Run.region ?_
    show Sq _ _ _ [0] _ _ _ _
    refine Sq.quiet (i := 0) rfl (Want.none rfl) rfl (ltN rfl) (QP.assign rfl rfl).read ?_
    refine Sq.nil ?_
    refine hk4 _ _ ?_
    refine Run.ret ?_
    exact J.ends (res_tmp rfl rfl) (.cons (by repeat (first | exact Pick.head | apply Pick.tail)) (.cons (by repeat (first | exact Pick.head | apply Pick.tail)) Takes.nil)) ⟨by rw [decide_eq_false]; intro h; subst h; exact c10 rfl, rfl⟩
  · skip
    refine Sq.nil ?_
    refine hk3 _ _ ?_
    refine Run.cond_f rfl ?_
    refine Run.skip ?_
    refine hk2 _ _ ?_
    refine Run.seq fun k5 hk5 => ?_
    refine Run.seq fun k6 hk6 => ?_
    refine Run.region ?_
    show Sq _ _ _ [0] _ _ _ _
    refine Sq.quiet (i := 0) rfl (Want.none rfl) rfl (ltN rfl) (QP.assign rfl rfl).read ?_
    refine Sq.nil ?_
    refine hk6 _ _ ?_
    refine Run.block ?_
    refine Run.loop1 (fun (i : Nat) => i ≤ xs.length ∧ xs.length = ys.length ∧ xs.take i = ys.take i) (fun i => .cons 0 (.slice a xs.length c) (.cons 1 (.slice a2 ys.length c2) (.cons 5 (.int .i64 i) (.nil)))) (fun i => [slA 67 45 Pending.enc (.slice a xs.length c) xs, slA 67 45 Pending.enc (.slice a2 ys.length c2) ys]) (fun i => xs.length - i) (0) (⟨Nat.zero_le _, by omega, rfl⟩) ?_ ?_
    · exact fun _ j => J.envJ (J.keep (.cons (by repeat (first | exact Pick.head | apply Pick.tail)) (.cons (by repeat (first | exact Pick.head | apply Pick.tail)) Takes.nil)) j) ⟨rfl, rfl, rfl, trivial⟩
    rintro i ⟨hile, hlen, heq⟩ kl7 hl7
    refine Run.seq fun k8 hk8 => ?_
    refine Run.seq fun k9 hk9 => ?_
    refine Run.region ?_
    show Sq _ _ _ [0, 1, 2, 3] _ _ _ _
    refine Sq.quiet (i := 0) rfl (Want.none rfl) rfl (ltN rfl) (QP.move rfl rfl).read ?_
    refine Sq.quiet (i := 1) rfl (Want.none rfl) rfl (ltN rfl) (QP.move rfl rfl).read ?_
    refine Sq.quiet (i := 2) rfl (Want.none rfl) rfl (ltN rfl) (QP.len rfl rfl rfl Try.underlying40).read ?_
    refine Sq.quiet (i := 3) rfl (Want.none rfl) rfl (ltN rfl) (QP.lss rfl rfl rfl).read ?_
    refine J.caseD (fun c14 => ?_) (fun c14 => ?_)
    · skip
      refine Sq.nil ?_
      refine hk9 _ _ ?_
      refine Run.cond_t rfl ?_
      refine Run.skip ?_
      refine hk8 _ _ ?_
      refine Run.seq fun k10 hk10 => ?_
      refine Run.block ?_
      refine Run.seq fun k11 hk11 => ?_
      refine Run.regionD (M := [0, 0, 3, 7, 0, 0, 48, 112, 255]) (q := 511) (r := 136) (by kernel_rfl) ?_
      obtain ⟨x, hx⟩ : ∃ x, xs[i]? = some x := ⟨_, List.getElem?_eq_getElem (by omega)⟩
      obtain ⟨y, hy⟩ : ∃ y, ys[i]? = some y := ⟨_, List.getElem?_eq_getElem (by omega)⟩
      obtain ⟨b0, o0, rfl⟩ := h1.get (by omega)
      obtain ⟨b1, o1, rfl⟩ := h2.get (by omega)
      refine Dw.pure (i := 0) rfl (by kernel_rfl) (Want.none rfl) rfl (ltN rfl) (QP.move rfl rfl) ?_
      refine Dw.pure (i := 1) rfl (by kernel_rfl) (Want.none rfl) rfl (ltN rfl) (QP.move rfl rfl) ?_
      refine Dw.pure (i := 2) rfl (by kernel_rfl) (Want.none rfl) rfl (ltN rfl) (QP.indexAddr rfl rfl rfl Try.underlying40 z67 (by first | omega | (simp only [List.length_map, List.length_append, List.length_cons, List.length_nil, List.length_take, List.length_drop]; omega)) (by first | omega | (simp only [List.length_map, List.length_append, List.length_cons, List.length_nil, List.length_take, List.length_drop]; omega))) ?_
      refine Dw.read (i := 3) rfl (by kernel_rfl) (Want.none rfl) rfl (ltN rfl) (QR.loadSl rfl rfl g67 Pending.enc_len (SlAt.own Pending.enc_len (by repeat (first | exact List.Mem.head _ | apply List.Mem.tail))) hx) ?_
      refine Dw.pure (i := 4) rfl (by kernel_rfl) (Want.none rfl) rfl (ltN rfl) (QP.move rfl rfl) ?_
      refine Dw.pure (i := 5) rfl (by kernel_rfl) (Want.none rfl) rfl (ltN rfl) (QP.move rfl rfl) ?_
      refine Dw.pure (i := 6) rfl (by kernel_rfl) (Want.none rfl) rfl (ltN rfl) (QP.indexAddr rfl rfl rfl Try.underlying40 z67 (by first | omega | (simp only [List.length_map, List.length_append, List.length_cons, List.length_nil, List.length_take, List.length_drop]; omega)) (by first | omega | (simp only [List.length_map, List.length_append, List.length_cons, List.length_nil, List.length_take, List.length_drop]; omega))) ?_
      refine Dw.read (i := 7) rfl (by kernel_rfl) (Want.none rfl) rfl (ltN rfl) (QR.loadSl rfl rfl g67 Pending.enc_len (SlAt.own Pending.enc_len (by repeat (first | exact List.Mem.head _ | apply List.Mem.tail))) hy) ?_
      refine Dw.pure (i := 8) rfl (by kernel_rfl) (Want.none rfl) rfl (ltN rfl) (QP.neq_agg eq67 rfl rfl rfl) ?_
      refine J.caseD (fun c25 => ?_) (fun c25 => ?_)
      · skip
        refine Dw.nil (by kernel_rfl) ?_
        refine hk11 _ _ ?_
        refine Run.cond_t rfl ?_
        refine Run.seq fun k12 hk12 => ?_
        refine Run.region ?_
        show Sq _ _ _ [0] _ _ _ _
        refine Sq.quiet (i := 0) rfl (Want.none rfl) rfl (ltN rfl) (QP.assign rfl rfl).read ?_
        refine Sq.nil ?_
        refine hk12 _ _ ?_
        refine Run.ret ?_
        exact J.ends (res_tmp rfl rfl) (.cons (by repeat (first | exact Pick.head | apply Pick.tail)) (.cons (by repeat (first | exact Pick.head | apply Pick.tail)) Takes.nil)) ⟨by rw [decide_eq_false]; intro h; subst h; rw [hx] at hy; cases hy; exact c25 rfl, rfl⟩
      · skip
        refine Dw.nil (by kernel_rfl) ?_
        refine hk11 _ _ ?_
        refine Run.cond_f rfl ?_
        refine Run.skip ?_
        refine hk10 _ _ ?_
        refine Run.region ?_
        show Sq _ _ _ [0, 1, 2] _ _ _ _
        refine Sq.quiet (i := 0) rfl (Want.none rfl) rfl (ltN rfl) (QP.move rfl rfl).read ?_
        refine Sq.quiet (i := 1) rfl (Want.none rfl) rfl (ltN rfl) (QP.add64 rfl rfl rfl (by first | omega | (simp only [List.length_map, List.length_append, List.length_cons, List.length_nil, List.length_take, List.length_drop]; omega)) (by first | omega | (simp only [List.length_map, List.length_append, List.length_cons, List.length_nil, List.length_take, List.length_drop]; omega))).read ?_
        refine Sq.quiet (i := 2) rfl (Want.none rfl) rfl (ltN rfl) (QP.assign rfl rfl).read ?_
        refine Sq.nil ?_
        exact J.envJ (J.keep (.cons (by repeat (first | exact Pick.head | apply Pick.tail)) (.cons (by repeat (first | exact Pick.head | apply Pick.tail)) Takes.nil)) (hl7 (i + 1) (⟨by omega, hlen, by rw [List.take_add_one, List.take_add_one, heq, hx, hy, show x = y by simpa using c25]⟩) (by omega))) ⟨rfl, rfl, rfl, trivial⟩
    · skip
      refine Sq.nil ?_
      refine hk9 _ _ ?_
      refine Run.cond_f rfl ?_
      refine Run.exit rfl ?_
      refine hk5 _ _ ?_
      refine Run.seq fun k13 hk13 => ?_
      refine Run.region ?_
      show Sq _ _ _ [0] _ _ _ _
      refine Sq.quiet (i := 0) rfl (Want.none rfl) rfl (ltN rfl) (QP.assign rfl rfl).read ?_
      refine Sq.nil ?_
      refine hk13 _ _ ?_
      refine Run.ret ?_
      exact J.ends (res_tmp rfl rfl) (.cons (by repeat (first | exact Pick.head | apply Pick.tail)) (.cons (by repeat (first | exact Pick.head | apply Pick.tail)) Takes.nil)) ⟨by rw [decide_eq_true]; rw [List.take_of_length_le (by omega), List.take_of_length_le (by omega)] at heq; exact heq, rfl⟩

theorem cmpAt_spec (F : Fr) (x y : Pending) : Spec Try.prog 41 #[.agg (Pending.enc x).toArray, .agg (Pending.enc y).toArray] [] F (fun v S => v = .int .i64 (cmpF x.at_ y.at_) ∧ S = []) := by
  refine Spec.intro (N := 10) (args := [.agg (Pending.enc x).toArray, .agg (Pending.enc y).toArray]) Try.func41 rfl rfl (by simp) ?_
  refine Run.seq fun k1 hk1 => ?_
  refine Run.region ?_
  show Sq _ _ _ [0, 1, 2] _ _ _ _
  refine Sq.eff (i := 0) rfl (Want.none rfl) rfl (ltN rfl) (EF.boxA rfl rfl) ?_
  rintro _ _ ⟨b2, rfl, rfl⟩
  refine Sq.eff (i := 1) rfl (Want.none rfl) rfl (ltN rfl) (EF.boxA rfl rfl) ?_
  rintro _ _ ⟨b3, rfl, rfl⟩
  refine Sq.quiet (i := 2) rfl (Want.none rfl) rfl (ltN rfl) (QP.assign rfl rfl).read ?_
  refine Sq.nil ?_
  refine hk1 _ _ ?_
  refine Run.seq fun k2 hk2 => ?_
  refine Run.region ?_
  show Sq _ _ _ [0, 1, 2, 3, 4, 5] _ _ _ _
  refine Sq.quiet (i := 0) rfl (Want.none rfl) rfl (ltN rfl) (QP.fieldAddr rfl rfl f67_4).read ?_
  refine Sq.quiet (i := 1) rfl (Want.none rfl) rfl (ltN rfl) (QR.load1 rfl rfl g3 (Pending.sub_at_ _)) ?_
  refine Sq.quiet (i := 2) rfl (Want.none rfl) rfl (ltN rfl) (QP.fieldAddr rfl rfl f67_4).read ?_
  refine Sq.quiet (i := 3) rfl (Want.none rfl) rfl (ltN rfl) (QR.load1 rfl rfl g3 (Pending.sub_at_ _)) ?_
  refine Sq.eff (i := 4) rfl (Want.none rfl) rfl (ltN rfl) (EF.call rfl ce42 rfl Takes.nil (fun F' hle hr => cmpCompare_spec F' (x).at_ (y).at_)) ?_
  rintro _ _ ⟨_, ⟨rfl, rfl⟩, rfl⟩
  refine J.app ?_
  refine Sq.quiet (i := 5) rfl (Want.none rfl) rfl (ltN rfl) (QP.assign rfl rfl).read ?_
  refine Sq.nil ?_
  refine hk2 _ _ ?_
  refine Run.ret ?_
  exact J.ends (res_tmp rfl rfl) Takes.nil ⟨rfl, rfl⟩

theorem minfunc_spec (F : Fr) {a : Option Addr} {c : Nat} {xs : List Pending} (hh : SlH a c xs) (h0 : 0 < xs.length) (hl : xs.length ≤ 1000000) : Spec Try.prog 40 #[.slice a xs.length c, .func (.func 41) #[] #[]] [slA 67 45 Pending.enc (.slice a xs.length c) xs] F (fun v S => ∃ m : Pending, v = .agg m.enc.toArray ∧ NextIs xs m.at_ true ∧ S = [slA 67 45 Pending.enc (.slice a xs.length c) xs]) := by
  refine Spec.intro (N := 33) (args := [.slice a xs.length c, .func (.func 41) #[] #[]]) Try.func40 rfl rfl (by simp) ?_
  refine Run.seq fun k1 hk1 => ?_
  refine Run.region ?_
  show Sq _ _ _ [0] _ _ _ _
  refine Sq.eff (i := 0) rfl (Want.none rfl) rfl (ltN rfl) (EF.allocA (l := Pending.enc Pending.zero) rfl zero67) ?_
  rintro _ _ ⟨b4, rfl, rfl⟩
  refine Sq.nil ?_
  refine hk1 _ _ ?_
  refine Run.seq fun k2 hk2 => ?_
  refine Run.seq fun k3 hk3 => ?_
  refine Run.region ?_
  show Sq _ _ _ [0, 1, 2] _ _ _ _
  refine Sq.quiet (i := 0) rfl (Want.none rfl) rfl (ltN rfl) (QP.move rfl rfl).read ?_
  refine Sq.quiet (i := 1) rfl (Want.none rfl) rfl (ltN rfl) (QP.len rfl rfl rfl Try.underlying40).read ?_
  refine Sq.quiet (i := 2) rfl (Want.none rfl) rfl (ltN rfl) (QP.lss rfl rfl rfl).read ?_
  refine J.decF (by omega) ?_
  refine Sq.nil ?_
  refine hk3 _ _ ?_
  refine Run.cond_f rfl ?_
  refine Run.skip ?_
  refine hk2 _ _ ?_
  refine Run.seq fun k4 hk4 => ?_
  refine Run.region ?_
  show Sq _ _ _ [0, 1, 2, 3, 4] _ _ _ _
  obtain ⟨b0, o0, rfl⟩ := hh.get (by omega)
  obtain ⟨m0, hm0⟩ : ∃ x, xs[0]? = some x := ⟨_, List.getElem?_eq_getElem (by omega)⟩
  refine Sq.quiet (i := 0) rfl (Want.none rfl) rfl (ltN rfl) (QP.move rfl rfl).read ?_
  refine Sq.quiet (i := 1) rfl (Want.none rfl) rfl (ltN rfl) (QP.indexAddr rfl rfl rfl Try.underlying40 z67 (by omega) (by omega)).read ?_
  refine Sq.quiet (i := 2) rfl (Want.none rfl) rfl (ltN rfl) (QR.loadSl rfl rfl g67 Pending.enc_len (SlAt.own Pending.enc_len (by repeat (first | exact List.Mem.head _ | apply List.Mem.tail))) hm0) ?_
  refine Sq.eff (i := 3) rfl (Want.none rfl) rfl (ltN rfl) (EF.allocA (l := Pending.enc Pending.zero) rfl zero67) ?_
  rintro _ _ ⟨b5, rfl, rfl⟩
  refine Sq.act (i := 4) rfl (Want.none rfl) rfl (EF.storeA rfl rfl rfl z67 (SetL.all (Pending.enc_len _) (Pending.enc_len _)) (Pending.enc_cell _)) ?_
  rintro _ _ rfl
  refine Sq.nil ?_
  refine hk4 _ _ ?_
  refine Run.seq fun k5 hk5 => ?_
  refine Run.seq fun k6 hk6 => ?_
  refine Run.region ?_
  show Sq _ _ _ [0] _ _ _ _
  refine Sq.quiet (i := 0) rfl (Want.none rfl) rfl (ltN rfl) (QP.assign rfl rfl).read ?_
  refine Sq.nil ?_
  refine hk6 _ _ ?_
  refine Run.block ?_
  refine Run.loop2 (fun (i : Nat) (m : Pending) => 1 ≤ i ∧ i ≤ xs.length ∧ NextIs (xs.take i) m.at_ true) (fun i m => .cons 0 (.slice (some ⟨b0, o0, none⟩) xs.length c) (.cons 1 (.func (.func 41) #[] #[]) (.cons 4 (.pointer (some ⟨b4, 0, none⟩)) (.cons 5 (.pointer (some ⟨b5, 0, none⟩)) (.cons 6 (.int .i64 i) (.nil)))))) (fun i m => [slA 67 45 Pending.enc (.slice (some ⟨b0, o0, none⟩) xs.length c) xs, blk b4 (Pending.enc Pending.zero) 67, blk b5 (Pending.enc m) 67]) (fun i m => xs.length - i) (1) (m0) (⟨Nat.le_refl _, by omega, by rw [List.take_add_one, hm0]; exact .inr ⟨rfl, ⟨m0, by simp, rfl⟩, fun y hy => by simp at hy; subst hy; exact Int.le_refl _⟩⟩) ?_ ?_
  · exact fun _ j => J.envJ (J.keep (.cons (by repeat (first | exact Pick.head | apply Pick.tail)) (.cons (by repeat (first | exact Pick.head | apply Pick.tail)) (.cons (by repeat (first | exact Pick.head | apply Pick.tail)) Takes.nil))) j) ⟨rfl, rfl, rfl, rfl, rfl, trivial⟩
  rintro i m ⟨h1i, hile, hnx⟩ kl7 hl7
  refine Run.seq fun k8 hk8 => ?_
  refine Run.seq fun k9 hk9 => ?_
  refine Run.region ?_
  show Sq _ _ _ [0, 1, 2, 3] _ _ _ _
  refine Sq.quiet (i := 0) rfl (Want.none rfl) rfl (ltN rfl) (QP.move rfl rfl).read ?_
  refine Sq.quiet (i := 1) rfl (Want.none rfl) rfl (ltN rfl) (QP.move rfl rfl).read ?_
  refine Sq.quiet (i := 2) rfl (Want.none rfl) rfl (ltN rfl) (QP.len rfl rfl rfl Try.underlying40).read ?_
  refine Sq.quiet (i := 3) rfl (Want.none rfl) rfl (ltN rfl) (QP.lss rfl rfl rfl).read ?_
  refine J.caseD (fun c17 => ?_) (fun c17 => ?_)
  · skip
    refine Sq.nil ?_
    refine hk9 _ _ ?_
    refine Run.cond_t rfl ?_
    refine Run.skip ?_
    refine hk8 _ _ ?_
    refine Run.seq fun k10 hk10 => ?_
    refine Run.block ?_
    refine Run.seq fun k11 hk11 => ?_
    refine Run.regionD (M := [0, 0, 0, 6, 14, 0, 63, 127]) (q := 191) (r := 48) (by kernel_rfl) ?_
    obtain ⟨x, hi⟩ : ∃ x, xs[i]? = some x := ⟨_, List.getElem?_eq_getElem (by omega)⟩
    refine Dw.pure (i := 0) rfl (by kernel_rfl) (Want.none rfl) rfl (ltN rfl) (QP.move rfl rfl) ?_
    refine Dw.pure (i := 1) rfl (by kernel_rfl) (Want.none rfl) rfl (ltN rfl) (QP.move rfl rfl) ?_
    refine Dw.pure (i := 2) rfl (by kernel_rfl) (Want.none rfl) rfl (ltN rfl) (QP.move rfl rfl) ?_
    refine Dw.pure (i := 3) rfl (by kernel_rfl) (Want.none rfl) rfl (ltN rfl) (QP.indexAddr rfl rfl rfl Try.underlying40 z67 (by first | omega | (simp only [List.length_map, List.length_append, List.length_cons, List.length_nil, List.length_take, List.length_drop]; omega)) (by first | omega | (simp only [List.length_map, List.length_append, List.length_cons, List.length_nil, List.length_take, List.length_drop]; omega))) ?_
    refine Dw.read (i := 4) rfl (by kernel_rfl) (Want.none rfl) rfl (ltN rfl) (QR.loadSl rfl rfl g67 Pending.enc_len (SlAt.own Pending.enc_len (by repeat (first | exact List.Mem.head _ | apply List.Mem.tail))) hi) ?_
    refine Dw.read (i := 5) rfl (by kernel_rfl) (Want.none rfl) rfl (ltN rfl) (QR.load rfl rfl g67 (Pending.enc_sub _)) ?_
    refine Dw.eff (i := 6) (by kernel_rfl) (by kernel_rfl) ?_
    refine One.mk (o := _) (l := []) rfl (by kernel_rfl) (Want.none rfl) rfl (ltN rfl) (EF.callV rfl rfl ce41 rfl Takes.nil (fun F' hle hr => cmpAt_spec F' x m)) (by kernel_rfl) ?_
    rintro _ _ ⟨_, ⟨rfl, rfl⟩, rfl⟩
    refine ⟨fun _ h => (by cases h), ?_⟩
    refine J.app ?_
    refine Dw.pure (i := 7) rfl (by kernel_rfl) (Want.none rfl) rfl (ltN rfl) (QP.lss rfl rfl rfl) ?_
    refine J.caseD (fun c27 => ?_) (fun c27 => ?_)
    · skip
      refine Dw.nil (by kernel_rfl) ?_
      refine hk11 _ _ ?_
      refine Run.cond_t rfl ?_
      refine Run.region ?_
      show Sq _ _ _ [0, 1, 2, 3, 4] _ _ _ _
      refine Sq.quiet (i := 0) rfl (Want.none rfl) rfl (ltN rfl) (QP.move rfl rfl).read ?_
      refine Sq.quiet (i := 1) rfl (Want.none rfl) rfl (ltN rfl) (QP.move rfl rfl).read ?_
      refine Sq.quiet (i := 2) rfl (Want.none rfl) rfl (ltN rfl) (QP.indexAddr rfl rfl rfl Try.underlying40 z67 (by first | omega | (simp only [List.length_map, List.length_append, List.length_cons, List.length_nil, List.length_take, List.length_drop]; omega)) (by first | omega | (simp only [List.length_map, List.length_append, List.length_cons, List.length_nil, List.length_take, List.length_drop]; omega))).read ?_
      refine Sq.quiet (i := 3) rfl (Want.none rfl) rfl (ltN rfl) (QR.loadSl rfl rfl g67 Pending.enc_len (SlAt.own Pending.enc_len (by repeat (first | exact List.Mem.head _ | apply List.Mem.tail))) hi) ?_
      refine Sq.act (i := 4) rfl (Want.none rfl) rfl (EF.storeA rfl rfl rfl z67 (SetL.all (Pending.enc_len _) (Pending.enc_len _)) (Pending.enc_cell _)) ?_
      rintro _ _ rfl
      refine Sq.nil ?_
      refine hk10 _ _ ?_
      refine Run.region ?_
      show Sq _ _ _ [0, 1, 2] _ _ _ _
      refine Sq.quiet (i := 0) rfl (Want.none rfl) rfl (ltN rfl) (QP.move rfl rfl).read ?_
      refine Sq.quiet (i := 1) rfl (Want.none rfl) rfl (ltN rfl) (QP.add64 rfl rfl rfl (by first | omega | (simp only [List.length_map, List.length_append, List.length_cons, List.length_nil, List.length_take, List.length_drop]; omega)) (by first | omega | (simp only [List.length_map, List.length_append, List.length_cons, List.length_nil, List.length_take, List.length_drop]; omega))).read ?_
      refine Sq.quiet (i := 2) rfl (Want.none rfl) rfl (ltN rfl) (QP.assign rfl rfl).read ?_
      refine Sq.nil ?_
      exact J.envJ (J.keep (.cons (by repeat (first | exact Pick.head | apply Pick.tail)) (.cons (by repeat (first | exact Pick.head | apply Pick.tail)) (.cons (by repeat (first | exact Pick.head | apply Pick.tail)) Takes.nil))) (hl7 (i + 1) (x) (⟨by omega, by omega, hnx.less hi (.inr (by unfold cmpF at c27; split at c27; assumption; split at c27 <;> omega))⟩) (by omega))) ⟨rfl, rfl, rfl, rfl, rfl, trivial⟩
    · skip
      refine Dw.nil (by kernel_rfl) ?_
      refine hk11 _ _ ?_
      refine Run.cond_f rfl ?_
      refine Run.skip ?_
      refine hk10 _ _ ?_
      refine Run.region ?_
      show Sq _ _ _ [0, 1, 2] _ _ _ _
      refine Sq.quiet (i := 0) rfl (Want.none rfl) rfl (ltN rfl) (QP.move rfl rfl).read ?_
      refine Sq.quiet (i := 1) rfl (Want.none rfl) rfl (ltN rfl) (QP.add64 rfl rfl rfl (by first | omega | (simp only [List.length_map, List.length_append, List.length_cons, List.length_nil, List.length_take, List.length_drop]; omega)) (by first | omega | (simp only [List.length_map, List.length_append, List.length_cons, List.length_nil, List.length_take, List.length_drop]; omega))).read ?_
      refine Sq.quiet (i := 2) rfl (Want.none rfl) rfl (ltN rfl) (QP.assign rfl rfl).read ?_
      refine Sq.nil ?_
      exact J.envJ (J.keep (.cons (by repeat (first | exact Pick.head | apply Pick.tail)) (.cons (by repeat (first | exact Pick.head | apply Pick.tail)) (.cons (by repeat (first | exact Pick.head | apply Pick.tail)) Takes.nil))) (hl7 (i + 1) (m) (⟨by omega, by omega, hnx.keep hi (by unfold cmpF at c27; split at c27; omega; assumption)⟩) (by omega))) ⟨rfl, rfl, rfl, rfl, rfl, trivial⟩
  · skip
    refine Sq.nil ?_
    refine hk9 _ _ ?_
    refine Run.cond_f rfl ?_
    refine Run.exit rfl ?_
    refine hk5 _ _ ?_
    refine Run.seq fun k12 hk12 => ?_
    refine Run.region ?_
    show Sq _ _ _ [0, 1] _ _ _ _
    refine Sq.quiet (i := 0) rfl (Want.none rfl) rfl (ltN rfl) (QR.load rfl rfl g67 (Pending.enc_sub _)) ?_
    refine Sq.act (i := 1) rfl (Want.none rfl) rfl (EF.storeA rfl rfl rfl z67 (SetL.all (Pending.enc_len _) (Pending.enc_len _)) (Pending.enc_cell _)) ?_
    rintro _ _ rfl
    refine Sq.nil ?_
    refine hk12 _ _ ?_
    refine Run.ret ?_
    exact J.ends (res_cell rfl rfl g67 (Pending.enc_sub _)) (.cons (by repeat (first | exact Pick.head | apply Pick.tail)) Takes.nil) ⟨m, rfl, by rw [List.take_of_length_le (by omega)] at hnx; exact hnx, rfl⟩

theorem nextQ (F : Fr) {b r : Nat} {most : Int} {E : EntQ} (hf : InQ F b r most E) (hE : E.length ≤ 1000000)  : Spec Try.prog 24 #[.pointer (some ⟨b, 0, none⟩)] [mapQ r (ptrs E)] F (fun v S => ∃ ys, ys.Perm (E.map (·.2.2)) ∧ SortedQ ys ∧ ∃ n ok, v = .tuple #[.int .i64 n, .bool ok] ∧ NextIs ys n ok ∧ S = [mapQ r (ptrs E)]) := by
  refine Spec.intro (N := 13) (args := [.pointer (some ⟨b, 0, none⟩)]) Try.func24 rfl rfl (by simp) ?_
  refine Run.seq fun k1 hk1 => ?_
  refine Run.region ?_
  show Sq _ _ _ [0, 1] _ _ _ _
  refine Sq.quiet (i := 0) rfl (Want.none rfl) rfl (ltN rfl) (QP.assign rfl rfl).read ?_
  refine Sq.quiet (i := 1) rfl (Want.none rfl) rfl (ltN rfl) (QP.assign rfl rfl).read ?_
  refine Sq.nil ?_
  refine hk1 _ _ ?_
  refine Run.seq fun k2 hk2 => ?_
  refine Run.region ?_
  show Sq _ _ _ [0, 1, 2] _ _ _ _
  refine Sq.quiet (i := 0) rfl (Want.none rfl) rfl (ltN rfl) (QP.move rfl rfl).read ?_
  refine Sq.eff (i := 1) rfl (Want.none rfl) rfl (ltN rfl) (EF.call rfl ce13 rfl (.cons (by repeat (first | exact Pick.head | apply Pick.tail)) Takes.nil) (fun F' hle hr => listQ F' (hf.mono hle) hE)) ?_
  rintro v6 _ ⟨_, ⟨ys, hp, hs, rfl⟩, rfl⟩
  refine J.app ?_
  refine Sq.slCase (v := v6) (xs := ys) (by repeat (first | exact List.Mem.head _ | apply List.Mem.tail)) (fun a8 c8 hv8 hh8 => ?_)
  subst hv8
  have hyl : ys.length = E.length := by simpa using hp.length_eq
  refine Sq.quiet (i := 2) rfl (Want.none rfl) rfl (ltN rfl) (QP.assign rfl rfl).read ?_
  refine Sq.nil ?_
  refine hk2 _ _ ?_
  refine Run.seq fun k3 hk3 => ?_
  refine Run.seq fun k4 hk4 => ?_
  refine Run.region ?_
  show Sq _ _ _ [0, 1, 2] _ _ _ _
  refine Sq.quiet (i := 0) rfl (Want.none rfl) rfl (ltN rfl) (QP.move rfl rfl).read ?_
  refine Sq.quiet (i := 1) rfl (Want.none rfl) rfl (ltN rfl) (QP.len rfl rfl rfl Try.underlying40).read ?_
  refine Sq.quiet (i := 2) rfl (Want.none rfl) rfl (ltN rfl) (QP.eql rfl rfl rfl).read ?_
  refine J.caseD (fun c9 => ?_) (fun c9 => ?_)
  · skip
    refine Sq.nil ?_
    refine hk4 _ _ ?_
    refine Run.cond_t rfl ?_
    refine Run.seq fun k5 hk5 => ?_
    refine Run.region ?_
    show Sq _ _ _ [0, 1] _ _ _ _
    refine Sq.quiet (i := 0) rfl (Want.none rfl) rfl (ltN rfl) (QP.assign rfl rfl).read ?_
    refine Sq.quiet (i := 1) rfl (Want.none rfl) rfl (ltN rfl) (QP.assign rfl rfl).read ?_
    refine Sq.nil ?_
    refine hk5 _ _ ?_
    refine Run.ret ?_
    exact J.ends (res_tmp2 rfl rfl rfl) (.cons (by repeat (first | exact Pick.head | apply Pick.tail)) Takes.nil) ⟨ys, hp, hs, 0, false, rfl, .inl ⟨List.eq_nil_of_length_eq_zero (by omega), rfl, rfl⟩, rfl⟩
  · skip
    refine Sq.nil ?_
    refine hk4 _ _ ?_
    refine Run.cond_f rfl ?_
    refine Run.skip ?_
    refine hk3 _ _ ?_
    refine Run.seq fun k6 hk6 => ?_
    refine Run.region ?_
    show Sq _ _ _ [0, 1, 2, 3, 4] _ _ _ _
    refine Sq.quiet (i := 0) rfl (Want.none rfl) rfl (ltN rfl) (QP.move rfl rfl).read ?_
    refine Sq.eff (i := 1) rfl (Want.none rfl) rfl (ltN rfl) (EF.call rfl ce40 rfl (.cons (by repeat (first | exact Pick.head | apply Pick.tail)) Takes.nil) (fun F' hle hr => minfunc_spec F' hh8 (by omega) (by omega))) ?_
    rintro _ _ ⟨_, ⟨m, rfl, hnx, rfl⟩, rfl⟩
    refine J.app ?_
    refine Sq.quiet (i := 2) rfl (Want.none rfl) rfl (ltN rfl) (QP.field1 rfl rfl Try.underlying67 rfl rfl g3 (Pending.sub_at_ _)).read ?_
    refine Sq.quiet (i := 3) rfl (Want.none rfl) rfl (ltN rfl) (QP.assign rfl rfl).read ?_
    refine Sq.quiet (i := 4) rfl (Want.none rfl) rfl (ltN rfl) (QP.assign rfl rfl).read ?_
    refine Sq.nil ?_
    refine hk6 _ _ ?_
    refine Run.ret ?_
    exact J.ends (res_tmp2 rfl rfl rfl) (.cons (by repeat (first | exact Pick.head | apply Pick.tail)) Takes.nil) ⟨ys, hp, hs, _, _, rfl, hnx, rfl⟩
end Slb
