/- T6: a part of the proof that a law of this package holds for every input; no condition. -/
import Derived.Test.YtakpmaoblkhikaaT5
namespace Slb
open Go Go.Proofs
set_option maxRecDepth 20000
abbrev strE (s : Str) : Value := .string s.val
@[reducible] def mapS (r : Nat) (M : TabS) : HProp := mapT strE pv r M
abbrev fp (b : Nat) : Value := .pointer (some ⟨b, 0, none⟩)
theorem QI.size {es : List Ent} {M : TabS} {L : List Due} (h : QI es M L) {d : Due} (hd : d ∈ L) : d.name.size ≤ maxLen := by
  obtain ⟨e, he, rfl⟩ := List.mem_map.1 (h.perm.subset hd)
  obtain ⟨m, hm, h2⟩ := List.mem_map.1 (h.map.symm.subset (List.mem_map.2 ⟨e, he, rfl⟩))
  simp only [nameB, Prod.mk.injEq] at h2
  rw [← h2.1]; exact m.1.property
/-- The queue lies in the frame. -/
structure InQ (F : Fr) (b r : Nat) (a : Option Addr) (c : Nat) (es : List Ent) : Prop where
  tb : F.h b = some (.cells (TimerQueue.enc ⟨⟨a, (bsOf es).length, c⟩, some r⟩).toArray 63 (0, 0))
  ar : ArgSl F a 1 pvN (bsOf es)
  row : ∀ e ∈ es, F.h e.1 = some (.cells (TimerOne.enc e.2).toArray 67 (0, 0))
theorem InQ.mono {F F' : Fr} {b r : Nat} {a : Option Addr} {c : Nat} {es : List Ent} (h : InQ F b r a c es) (hle : PH.le F.h F'.h) : InQ F' b r a c es := ⟨hle _ _ h.tb, h.ar.mono hle, fun e he => hle _ _ (h.row e he)⟩
theorem Spec.qread {f : FuncId} {args : Array Value} {F : Fr} {b r : Nat} {a : Option Addr} {c : Nat} {es : List Ent} {M : TabS} {R : Value → List HProp → Prop}
    (h : ∀ F' : Fr, PH.le F.h F'.h → InQ F' b r a c es → Spec Try.prog f args [mapS r M] F' fun v S => ∃ T, R v T ∧ S = mapS r M :: T) : Spec Try.prog f args [qB b r a c es, arrA a c es, rowsT es, mapS r M] F fun v S => ∃ T, R v T ∧ S = [qB b r a c es, arrA a c es, rowsT es, mapS r M] ++ T := by
  have hp : ([qB b r a c es, arrA a c es, rowsT es, mapS r M] : List HProp).Perm (arrA a c es :: ([rowsT es, mapS r M, qB b r a c es])) := by
    refine (List.Perm.swap _ _ _).trans (List.Perm.cons _ ?_)
    exact (List.perm_append_comm (l₁ := [qB b r a c es]) (l₂ := [rowsT es, mapS r M]))
  refine Spec.perm hp (Spec.post (Spec.lendSl (m := [rowsT es, mapS r M, qB b r a c es]) (xs := bsOf es) (R := fun v S' => ∃ T, R v T ∧ S' = rowsT es :: ((mapS r M :: T) ++ [qB b r a c es])) (fun _ => rfl) fun F1 hle1 ha => Spec.mono (Spec.lendRows (m := [mapS r M] ++ [qB b r a c es]) (R := fun v S' => ∃ T, R v T ∧ S' = (mapS r M :: T) ++ [qB b r a c es]) fun F2 hle2 hr => Spec.mono (Spec.lend (m := [mapS r M]) (r := [qB b r a c es]) fun F3 hle3 hr3 => h F3 (fun p q hq => hle3 _ _ (hle2 _ _ (hle1 _ _ hq))) ⟨hr3 _ _ List.mem_cons_self, (ha.mono hle2).mono hle3, fun e he => hle3 _ _ (hr e he)⟩) ?_) ?_) ?_)
  · rintro v S ⟨S1, ⟨T, h1, rfl⟩, rfl⟩; exact ⟨T, h1, rfl⟩
  · rintro v S ⟨S1, ⟨T, h1, rfl⟩, rfl⟩; exact ⟨T, h1, rfl⟩
  · rintro v S1 w ⟨S2, ⟨T, h1, rfl⟩, rfl⟩ s
    refine ⟨_, ⟨T, h1, rfl⟩, s.perm ?_⟩
    have e1 : (arrA a c es :: rowsT es :: ((mapS r M :: T) ++ [qB b r a c es])).Perm (qB b r a c es :: (arrA a c es :: rowsT es :: mapS r M :: T)) := by
      have := (List.perm_append_comm (l₁ := arrA a c es :: rowsT es :: mapS r M :: T) (l₂ := [qB b r a c es]))
      exact this
    exact e1

theorem qlen_nil (F : Fr)  : Spec Try.prog 13 #[.pointer none] [] F (fun v S => v = .int .i64 0 ∧ S = []) := by
 refine Spec.intro (N := 10) (args := [.pointer none]) Try.func13 rfl rfl (by simp) ?_
 refine Run.seq fun k1 hk1 => ?_
 refine Run.region ?_
 show Sq _ _ _ [0] _ _ _ _
 refine Sq.quiet (i := 0) rfl (Want.none rfl) rfl (ltN rfl) (QP.assign rfl rfl).read ?_
 refine Sq.nil ?_
 refine hk1 _ _ ?_
 refine Run.seq fun k2 hk2 => ?_
 refine Run.seq fun k3 hk3 => ?_
 refine Run.region ?_
 show Sq _ _ _ [0, 1] _ _ _ _
 refine Sq.quiet (i := 0) rfl (Want.none rfl) rfl (ltN rfl) (QP.move rfl rfl).read ?_
 refine Sq.quiet (i := 1) rfl (Want.none rfl) rfl (ltN rfl) (QP.ptr_eq_nil rfl rfl rfl Try.underlying23).read ?_
 refine Sq.nil ?_
 refine hk3 _ _ ?_
 refine Run.cond_t rfl ?_
 refine Run.seq fun k4 hk4 => ?_
 refine Run.region ?_
 show Sq _ _ _ [0] _ _ _ _
 refine Sq.quiet (i := 0) rfl (Want.none rfl) rfl (ltN rfl) (QP.assign rfl rfl).read ?_
 refine Sq.nil ?_
 refine hk4 _ _ ?_
 refine Run.ret ?_
 exact J.ends (res_tmp rfl rfl) Takes.nil ⟨rfl, rfl⟩

theorem qlen_spec (F : Fr) {b r : Nat} {a : Option Addr} {c : Nat} {es : List Ent} (hf : InQ F b r a c es)  : Spec Try.prog 13 #[fp b] [] F (fun v S => v = .int .i64 (bsOf es).length ∧ S = []) := by
 refine Spec.intro (N := 10) (args := [fp b]) Try.func13 rfl rfl (by simp) ?_
 refine Run.seq fun k1 hk1 => ?_
 refine Run.region ?_
 show Sq _ _ _ [0] _ _ _ _
 refine Sq.quiet (i := 0) rfl (Want.none rfl) rfl (ltN rfl) (QP.assign rfl rfl).read ?_
 refine Sq.nil ?_
 refine hk1 _ _ ?_
 refine Run.seq fun k2 hk2 => ?_
 refine Run.seq fun k3 hk3 => ?_
 refine Run.region ?_
 show Sq _ _ _ [0, 1] _ _ _ _
 refine Sq.quiet (i := 0) rfl (Want.none rfl) rfl (ltN rfl) (QP.move rfl rfl).read ?_
 refine Sq.quiet (i := 1) rfl (Want.none rfl) rfl (ltN rfl) (QP.ptr_eq_nil rfl rfl rfl Try.underlying23).read ?_
 refine Sq.nil ?_
 refine hk3 _ _ ?_
 refine Run.cond_f rfl ?_
 refine Run.skip ?_
 refine hk2 _ _ ?_
 refine Run.seq fun k4 hk4 => ?_
 refine Run.region ?_
 show Sq _ _ _ [0, 1, 2, 3, 4, 5] _ _ _ _
 refine Sq.quiet (i := 0) rfl (Want.none rfl) rfl (ltN rfl) (QP.move rfl rfl).read ?_
 refine Sq.quiet (i := 1) rfl (Want.none rfl) rfl (ltN rfl) (QP.nilCheck rfl rfl).read ?_
 refine Sq.quiet (i := 2) rfl (Want.none rfl) rfl (ltN rfl) (QP.fieldAddr rfl rfl f63_0).read ?_
 refine Sq.quiet (i := 3) rfl (Want.none rfl) rfl (ltN rfl) (QR.load1F rfl rfl g61 hf.tb (TimerQueue.sub_row _)) ?_
 refine Sq.quiet (i := 4) rfl (Want.none rfl) rfl (ltN rfl) (QP.len rfl rfl rfl Try.underlying61).read ?_
 refine Sq.quiet (i := 5) rfl (Want.none rfl) rfl (ltN rfl) (QP.assign rfl rfl).read ?_
 refine Sq.nil ?_
 refine hk4 _ _ ?_
 refine Run.ret ?_
 exact J.ends (res_tmp rfl rfl) Takes.nil ⟨rfl, rfl⟩

theorem at_nilS (F : Fr) (s : ByteArray) : Spec Try.prog 15 #[.pointer none, .string s] [] F (fun v S => v = .tuple #[.int .i64 0, .bool false] ∧ S = []) := by
 refine Spec.intro (N := 27) (args := [.pointer none, .string s]) Try.func15 rfl rfl (by simp) ?_
 refine Run.seq fun k1 hk1 => ?_
 refine Run.region ?_
 show Sq _ _ _ [0, 1] _ _ _ _
 refine Sq.quiet (i := 0) rfl (Want.none rfl) rfl (ltN rfl) (QP.assign rfl rfl).read ?_
 refine Sq.quiet (i := 1) rfl (Want.none rfl) rfl (ltN rfl) (QP.assign rfl rfl).read ?_
 refine Sq.nil ?_
 refine hk1 _ _ ?_
 refine Run.seq fun k2 hk2 => ?_
 refine Run.seq fun k3 hk3 => ?_
 refine Run.region ?_
 show Sq _ _ _ [0, 1, 2, 3, 4, 5, 6, 7, 8, 9, 10] _ _ _ _
 refine Sq.quiet (i := 0) rfl (Want.none rfl) rfl (ltN rfl) (QP.move rfl rfl).read ?_
 refine Sq.quiet (i := 1) rfl (Want.none rfl) rfl (ltN rfl) (QP.ptr_eq_nil rfl rfl rfl Try.underlying23).read ?_
 refine Sq.quiet (i := 2) rfl (Want.none rfl) rfl (ltN rfl) (QP.move rfl rfl).read ?_
 refine Sq.skip (i := 3) rfl (Want.no rfl rfl rfl rfl) rfl (ltN rfl) ?_
 refine Sq.skip (i := 4) rfl (Want.no rfl rfl rfl rfl) rfl (ltN rfl) ?_
 refine Sq.skip (i := 5) rfl (Want.no rfl rfl rfl rfl) rfl (ltN rfl) ?_
 refine Sq.skip (i := 6) rfl (Want.no rfl rfl rfl rfl) rfl (ltN rfl) ?_
 refine Sq.skip (i := 7) rfl (Want.no rfl rfl rfl rfl) rfl (ltN rfl) ?_
 refine Sq.skip (i := 8) rfl (Want.no rfl rfl rfl rfl) rfl (ltN rfl) ?_
 refine Sq.skip (i := 9) rfl (Want.no rfl rfl rfl rfl) rfl (ltN rfl) ?_
 refine Sq.quiet (i := 10) rfl (Want.none rfl) rfl (ltN rfl) (QP.pick_t rfl rfl rfl).read ?_
 refine Sq.nil ?_
 refine hk3 _ _ ?_
 refine Run.cond_t rfl ?_
 refine Run.seq fun k4 hk4 => ?_
 refine Run.region ?_
 show Sq _ _ _ [0, 1] _ _ _ _
 refine Sq.quiet (i := 0) rfl (Want.none rfl) rfl (ltN rfl) (QP.assign rfl rfl).read ?_
 refine Sq.quiet (i := 1) rfl (Want.none rfl) rfl (ltN rfl) (QP.assign rfl rfl).read ?_
 refine Sq.nil ?_
 refine hk4 _ _ ?_
 refine Run.ret ?_
 exact J.ends (res_tmp2 rfl rfl rfl) Takes.nil ⟨rfl, rfl⟩

theorem at_none0 (F : Fr) {b r : Nat} {a : Option Addr} {c : Nat} {es : List Ent} {M : TabS} (hf : InQ F b r a c es) (k : Str) (hl : alook M k = none) : Spec Try.prog 15 #[fp b, .string k.val] [mapS r M] F (fun v S => v = .tuple #[.int .i64 0, .bool false] ∧ S = [mapS r M]) := by
 refine Spec.intro (N := 27) (args := [fp b, .string k.val]) Try.func15 rfl rfl (by simp) ?_
 refine Run.seq fun k1 hk1 => ?_
 refine Run.region ?_
 show Sq _ _ _ [0, 1] _ _ _ _
 refine Sq.quiet (i := 0) rfl (Want.none rfl) rfl (ltN rfl) (QP.assign rfl rfl).read ?_
 refine Sq.quiet (i := 1) rfl (Want.none rfl) rfl (ltN rfl) (QP.assign rfl rfl).read ?_
 refine Sq.nil ?_
 refine hk1 _ _ ?_
 refine Run.seq fun k2 hk2 => ?_
 refine Run.seq fun k3 hk3 => ?_
 refine Run.region ?_
 show Sq _ _ _ [0, 1, 2, 3, 4, 5, 6, 7, 8, 9, 10] _ _ _ _
 refine Sq.quiet (i := 0) rfl (Want.none rfl) rfl (ltN rfl) (QP.move rfl rfl).read ?_
 refine Sq.quiet (i := 1) rfl (Want.none rfl) rfl (ltN rfl) (QP.ptr_eq_nil rfl rfl rfl Try.underlying23).read ?_
 refine Sq.quiet (i := 2) rfl (Want.none rfl) rfl (ltN rfl) (QP.move rfl rfl).read ?_
 refine Sq.quiet (i := 3) rfl (Want.yes rfl rfl rfl rfl) rfl (ltN rfl) (QP.move rfl rfl).read ?_
 refine Sq.quiet (i := 4) rfl (Want.yes rfl rfl rfl rfl) rfl (ltN rfl) (QP.nilCheck rfl rfl).read ?_
 refine Sq.quiet (i := 5) rfl (Want.yes rfl rfl rfl rfl) rfl (ltN rfl) (QP.fieldAddr rfl rfl f63_1).read ?_
 refine Sq.quiet (i := 6) rfl (Want.yes rfl rfl rfl rfl) rfl (ltN rfl) (QR.load1F rfl rfl g59 hf.tb (TimerQueue.sub_by_ _)) ?_
 refine Sq.quiet (i := 7) rfl (Want.yes rfl rfl rfl rfl) rfl (ltN rfl) (QP.move rfl rfl).read ?_
 refine Sq.quiet (i := 8) rfl (Want.yes rfl rfl rfl rfl) rfl (ltN rfl) (QR.lookupNone key9 rfl rfl rfl Try.underlying59 zero64 hl) ?_
 refine Sq.quiet (i := 9) rfl (Want.yes rfl rfl rfl rfl) rfl (ltN rfl) (QP.ptr_eq_nil rfl rfl rfl Try.underlying64).read ?_
 refine Sq.quiet (i := 10) rfl (Want.none rfl) rfl (ltN rfl) (QP.pick_f rfl rfl rfl).read ?_
 refine Sq.nil ?_
 refine hk3 _ _ ?_
 refine Run.cond_t rfl ?_
 refine Run.seq fun k4 hk4 => ?_
 refine Run.region ?_
 show Sq _ _ _ [0, 1] _ _ _ _
 refine Sq.quiet (i := 0) rfl (Want.none rfl) rfl (ltN rfl) (QP.assign rfl rfl).read ?_
 refine Sq.quiet (i := 1) rfl (Want.none rfl) rfl (ltN rfl) (QP.assign rfl rfl).read ?_
 refine Sq.nil ?_
 refine hk4 _ _ ?_
 refine Run.ret ?_
 exact J.ends (res_tmp2 rfl rfl rfl) (.cons (by repeat constructor) Takes.nil) ⟨rfl, rfl⟩

theorem at_some0 (F : Fr) {b r : Nat} {a : Option Addr} {c : Nat} {es : List Ent} {M : TabS} (hf : InQ F b r a c es) (k : Str) {e : Ent} (he : e ∈ es) (hl : alook M k = some e.1) : Spec Try.prog 15 #[fp b, .string k.val] [mapS r M] F (fun v S => v = .tuple #[.int .i64 e.2.due.at_, .bool true] ∧ S = [mapS r M]) := by
 have hrow := hf.row e he
 refine Spec.intro (N := 27) (args := [fp b, .string k.val]) Try.func15 rfl rfl (by simp) ?_
 refine Run.seq fun k1 hk1 => ?_
 refine Run.region ?_
 show Sq _ _ _ [0, 1] _ _ _ _
 refine Sq.quiet (i := 0) rfl (Want.none rfl) rfl (ltN rfl) (QP.assign rfl rfl).read ?_
 refine Sq.quiet (i := 1) rfl (Want.none rfl) rfl (ltN rfl) (QP.assign rfl rfl).read ?_
 refine Sq.nil ?_
 refine hk1 _ _ ?_
 refine Run.seq fun k2 hk2 => ?_
 refine Run.seq fun k3 hk3 => ?_
 refine Run.region ?_
 show Sq _ _ _ [0, 1, 2, 3, 4, 5, 6, 7, 8, 9, 10] _ _ _ _
 refine Sq.quiet (i := 0) rfl (Want.none rfl) rfl (ltN rfl) (QP.move rfl rfl).read ?_
 refine Sq.quiet (i := 1) rfl (Want.none rfl) rfl (ltN rfl) (QP.ptr_eq_nil rfl rfl rfl Try.underlying23).read ?_
 refine Sq.quiet (i := 2) rfl (Want.none rfl) rfl (ltN rfl) (QP.move rfl rfl).read ?_
 refine Sq.quiet (i := 3) rfl (Want.yes rfl rfl rfl rfl) rfl (ltN rfl) (QP.move rfl rfl).read ?_
 refine Sq.quiet (i := 4) rfl (Want.yes rfl rfl rfl rfl) rfl (ltN rfl) (QP.nilCheck rfl rfl).read ?_
 refine Sq.quiet (i := 5) rfl (Want.yes rfl rfl rfl rfl) rfl (ltN rfl) (QP.fieldAddr rfl rfl f63_1).read ?_
 refine Sq.quiet (i := 6) rfl (Want.yes rfl rfl rfl rfl) rfl (ltN rfl) (QR.load1F rfl rfl g59 hf.tb (TimerQueue.sub_by_ _)) ?_
 refine Sq.quiet (i := 7) rfl (Want.yes rfl rfl rfl rfl) rfl (ltN rfl) (QP.move rfl rfl).read ?_
 refine Sq.quiet (i := 8) rfl (Want.yes rfl rfl rfl rfl) rfl (ltN rfl) (QR.lookupSome key9 rfl rfl rfl Try.underlying59 zero64 hl) ?_
 refine Sq.quiet (i := 9) rfl (Want.yes rfl rfl rfl rfl) rfl (ltN rfl) (QP.ptr_eq_nil rfl rfl rfl Try.underlying64).read ?_
 refine Sq.quiet (i := 10) rfl (Want.none rfl) rfl (ltN rfl) (QP.pick_f rfl rfl rfl).read ?_
 refine Sq.nil ?_
 refine hk3 _ _ ?_
 refine Run.cond_f rfl ?_
 refine Run.skip ?_
 refine hk2 _ _ ?_
 refine Run.seq fun k4 hk4 => ?_
 refine Run.region ?_
 show Sq _ _ _ [0, 1, 2, 3, 4, 5, 6, 7, 8, 9, 10, 11] _ _ _ _
 refine Sq.quiet (i := 0) rfl (Want.none rfl) rfl (ltN rfl) (QP.move rfl rfl).read ?_
 refine Sq.quiet (i := 1) rfl (Want.none rfl) rfl (ltN rfl) (QP.nilCheck rfl rfl).read ?_
 refine Sq.quiet (i := 2) rfl (Want.none rfl) rfl (ltN rfl) (QP.fieldAddr rfl rfl f63_1).read ?_
 refine Sq.quiet (i := 3) rfl (Want.none rfl) rfl (ltN rfl) (QR.load1F rfl rfl g59 hf.tb (TimerQueue.sub_by_ _)) ?_
 refine Sq.quiet (i := 4) rfl (Want.none rfl) rfl (ltN rfl) (QP.move rfl rfl).read ?_
 refine Sq.quiet (i := 5) rfl (Want.none rfl) rfl (ltN rfl) (QR.lookupSome key9 rfl rfl rfl Try.underlying59 zero64 hl) ?_
 refine Sq.quiet (i := 6) rfl (Want.none rfl) rfl (ltN rfl) (QP.nilCheck rfl rfl).read ?_
 refine Sq.quiet (i := 7) rfl (Want.none rfl) rfl (ltN rfl) (QP.fieldAddr rfl rfl f67_0).read ?_
 refine Sq.quiet (i := 8) rfl (Want.none rfl) rfl (ltN rfl) (QP.fieldAddr rfl rfl f40_1).read ?_
 refine Sq.quiet (i := 9) rfl (Want.none rfl) rfl (ltN rfl) (QR.load1F rfl rfl g3 hrow ((TimerOne.sub_due _).trans (Due.sub_at_ _))) ?_
 refine Sq.quiet (i := 10) rfl (Want.none rfl) rfl (ltN rfl) (QP.assign rfl rfl).read ?_
 refine Sq.quiet (i := 11) rfl (Want.none rfl) rfl (ltN rfl) (QP.assign rfl rfl).read ?_
 refine Sq.nil ?_
 refine hk4 _ _ ?_
 refine Run.ret ?_
 exact J.ends (res_tmp2 rfl rfl rfl) (.cons (by repeat constructor) Takes.nil) ⟨rfl, rfl⟩

theorem next_nil (F : Fr)  : Spec Try.prog 25 #[.pointer none] [] F (fun v S => v = .tuple #[.agg (Due.enc Due.zero).toArray, .bool false] ∧ S = []) := by
 refine Spec.intro (N := 17) (args := [.pointer none]) Try.func25 rfl rfl (by simp) ?_
 refine Run.seq fun k1 hk1 => ?_
 refine Run.region ?_
 show Sq _ _ _ [0, 1] _ _ _ _
 refine Sq.eff (i := 0) rfl (Want.none rfl) rfl (ltN rfl) (EF.allocA (l := Due.enc Due.zero) rfl zero40) ?_
 rintro _ _ ⟨b2, rfl, rfl⟩
 refine Sq.quiet (i := 1) rfl (Want.none rfl) rfl (ltN rfl) (QP.assign rfl rfl).read ?_
 refine Sq.nil ?_
 refine hk1 _ _ ?_
 refine Run.seq fun k2 hk2 => ?_
 refine Run.seq fun k3 hk3 => ?_
 refine Run.region ?_
 show Sq _ _ _ [0, 1, 2] _ _ _ _
 refine Sq.quiet (i := 0) rfl (Want.none rfl) rfl (ltN rfl) (QP.move rfl rfl).read ?_
 refine Sq.eff (i := 1) rfl (Want.none rfl) rfl (ltN rfl) (EF.call rfl ce13 rfl Takes.nil (fun F' hle hr => qlen_nil F')) ?_
 rintro _ _ ⟨_, ⟨rfl, rfl⟩, rfl⟩
 refine J.app ?_
 refine Sq.quiet (i := 2) rfl (Want.none rfl) rfl (ltN rfl) (QP.eql rfl rfl rfl).read ?_
 refine Sq.nil ?_
 refine hk3 _ _ ?_
 refine Run.cond_t rfl ?_
 refine Run.seq fun k4 hk4 => ?_
 refine Run.region ?_
 show Sq _ _ _ [0, 1, 2] _ _ _ _
 refine Sq.quiet (i := 0) rfl (Want.none rfl) rfl (ltN rfl) (QP.build (l := Due.enc Due.zero) rfl st40 rfl (by exact trivial) rfl).read ?_
 refine Sq.act (i := 1) rfl (Want.none rfl) rfl (EF.storeA rfl rfl rfl z40 (SetL.all (Due.enc_len _) (Due.enc_len _)) (Due.enc_cell _)) ?_
 rintro _ _ rfl
 refine Sq.quiet (i := 2) rfl (Want.none rfl) rfl (ltN rfl) (QP.assign rfl rfl).read ?_
 refine Sq.nil ?_
 refine hk4 _ _ ?_
 refine Run.ret ?_
 exact J.ends (res_cell2 rfl rfl g40 (Due.enc_sub _) rfl) Takes.nil ⟨rfl, rfl⟩

theorem next_none (F : Fr) {b r : Nat} {a : Option Addr} {c : Nat} (hf : InQ F b r a c []) : Spec Try.prog 25 #[fp b] [] F (fun v S => v = .tuple #[.agg (Due.enc Due.zero).toArray, .bool false] ∧ S = []) := by
 refine Spec.intro (N := 17) (args := [fp b]) Try.func25 rfl rfl (by simp) ?_
 refine Run.seq fun k1 hk1 => ?_
 refine Run.region ?_
 show Sq _ _ _ [0, 1] _ _ _ _
 refine Sq.eff (i := 0) rfl (Want.none rfl) rfl (ltN rfl) (EF.allocA (l := Due.enc Due.zero) rfl zero40) ?_
 rintro _ _ ⟨b2, rfl, rfl⟩
 refine Sq.quiet (i := 1) rfl (Want.none rfl) rfl (ltN rfl) (QP.assign rfl rfl).read ?_
 refine Sq.nil ?_
 refine hk1 _ _ ?_
 refine Run.seq fun k2 hk2 => ?_
 refine Run.seq fun k3 hk3 => ?_
 refine Run.region ?_
 show Sq _ _ _ [0, 1, 2] _ _ _ _
 refine Sq.quiet (i := 0) rfl (Want.none rfl) rfl (ltN rfl) (QP.move rfl rfl).read ?_
 refine Sq.eff (i := 1) rfl (Want.none rfl) rfl (ltN rfl) (EF.call rfl ce13 rfl Takes.nil (fun F' hle hr => qlen_spec F' (hf.mono hle))) ?_
 rintro _ _ ⟨_, ⟨rfl, rfl⟩, rfl⟩
 refine J.app ?_
 refine Sq.quiet (i := 2) rfl (Want.none rfl) rfl (ltN rfl) (QP.eql rfl rfl rfl).read ?_
 refine J.decT (rfl) ?_
 refine Sq.nil ?_
 refine hk3 _ _ ?_
 refine Run.cond_t rfl ?_
 refine Run.seq fun k4 hk4 => ?_
 refine Run.region ?_
 show Sq _ _ _ [0, 1, 2] _ _ _ _
 refine Sq.quiet (i := 0) rfl (Want.none rfl) rfl (ltN rfl) (QP.build (l := Due.enc Due.zero) rfl st40 rfl (by exact trivial) rfl).read ?_
 refine Sq.act (i := 1) rfl (Want.none rfl) rfl (EF.storeA rfl rfl rfl z40 (SetL.all (Due.enc_len _) (Due.enc_len _)) (Due.enc_cell _)) ?_
 rintro _ _ rfl
 refine Sq.quiet (i := 2) rfl (Want.none rfl) rfl (ltN rfl) (QP.assign rfl rfl).read ?_
 refine Sq.nil ?_
 refine hk4 _ _ ?_
 refine Run.ret ?_
 exact J.ends (res_cell2 rfl rfl g40 (Due.enc_sub _) rfl) Takes.nil ⟨rfl, rfl⟩

theorem next_some (F : Fr) {b r : Nat} {a : Option Addr} {c : Nat} {es : List Ent} (hf : InQ F b r a c es) {e : Ent} (he : es[0]? = some e) : Spec Try.prog 25 #[fp b] [] F (fun v S => v = .tuple #[.agg (Due.enc e.2.due).toArray, .bool true] ∧ S = []) := by
 have hrow := hf.row e (List.mem_of_getElem? he)
 have hx0 : (bsOf es)[Int.toNat 0]? = some e.1 := bs_get he
 have hlen := (List.getElem?_eq_some_iff.1 he).1
 have hbl := bs_len es
 refine Spec.intro (N := 17) (args := [fp b]) Try.func25 rfl rfl (by simp) ?_
 refine Run.seq fun k1 hk1 => ?_
 refine Run.region ?_
 show Sq _ _ _ [0, 1] _ _ _ _
 refine Sq.eff (i := 0) rfl (Want.none rfl) rfl (ltN rfl) (EF.allocA (l := Due.enc Due.zero) rfl zero40) ?_
 rintro _ _ ⟨b2, rfl, rfl⟩
 refine Sq.quiet (i := 1) rfl (Want.none rfl) rfl (ltN rfl) (QP.assign rfl rfl).read ?_
 refine Sq.nil ?_
 refine hk1 _ _ ?_
 refine Run.seq fun k2 hk2 => ?_
 refine Run.seq fun k3 hk3 => ?_
 refine Run.region ?_
 show Sq _ _ _ [0, 1, 2] _ _ _ _
 refine Sq.quiet (i := 0) rfl (Want.none rfl) rfl (ltN rfl) (QP.move rfl rfl).read ?_
 refine Sq.eff (i := 1) rfl (Want.none rfl) rfl (ltN rfl) (EF.call rfl ce13 rfl Takes.nil (fun F' hle hr => qlen_spec F' (hf.mono hle))) ?_
 rintro _ _ ⟨_, ⟨rfl, rfl⟩, rfl⟩
 refine J.app ?_
 refine Sq.quiet (i := 2) rfl (Want.none rfl) rfl (ltN rfl) (QP.eql rfl rfl rfl).read ?_
 refine J.decF (by omega) ?_
 refine Sq.nil ?_
 refine hk3 _ _ ?_
 refine Run.cond_f rfl ?_
 refine Run.skip ?_
 refine hk2 _ _ ?_
 refine Run.seq fun k4 hk4 => ?_
 refine Run.region ?_
 show Sq _ _ _ [0, 1, 2, 3, 4, 5, 6, 7, 8, 9, 10] _ _ _ _
 obtain ⟨b0, o0, hae, hs0⟩ := hf.ar.get (by omega)
 subst hae
 refine Sq.quiet (i := 0) rfl (Want.none rfl) rfl (ltN rfl) (QP.move rfl rfl).read ?_
 refine Sq.quiet (i := 1) rfl (Want.none rfl) rfl (ltN rfl) (QP.nilCheck rfl rfl).read ?_
 refine Sq.quiet (i := 2) rfl (Want.none rfl) rfl (ltN rfl) (QP.fieldAddr rfl rfl f63_0).read ?_
 refine Sq.quiet (i := 3) rfl (Want.none rfl) rfl (ltN rfl) (QR.load1F rfl rfl g61 hf.tb (TimerQueue.sub_row _)) ?_
 refine Sq.quiet (i := 4) rfl (Want.none rfl) rfl (ltN rfl) (QP.indexAddr rfl rfl rfl Try.underlying61 z64 (by first | omega | (simp <;> omega)) (by first | omega | (simp <;> omega))).read ?_
 refine Sq.quiet (i := 5) rfl (Want.none rfl) rfl (ltN rfl) (QR.loadSl1 (ev := pv) rfl rfl g64 (hs0 _) hx0) ?_
 refine Sq.quiet (i := 6) rfl (Want.none rfl) rfl (ltN rfl) (QP.nilCheck rfl rfl).read ?_
 refine Sq.quiet (i := 7) rfl (Want.none rfl) rfl (ltN rfl) (QP.fieldAddr rfl rfl f67_0).read ?_
 refine Sq.quiet (i := 8) rfl (Want.none rfl) rfl (ltN rfl) (QR.loadF rfl rfl g40 hrow (TimerOne.sub_due _)) ?_
 refine Sq.act (i := 9) rfl (Want.none rfl) rfl (EF.storeA rfl rfl rfl z40 (SetL.all (Due.enc_len _) (Due.enc_len _)) (Due.enc_cell _)) ?_
 rintro _ _ rfl
 refine Sq.quiet (i := 10) rfl (Want.none rfl) rfl (ltN rfl) (QP.assign rfl rfl).read ?_
 refine Sq.nil ?_
 refine hk4 _ _ ?_
 refine Run.ret ?_
 exact J.ends (res_cell2 rfl rfl g40 (Due.enc_sub _) rfl) Takes.nil ⟨rfl, rfl⟩

theorem sortD (F : Fr) {v : Value} {xs : List Due} (hn : xs.length ≤ 4294967296) : Spec Try.prog 30 #[v, .func (.func 31) #[] #[]] [slA 40 2 Due.enc v xs] F fun u S => u = .tuple #[] ∧ ∃ ys : List Due, ys.Perm xs ∧ (ys.Pairwise fun a b => ¬ cmpDue b a < 0) ∧ S = [slA 40 2 Due.enc v ys] :=
  Spec.sortFunc Try.sortL (fun w => g40.agg w) (fun w => g40.size w) Due.enc_len Due.enc_cell swoD ce31 (fun F x y => cmpDue_spec F x y) (by omega) F

theorem list_nil (F : Fr)  : Spec Try.prog 17 #[.pointer none] [] F (fun v S => v = .slice none 0 0 ∧ S = []) := by
 refine Spec.intro (N := 27) (args := [.pointer none]) Try.func17 rfl rfl (by simp) ?_
 refine Run.seq fun k1 hk1 => ?_
 refine Run.region ?_
 show Sq _ _ _ [0] _ _ _ _
 refine Sq.quiet (i := 0) rfl (Want.none rfl) rfl (ltN rfl) (QP.assign rfl rfl).read ?_
 refine Sq.nil ?_
 refine hk1 _ _ ?_
 refine Run.seq fun k2 hk2 => ?_
 refine Run.seq fun k3 hk3 => ?_
 refine Run.region ?_
 show Sq _ _ _ [0, 1] _ _ _ _
 refine Sq.quiet (i := 0) rfl (Want.none rfl) rfl (ltN rfl) (QP.move rfl rfl).read ?_
 refine Sq.quiet (i := 1) rfl (Want.none rfl) rfl (ltN rfl) (QP.ptr_eq_nil rfl rfl rfl Try.underlying23).read ?_
 refine Sq.nil ?_
 refine hk3 _ _ ?_
 refine Run.cond_t rfl ?_
 refine Run.seq fun k4 hk4 => ?_
 refine Run.region ?_
 show Sq _ _ _ [0] _ _ _ _
 refine Sq.quiet (i := 0) rfl (Want.none rfl) rfl (ltN rfl) (QP.assign rfl rfl).read ?_
 refine Sq.nil ?_
 refine hk4 _ _ ?_
 refine Run.ret ?_
 exact J.ends (res_tmp rfl rfl) Takes.nil ⟨rfl, rfl⟩

theorem list0 (F : Fr) {b r : Nat} {a : Option Addr} {c : Nat} {es : List Ent} (hf : InQ F b r a c es) (hN : es.length ≤ 1000000) : Spec Try.prog 17 #[fp b] [] F (fun v S => ∃ ys : List Due, ys.Perm (es.map (·.2.due)) ∧ (ys.Pairwise fun a b => ¬ cmpDue b a < 0) ∧ S = [slA 40 2 Due.enc v ys]) := by
 have hbl := bs_len es
 refine Spec.intro (N := 27) (args := [fp b]) Try.func17 rfl rfl (by simp) ?_
 refine Run.seq fun k1 hk1 => ?_
 refine Run.region ?_
 show Sq _ _ _ [0] _ _ _ _
 refine Sq.quiet (i := 0) rfl (Want.none rfl) rfl (ltN rfl) (QP.assign rfl rfl).read ?_
 refine Sq.nil ?_
 refine hk1 _ _ ?_
 refine Run.seq fun k2 hk2 => ?_
 refine Run.seq fun k3 hk3 => ?_
 refine Run.region ?_
 show Sq _ _ _ [0, 1] _ _ _ _
 refine Sq.quiet (i := 0) rfl (Want.none rfl) rfl (ltN rfl) (QP.move rfl rfl).read ?_
 refine Sq.quiet (i := 1) rfl (Want.none rfl) rfl (ltN rfl) (QP.ptr_eq_nil rfl rfl rfl Try.underlying23).read ?_
 refine Sq.nil ?_
 refine hk3 _ _ ?_
 refine Run.cond_f rfl ?_
 refine Run.skip ?_
 refine hk2 _ _ ?_
 refine Run.seq fun k4 hk4 => ?_
 refine Run.seq fun k5 hk5 => ?_
 refine Run.region ?_
 show Sq _ _ _ [0, 1, 2, 3, 4, 5] _ _ _ _
 refine J.addSl 40 2 Due.enc ?_
 refine Sq.quiet (i := 0) rfl (Want.none rfl) rfl (ltN rfl) (QP.move rfl rfl).read ?_
 refine Sq.quiet (i := 1) rfl (Want.none rfl) rfl (ltN rfl) (QP.nilCheck rfl rfl).read ?_
 refine Sq.quiet (i := 2) rfl (Want.none rfl) rfl (ltN rfl) (QP.fieldAddr rfl rfl f63_0).read ?_
 refine Sq.quiet (i := 3) rfl (Want.none rfl) rfl (ltN rfl) (QR.load1F rfl rfl g61 hf.tb (TimerQueue.sub_row _)) ?_
 refine Sq.quiet (i := 4) rfl (Want.none rfl) rfl (ltN rfl) (QP.len rfl rfl rfl Try.underlying61).read ?_
 refine Sq.quiet (i := 5) rfl (Want.none rfl) rfl (ltN rfl) (QP.move rfl rfl).read ?_
 refine Sq.nil ?_
 refine hk5 _ _ ?_
 refine Run.block ?_
 refine Run.loop2 (fun (i : Nat) (va : Value) => i ≤ es.length) (fun i va => .cons 2 (va) (.cons 10 (.slice a (bsOf es).length c) (.cons 11 (.int .i64 ((bsOf es).length : Int)) (.cons 12 (.int .i64 i) (.nil))))) (fun i va => [slA 40 2 Due.enc va ((es.take i).map (·.2.due))]) (fun i va => es.length - i) (0) (.slice none 0 0) (Nat.zero_le _) ?_ ?_
 ·exact fun _ j => J.envJ (J.keep (.cons (by repeat constructor) Takes.nil) j) ⟨rfl, rfl, rfl, rfl, trivial⟩
 rintro i va hile kl6 hl6
 refine Run.seq fun k7 hk7 => ?_
 refine Run.region ?_
 show Sq _ _ _ [0] _ _ _ _
 refine Sq.quiet (i := 0) rfl (Want.none rfl) rfl (ltN rfl) (QP.lss rfl rfl rfl).read ?_
 refine J.caseD (fun c13 => ?_) (fun c13 => ?_)
 ·skip
  refine Sq.nil ?_
  refine hk7 _ _ ?_
  refine Run.seq fun k8 hk8 => ?_
  refine Run.cond_t rfl ?_
  refine Run.skip ?_
  refine hk8 _ _ ?_
  refine Run.seq fun k9 hk9 => ?_
  refine Run.block ?_
  refine Run.seq fun k10 hk10 => ?_
  refine Run.region ?_
  show Sq _ _ _ [0, 1, 2] _ _ _ _
  obtain ⟨e, hi⟩ : ∃ x, es[i]? = some x := ⟨_, List.getElem?_eq_getElem (by omega)⟩
  have hrow := hf.row e (List.mem_of_getElem? hi)
  have hx := bs_get hi
  obtain ⟨b0, o0, hae, hs0⟩ := hf.ar.get (by omega)
  subst hae
  have htl : ((es.take i).map (·.2.due)).length ≤ 1000000 := by rw [List.length_map, List.length_take]; omega
  refine Sq.quiet (i := 0) rfl (Want.none rfl) rfl (ltN rfl) (QP.indexAddr rfl rfl rfl Try.underlying61 z64 (by first | omega | (simp <;> omega)) (by first | omega | (simp <;> omega))).read ?_
  refine Sq.quiet (i := 1) rfl (Want.none rfl) rfl (ltN rfl) (QR.loadSl1 (ev := pv) rfl rfl g64 (hs0 _) hx) ?_
  refine Sq.quiet (i := 2) rfl (Want.none rfl) rfl (ltN rfl) (QP.assign rfl rfl).read ?_
  refine Sq.nil ?_
  refine hk10 _ _ ?_
  refine Run.region ?_
  show Sq _ _ _ [0, 1, 2, 3, 4, 5, 6, 7] _ _ _ _
  refine Sq.quiet (i := 0) rfl (Want.none rfl) rfl (ltN rfl) (QP.move rfl rfl).read ?_
  refine Sq.quiet (i := 1) rfl (Want.none rfl) rfl (ltN rfl) (QP.move rfl rfl).read ?_
  refine Sq.quiet (i := 2) rfl (Want.none rfl) rfl (ltN rfl) (QP.nilCheck rfl rfl).read ?_
  refine Sq.quiet (i := 3) rfl (Want.none rfl) rfl (ltN rfl) (QP.fieldAddr rfl rfl f67_0).read ?_
  refine Sq.quiet (i := 4) rfl (Want.none rfl) rfl (ltN rfl) (QR.loadF rfl rfl g40 hrow (TimerOne.sub_due _)) ?_
  refine Sq.eff (i := 5) rfl (Want.none rfl) rfl (ltN rfl) (EF.buildSlice1 rfl Try.underlying44 z40 zero40 (by simp [Value.cells, Due.enc_len]) (by decide) rfl rfl (Due.enc_len _) (by decide)) ?_
  rintro _ _ ⟨b21, rfl, rfl⟩
  refine Sq.eff (i := 6) rfl (Want.none rfl) rfl (ltN rfl) (EF.append1 (xs := ((es.take i).map (·.2.due))) (s := (e.2).due) el40 Due.enc_len Due.enc_cell rfl rfl rfl Try.underlying44 Try.underlying44 rfl rfl (by repeat constructor) (by repeat constructor) (by first | omega | (simp <;> omega))) ?_
  rintro sl22 _ rfl
  refine Sq.quiet (i := 7) rfl (Want.none rfl) rfl (ltN rfl) (QP.assign rfl rfl).read ?_
  refine Sq.nil ?_
  refine hk9 _ _ ?_
  refine Run.region ?_
  show Sq _ _ _ [0, 1] _ _ _ _
  refine Sq.quiet (i := 0) rfl (Want.none rfl) rfl (ltN rfl) (QP.add64 rfl rfl rfl (by first | omega | (simp <;> omega)) (by first | omega | (simp <;> omega))).read ?_
  refine Sq.quiet (i := 1) rfl (Want.none rfl) rfl (ltN rfl) (QP.move rfl rfl).read ?_
  refine Sq.nil ?_
  refine J.slEq (v := sl22) (by repeat constructor) (show ((es.take i).map (·.2.due)) ++ [e.2.due] = (es.take (i + 1)).map (·.2.due) by rw [take_succ_get hi, List.map_append]; rfl) ?_
  exact J.envJ (J.keep (.cons (by repeat constructor) Takes.nil) (hl6 (i + 1) (sl22) (by omega) (by omega))) ⟨rfl, rfl, rfl, rfl, trivial⟩
 ·skip
  refine Sq.nil ?_
  refine hk7 _ _ ?_
  refine Run.seq fun k11 hk11 => ?_
  refine Run.cond_f rfl ?_
  refine Run.exit rfl ?_
  refine hk4 _ _ ?_
  refine Run.seq fun k12 hk12 => ?_
  refine Run.region ?_
  show Sq _ _ _ [0, 1] _ _ _ _
  refine Sq.quiet (i := 0) rfl (Want.none rfl) rfl (ltN rfl) (QP.move rfl rfl).read ?_
  refine Sq.eff (i := 1) rfl (Want.none rfl) rfl (ltN rfl) (EF.call rfl ce30 rfl (.cons (by repeat constructor) Takes.nil) (fun F' hle hr => sortD F' (by rw [List.length_map, List.length_take]; omega))) ?_
  rintro _ _ ⟨_, ⟨rfl, ys, hys, hso, rfl⟩, rfl⟩
  refine J.app ?_
  refine Sq.nil ?_
  refine hk12 _ _ ?_
  refine Run.seq fun k13 hk13 => ?_
  refine Run.region ?_
  show Sq _ _ _ [0, 1] _ _ _ _
  refine Sq.quiet (i := 0) rfl (Want.none rfl) rfl (ltN rfl) (QP.move rfl rfl).read ?_
  refine Sq.quiet (i := 1) rfl (Want.none rfl) rfl (ltN rfl) (QP.assign rfl rfl).read ?_
  refine Sq.nil ?_
  refine hk13 _ _ ?_
  refine Run.ret ?_
  exact J.ends (res_tmp rfl rfl) (.cons (by repeat constructor) Takes.nil) ⟨ys, by rw [List.take_of_length_le (by omega)] at hys; exact hys, hso, rfl⟩
end Slb
