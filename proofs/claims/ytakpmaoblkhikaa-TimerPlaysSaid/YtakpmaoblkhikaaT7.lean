/- T7: a part of the proof that a law of this package holds for every input; no condition. -/
import Derived.Test.YtakpmaoblkhikaaT6
namespace Slb
open Go Go.Proofs
set_option maxRecDepth 20000
section
variable {N : Nat} {G : Env} {S : List HProp} {F : Fr} {o : Oper} {x y : Operand} {r : Nat} {M : TabS}
theorem QR.lkNone (ho : o.op = .lookup 59 x y true) (hx : opv G x = some (.map (some r))) [hm : HasMap r S Str Nat strE pv M] {k : Str} (hy : opv G y = some (strE k)) (hl : alook M k = none) : QR Try.prog N G S F o (.tuple #[.pointer none, .bool false]) := by
  have := QR.lookup2 (P := Try.prog) (N := N) (F := F) key9 ho hx (hm := hm) hy Try.underlying59 zero64
  rw [hl] at this; exact this
theorem QR.lkSome (ho : o.op = .lookup 59 x y true) (hx : opv G x = some (.map (some r))) [hm : HasMap r S Str Nat strE pv M] {k : Str} (hy : opv G y = some (strE k)) {c : Nat} (hl : alook M k = some c) : QR Try.prog N G S F o (.tuple #[pv c, .bool true]) := by
  have := QR.lookup2 (P := Try.prog) (N := N) (F := F) key9 ho hx (hm := hm) hy Try.underlying59 zero64
  rw [hl] at this; exact this
theorem QR.lkBoth (ho : o.op = .lookup 59 x y true) (hx : opv G x = some (.map (some r))) [hm : HasMap r S Str Nat strE pv M] {k : Str} (hy : opv G y = some (strE k)) : QR Try.prog N G S F o (.tuple #[((alook M k).map pv).getD (.pointer none), .bool (alook M k).isSome]) :=
  QR.lookup2 (P := Try.prog) (N := N) (F := F) key9 ho hx (hm := hm) hy Try.underlying59 zero64
end
theorem QI.keep {es : List Ent} {M : TabS} {L : List Due} (h : QI es M L) : es.length ≤ 4096 := by rw [← h.length]; exact h.len

theorem new0 (F : Fr)  : Spec Try.prog 10 #[] [] F (fun v S => ∃ b r, v = fp b ∧ S = [blk b (TimerQueue.enc ⟨Slc.zero, some r⟩) 63, mapS r []]) := by
 refine Spec.intro (N := 4) (args := []) Try.func10 rfl rfl (by simp) ?_
 refine Run.seq fun k1 hk1 => ?_
 refine Run.region ?_
 show Sq _ _ _ [0] _ _ _ _
 refine Sq.quiet (i := 0) rfl (Want.none rfl) rfl (ltN rfl) (QP.assign rfl rfl).read ?_
 refine Sq.nil ?_
 refine hk1 _ _ ?_
 refine Run.seq fun k2 hk2 => ?_
 refine Run.region ?_
 show Sq _ _ _ [0, 1, 2, 3] _ _ _ _
 refine Sq.eff (i := 0) rfl (Want.none rfl) rfl (ltN rfl) (EF.makeMap strE pv rfl) ?_
 rintro _ _ ⟨r1, rfl, rfl⟩
 refine Sq.quiet (i := 1) rfl (Want.none rfl) rfl (ltN rfl) (QP.build (l := TimerQueue.enc ⟨Slc.zero, some r1⟩) rfl st63 rfl (by exact ⟨rfl, trivial⟩) rfl).read ?_
 refine Sq.eff (i := 2) rfl (Want.none rfl) rfl (ltN rfl) (EF.boxA rfl rfl) ?_
 rintro _ _ ⟨b3, rfl, rfl⟩
 refine Sq.quiet (i := 3) rfl (Want.none rfl) rfl (ltN rfl) (QP.assign rfl rfl).read ?_
 refine Sq.nil ?_
 refine hk2 _ _ ?_
 refine Run.ret ?_
 exact J.ends (res_tmp rfl rfl) (.cons (by repeat constructor) (.cons (by repeat constructor) Takes.nil)) ⟨_, _, rfl, rfl⟩

theorem set_nil (F : Fr) (s : ByteArray) (t : Int) : Spec Try.prog 11 #[.pointer none, .string s, .int .i64 t] [] F (fun v S => v = .int .i64 7 ∧ S = []) := by
 refine Spec.intro (N := 60) (args := [.pointer none, .string s, .int .i64 t]) Try.func11 rfl rfl (by simp) ?_
 refine Run.seq fun k1 hk1 => ?_
 refine Run.region ?_
 show Sq _ _ _ [0] _ _ _ _
 refine Sq.quiet (i := 0) rfl (Want.none rfl) rfl (ltN rfl) (QP.assign rfl rfl).read ?_
 refine Sq.nil ?_
 refine hk1 _ _ ?_
 refine Run.seq fun k2 hk2 => ?_
 refine Run.seq fun k3 hk3 => ?_
 refine Run.region ?_
 show Sq _ _ _ [0, 1] _ _ _ _
 refine Sq.quiet (i := 0) rfl (Want.none rfl) rfl (ltN rfl) (QP.move rfl rfl).read ?_
 refine Sq.quiet (i := 1) rfl (Want.none rfl) rfl (ltN rfl) (QP.ptr_eq_nil rfl rfl rfl Try.underlying23).read ?_
 refine Sq.nil ?_
 refine hk3 _ _ ?_
 refine Run.cond_t rfl ?_
 refine Run.seq fun k4 hk4 => ?_
 refine Run.region ?_
 show Sq _ _ _ [0] _ _ _ _
 refine Sq.quiet (i := 0) rfl (Want.none rfl) rfl (ltN rfl) (QP.assign rfl rfl).read ?_
 refine Sq.nil ?_
 refine hk4 _ _ ?_
 refine Run.ret ?_
 exact J.ends (res_tmp rfl rfl) Takes.nil ⟨rfl, rfl⟩

theorem set_full (F : Fr) {b r : Nat} {a : Option Addr} {c : Nat} {es : List Ent} {M : TabS} {L : List Due} (hq : QI es M L) (k : Str) (t : Int) (hl : alook M k = none) (hfull : 4096 ≤ es.length) : Spec Try.prog 11 #[fp b, .string k.val, .int .i64 t] [qB b r a c es, arrA a c es, rowsT es, mapS r M] F (fun v S => v = .int .i64 6 ∧ S = [qB b r a c es, arrA a c es, rowsT es, mapS r M]) := by
 have hbl := bs_len es
 refine Spec.intro (N := 60) (args := [fp b, .string k.val, .int .i64 t]) Try.func11 rfl rfl (by simp) ?_
 refine Run.seq fun k1 hk1 => ?_
 refine Run.region ?_
 show Sq _ _ _ [0] _ _ _ _
 refine Sq.quiet (i := 0) rfl (Want.none rfl) rfl (ltN rfl) (QP.assign rfl rfl).read ?_
 refine Sq.nil ?_
 refine hk1 _ _ ?_
 refine Run.seq fun k2 hk2 => ?_
 refine Run.seq fun k3 hk3 => ?_
 refine Run.region ?_
 show Sq _ _ _ [0, 1] _ _ _ _
 refine Sq.quiet (i := 0) rfl (Want.none rfl) rfl (ltN rfl) (QP.move rfl rfl).read ?_
 refine Sq.quiet (i := 1) rfl (Want.none rfl) rfl (ltN rfl) (QP.ptr_eq_nil rfl rfl rfl Try.underlying23).read ?_
 refine Sq.nil ?_
 refine hk3 _ _ ?_
 refine Run.cond_f rfl ?_
 refine Run.skip ?_
 refine hk2 _ _ ?_
 refine Run.seq fun k4 hk4 => ?_
 refine Run.seq fun k5 hk5 => ?_
 refine Run.region ?_
 show Sq _ _ _ [0, 1, 2, 3, 4, 5, 6, 7, 8, 9, 10] _ _ _ _
 refine Sq.quiet (i := 0) rfl (Want.none rfl) rfl (ltN rfl) (QP.move rfl rfl).read ?_
 refine Sq.quiet (i := 1) rfl (Want.none rfl) rfl (ltN rfl) (QP.nilCheck rfl rfl).read ?_
 refine Sq.quiet (i := 2) rfl (Want.none rfl) rfl (ltN rfl) (QP.fieldAddr rfl rfl f63_1).read ?_
 refine Sq.quiet (i := 3) rfl (Want.none rfl) rfl (ltN rfl) (QR.load1 rfl rfl g59 (TimerQueue.sub_by_ _)) ?_
 refine Sq.quiet (i := 4) rfl (Want.none rfl) rfl (ltN rfl) (QP.move rfl rfl).read ?_
 refine Sq.quiet (i := 5) rfl (Want.none rfl) rfl (ltN rfl) (QR.lkNone rfl rfl rfl hl) ?_
 refine Sq.quiet (i := 6) rfl (Want.none rfl) rfl (ltN rfl) (QP.move rfl rfl).read ?_
 refine Sq.quiet (i := 7) rfl (Want.none rfl) rfl (ltN rfl) (QP.extract rfl rfl rfl).read ?_
 refine Sq.quiet (i := 8) rfl (Want.none rfl) rfl (ltN rfl) (QP.extract rfl rfl rfl).read ?_
 refine Sq.quiet (i := 9) rfl (Want.none rfl) rfl (ltN rfl) (QP.assign rfl rfl).read ?_
 refine Sq.quiet (i := 10) rfl (Want.none rfl) rfl (ltN rfl) (QP.assign rfl rfl).read ?_
 refine Sq.nil ?_
 refine hk5 _ _ ?_
 refine Run.seq fun k6 hk6 => ?_
 refine Run.region ?_
 show Sq _ _ _ [0] _ _ _ _
 refine Sq.quiet (i := 0) rfl (Want.none rfl) rfl (ltN rfl) (QP.move rfl rfl).read ?_
 refine Sq.nil ?_
 refine hk6 _ _ ?_
 refine Run.cond_f rfl ?_
 refine Run.skip ?_
 refine hk4 _ _ ?_
 refine Run.seq fun k7 hk7 => ?_
 refine Run.seq fun k8 hk8 => ?_
 refine Run.region ?_
 show Sq _ _ _ [0, 1, 2, 3, 4, 5] _ _ _ _
 refine Sq.quiet (i := 0) rfl (Want.none rfl) rfl (ltN rfl) (QP.move rfl rfl).read ?_
 refine Sq.quiet (i := 1) rfl (Want.none rfl) rfl (ltN rfl) (QP.nilCheck rfl rfl).read ?_
 refine Sq.quiet (i := 2) rfl (Want.none rfl) rfl (ltN rfl) (QP.fieldAddr rfl rfl f63_0).read ?_
 refine Sq.quiet (i := 3) rfl (Want.none rfl) rfl (ltN rfl) (QR.load1 (v := .slice a (bsOf es).length c) rfl rfl g61 (TimerQueue.sub_row _)) ?_
 refine Sq.quiet (i := 4) rfl (Want.none rfl) rfl (ltN rfl) (QP.len rfl rfl rfl Try.underlying61).read ?_
 refine Sq.quiet (i := 5) rfl (Want.none rfl) rfl (ltN rfl) (QP.geq rfl rfl rfl).read ?_
 refine J.decT (by omega) ?_
 refine Sq.nil ?_
 refine hk8 _ _ ?_
 refine Run.cond_t rfl ?_
 refine Run.seq fun k9 hk9 => ?_
 refine Run.region ?_
 show Sq _ _ _ [0] _ _ _ _
 refine Sq.quiet (i := 0) rfl (Want.none rfl) rfl (ltN rfl) (QP.assign rfl rfl).read ?_
 refine Sq.nil ?_
 refine hk9 _ _ ?_
 refine Run.ret ?_
 exact J.ends (res_tmp rfl rfl) (.cons (by repeat constructor) (.cons (by repeat constructor) (.cons (by repeat constructor) (.cons (by repeat constructor) Takes.nil)))) ⟨rfl, rfl⟩

theorem set_new (F : Fr) {b r : Nat} {a : Option Addr} {c : Nat} {es : List Ent} {M : TabS} {L : List Due} (hq : QI es M L) (k : Str) (t : Int) (hl : alook M k = none) (hfull : es.length < 4096) : Spec Try.prog 11 #[fp b, .string k.val, .int .i64 t] [qB b r a c es, arrA a c es, rowsT es, mapS r M] F (fun v S => v = .int .i64 0 ∧ ∃ a2 c2 es2 c0, QI es2 (aset M k c0) (setD L k.val t) ∧ S = [qB b r a2 c2 es2, arrA a2 c2 es2, rowsT es2, mapS r (aset M k c0)]) := by
 have hbl := bs_len es
 refine Spec.intro (N := 60) (args := [fp b, .string k.val, .int .i64 t]) Try.func11 rfl rfl (by simp) ?_
 refine Run.seq fun k1 hk1 => ?_
 refine Run.region ?_
 show Sq _ _ _ [0] _ _ _ _
 refine Sq.quiet (i := 0) rfl (Want.none rfl) rfl (ltN rfl) (QP.assign rfl rfl).read ?_
 refine Sq.nil ?_
 refine hk1 _ _ ?_
 refine Run.seq fun k2 hk2 => ?_
 refine Run.seq fun k3 hk3 => ?_
 refine Run.region ?_
 show Sq _ _ _ [0, 1] _ _ _ _
 refine Sq.quiet (i := 0) rfl (Want.none rfl) rfl (ltN rfl) (QP.move rfl rfl).read ?_
 refine Sq.quiet (i := 1) rfl (Want.none rfl) rfl (ltN rfl) (QP.ptr_eq_nil rfl rfl rfl Try.underlying23).read ?_
 refine Sq.nil ?_
 refine hk3 _ _ ?_
 refine Run.cond_f rfl ?_
 refine Run.skip ?_
 refine hk2 _ _ ?_
 refine Run.seq fun k4 hk4 => ?_
 refine Run.seq fun k5 hk5 => ?_
 refine Run.region ?_
 show Sq _ _ _ [0, 1, 2, 3, 4, 5, 6, 7, 8, 9, 10] _ _ _ _
 refine Sq.quiet (i := 0) rfl (Want.none rfl) rfl (ltN rfl) (QP.move rfl rfl).read ?_
 refine Sq.quiet (i := 1) rfl (Want.none rfl) rfl (ltN rfl) (QP.nilCheck rfl rfl).read ?_
 refine Sq.quiet (i := 2) rfl (Want.none rfl) rfl (ltN rfl) (QP.fieldAddr rfl rfl f63_1).read ?_
 refine Sq.quiet (i := 3) rfl (Want.none rfl) rfl (ltN rfl) (QR.load1 rfl rfl g59 (TimerQueue.sub_by_ _)) ?_
 refine Sq.quiet (i := 4) rfl (Want.none rfl) rfl (ltN rfl) (QP.move rfl rfl).read ?_
 refine Sq.quiet (i := 5) rfl (Want.none rfl) rfl (ltN rfl) (QR.lkNone rfl rfl rfl hl) ?_
 refine Sq.quiet (i := 6) rfl (Want.none rfl) rfl (ltN rfl) (QP.move rfl rfl).read ?_
 refine Sq.quiet (i := 7) rfl (Want.none rfl) rfl (ltN rfl) (QP.extract rfl rfl rfl).read ?_
 refine Sq.quiet (i := 8) rfl (Want.none rfl) rfl (ltN rfl) (QP.extract rfl rfl rfl).read ?_
 refine Sq.quiet (i := 9) rfl (Want.none rfl) rfl (ltN rfl) (QP.assign rfl rfl).read ?_
 refine Sq.quiet (i := 10) rfl (Want.none rfl) rfl (ltN rfl) (QP.assign rfl rfl).read ?_
 refine Sq.nil ?_
 refine hk5 _ _ ?_
 refine Run.seq fun k6 hk6 => ?_
 refine Run.region ?_
 show Sq _ _ _ [0] _ _ _ _
 refine Sq.quiet (i := 0) rfl (Want.none rfl) rfl (ltN rfl) (QP.move rfl rfl).read ?_
 refine Sq.nil ?_
 refine hk6 _ _ ?_
 refine Run.cond_f rfl ?_
 refine Run.skip ?_
 refine hk4 _ _ ?_
 refine Run.seq fun k7 hk7 => ?_
 refine Run.seq fun k8 hk8 => ?_
 refine Run.region ?_
 show Sq _ _ _ [0, 1, 2, 3, 4, 5] _ _ _ _
 refine Sq.quiet (i := 0) rfl (Want.none rfl) rfl (ltN rfl) (QP.move rfl rfl).read ?_
 refine Sq.quiet (i := 1) rfl (Want.none rfl) rfl (ltN rfl) (QP.nilCheck rfl rfl).read ?_
 refine Sq.quiet (i := 2) rfl (Want.none rfl) rfl (ltN rfl) (QP.fieldAddr rfl rfl f63_0).read ?_
 refine Sq.quiet (i := 3) rfl (Want.none rfl) rfl (ltN rfl) (QR.load1 (v := .slice a (bsOf es).length c) rfl rfl g61 (TimerQueue.sub_row _)) ?_
 refine Sq.quiet (i := 4) rfl (Want.none rfl) rfl (ltN rfl) (QP.len rfl rfl rfl Try.underlying61).read ?_
 refine Sq.quiet (i := 5) rfl (Want.none rfl) rfl (ltN rfl) (QP.geq rfl rfl rfl).read ?_
 refine J.decF (by omega) ?_
 refine Sq.nil ?_
 refine hk8 _ _ ?_
 refine Run.cond_f rfl ?_
 refine Run.skip ?_
 refine hk7 _ _ ?_
 refine Run.seq fun k9 hk9 => ?_
 refine Run.region ?_
 show Sq _ _ _ [0, 1, 2, 3, 4, 5] _ _ _ _
 refine Sq.quiet (i := 0) rfl (Want.none rfl) rfl (ltN rfl) (QP.move rfl rfl).read ?_
 refine Sq.quiet (i := 1) rfl (Want.none rfl) rfl (ltN rfl) (QP.move rfl rfl).read ?_
 refine Sq.quiet (i := 2) rfl (Want.none rfl) rfl (ltN rfl) (QP.build (l := Due.enc ⟨k.val, t⟩) rfl st40 rfl (by exact ⟨rfl, ⟨rfl, trivial⟩⟩) rfl).read ?_
 refine Sq.quiet (i := 3) rfl (Want.none rfl) rfl (ltN rfl) (QP.build (l := TimerOne.enc ⟨((⟨k.val, t⟩ : Due)), 0⟩) rfl st67 rfl (by exact ⟨(congrArg some (Due.enc_len _).symm), trivial⟩) rfl).read ?_
 refine Sq.eff (i := 4) rfl (Want.none rfl) rfl (ltN rfl) (EF.boxA rfl rfl) ?_
 rintro _ _ ⟨b46, rfl, rfl⟩
 refine Sq.quiet (i := 5) rfl (Want.none rfl) rfl (ltN rfl) (QP.assign rfl rfl).read ?_
 refine Sq.nil ?_
 refine hk9 _ _ ?_
 refine Run.seq fun k10 hk10 => ?_
 refine Run.region ?_
 show Sq _ _ _ [0, 1, 2, 3, 4, 5, 6] _ _ _ _
 refine Sq.quiet (i := 0) rfl (Want.none rfl) rfl (ltN rfl) (QP.move rfl rfl).read ?_
 refine Sq.quiet (i := 1) rfl (Want.none rfl) rfl (ltN rfl) (QP.nilCheck rfl rfl).read ?_
 refine Sq.quiet (i := 2) rfl (Want.none rfl) rfl (ltN rfl) (QP.fieldAddr rfl rfl f63_1).read ?_
 refine Sq.quiet (i := 3) rfl (Want.none rfl) rfl (ltN rfl) (QR.load1 rfl rfl g59 (TimerQueue.sub_by_ _)) ?_
 refine Sq.quiet (i := 4) rfl (Want.none rfl) rfl (ltN rfl) (QP.move rfl rfl).read ?_
 refine Sq.quiet (i := 5) rfl (Want.none rfl) rfl (ltN rfl) (QP.move rfl rfl).read ?_
 refine Sq.act (i := 6) rfl (Want.none rfl) rfl (EF.mapUpdate (ev := pv) (k := k) (v := b46) key9 rfl rfl rfl rfl Try.underlying59) ?_
 rintro _ _ rfl
 refine Sq.nil ?_
 refine hk10 _ _ ?_
 refine Run.seq fun k11 hk11 => ?_
 refine Run.region ?_
 show Sq _ _ _ [0, 1, 2, 3, 4, 5, 6] _ _ _ _
 refine Sq.quiet (i := 0) rfl (Want.none rfl) rfl (ltN rfl) (QP.move rfl rfl).read ?_
 refine Sq.quiet (i := 1) rfl (Want.none rfl) rfl (ltN rfl) (QP.nilCheck rfl rfl).read ?_
 refine Sq.quiet (i := 2) rfl (Want.none rfl) rfl (ltN rfl) (QP.fieldAddr rfl rfl f63_0).read ?_
 refine Sq.quiet (i := 3) rfl (Want.none rfl) rfl (ltN rfl) (QP.makeIface rfl rfl Try.underlying69 (fun l h => by cases h)).read ?_
 refine Sq.quiet (i := 4) rfl (Want.none rfl) rfl (ltN rfl) (QP.move rfl rfl).read ?_
 refine Sq.quiet (i := 5) rfl (Want.none rfl) rfl (ltN rfl) (QP.makeIface rfl rfl Try.underlying64 (fun l h => by cases h)).read ?_
 refine Sq.eff (i := 6) rfl (Want.none rfl) rfl (ltN rfl) (EF.call rfl ce28 rfl (.cons (by repeat constructor) (.cons (by repeat constructor) (.cons (by repeat constructor) (.cons (by repeat constructor) Takes.nil)))) (fun F' hle hr => hpush_spec F' (by omega) hq.placed hq.heap ⟨⟨k.val, t⟩, 0⟩)) ?_
 rintro _ _ ⟨_, ⟨a2, c2, es2, hK2, hH2, rfl⟩, rfl⟩
 refine J.app ?_
 refine Sq.nil ?_
 refine hk11 _ _ ?_
 refine Run.seq fun k12 hk12 => ?_
 refine Run.region ?_
 show Sq _ _ _ [0] _ _ _ _
 refine Sq.quiet (i := 0) rfl (Want.none rfl) rfl (ltN rfl) (QP.assign rfl rfl).read ?_
 refine Sq.nil ?_
 refine hk12 _ _ ?_
 refine Run.ret ?_
 exact J.ends (res_tmp rfl rfl) (.cons (by repeat constructor) (.cons (by repeat constructor) (.cons (by repeat constructor) (.cons (by repeat constructor) Takes.nil)))) ⟨rfl, a2, c2, es2, b46, hq.set_new hl hfull hK2 hH2, rfl⟩

theorem set_old (F : Fr) {b r : Nat} {a : Option Addr} {c : Nat} {es : List Ent} {M : TabS} {L : List Due} (hq : QI es M L) (k : Str) (t : Int) {i : Nat} {e : Ent} (hi : es[i]? = some e) (hnm : e.2.due.name = k.val) (hl : alook M k = some e.1) : Spec Try.prog 11 #[fp b, .string k.val, .int .i64 t] [qB b r a c es, arrA a c es, rowsT es, mapS r M] F (fun v S => v = .int .i64 0 ∧ ∃ es2, QI es2 M (setD L k.val t) ∧ S = [qB b r a c es2, arrA a c es2, rowsT es2, mapS r M]) := by
 have hbl := bs_len es
 have hpi := hq.placed i e hi
 have hlt := (List.getElem?_eq_some_iff.1 hi).1
 have hkp := hq.keep
 obtain ⟨rest, hp1, hp2⟩ := one_out hi
 have hp3 := hp2 (e.1, { e.2 with due := { e.2.due with at_ := t } })
 have hsl := setE_len es i e t
 refine Spec.intro (N := 60) (args := [fp b, .string k.val, .int .i64 t]) Try.func11 rfl rfl (by simp) ?_
 refine Run.seq fun k1 hk1 => ?_
 refine Run.region ?_
 show Sq _ _ _ [0] _ _ _ _
 refine Sq.quiet (i := 0) rfl (Want.none rfl) rfl (ltN rfl) (QP.assign rfl rfl).read ?_
 refine Sq.nil ?_
 refine hk1 _ _ ?_
 refine Run.seq fun k2 hk2 => ?_
 refine Run.seq fun k3 hk3 => ?_
 refine Run.region ?_
 show Sq _ _ _ [0, 1] _ _ _ _
 refine Sq.quiet (i := 0) rfl (Want.none rfl) rfl (ltN rfl) (QP.move rfl rfl).read ?_
 refine Sq.quiet (i := 1) rfl (Want.none rfl) rfl (ltN rfl) (QP.ptr_eq_nil rfl rfl rfl Try.underlying23).read ?_
 refine Sq.nil ?_
 refine hk3 _ _ ?_
 refine Run.cond_f rfl ?_
 refine Run.skip ?_
 refine hk2 _ _ ?_
 refine Run.seq fun k4 hk4 => ?_
 refine Run.seq fun k5 hk5 => ?_
 refine Run.region ?_
 show Sq _ _ _ [0, 1, 2, 3, 4, 5, 6, 7, 8, 9, 10] _ _ _ _
 refine Sq.quiet (i := 0) rfl (Want.none rfl) rfl (ltN rfl) (QP.move rfl rfl).read ?_
 refine Sq.quiet (i := 1) rfl (Want.none rfl) rfl (ltN rfl) (QP.nilCheck rfl rfl).read ?_
 refine Sq.quiet (i := 2) rfl (Want.none rfl) rfl (ltN rfl) (QP.fieldAddr rfl rfl f63_1).read ?_
 refine Sq.quiet (i := 3) rfl (Want.none rfl) rfl (ltN rfl) (QR.load1 rfl rfl g59 (TimerQueue.sub_by_ _)) ?_
 refine Sq.quiet (i := 4) rfl (Want.none rfl) rfl (ltN rfl) (QP.move rfl rfl).read ?_
 refine Sq.quiet (i := 5) rfl (Want.none rfl) rfl (ltN rfl) (QR.lkSome rfl rfl rfl hl) ?_
 refine Sq.quiet (i := 6) rfl (Want.none rfl) rfl (ltN rfl) (QP.move rfl rfl).read ?_
 refine Sq.quiet (i := 7) rfl (Want.none rfl) rfl (ltN rfl) (QP.extract rfl rfl rfl).read ?_
 refine Sq.quiet (i := 8) rfl (Want.none rfl) rfl (ltN rfl) (QP.extract rfl rfl rfl).read ?_
 refine Sq.quiet (i := 9) rfl (Want.none rfl) rfl (ltN rfl) (QP.assign rfl rfl).read ?_
 refine Sq.quiet (i := 10) rfl (Want.none rfl) rfl (ltN rfl) (QP.assign rfl rfl).read ?_
 refine Sq.nil ?_
 refine hk5 _ _ ?_
 refine Run.seq fun k6 hk6 => ?_
 refine Run.region ?_
 show Sq _ _ _ [0] _ _ _ _
 refine Sq.quiet (i := 0) rfl (Want.none rfl) rfl (ltN rfl) (QP.move rfl rfl).read ?_
 refine Sq.nil ?_
 refine hk6 _ _ ?_
 refine Run.cond_t rfl ?_
 refine Run.seq fun k7 hk7 => ?_
 refine Run.region ?_
 show Sq _ _ _ [0, 1, 2, 3, 4, 5] _ _ _ _
 refine J.openE (by repeat constructor) (fun _ g => (⟨(), rowsO_one hp1 g⟩ : ∃ _ : Unit, _)) fun _ => ?_
 refine J.app ?_
 refine Sq.quiet (i := 0) rfl (Want.none rfl) rfl (ltN rfl) (QP.move rfl rfl).read ?_
 refine Sq.quiet (i := 1) rfl (Want.none rfl) rfl (ltN rfl) (QP.move rfl rfl).read ?_
 refine Sq.quiet (i := 2) rfl (Want.none rfl) rfl (ltN rfl) (QP.nilCheck rfl rfl).read ?_
 refine Sq.quiet (i := 3) rfl (Want.none rfl) rfl (ltN rfl) (QP.fieldAddr rfl rfl f67_0).read ?_
 refine Sq.quiet (i := 4) rfl (Want.none rfl) rfl (ltN rfl) (QP.fieldAddr rfl rfl f40_1).read ?_
 refine Sq.act (i := 5) rfl (Want.none rfl) rfl (EF.store rfl rfl rfl z3 ((TimerOne.set_due _ _).trans (TimerOne.sub_due _) (Due.set_at_ _ _)) (cell_one rfl)) ?_
 rintro _ _ rfl
 generalize ho : ({ e.2 with due := { e.2.due with at_ := t } } : TimerOne) = oo
 have hop : oo.place = (i : Int) := by rw [← ho]; exact hpi
 refine Sq.nil ?_
 refine hk7 _ _ ?_
 refine Run.seq fun k8 hk8 => ?_
 refine Run.regionD (M := [0, 1, 3, 7, 0, 16, 48, 112, 255]) (q := 255) (r := 128) (by kernel_rfl) ?_
 refine Dw.pure (i := 0) rfl (by kernel_rfl) (Want.none rfl) rfl (ltN rfl) (QP.move rfl rfl) ?_
 refine Dw.pure (i := 1) rfl (by kernel_rfl) (Want.none rfl) rfl (ltN rfl) (QP.nilCheck rfl rfl) ?_
 refine Dw.pure (i := 2) rfl (by kernel_rfl) (Want.none rfl) rfl (ltN rfl) (QP.fieldAddr rfl rfl f63_0) ?_
 refine Dw.pure (i := 3) rfl (by kernel_rfl) (Want.none rfl) rfl (ltN rfl) (QP.makeIface rfl rfl Try.underlying69 (fun l h => by cases h)) ?_
 refine Dw.pure (i := 4) rfl (by kernel_rfl) (Want.none rfl) rfl (ltN rfl) (QP.move rfl rfl) ?_
 refine Dw.pure (i := 5) rfl (by kernel_rfl) (Want.none rfl) rfl (ltN rfl) (QP.nilCheck rfl rfl) ?_
 refine Dw.pure (i := 6) rfl (by kernel_rfl) (Want.none rfl) rfl (ltN rfl) (QP.fieldAddr rfl rfl f67_1) ?_
 refine Dw.read (i := 7) rfl (by kernel_rfl) (Want.none rfl) rfl (ltN rfl) (QR.load1 rfl rfl g3 (TimerOne.sub_place _)) ?_
 rw [hop]
 refine J.close (A := rowsT (setE es i e t)) (m := [blk e.1 (TimerOne.enc oo) 67, rowsO TimerOne.enc 67 rest]) (.cons (by repeat constructor) (.cons (by repeat constructor) Takes.nil)) (fun _ g => by subst ho; exact rowsO_of_one hp3 g) ?_
 rw [show qB b r a c es = qB b r a c (setE es i e t) by unfold qB; rw [setE_bs hi], show arrA a c es = arrA a c (setE es i e t) by unfold arrA; rw [setE_bs hi]]
 refine Dw.eff (i := 8) (by kernel_rfl) (by kernel_rfl) ?_
 refine One.mk (o := _) (l := []) rfl (by kernel_rfl) (Want.none rfl) rfl (ltN rfl) (EF.call rfl ce27 rfl (.cons (by repeat constructor) (.cons (by repeat constructor) (.cons (by repeat constructor) Takes.nil))) (fun F' hle hr => fix_spec F' (es0 := setE es i e t) (by omega) (setE_placed hq.placed hi t) i (by omega) (fix_dn hq.heap hi t))) (by kernel_rfl) ?_
 rintro _ _ ⟨_, ⟨es2, hK2, hH2, rfl⟩, rfl⟩
 refine ⟨fun _ h => (by cases h), ?_⟩
 refine J.app ?_
 refine Dw.nil (by kernel_rfl) ?_
 refine hk8 _ _ ?_
 refine Run.seq fun k9 hk9 => ?_
 refine Run.region ?_
 show Sq _ _ _ [0] _ _ _ _
 refine Sq.quiet (i := 0) rfl (Want.none rfl) rfl (ltN rfl) (QP.assign rfl rfl).read ?_
 refine Sq.nil ?_
 refine hk9 _ _ ?_
 refine Run.ret ?_
 exact J.ends (res_tmp rfl rfl) (.cons (by repeat constructor) (.cons (by repeat constructor) (.cons (by repeat constructor) (.cons (by repeat constructor) Takes.nil)))) ⟨rfl, es2, by rw [← hnm]; exact hq.set_old hi hK2 hH2, rfl⟩

def cstep (st : List Due × Int) (s : ByteArray) : List Due × Int := if hasD st.1 s = true then (delD st.1 s, st.2 + 1) else st
def cancelF (L : List Due) (ss : List ByteArray) : List Due × Int := ss.foldl cstep (L, 0)
theorem cancel_succ {L : List Due} {ss : List ByteArray} {i : Nat} {s : ByteArray} (h : ss[i]? = some s) : cancelF L (ss.take (i + 1)) = cstep (cancelF L (ss.take i)) s := by
  unfold cancelF
  rw [take_succ_get h, List.foldl_append]
  rfl
theorem cancel_range (L : List Due) (ss : List ByteArray) : 0 ≤ (cancelF L ss).2 ∧ (cancelF L ss).2 ≤ ss.length := by
  unfold cancelF
  have : ∀ (ss : List ByteArray) (st : List Due × Int), st.2 ≤ (ss.foldl cstep st).2 ∧ (ss.foldl cstep st).2 ≤ st.2 + ss.length := by
    intro ss
    induction ss with
    | nil => intro st; simp
    | cons s ss ih =>
      intro st
      have := ih (cstep st s)
      have h2 : st.2 ≤ (cstep st s).2 ∧ (cstep st s).2 ≤ st.2 + 1 := by unfold cstep; split <;> simp <;> omega
      simp only [List.foldl_cons, List.length_cons]
      omega
  have := this ss (L, 0)
  simp only at this
  omega

theorem cancel_nil (F : Fr) {an : Option Addr} {n cn : Nat} : Spec Try.prog 14 #[.pointer none, .slice an n cn] [] F (fun v S => v = .int .i64 0 ∧ S = []) := by
 refine Spec.intro (N := 45) (args := [.pointer none, .slice an n cn]) Try.func14 rfl rfl (by simp) ?_
 refine Run.seq fun k1 hk1 => ?_
 refine Run.region ?_
 show Sq _ _ _ [0] _ _ _ _
 refine Sq.quiet (i := 0) rfl (Want.none rfl) rfl (ltN rfl) (QP.assign rfl rfl).read ?_
 refine Sq.nil ?_
 refine hk1 _ _ ?_
 refine Run.seq fun k2 hk2 => ?_
 refine Run.seq fun k3 hk3 => ?_
 refine Run.region ?_
 show Sq _ _ _ [0, 1] _ _ _ _
 refine Sq.quiet (i := 0) rfl (Want.none rfl) rfl (ltN rfl) (QP.move rfl rfl).read ?_
 refine Sq.quiet (i := 1) rfl (Want.none rfl) rfl (ltN rfl) (QP.ptr_eq_nil rfl rfl rfl Try.underlying23).read ?_
 refine Sq.nil ?_
 refine hk3 _ _ ?_
 refine Run.cond_t rfl ?_
 refine Run.seq fun k4 hk4 => ?_
 refine Run.region ?_
 show Sq _ _ _ [0] _ _ _ _
 refine Sq.quiet (i := 0) rfl (Want.none rfl) rfl (ltN rfl) (QP.assign rfl rfl).read ?_
 refine Sq.nil ?_
 refine hk4 _ _ ?_
 refine Run.ret ?_
 exact J.ends (res_tmp rfl rfl) Takes.nil ⟨rfl, rfl⟩

set_option maxHeartbeats 1000000 in
theorem cancel0 (F : Fr) {b r : Nat} {a : Option Addr} {c : Nat} {es0 : List Ent} {M0 : TabS} {L0 : List Due} (hq0 : QI es0 M0 L0) {an : Option Addr} {cn : Nat} {ss : List ByteArray} (hss : ss.length ≤ 1000000) (ha : ArgSl F an 1 (fun s => [Value.string s]) ss) (hsz0 : ∀ s ∈ ss, s.size ≤ maxLen) : Spec Try.prog 14 #[fp b, .slice an ss.length cn] [qB b r a c es0, arrA a c es0, rowsT es0, mapS r M0] F (fun v S => v = .int .i64 (cancelF L0 ss).2 ∧ ∃ es M, QI es M (cancelF L0 ss).1 ∧ S = [qB b r a c es, arrA a c es, rowsT es, mapS r M]) := by
 refine Spec.intro (N := 45) (args := [fp b, .slice an ss.length cn]) Try.func14 rfl rfl (by simp) ?_
 refine Run.seq fun k1 hk1 => ?_
 refine Run.region ?_
 show Sq _ _ _ [0] _ _ _ _
 refine Sq.quiet (i := 0) rfl (Want.none rfl) rfl (ltN rfl) (QP.assign rfl rfl).read ?_
 refine Sq.nil ?_
 refine hk1 _ _ ?_
 refine Run.seq fun k2 hk2 => ?_
 refine Run.seq fun k3 hk3 => ?_
 refine Run.region ?_
 show Sq _ _ _ [0, 1] _ _ _ _
 refine Sq.quiet (i := 0) rfl (Want.none rfl) rfl (ltN rfl) (QP.move rfl rfl).read ?_
 refine Sq.quiet (i := 1) rfl (Want.none rfl) rfl (ltN rfl) (QP.ptr_eq_nil rfl rfl rfl Try.underlying23).read ?_
 refine Sq.nil ?_
 refine hk3 _ _ ?_
 refine Run.cond_f rfl ?_
 refine Run.skip ?_
 refine hk2 _ _ ?_
 refine Run.seq fun k4 hk4 => ?_
 refine Run.seq fun k5 hk5 => ?_
 refine Run.region ?_
 show Sq _ _ _ [0, 1, 2] _ _ _ _
 refine Sq.quiet (i := 0) rfl (Want.none rfl) rfl (ltN rfl) (QP.move rfl rfl).read ?_
 refine Sq.quiet (i := 1) rfl (Want.none rfl) rfl (ltN rfl) (QP.len rfl rfl rfl Try.underlying33).read ?_
 refine Sq.quiet (i := 2) rfl (Want.none rfl) rfl (ltN rfl) (QP.move rfl rfl).read ?_
 refine Sq.nil ?_
 refine hk5 _ _ ?_
 refine Run.block ?_
 refine Run.loop5 (fun (i : Nat) (es : List Ent) (M : TabS) (L : List Due) (n : Int) => i ≤ ss.length ∧ QI es M L ∧ (L, n) = cancelF L0 (ss.take i)) (fun i es M L n => .cons 0 (fp b) (.cons 4 (.int .i64 n) (.cons 11 (.slice an ss.length cn) (.cons 12 (.int .i64 ss.length) (.cons 13 (.int .i64 i) (.nil)))))) (fun i es M L n => [qB b r a c es, arrA a c es, rowsT es, mapS r M]) (fun i es M L n => ss.length - i) (0) (es0) (M0) (L0) (0) (⟨Nat.zero_le _, hq0, rfl⟩) ?_ ?_
 ·exact fun _ j => J.envJ (J.keep (.cons (by repeat constructor) (.cons (by repeat constructor) (.cons (by repeat constructor) (.cons (by repeat constructor) Takes.nil)))) j) ⟨rfl, rfl, rfl, rfl, rfl, trivial⟩
 rintro i es M L n ⟨hile, hq, hLn⟩ kl6 hl6
 refine Run.seq fun k7 hk7 => ?_
 refine Run.region ?_
 show Sq _ _ _ [0] _ _ _ _
 refine Sq.quiet (i := 0) rfl (Want.none rfl) rfl (ltN rfl) (QP.lss rfl rfl rfl).read ?_
 refine J.caseD (fun c14 => ?_) (fun c14 => ?_)
 ·skip
  refine Sq.nil ?_
  refine hk7 _ _ ?_
  refine Run.seq fun k8 hk8 => ?_
  refine Run.cond_t rfl ?_
  refine Run.skip ?_
  refine hk8 _ _ ?_
  refine Run.seq fun k9 hk9 => ?_
  refine Run.block ?_
  refine Run.seq fun k10 hk10 => ?_
  refine Run.region ?_
  show Sq _ _ _ [0, 1, 2] _ _ _ _
  obtain ⟨s, hj⟩ : ∃ x, ss[i]? = some x := ⟨_, List.getElem?_eq_getElem (by omega)⟩
  obtain ⟨b0, o0, rfl, hs0⟩ := ha.get (by omega)
  have hsz := hsz0 s (List.mem_of_getElem? hj)
  have hkp := hq.keep
  have hcr := cancel_range L0 (ss.take i)
  rw [← hLn, List.length_take] at hcr
  simp only at hcr
  have hcs := cancel_succ (L := L0) hj
  rw [← hLn] at hcs
  refine Sq.quiet (i := 0) rfl (Want.none rfl) rfl (ltN rfl) (QP.indexAddr rfl rfl rfl Try.underlying33 z9 (by first | omega | (simp <;> omega)) (by first | omega | (simp <;> omega))).read ?_
  refine Sq.quiet (i := 1) rfl (Want.none rfl) rfl (ltN rfl) (QR.loadSl1 (ev := .string) rfl rfl g9 (hs0 _) hj) ?_
  refine Sq.quiet (i := 2) rfl (Want.none rfl) rfl (ltN rfl) (QP.assign rfl rfl).read ?_
  refine Sq.nil ?_
  refine hk10 _ _ ?_
  refine Run.seq fun k11 hk11 => ?_
  refine Run.region ?_
  show Sq _ _ _ [0, 1, 2, 3, 4, 5, 6, 7, 8, 9, 10] _ _ _ _
  refine Sq.quiet (i := 0) rfl (Want.none rfl) rfl (ltN rfl) (QP.move rfl rfl).read ?_
  refine Sq.quiet (i := 1) rfl (Want.none rfl) rfl (ltN rfl) (QP.nilCheck rfl rfl).read ?_
  refine Sq.quiet (i := 2) rfl (Want.none rfl) rfl (ltN rfl) (QP.fieldAddr rfl rfl f63_1).read ?_
  refine Sq.quiet (i := 3) rfl (Want.none rfl) rfl (ltN rfl) (QR.load1 rfl rfl g59 (TimerQueue.sub_by_ _)) ?_
  refine Sq.quiet (i := 4) rfl (Want.none rfl) rfl (ltN rfl) (QP.move rfl rfl).read ?_
  refine Sq.quiet (i := 5) rfl (Want.none rfl) rfl (ltN rfl) (QR.lkBoth (k := (⟨s, hsz⟩ : Str)) rfl rfl rfl) ?_
  rcases hl : alook M (⟨s, hsz⟩ : Str) with _ | c0
  ·skip
   refine Sq.quiet (i := 6) rfl (Want.none rfl) rfl (ltN rfl) (QP.move rfl rfl).read ?_
   refine Sq.quiet (i := 7) rfl (Want.none rfl) rfl (ltN rfl) (QP.extract rfl rfl rfl).read ?_
   refine Sq.quiet (i := 8) rfl (Want.none rfl) rfl (ltN rfl) (QP.extract rfl rfl rfl).read ?_
   refine Sq.quiet (i := 9) rfl (Want.none rfl) rfl (ltN rfl) (QP.assign rfl rfl).read ?_
   refine Sq.quiet (i := 10) rfl (Want.none rfl) rfl (ltN rfl) (QP.assign rfl rfl).read ?_
   refine Sq.nil ?_
   refine hk11 _ _ ?_
   refine Run.seq fun k12 hk12 => ?_
   refine Run.region ?_
   show Sq _ _ _ [0] _ _ _ _
   refine Sq.quiet (i := 0) rfl (Want.none rfl) rfl (ltN rfl) (QP.move rfl rfl).read ?_
   refine Sq.nil ?_
   refine hk12 _ _ ?_
   refine Run.cond_f rfl ?_
   refine Run.skip ?_
   refine hk9 _ _ ?_
   refine Run.region ?_
   show Sq _ _ _ [0, 1] _ _ _ _
   have hno := hq.look_none hl
   rw [show cstep (L, n) s = (L, n) by unfold cstep; rw [if_neg (by rw [hno]; simp)]] at hcs
   refine Sq.quiet (i := 0) rfl (Want.none rfl) rfl (ltN rfl) (QP.add64 rfl rfl rfl (by first | omega | (simp <;> omega)) (by first | omega | (simp <;> omega))).read ?_
   refine Sq.quiet (i := 1) rfl (Want.none rfl) rfl (ltN rfl) (QP.move rfl rfl).read ?_
   refine Sq.nil ?_
   exact J.envJ (J.keep (.cons (by repeat constructor) (.cons (by repeat constructor) (.cons (by repeat constructor) (.cons (by repeat constructor) Takes.nil)))) (hl6 (i + 1) (es) (M) (L) (n) (⟨by omega, hq, hcs.symm⟩) (by omega))) ⟨rfl, rfl, rfl, rfl, rfl, trivial⟩
  ·skip
   refine Sq.quiet (i := 6) rfl (Want.none rfl) rfl (ltN rfl) (QP.move rfl rfl).read ?_
   refine Sq.quiet (i := 7) rfl (Want.none rfl) rfl (ltN rfl) (QP.extract rfl rfl rfl).read ?_
   refine Sq.quiet (i := 8) rfl (Want.none rfl) rfl (ltN rfl) (QP.extract rfl rfl rfl).read ?_
   refine Sq.quiet (i := 9) rfl (Want.none rfl) rfl (ltN rfl) (QP.assign rfl rfl).read ?_
   refine Sq.quiet (i := 10) rfl (Want.none rfl) rfl (ltN rfl) (QP.assign rfl rfl).read ?_
   refine Sq.nil ?_
   refine hk11 _ _ ?_
   refine Run.seq fun k13 hk13 => ?_
   refine Run.region ?_
   show Sq _ _ _ [0] _ _ _ _
   refine Sq.quiet (i := 0) rfl (Want.none rfl) rfl (ltN rfl) (QP.move rfl rfl).read ?_
   refine Sq.nil ?_
   refine hk13 _ _ ?_
   refine Run.cond_t rfl ?_
   refine Run.seq fun k14 hk14 => ?_
   refine Run.regionD (M := [0, 1, 3, 7, 0, 16, 48, 112, 255]) (q := 255) (r := 128) (by kernel_rfl) ?_
   obtain ⟨j, e, hje, rfl, hnm, hpj, hmem⟩ := hq.look hl
   have hlt := (List.getElem?_eq_some_iff.1 hje).1
   obtain ⟨rest, hp1, hp2⟩ := one_out hje
   refine J.openE (by repeat constructor) (fun _ g => (⟨(), rowsO_one hp1 g⟩ : ∃ _ : Unit, _)) fun _ => ?_
   refine J.app ?_
   refine Dw.pure (i := 0) rfl (by kernel_rfl) (Want.none rfl) rfl (ltN rfl) (QP.move rfl rfl) ?_
   refine Dw.pure (i := 1) rfl (by kernel_rfl) (Want.none rfl) rfl (ltN rfl) (QP.nilCheck rfl rfl) ?_
   refine Dw.pure (i := 2) rfl (by kernel_rfl) (Want.none rfl) rfl (ltN rfl) (QP.fieldAddr rfl rfl f63_0) ?_
   refine Dw.pure (i := 3) rfl (by kernel_rfl) (Want.none rfl) rfl (ltN rfl) (QP.makeIface rfl rfl Try.underlying69 (fun l h => by cases h)) ?_
   refine Dw.pure (i := 4) rfl (by kernel_rfl) (Want.none rfl) rfl (ltN rfl) (QP.move rfl rfl) ?_
   refine Dw.pure (i := 5) rfl (by kernel_rfl) (Want.none rfl) rfl (ltN rfl) (QP.nilCheck rfl rfl) ?_
   refine Dw.pure (i := 6) rfl (by kernel_rfl) (Want.none rfl) rfl (ltN rfl) (QP.fieldAddr rfl rfl f67_1) ?_
   refine Dw.read (i := 7) rfl (by kernel_rfl) (Want.none rfl) rfl (ltN rfl) (QR.load1 rfl rfl g3 (TimerOne.sub_place _)) ?_
   rw [hpj]
   refine J.close (A := rowsT es) (m := [blk e.1 (TimerOne.enc e.2) 67, rowsO TimerOne.enc 67 rest]) (.cons (by repeat constructor) (.cons (by repeat constructor) Takes.nil)) (fun _ g => rowsO_of_one hp1 g) ?_
   refine Dw.eff (i := 8) (by kernel_rfl) (by kernel_rfl) ?_
   refine One.mk (o := _) (l := []) rfl (by kernel_rfl) (Want.none rfl) rfl (ltN rfl) (EF.call rfl ce29 rfl (.cons (by repeat constructor) (.cons (by repeat constructor) (.cons (by repeat constructor) Takes.nil))) (fun F' hle hr => remove_spec F' (es0 := es) (by omega) hq.placed hq.heap j (by omega))) (by kernel_rfl) ?_
   rintro _ _ ⟨_, ⟨es2, x2, hx2, hpm, hpl2, hh2, rfl⟩, rfl⟩
   refine ⟨fun _ h => (by cases h), ?_⟩
   refine J.app ?_
   refine Dw.nil (by kernel_rfl) ?_
   refine hk14 _ _ ?_
   refine Run.seq fun k15 hk15 => ?_
   refine Run.region ?_
   show Sq _ _ _ [0, 1, 2, 3, 4, 5] _ _ _ _
   cases hje.symm.trans hx2
   have hq2 := hq.del hl hje rfl hnm hpm hpl2 hh2
   have hhas : hasD L s = true := hasD_iff.2 ⟨_, hmem, hnm⟩
   refine Sq.quiet (i := 0) rfl (Want.none rfl) rfl (ltN rfl) (QP.move rfl rfl).read ?_
   refine Sq.quiet (i := 1) rfl (Want.none rfl) rfl (ltN rfl) (QP.nilCheck rfl rfl).read ?_
   refine Sq.quiet (i := 2) rfl (Want.none rfl) rfl (ltN rfl) (QP.fieldAddr rfl rfl f63_1).read ?_
   refine Sq.quiet (i := 3) rfl (Want.none rfl) rfl (ltN rfl) (QR.load1 rfl rfl g59 (TimerQueue.sub_by_ _)) ?_
   refine Sq.quiet (i := 4) rfl (Want.none rfl) rfl (ltN rfl) (QP.move rfl rfl).read ?_
   refine Sq.act (i := 5) rfl (Want.none rfl) rfl (EF.delete (k := (⟨s, hsz⟩ : Str)) key9 rfl rfl rfl rfl Try.underlying59) ?_
   rintro _ _ rfl
   refine Sq.nil ?_
   refine hk15 _ _ ?_
   refine Run.region ?_
   show Sq _ _ _ [0, 1, 2] _ _ _ _
   refine Sq.quiet (i := 0) rfl (Want.none rfl) rfl (ltN rfl) (QP.move rfl rfl).read ?_
   refine Sq.quiet (i := 1) rfl (Want.none rfl) rfl (ltN rfl) (QP.add64 rfl rfl rfl (by first | omega | (simp <;> omega)) (by first | omega | (simp <;> omega))).read ?_
   refine Sq.quiet (i := 2) rfl (Want.none rfl) rfl (ltN rfl) (QP.assign rfl rfl).read ?_
   refine Sq.nil ?_
   refine hk9 _ _ ?_
   refine Run.region ?_
   show Sq _ _ _ [0, 1] _ _ _ _
   rw [show cstep (L, n) s = (delD L s, n + 1) by unfold cstep; rw [if_pos hhas]] at hcs
   refine Sq.quiet (i := 0) rfl (Want.none rfl) rfl (ltN rfl) (QP.add64 rfl rfl rfl (by first | omega | (simp <;> omega)) (by first | omega | (simp <;> omega))).read ?_
   refine Sq.quiet (i := 1) rfl (Want.none rfl) rfl (ltN rfl) (QP.move rfl rfl).read ?_
   refine Sq.nil ?_
   exact J.envJ (J.keep (.cons (by repeat constructor) (.cons (by repeat constructor) (.cons (by repeat constructor) (.cons (by repeat constructor) Takes.nil)))) (hl6 (i + 1) (es2) (adel M (⟨s, hsz⟩ : Str)) (delD L s) (n + 1) (⟨by omega, hq2, hcs.symm⟩) (by omega))) ⟨rfl, rfl, rfl, rfl, rfl, trivial⟩
 ·skip
  refine Sq.nil ?_
  refine hk7 _ _ ?_
  refine Run.seq fun k16 hk16 => ?_
  refine Run.cond_f rfl ?_
  refine Run.exit rfl ?_
  refine hk4 _ _ ?_
  refine Run.seq fun k17 hk17 => ?_
  refine Run.region ?_
  show Sq _ _ _ [0, 1] _ _ _ _
  refine Sq.quiet (i := 0) rfl (Want.none rfl) rfl (ltN rfl) (QP.move rfl rfl).read ?_
  refine Sq.quiet (i := 1) rfl (Want.none rfl) rfl (ltN rfl) (QP.assign rfl rfl).read ?_
  refine Sq.nil ?_
  refine hk17 _ _ ?_
  refine Run.ret ?_
  rw [show ss.take i = ss from List.take_of_length_le (by omega)] at hLn
  rw [← hLn]
  exact J.ends (res_tmp rfl rfl) (.cons (by repeat constructor) (.cons (by repeat constructor) (.cons (by repeat constructor) (.cons (by repeat constructor) Takes.nil)))) ⟨rfl, es, M, hq, rfl⟩
end Slb
