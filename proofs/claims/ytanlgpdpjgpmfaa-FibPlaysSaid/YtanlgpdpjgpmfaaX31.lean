/- X31: a part of the proof that a law of this package holds for every input; no condition. -/
import Derived.Test.YtanlgpdpjgpmfaaX30
namespace Slb
open Go Go.Proofs
set_option maxRecDepth 20000
/-- The document's Fib beside the program's, whole. -/
def wl (Fl : TabI) : List Ref19Wait := Fl.map fun e => ⟨e.1, e.2⟩
theorem untilL_wl (Fl : TabI) (p : Pair) : untilL (wl Fl) p = alook Fl p := by
  induction Fl with
  | nil => rfl
  | cons e M ih =>
    obtain ⟨k, v⟩ := e
    unfold untilL wl at *
    rw [List.map_cons, List.find?_cons]
    by_cases h : k = p
    · subst h
      simp [alook]
    · rw [show decide ((⟨k, v⟩ : Ref19Wait).p = p) = false by simpa using h]
      simp only
      rw [ih]
      simp [alook, h]
theorem adel_filterI {M : TabI} (hn : (M.map (·.1)).Nodup) (k : Pair) : adel M k = M.filter fun e => decide (e.1 ≠ k) := adel_filter hn k
theorem replyFs_wl {Fl : TabI} (hn : (Fl.map (·.1)).Nodup) (now : Int) (o : Op) (ok : Bool) : replyFs (wl Fl) now o.entry.pair ok = wl (replyF Fl now o ok) := by
  have h1 : (wl Fl).filter (notP o.entry.pair) = wl (adel Fl o.entry.pair) := by
    rw [adel_filterI hn]
    unfold wl
    rw [List.filter_map]
    rfl
  unfold replyFs replyF
  rw [h1]
  cases ok
  · simp only [Bool.false_eq_true, if_false]
    rw [aset_none]
    · unfold wl; simp
    · rw [adel_filterI hn]
      exact alook_none.2 fun e he => by simpa using (List.mem_filter.1 he).2
  · rfl
theorem replyF_nodup {Fl : TabI} (hn : (Fl.map (·.1)).Nodup) (now : Int) (o : Op) (ok : Bool) : ((replyF Fl now o ok).map (·.1)).Nodup := by
  have h := nodup_adel hn o.entry.pair
  unfold replyF
  split
  · exact h
  · exact nodup_set h _ _
theorem replyF_len {Fl : TabI} (now : Int) (o : Op) (ok : Bool) : (replyF Fl now o ok).length ≤ Fl.length + 1 := by
  have h : (adel Fl o.entry.pair).length ≤ Fl.length := by
    cases hq : alook Fl o.entry.pair with
    | none => rw [adel_none hq]; exact Nat.le_refl _
    | some v => obtain ⟨A, B, rfl, hA⟩ := alook_split hq; rw [adel_split hA]; simp
  unfold replyF
  split
  · omega
  · cases hq : alook (adel Fl o.entry.pair) o.entry.pair with
    | none => rw [aset_none hq]; simp; omega
    | some v =>
      obtain ⟨A, B, h1, hA⟩ := alook_split hq
      rw [h1] at h
      rw [h1, aset_split hA]
      simp at h ⊢
      omega
structure RX where
  ah : Option Addr
  ch : Nat
  aw : Option Addr
  cw : Nat
  af : Option Addr
  cf : Nat
  way : Op
structure RQ (s : FibS) (x : RX) : Prop where
  h : SlH x.ah x.ch (ordL s.H)
  w : SlH x.aw x.cw (ordL s.Wt)
  f : SlH x.af x.cf (wl s.Fl)
  way : ∀ o, s.way = some o → x.way = o
def RefL (b : Nat) (s : FibS) (x : RX) : List HProp := [blk b (Ref19Fib.enc ⟨⟨x.ah, (ordL s.H).length, x.ch⟩, ⟨x.aw, (ordL s.Wt).length, x.cw⟩, ⟨x.af, (wl s.Fl).length, x.cf⟩, x.way, s.way.isSome⟩) 45, slA 41 51 Entry.enc (.slice x.ah (ordL s.H).length x.ch) (ordL s.H), slA 41 51 Entry.enc (.slice x.aw (ordL s.Wt).length x.cw) (ordL s.Wt), slA 86 35 Ref19Wait.enc (.slice x.af (wl s.Fl).length x.cf) (wl s.Fl)]
def RefA (b : Nat) (s : FibS) : HProp := ex fun x : RX => stars (Slb.fact (RQ s x) :: RefL b s x)
theorem refA_open {b : Nat} {s : FibS} (p : PH) (h : RefA b s p) : ∃ x, stars (Slb.fact (RQ s x) :: RefL b s x) p := h
theorem refA_mk {b : Nat} {s : FibS} (x : RX) (hq : RQ s x) (p : PH) (h : stars (RefL b s x) p) : RefA b s p :=
  ⟨x, PH.none, p, PH.none_disj p, (PH.none_union p).symm, ⟨hq, rfl⟩, h⟩
theorem Spec.refOpen {f : FuncId} {args : Array Value} {F : Fr} {R : Value → List HProp → Prop} {b : Nat} {s : FibS} (j : ∀ x, RQ s x → Spec Try.prog f args (RefL b s x) F R) : Spec Try.prog f args [RefA b s] F R :=
  Spec.open refA_open fun x => Spec.fact (j x)
/-- What both hold. -/
structure POk (s : FibS) : Prop where
  ok : s.Ok
  nd : (s.Fl.map (·.1)).Nodup
  fl : s.Fl.length ≤ 1000
  k3 : ∀ o, s.way = some o → o.kind = 3 → (alook s.H o.entry.pair).isSome = true
theorem POk.len {s : FibS} (h : POk s) : (ordL s.H).length ≤ 100000 ∧ (ordL s.Wt).length ≤ 600000 ∧ (wl s.Fl).length ≤ 1000000 := by
  refine ⟨?_, ?_, ?_⟩
  · rw [h.ok.h.ordL.length]; exact h.ok.hl
  · rw [h.ok.w.ordL.length]; exact h.ok.wl
  · unfold wl; rw [List.length_map]; exact Nat.le_trans h.fl (by decide)
theorem rwantA (F : Fr) {b : Nat} (s : FibS) {a : Option Addr} {c : Nat} {xs : List Entry} (ha : ArgSl F a 51 Entry.enc xs) (hl : xs.length ≤ 24) : Spec Try.prog 17 #[fp b, .slice a xs.length c] [RefA b s] F (fun v S => ∃ L', v = .tuple #[] ∧ Expands xs L' ∧ S = [RefA b ⟨s.H, tabOf L', s.Fl, s.way⟩]) := by
  refine Spec.refOpen fun x hx => ?_
  refine Spec.part [blk b (Ref19Fib.enc ⟨⟨x.ah, (ordL s.H).length, x.ch⟩, ⟨x.aw, (ordL s.Wt).length, x.cw⟩, ⟨x.af, (wl s.Fl).length, x.cf⟩, x.way, s.way.isSome⟩) 45] [slA 41 51 Entry.enc (.slice x.ah (ordL s.H).length x.ch) (ordL s.H), slA 41 51 Entry.enc (.slice x.aw (ordL s.Wt).length x.cw) (ordL s.Wt), slA 86 35 Ref19Wait.enc (.slice x.af (wl s.Fl).length x.cf) (wl s.Fl)] (List.Perm.refl _) (fun F' hle hr => rwant_spec F' (ha.mono hle) hl) ?_
  rintro v _ w ⟨L', a2, c2, h1, h2, h3, rfl⟩ s1
  refine ⟨_, ⟨L', h1, h2, rfl⟩, ?_⟩
  have hord : ordL (tabOf L') = L' := by obtain ⟨L, _, e⟩ := h2; exact ordL_eq (tabOf_ord e)
  have s2 : Sat (RefL b ⟨s.H, tabOf L', s.Fl, s.way⟩ ⟨x.ah, x.ch, a2, c2, x.af, x.cf, x.way⟩) F w := by
    unfold RefL
    simp only [hord]
    refine Sat.dropR (r := [slA 41 51 Entry.enc (.slice x.aw (ordL s.Wt).length x.cw) (ordL s.Wt)]) (s1.perm ?_)
    simp only [List.cons_append, List.nil_append]
    refine List.Perm.cons _ ?_
    exact (List.Perm.swap _ _ _).trans (List.Perm.cons _ (List.Perm.cons _ (List.Perm.swap _ _ _)))
  exact Sat.pack1 s2 (refA_mk _ ⟨hx.h, by rw [show (FibS.mk s.H (tabOf L') s.Fl s.way).Wt = tabOf L' from rfl, hord]; exact h3, hx.f, hx.way⟩)
theorem rnextA (F : Fr) {b : Nat} {s : FibS} (hs : POk s) (now : Int) : Spec Try.prog 19 #[fp b, .int .i64 now] [RefA b s] F (fun v S => v = .tuple #[.agg (Op.enc ((s.next now).getD Op.zero)).toArray, .bool (s.next now).isSome] ∧ S = [RefA b (s.gone now)]) := by
  obtain ⟨l1, l2, l3⟩ := hs.len
  refine Spec.refOpen fun x hx => ?_
  obtain ⟨H, Wt, Fl, way⟩ := s
  cases way with
  | none =>
    refine Spec.post (rnext_spec F (busy := false) hs.ok.h.ordL hs.ok.w.ordL hx.h hx.w hx.f l1 l2 l3 (untilL_wl Fl) now) ?_
    rintro v _ w (⟨e1, e2, rfl⟩ | ⟨o, e1, e2, rfl⟩) s
    · have hn : FibS.next ⟨H, Wt, Fl, none⟩ now = none := e1
      unfold FibS.gone
      rw [hn]
      exact ⟨_, ⟨e2, rfl⟩, Sat.pack1 s (refA_mk x hx)⟩
    · have hn : FibS.next ⟨H, Wt, Fl, none⟩ now = some o := e1
      unfold FibS.gone
      rw [hn]
      exact ⟨_, ⟨e2, rfl⟩, Sat.pack1 s (refA_mk (s := ⟨H, Wt, Fl, some o⟩) ⟨x.ah, x.ch, x.aw, x.cw, x.af, x.cf, o⟩ ⟨hx.h, hx.w, hx.f, fun o2 h => by cases h; rfl⟩)⟩
  | some o =>
    refine Spec.post (rnext_busy F (busy := true) hs.ok.h.ordL hs.ok.w.ordL hx.h hx.w hx.f l1 l2 l3 (untilL_wl Fl) now) ?_
    rintro v _ w ⟨e2, rfl⟩ s
    exact ⟨_, ⟨e2, rfl⟩, Sat.pack1 s (refA_mk x hx)⟩
theorem ratA (F : Fr) {b : Nat} {s : FibS} (hs : POk s) : Spec Try.prog 24 #[fp b] [RefA b s] F (fun v S => v = .tuple #[.int .i64 (s.todo.foldl (astep s.Fl) (0, false)).1, .bool (s.todo.foldl (astep s.Fl) (0, false)).2] ∧ S = [RefA b s]) := by
  obtain ⟨l1, l2, l3⟩ := hs.len
  refine Spec.refOpen fun x hx => ?_
  refine Spec.post (rat_spec F hs.ok.h.ordL hs.ok.w.ordL hx.h hx.w hx.f l1 l2 l3 (untilL_wl s.Fl)) ?_
  rintro v _ w ⟨e2, rfl⟩ s1
  exact ⟨_, ⟨e2, rfl⟩, Sat.pack1 s1 (refA_mk x hx)⟩
theorem rdrainedA (F : Fr) {b : Nat} {s : FibS} (hs : POk s) : Spec Try.prog 26 #[fp b] [RefA b s] F (fun v S => v = .bool s.dry ∧ S = [RefA b s]) := by
  obtain ⟨l1, l2, l3⟩ := hs.len
  refine Spec.refOpen fun x hx => ?_
  obtain ⟨H, Wt, Fl, way⟩ := s
  cases way with
  | none =>
    refine Spec.post (rdrained_spec F (busy := false) hs.ok.h.ordL hs.ok.w.ordL hx.h hx.w hx.f l1 l2 l3 (untilL_wl Fl)) ?_
    rintro v _ w ⟨e2, rfl⟩ s
    exact ⟨_, ⟨e2, rfl⟩, Sat.pack1 s (refA_mk x hx)⟩
  | some o =>
    refine Spec.post (rdrained_busy F (busy := true) hs.ok.h.ordL hs.ok.w.ordL hx.h hx.w hx.f l1 l2 l3 (untilL_wl Fl)) ?_
    rintro v _ w ⟨e2, rfl⟩ s
    exact ⟨_, ⟨e2, rfl⟩, Sat.pack1 s (refA_mk x hx)⟩
theorem rreplyA (F : Fr) {b : Nat} {s : FibS} (hs : POk s) (now : Int) (hn : -4611686018427387904 ≤ now ∧ now ≤ 4611686018427387904) (ok : Bool) : Spec Try.prog 22 #[fp b, .int .i64 now, .bool ok] [RefA b s] F (fun v S => v = .int .i64 (if s.way.isSome then 0 else 7) ∧ S = [RefA b (s.told now ok)]) := by
  obtain ⟨l1, l2, l3⟩ := hs.len
  refine Spec.refOpen fun x hx => ?_
  obtain ⟨H, Wt, Fl, way⟩ := s
  cases way with
  | none =>
    refine Spec.part [blk b (Ref19Fib.enc ⟨⟨x.ah, (ordL H).length, x.ch⟩, ⟨x.aw, (ordL Wt).length, x.cw⟩, ⟨x.af, (wl Fl).length, x.cf⟩, x.way, false⟩) 45] [slA 41 51 Entry.enc (.slice x.ah (ordL H).length x.ch) (ordL H), slA 41 51 Entry.enc (.slice x.aw (ordL Wt).length x.cw) (ordL Wt), slA 86 35 Ref19Wait.enc (.slice x.af (wl Fl).length x.cf) (wl Fl)] (List.Perm.refl _) (fun F' hle hr => rreply_none F' now ok) ?_
    rintro v _ w ⟨e2, rfl⟩ s
    exact ⟨_, ⟨e2, rfl⟩, Sat.pack1 s (refA_mk x hx)⟩
  | some o =>
    obtain rfl := hx.way o rfl
    refine Spec.part [blk b (Ref19Fib.enc ⟨⟨x.ah, (ordL H).length, x.ch⟩, ⟨x.aw, (ordL Wt).length, x.cw⟩, ⟨x.af, (wl Fl).length, x.cf⟩, x.way, true⟩) 45, slA 41 51 Entry.enc (.slice x.ah (ordL H).length x.ch) (ordL H), slA 86 35 Ref19Wait.enc (.slice x.af (wl Fl).length x.cf) (wl Fl)] [slA 41 51 Entry.enc (.slice x.aw (ordL Wt).length x.cw) (ordL Wt)] ?_ (fun F' hle hr => rreply_spec F' hs.ok.h.ordL hx.h hx.f l1 l3 (hs.k3 _ rfl) now hn ok) ?_
    · exact List.Perm.cons _ (List.Perm.cons _ (List.Perm.swap _ _ _))
    rintro v _ w ⟨ah2, ch2, LH2, af2, cf2, Fs2, e1, e2, e3, e4, e5, rfl⟩ s
    obtain rfl := ordL_eq e4
    rw [replyFs_wl hs.nd] at e5
    subst e5
    have s2 : Sat (RefL b ⟨replyH H x.way ok, Wt, replyF Fl now x.way ok, none⟩ ⟨ah2, ch2, x.aw, x.cw, af2, cf2, x.way⟩) F w := s.perm (List.Perm.cons _ (List.Perm.cons _ (List.Perm.swap _ _ _)))
    exact ⟨_, ⟨e1, rfl⟩, Sat.pack1 s2 (refA_mk _ ⟨e2, hx.w, e3, fun o h => by cases h⟩)⟩
theorem atA (F : Fr) {b : Nat} {s : FibS} (hs : s.Ok) : Spec Try.prog 23 #[fp b] [FibA b s] F (fun v S => v = .tuple #[.int .i64 (s.todo.foldl (astep s.Fl) (0, false)).1, .bool (s.todo.foldl (astep s.Fl) (0, false)).2] ∧ S = [FibA b s]) := by
  obtain ⟨H, Wt, Fl, way⟩ := s
  obtain ⟨h1, h2, h3, h4⟩ := hs
  cases way with
  | none =>
    refine Spec.open fibA_none fun ⟨r1, r2, r3⟩ => ?_
    refine Spec.part [mapE r1 H, mapE r2 Wt, mapI r3 Fl] [blk b (FibFib.enc ⟨some r1, some r2, some r3, none⟩) 81] ?_ (fun F' hle hr => at_spec F' (r1 := r1) (r2 := r2) (r3 := r3) ⟨hr _ _ List.mem_cons_self⟩ h3 h4 h1.ordL h2.ordL) ?_
    · exact (List.perm_append_comm (l₁ := [blk b (FibFib.enc ⟨some r1, some r2, some r3, none⟩) 81]) (l₂ := [mapE r1 H, mapE r2 Wt, mapI r3 Fl]))
    rintro v _ w ⟨e2, rfl⟩ s
    refine ⟨_, ⟨e2, rfl⟩, Sat.pack1 (m := FibN b H Wt Fl (r1, r2, r3)) (s.perm ?_) fibA_mkN⟩
    exact (List.perm_append_comm (l₁ := [mapE r1 H, mapE r2 Wt, mapI r3 Fl]) (l₂ := [blk b (FibFib.enc ⟨some r1, some r2, some r3, none⟩) 81]))
  | some o =>
    refine Spec.open fibA_some fun ⟨r1, r2, r3, bw⟩ => ?_
    refine Spec.part [mapE r1 H, mapE r2 Wt, mapI r3 Fl] [blk b (FibFib.enc ⟨some r1, some r2, some r3, some ⟨bw, 0, none⟩⟩) 81, blk bw (Op.enc o) 43] ?_ (fun F' hle hr => at_spec F' (r1 := r1) (r2 := r2) (r3 := r3) ⟨hr _ _ List.mem_cons_self⟩ h3 h4 h1.ordL h2.ordL) ?_
    · exact (List.perm_append_comm (l₁ := [blk b (FibFib.enc ⟨some r1, some r2, some r3, some ⟨bw, 0, none⟩⟩) 81]) (l₂ := [mapE r1 H, mapE r2 Wt, mapI r3 Fl])).append_right [blk bw (Op.enc o) 43] |>.trans (by rw [List.append_assoc]; exact List.Perm.refl _)
    rintro v _ w ⟨e2, rfl⟩ s
    refine ⟨_, ⟨e2, rfl⟩, Sat.pack1 (m := FibY b H Wt Fl o (r1, r2, r3, bw)) (s.perm ?_) fibA_mkY⟩
    exact ((List.perm_append_comm (l₁ := [blk b (FibFib.enc ⟨some r1, some r2, some r3, some ⟨bw, 0, none⟩⟩) 81]) (l₂ := [mapE r1 H, mapE r2 Wt, mapI r3 Fl])).append_right [blk bw (Op.enc o) 43] |>.trans (by rw [List.append_assoc]; exact List.Perm.refl _)).symm
end Slb
