/- J77: a part of the proof that a law of this package holds for every input; no condition. -/
import Derived.Test.YtfokodhfjdhdaaaGreatJ76
import Derived.Test.YtfokodhfjdhdaaaGreatM2
namespace Slb
open Go Go.Proofs
set_option maxRecDepth 20000
theorem set_sm {α : Type} {L : List α} {i : Nat} {x : α} (h : L[i]? = some x) : L.set i x = L := by
 obtain ⟨h1, rfl⟩ := List.getElem?_eq_some_iff.1 h
 exact List.set_getElem_self h1
theorem sat_fact {F : Fr} {w : World} {S : List HProp} {p : Prop} (hp : p) (s : Sat S F w) : Sat (Slb.fact p :: S) F w := by
 obtain ⟨a, b, c, d, k, hk, f, h⟩ := s
 exact ⟨a, b, c, d, k, ⟨PH.none, k, PH.none_disj k, (PH.none_union k).symm, ⟨hp, rfl⟩, hk⟩, f, h⟩
theorem p4 {α : Type} (a b c d : α) : [a, b, c, d].Perm [b, d, c, a] := (List.Perm.swap b a [c, d]).trans (List.Perm.cons b (List.reverse_perm [a, c, d]).symm)
section
variable {f : FuncId} {args : Array Value} {F : Fr} {b : Nat} {M : List OneX} {i : Nat} {x : OneX}
theorem Spec.factS {p : Prop} {S : List HProp} {R : Value → List HProp → Prop} (h : p → Spec Tryz.prog f args S F R) : Spec Tryz.prog f args (Slb.fact p :: S) F R := fun w s => by
 obtain ⟨hp, s'⟩ := s.fact
 exact h hp w s'
theorem qs_look {L : List (Nat × OneX)} (hL : L.map (·.2) = M) (hi : M[i]? = some x) : ∃ bi, L[i]? = some (bi, x) := by
 rw [← hL, List.getElem?_map] at hi
 cases hq : L[i]? with
 | none => rw [hq] at hi; cases hi
 | some e =>
   rw [hq] at hi
   obtain ⟨bi, x'⟩ := e
   exact ⟨bi, by rw [show x' = x from Option.some.inj hi]⟩
/-- One interface alone is the function's own. -/
theorem Spec.qsAt {R1 : Value → OneX → List HProp → Prop} (hi : M[i]? = some x)
   (h : ∀ (F' : Fr) (a : Option Addr) (c : Nat) (bs : List Nat) (bi : Nat), PH.le F.h F'.h → InS F' b a c bs → bs[i]? = some bi → Spec Tryz.prog f args [oneA bi x] F' (fun v S => ∃ x' T, R1 v x' T ∧ S = oneA bi x' :: T)) :
   Spec Tryz.prog f args [QS b M] F (fun v S => ∃ x' T, R1 v x' T ∧ S = QS b (M.set i x') :: T) := by
 refine Spec.open qs_open fun z => ?_
 obtain ⟨a, c, L⟩ := z
 refine Spec.factS fun hL => ?_
 obtain ⟨bi, hLi⟩ := qs_look hL hi
 have hbi : (L.map (·.1))[i]? = some bi := by rw [List.getElem?_map, hLi]; rfl
 refine Spec.conseq (S1 := [slA 88 1 ptE (.slice a (L.map (·.1)).length c) (L.map (·.1)), oneA bi x, blk b (IfaceSet.enc ⟨⟨a, (L.map (·.1)).length, c⟩⟩) 87, rowsW oneA (L.eraseIdx i)]) (fun w s => ?_)
   (Spec.lendSl (e := 88) (z := 1) (enc := ptE) (a := a) (c := c) (R := fun v S' => ∃ S1, (∃ x' T, R1 v x' T ∧ S1 = oneA bi x' :: T) ∧ S' = S1 ++ [blk b (IfaceSet.enc ⟨⟨a, (L.map (·.1)).length, c⟩⟩) 87, rowsW oneA (L.eraseIdx i)]) (xs := L.map (·.1)) (fun _ => rfl) (fun F1 hle1 ha => Spec.lend (m := [oneA bi x]) (r := [blk b (IfaceSet.enc ⟨⟨a, (L.map (·.1)).length, c⟩⟩) 87, rowsW oneA (L.eraseIdx i)]) fun F2 hle2 hr => h F2 a c (L.map (·.1)) bi (hle1.trans hle2) ⟨hr _ _ List.mem_cons_self, ha.mono hle2⟩ hbi)) ?_
 · have s1 : Sat (rowsW oneA L :: [blk b (IfaceSet.enc ⟨⟨a, (L.map (·.1)).length, c⟩⟩) 87, slA 88 1 ptE (.slice a (L.map (·.1)).length c) (L.map (·.1))]) F w := s.perm (List.perm_append_comm (l₁ := [_, _]) (l₂ := [_]))
   have s2 := (s1.head fun p hp => rowsW_at hLi hp).flat
   exact s2.perm (p4 _ _ _ _).symm
 · rintro v S' w ⟨S2, ⟨S3, ⟨x', T, h1, rfl⟩, rfl⟩, rfl⟩ s
   refine ⟨_, ⟨x', T, h1, rfl⟩, ?_⟩
   have s0 : Sat ([slA 88 1 ptE (.slice a (L.map (·.1)).length c) (L.map (·.1)), oneA bi x', blk b (IfaceSet.enc ⟨⟨a, (L.map (·.1)).length, c⟩⟩) 87, rowsW oneA (L.eraseIdx i)] ++ T) F w := s.perm (List.Perm.cons _ (List.Perm.cons _ List.perm_append_comm))
   have s1 : Sat ([oneA bi x', rowsW oneA (L.eraseIdx i)] ++ ([blk b (IfaceSet.enc ⟨⟨a, (L.map (·.1)).length, c⟩⟩) 87, slA 88 1 ptE (.slice a (L.map (·.1)).length c) (L.map (·.1))] ++ T)) F w := s0.perm (List.Perm.append_right T (p4 _ _ _ _))
   have s2 := s1.pack (fun p hp => rowsW_back (e := (bi, x)) hLi hp)
   have hm : (L.set i (bi, x')).map (·.1) = L.map (·.1) := by
     rw [List.map_set]
     exact set_sm hbi
   have s3 : Sat ([blk b (IfaceSet.enc ⟨⟨a, ((L.set i (bi, x')).map (·.1)).length, c⟩⟩) 87, slA 88 1 ptE (.slice a ((L.set i (bi, x')).map (·.1)).length c) ((L.set i (bi, x')).map (·.1)), rowsW oneA (L.set i (bi, x'))] ++ T) F w := by
     rw [hm]
     exact s2.perm (List.Perm.append_right T (List.perm_append_comm (l₁ := [rowsW oneA (L.set i (bi, x'))]) (l₂ := [_, _])))
   exact s3.pack (fun p hp => qs_mk (by rw [List.map_set, hL]) p hp)
/-- What an interface is behind a turn. -/
def turnX (x : OneX) (u : Bool) : OneX := if x.up = u then x else { x with up := u, ws := [] }
theorem turn_one {bi : Nat} {u : Bool} {F : Fr} (h : ∀ (F' : Fr) (o : IfaceOne), PH.le F.h F'.h → Spec Tryz.prog f args [blk bi (IfaceOne.enc o) 91] F' (fun v S => v = .int .i64 (if o.up = u then (8 : Int) else 0) ∧ S = [blk bi (IfaceOne.enc (if o.up = u then o else { o with up := u, wait := none })) 91])) :
   Spec Tryz.prog f args [oneA bi x] F (fun v S => ∃ x' T, (v = .int .i64 (if x.up = u then (8 : Int) else 0) ∧ x' = turnX x u ∧ T = []) ∧ S = oneA bi x' :: T) := by
 refine Spec.open one_open fun z => ?_
 obtain ⟨w, E⟩ := z
 refine Spec.factS fun hE => ?_
 refine Spec.post (Spec.lend (m := [blk bi (IfaceOne.enc (oneO x w)) 91]) (r := [mapE w (ptrs E), rowsQ (bufA x.c) E]) fun F2 hle2 _ => h F2 (oneO x w) hle2) ?_
 rintro v S1 wd ⟨S2, ⟨h1, rfl⟩, rfl⟩ s
 by_cases hu : x.up = u
 · refine ⟨_, ⟨x, [], ⟨h1, by unfold turnX; rw [if_pos hu], rfl⟩, rfl⟩, ?_⟩
   rw [if_pos hu] at s
   exact Sat.pack (m := [blk bi (IfaceOne.enc (oneO x w)) 91, mapE w (ptrs E), rowsQ (bufA x.c) E]) (r := []) s (fun p hp => one_mk hE p hp)
 · refine ⟨_, ⟨{ x with up := u, ws := [] }, [], ⟨h1, by unfold turnX; rw [if_neg hu], rfl⟩, rfl⟩, ?_⟩
   rw [if_neg hu] at s
   exact Sat.pack (m := [blk bi (IfaceOne.enc (oneO { x with up := u, ws := [] } none)) 91]) (r := []) (Sat.dropR (m := [blk bi (IfaceOne.enc (oneO { x with up := u, ws := [] } none)) 91]) s) (fun p hp => one_new rfl p hp)
theorem upQ (F : Fr) (hi : M[i]? = some x) : Spec Tryz.prog 11 #[.pointer (some ⟨b, 0, none⟩), .int .i64 (i : Int)] [QS b M] F (fun v S => v = .int .i64 (if x.up = true then (8 : Int) else 0) ∧ S = [QS b (M.set i (turnX x true))]) :=
 (Spec.qsAt (R1 := fun v x' T => v = .int .i64 (if x.up = true then (8 : Int) else 0) ∧ x' = turnX x true ∧ T = []) hi fun F' a c bs bi hle hS hb => turn_one fun F2 o hle2 => up_ok F2 (hS.mono hle2) hb).mono (by rintro v S ⟨x', T, ⟨h1, rfl, rfl⟩, h2⟩; exact ⟨h1, h2⟩)
theorem downQ (F : Fr) (hi : M[i]? = some x) : Spec Tryz.prog 13 #[.pointer (some ⟨b, 0, none⟩), .int .i64 (i : Int)] [QS b M] F (fun v S => v = .int .i64 (if x.up = false then (8 : Int) else 0) ∧ S = [QS b (M.set i (turnX x false))]) :=
 (Spec.qsAt (R1 := fun v x' T => v = .int .i64 (if x.up = false then (8 : Int) else 0) ∧ x' = turnX x false ∧ T = []) hi fun F' a c bs bi hle hS hb => turn_one fun F2 o hle2 => down_ok F2 (hS.mono hle2) hb).mono (by rintro v S ⟨x', T, ⟨h1, rfl, rfl⟩, h2⟩; exact ⟨h1, h2⟩)
/-- An interface's row is read, or changed, and nothing else of it. -/
theorem row_one {bi : Nat} {F : Fr} {R1 : Value → OneX → List HProp → Prop} (h : ∀ (F' : Fr) (w : Option Nat), PH.le F.h F'.h → Spec Tryz.prog f args [blk bi (IfaceOne.enc (oneO x w)) 91] F' (fun v S => ∃ (x' : OneX) (T : List HProp), R1 v x' T ∧ x'.c = x.c ∧ x'.ws = x.ws ∧ S = blk bi (IfaceOne.enc (oneO x' w)) 91 :: T)) :
   Spec Tryz.prog f args [oneA bi x] F (fun v S => ∃ x' T, R1 v x' T ∧ S = oneA bi x' :: T) := by
 refine Spec.open one_open fun z => ?_
 obtain ⟨w, E⟩ := z
 refine Spec.factS fun hE => ?_
 refine Spec.post (Spec.lend (m := [blk bi (IfaceOne.enc (oneO x w)) 91]) (r := [mapE w (ptrs E), rowsQ (bufA x.c) E]) fun F2 hle2 _ => h F2 w hle2) ?_
 rintro v S1 wd ⟨S2, ⟨x', T, h1, hc, hw, rfl⟩, rfl⟩ s
 refine ⟨_, ⟨x', T, h1, rfl⟩, ?_⟩
 rw [← hc] at s
 have s1 : Sat ([blk bi (IfaceOne.enc (oneO x' w)) 91, mapE w (ptrs E), rowsQ (bufA x'.c) E] ++ T) F wd := s.perm (List.Perm.cons _ List.perm_append_comm)
 exact s1.pack (fun p hp => one_mk (by rw [hw]; exact hE) p hp)
def nextX (x : OneX) : OneX := { x with next := IntKind.u16.wrap (x.next + 1) }
theorem helloQ (F : Fr) (hi : M[i]? = some x) (hup : x.up = true) (now : Int) : Spec Tryz.prog 14 #[.pointer (some ⟨b, 0, none⟩), .int .i64 now, .int .i64 (i : Int)] [QS b M] F (fun v S => ∃ y : TlvX, v = .tuple #[.agg (Tlv.enc (tlvS y)).toArray, .int .i64 0] ∧ tlvM y = helloM x.c x.next now ∧ S = [QS b (M.set i (nextX x)), stA y]) :=
 (Spec.qsAt (R1 := fun v x' T => ∃ y : TlvX, v = .tuple #[.agg (Tlv.enc (tlvS y)).toArray, .int .i64 0] ∧ tlvM y = helloM x.c x.next now ∧ x' = nextX x ∧ T = [stA y]) hi fun F' a c bs bi hle hS hb => row_one fun F2 w hle2 => (hello_up F2 (hS.mono hle2) hb (o := oneO x w) hup now).mono fun v S ⟨y, h1, h2, h3⟩ => ⟨nextX x, [stA y], ⟨y, h1, h2, rfl, rfl⟩, rfl, rfl, h3⟩).mono (by rintro v S ⟨x', T, ⟨y, h1, h2, rfl, rfl⟩, h3⟩; exact ⟨y, h1, h2, h3⟩)
theorem waitingQ (F : Fr) (hi : M[i]? = some x) (hnd : (x.ws.map (·.1)).Nodup) (hsum : waitN x.ws ≤ 1000000000) : Spec Tryz.prog 24 #[.pointer (some ⟨b, 0, none⟩), .int .i64 (i : Int)] [QS b M] F (fun v S => v = .int .i64 (waitN x.ws : Nat) ∧ S = [QS b M]) :=
 (Spec.qsAt (R1 := fun v x' T => v = .int .i64 (waitN x.ws : Nat) ∧ x' = x ∧ T = []) hi fun F' a c bs bi hle hS hb => by
   refine Spec.open one_open fun z => ?_
   obtain ⟨w, E⟩ := z
   refine Spec.factS fun hE => ?_
   have hE' : wsOf E = x.ws := hE
   have hn : (E.map (·.1)).Nodup := by rw [wsOf_keys hE']; exact hnd
   have hs := sumT_all hn
   rw [hE'] at hs
   refine (waiting_ok F' hS hb (x := x) hn (by omega)).post ?_
   rintro v S1 wd ⟨h1, rfl⟩ s
   refine ⟨_, ⟨x, [], ⟨by rw [h1, hs], rfl, rfl⟩, rfl⟩, ?_⟩
   exact Sat.pack (m := [blk bi (IfaceOne.enc (oneO x w)) 91, mapE w (ptrs E), rowsQ (bufA x.c) E]) (r := []) s (fun p hp => one_mk hE p hp)).mono (by rintro v S ⟨x', T, ⟨h1, rfl, rfl⟩, h2⟩; exact ⟨h1, by rw [set_sm hi] at h2; exact h2⟩)
def queueX (x : OneX) (to : Bs 16) (ts : List TlvX) : OneX := { x with ws := aset x.ws to ((alook x.ws to).getD [] ++ (if addErr x.c.addr x.c.mtu ts = 0 then ts.map tlvM else [])) }
theorem wsOf_set {E : EnX} {ws : WsX} (h : wsOf E = ws) (t : Bs 16) (bb : Nat) (q : BufX) : wsOf (aset E t (bb, q)) = aset ws t (q.ts.map tlvM) := by
 rw [← h]
 exact aset_map (fun (e : Nat × BufX) => e.2.ts.map tlvM) E t (bb, q)
theorem queueQ (F : Fr) (hi : M[i]? = some x) (hup : x.up = true) (hm1 : 64 ≤ x.c.mtu) (hm2 : x.c.mtu ≤ 65539) (hfew : ∀ e ∈ x.ws, e.2.length ≤ 1000000) (to : Bs 16) {ts : List TlvX} {a3 : Option Addr} {c3 : Nat} (ha : ArgSl F a3 68 tlvE ts) (hin : ∀ x ∈ ts, TlvIn F x) (hwf : ∀ x ∈ ts, (tlvS x).WF) (hr32 : ∀ x ∈ ts, ∀ n ∈ x.l, 0 ≤ n ∧ n < 4294967296) (hn : ts.length ≤ 1000000) :
   Spec Tryz.prog 17 #[.pointer (some ⟨b, 0, none⟩), .int .i64 (i : Int), .agg (Bs.enc to).toArray, .slice a3 ts.length c3] [QS b M] F (fun v S => v = .int .i64 (addErr x.c.addr x.c.mtu ts) ∧ S = [QS b (M.set i (queueX x to ts))]) :=
 (Spec.qsAt (R1 := fun v x' T => v = .int .i64 (addErr x.c.addr x.c.mtu ts) ∧ x' = queueX x to ts ∧ T = []) hi fun F' a c bs bi hle hS hb => by
   refine Spec.open one_open fun z => ?_
   obtain ⟨w, E⟩ := z
   refine Spec.factS fun hE => ?_
   have hE' : wsOf E = x.ws := hE
   have hlk := wsOf_look hE' to
   have ha' := ha.mono hle
   have hin' : ∀ x ∈ ts, TlvIn F' x := fun x hx => TlvIn.mono (hin x hx) hle
   cases hl : alook E to with
   | some e =>
     obtain ⟨bb, q⟩ := e
     rw [hl] at hlk
     have hq : q.ts.length ≤ 1000000 := by have := hfew _ (alook_mem hlk); simpa using this
     refine (queue_has F' hS hb (x := x) (w := w) (E := E) hup hl hm1 hm2 hq ha' hin' hwf hr32 hn).post ?_
     rintro v S1 wd ⟨q2, h1, h2, rfl⟩ s
     refine ⟨_, ⟨queueX x to ts, [], ⟨h1, rfl, rfl⟩, rfl⟩, ?_⟩
     have hp : ptrs (aset E to (bb, q2)) = ptrs E := by rw [ptrs_aset]; exact aset_same (by rw [alook_ptrs, hl]; rfl)
     rw [← hp] at s
     refine Sat.pack (m := [blk bi (IfaceOne.enc (oneO (queueX x to ts) w)) 91, mapE w (ptrs (aset E to (bb, q2))), rowsQ (bufA (queueX x to ts).c) (aset E to (bb, q2))]) (r := []) s (fun p hp => one_mk ?_ p hp)
     rw [wsOf_set hE', h2]
     unfold queueX
     simp only [hlk, Option.map_some, Option.getD_some]
     split <;> simp
   | none =>
     rw [hl] at hlk
     have hx' : ∀ (bn : Nat) (q2 : BufX), q2.ts.map tlvM = (if addErr x.c.addr x.c.mtu ts = 0 then [] ++ ts else []).map tlvM → wsOf (aset E to (bn, q2)) = (queueX x to ts).ws := by
       intro bn q2 h2
       rw [wsOf_set hE', h2]
       unfold queueX
       simp only [hlk, Option.map_none, Option.getD_none]
       split <;> simp
     cases w with
     | some r =>
       refine Spec.post (Spec.lend (m := [blk bi (IfaceOne.enc (oneO x (some r))) 91, mapE (some r) (ptrs E)]) (r := [rowsQ (bufA x.c) E]) fun F2 hle2 _ => queue_newr F2 (hS.mono hle2) hb (x := x) (r := r) (E := E) hup hl hm1 hm2 (ha'.mono hle2) (fun x hx => TlvIn.mono (hin' x hx) hle2) hwf hr32 hn) ?_
       rintro v S1 wd ⟨S2, ⟨bn, q2, h1, h2, rfl⟩, rfl⟩ s
       refine ⟨_, ⟨queueX x to ts, [], ⟨h1, rfl, rfl⟩, rfl⟩, ?_⟩
       have s1 : Sat ([bufA x.c bn q2, rowsQ (bufA x.c) E] ++ [blk bi (IfaceOne.enc (oneO x (some r))) 91, mapE (some r) (aset (ptrs E) to bn)]) F' wd := s.perm (List.perm_append_comm (l₁ := [_, _]) (l₂ := [_, _]))
       have s2 := s1.pack (fun p hp => rowsQ_new hl hp)
       rw [← ptrs_aset E to (bn, q2)] at s2
       exact Sat.pack (m := [blk bi (IfaceOne.enc (oneO (queueX x to ts) (some r))) 91, mapE (some r) (ptrs (aset E to (bn, q2))), rowsQ (bufA (queueX x to ts).c) (aset E to (bn, q2))]) (r := []) (s2.perm (List.perm_append_comm (l₁ := [_]) (l₂ := [_, _]))) (fun p hp => one_mk (hx' bn q2 h2) p hp)
     | none =>
       refine Spec.conseq (S1 := [mapE none (ptrs E), blk bi (IfaceOne.enc (oneO x none)) 91, rowsQ (bufA x.c) E]) (fun w s => s.perm (List.Perm.swap _ _ _)) (Spec.factS fun hE0 => ?_) (fun v S' w h s => ⟨S', h, s⟩)
       have hE1 : E = [] := by cases E with
         | nil => rfl
         | cons e E => cases hE0
       subst hE1
       refine Spec.conseq (S1 := [blk bi (IfaceOne.enc (oneO x none)) 91, mapE none []]) (fun w s => ?_) (queue_new0 F' hS hb (x := x) hup hm1 hm2 ha' hin' hwf hr32 hn) ?_
       · have s1 : Sat [blk bi (IfaceOne.enc (oneO x none)) 91] F' w := (s.perm (List.Perm.swap _ _ _)).drop
         exact (sat_fact (p := ([] : TabM) = []) rfl s1).perm (List.Perm.swap _ _ _)
       · rintro v S1 wd ⟨r, bn, q2, h1, h2, rfl⟩ s
         refine ⟨_, ⟨queueX x to ts, [], ⟨h1, rfl, rfl⟩, rfl⟩, ?_⟩
         have s1 : Sat (bufA x.c bn q2 :: [blk bi (IfaceOne.enc (oneO x (some r))) 91, mapE (some r) [(to, bn)]]) F' wd := s.perm (List.perm_append_comm (l₁ := [_, _]) (l₂ := [_]))
         have s2 : Sat (rowsQ (bufA x.c) (aset [] to (bn, q2)) :: [blk bi (IfaceOne.enc (oneO x (some r))) 91, mapE (some r) [(to, bn)]]) F' wd := s1.head fun p hp => star_emp hp
         exact Sat.pack (m := [blk bi (IfaceOne.enc (oneO (queueX x to ts) (some r))) 91, mapE (some r) (ptrs (aset [] to (bn, q2))), rowsQ (bufA (queueX x to ts).c) (aset [] to (bn, q2))]) (r := []) (s2.perm (List.perm_append_comm (l₁ := [_]) (l₂ := [_, _]))) (fun p hp => one_mk (hx' bn q2 h2) p hp)).mono (by rintro v S ⟨x', T, ⟨h1, rfl, rfl⟩, h2⟩; exact ⟨h1, h2⟩)
theorem flushQ (F : Fr) (hok : ∀ x ∈ M, OkX x) (hfew : (flushS 0 M).length ≤ 4000000000) (hMn : M.length ≤ 1000000) : Spec Tryz.prog 20 #[.pointer (some ⟨b, 0, none⟩)] [QS b M] F (fun v S => ∃ us : List SentX, us.map sentM = flushS 0 M ∧ S = [QS b (M.map resetX), slA 77 18 sentE v us, rowsS (us.map (·.y))]) := by
 refine Spec.open qs_open fun z => ?_
 obtain ⟨a, c, L⟩ := z
 refine Spec.factS fun hL => ?_
 have hL' : L.map (·.2) = M := hL
 have hll : L.length = M.length := by rw [← hL', List.length_map]
 refine Spec.conseq (S1 := [slA 88 1 ptE (.slice a (L.map (·.1)).length c) (L.map (·.1)), rowsW oneA L, blk b (IfaceSet.enc ⟨⟨a, (L.map (·.1)).length, c⟩⟩) 87]) (fun w s => (show Sat ([blk b (IfaceSet.enc ⟨⟨a, (L.map (·.1)).length, c⟩⟩) 87] ++ [slA 88 1 ptE (.slice a (L.map (·.1)).length c) (L.map (·.1)), rowsW oneA L]) F w from s).perm List.perm_append_comm)
   (Spec.lendSl (e := 88) (z := 1) (enc := ptE) (a := a) (c := c) (R := fun v S' => ∃ S1, (∃ us : List SentX, us.map sentM = flushS 0 (L.map (·.2)) ∧ S1 = [rowsW oneA (L.map (fun e => (e.1, resetX e.2))), slA 77 18 sentE v us, rowsS (us.map (·.y))]) ∧ S' = S1 ++ [blk b (IfaceSet.enc ⟨⟨a, (L.map (·.1)).length, c⟩⟩) 87]) (xs := L.map (·.1)) (fun _ => rfl) (fun F1 hle1 ha => Spec.lend (m := [rowsW oneA L]) (r := [blk b (IfaceSet.enc ⟨⟨a, (L.map (·.1)).length, c⟩⟩) 87]) fun F2 hle2 hr => flushS_spec F2 ⟨hr _ _ List.mem_cons_self, ha.mono hle2⟩ (fun e he => hok _ (by rw [← hL']; exact List.mem_map_of_mem he)) (by rw [hL']; exact hfew) (by omega))) ?_
 rintro v S' w ⟨S2, ⟨S3, ⟨us, h1, rfl⟩, rfl⟩, rfl⟩ s
 refine ⟨_, ⟨us, by rw [h1, hL'], rfl⟩, ?_⟩
 have hm : (L.map (fun e => (e.1, resetX e.2))).map (·.1) = L.map (·.1) := by rw [List.map_map]; rfl
 have s1 : Sat ([blk b (IfaceSet.enc ⟨⟨a, ((L.map (fun e => (e.1, resetX e.2))).map (·.1)).length, c⟩⟩) 87, slA 88 1 ptE (.slice a ((L.map (fun e => (e.1, resetX e.2))).map (·.1)).length c) ((L.map (fun e => (e.1, resetX e.2))).map (·.1)), rowsW oneA (L.map (fun e => (e.1, resetX e.2)))] ++ [slA 77 18 sentE v us, rowsS (us.map (·.y))]) F w := by
   rw [hm]
   exact s.perm (List.perm_append_comm (l₁ := [_, _, _, _]) (l₂ := [_]))
 exact s1.pack (fun p hp => qs_mk (by rw [List.map_map, ← hL', List.map_map]; rfl) p hp)
end
end Slb
