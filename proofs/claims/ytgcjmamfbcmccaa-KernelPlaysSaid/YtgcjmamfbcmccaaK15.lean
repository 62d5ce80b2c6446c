/- K15: a part of the proof that a law of this package holds for every input; no condition. -/
import Derived.Test.YtgcjmamfbcmccaaK5
import Derived.Shelf.SlMaps.Clone
import Derived.Shelf.SlLaysW
import Derived.Ground.SlmcProg
import Derived.Test.YtgcjmamfbcmccaaChecked
namespace Go.Proofs
open Go.Shelf
def Try.cloneL_ren : Go.Shelf.Ren := ⟨fun | 5 => 34 | 7 => 43 | n => n, fun | 23 => 62 | 25 => 36 | 3 => 38 | 4 => 4 | 20 => 20 | n => n, fun | n => n⟩
theorem Try.cloneL : Go.Proofs.SlLaysW.n5 Try.prog Try.cloneL_ren := {
  mixed := by kernel_rfl
  f5 := ⟨Try.f34.name, by decide, Try.func34.trans (congrArg some (by kernel_rfl))⟩
  f7 := Try.func43.trans (congrArg some (by kernel_rfl))
  t4 := Try.underlying4
  a4 := Try.isAgg4
  z4 := Try.sizeOf4
  v4 := Try.zeroValue4
  t20 := Try.underlying20
  a20 := Try.isAgg20
  z20 := Try.sizeOf20
  v20 := Try.zeroValue20
  t23 := Try.underlying62
  a23 := Try.isAgg62
  z23 := Try.sizeOf62
  v23 := Try.zeroValue62 }
end Go.Proofs
namespace Slb
open Go Go.Proofs
set_option maxRecDepth 20000
theorem clone_spec (F : Fr) {r : Nat} {M : TabE} : Spec Try.prog 34 #[.map (some r)] [mapE r M] F (fun v S => ∃ r2, v = .map (some r2) ∧ S = [mapE r2 M, mapE r M]) := fun w s => by
  obtain ⟨es, c, s1, hm⟩ := s.mapOpen
  have hb : w.heap[r]? = some (.map es c) := s1.mem List.mem_cons_self
  refine (AnyW.maps_Clone Try.cloneL r es c w hb).mono ?_
  rintro e w' ⟨rfl, rfl⟩
  refine ⟨_, _, rfl, ⟨_, rfl, rfl⟩, ?_⟩
  have s2 := s1.new (.map es c)
  have s3 : Sat [mapE w.heap.size M, pts r (.map es c)] F { w with heap := w.heap.push (.map es c) } := s2.head fun k hk => ⟨es, c, hk, hm⟩
  have s4 : Sat [mapE r M, mapE w.heap.size M] F { w with heap := w.heap.push (.map es c) } := (s3.perm (List.Perm.swap _ _ _)).head fun k hk => ⟨es, c, hk, hm⟩
  exact s4.perm (List.Perm.swap _ _ _)
end Slb
