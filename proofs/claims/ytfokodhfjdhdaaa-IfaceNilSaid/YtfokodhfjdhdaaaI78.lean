/- I78: a part of the proof that a law of this package holds for every input; no condition. -/
import Derived.Test.YtfokodhfjdhdaaaM2
import Derived.Test.YtfokodhfjdhdaaaI77
import Derived.Test.YtfokodhfjdhdaaaI16
namespace Slb
open Go Go.Proofs
set_option maxRecDepth 20000
def inB (a lo hi : Int) : Bool := decide (lo ≤ a) && decide (a ≤ hi)
/-- What is known of an interface that may be. -/
structure IfOk (x : IfConf) : Prop where
  kind : x.kind = 0 ∨ x.kind = 1
  cost : 1 ≤ x.cost ∧ x.cost ≤ 65534
  mtu : 64 ≤ x.mtu ∧ x.mtu ≤ 65539
  hello : 10 ≤ x.hello ∧ x.hello ≤ 655350
  update : 10 ≤ x.update ∧ x.update ≤ 655350
  hello10 : x.hello.tmod 10 = 0
  update10 : x.update.tmod 10 = 0
  addr : x.addr.l[0]? = some 254
  addr4 : x.addr4 = Bs.zero 16 ∨ familyB x.addr4 = 4
  rtt : x.rtt = Rtt.zero ∨ (0 ≤ x.rtt.min ∧ x.rtt.min < x.rtt.max ∧ x.rtt.max ≤ 1000000 ∧ (1 ≤ x.rtt.cost ∧ x.rtt.cost ≤ 65534) ∧ (1 ≤ x.rtt.decay ∧ x.rtt.decay ≤ 256))

def id1 : Bs 8 := ⟨[0, 0, 0, 0, 0, 0, 0, 1], rfl⟩
def conf1 (b off c : Nat) : Config := ⟨id1, ⟨some ⟨b, off, none⟩, 1, c⟩, Slc.zero, Slc.zero, 1, 1, 1, 1⟩

theorem num14_spec (F : Fr) (a : Int) : Spec Try.prog 9 #[.int .i64 a] [] F (fun v S => v = .int .i64 a ∧ S = []) := by
 refine Spec.intro (N := 4) (args := [.int .i64 a]) Try.func9 rfl rfl (by simp) ?_
 refine Run.seq fun k1 hk1 => Run.region ?_
 show Sq _ _ _ [0] _ _ _ _
 refine Sg 0 rfl rfl rfl <| Sq.nil <| hk1 _ _ <| Run.seq fun k2 hk2 => Run.region ?_
 show Sq _ _ _ [0, 1] _ _ _ _
 refine Mv 0 rfl rfl rfl <| Sg 1 rfl rfl rfl <| Sq.nil <| hk2 _ _ <| Run.ret ?_
 exact J.ends (res_tmp rfl rfl) Takes.nil ⟨rfl, rfl⟩
end Slb
