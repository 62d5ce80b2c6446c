/- C10: a part of the proof that a law of this package holds for every input; no condition. -/
import Derived.Test.YtmolpkkkndopcaaF10
namespace Slb
open Go Go.Proofs
set_option maxRecDepth 20000
def cmpPrefix (x y : Prefix) : Int := orF [Lib.compareBytes x.a.l y.a.l, cmpF x.len.val y.len.val]
def cmpPair (x y : Pair) : Int := orF [cmpPrefix x.dst y.dst, cmpPrefix x.src y.src]

theorem totPrefix : TotCmp cmpPrefix := TotCmp.lex (TotCmp.bytes 16) TotCmp.int Prefix.a (fun x => x.len.val) (fun x y h1 h2 => by obtain ⟨a, b⟩ := x; obtain ⟨c, d⟩ := y; simp only at h1 h2; subst h1; obtain rfl := Subtype.ext h2; rfl) (fun _ _ => rfl)
theorem totPair : TotCmp cmpPair := TotCmp.lex totPrefix totPrefix Pair.dst Pair.src (fun x y h1 h2 => by obtain ⟨a, b⟩ := x; obtain ⟨c, d⟩ := y; simp only at h1 h2; subst h1; subst h2; rfl) (fun _ _ => rfl)
/-- Two sources of one pair and one router stand alike. -/
theorem totKey : TotCmp (fun (x y : Pair × Bs 8) => orF [cmpPair x.1 y.1, Lib.compareBytes x.2.l y.2.l]) := TotCmp.lex totPair (TotCmp.bytes 8) Prod.fst Prod.snd (fun _ _ h1 h2 => Prod.ext h1 h2) (fun _ _ => rfl)
end Slb
