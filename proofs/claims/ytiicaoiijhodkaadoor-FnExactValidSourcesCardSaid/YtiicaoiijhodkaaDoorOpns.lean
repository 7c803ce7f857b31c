/- How the laws' parameters read as plain values, type by type (out of the translation, by a program of this session). -/
import Derived.Test.YtiicaoiijhodkaaDoorGp0
import Derived.Test.YtiicaoiijhodkaaDoorOpn
import Derived.KernelRfl
namespace Go.Proofs.YtiicaoiijhodkaaDoor.Gp
open Go.RowKit Go.Proofs.YtiicaoiijhodkaaDoorW.PrintWords
def q58 (x : S58) : Prop := (x.f0.size ≤ maxLen) ∧ (x.f1.size ≤ maxLen)
theorem opn58 : Opn Tryd.prog 58 k58 q58 := Opn.iso (Opn.struct Tryd.underlying58 (OpnF.cons (Opn.string Tryd.underlying9 (by kernel_rfl)) rfl (OpnF.one (Opn.string Tryd.underlying9 (by kernel_rfl)) rfl)) (by kernel_rfl)) _ (fun p => (⟨p.1, p.2⟩ : S58)) (fun _ => rfl)
end Go.Proofs.YtiicaoiijhodkaaDoor.Gp
