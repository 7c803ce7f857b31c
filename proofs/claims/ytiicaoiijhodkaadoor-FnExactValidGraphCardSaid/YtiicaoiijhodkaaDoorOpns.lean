/- How the laws' parameters read as plain values, type by type (out of the translation, by a program of this session). -/
import Derived.Test.YtiicaoiijhodkaaDoorGp0
import Derived.Test.YtiicaoiijhodkaaDoorOpn
import Derived.KernelRfl
namespace Go.Proofs.YtiicaoiijhodkaaDoor.Gp
open Go.RowKit Go.Proofs.YtiicaoiijhodkaaDoorW.PrintWords
def q58 (x : S58) : Prop := (x.f0.size ≤ maxLen) ∧ (x.f1.size ≤ maxLen)
theorem opn58 : Opn Tryd.prog 58 k58 q58 := Opn.iso (Opn.struct Tryd.underlying58 (OpnF.cons (Opn.string Tryd.underlying9 (by kernel_rfl)) rfl (OpnF.one (Opn.string Tryd.underlying9 (by kernel_rfl)) rfl)) (by kernel_rfl)) _ (fun p => (⟨p.1, p.2⟩ : S58)) (fun _ => rfl)
def q94 (x : S94) : Prop := ((Lit.int .i64 x.f0).wf = true) ∧ ((x.f1.length ≤ maxLen ∧ ∀ y_ ∈ x.f1, (y_).size ≤ maxLen)) ∧ ((x.f2.length ≤ maxLen ∧ ∀ y_ ∈ x.f2, (Lit.int .i64 y_).wf = true))
theorem opn94 : Opn Tryd.prog 94 k94 q94 := Opn.iso (Opn.struct Tryd.underlying94 (OpnF.cons (Opn.int Tryd.underlying3 (by kernel_rfl)) rfl (OpnF.cons (Opn.slice (Opn.string Tryd.underlying9 (by kernel_rfl)) Tryd.underlying65 (by kernel_rfl)) rfl (OpnF.one (Opn.slice (Opn.int Tryd.underlying3 (by kernel_rfl)) Tryd.underlying66 (by kernel_rfl)) rfl))) (by kernel_rfl)) _ (fun p => (⟨p.1, p.2.1, p.2.2⟩ : S94)) (fun _ => rfl)
end Go.Proofs.YtiicaoiijhodkaaDoor.Gp
