/- A part of the proof of RowFnExactTokens: each text's theorems that it needs, packed by shake.py, a program of this work; Lean checks them. -/
import Derived.Test.YtiicaoiijhodkaaDoorVk2
import Derived.Test.YtiicaoiijhodkaaDoorVk11
import Derived.KernelRfl
section
namespace Go.Proofs.YtiicaoiijhodkaaDoor.Gp
open Go.RowKit Go.Proofs.YtiicaoiijhodkaaDoorW.PrintWords
end Go.Proofs.YtiicaoiijhodkaaDoor.Gp
end
