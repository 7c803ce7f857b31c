/- A part of the proof of RowFnExactCircle: each text's theorems that it needs, packed by shake.py, a program of this work; Lean checks them. -/
import Derived.Test.YtnbohlcibgfjaaaDoorCc1
import Derived.Test.YtnbohlcibgfjaaaDoorCc0
section
namespace Go.Proofs.YtnbohlcibgfjaaaDoorW.PrintWords
open Go.RowKit
end Go.Proofs.YtnbohlcibgfjaaaDoorW.PrintWords
namespace Go.Proofs.YtnbohlcibgfjaaaDoorW.PrintLast
end Go.Proofs.YtnbohlcibgfjaaaDoorW.PrintLast
end
section
namespace Go.Proofs.YtnbohlcibgfjaaaDoorW.PrintWords
open Go.RowKit
section
variable {P : Program} {ops : Array Oper} {rest : List Oper} {o : Oper} {a : Act} {Q : Exit → Act → World → Prop} {W : World}
theorem gate_guard (hw : Region.wanted o (yielded ops a.tmps) = true) (h : wpList P ops Q ({ o with guard := none } :: rest) a W) : wpList P ops Q (o :: rest) a W := by
  have h1 : Region.wanted { o with guard := none } (yielded ops a.tmps) = true := rfl
  unfold wpList at h ⊢
  rw [if_pos h1] at h
  rw [if_pos hw]
  exact h
end
end Go.Proofs.YtnbohlcibgfjaaaDoorW.PrintWords
end
section
namespace Go.Proofs.YtnbohlcibgfjaaaDoorW.PrintWords
open Go.RowKit
namespace Kd
end Kd
end Go.Proofs.YtnbohlcibgfjaaaDoorW.PrintWords
end
section
namespace Go.Proofs.YtnbohlcibgfjaaaDoorW.PrintMore
open Go.RowKit Go.Proofs.YtnbohlcibgfjaaaDoorW.PrintWords
namespace Kd
open Go.Proofs.YtnbohlcibgfjaaaDoorW.PrintWords.Kd
end Kd
namespace Kd
open Go.Proofs.YtnbohlcibgfjaaaDoorW.PrintWords.Kd
end Kd
end Go.Proofs.YtnbohlcibgfjaaaDoorW.PrintMore
namespace Go.Proofs.YtnbohlcibgfjaaaDoorW.PrintWords
open Go.RowKit
section
variable {P : Program} {ops : Array Oper} {rest : List Oper} {o : Oper} {a : Act} {Q : Exit → Act → World → Prop} {W : World}
theorem gate_callee {f : FuncId} {as : Array Operand} {ts : Array TypeId} (_ho : o.op = .call { callee := .value (.func f), args := as, argTypes := ts }) (h : wpList P ops Q (o :: rest) a W) : wpList P ops Q (o :: rest) a W := h
theorem gate_builtin {b : Builtin} {xs : Array Operand} {ts : Array TypeId} (_ho : o.op = .call { callee := .builtin b, args := xs, argTypes := ts }) (h : wpList P ops Q (o :: rest) a W) : wpList P ops Q (o :: rest) a W := h
end
namespace Kd
end Kd
end Go.Proofs.YtnbohlcibgfjaaaDoorW.PrintWords
namespace Go.Proofs.YtnbohlcibgfjaaaDoorW.PrintWords
open Go.RowKit
namespace Kd
def V {α : Type} (d : Kd α) (_e : Nat) (W : World) (_base : Nat) (ok : Nat → Prop) (v : Value) (xs : List α) : Prop := ∃ A c, v = .slice A xs.length c ∧ xs.length ≤ c ∧ F d W ok A xs.length xs
section
variable {α β : Type} {d : Kd α} {e base base' n m c g N' lo hi : Nat} {ok ok' S : Nat → Prop} {w W w1 : World} {A : Option Addr} {ad : Addr} {u v v1 : Value} {xs : List α}
theorem V_nil (d : Kd α) (e : Nat) (W : World) (base : Nat) (ok : Nat → Prop) : V d e W base ok (.slice none 0 0) [] := ⟨none, 0, rfl, Nat.le_refl _, F_nil d W ok⟩
end
end Kd
end Go.Proofs.YtnbohlcibgfjaaaDoorW.PrintWords
end
