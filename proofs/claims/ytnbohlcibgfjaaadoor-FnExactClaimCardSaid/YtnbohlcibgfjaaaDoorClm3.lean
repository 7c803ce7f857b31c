/- A part of the proof of RowFnExactClaim: each text's theorems that it needs, packed by shake.py, a program of this work; Lean checks them. -/
import Derived.Test.YtnbohlcibgfjaaaDoorProg
import Derived.Maps.OwnOps
import Derived.Maps.OwnSet
import Derived.Lib.Hide
import Derived.Test.YtnbohlcibgfjaaaDoorClm0
import Derived.Test.YtnbohlcibgfjaaaDoorClm1
import Derived.Below
import Derived.Deep.Draws
import Derived.Deep.AppendLies
import Derived.Maps.AppendAt
import Derived.OwnWalk
import Derived.Laws.BytesArg
import Derived.Laws.MakeOwn
import Derived.Laws.OwnMore
import Derived.Deep.OwnRows
import Derived.Tactics
import Derived.Lib.ConvBytes
import Derived.Laws.Slices
import Derived.WalkKit
import Derived.KernelRfl
import Derived.RowKit3
import Derived.Deep.LoopGhost
import Derived.Deep.QuietTactic
import Derived.BigQuiet
import Derived.WideLaws
import Derived.Deep.DeepCutAuto
import Derived.Deep.CutBlock
import Derived.Deep.RegionHeld3
import Derived.Laws.Rows
import Derived.Lib.AppendStr
import Derived.ArgAppend
import Derived.Laws.IdiomCopy
import Derived.OrdersHeld
import Derived.Laws.BitsLemmas
import Derived.RowKit
import Derived.WalkLawsBesides
import Derived.Test.YtnbohlcibgfjaaaDoorClm2
section
namespace Go.Proofs.YtnbohlcibgfjaaaDoor.Gp
open Go.RowKit Go.Maps Go.WideMaps Go.WideElems Go.Proofs.YtnbohlcibgfjaaaDoorW.PrintWords
theorem zero3 (w : World) : (zeroValue 3).run Tryd.prog w = .ok (.int .i64 0) w := by kernel_rfl
theorem lawS : Keyed Tryd.prog 9 := string_keyed Tryd.underlying9
/-- The eleven words, rising. -/
def rwords : List (List UInt8) := [[98, 111, 111, 108], [101, 108, 115, 101], [102, 97, 108, 115, 101], [102, 117, 110], [105, 102], [105, 109, 112, 111, 114, 116], [105, 110, 116], [116, 104, 101, 110], [116, 114, 117, 101], [116, 121, 112, 101], [118, 97, 108]]
def resD {H : Type} : DataW H := .map (rwords.map fun l => (.string l, .lit (.int .i64 1)))
def resB (l : List UInt8) : Bool := rwords.contains l
structure GRes (w : World) : Prop where mk :: (out : ∃ b, w.cell? ⟨0, 0, none⟩ = some (.map (some b)) ∧ w.ownsMap (H := Unit) Tryd.prog 9 (plainElem Tryd.prog 3) b 11 resD)
theorem GRes.below {w w1 : World} (h : GRes w) (hb : Below w.heap.size w w1) : GRes w1 := by
 obtain ⟨b, hc, ho⟩ := h.out
 exact ⟨b, pw_cell_below hb hc, ho.kept (grown_of_below hb none) (by simp)⟩
theorem GRes.drewN {w : World} (h : GRes w) (n : Nat) : GRes (w.drewN n) := h.below (pw_below_drewN (Below.refl _ _) n)
theorem GRes.drew {w : World} (h : GRes w) : GRes w.drew := h.below (below_drew (Below.refl _ _))
theorem GRes.alloc {w : World} (h : GRes w) (o : Obj) : GRes (w.alloc o) := h.below ((Below.refl _ _).alloc (Nat.le_refl _) o)
theorem find_words (l : List UInt8) : ∀ ws : List (List UInt8), (DataW.map (H := Unit) (ws.map fun l => (Lit.string l, DataW.lit (.int .i64 1)))).atKey (.string l) (.lit (.int .i64 0)) = .lit (.int .i64 (if ws.contains l then 1 else 0))
 | [] => by simp [DataW.atKey]
 | x :: ws => by
  have ih := find_words l ws
  unfold DataW.atKey at ih ⊢
  by_cases h : x = l
  · subst h
    simp [Lit.sameKey]
  have h1 : Lit.sameKey (.string x) (.string l) = false := by simp [Lit.sameKey, h]
  have h2 : (l == x) = false := by simpa using fun e => h e.symm
  simp only [List.map_cons, List.find?_cons, h1, List.contains_cons, h2, Bool.false_or]
  exact ih
theorem res_at (l : List UInt8) : (resD (H := Unit)).atKey (.string l) (.lit (.int .i64 0)) = .lit (.int .i64 (if resB l then 1 else 0)) := find_words l rwords
theorem res_lookup {w : World} {b : Nat} (ho : w.ownsMap (H := Unit) Tryd.prog 9 (plainElem Tryd.prog 3) b 11 resD) (s : ByteArray) (hs : s.size ≤ maxLen) :
 (Instr.lookup 200 (.map (some b)) (.string s) false).run Tryd.prog w = .ok (.int .i64 (if resB s.data.toList then 1 else 0)) w := by
 obtain ⟨c, hrun, hat, _⟩ := ho.lookup_int lawS Tryd.underlying200 Tryd.underlying3 (zero3 _) (keyOf_string_mk (s := s) Tryd.underlying9 hs)
 rw [res_at] at hat
 cases hat
 exact hrun
/-- A good byte of a word, a good name. -/
def wb (b : Int) : Bool := (97 ≤ b && b ≤ 122) || (48 ≤ b && b ≤ 57) || b == 95
def gnB (s : ByteArray) : Bool := decide (1 ≤ s.size ∧ s.size ≤ 12 ∧ resB s.data.toList = false ∧ 97 ≤ bt s 0 ∧ bt s 0 ≤ 122 ∧ ∀ i : Nat, i < s.size → wb (bt s i) = true)
theorem one_R {α : Type} {d : Kd α} {e : Nat} {w : World} {base : Nat} {ok : Nat → Prop} {v : Value} {xs : List α} (h : d.R e w base ok v xs) : v.oneCell' = true := by
 obtain ⟨A, c, rfl⟩ := Kd.R_slice h
 rfl
theorem one_S {α : Type} {d : Kd α} {e : Nat} {w : World} {base : Nat} {ok : Nat → Prop} {v : Value} {xs : List α} (h : d.S e w base ok v xs) : v.oneCell' = true := one_R (Kd.S_R h)
theorem kB {p w' : World} {g : Nat} {o : Obj} (h : Aside0 (p.heap[g]? = some o)) (hb : Below p.heap.size p w') : Aside0 (w'.heap[g]? = some o) := ⟨blk_below h.out hb⟩
theorem kH {w p w' : World} (h : Aside0 (Below w.heap.size w p)) (hb : Below p.heap.size p w') : Aside0 (Below w.heap.size w w') := ⟨below_step h.out hb⟩
theorem kR {α : Type} {d : Kd α} {e : Nat} {p w' : World} {base : Nat} {ok : Nat → Prop} {v : Value} {xs : List α} (h : Aside0 (d.R e p base ok v xs)) (hb : Below p.heap.size p w') : Aside0 (d.R e w' base ok v xs) := ⟨Kd.R_below h.out hb⟩
theorem kS {α : Type} {d : Kd α} {e : Nat} {p w' : World} {base : Nat} {ok : Nat → Prop} {v : Value} {xs : List α} (h : Aside0 (Kd.S d e p base ok v xs)) (hb : Below p.heap.size p w') : Aside0 (Kd.S d e w' base ok v xs) := ⟨Kd.S_below h.out hb⟩
theorem sA_ : (∀ (l : List Value) (i : Nat) (a : Value), l.toArray.setIfInBounds i a = (l.set i a).toArray) ∧ (∀ (x : Value) (xs : List Value) (a : Value), (x :: xs).set 0 a = a :: xs) ∧ (∀ (x : Value) (xs : List Value) (n : Nat) (a : Value), (x :: xs).set (n + 1) a = x :: xs.set n a) :=
 ⟨fun _ _ _ => List.setIfInBounds_toArray .., fun _ _ _ => rfl, fun _ _ _ _ => rfl⟩
theorem bkA1 {w : World} {g t : Nat} {x0 : Value} (h : w.heap[g]? = some (.cells #[x0] t (0, 0))) : w.cell? ⟨g, 0, none⟩ = some x0 ∧ w.frozen? ⟨g, 0, none⟩ = false := ⟨(blk_cell h 0).trans rfl, blk_frozen h 0⟩
theorem bkA2 {w : World} {g t : Nat} {x0 x1 : Value} (h : w.heap[g]? = some (.cells #[x0, x1] t (0, 0))) : w.cell? ⟨g, 0, none⟩ = some x0 ∧ w.cell? ⟨g, 1, none⟩ = some x1 ∧ w.frozen? ⟨g, 0, none⟩ = false ∧ w.frozen? ⟨g, 1, none⟩ = false := ⟨(blk_cell h 0).trans rfl, (blk_cell h 1).trans rfl, blk_frozen h 0, blk_frozen h 1⟩
theorem bkA9 {w : World} {g t : Nat} {x0 x1 x2 x3 x4 x5 x6 x7 x8 : Value} (h : w.heap[g]? = some (.cells #[x0, x1, x2, x3, x4, x5, x6, x7, x8] t (0, 0))) : w.cell? ⟨g, 0, none⟩ = some x0 ∧ w.cell? ⟨g, 1, none⟩ = some x1 ∧ w.cell? ⟨g, 2, none⟩ = some x2 ∧ w.cell? ⟨g, 3, none⟩ = some x3 ∧ w.cell? ⟨g, 4, none⟩ = some x4 ∧ w.cell? ⟨g, 5, none⟩ = some x5 ∧ w.cell? ⟨g, 6, none⟩ = some x6 ∧ w.cell? ⟨g, 7, none⟩ = some x7 ∧ w.cell? ⟨g, 8, none⟩ = some x8 ∧ w.frozen? ⟨g, 0, none⟩ = false ∧ w.frozen? ⟨g, 1, none⟩ = false ∧ w.frozen? ⟨g, 2, none⟩ = false ∧ w.frozen? ⟨g, 3, none⟩ = false ∧ w.frozen? ⟨g, 4, none⟩ = false ∧ w.frozen? ⟨g, 5, none⟩ = false ∧ w.frozen? ⟨g, 6, none⟩ = false ∧ w.frozen? ⟨g, 7, none⟩ = false ∧ w.frozen? ⟨g, 8, none⟩ = false := ⟨(blk_cell h 0).trans rfl, (blk_cell h 1).trans rfl, (blk_cell h 2).trans rfl, (blk_cell h 3).trans rfl, (blk_cell h 4).trans rfl, (blk_cell h 5).trans rfl, (blk_cell h 6).trans rfl, (blk_cell h 7).trans rfl, (blk_cell h 8).trans rfl, blk_frozen h 0, blk_frozen h 1, blk_frozen h 2, blk_frozen h 3, blk_frozen h 4, blk_frozen h 5, blk_frozen h 6, blk_frozen h 7, blk_frozen h 8⟩
theorem bcl {w w1 : World} {a : Addr} {u : Value} (HB : Aside0 (Below w.heap.size w w1)) (h : w.cell? a = some u) : w1.cell? a = some u := (HB.out.cell (World.block_lt_of_cell? w _ h)).trans h
theorem fromQ {w p W w' : World} (_ : Below w.heap.size w p) (_ : Below W.heap.size W w') (h : Below p.heap.size p W := by repeat (first | (with_reducible exact Below.refl _ _) | apply below_alloc | apply pw_below_drewN | apply below_drew1)) : Below p.heap.size p W := h
theorem szle {w W : World} {g : Nat} (hg : g = W.heap.size) (hW : Below w.heap.size w W) : Aside0 (w.heap.size ≤ g) := ⟨by rw [hg]; exact below_size hW⟩
theorem nelt {p W : World} {g g' : Nat} {o : Obj} (hg : g' = W.heap.size) (h : Aside0 (p.heap[g]? = some o)) (hb : Below p.heap.size p W) : Aside0 (g ≠ g') := ⟨by rw [hg]; exact Nat.ne_of_lt (blk_lt (blk_below h.out hb))⟩
theorem negt {p W : World} {g g' : Nat} {o : Obj} (hg : g' = W.heap.size) (h : Aside0 (p.heap[g]? = some o)) (hb : Below p.heap.size p W) : Aside0 (g' ≠ g) := ⟨by rw [hg]; exact Nat.ne_of_gt (blk_lt (blk_below h.out hb))⟩
section
open Go.Proofs.YtnbohlcibgfjaaaDoorW.PrintLast
variable {P : Program} {ops : Array Oper} {Q : Exit → Act → World → Prop} {md : Region.Mode} {S : World → Prop} {ds : List Nat}
theorem pureY {i : Nat} {N : Option Tmp} {oi : Oper} {v : Value} {fuel : Nat} {l : Array Bool} {a : Act} {w : World} (l' : Array Bool) (hi : ops[i]? = some oi) (hN : oi.dst = N) (hc : anyB md ops l l' i = true)
 (hy : Region.wanted oi (yielded ops a.tmps) = true ∧ ∀ w, (execOp a.eval oi).run P w = .ok (.value v) w) {a' : Act} (ha : a.put N v = a')
 (h : wpAnyLast P md ops Q S ds fuel l' a' w) (hQ : ∀ c a w, Q (.panic c) (a.put oi.dst v) w → Q (.panic c) a w := by exact fun _ _ _ h => h) : wpAnyLast P md ops Q S ds (fuel + 1) l a w := pure_ l' hi hN hc hQ (.inl hy) ha h
theorem pureN {i : Nat} {N : Option Tmp} {oi : Oper} {fuel : Nat} {l : Array Bool} {a : Act} {w : World} (l' : Array Bool) (hi : ops[i]? = some oi) (hN : oi.dst = N) (hc : anyB md ops l l' i = true)
 {a' : Act} (ha : a.put N undef = a')
 (h : wpAnyLast P md ops Q S ds fuel l' a' w) (hy : Region.wanted oi (yielded ops a.tmps) = false := by rfl) (hQ : ∀ c a w, Q (.panic c) (a.put oi.dst undef) w → Q (.panic c) a w := by exact fun _ _ _ h => h) : wpAnyLast P md ops Q S ds (fuel + 1) l a w := pure_ l' hi hN hc hQ (.inr ⟨hy, rfl⟩) ha h
theorem takeY {i : Nat} {N : Option Tmp} {oi : Oper} {v : Value} {fuel : Nat} {l : Array Bool} {a : Act} {w : World} (l' : Array Bool) (hi : ops[i]? = some oi) (hN : oi.dst = N) (hc : takeB md ops ds l l' i = true)
 (hy : Region.wanted oi (yielded ops a.tmps) = true ∧ ∀ w, S w → (execOp a.eval oi).run P w = .ok (.value v) w) (hS : S w) {a' : Act} (ha : a.put N v = a')
 (h : wpAnyLast P md ops Q S ds fuel l' a' w) (hQ : ∀ c a w, Q (.panic c) (a.put oi.dst v) w → Q (.panic c) a w := by exact fun _ _ _ h => h) : wpAnyLast P md ops Q S ds (fuel + 1) l a w := take_ l' hi hN hc hQ (.inl hy) hS ha h
end
end Go.Proofs.YtnbohlcibgfjaaaDoor.Gp
end
section
namespace Go.Proofs.YtnbohlcibgfjaaaDoor.Gp
open Go.RowKit Go.Proofs.YtnbohlcibgfjaaaDoorW.PrintWords Go.Proofs.YtnbohlcibgfjaaaDoorW.PrintLast Go.Proofs.YtnbohlcibgfjaaaDoorW.PrintMore
set_option linter.unusedVariables false
set_option linter.unusedSimpArgs false
def errW : Option Int → Value
 | none => .nilIface
 | some c => .iface 0 (.int .i64 c)
theorem errW_none : errW none = .nilIface := rfl
theorem errW_some (c : Int) : errW (some c) = .iface 0 (.int .i64 c) := rfl
theorem info29 : (Tryd.prog.info? 29).map (fun i => (i.zero, i.size, i.bytes)) = some (some (.agg #[(.int .i64 0), (.string ⟨#[]⟩)]), 2, 24) := by kernel_rfl
theorem info32 : (Tryd.prog.info? 32).map (fun i => (i.zero, i.size, i.bytes)) = some (some (.agg #[(.int .i64 0), (.string ⟨#[]⟩), (.bool false), (.string ⟨#[]⟩), (.slice none 0 0), (.int .i64 0), (.int .i64 0), (.int .i64 0), (.int .i64 0)]), 9, 104) := by kernel_rfl
structure S26 where
 f0 : Int
 f1 : ByteArray
def z26 : S26 := ⟨(0 : Int), (⟨#[]⟩ : ByteArray)⟩
def k26 : Kd S26 := Kd.iso (Kd.pair (Kd.int .i64) Kd.string) (fun x : S26 => (x.f0, x.f1))
theorem k26_open {w : World} {x : S26} {cs : List Value} (h : k26.K w x cs) : cs = [.int .i64 x.f0, .string x.f1] := by
 obtain ⟨_, _, rfl, rfl, rfl⟩ := h
 exact rfl
def rd_T26 (xs : List S26) (i : Int) : S26 := xs.getD i.toNat z26
theorem at_T26 {w : World} {A : Option Addr} {n : Nat} {xs : List S26} (h : Kd.C k26 w A n xs) (i : Int) (h0 : 0 ≤ i) (h1 : i < n) : ∃ ad , A = some ad ∧ w.cell? (ad.add (i.toNat * 2)) = some (.int .i64 (rd_T26 xs i).f0) ∧ w.cell? ⟨(ad.add (i.toNat * 2)).block, (ad.add (i.toNat * 2)).off + 1, none⟩ = some (.string (rd_T26 xs i).f1) := by
 obtain ⟨ad, c, e, _, hK, hc0⟩ := Kd.C_get h z26 i h0 h1
 have hc : ∀ j u, c[j]? = some u → w.cell? (ad.add (i.toNat * 2 + j)) = some u := hc0
 obtain rfl := k26_open hK
 exact ⟨ad, e, hc 0 _ rfl, by rw [← add_field _ _ 1 (by omega)]; exact hc 1 _ rfl⟩
structure S154 where
 f0 : S26
 f1 : Bool
 f2 : ByteArray
 f3 : (List S26)
 f4 : Int
 f5 : Int
 f6 : Int
 f7 : Int
def z154 : S154 := ⟨z26, false, (⟨#[]⟩ : ByteArray), ([] : List S26), (0 : Int), (0 : Int), (0 : Int), (0 : Int)⟩
def k154 : Kd S154 := Kd.iso (Kd.pair k26 (Kd.pair Kd.bool (Kd.pair Kd.string (Kd.pair (Kd.slice 26 k26) (Kd.pair (Kd.int .i64) (Kd.pair (Kd.int .i64) (Kd.pair (Kd.int .i64) (Kd.int .i64)))))))) (fun x : S154 => (x.f0, x.f1, x.f2, x.f3, x.f4, x.f5, x.f6, x.f7))
theorem k154_open {w : World} {x : S154} {cs : List Value} (h : k154.K w x cs) : ∃ A4 c4, cs = [.int .i64 x.f0.f0, .string x.f0.f1, .bool x.f1, .string x.f2, .slice A4 x.f3.length c4, .int .i64 x.f4, .int .i64 x.f5, .int .i64 x.f6, .int .i64 x.f7] ∧ x.f3.length ≤ c4 ∧ k26.C w A4 x.f3.length x.f3 := by
 obtain ⟨_, _, rfl, s0, ⟨_, _, rfl, rfl, ⟨_, _, rfl, rfl, ⟨_, _, rfl, ⟨A4, c4, rfl, l4, g4⟩, ⟨_, _, rfl, rfl, ⟨_, _, rfl, rfl, ⟨_, _, rfl, rfl, rfl⟩⟩⟩⟩⟩⟩⟩ := h
 obtain rfl := k26_open s0
 exact ⟨A4, c4, rfl, l4, g4⟩
def rd_T154 (xs : List S154) (i : Int) : S154 := xs.getD i.toNat z154
theorem at_T154 {w : World} {A : Option Addr} {n : Nat} {xs : List S154} (h : Kd.C k154 w A n xs) (i : Int) (h0 : 0 ≤ i) (h1 : i < n) : ∃ ad A4 c4, A = some ad ∧ w.cell? (ad.add (i.toNat * 9)) = some (.int .i64 (rd_T154 xs i).f0.f0) ∧ w.cell? ⟨(ad.add (i.toNat * 9)).block, (ad.add (i.toNat * 9)).off + 1, none⟩ = some (.string (rd_T154 xs i).f0.f1) ∧ w.cell? ⟨(ad.add (i.toNat * 9)).block, (ad.add (i.toNat * 9)).off + 2, none⟩ = some (.bool (rd_T154 xs i).f1) ∧ w.cell? ⟨(ad.add (i.toNat * 9)).block, (ad.add (i.toNat * 9)).off + 3, none⟩ = some (.string (rd_T154 xs i).f2) ∧ w.cell? ⟨(ad.add (i.toNat * 9)).block, (ad.add (i.toNat * 9)).off + 4, none⟩ = some (.slice A4 (rd_T154 xs i).f3.length c4) ∧ w.cell? ⟨(ad.add (i.toNat * 9)).block, (ad.add (i.toNat * 9)).off + 5, none⟩ = some (.int .i64 (rd_T154 xs i).f4) ∧ w.cell? ⟨(ad.add (i.toNat * 9)).block, (ad.add (i.toNat * 9)).off + 6, none⟩ = some (.int .i64 (rd_T154 xs i).f5) ∧ w.cell? ⟨(ad.add (i.toNat * 9)).block, (ad.add (i.toNat * 9)).off + 7, none⟩ = some (.int .i64 (rd_T154 xs i).f6) ∧ w.cell? ⟨(ad.add (i.toNat * 9)).block, (ad.add (i.toNat * 9)).off + 8, none⟩ = some (.int .i64 (rd_T154 xs i).f7) ∧ (rd_T154 xs i).f3.length ≤ c4 ∧ k26.C w A4 (rd_T154 xs i).f3.length (rd_T154 xs i).f3 := by
 obtain ⟨ad, c, e, _, hK, hc0⟩ := Kd.C_get h z154 i h0 h1
 have hc : ∀ j u, c[j]? = some u → w.cell? (ad.add (i.toNat * 9 + j)) = some u := hc0
 obtain ⟨A4, c4, rfl, l4, g4⟩ := k154_open hK
 exact ⟨ad, A4, c4, e, hc 0 _ rfl, by rw [← add_field _ _ 1 (by omega)]; exact hc 1 _ rfl, by rw [← add_field _ _ 2 (by omega)]; exact hc 2 _ rfl, by rw [← add_field _ _ 3 (by omega)]; exact hc 3 _ rfl, by rw [← add_field _ _ 4 (by omega)]; exact hc 4 _ rfl, by rw [← add_field _ _ 5 (by omega)]; exact hc 5 _ rfl, by rw [← add_field _ _ 6 (by omega)]; exact hc 6 _ rfl, by rw [← add_field _ _ 7 (by omega)]; exact hc 7 _ rfl, by rw [← add_field _ _ 8 (by omega)]; exact hc 8 _ rfl, l4, g4⟩
structure S29 where
 f0 : Int
 f1 : ByteArray
def z29 : S29 := ⟨(0 : Int), (⟨#[]⟩ : ByteArray)⟩
def k29 : Kd S29 := Kd.iso (Kd.pair (Kd.int .i64) Kd.string) (fun x : S29 => (x.f0, x.f1))
theorem k29_open {w : World} {x : S29} {cs : List Value} (h : k29.K w x cs) : cs = [.int .i64 x.f0, .string x.f1] := by
 obtain ⟨_, _, rfl, rfl, rfl⟩ := h
 exact rfl
theorem k29_openM {w : World} {base : Nat} {ok : Nat → Prop} {x : S29} {cs : List Value} (h : k29.M w base ok x cs) : cs = [.int .i64 x.f0, .string x.f1] := by
 obtain ⟨_, _, rfl, rfl, rfl⟩ := h
 exact rfl
theorem k29_mkM (w : World) (base : Nat) (ok : Nat → Prop) (x : S29)  : k29.M w base ok x [.int .i64 x.f0, .string x.f1] := ⟨[.int .i64 x.f0], [.string x.f1], rfl, rfl, rfl⟩
def rd_T29 (xs : List S29) (i : Int) : S29 := xs.getD i.toNat z29
theorem at_T29 {w : World} {A : Option Addr} {n : Nat} {xs : List S29} (h : Kd.C k29 w A n xs) (i : Int) (h0 : 0 ≤ i) (h1 : i < n) : ∃ ad , A = some ad ∧ w.cell? (ad.add (i.toNat * 2)) = some (.int .i64 (rd_T29 xs i).f0) ∧ w.cell? ⟨(ad.add (i.toNat * 2)).block, (ad.add (i.toNat * 2)).off + 1, none⟩ = some (.string (rd_T29 xs i).f1) := by
 obtain ⟨ad, c, e, _, hK, hc0⟩ := Kd.C_get h z29 i h0 h1
 have hc : ∀ j u, c[j]? = some u → w.cell? (ad.add (i.toNat * 2 + j)) = some u := hc0
 obtain rfl := k29_open hK
 exact ⟨ad, e, hc 0 _ rfl, by rw [← add_field _ _ 1 (by omega)]; exact hc 1 _ rfl⟩
structure S32 where
 f0 : S29
 f1 : Bool
 f2 : ByteArray
 f3 : (List S29)
 f4 : Int
 f5 : Int
 f6 : Int
 f7 : Int
def z32 : S32 := ⟨z29, false, (⟨#[]⟩ : ByteArray), ([] : List S29), (0 : Int), (0 : Int), (0 : Int), (0 : Int)⟩
def k32 : Kd S32 := Kd.iso (Kd.pair k29 (Kd.pair Kd.bool (Kd.pair Kd.string (Kd.pair (Kd.slice 29 k29) (Kd.pair (Kd.int .i64) (Kd.pair (Kd.int .i64) (Kd.pair (Kd.int .i64) (Kd.int .i64)))))))) (fun x : S32 => (x.f0, x.f1, x.f2, x.f3, x.f4, x.f5, x.f6, x.f7))
theorem k32_open {w : World} {x : S32} {cs : List Value} (h : k32.K w x cs) : ∃ A4 c4, cs = [.int .i64 x.f0.f0, .string x.f0.f1, .bool x.f1, .string x.f2, .slice A4 x.f3.length c4, .int .i64 x.f4, .int .i64 x.f5, .int .i64 x.f6, .int .i64 x.f7] ∧ x.f3.length ≤ c4 ∧ k29.C w A4 x.f3.length x.f3 := by
 obtain ⟨_, _, rfl, s0, ⟨_, _, rfl, rfl, ⟨_, _, rfl, rfl, ⟨_, _, rfl, ⟨A4, c4, rfl, l4, g4⟩, ⟨_, _, rfl, rfl, ⟨_, _, rfl, rfl, ⟨_, _, rfl, rfl, rfl⟩⟩⟩⟩⟩⟩⟩ := h
 obtain rfl := k29_open s0
 exact ⟨A4, c4, rfl, l4, g4⟩
theorem k32_openM {w : World} {base : Nat} {ok : Nat → Prop} {x : S32} {cs : List Value} (h : k32.M w base ok x cs) : ∃ v4, cs = [.int .i64 x.f0.f0, .string x.f0.f1, .bool x.f1, .string x.f2, v4, .int .i64 x.f4, .int .i64 x.f5, .int .i64 x.f6, .int .i64 x.f7] ∧ k29.R 29 w base ok v4 x.f3 := by
 obtain ⟨_, _, rfl, s0, ⟨_, _, rfl, rfl, ⟨_, _, rfl, rfl, ⟨_, _, rfl, ⟨v4, rfl, g4⟩, ⟨_, _, rfl, rfl, ⟨_, _, rfl, rfl, ⟨_, _, rfl, rfl, rfl⟩⟩⟩⟩⟩⟩⟩ := h
 obtain rfl := k29_openM s0
 exact ⟨v4, rfl, g4⟩
theorem k32_mkM (w : World) (base : Nat) (ok : Nat → Prop) (x : S32) {v4 : Value} (g4 : k29.R 29 w base ok v4 x.f3) : k32.M w base ok x [.int .i64 x.f0.f0, .string x.f0.f1, .bool x.f1, .string x.f2, v4, .int .i64 x.f4, .int .i64 x.f5, .int .i64 x.f6, .int .i64 x.f7] := ⟨[.int .i64 x.f0.f0, .string x.f0.f1], [.bool x.f1, .string x.f2, v4, .int .i64 x.f4, .int .i64 x.f5, .int .i64 x.f6, .int .i64 x.f7], rfl, (k29_mkM w base ok x.f0 ), ⟨[.bool x.f1], [.string x.f2, v4, .int .i64 x.f4, .int .i64 x.f5, .int .i64 x.f6, .int .i64 x.f7], rfl, rfl, ⟨[.string x.f2], [v4, .int .i64 x.f4, .int .i64 x.f5, .int .i64 x.f6, .int .i64 x.f7], rfl, rfl, ⟨[v4], [.int .i64 x.f4, .int .i64 x.f5, .int .i64 x.f6, .int .i64 x.f7], rfl, ⟨v4, rfl, g4⟩, ⟨[.int .i64 x.f4], [.int .i64 x.f5, .int .i64 x.f6, .int .i64 x.f7], rfl, rfl, ⟨[.int .i64 x.f5], [.int .i64 x.f6, .int .i64 x.f7], rfl, rfl, ⟨[.int .i64 x.f6], [.int .i64 x.f7], rfl, rfl, rfl⟩⟩⟩⟩⟩⟩⟩
def rd_T32 (xs : List S32) (i : Int) : S32 := xs.getD i.toNat z32
theorem at_T32 {w : World} {A : Option Addr} {n : Nat} {xs : List S32} (h : Kd.C k32 w A n xs) (i : Int) (h0 : 0 ≤ i) (h1 : i < n) : ∃ ad A4 c4, A = some ad ∧ w.cell? (ad.add (i.toNat * 9)) = some (.int .i64 (rd_T32 xs i).f0.f0) ∧ w.cell? ⟨(ad.add (i.toNat * 9)).block, (ad.add (i.toNat * 9)).off + 1, none⟩ = some (.string (rd_T32 xs i).f0.f1) ∧ w.cell? ⟨(ad.add (i.toNat * 9)).block, (ad.add (i.toNat * 9)).off + 2, none⟩ = some (.bool (rd_T32 xs i).f1) ∧ w.cell? ⟨(ad.add (i.toNat * 9)).block, (ad.add (i.toNat * 9)).off + 3, none⟩ = some (.string (rd_T32 xs i).f2) ∧ w.cell? ⟨(ad.add (i.toNat * 9)).block, (ad.add (i.toNat * 9)).off + 4, none⟩ = some (.slice A4 (rd_T32 xs i).f3.length c4) ∧ w.cell? ⟨(ad.add (i.toNat * 9)).block, (ad.add (i.toNat * 9)).off + 5, none⟩ = some (.int .i64 (rd_T32 xs i).f4) ∧ w.cell? ⟨(ad.add (i.toNat * 9)).block, (ad.add (i.toNat * 9)).off + 6, none⟩ = some (.int .i64 (rd_T32 xs i).f5) ∧ w.cell? ⟨(ad.add (i.toNat * 9)).block, (ad.add (i.toNat * 9)).off + 7, none⟩ = some (.int .i64 (rd_T32 xs i).f6) ∧ w.cell? ⟨(ad.add (i.toNat * 9)).block, (ad.add (i.toNat * 9)).off + 8, none⟩ = some (.int .i64 (rd_T32 xs i).f7) ∧ (rd_T32 xs i).f3.length ≤ c4 ∧ k29.C w A4 (rd_T32 xs i).f3.length (rd_T32 xs i).f3 := by
 obtain ⟨ad, c, e, _, hK, hc0⟩ := Kd.C_get h z32 i h0 h1
 have hc : ∀ j u, c[j]? = some u → w.cell? (ad.add (i.toNat * 9 + j)) = some u := hc0
 obtain ⟨A4, c4, rfl, l4, g4⟩ := k32_open hK
 exact ⟨ad, A4, c4, e, hc 0 _ rfl, by rw [← add_field _ _ 1 (by omega)]; exact hc 1 _ rfl, by rw [← add_field _ _ 2 (by omega)]; exact hc 2 _ rfl, by rw [← add_field _ _ 3 (by omega)]; exact hc 3 _ rfl, by rw [← add_field _ _ 4 (by omega)]; exact hc 4 _ rfl, by rw [← add_field _ _ 5 (by omega)]; exact hc 5 _ rfl, by rw [← add_field _ _ 6 (by omega)]; exact hc 6 _ rfl, by rw [← add_field _ _ 7 (by omega)]; exact hc 7 _ rfl, by rw [← add_field _ _ 8 (by omega)]; exact hc 8 _ rfl, l4, g4⟩
structure S99 where
 f0 : S29
 f1 : Int
def z99 : S99 := ⟨z29, (0 : Int)⟩
def k99 : Kd S99 := Kd.iso (Kd.pair k29 (Kd.int .i64)) (fun x : S99 => (x.f0, x.f1))
theorem k99_open {w : World} {x : S99} {cs : List Value} (h : k99.K w x cs) : cs = [.int .i64 x.f0.f0, .string x.f0.f1, .int .i64 x.f1] := by
 obtain ⟨_, _, rfl, s0, rfl⟩ := h
 obtain rfl := k29_open s0
 exact rfl
theorem k99_openM {w : World} {base : Nat} {ok : Nat → Prop} {x : S99} {cs : List Value} (h : k99.M w base ok x cs) : cs = [.int .i64 x.f0.f0, .string x.f0.f1, .int .i64 x.f1] := by
 obtain ⟨_, _, rfl, s0, rfl⟩ := h
 obtain rfl := k29_openM s0
 exact rfl
theorem k99_mkM (w : World) (base : Nat) (ok : Nat → Prop) (x : S99)  : k99.M w base ok x [.int .i64 x.f0.f0, .string x.f0.f1, .int .i64 x.f1] := ⟨[.int .i64 x.f0.f0, .string x.f0.f1], [.int .i64 x.f1], rfl, (k29_mkM w base ok x.f0 ), rfl⟩
structure S101 where
 f0 : S99
 f1 : Int
 f2 : Bool
 f3 : ByteArray
 f4 : (List S29)
 f5 : Int
 f6 : Int
def z101 : S101 := ⟨z99, (0 : Int), false, (⟨#[]⟩ : ByteArray), ([] : List S29), (0 : Int), (0 : Int)⟩
def k101 : Kd S101 := Kd.iso (Kd.pair k99 (Kd.pair (Kd.int .i64) (Kd.pair Kd.bool (Kd.pair Kd.string (Kd.pair (Kd.slice 29 k29) (Kd.pair (Kd.int .i64) (Kd.int .i64))))))) (fun x : S101 => (x.f0, x.f1, x.f2, x.f3, x.f4, x.f5, x.f6))
theorem k101_open {w : World} {x : S101} {cs : List Value} (h : k101.K w x cs) : ∃ A6 c6, cs = [.int .i64 x.f0.f0.f0, .string x.f0.f0.f1, .int .i64 x.f0.f1, .int .i64 x.f1, .bool x.f2, .string x.f3, .slice A6 x.f4.length c6, .int .i64 x.f5, .int .i64 x.f6] ∧ x.f4.length ≤ c6 ∧ k29.C w A6 x.f4.length x.f4 := by
 obtain ⟨_, _, rfl, s0, ⟨_, _, rfl, rfl, ⟨_, _, rfl, rfl, ⟨_, _, rfl, rfl, ⟨_, _, rfl, ⟨A6, c6, rfl, l6, g6⟩, ⟨_, _, rfl, rfl, rfl⟩⟩⟩⟩⟩⟩ := h
 obtain rfl := k99_open s0
 exact ⟨A6, c6, rfl, l6, g6⟩
theorem k101_openM {w : World} {base : Nat} {ok : Nat → Prop} {x : S101} {cs : List Value} (h : k101.M w base ok x cs) : ∃ v6, cs = [.int .i64 x.f0.f0.f0, .string x.f0.f0.f1, .int .i64 x.f0.f1, .int .i64 x.f1, .bool x.f2, .string x.f3, v6, .int .i64 x.f5, .int .i64 x.f6] ∧ k29.R 29 w base ok v6 x.f4 := by
 obtain ⟨_, _, rfl, s0, ⟨_, _, rfl, rfl, ⟨_, _, rfl, rfl, ⟨_, _, rfl, rfl, ⟨_, _, rfl, ⟨v6, rfl, g6⟩, ⟨_, _, rfl, rfl, rfl⟩⟩⟩⟩⟩⟩ := h
 obtain rfl := k99_openM s0
 exact ⟨v6, rfl, g6⟩
theorem k101_mkM (w : World) (base : Nat) (ok : Nat → Prop) (x : S101) {v6 : Value} (g6 : k29.R 29 w base ok v6 x.f4) : k101.M w base ok x [.int .i64 x.f0.f0.f0, .string x.f0.f0.f1, .int .i64 x.f0.f1, .int .i64 x.f1, .bool x.f2, .string x.f3, v6, .int .i64 x.f5, .int .i64 x.f6] := ⟨[.int .i64 x.f0.f0.f0, .string x.f0.f0.f1, .int .i64 x.f0.f1], [.int .i64 x.f1, .bool x.f2, .string x.f3, v6, .int .i64 x.f5, .int .i64 x.f6], rfl, (k99_mkM w base ok x.f0 ), ⟨[.int .i64 x.f1], [.bool x.f2, .string x.f3, v6, .int .i64 x.f5, .int .i64 x.f6], rfl, rfl, ⟨[.bool x.f2], [.string x.f3, v6, .int .i64 x.f5, .int .i64 x.f6], rfl, rfl, ⟨[.string x.f3], [v6, .int .i64 x.f5, .int .i64 x.f6], rfl, rfl, ⟨[v6], [.int .i64 x.f5, .int .i64 x.f6], rfl, ⟨v6, rfl, g6⟩, ⟨[.int .i64 x.f5], [.int .i64 x.f6], rfl, rfl, rfl⟩⟩⟩⟩⟩⟩
def rd_T101 (xs : List S101) (i : Int) : S101 := xs.getD i.toNat z101
theorem at_T101 {w : World} {A : Option Addr} {n : Nat} {xs : List S101} (h : Kd.C k101 w A n xs) (i : Int) (h0 : 0 ≤ i) (h1 : i < n) : ∃ ad A6 c6, A = some ad ∧ w.cell? (ad.add (i.toNat * 9)) = some (.int .i64 (rd_T101 xs i).f0.f0.f0) ∧ w.cell? ⟨(ad.add (i.toNat * 9)).block, (ad.add (i.toNat * 9)).off + 1, none⟩ = some (.string (rd_T101 xs i).f0.f0.f1) ∧ w.cell? ⟨(ad.add (i.toNat * 9)).block, (ad.add (i.toNat * 9)).off + 2, none⟩ = some (.int .i64 (rd_T101 xs i).f0.f1) ∧ w.cell? ⟨(ad.add (i.toNat * 9)).block, (ad.add (i.toNat * 9)).off + 3, none⟩ = some (.int .i64 (rd_T101 xs i).f1) ∧ w.cell? ⟨(ad.add (i.toNat * 9)).block, (ad.add (i.toNat * 9)).off + 4, none⟩ = some (.bool (rd_T101 xs i).f2) ∧ w.cell? ⟨(ad.add (i.toNat * 9)).block, (ad.add (i.toNat * 9)).off + 5, none⟩ = some (.string (rd_T101 xs i).f3) ∧ w.cell? ⟨(ad.add (i.toNat * 9)).block, (ad.add (i.toNat * 9)).off + 6, none⟩ = some (.slice A6 (rd_T101 xs i).f4.length c6) ∧ w.cell? ⟨(ad.add (i.toNat * 9)).block, (ad.add (i.toNat * 9)).off + 7, none⟩ = some (.int .i64 (rd_T101 xs i).f5) ∧ w.cell? ⟨(ad.add (i.toNat * 9)).block, (ad.add (i.toNat * 9)).off + 8, none⟩ = some (.int .i64 (rd_T101 xs i).f6) ∧ (rd_T101 xs i).f4.length ≤ c6 ∧ k29.C w A6 (rd_T101 xs i).f4.length (rd_T101 xs i).f4 := by
 obtain ⟨ad, c, e, _, hK, hc0⟩ := Kd.C_get h z101 i h0 h1
 have hc : ∀ j u, c[j]? = some u → w.cell? (ad.add (i.toNat * 9 + j)) = some u := hc0
 obtain ⟨A6, c6, rfl, l6, g6⟩ := k101_open hK
 exact ⟨ad, A6, c6, e, hc 0 _ rfl, by rw [← add_field _ _ 1 (by omega)]; exact hc 1 _ rfl, by rw [← add_field _ _ 2 (by omega)]; exact hc 2 _ rfl, by rw [← add_field _ _ 3 (by omega)]; exact hc 3 _ rfl, by rw [← add_field _ _ 4 (by omega)]; exact hc 4 _ rfl, by rw [← add_field _ _ 5 (by omega)]; exact hc 5 _ rfl, by rw [← add_field _ _ 6 (by omega)]; exact hc 6 _ rfl, by rw [← add_field _ _ 7 (by omega)]; exact hc 7 _ rfl, by rw [← add_field _ _ 8 (by omega)]; exact hc 8 _ rfl, l6, g6⟩
end Go.Proofs.YtnbohlcibgfjaaaDoor.Gp
end
section
namespace Go.Proofs.YtnbohlcibgfjaaaDoor.Gp
open Go.RowKit Go.Proofs.YtnbohlcibgfjaaaDoorW.PrintWords
set_option linter.unusedVariables false
theorem addr_at (g m : Nat) : (⟨g, 0, none⟩ : Addr).add m = ⟨g, m, none⟩ := by unfold Addr.add; split <;> simp_all
section
variable {α : Type} {d : Kd α} {e : Nat} {w0 wi W W1 : World} {P : Nat → Prop} {g n cap : Nat} {xs : List α} {i : Int} {oki : Nat → Prop} {c : List Value}
structure Hol {α : Type} (d : Kd α) (e : Nat) (w0 wi W : World) (P : Nat → Prop) (g n cap : Nat) (xs : List α) (i : Int) (oki : Nat → Prop) (c : List Value) : Prop where
 H : Kd.H d e W w0.heap.size P (.slice (some ⟨g, 0, none⟩) n cap) xs i oki c
 i0 : 0 ≤ i
 i1 : i < n
 ne : ∀ k, oki k → P k ∧ k ≠ g
 kept : Kept wi W P
 bel : Below w0.heap.size w0 W
theorem Hol.start (h : Kd.S d e W w0.heap.size P (.slice (some ⟨g, 0, none⟩) n cap) xs) (z : α) (i0 : 0 ≤ i) (i1 : i < n) (kept : Kept wi W P) (bel : Below w0.heap.size w0 W) :
 ∃ (oki : Nat → Prop) (c : List Value), d.M W w0.heap.size oki (xs.getD i.toNat z) c ∧ Hol d e w0 wi W P g n cap xs i oki c := by
 obtain ⟨oki, c, _, hM, _, hoki, hH⟩ := Kd.S_lend h z i i0 i1
 exact ⟨oki, c, hM, hH, i0, i1, hoki, kept, bel⟩
theorem Hol.cell (h : Hol d e w0 wi W P g n cap xs i oki c) {j : Nat} {u : Value} (hj : c[j]? = some u) : W.cell? ⟨g, i.toNat * d.sz + j, none⟩ = some u := by
 obtain ⟨_, _, _, _, _, hcc, _⟩ := Kd.H_raw h.H h.i0 h.i1
 exact hcc j u hj
theorem Hol.own (h : Hol d e w0 wi W P g n cap xs i oki c) : P g ∧ w0.heap.size ≤ g ∧ g < W.heap.size ∧ ∃ cs, W.heap[g]? = some (.cells cs e (0, 0)) := by
 obtain ⟨_, f, hR⟩ := h.H
 have hg : (Value.slice (some ⟨g, 0, none⟩) n cap).ownBlock = some g := by simp [Value.ownBlock]
 exact ⟨(hR.1 g hg).1, Kd.R_base hR g hg, Kd.R_lt hR g hg, Kd.R_typed hR g hg⟩
theorem Hol.frozen (h : Hol d e w0 wi W P g n cap xs i oki c) (o : Nat) : W.frozen? ⟨g, o, none⟩ = false := by
 obtain ⟨_, _, _, cs, hc⟩ := h.own
 exact blk_frozen hc o
theorem Hol.put (h : Hol d e w0 wi W P g n cap xs i oki c) (j : Nat) (u : Value) (hj : j < d.sz) (hc : c.length = d.sz) (hu : u.oneCell' = true) : Hol d e w0 wi (W.setCell ⟨g, i.toNat * d.sz + j, none⟩ u) P g n cap xs i oki (c.set j u) := by
 obtain ⟨hPg, hbg, hlt, _⟩ := h.own
 obtain ⟨h2, h3⟩ := Kd.H_seg h.H h.i0 h.i1 (seg := [u]) (j := j) (by show j + 1 ≤ d.sz; omega) (by intro q hq; rw [List.mem_singleton.1 hq]; exact hu)
 have e : c.take j ++ [u] ++ c.drop (j + [u].length) = c.set j u := by
  rw [List.set_eq_take_append_cons_drop, if_pos (by omega)]
  simp
 rw [e] at h2
 exact ⟨h2, h.i0, h.i1, h.ne, Kept.of_grown h3 h.kept (fun k hk => by cases hk; exact .inl hPg), below_set h.bel hbg⟩
theorem Hol.below (h : Hol d e w0 wi W P g n cap xs i oki c) (hb : Below W.heap.size W W1) : Hol d e w0 wi W1 P g n cap xs i oki c :=
 ⟨Kd.H_below h.H hb, h.i0, h.i1, h.ne, Kept.then_ h.kept (Kept.of_below hb (fun _ => False)) (fun _ hk => hk.elim), below_step h.bel hb⟩
theorem Hol.inner (h : Hol d e w0 wi W P g n cap xs i oki c) {S : Nat → Prop} (hk : Kept W W1 S) (hS : ∀ k, S k → oki k) (hb : Below w0.heap.size w0 W1) : Hol d e w0 wi W1 P g n cap xs i oki c :=
 ⟨Kd.H_kept h.H hk (fun k _ hn hs => hn (hS k hs)), h.i0, h.i1, h.ne, Kept.then_ h.kept hk (fun k hs => .inl (h.ne k (hS k hs)).1), hb⟩
theorem Hol.back (h : Hol d e w0 wi W P g n cap xs i oki c) {x' : α} {okp : Nat → Prop} (hM : d.M W w0.heap.size okp x' c) (hok : ∀ k, okp k → oki k) : Kd.S d e W w0.heap.size P (.slice (some ⟨g, 0, none⟩) n cap) (xs.set i.toNat x') := Kd.H_back h.H hM hok
/-- A cell of the element is stored into. -/
theorem Hol.store {P' : Program} {ops : Array Oper} {rest : List Oper} {o : Oper} {a : Act} {Q : Exit → Act → World → Prop} (hN : o.dst = none) (hgd : o.guard = none) (t : TypeId) (p x : Operand) (ho : o.op = .store t p x) (h : Hol d e w0 wi W P g n cap xs i oki c) (j : Nat) (u : Value)
 {q : Addr} (haddr : a.eval p = .pointer (some q)) (hx : a.eval x = u) (hq : q = ⟨g, i.toNat * d.sz + j, none⟩) (hu : u.cells.toList = [u]) (ht : (P'.info? t).map (·.size) = some 1) (h1 : u.oneCell' = true) (hj : j < d.sz)
 (hK : ∀ W1, Hol d e w0 wi W1 P g n cap xs i oki (c.set j u) → W.grownBy W1 (some g) → wpList P' ops Q rest a W1) : wpList P' ops Q (o :: rest) a W := by
 subst hq
 obtain ⟨hPg, hbg, hlt, _⟩ := h.own
 obtain ⟨rows, _, hraw, hcl, hco, hcc, hback⟩ := Kd.H_raw h.H h.i0 h.i1
 have e1 : c.take j ++ [u] ++ c.drop (j + [u].length) = c.set j u := by
  rw [List.set_eq_take_append_cons_drop, if_pos (by omega)]
  simp
 refine Kd.R_store (Kd.raw d.sz) w0.heap.size hN hgd t p x ho e i j rows (c.take j ++ [u] ++ c.drop (j + [u].length)) u [u] c (fun _ => True) (fun _ => False) haddr rfl hx hu ht (fun q hq => by rw [List.mem_singleton.1 hq]; exact h1) hraw h.i0 h.i1 hcl hcc (by show j + 1 ≤ d.sz; omega)
  ⟨rfl, by rw [e1, List.length_set]; exact hcl, fun y hy => by
   rw [e1] at hy
   rcases List.mem_or_eq_of_mem_set hy with hy | rfl
   · exact hco y hy
   exact h1⟩ (fun _ hk => hk.elim) h.bel ?_
 intro W1 hr hb hg
 have hh := hback W1 _ hg hr
 rw [e1] at hh
 exact hK W1 ⟨hh, h.i0, h.i1, h.ne, Kept.of_grown hg h.kept (fun k hk => by cases hk; exact .inl hPg), hb⟩ hg
theorem Hol.innerSet {β : Type} {db : Kd β} {eb : Nat} {v : Value} {ys : List β} (h : Hol d e w0 wi W P g n cap xs i oki c) (hR : db.R eb W w0.heap.size oki v ys) (o : Nat) (u : Value) : db.R eb (W.setCell ⟨g, o, none⟩ u) w0.heap.size oki v ys :=
 Kd.R_far hR (fun k hk => (h.ne k hk).2) u
end
theorem blk_stores9 {W : World} {g t : Nat} {x0 x1 x2 x3 x4 x5 x6 x7 x8 : Value} {y0 y1 y2 y3 y4 y5 y6 y7 y8 : Value} (h : W.heap[g]? = some (.cells #[x0, x1, x2, x3, x4, x5, x6, x7, x8] t (0, 0))) :
 (((((((((W.setCell ⟨g, 0, none⟩ y0).setCell ⟨g, 1, none⟩ y1).setCell ⟨g, 2, none⟩ y2).setCell ⟨g, 3, none⟩ y3).setCell ⟨g, 4, none⟩ y4).setCell ⟨g, 5, none⟩ y5).setCell ⟨g, 6, none⟩ y6).setCell ⟨g, 7, none⟩ y7).setCell ⟨g, 8, none⟩ y8).heap[g]? = some (.cells #[y0, y1, y2, y3, y4, y5, y6, y7, y8] t (0, 0)) := by
 refine blk_put (cs := #[y0, y1, y2, y3, y4, y5, y6, y7, x8]) ?_ 8 _ rfl
 refine blk_put (cs := #[y0, y1, y2, y3, y4, y5, y6, x7, x8]) ?_ 7 _ rfl
 refine blk_put (cs := #[y0, y1, y2, y3, y4, y5, x6, x7, x8]) ?_ 6 _ rfl
 refine blk_put (cs := #[y0, y1, y2, y3, y4, x5, x6, x7, x8]) ?_ 5 _ rfl
 refine blk_put (cs := #[y0, y1, y2, y3, x4, x5, x6, x7, x8]) ?_ 4 _ rfl
 refine blk_put (cs := #[y0, y1, y2, x3, x4, x5, x6, x7, x8]) ?_ 3 _ rfl
 refine blk_put (cs := #[y0, y1, x2, x3, x4, x5, x6, x7, x8]) ?_ 2 _ rfl
 refine blk_put (cs := #[y0, x1, x2, x3, x4, x5, x6, x7, x8]) ?_ 1 _ rfl
 exact blk_put h 0 _ rfl
theorem blk_far9 {W : World} {g k t : Nat} {cs : Array Value} {y0 y1 y2 y3 y4 y5 y6 y7 y8 : Value} (h : W.heap[k]? = some (.cells cs t (0, 0))) (hn : k ≠ g) : (((((((((W.setCell ⟨g, 0, none⟩ y0).setCell ⟨g, 1, none⟩ y1).setCell ⟨g, 2, none⟩ y2).setCell ⟨g, 3, none⟩ y3).setCell ⟨g, 4, none⟩ y4).setCell ⟨g, 5, none⟩ y5).setCell ⟨g, 6, none⟩ y6).setCell ⟨g, 7, none⟩ y7).setCell ⟨g, 8, none⟩ y8).heap[k]? = some (.cells cs t (0, 0)) :=
 blk_far (blk_far (blk_far (blk_far (blk_far (blk_far (blk_far (blk_far (blk_far h hn _) hn _) hn _) hn _) hn _) hn _) hn _) hn _) hn _
theorem cell_far9 {W : World} {g k j : Nat} {y0 y1 y2 y3 y4 y5 y6 y7 y8 : Value} (hn : k ≠ g) : (((((((((W.setCell ⟨g, 0, none⟩ y0).setCell ⟨g, 1, none⟩ y1).setCell ⟨g, 2, none⟩ y2).setCell ⟨g, 3, none⟩ y3).setCell ⟨g, 4, none⟩ y4).setCell ⟨g, 5, none⟩ y5).setCell ⟨g, 6, none⟩ y6).setCell ⟨g, 7, none⟩ y7).setCell ⟨g, 8, none⟩ y8).cell? ⟨k, j, none⟩ = W.cell? ⟨k, j, none⟩ := by
 rw [cell_far (p := ⟨g, 8, none⟩) hn, cell_far (p := ⟨g, 7, none⟩) hn, cell_far (p := ⟨g, 6, none⟩) hn, cell_far (p := ⟨g, 5, none⟩) hn, cell_far (p := ⟨g, 4, none⟩) hn, cell_far (p := ⟨g, 3, none⟩) hn, cell_far (p := ⟨g, 2, none⟩) hn, cell_far (p := ⟨g, 1, none⟩) hn, cell_far (p := ⟨g, 0, none⟩) hn]
theorem R_far9 {α : Type} {d : Kd α} {e : Nat} {w : World} {base : Nat} {ok : Nat → Prop} {v : Value} {xs : List α} {g : Nat} {y0 y1 y2 y3 y4 y5 y6 y7 y8 : Value} (h : d.R e w base ok v xs) (hok : ∀ k, ok k → k ≠ g) : d.R e (((((((((w.setCell ⟨g, 0, none⟩ y0).setCell ⟨g, 1, none⟩ y1).setCell ⟨g, 2, none⟩ y2).setCell ⟨g, 3, none⟩ y3).setCell ⟨g, 4, none⟩ y4).setCell ⟨g, 5, none⟩ y5).setCell ⟨g, 6, none⟩ y6).setCell ⟨g, 7, none⟩ y7).setCell ⟨g, 8, none⟩ y8) base ok v xs :=
 Kd.R_far (p := ⟨g, 8, none⟩) (Kd.R_far (p := ⟨g, 7, none⟩) (Kd.R_far (p := ⟨g, 6, none⟩) (Kd.R_far (p := ⟨g, 5, none⟩) (Kd.R_far (p := ⟨g, 4, none⟩) (Kd.R_far (p := ⟨g, 3, none⟩) (Kd.R_far (p := ⟨g, 2, none⟩) (Kd.R_far (p := ⟨g, 1, none⟩) (Kd.R_far (p := ⟨g, 0, none⟩) h hok _) hok _) hok _) hok _) hok _) hok _) hok _) hok _) hok _
theorem S_far9 {α : Type} {d : Kd α} {e : Nat} {w : World} {base : Nat} {ok : Nat → Prop} {v : Value} {xs : List α} {g : Nat} {y0 y1 y2 y3 y4 y5 y6 y7 y8 : Value} (h : Kd.S d e w base ok v xs) (hok : ∀ k, ok k → k ≠ g) : Kd.S d e (((((((((w.setCell ⟨g, 0, none⟩ y0).setCell ⟨g, 1, none⟩ y1).setCell ⟨g, 2, none⟩ y2).setCell ⟨g, 3, none⟩ y3).setCell ⟨g, 4, none⟩ y4).setCell ⟨g, 5, none⟩ y5).setCell ⟨g, 6, none⟩ y6).setCell ⟨g, 7, none⟩ y7).setCell ⟨g, 8, none⟩ y8) base ok v xs :=
 Kd.S_far (p := ⟨g, 8, none⟩) (Kd.S_far (p := ⟨g, 7, none⟩) (Kd.S_far (p := ⟨g, 6, none⟩) (Kd.S_far (p := ⟨g, 5, none⟩) (Kd.S_far (p := ⟨g, 4, none⟩) (Kd.S_far (p := ⟨g, 3, none⟩) (Kd.S_far (p := ⟨g, 2, none⟩) (Kd.S_far (p := ⟨g, 1, none⟩) (Kd.S_far (p := ⟨g, 0, none⟩) h hok _) hok _) hok _) hok _) hok _) hok _) hok _) hok _) hok _
theorem kept_set1 {W W1 : World} {g j : Nat} {y : Value} (h : Kept W W1 (fun k => k = g)) : Kept W (W1.setCell ⟨g, j, none⟩ y) (fun k => k = g) := Kept.setCell h (.inl rfl) _
section
variable {α : Type} {d : Kd α} {e t lo hi g n c : Nat} {w0 W W1 : World} {cs : Array Value} {v : Value} {A : Option Addr} {l l' : List α} {S : Nat → Prop}
/-- A box of the law's own and the row that it leads to: their blocks lie from lo up to hi. -/
structure ResR {α : Type} (d : Kd α) (e t : Nat) (w0 W : World) (lo hi g : Nat) (cs : Array Value) (v : Value) (l : List α) : Prop where
 b : W.heap[g]? = some (.cells cs t (0, 0))
 ge : lo ≤ g
 lt : g < hi
 sz : hi ≤ W.heap.size
 r : d.R e W w0.heap.size (fun k => lo ≤ k ∧ k < hi ∧ k ≠ g) v l
structure ResS {α : Type} (d : Kd α) (e t : Nat) (w0 W : World) (lo hi g : Nat) (cs : Array Value) (v : Value) (l : List α) : Prop where
 b : W.heap[g]? = some (.cells cs t (0, 0))
 ge : lo ≤ g
 lt : g < hi
 sz : hi ≤ W.heap.size
 r : Kd.S d e W w0.heap.size (fun k => lo ≤ k ∧ k < hi ∧ k ≠ g) v l
theorem ResR.keep (h : ResR d e t w0 W lo hi g cs v l) (hb : Below W.heap.size W W1) : ResR d e t w0 W1 lo hi g cs v l :=
 ⟨blk_below h.b hb, h.ge, h.lt, Nat.le_trans h.sz hb.size, Kd.R_below h.r hb⟩
theorem ResS.keep (h : ResS d e t w0 W lo hi g cs v l) (hb : Below W.heap.size W W1) : ResS d e t w0 W1 lo hi g cs v l :=
 ⟨blk_below h.b hb, h.ge, h.lt, Nat.le_trans h.sz hb.size, Kd.S_below h.r hb⟩
theorem ResR.kept (h : ResR d e t w0 W lo hi g cs v l) (hk : Kept W W1 S) (hs : ∀ k, S k → k < lo ∨ hi ≤ k) : ResR d e t w0 W1 lo hi g cs v l :=
 ⟨blk_kept h.b hk (fun x => by have := hs _ x; have := h.ge; have := h.lt; omega), h.ge, h.lt, Nat.le_trans h.sz hk.1, Kd.R_kept h.r hk (fun k hx x => by have := hs _ x; omega)⟩
theorem ResS.kept (h : ResS d e t w0 W lo hi g cs v l) (hk : Kept W W1 S) (hs : ∀ k, S k → k < lo ∨ hi ≤ k) : ResS d e t w0 W1 lo hi g cs v l :=
 ⟨blk_kept h.b hk (fun x => by have := hs _ x; have := h.ge; have := h.lt; omega), h.ge, h.lt, Nat.le_trans h.sz hk.1, Kd.S_kept h.r hk (fun k hx x => by have := hs _ x; omega)⟩
/-- Marked: the row's blocks alone are written. -/
theorem ResS.mark (h : ResS d e t w0 W lo hi g cs v l) (hk : Kept W W1 (fun k => lo ≤ k ∧ k < hi ∧ k ≠ g)) (hr : Kd.S d e W1 w0.heap.size (fun k => lo ≤ k ∧ k < hi ∧ k ≠ g) v l') : ResS d e t w0 W1 lo hi g cs v l' :=
 ⟨blk_kept h.b hk (fun x => x.2.2 rfl), h.ge, h.lt, Nat.le_trans h.sz hk.1, hr⟩
theorem ResR.mark {P : Nat → Prop} (h : ResR d e t w0 W lo hi g cs v l) (hE : d.E = []) (hk : Kept W W1 (fun k => lo ≤ k ∧ k < hi ∧ k ≠ g)) (hr : d.R e W1 w0.heap.size P v l') : ResR d e t w0 W1 lo hi g cs v l' :=
 ⟨blk_kept h.b hk (fun x => x.2.2 rfl), h.ge, h.lt, Nat.le_trans h.sz hk.1, Kd.R_mono (Kd.R_tight hE hr) (fun k e_ => h.r.1 k e_.symm)⟩
theorem ResR.reads (h : ResR d e t w0 W lo hi g cs (.slice A n c) l) : n = l.length ∧ n ≤ c ∧ d.C W A l.length l := Kd.R_reads' h.r
theorem ResS.reads (h : ResS d e t w0 W lo hi g cs (.slice A n c) l) : n = l.length ∧ n ≤ c ∧ d.C W A l.length l := Kd.S_reads' h.r
theorem ResR.mk2 (b : W.heap[g]? = some (.cells cs t (0, 0))) (lo' : lo ≤ g) (hi' : g < hi) (sz : W.heap.size = hi) (h0 : w0.heap.size ≤ lo) (h : d.R e W lo (fun _ => True) v l) (ht : ∀ q, q ∈ e :: d.E → q ≠ t) : ResR d e t w0 W lo hi g cs v l :=
 ⟨b, lo', hi', Nat.le_of_eq sz.symm, Kd.R_lower (Kd.R_mono (Kd.R_bound (Kd.R_types h b ht)) (fun k hk => ⟨hk.2.1, sz ▸ hk.2.2.1, hk.1.2⟩)) h0⟩
theorem ResS.mk2 (b : W.heap[g]? = some (.cells cs t (0, 0))) (lo' : lo ≤ g) (hi' : g < hi) (sz : W.heap.size = hi) (h0 : w0.heap.size ≤ lo) (h : Kd.S d e W lo (fun _ => True) v l) (ht : ∀ q, q ∈ e :: d.E → q ≠ t) : ResS d e t w0 W lo hi g cs v l :=
 ⟨b, lo', hi', Nat.le_of_eq sz.symm, Kd.S_lower (Kd.S_mono (Kd.S_bound (Kd.S_types h b ht)) (fun k hk => ⟨hk.2.1, sz ▸ hk.2.2.1, hk.1.2⟩)) h0⟩
theorem ResS.stored1 {x y : Value} {W' : World} (hW : W' = W.setCell ⟨g, 0, none⟩ y) (hg : W.heap[g]? = some (.cells #[x] t (0, 0))) (ge : lo ≤ g) (h0 : w0.heap.size ≤ lo) (h : Kd.S d e W lo (fun _ => True) v l) (ht : ∀ q, q ∈ e :: d.E → q ≠ t) :
 ResS d e t w0 W' lo W'.heap.size g #[y] v l := by
 subst hW
 have hb : (W.setCell ⟨g, 0, none⟩ y).heap[g]? = some (.cells #[y] t (0, 0)) := blk_put hg 0 _ rfl
 exact ResS.mk2 hb ge (blk_lt hb) rfl h0 (Kd.S_mono (Kd.S_kept (Kd.S_types h hg ht) (kept_set1 (Kept.refl W _)) (fun k hk => hk.2)) (fun _ _ => trivial)) ht
end
end Go.Proofs.YtnbohlcibgfjaaaDoor.Gp
end
