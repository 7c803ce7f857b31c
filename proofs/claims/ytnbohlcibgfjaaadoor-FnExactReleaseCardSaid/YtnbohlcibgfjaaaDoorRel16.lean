/- A part of the proof of RowFnExactRelease: each text's theorems that it needs, packed by shake.py, a program of this work; Lean checks them. -/
import Derived.Test.YtnbohlcibgfjaaaDoorRel3
import Derived.Test.YtnbohlcibgfjaaaDoorRel15
section
namespace Go.Proofs.YtnbohlcibgfjaaaDoor.Gp
open Go.RowKit Go.Proofs.YtnbohlcibgfjaaaDoorW.PrintWords Go.Proofs.YtnbohlcibgfjaaaDoorW.PrintLast Go.Proofs.YtnbohlcibgfjaaaDoorW.PrintMore
set_option linter.unusedVariables false
set_option linter.unusedSimpArgs false
def keepR (q : S101) : Bool := !deadR q
theorem idxD_spec : ∀ (l : List S101) (k : Nat), (idxD l k = -1 ∧ l.filter keepR = l) ∨ ∃ m, m < l.length ∧ idxD l k = ((k + m : Nat) : Int) ∧ (l.take m).filter keepR = l.take m ∧ deadR (rd_T101 l m) = true
 | [], _ => .inl ⟨rfl, rfl⟩
 | x :: l, k => by
  rw [idxD_cons]
  by_cases hx : deadR x = true
  · rw [if_pos hx]
    exact .inr ⟨0, by simp, rfl, rfl, hx⟩
  rw [if_neg hx]
  have hk : keepR x = true := by unfold keepR; simpa using hx
  rcases idxD_spec l (k + 1) with ⟨h1, h2⟩ | ⟨m, h1, h2, h3, h4⟩
  · exact .inl ⟨h1, by rw [List.filter_cons_of_pos hk, h2]⟩
  refine .inr ⟨m + 1, by simpa using h1, by rw [h2]; omega, by rw [List.take_succ_cons, List.filter_cons_of_pos hk, h3], ?_⟩
  unfold rd_T101 at h4 ⊢
  simp only [Int.toNat_natCast, List.getD_cons_succ] at h4 ⊢
  exact h4
abbrev ZT := S101 × List Value × (Nat → Prop)
def kz (z : ZT) : Bool := keepR z.1
structure DInv (zs : List ZT) (g cap i j : Nat) (rows : List (List Value)) (w0 w1 W : World) : Prop where
 R : (Kd.raw 9).R 101 W w0.heap.size (fun k => k = g) (.slice (some ⟨g, 0, none⟩) zs.length cap) rows
 hi : i = ((zs.take j).filter kz).length
 tk : rows.take i = ((zs.take j).filter kz).map (·.2.1)
 dr : rows.drop j = (zs.drop j).map (·.2.1)
 lt : i < j
 le : j ≤ zs.length
 bel : Below w0.heap.size w0 W
 kept : Kept w1 W (fun k => k = g)
section
variable {zs : List ZT} {g cap i j : Nat} {rows : List (List Value)} {w0 w1 W W' : World}
theorem DInv.len (h : DInv zs g cap i j rows w0 w1 W) : rows.length = zs.length := ((Kd.R_reads' h.R).1).symm
theorem DInv.below (h : DInv zs g cap i j rows w0 w1 W) (hb : Below W.heap.size W W') : DInv zs g cap i j rows w0 w1 W' :=
 ⟨Kd.R_below h.R hb, h.hi, h.tk, h.dr, h.lt, h.le, below_step h.bel hb, h.kept.below hb⟩
theorem take_z (hj : j < zs.length) : zs.take (j + 1) = zs.take j ++ [zs[j]] := by rw [List.take_add_one, List.getElem?_eq_getElem hj]; rfl
theorem DInv.row (h : DInv zs g cap i j rows w0 w1 W) (hj : j < zs.length) : rows.getD j [] = (zs[j]).2.1 := by
 have h1 : rows[j]? = some (zs[j]).2.1 := by
  have := congrArg (fun l => l[0]?) h.dr
  simp only [List.getElem?_drop, List.getElem?_map, Nat.add_zero, List.getElem?_eq_getElem hj] at this
  exact this
 rw [List.getD_eq_getElem?_getD, h1]
 rfl
theorem DInv.skip (h : DInv zs g cap i j rows w0 w1 W) (hj : j < zs.length) (hd : kz zs[j] = false) : DInv zs g cap i (j + 1) rows w0 w1 W := by
 have e : (zs.take (j + 1)).filter kz = (zs.take j).filter kz := by rw [take_z hj, List.filter_append, List.filter_cons_of_neg (by rw [hd]; decide), List.filter_nil, List.append_nil]
 refine ⟨h.R, by rw [e]; exact h.hi, by rw [e]; exact h.tk, ?_, Nat.lt_succ_of_lt h.lt, hj, h.bel, h.kept⟩
 have := congrArg (List.drop 1) h.dr
 rw [List.drop_drop, ← List.map_drop, List.drop_drop] at this
 exact this
theorem DInv.move (h : DInv zs g cap i j rows w0 w1 W) (hj : j < zs.length) (hd : kz zs[j] = true) (h2 : (Kd.raw 9).R 101 W' w0.heap.size (fun k => k = g) (.slice (some ⟨g, 0, none⟩) zs.length cap) (rows.set i (zs[j]).2.1)) (hB : Below w0.heap.size w0 W') (h3 : W.grownBy W' (some g)) : DInv zs g cap (i + 1) (j + 1) (rows.set i (zs[j]).2.1) w0 w1 W' := by
 have e : (zs.take (j + 1)).filter kz = (zs.take j).filter kz ++ [zs[j]] := by rw [take_z hj, List.filter_append, List.filter_cons_of_pos hd, List.filter_nil]
 have hlt := h.lt
 have hil : i < rows.length := by rw [h.len]; omega
 refine ⟨h2, by rw [e, List.length_append, ← h.hi]; rfl, ?_, ?_, by omega, hj, hB, Kept.of_grown h3 h.kept (fun k hk => .inl (by injection hk with hk; exact hk.symm))⟩
 · rw [e, List.map_append, ← h.tk, List.take_add_one, List.getElem?_set_self hil, List.take_set_of_le (Nat.le_refl _)]
   rfl
 rw [List.drop_set_of_lt (by omega)]
 have := congrArg (List.drop 1) h.dr
 rw [List.drop_drop, ← List.map_drop, List.drop_drop] at this
 exact this
theorem DInv.cell (h : DInv zs g cap i j rows w0 w1 W) (hj : j < zs.length) {t : Nat} {u : Value} (hu : (zs[j]).2.1[t]? = some u) : W.cell? ⟨g, j * 9 + t, none⟩ = some u := by
 obtain ⟨c0, _, hM, hcc, _⟩ := Kd.R_elem h.R [] (j : Int) (by omega) (by omega)
 have hM1 : c0 = rows.getD (j : Int).toNat [] := hM.1
 rw [Int.toNat_natCast] at hM1 hcc
 rw [h.row hj] at hM1
 exact hcc t u (by rw [hM1]; exact hu)
theorem DInv.old (h : DInv zs g cap i j rows w0 w1 W) : ∃ u0 u1 u2 u3 u4 u5 u6 u7 u8 : Value, ∀ t u, [u0, u1, u2, u3, u4, u5, u6, u7, u8][t]? = some u → W.cell? ⟨g, i * 9 + t, none⟩ = some u := by
 have := h.lt
 have := h.le
 obtain ⟨c0, hl, _, hcc, _⟩ := Kd.R_elem h.R [] (i : Int) (by omega) (by omega)
 have hl : c0.length = 9 := hl
 rw [Int.toNat_natCast] at hcc
 match c0, hl, hcc with
 | [u0, u1, u2, u3, u4, u5, u6, u7, u8], _, hcc => exact ⟨u0, u1, u2, u3, u4, u5, u6, u7, u8, hcc⟩
theorem DInv.init {L : List S101} {m : Nat} (hz : zs.map (·.1) = L) (hR : (Kd.raw 9).R 101 W w0.heap.size (fun k => k = g) (.slice (some ⟨g, 0, none⟩) zs.length cap) (zs.map (·.2.1))) (hB : Below w0.heap.size w0 W) (hm : m < L.length) (hf : (L.take m).filter keepR = L.take m) (hd : deadR (rd_T101 L m) = true) : DInv zs g cap m (m + 1) (zs.map (·.2.1)) w0 W W := by
 have hml : m < zs.length := by rw [← hz, List.length_map] at hm; exact hm
 have h1 : (zs.take m).filter kz = zs.take m := by
  refine List.filter_eq_self.2 (fun z hz' => ?_)
  refine List.filter_eq_self.1 hf z.1 ?_
  rw [← hz, ← List.map_take]
  exact List.mem_map_of_mem hz'
 have h2 : kz zs[m] = false := by
  have e : rd_T101 L m = (zs[m]).1 := by
   unfold rd_T101
   rw [← hz, Int.toNat_natCast, List.getD_eq_getElem?_getD, List.getElem?_map, List.getElem?_eq_getElem hml]
   rfl
  unfold kz keepR
  rw [← e, hd]
  rfl
 have h3 : (zs.take (m + 1)).filter kz = zs.take m := by rw [take_z hml, List.filter_append, h1, List.filter_cons_of_neg (by rw [h2]; decide), List.filter_nil, List.append_nil]
 exact ⟨hR, by rw [h3, List.length_take]; omega, by rw [h3, List.map_take], by rw [List.map_drop], by omega, hml, hB, Kept.refl _ _⟩
theorem DInv.fin {L : List S101} {n' : Nat} (h : DInv zs g cap i j rows w0 w1 W) (hj : j = zs.length) (hz : zs.map (·.1) = L) (hO : Ov k101 w1 w0.heap.size (fun k => (True ∧ some k ≠ (Value.slice (some ⟨g, 0, none⟩) n' cap).ownBlock) ∧ w0.heap.size ≤ k ∧ k < w1.heap.size) zs) (cs : List Value) (hl : cs.length = (zs.length - i) * 9) (h1 : ∀ u ∈ cs, u.oneCell' = true) :
 Kd.S k101 101 (W.setCells g (i * 9) cs) w0.heap.size (fun _ => True) (.slice (some ⟨g, 0, none⟩) i cap) (L.filter keepR) ∧ Below w0.heap.size w0 (W.setCells g (i * 9) cs) ∧ Kept w1 (W.setCells g (i * 9) cs) (fun k => k = g) := by
 have hlt := h.lt
 have hle := h.le
 have hg : w0.heap.size ≤ g := Kd.R_base h.R g (by simp [Value.ownBlock])
 have hjz : zs.take j = zs := by rw [hj, List.take_length]
 obtain ⟨rows', h2, h3, h4⟩ := raw_clear (zs.length - i) i rows cs W h.R (by omega) hl h1
 have hk : Kept w1 (W.setCells g (i * 9) cs) (fun k => k = g) := Kept.of_grown h3 h.kept (fun k hk => .inl (by injection hk with hk; exact hk.symm))
 have hlr : rows'.length = zs.length := ((Kd.R_reads' h2).1).symm
 have h5 := Kd.R_take h2 (m := i) (by omega)
 have htk := h.tk
 rw [hjz] at htk
 rw [h4, htk] at h5
 have hOv := (hO.sub (zs' := zs.filter kz) List.filter_sublist).step (w1 := W.setCells g (i * 9) cs) (fun k hk' hl' => hk.2 k hl' (fun e => hk'.1.2 (by rw [e]; simp [Value.ownBlock])))
 have hS := S_close (ok := fun _ => True) hOv h5 (fun k hk' => ⟨trivial, fun e => hk'.1.2 (by rw [e]; simp [Value.ownBlock])⟩) (fun _ _ => trivial)
 have hm : (zs.filter kz).map (·.1) = L.filter keepR := by rw [← hz, List.filter_map]; rfl
 rw [hm] at hS
 exact ⟨hS, h.bel.grown h3 (below_size h.bel) (fun k hk' => by injection hk' with hk'; omega), hk⟩
end
def zRow : Value := .agg #[.int .i64 0, .string ⟨#[]⟩, .int .i64 0, .int .i64 0, .bool false, .string ⟨#[]⟩, .slice none 0 0, .int .i64 0, .int .i64 0]
theorem zRow_run (w : World) : (zeroValue 101).run Tryd.prog w = .ok zRow w := by kernel_rfl
theorem zc_one (n : Nat) : ∀ v ∈ (Builtin.zeroCells zRow.cells n).toList, v.oneCell' = true := by
 intro v hv
 unfold Builtin.zeroCells at hv
 simp only [Array.toList_map, List.mem_map] at hv
 obtain ⟨i, _, rfl⟩ := hv
 have h9 : i % zRow.cells.size < 9 := Nat.mod_lt _ (by decide)
 generalize i % zRow.cells.size = k at h9 ⊢
 match k, h9 with
 | 0, _ => rfl
 | 1, _ => rfl
 | 2, _ => rfl
 | 3, _ => rfl
 | 4, _ => rfl
 | 5, _ => rfl
 | 6, _ => rfl
 | 7, _ => rfl
 | 8, _ => rfl
theorem zc_len (n : Nat) : (Builtin.zeroCells zRow.cells n).toList.length = n * 9 := by
 unfold Builtin.zeroCells
 simp only [Array.length_toList, Array.size_map, Array.size_range]
 rfl
theorem wrapN (i : Nat) (h : i < 9223372036854775807) : wrap64 ((i : Int) + 1) = ((i + 1 : Nat) : Int) := by unfold wrap64; omega
theorem slices_DeleteFunc_impl_row_impl_row_125.sz9 : (Tryd.prog.info? 101).map (·.size) = some 9 := by kernel_rfl
set_option maxHeartbeats 16000000 in
set_option maxRecDepth 100000 in
theorem slices_DeleteFunc_impl_row_impl_row_125.del (A : Option Addr) (c : Nat) (L : List S101) (w0 w : World) (hB : Below w0.heap.size w0 w) (hS : Kd.S k101 101 w w0.heap.size (fun _ => True) (.slice A L.length c) L) :
 Calls Tryd.prog 124 #[.slice A L.length c, .func (.func 125) #[] #[]] w fun e w' => ∃ v : Value, e = .returned v ∧ Kd.S k101 101 w' w0.heap.size (fun _ => True) v (L.filter keepR) ∧ Below w0.heap.size w0 w' ∧ Kept w w' (fun k => some k = (Value.slice A L.length c).ownBlock) := by
 have hu1 := Tryd.underlying101
 have hu2 := Tryd.underlying91
 have hC := (Kd.S_reads' hS).2.2
 have HC := Aside0.mk hC
 have HS := Aside0.mk hS
 have HB := Aside0.mk hB
 rcases idxD_spec L 0 with ⟨hm, hf⟩ | ⟨m, hml, hm, hf, hd⟩
 ·
  have HM := Aside0.mk hm
  have HF := Aside0.mk hf
  clear hm hf hS hB hC
  go_enter Tryd.func124, Tryd.ntmps124
  go_wp2_with (go_at_call 156; refine (slices_IndexFunc_impl_row_impl_row_125.idx A c L _ HC.out).mono ?_; rintro e' w2 ⟨rfl, hb⟩; rw [HM.out])
  go_ret
  exact ⟨_, rfl, by rw [HF.out]; exact Kd.S_below HS.out hb, below_step HB.out hb, Kept.of_below hb _⟩
 have HM := Aside0.mk (show idxD L 0 = (m : Int) by rw [hm]; simp)
 have HML := Aside0.mk hml
 have HF := Aside0.mk hf
 have HD := Aside0.mk hd
 obtain ⟨g, cap, hv, _⟩ := Kd.S_form hS (by omega)
 injection hv with hA hn hc
 subst hA hc
 have hcap := (Kd.S_reads' hS).2.1
 obtain ⟨ad, had⟩ : ∃ ad : Addr, ad = ⟨g, 0, none⟩ := ⟨_, rfl⟩
 rw [← had]
 have HAD := Aside0.mk had
 have HCAP := Aside0.mk hcap
 clear hm hml hf hd hS hB hC hn hcap had
 go_enter Tryd.func124, Tryd.ntmps124
 have m1 : ((m : Int) == -1) = false := beq_eq_false_iff_ne.2 (by omega)
 go_wp2_with (go_at_call 156; refine (slices_IndexFunc_impl_row_impl_row_125.idx (some ad) c L _ (by rw [HAD.out]; exact HC.out)).mono ?_; rintro e' w2 ⟨rfl, hb⟩; rw [HM.out]; have HS2 := Aside0.mk (Kd.S_below HS.out hb); have HB2 := Aside0.mk (below_step HB.out hb); have HK2 := Aside0.mk (Kept.of_below hb (fun k => k = g)); clear hb)
 obtain ⟨zs, hz1, hz2, hz3⟩ := S_open HS2.out
 have hz4 : zs.length = L.length := by rw [← hz1, List.length_map]
 have HLT := Aside0.mk hz4
 rw [← hz4] at hz2
 have HI0 := Aside0.mk (DInv.init hz1 (Kd.R_mono hz2 (fun k hk => by simpa [Value.ownBlock] using hk)) HB2.out HML.out HF.out HD.out)
 have HZ1 := Aside0.mk hz1
 have HZ3 := Aside0.mk hz3
 clear hz1 hz2 hz3 HS HB
 have HN := Aside0.mk (show zs.length ≤ 9223372036854775807 by rw [hz4]; exact HC.out.2.1)
 rw [← hz4]
 clear hz4
 go_loopw [5, 6] (fun vi vj wr => ∃ (i j : Nat) (rows : List (List Value)), vi = .int .i64 i ∧ vj = .int .i64 j ∧ Aside0 (DInv zs g c i j rows w0 w2 wr)) (fun _ vj _ => zs.length - (intOf vj).toNat)
 case atStart => exact ⟨m, m + 1, _, rfl, congrArg (Value.int .i64) (wrapN m (by have h1 := HML.out; have h2 := HC.out.2.1; omega)), HI0⟩
 case round =>
  clear HI0
  obtain ⟨i, j, rows, rfl, rfl, HI⟩ := hrel
  by_cases hlt : j < zs.length
  ·
   have ql : decide (j < zs.length) = true := decide_eq_true hlt
   have p0 : 0 ≤ (j : Int) := by omega
   have q0 : (j : Int) < (zs.length : Int) := by omega
   have hMz := HZ3.out.M _ (List.getElem_mem hlt)
   obtain ⟨v6, hcl, hR6⟩ := k101_openM hMz
   obtain ⟨A6, c6, rfl⟩ := Kd.R_slice hR6
   have hsk := HI.out.skip hlt
   have hmv : kz zs[j] = true → ∀ W W', Below wr.heap.size wr W → (Kd.raw 9).R 101 W' w0.heap.size (fun k => k = g) (.slice (some ⟨g, 0, none⟩) zs.length c) (rows.set i (zs[j]).2.1) → Below w0.heap.size w0 W' → W.grownBy W' (some g) → DInv zs g c (i + 1) (j + 1) (rows.set i (zs[j]).2.1) w0 w2 W' := fun a W W' hb => (HI.out.below hb).move hlt a
   have hce := fun t u hu => HI.out.cell hlt (t := t) (u := u) hu
   obtain ⟨s, hs⟩ : ∃ s, s = (zs[j]).1 := ⟨_, rfl⟩
   have hkz : kz zs[j] = !deadR s := by rw [hs]; rfl
   rw [← hs] at hcl
   rw [hcl] at hce hmv
   rw [hkz] at hsk hmv
   clear hs hMz hR6 hcl hkz
   have hx0 : wr.cell? (ad.add (j * 9)) = some (Value.int .i64 s.f0.f0.f0) := by rw [HAD.out, addr_at]; exact hce 0 _ rfl
   have hx1 : wr.cell? ⟨(ad.add (j * 9)).block, (ad.add (j * 9)).off + 1, none⟩ = some (Value.string s.f0.f0.f1) := by rw [HAD.out, addr_at]; exact hce 1 _ rfl
   have hx2 : wr.cell? ⟨(ad.add (j * 9)).block, (ad.add (j * 9)).off + 2, none⟩ = some (Value.int .i64 s.f0.f1) := by rw [HAD.out, addr_at]; exact hce 2 _ rfl
   have hx3 : wr.cell? ⟨(ad.add (j * 9)).block, (ad.add (j * 9)).off + 3, none⟩ = some (Value.int .i64 s.f1) := by rw [HAD.out, addr_at]; exact hce 3 _ rfl
   have hx4 : wr.cell? ⟨(ad.add (j * 9)).block, (ad.add (j * 9)).off + 4, none⟩ = some (Value.bool s.f2) := by rw [HAD.out, addr_at]; exact hce 4 _ rfl
   have hx5 : wr.cell? ⟨(ad.add (j * 9)).block, (ad.add (j * 9)).off + 5, none⟩ = some (Value.string s.f3) := by rw [HAD.out, addr_at]; exact hce 5 _ rfl
   have hx6 : wr.cell? ⟨(ad.add (j * 9)).block, (ad.add (j * 9)).off + 6, none⟩ = some (Value.slice A6 s.f4.length c6) := by rw [HAD.out, addr_at]; exact hce 6 _ rfl
   have hx7 : wr.cell? ⟨(ad.add (j * 9)).block, (ad.add (j * 9)).off + 7, none⟩ = some (Value.int .i64 s.f5) := by rw [HAD.out, addr_at]; exact hce 7 _ rfl
   have hx8 : wr.cell? ⟨(ad.add (j * 9)).block, (ad.add (j * 9)).off + 8, none⟩ = some (Value.int .i64 s.f6) := by rw [HAD.out, addr_at]; exact hce 8 _ rfl
   have HSK := Aside0.mk hsk
   have HMV := Aside0.mk hmv
   clear hsk hmv hce
   cases hc : deadR s
   case true =>
    have HP := Aside0.mk (show (!s.f2 && (s.f1 == 0)) = true from hc)
    have HQ := Aside0.mk (HSK.out (by rw [hc]; rfl))
    clear hc HSK HMV HI
    go_wp2_with (go_at_call 125; (refine (slices_IndexFunc_impl_row_impl_row_125.pred _ _ _ _ _ _ _ _ _ _ _ _).mono ?_); rintro e' w3 ⟨rfl, hb⟩; rw [HP.out]; have HI3 := Aside0.mk (HQ.out.below (below_step (below_alloc (Below.refl _ _) _) hb)); clear hb hx0 hx1 hx2 hx3 hx4 hx5 hx6 hx7 hx8)
    go_roundw
    case rel => exact ⟨i, j + 1, rows, rfl, congrArg (Value.int .i64) (wrapN j (by have h2 := HN.out; omega)), HI3⟩
    case measure => (rw [wrapN j (by have h2 := HN.out; omega)]; simp only [intOf, Int.toNat_natCast]; omega)
   case false =>
    have HP := Aside0.mk (show (!s.f2 && (s.f1 == 0)) = false from hc)
    have HQ := Aside0.mk (HMV.out (by rw [hc]; rfl))
    have hij := HI.out.lt
    have p1 : 0 ≤ (i : Int) := by omega
    have q1 : (i : Int) < (zs.length : Int) := by omega
    clear hc HSK HMV
    go_wp2_with (first | (go_at_call 125; (refine (slices_IndexFunc_impl_row_impl_row_125.pred _ _ _ _ _ _ _ _ _ _ _ _).mono ?_); rintro e' w3 ⟨rfl, hb⟩; rw [HP.out]; have hbb := below_step (below_alloc (Below.refl _ _) _) hb; have HI3 := Aside0.mk (HI.out.below hbb); have HM3 := Aside0.mk (fun W' => HQ.out _ W' hbb); have hx_ := blk_below (blk_new wr _) hb; obtain ⟨hq0, hq1, hq2, hq3, hq4, hq5, hq6, hq7, hq8, -⟩ := bkA9 hx_; clear hb hbb hx_ HQ hx0 hx1 hx2 hx3 hx4 hx5 hx6 hx7 hx8) | ((with_reducible refine gate_store (t := 101) (p := 33) rfl ?_); obtain ⟨u0, u1, u2, u3, u4, u5, u6, u7, u8, huu⟩ := HI3.out.old; refine Kd.R_store (Kd.raw 9) (w0 := w0) w0.heap.size rfl rfl _ _ _ rfl 101 (i : Int) 0 rows [.int .i64 s.f0.f0.f0, .string s.f0.f0.f1, .int .i64 s.f0.f1, .int .i64 s.f1, .bool s.f2, .string s.f3, .slice A6 s.f4.length c6, .int .i64 s.f5, .int .i64 s.f6] (.agg #[.int .i64 s.f0.f0.f0, .string s.f0.f0.f1, .int .i64 s.f0.f1, .int .i64 s.f1, .bool s.f2, .string s.f3, .slice A6 s.f4.length c6, .int .i64 s.f5, .int .i64 s.f6]) [.int .i64 s.f0.f0.f0, .string s.f0.f0.f1, .int .i64 s.f0.f1, .int .i64 s.f1, .bool s.f2, .string s.f3, .slice A6 s.f4.length c6, .int .i64 s.f5, .int .i64 s.f6] [u0, u1, u2, u3, u4, u5, u6, u7, u8] (fun k => k = g) (fun _ => False) (o' := i * 9) ?ha (by rw [Int.toNat_natCast]; rfl) ?hx rfl slices_DeleteFunc_impl_row_impl_row_125.sz9 ?h1 HI3.out.R p1 q1 rfl (fun t u h => by rw [Int.toNat_natCast]; exact huu t u h) (by exact Nat.le_refl 9) ⟨rfl, rfl, ?h1⟩ (fun _ hk => hk.elim) HI3.out.bel ?_; (case ha => (first | (go_simp; rw [HAD.out, addr_at]; done) | (rw [HAD.out]; go_simp; rfl))); (case hx => first | (go_simp; done) | (go_simp; rfl)); (case h1 => (intro u hu; simp only [List.mem_cons, List.not_mem_nil, or_false] at hu; rcases hu with rfl | rfl | rfl | rfl | rfl | rfl | rfl | rfl | rfl <;> rfl)); intro w4 hR4 hB4 hG4; rw [Int.toNat_natCast] at hR4; have HM4 := Aside0.mk (HM3.out w4 hR4 hB4 hG4); clear hR4 hB4 hG4 huu HM3 HI3))
    go_roundw
    case rel => exact ⟨i + 1, j + 1, _, congrArg (Value.int .i64) (wrapN i (by have h2 := HN.out; omega)), congrArg (Value.int .i64) (wrapN j (by have h2 := HN.out; omega)), HM4⟩
    case measure => (rw [wrapN j (by have h2 := HN.out; omega)]; simp only [intOf, Int.toNat_natCast]; omega)
  have ql : decide (j < zs.length) = false := decide_eq_false hlt
  have hij := HI.out.lt
  have hjl := HI.out.le
  have p1 : 0 ≤ (i : Int) := by omega
  have q1 : (i : Int) ≤ (zs.length : Int) := by omega
  have hcap := HCAP.out
  have hlz := HLT.out
  have hci : ¬ c = i := by omega
  have hic : i ≤ c := by omega
  have hic2 : (i : Int) ≤ (c : Int) := by omega
  have HJ := Aside0.mk (show j = zs.length by omega)
  have hclr : (Builtin.clear_ #[91] 0 #[.slice (some (ad.add (i * 9))) (zs.length - i) (c - i)]).run Tryd.prog wr = .ok (.tuple #[]) (wr.setCells g (i * 9) (Builtin.zeroCells zRow.cells (zs.length - i)).toList) := by
   rw [HAD.out, addr_at]
   refine run_clear_rows wr 91 101 0 zRow hu2 zRow_run (zc_one _) g (i * 9) (c - i) (by omega) (fun q hq => ?_) (fun q hq => ?_)
   · rw [zc_len] at hq
     exact (raw_cell HI.out.R (i * 9 + q) (by omega)).1
   rw [zc_len] at hq
   exact (raw_cell HI.out.R (i * 9 + q) (by omega)).2
  have HFI := Aside0.mk (HI.out.fin HJ.out HZ1.out HZ3.out (Builtin.zeroCells zRow.cells (zs.length - i)).toList (zc_len _) (zc_one _))
  clear hcap hlz hij hjl hlt HI
  obtain ⟨W1, hW1⟩ : ∃ W_ : World, W_ = wr.setCells g (i * 9) (Builtin.zeroCells zRow.cells (zs.length - i)).toList := ⟨_, rfl⟩
  rw [← hW1] at hclr
  have HFJ := Aside0.mk (by have := HFI.out; rw [← hW1] at this; exact this)
  clear HFI hW1
  go_wp2
  go_ret
  refine ⟨_, rfl, by rw [HAD.out]; exact HFJ.out.1, HFJ.out.2.1, ?_⟩
  refine HK2.out.mono (fun k hk => ?_) |>.then_ (HFJ.out.2.2) (fun k hk => .inl ?_)
  · rw [hk, HAD.out]; simp [Value.ownBlock]
  rw [hk, HAD.out]; simp [Value.ownBlock]
end Go.Proofs.YtnbohlcibgfjaaaDoor.Gp
end
section
namespace Go.Proofs.YtnbohlcibgfjaaaDoor.Gp
open Go.RowKit Go.Proofs.YtnbohlcibgfjaaaDoorW.PrintWords Go.Proofs.YtnbohlcibgfjaaaDoorW.PrintLast Go.Proofs.YtnbohlcibgfjaaaDoorW.PrintMore
set_option linter.unusedVariables false
set_option linter.unusedSimpArgs false
set_option maxHeartbeats 4000000 in
set_option maxRecDepth 100000 in
theorem impl_row_free.free (g o : Nat) (sn ow : Int) (w : World) (h2 : w.cell? ⟨g, o + 2, none⟩ = some (.int .i64 sn)) (h3 : w.cell? ⟨g, o + 3, none⟩ = some (.int .i64 ow)) (f2 : w.frozen? ⟨g, o + 2, none⟩ = false) (f3 : w.frozen? ⟨g, o + 3, none⟩ = false) :
 Calls Tryd.prog 123 #[.pointer (some ⟨g, o, none⟩)] w fun e w' => e = .returned (.tuple #[]) ∧ w' = (w.setCell ⟨g, o + 3, none⟩ (.int .i64 0)).setCell ⟨g, o + 2, none⟩ (.int .i64 0) := by
 have hu1 := Tryd.underlying101
 have hu2 := Tryd.underlying29
 have hu3 := Tryd.underlying99
 have hu4 := Tryd.underlying95
 have hu5 := Tryd.underlying97
 go_enter Tryd.func123, Tryd.ntmps123
 go_wp2
 refine bodyPost_end (results_none rfl _ _ _) rfl ?_
 exact ⟨rfl, rfl⟩
end Go.Proofs.YtnbohlcibgfjaaaDoor.Gp
end
section
namespace Go.Proofs.YtnbohlcibgfjaaaDoor.Gp
open Go.RowKit Go.Proofs.YtnbohlcibgfjaaaDoorW.PrintWords Go.Proofs.YtnbohlcibgfjaaaDoorW.PrintLast Go.Proofs.YtnbohlcibgfjaaaDoorW.PrintMore
set_option linter.unusedVariables false
set_option linter.unusedSimpArgs false
def frR (wk : Int) (q : RwT) : RwT := if q.f1 = wrap64 (wk + 1) then ⟨⟨q.f0.f0, 0⟩, 0, q.f2, q.f3, q.f4, q.f5, q.f6⟩ else q
def relL (wk : Int) (L : List RwT) (k : Nat) : List RwT := (L.take k).map (frR wk) ++ L.drop k
theorem relL_len (wk : Int) (L : List RwT) (k : Nat) : (relL wk L k).length = L.length := by unfold relL; rw [List.length_append, List.length_map, List.length_take, List.length_drop]; omega
theorem relL_get (wk : Int) (L : List RwT) (k : Nat) (hk : k < L.length) : (relL wk L k).getD k z101 = L.getD k z101 := by
 unfold relL
 rw [List.getD_eq_getElem?_getD, List.getElem?_append_right (by rw [List.length_map, List.length_take]; omega), List.length_map, List.length_take, Nat.min_eq_left (by omega), Nat.sub_self, List.getElem?_drop, List.getD_eq_getElem?_getD]
 rfl
theorem relL_succ (wk : Int) (L : List RwT) (k : Nat) (hk : k < L.length) : relL wk L (k + 1) = (relL wk L k).set k (frR wk (L.getD k z101)) := by
 unfold relL
 have hl : ((L.take k).map (frR wk)).length = k := by rw [List.length_map, List.length_take]; omega
 rw [List.set_append_right _ _ (by omega), hl, Nat.sub_self, List.drop_eq_getElem_cons hk, List.set_cons_zero, List.take_add_one, List.getElem?_eq_getElem hk, List.getD_eq_getElem?_getD, List.getElem?_eq_getElem hk, List.map_append, List.append_assoc]
 rfl
theorem relL_same (wk : Int) (L : List RwT) (k : Nat) (hk : k < L.length) (h : frR wk (L.getD k z101) = L.getD k z101) : relL wk L (k + 1) = relL wk L k := by
 rw [relL_succ wk L k hk, h, ← relL_get wk L k hk, List.getD_eq_getElem?_getD, List.getElem?_eq_getElem (by rw [relL_len]; exact hk)]
 exact List.set_getElem_self (by rw [relL_len]; exact hk)
structure RInv (w0 W : World) (g : Nat) (A : Option Addr) (cA : Nat) (L : List RwT) (wk : Int) (k : Nat) : Prop where
 hg : W.heap[g]? = some (.cells #[.slice A L.length cA, .func (.func 150) #[] #[], .func (.func 97) #[] #[]] 97 (0, 0))
 S : Kd.S k101 101 W w0.heap.size (fun _ => True) (.slice A L.length cA) (relL wk L k)
 bel : Below w0.heap.size w0 W
theorem del_at (A : Option Addr) (n c : Nat) (L : List RwT) (w0 w : World) (hn : n = L.length) (hB : Below w0.heap.size w0 w) (hS : Kd.S k101 101 w w0.heap.size (fun _ => True) (.slice A n c) L) :
 Calls Tryd.prog 124 #[.slice A n c, .func (.func 125) #[] #[]] w fun e w' => ∃ v : Value, e = .returned v ∧ Kd.S k101 101 w' w0.heap.size (fun _ => True) v (L.filter keepR) ∧ Below w0.heap.size w0 w' ∧ Kept w w' (fun k => some k = (Value.slice A n c).ownBlock) := by
 subst hn
 exact slices_DeleteFunc_impl_row_impl_row_125.del A c L w0 w hB hS
set_option maxHeartbeats 16000000 in
set_option maxRecDepth 100000 in
theorem impl_rows_release.release (g : Nat) (L : List RwT) (wk : Int) (w0 w : World) (hR : RowsAt w0 w g L) :
 Calls Tryd.prog 78 #[.pointer (some ⟨g, 0, none⟩), .int .i64 wk] w fun e w' => e = .returned (.tuple #[]) ∧ RowsAt w0 w' g ((L.map (frR wk)).filter keepR) := by
 have hu1 := Tryd.underlying101
 have hu2 := Tryd.underlying29
 have hu3 := Tryd.underlying99
 have hu4 := Tryd.underlying95
 have hu5 := Tryd.underlying97
 have hu6 := Tryd.underlying91
 have LEg := Aside0.mk hR.le
 obtain ⟨v, hv, hs⟩ := hR.hg
 obtain ⟨A, cA, rfl⟩ := Kd.S_slice hs
 have HN := Aside0.mk (Kd.S_reads' hs).2.2.2.1
 have HI0 := Aside0.mk (show RInv w0 w g A cA L wk 0 from ⟨hv, by unfold relL; exact hs, hR.bel⟩)
 have hz0 : w.cell? ⟨g, 0, none⟩ = some (.slice A L.length cA) := (blk_cell hv 0).trans rfl
 clear hR hv hs
 go_enter Tryd.func78, Tryd.ntmps78
 go_wp2
 go_loopw [11] (fun v11 wr => ∃ k : Nat, k ≤ L.length ∧ v11 = .int .i64 k ∧ Aside0 (RInv w0 wr g A cA L wk k)) (fun v11 _ => L.length - (intOf v11).toNat)
 case atStart => exact ⟨0, Nat.zero_le _, rfl, HI0⟩
 case round =>
  clear HI0 hz0
  obtain ⟨k, hk, rfl, HI⟩ := hrel
  have hz0 : wr.cell? ⟨g, 0, none⟩ = some (.slice A L.length cA) := (blk_cell HI.out.hg 0).trans rfl
  by_cases hlt : k < L.length
  ·
   have ql : decide (k < L.length) = true := decide_eq_true hlt
   have p0 : 0 ≤ (k : Int) := by omega
   have q0 : (k : Int) < (L.length : Int) := by omega
   have hlen := relL_len wk L k
   obtain ⟨gR, capR, hvR, _⟩ := Kd.S_form HI.out.S (by omega)
   rw [hlen] at hvR
   injection hvR with hAR _ hcR
   subst hAR hcR
   obtain ⟨ad, had⟩ : ∃ ad : Addr, ad = ⟨gR, 0, none⟩ := ⟨_, rfl⟩
   rw [← had] at hz0 ⊢
   have HAD := Aside0.mk had
   have hneG : g ≠ gR := fun e => Kd.S_ne HI.out.S HI.out.hg (by decide) (by rw [e]; simp [Value.ownBlock])
   have HNE := Aside0.mk hneG
   clear hneG had
   obtain ⟨oki, cc, hM, hol⟩ := Hol.start (i := (k : Int)) (wi := wr) HI.out.S z101 p0 q0 (Kept.refl _ _) HI.out.bel
   rw [Int.toNat_natCast, relL_get wk L k hlt] at hM
   obtain ⟨q, hq⟩ : ∃ q, q = L.getD k z101 := ⟨_, rfl⟩
   rw [← hq] at hM
   obtain ⟨v6, rfl, hR6⟩ := k101_openM hM
   obtain ⟨A6, c6, rfl⟩ := Kd.R_slice hR6
   clear hM
   have H0 := Aside0.mk (show Hol k101 101 w0 wr wr (fun _ => True) gR L.length cA (relL wk L k) (k : Int) oki [.int .i64 q.f0.f0.f0, .string q.f0.f0.f1, .int .i64 q.f0.f1, .int .i64 q.f1, .bool q.f2, .string q.f3, .slice A6 q.f4.length c6, .int .i64 q.f5, .int .i64 q.f6] from hol)
   have R0 := Aside0.mk hR6
   have hx3 : wr.cell? ⟨(ad.add (k * 9)).block, (ad.add (k * 9)).off + 3, none⟩ = some (.int .i64 q.f1) := by rw [HAD.out, addr_at]; exact H0.out.cell (j := 3) rfl
   clear hol hR6
   by_cases c1 : q.f1 = wrap64 (wk + 1)
   ·
    have c1b : (q.f1 == wrap64 (wk + 1)) = true := beq_iff_eq.2 c1
    have HSU := Aside0.mk (show relL wk L (k + 1) = (relL wk L k).set k ⟨⟨q.f0.f0, 0⟩, 0, q.f2, q.f3, q.f4, q.f5, q.f6⟩ by rw [relL_succ wk L k hlt, ← hq]; unfold frR; rw [if_pos c1])
    clear c1 hq hlen
    go_wp2_with (go_at_call 123; rw [HAD.out, addr_at]; refine (impl_row_free.free gR (k * 9) q.f0.f1 q.f1 _ (H0.out.cell (j := 2) rfl) (H0.out.cell (j := 3) rfl) (H0.out.frozen _) (H0.out.frozen _)).mono ?_; rintro e W10 ⟨rfl, hW10⟩; have HW10 := Aside0.mk hW10; clear hW10 hx3 hz0)
    obtain ⟨WB, hWB⟩ : ∃ W_ : World, W_ = wr.setCell ⟨gR, k * 9 + 3, none⟩ (.int .i64 0) := ⟨_, rfl⟩
    have HBh : Hol k101 101 w0 wr WB (fun _ => True) gR L.length cA (relL wk L k) (k : Int) oki [.int .i64 q.f0.f0.f0, .string q.f0.f0.f1, .int .i64 q.f0.f1, .int .i64 0, .bool q.f2, .string q.f3, .slice A6 q.f4.length c6, .int .i64 q.f5, .int .i64 q.f6] := by rw [hWB]; exact H0.out.put 3 (.int .i64 0) (by decide) rfl rfl
    have RB : Kd.R k29 29 WB w0.heap.size oki (.slice A6 q.f4.length c6) q.f4 := by rw [hWB]; exact H0.out.innerSet R0.out _ _
    have HC : Hol k101 101 w0 wr W10 (fun _ => True) gR L.length cA (relL wk L k) (k : Int) oki [.int .i64 q.f0.f0.f0, .string q.f0.f0.f1, .int .i64 0, .int .i64 0, .bool q.f2, .string q.f3, .slice A6 q.f4.length c6, .int .i64 q.f5, .int .i64 q.f6] := by rw [HW10.out, ← hWB]; exact HBh.put 2 (.int .i64 0) (by decide) rfl rfl
    have RC : Kd.R k29 29 W10 w0.heap.size oki (.slice A6 q.f4.length c6) q.f4 := by rw [HW10.out, ← hWB]; exact HBh.innerSet RB _ _
    have hvC := blk_far (blk_far HI.out.hg (p := ⟨gR, k * 9 + 3, none⟩) HNE.out (.int .i64 0)) (p := ⟨gR, k * 9 + 2, none⟩) HNE.out (.int .i64 0)
    rw [← HW10.out] at hvC
    have hS := HC.back (k101_mkM W10 w0.heap.size oki (⟨⟨q.f0.f0, 0⟩, 0, q.f2, q.f3, q.f4, q.f5, q.f6⟩ : RwT) RC) (fun _ h => h)
    rw [Int.toNat_natCast, ← HSU.out] at hS
    have HRI := Aside0.mk (show RInv w0 W10 g (some ⟨gR, 0, none⟩) cA L wk (k + 1) from ⟨hvC, hS, HC.bel⟩)
    clear hS hvC RC HC RB HBh hWB HW10 H0 R0 HI HSU
    have hd_ := HAD.out
    subst hd_
    go_roundw
    case rel => exact ⟨k + 1, by omega, congrArg (Value.int .i64) (wrapN k (by have h2 := HN.out; omega)), HRI⟩
    case measure => (rw [wrapN k (by have h2 := HN.out; omega)]; simp only [intOf, Int.toNat_natCast]; omega)
   have c1b : (q.f1 == wrap64 (wk + 1)) = false := beq_eq_false_iff_ne.2 c1
   have HSU := Aside0.mk (show relL wk L (k + 1) = relL wk L k from relL_same wk L k hlt (by rw [← hq]; unfold frR; rw [if_neg c1]))
   clear c1 hq hlen
   have HRI := Aside0.mk (show RInv w0 wr g (some ⟨gR, 0, none⟩) cA L wk (k + 1) from ⟨HI.out.hg, by rw [HSU.out]; exact HI.out.S, HI.out.bel⟩)
   clear H0 R0 HI HSU
   go_wp2
   have hd_ := HAD.out
   subst hd_
   go_roundw
   case rel => exact ⟨k + 1, by omega, congrArg (Value.int .i64) (wrapN k (by have h2 := HN.out; omega)), HRI⟩
   case measure => (rw [wrapN k (by have h2 := HN.out; omega)]; simp only [intOf, Int.toNat_natCast]; omega)
  have ql : decide (k < L.length) = false := decide_eq_false hlt
  have HK := Aside0.mk (show k = L.length by omega)
  clear hlt hk
  go_wp2_with (go_at_call 124; refine (del_at A L.length cA (relL wk L k) w0 _ (relL_len wk L k).symm HI.out.bel HI.out.S).mono ?_; rintro e' w2 ⟨v9, rfl, hS, hB, hK⟩; obtain ⟨A9, c9, rfl⟩ := Kd.S_slice hS; have hb_ := blk_kept HI.out.hg hK (fun e_ => Kd.S_ne HI.out.S HI.out.hg (by decide) e_); have hz9 : w2.cell? ⟨g, 0, none⟩ = some (.slice A L.length cA) := (blk_cell hb_ 0).trans rfl; have hf9 := blk_frozen hb_ 0; have HS9 := Aside0.mk hS; have HB9 := Aside0.mk hB; have HX9 := Aside0.mk hb_; clear hS hB hK hb_ hz0)
  refine bodyPost_end (results_none rfl _ _ _) rfl ?_
  have he : relL wk L k = L.map (frR wk) := by rw [HK.out]; unfold relL; rw [List.take_length, List.drop_length, List.append_nil]
  have hS9 := HS9.out
  rw [he] at hS9
  rw [he]
  exact ⟨rfl, ⟨⟨_, blk_put HX9.out 0 _ rfl, Kd.S_set hS9 HX9.out (by decide) 0 _⟩, LEg.out, below_set HB9.out LEg.out⟩⟩
def impl_row_slot.f (a0_0 : Int) (a0_1 : ByteArray) (a0_2 : Int) (a0_3 : Int) (a0_4 : Bool) (a0_5 : ByteArray) (l0_6 : List (S29)) (a0_7 : Int) (a0_8 : Int) : Option (Int × ByteArray × Bool × ByteArray × (List (S29)) × Int × Int × Int × Int) := (slices_Clone_impl_Key_impl_Key.f l0_6).bind fun t233 => (some (a0_0, a0_1, a0_4, a0_5, t233, a0_7, a0_8, a0_3, a0_2))
def impl_row_slot.T1 : Bool × List (List Nat × List Nat) := (true, [([], []), ([0], [0]), ([1], [1]), ([], []), ([3], [3]), ([], []), ([5], [5]), ([], []), ([7], [7]), ([8], [8]), ([], []), ([10], [10]), ([], []), ([12], [12]), ([], []), ([14], [14]), ([], []), ([16], [16]), ([17], [17]), ([2, 4, 6, 9, 11, 13, 15, 18], [2, 4, 6, 9, 11, 13, 15, 18]), ([19, 9, 0, 1, 2, 3, 4, 5, 6, 7, 8, 9, 10, 11, 12, 13, 14, 15, 16, 17, 18, 19], [19])])
def impl_row_slot.B1 : List Nat := [0, 1, 3, 0, 8, 0, 32, 0, 128, 384, 0, 1024, 0, 4096, 0, 16384, 0, 65536, 196608, 524287, 1048575]
theorem impl_row_slot.tab1 : rtab .any (opsOf Tryd.f60 1) = impl_row_slot.T1 := by kernel_rfl
theorem impl_row_slot.bits1 : waitsOk impl_row_slot.T1.2 impl_row_slot.B1 = true := by kernel_rfl
set_option maxHeartbeats 8000000 in
set_option maxRecDepth 100000 in
theorem impl_row_slot.calls (a0_0 : Int) (a0_1 : ByteArray) (a0_2 : Int) (a0_3 : Int) (a0_4 : Bool) (a0_5 : ByteArray) (A0_6 : Option Addr) (c0_6 : Nat) (l0_6 : List (S29)) (a0_7 : Int) (a0_8 : Int) (r1 : Int) (r2 : ByteArray) (r3 : Bool) (r4 : ByteArray) (r5 : List (S29)) (r6 : Int) (r7 : Int) (r8 : Int) (r9 : Int) (w : World) (hr0_6 : Kd.C k29 w A0_6 l0_6.length l0_6) (hc0_6 : l0_6.length ≤ c0_6) (h : impl_row_slot.f a0_0 a0_1 a0_2 a0_3 a0_4 a0_5 l0_6 a0_7 a0_8 = some (r1, r2, r3, r4, r5, r6, r7, r8, r9)) :
 Calls Tryd.prog 60 #[.agg #[.int .i64 a0_0, .string a0_1, .int .i64 a0_2, .int .i64 a0_3, .bool a0_4, .string a0_5, .slice A0_6 l0_6.length c0_6, .int .i64 a0_7, .int .i64 a0_8]] w fun e w' => ∃ v4_ : Value, e = .returned (.agg #[.int .i64 r1, .string r2, .bool r3, .string r4, v4_, .int .i64 r6, .int .i64 r7, .int .i64 r8, .int .i64 r9]) ∧ Kd.R k29 29 w' w.heap.size (fun _ => True) v4_ r5 ∧ Below w.heap.size w w' := by
 have hu101 := Tryd.underlying101
 have hu32 := Tryd.underlying32
 have hu29 := Tryd.underlying29
 have HR0_6 := Aside0.mk hr0_6
 have HC0_6 := Aside0.mk hc0_6
 clear hr0_6 hc0_6
 have HB := Aside0.mk (Below.refl w.heap.size w)
 have H : ((slices_Clone_impl_Key_impl_Key.f l0_6).bind fun t233 => (some (a0_0, a0_1, a0_4, a0_5, t233, a0_7, a0_8, a0_3, a0_2))) = some (r1, r2, r3, r4, r5, r6, r7, r8, r9) := h
 clear h
 replace H := Option.bind_eq_some_iff.mp H
 obtain ⟨t233, A20, H⟩ := H
 replace H : (some (a0_0, a0_1, a0_4, a0_5, t233, a0_7, a0_8, a0_3, a0_2)) = some (r1, r2, r3, r4, r5, r6, r7, r8, r9) := H
 have A2 := Aside0.mk A20
 clear A20
 simp only [Option.some.injEq, Prod.mk.injEq] at H
 obtain ⟨rfl, rfl, rfl, rfl, rfl, rfl, rfl, rfl, rfl⟩ := H
 go_enter Tryd.func60, Tryd.ntmps60
 try go_wp2_with (first | ((with_reducible refine gate_dst (N := 1) rfl ?_); refine box_event ?hg (N := 1) ?hd (cs := #[.int .i64 a0_0, .string a0_1, .int .i64 a0_2, .int .i64 a0_3, .bool a0_4, .string a0_5, .slice A0_6 l0_6.length c0_6, .int .i64 a0_7, .int .i64 a0_8]) (t := 101) ?hr ?_; (case hd => rfl); (case hg => rfl); (case hr => first | (go_simp; done) | (go_simp; rfl)); intro gb231 hg w3 hbox hb; have hb1_ := fromQ HB.out hb; have hb0_ := below_step hb1_ hb; have hW_ := below_step HB.out hb1_; have n1_ := Aside0.mk (hbox); have n2_ := szle hg hW_; have n3_ := szle hg hW_; replace HB := kH HB hb0_; have BK231 := n1_; have GW231 := n2_; have GE231 := n3_; clear hb1_ hb0_ hW_ n1_ n2_ n3_; clear hb hbox hg) | ((with_reducible refine gate_dst (N := 2) rfl ?_); refine box_event ?hg (N := 2) ?hd (cs := #[.int .i64 0, .string (⟨#[]⟩ : ByteArray), .bool false, .string (⟨#[]⟩ : ByteArray), .slice none 0 0, .int .i64 0, .int .i64 0, .int .i64 0, .int .i64 0]) (t := 32) ?hr ?_; (case hd => rfl); (case hg => rfl); (case hr => first | (go_simp; done) | (go_simp; rfl)); intro gb232 hg w4 hbox hb; have hb1_ := fromQ HB.out hb; have hb0_ := below_step hb1_ hb; have hW_ := below_step HB.out hb1_; have n2_ := Aside0.mk (hbox); have n3_ := szle hg hW_; have n4_ := szle hg hW_; have n5_ := nelt hg BK231 hb1_; have n6_ := negt hg BK231 hb1_; replace BK231 := kB BK231 hb0_; replace HB := kH HB hb0_; have BK232 := n2_; have GW232 := n3_; have GE232 := n4_; have NB231_232 := n5_; have NB232_231 := n6_; clear hb1_ hb0_ hW_ n2_ n3_ n4_ n5_ n6_; clear hb hbox hg))
 have n0_ := Aside0.mk (blk_drew BK231.out)
 have n1_ := Aside0.mk (blk_drew BK232.out)
 have n2_ := Aside0.mk (below_drew1 HB.out)
 clear BK231
 clear BK232
 clear HB
 have BK231 := n0_
 have BK232 := n1_
 have HB := n2_
 clear n0_ n1_ n2_
 refine start_ (n := 21) (S := fun w' => w'.cell? ⟨gb231, 0, none⟩ = some (.int .i64 a0_0) ∧ w'.cell? ⟨gb231, 1, none⟩ = some (.string a0_1) ∧ w'.cell? ⟨gb231, 2, none⟩ = some (.int .i64 a0_2) ∧ w'.cell? ⟨gb231, 3, none⟩ = some (.int .i64 a0_3) ∧ w'.cell? ⟨gb231, 4, none⟩ = some (.bool a0_4) ∧ w'.cell? ⟨gb231, 5, none⟩ = some (.string a0_5) ∧ w'.cell? ⟨gb231, 6, none⟩ = some (.slice A0_6 l0_6.length c0_6) ∧ w'.cell? ⟨gb231, 7, none⟩ = some (.int .i64 a0_7) ∧ w'.cell? ⟨gb231, 8, none⟩ = some (.int .i64 a0_8)) (ds := []) #[false, false, false, false, false, false, false, false, false, false, false, false, false, false, false, false, false, false, false, false, false] (by kernel_rfl) rfl rfl ⟨(blk_cell BK231.out 0).trans rfl, (blk_cell BK231.out 1).trans rfl, (blk_cell BK231.out 2).trans rfl, (blk_cell BK231.out 3).trans rfl, (blk_cell BK231.out 4).trans rfl, (blk_cell BK231.out 5).trans rfl, (blk_cell BK231.out 6).trans rfl, (blk_cell BK231.out 7).trans rfl, (blk_cell BK231.out 8).trans rfl⟩ (fun hHeld => ?_); refine with_tabW impl_row_slot.tab1 impl_row_slot.bits1 (fun HT_ HW_ => ?_)
 generalize w4.drew = w5 at BK231 BK232 HB hHeld ⊢
 refine pureY (i := 0) (N := some 3) (v := ?_) (a' := ?_) #[true, false, false, false, false, false, false, false, false, false, false, false, false, false, false, false, false, false, false, false, false] rfl rfl (any_of HT_.out (by kernel_rfl)) ⟨by rfl, ?_⟩ ?_ ?_
 rotate_left
 · intro w'
   go_simp
   with_reducible rfl
 rotate_left
 · simp only [Act.put, sA_, i64_w, i32_w]
   rfl
 refine pureY (i := 1) (N := some 4) (v := ?_) (a' := ?_) #[true, true, false, false, false, false, false, false, false, false, false, false, false, false, false, false, false, false, false, false, false] rfl rfl (any_of HT_.out (by kernel_rfl)) ⟨by rfl, ?_⟩ ?_ ?_
 rotate_left
 · intro w'
   go_simp
   with_reducible rfl
 rotate_left
 · simp only [Act.put, sA_, i64_w, i32_w]
   rfl
 refine pureY (i := 3) (N := some 6) (v := ?_) (a' := ?_) #[true, true, false, true, false, false, false, false, false, false, false, false, false, false, false, false, false, false, false, false, false] rfl rfl (any_of HT_.out (by kernel_rfl)) ⟨by rfl, ?_⟩ ?_ ?_
 rotate_left
 · intro w'
   go_simp
   with_reducible rfl
 rotate_left
 · simp only [Act.put, sA_, i64_w, i32_w]
   rfl
 refine pureY (i := 5) (N := some 8) (v := ?_) (a' := ?_) #[true, true, false, true, false, true, false, false, false, false, false, false, false, false, false, false, false, false, false, false, false] rfl rfl (any_of HT_.out (by kernel_rfl)) ⟨by rfl, ?_⟩ ?_ ?_
 rotate_left
 · intro w'
   go_simp
   with_reducible rfl
 rotate_left
 · simp only [Act.put, sA_, i64_w, i32_w]
   rfl
 refine pureY (i := 7) (N := some 10) (v := ?_) (a' := ?_) #[true, true, false, true, false, true, false, true, false, false, false, false, false, false, false, false, false, false, false, false, false] rfl rfl (any_of HT_.out (by kernel_rfl)) ⟨by rfl, ?_⟩ ?_ ?_
 rotate_left
 · intro w'
   go_simp
   with_reducible rfl
 rotate_left
 · simp only [Act.put, sA_, i64_w, i32_w]
   rfl
 refine pureY (i := 10) (N := some 13) (v := ?_) (a' := ?_) #[true, true, false, true, false, true, false, true, false, false, true, false, false, false, false, false, false, false, false, false, false] rfl rfl (any_of HT_.out (by kernel_rfl)) ⟨by rfl, ?_⟩ ?_ ?_
 rotate_left
 · intro w'
   go_simp
   with_reducible rfl
 rotate_left
 · simp only [Act.put, sA_, i64_w, i32_w]
   rfl
 refine pureY (i := 12) (N := some 15) (v := ?_) (a' := ?_) #[true, true, false, true, false, true, false, true, false, false, true, false, true, false, false, false, false, false, false, false, false] rfl rfl (any_of HT_.out (by kernel_rfl)) ⟨by rfl, ?_⟩ ?_ ?_
 rotate_left
 · intro w'
   go_simp
   with_reducible rfl
 rotate_left
 · simp only [Act.put, sA_, i64_w, i32_w]
   rfl
 refine pureY (i := 14) (N := some 17) (v := ?_) (a' := ?_) #[true, true, false, true, false, true, false, true, false, false, true, false, true, false, true, false, false, false, false, false, false] rfl rfl (any_of HT_.out (by kernel_rfl)) ⟨by rfl, ?_⟩ ?_ ?_
 rotate_left
 · intro w'
   go_simp
   with_reducible rfl
 rotate_left
 · simp only [Act.put, sA_, i64_w, i32_w]
   rfl
 refine pureY (i := 16) (N := some 19) (v := ?_) (a' := ?_) #[true, true, false, true, false, true, false, true, false, false, true, false, true, false, true, false, true, false, false, false, false] rfl rfl (any_of HT_.out (by kernel_rfl)) ⟨by rfl, ?_⟩ ?_ ?_
 rotate_left
 · intro w'
   go_simp
   with_reducible rfl
 rotate_left
 · simp only [Act.put, sA_, i64_w, i32_w]
   rfl
 refine pureY (i := 17) (N := some 20) (v := ?_) (a' := ?_) #[true, true, false, true, false, true, false, true, false, false, true, false, true, false, true, false, true, true, false, false, false] rfl rfl (any_of HT_.out (by kernel_rfl)) ⟨by rfl, ?_⟩ ?_ ?_
 rotate_left
 · intro w'
   go_simp
   with_reducible rfl
 rotate_left
 · simp only [Act.put, sA_, i64_w, i32_w]
   rfl
 refine takeY (i := 2) (N := some 5) (v := ?_) (a' := ?_) #[true, true, true, true, false, true, false, true, false, false, true, false, true, false, true, false, true, true, false, false, false] rfl rfl (take_ofW HT_.out HW_.out (by kernel_rfl)) ⟨by rfl, ?_⟩ hHeld ?_ ?_
 rotate_left
 · rintro w' ⟨s0, s1, s2, s3, s4, s5, s6, s7, s8⟩
   go_simp
   with_reducible rfl
 rotate_left
 · simp only [Act.put, sA_, i64_w, i32_w]
   rfl
 refine takeY (i := 4) (N := some 7) (v := ?_) (a' := ?_) #[true, true, true, true, true, true, false, true, false, false, true, false, true, false, true, false, true, true, false, false, false] rfl rfl (take_ofW HT_.out HW_.out (by kernel_rfl)) ⟨by rfl, ?_⟩ hHeld ?_ ?_
 rotate_left
 · rintro w' ⟨s0, s1, s2, s3, s4, s5, s6, s7, s8⟩
   go_simp
   with_reducible rfl
 rotate_left
 · simp only [Act.put, sA_, i64_w, i32_w]
   rfl
 refine takeY (i := 6) (N := some 9) (v := ?_) (a' := ?_) #[true, true, true, true, true, true, true, true, false, false, true, false, true, false, true, false, true, true, false, false, false] rfl rfl (take_ofW HT_.out HW_.out (by kernel_rfl)) ⟨by rfl, ?_⟩ hHeld ?_ ?_
 rotate_left
 · rintro w' ⟨s0, s1, s2, s3, s4, s5, s6, s7, s8⟩
   go_simp
   with_reducible rfl
 rotate_left
 · simp only [Act.put, sA_, i64_w, i32_w]
   rfl
 refine takeY (i := 8) (N := some 11) (v := ?_) (a' := ?_) #[true, true, true, true, true, true, true, true, true, false, true, false, true, false, true, false, true, true, false, false, false] rfl rfl (take_ofW HT_.out HW_.out (by kernel_rfl)) ⟨by rfl, ?_⟩ hHeld ?_ ?_
 rotate_left
 · rintro w' ⟨s0, s1, s2, s3, s4, s5, s6, s7, s8⟩
   go_simp
   with_reducible rfl
 rotate_left
 · simp only [Act.put, sA_, i64_w, i32_w]
   rfl
 refine takeY (i := 11) (N := some 14) (v := ?_) (a' := ?_) #[true, true, true, true, true, true, true, true, true, false, true, true, true, false, true, false, true, true, false, false, false] rfl rfl (take_ofW HT_.out HW_.out (by kernel_rfl)) ⟨by rfl, ?_⟩ hHeld ?_ ?_
 rotate_left
 · rintro w' ⟨s0, s1, s2, s3, s4, s5, s6, s7, s8⟩
   go_simp
   with_reducible rfl
 rotate_left
 · simp only [Act.put, sA_, i64_w, i32_w]
   rfl
 refine takeY (i := 13) (N := some 16) (v := ?_) (a' := ?_) #[true, true, true, true, true, true, true, true, true, false, true, true, true, true, true, false, true, true, false, false, false] rfl rfl (take_ofW HT_.out HW_.out (by kernel_rfl)) ⟨by rfl, ?_⟩ hHeld ?_ ?_
 rotate_left
 · rintro w' ⟨s0, s1, s2, s3, s4, s5, s6, s7, s8⟩
   go_simp
   with_reducible rfl
 rotate_left
 · simp only [Act.put, sA_, i64_w, i32_w]
   rfl
 refine takeY (i := 15) (N := some 18) (v := ?_) (a' := ?_) #[true, true, true, true, true, true, true, true, true, false, true, true, true, true, true, true, true, true, false, false, false] rfl rfl (take_ofW HT_.out HW_.out (by kernel_rfl)) ⟨by rfl, ?_⟩ hHeld ?_ ?_
 rotate_left
 · rintro w' ⟨s0, s1, s2, s3, s4, s5, s6, s7, s8⟩
   go_simp
   with_reducible rfl
 rotate_left
 · simp only [Act.put, sA_, i64_w, i32_w]
   rfl
 refine takeY (i := 18) (N := some 21) (v := ?_) (a' := ?_) #[true, true, true, true, true, true, true, true, true, false, true, true, true, true, true, true, true, true, true, false, false] rfl rfl (take_ofW HT_.out HW_.out (by kernel_rfl)) ⟨by rfl, ?_⟩ hHeld ?_ ?_
 rotate_left
 · rintro w' ⟨s0, s1, s2, s3, s4, s5, s6, s7, s8⟩
   go_simp
   with_reducible rfl
 rotate_left
 · simp only [Act.put, sA_, i64_w, i32_w]
   rfl
 refine one_ (i := 9) (N := some 12) #[true, true, true, true, true, true, true, true, true, true, true, true, true, true, true, true, true, true, true, false, false] rfl rfl (one_of HT_.out (by kernel_rfl)) (by decide) (fun K hK => ?_)
 refine goes_ Tryd.func118 (by kernel_rfl) rfl #[.slice A0_6 l0_6.length c0_6] (by rfl) rfl rfl (by (try simp only [List.map_toArray, List.map_cons, List.map_nil]); first | done | rfl | (simp only [List.length_drop, List.length_take]; rfl)) ?_
 with_reducible refine (slices_Clone_impl_Key_impl_Key.calls _ _ l0_6 t233 _ ?side1 ?side2 A2.out).mono ?_
 (case side1 => repeat (first | exact (Kd.C_below HR0_6.out HB.out) | (with_reducible refine Kd.C_alloc ?_ _) | (with_reducible refine Kd.C_drewN ?_ _) | (with_reducible refine Kd.C_drew ?_)))
 (case side2 => exact HC0_6.out)
 rintro e w6 ⟨v234, rfl, ho0, hb⟩
 refine ⟨_, rfl, ?_⟩
 have hb1_ := fromQ HB.out hb
 have hb0_ := below_step hb1_ hb
 have hW_ := below_step HB.out hb1_
 have n0_ := Aside0.mk (Kd.R_lower ho0 (below_size hW_))
 replace BK231 := kB BK231 hb0_
 replace BK232 := kB BK232 hb0_
 replace HB := kH HB hb0_
 have HO235 := n0_
 clear hb1_ hb0_ hW_ n0_
 (try clear hb)
 (try clear hb2)
 (try clear hk)
 (try clear hi)
 (try clear ho0)
 obtain ⟨Ao7, co7, eo7⟩ := Kd.R_slice HO235.out
 (first | subst eo7 | (injection eo7 with f1_ f2_ f3_; have f4_ := f1_.symm; have f5_ := f3_.symm; clear f1_ f2_ f3_; subst f4_; subst f5_))
 refine hK.out _ _ ⟨(blk_cell BK231.out 0).trans rfl, (blk_cell BK231.out 1).trans rfl, (blk_cell BK231.out 2).trans rfl, (blk_cell BK231.out 3).trans rfl, (blk_cell BK231.out 4).trans rfl, (blk_cell BK231.out 5).trans rfl, (blk_cell BK231.out 6).trans rfl, (blk_cell BK231.out 7).trans rfl, (blk_cell BK231.out 8).trans rfl⟩ (fun hHeld => ?_)
 clear hK K
 refine norm_ (a' := ?_) ?_ ?_
 rotate_left
 · show Act.put _ (some 12) _ = _
   simp only [Act.put, sA_, i64_w, i32_w]
   rfl
 refine pureY (i := 19) (N := some 22) (v := ?_) (a' := ?_) #[true, true, true, true, true, true, true, true, true, true, true, true, true, true, true, true, true, true, true, true, false] rfl rfl (any_of HT_.out (by kernel_rfl)) ⟨by rfl, ?_⟩ ?_ ?_
 rotate_left
 · intro w'
   go_simp
   with_reducible rfl
 rotate_left
 · simp only [Act.put, sA_, i64_w, i32_w]
   rfl
 refine one_ (i := 20) (N := none) #[true, true, true, true, true, true, true, true, true, true, true, true, true, true, true, true, true, true, true, true, true] rfl rfl (one_of HT_.out (by kernel_rfl)) (by decide) (fun K hK => ?_)
 have hs8 : w6.cell? ⟨gb232, 0, none⟩ = some (.int .i64 0) := (blk_cell BK232.out 0).trans rfl
 have hfs8 := blk_frozen BK232.out 0
 have hns8_0 := NB231_232.out
 have hms8_0 := NB232_231.out
 have hs9 : w6.cell? ⟨gb232, 1, none⟩ = some (.string (⟨#[]⟩ : ByteArray)) := (blk_cell BK232.out 1).trans rfl
 have hfs9 := blk_frozen BK232.out 1
 have hs10 : w6.cell? ⟨gb232, 2, none⟩ = some (.bool false) := (blk_cell BK232.out 2).trans rfl
 have hfs10 := blk_frozen BK232.out 2
 have hs11 : w6.cell? ⟨gb232, 3, none⟩ = some (.string (⟨#[]⟩ : ByteArray)) := (blk_cell BK232.out 3).trans rfl
 have hfs11 := blk_frozen BK232.out 3
 have hs12 : w6.cell? ⟨gb232, 4, none⟩ = some (.slice none 0 0) := (blk_cell BK232.out 4).trans rfl
 have hfs12 := blk_frozen BK232.out 4
 have hs13 : w6.cell? ⟨gb232, 5, none⟩ = some (.int .i64 0) := (blk_cell BK232.out 5).trans rfl
 have hfs13 := blk_frozen BK232.out 5
 have hs14 : w6.cell? ⟨gb232, 6, none⟩ = some (.int .i64 0) := (blk_cell BK232.out 6).trans rfl
 have hfs14 := blk_frozen BK232.out 6
 have hs15 : w6.cell? ⟨gb232, 7, none⟩ = some (.int .i64 0) := (blk_cell BK232.out 7).trans rfl
 have hfs15 := blk_frozen BK232.out 7
 have hs16 : w6.cell? ⟨gb232, 8, none⟩ = some (.int .i64 0) := (blk_cell BK232.out 8).trans rfl
 have hfs16 := blk_frozen BK232.out 8
 refine skip_ (w1 := ?_) (by rfl) rfl ?_ ?_
 rotate_left
 · go_simp
   rfl
 refine hK.out _ _ ⟨(cell_far9 NB231_232.out).trans hHeld.1, (cell_far9 NB231_232.out).trans hHeld.2.1, (cell_far9 NB231_232.out).trans hHeld.2.2.1, (cell_far9 NB231_232.out).trans hHeld.2.2.2.1, (cell_far9 NB231_232.out).trans hHeld.2.2.2.2.1, (cell_far9 NB231_232.out).trans hHeld.2.2.2.2.2.1, (cell_far9 NB231_232.out).trans hHeld.2.2.2.2.2.2.1, (cell_far9 NB231_232.out).trans hHeld.2.2.2.2.2.2.2.1, (cell_far9 NB231_232.out).trans hHeld.2.2.2.2.2.2.2.2⟩ (fun hHeld => ?_)
 clear hK K
 refine done_ (done_of HT_.out (by kernel_rfl)) ?_
 try go_wp2
 refine bodyPost_ret (results_cell_row rfl _ _ gb232 32 #[.int .i64 a0_0, .string a0_1, .bool a0_4, .string a0_5, .slice Ao7 t233.length co7, .int .i64 a0_7, .int .i64 a0_8, .int .i64 a0_3, .int .i64 a0_2] (0, 0) _ rfl (by (with_reducible repeat (first | refine blk_drewN ?_ _ | refine blk_drew ?_ | refine blk_alloc ?_ _)); apply blk_stores9; (with_reducible repeat (first | refine blk_drewN ?_ _ | refine blk_drew ?_ | refine blk_alloc ?_ _)); exact BK232.out) Tryd.underlying32 rfl (by kernel_rfl)) rfl ?_
 exact ⟨_, by first | rfl | (simp [errW_none, errW_some] <;> rfl) | (simp [*, errW_none, errW_some] <;> rfl), by (with_reducible repeat (first | apply Kd.R_alloc | apply Kd.R_drewN | apply Kd.R_drew)); exact Kd.R_mono (R_far9 (g := gb232) (Kd.R_types HO235.out BK232.out (by decide)) (fun _ hk => hk.2)) (fun _ hk => trivial), by repeat (first | (with_reducible first | exact HB.out | apply below_alloc | apply pw_below_drewN | apply below_drew1 | refine below_set ?_ GE231.out | refine below_set ?_ GE232.out) | exact HB.out)⟩
def rowT (q : RwT) : S32 := ⟨⟨q.f0.f0.f0, q.f0.f0.f1⟩, q.f2, q.f3, q.f4, q.f5, q.f6, q.f1, q.f0.f1⟩
theorem rd_mem_rw (l : List RwT) {k : Nat} (h : k < l.length) : rd_T101 l k ∈ l := by
 unfold rd_T101
 rw [Int.toNat_natCast, List.getD_eq_getElem?_getD, List.getElem?_eq_getElem h]
 exact List.getElem_mem h
theorem take_rw (l : List RwT) (k : Nat) (h : k < l.length) : (l.take (k + 1)).map rowT = (l.take k).map rowT ++ [rowT (rd_T101 l k)] := by
 rw [List.take_succ_eq_append_getElem h, List.map_append]
 unfold rd_T101
 rw [Int.toNat_natCast, List.getD_eq_getElem?_getD, List.getElem?_eq_getElem h]
 rfl
theorem infoSlot : (Tryd.prog.info? 32).map (fun i => (i.zero, i.size, i.bytes)) = some (some (.agg #[(.int .i64 0), (.string ⟨#[]⟩), (.bool false), (.string ⟨#[]⟩), (.slice none 0 0), (.int .i64 0), (.int .i64 0), (.int .i64 0), (.int .i64 0)]), 9, 104) := by kernel_rfl
structure TbAt (w0 W : World) (l : List S32) : Prop where
 h2 : W.heap[w0.heap.size]? = some (.cells #[.slice none 0 0] 36 (0, 0))
 hg : ∃ v, W.heap[w0.heap.size + 1]? = some (.cells #[v] 36 (0, 0)) ∧ Kd.S k32 32 W w0.heap.size (fun _ => True) v l
 bel : Below w0.heap.size w0 W
theorem TbAt.keep {w0 W W1 : World} {l : List S32} (h : TbAt w0 W l) (b : Below W.heap.size W W1) : TbAt w0 W1 l := by
 obtain ⟨v, hv, hs⟩ := h.hg
 exact ⟨blk_below h.h2 b, ⟨v, blk_below hv b, Kd.S_below hs b⟩, below_step h.bel b⟩
theorem TbAt.init (w : World) : TbAt w ((w.alloc (.cells #[.slice none 0 0] 36)).alloc (.cells #[.slice none 0 0] 36)) [] :=
 ⟨blk_alloc (blk_new w _) _, ⟨_, blk_new_at (by simp), ⟨fun _ => 0, Kd.R_nil _ _ _ _ _⟩⟩, by repeat (first | exact Below.refl _ _ | apply below_alloc)⟩
def impl_rows_table.f (l : List RwT) : Option (List S32) := if l.length ≤ 4097 ∧ ∀ s ∈ l, s.f4.length < 4398046511104 then some (l.map rowT) else none
set_option maxHeartbeats 16000000 in
set_option maxRecDepth 100000 in
theorem impl_rows_table.table (g : Nat) (A : Option Addr) (c : Nat) (l : List RwT) (r : List S32) (w : World) (hO : OrdAt w g A c l) (h : impl_rows_table.f l = some r) :
 Calls Tryd.prog 122 #[.pointer (some ⟨g, 0, none⟩)] w fun e w' => ∃ v : Value, e = .returned (.agg #[v]) ∧ Kd.S k32 32 w' w.heap.size (fun _ => True) v r ∧ Below w.heap.size w w' := by
 have hu1 := Tryd.underlying101
 have hu2 := Tryd.underlying32
 have hu3 := Tryd.underlying36
 have hu4 := Tryd.underlying95
 have hu5 := Tryd.underlying97
 have hu6 := Tryd.underlying99
 unfold impl_rows_table.f at h
 by_cases gd : l.length ≤ 4097 ∧ ∀ s ∈ l, s.f4.length < 4398046511104
 case neg => rw [if_neg gd] at h; cases h
 rw [if_pos gd] at h
 obtain rfl := Option.some.inj h
 have G := Aside0.mk gd
 have HO := Aside0.mk hO
 have T0 := Aside0.mk (TbAt.init w)
 have ht0 : ((w.alloc (.cells #[.slice none 0 0] 36)).alloc (.cells #[.slice none 0 0] 36)).cell? ⟨g, 0, none⟩ = some (.slice A l.length c) := pw_cell_below T0.out.bel hO.h0
 clear gd h hO
 go_enter Tryd.func122, Tryd.ntmps122
 go_wp2
 go_loopw [12] (fun i wr => ∃ k : Nat, k ≤ l.length ∧ i = .int .i64 k ∧ Aside0 (TbAt w wr ((l.take k).map rowT))) (fun i _ => l.length - (intOf i).toNat)
 case atStart => exact ⟨0, Nat.zero_le _, rfl, T0⟩
 case round =>
  clear T0 ht0
  obtain ⟨k, hk, rfl, HA⟩ := hrel
  by_cases hlt : k < l.length
  ·
   have p0 : 0 ≤ (k : Int) := by omega
   have q0 : (k : Int) < (l.length : Int) := by omega
   have ql : decide (k < l.length) = true := decide_eq_true hlt
   obtain ⟨ad, A6, c6, eA, hx0, hx1, hx2, hx3, hx4, hx5, hx6, hx7, hx8, hc6, hC6⟩ := at_T101 HO.out.hr k p0 q0
   cases eA
   rw [Int.toNat_natCast] at hx0 hx1 hx2 hx3 hx4 hx5 hx6 hx7 hx8
   replace hx0 := (HA.out.bel.cell (World.block_lt_of_cell? w _ hx0)).trans hx0
   replace hx1 := (HA.out.bel.cell (World.block_lt_of_cell? w _ hx1)).trans hx1
   replace hx2 := (HA.out.bel.cell (World.block_lt_of_cell? w _ hx2)).trans hx2
   replace hx3 := (HA.out.bel.cell (World.block_lt_of_cell? w _ hx3)).trans hx3
   replace hx4 := (HA.out.bel.cell (World.block_lt_of_cell? w _ hx4)).trans hx4
   replace hx5 := (HA.out.bel.cell (World.block_lt_of_cell? w _ hx5)).trans hx5
   replace hx6 := (HA.out.bel.cell (World.block_lt_of_cell? w _ hx6)).trans hx6
   replace hx7 := (HA.out.bel.cell (World.block_lt_of_cell? w _ hx7)).trans hx7
   replace hx8 := (HA.out.bel.cell (World.block_lt_of_cell? w _ hx8)).trans hx8
   have hg6 : (rd_T101 l (k : Int)).f4.length < 4398046511104 := G.out.2 _ (rd_mem_rw l hlt)
   have HD := Aside0.mk (take_rw l k hlt)
   have HLen := Aside0.mk (show ((l.take k).map rowT).length ≤ 4097 by rw [List.length_map, List.length_take]; have := G.out.1; omega)
   obtain ⟨L, hL⟩ : ∃ L, L = (l.take k).map rowT := ⟨_, rfl⟩
   rw [← hL] at HA HD HLen
   clear hL
   obtain ⟨q, hq⟩ : ∃ q, q = rd_T101 l (k : Int) := ⟨_, rfl⟩
   rw [← hq] at hx0 hx1 hx2 hx3 hx4 hx5 hx6 hx7 hx8 hC6 hc6 hg6 HD
   clear hq
   have HC6 := Aside0.mk hC6
   have HG6 := Aside0.mk hg6
   have Hc6 := Aside0.mk hc6
   clear hC6 hg6 hc6
   have HF := Aside0.mk (show impl_row_slot.f q.f0.f0.f0 q.f0.f0.f1 q.f0.f1 q.f1 q.f2 q.f3 q.f4 q.f5 q.f6 = some (q.f0.f0.f0, q.f0.f0.f1, q.f2, q.f3, q.f4, q.f5, q.f6, q.f1, q.f0.f1) by unfold impl_row_slot.f slices_Clone_impl_Key_impl_Key.f; rw [if_pos HG6.out]; rfl)
   go_wp2
   obtain ⟨W2, hW2⟩ : ∃ W2 : World, W2 = wr.alloc (.cells #[.int .i64 q.f0.f0.f0, .string q.f0.f0.f1, .int .i64 q.f0.f1, .int .i64 q.f1, .bool q.f2, .string q.f3, .slice A6 q.f4.length c6, .int .i64 q.f5, .int .i64 q.f6] 101) := ⟨_, rfl⟩
   rw [← hW2]
   have hb2 : Below wr.heap.size wr W2 := by rw [hW2]; exact below_alloc (Below.refl _ _) _
   have hx9 : W2.heap[wr.heap.size]? = some (.cells #[.int .i64 q.f0.f0.f0, .string q.f0.f0.f1, .int .i64 q.f0.f1, .int .i64 q.f1, .bool q.f2, .string q.f3, .slice A6 q.f4.length c6, .int .i64 q.f5, .int .i64 q.f6] 101 (0, 0)) := by rw [hW2]; exact blk_new _ _
   clear hW2
   have HA2 := Aside0.mk (HA.out.keep hb2)
   have HC2 := Aside0.mk (Kd.C_below HC6.out (below_step HA.out.bel hb2))
   have HX9 := Aside0.mk hx9
   clear hx9 hb2 hx0 hx1 hx2 hx3 hx4 hx5 hx6 hx7 hx8
   obtain ⟨v, hv, hs2⟩ := HA2.out.hg
   obtain ⟨AT, cT, rfl⟩ := Kd.S_slice hs2
   have HV := Aside0.mk hv
   have HS2 := Aside0.mk hs2
   clear hv hs2
   refine start_ (n := 8) (S := fun w' => w'.cell? ⟨w.heap.size + 1, 0, none⟩ = some (.slice AT L.length cT) ∧ w'.cell? ⟨wr.heap.size, 0, none⟩ = some (.int .i64 q.f0.f0.f0) ∧ w'.cell? ⟨wr.heap.size, 1, none⟩ = some (.string q.f0.f0.f1) ∧ w'.cell? ⟨wr.heap.size, 2, none⟩ = some (.int .i64 q.f0.f1) ∧ w'.cell? ⟨wr.heap.size, 3, none⟩ = some (.int .i64 q.f1) ∧ w'.cell? ⟨wr.heap.size, 4, none⟩ = some (.bool q.f2) ∧ w'.cell? ⟨wr.heap.size, 5, none⟩ = some (.string q.f3) ∧ w'.cell? ⟨wr.heap.size, 6, none⟩ = some (.slice A6 q.f4.length c6) ∧ w'.cell? ⟨wr.heap.size, 7, none⟩ = some (.int .i64 q.f5) ∧ w'.cell? ⟨wr.heap.size, 8, none⟩ = some (.int .i64 q.f6)) (ds := [5, 7]) #[false, false, false, false, false, false, false, false] (by kernel_rfl) rfl rfl ⟨(blk_cell HV.out 0).trans rfl, (blk_cell HX9.out 0).trans rfl, (blk_cell HX9.out 1).trans rfl, (blk_cell HX9.out 2).trans rfl, (blk_cell HX9.out 3).trans rfl, (blk_cell HX9.out 4).trans rfl, (blk_cell HX9.out 5).trans rfl, (blk_cell HX9.out 6).trans rfl, (blk_cell HX9.out 7).trans rfl, (blk_cell HX9.out 8).trans rfl⟩ (fun hHeld => ?_)
   refine pureY (i := 0) (N := some 16) (v := ?_) (a' := ?_) #[true, false, false, false, false, false, false, false] rfl rfl (by kernel_rfl) ⟨by rfl, ?_⟩ ?_ ?_
   rotate_left
   · intro w'
     go_simp
     with_reducible rfl
   rotate_left
   · simp only [Act.put, sA_, i64_w, i32_w]
     rfl
   refine takeY (i := 1) (N := some 17) (v := ?_) (a' := ?_) #[true, true, false, false, false, false, false, false] rfl rfl (by kernel_rfl) ⟨by rfl, ?_⟩ hHeld ?_ ?_
   rotate_left
   · rintro w' ⟨s0, s1, s2, s3, s4, s5, s6, s7, s8, s9⟩
     go_simp
     with_reducible rfl
   rotate_left
   · simp only [Act.put, sA_, i64_w, i32_w]
     rfl
   refine takeY (i := 2) (N := some 18) (v := ?_) (a' := ?_) #[true, true, true, false, false, false, false, false] rfl rfl (by kernel_rfl) ⟨by rfl, ?_⟩ hHeld ?_ ?_
   rotate_left
   · rintro w' ⟨s0, s1, s2, s3, s4, s5, s6, s7, s8, s9⟩
     go_simp
     with_reducible rfl
   rotate_left
   · simp only [Act.put, sA_, i64_w, i32_w]
     rfl
   refine one_ (i := 3) (N := some 19) #[true, true, true, true, false, false, false, false] rfl rfl (by kernel_rfl) (by decide) (fun K hK => ?_)
   refine goes_ Tryd.func60 rfl rfl #[.agg #[.int .i64 q.f0.f0.f0, .string q.f0.f0.f1, .int .i64 q.f0.f1, .int .i64 q.f1, .bool q.f2, .string q.f3, .slice A6 q.f4.length c6, .int .i64 q.f5, .int .i64 q.f6]] rfl rfl rfl (by (try simp only [List.map_toArray, List.map_cons, List.map_nil, List.append_toArray, List.append_nil, List.nil_append, List.cons_append]); rfl) ?_
   refine (impl_row_slot.calls q.f0.f0.f0 q.f0.f0.f1 q.f0.f1 q.f1 q.f2 q.f3 A6 c6 q.f4 q.f5 q.f6 _ _ _ _ _ _ _ _ _ _ (Kd.C_drew HC2.out) Hc6.out HF.out).mono ?_
   rintro e w7 ⟨v7, rfl, ho7, hb7⟩
   obtain ⟨A7, c7, rfl⟩ := Kd.R_slice ho7
   refine ⟨_, rfl, ?_⟩
   refine hK.out _ _ ⟨pw_cell_below hb7 hHeld.1, pw_cell_below hb7 hHeld.2.1, pw_cell_below hb7 hHeld.2.2.1, pw_cell_below hb7 hHeld.2.2.2.1, pw_cell_below hb7 hHeld.2.2.2.2.1, pw_cell_below hb7 hHeld.2.2.2.2.2.1, pw_cell_below hb7 hHeld.2.2.2.2.2.2.1, pw_cell_below hb7 hHeld.2.2.2.2.2.2.2.1, pw_cell_below hb7 hHeld.2.2.2.2.2.2.2.2.1, pw_cell_below hb7 hHeld.2.2.2.2.2.2.2.2.2⟩ (fun hHeld => ?_)
   clear hK K
   refine norm_ (a' := ?_) ?_ ?_
   rotate_left
   · show Act.put _ (some 19) _ = _
     simp only [Act.put, sA_, i64_w, i32_w]
     rfl
   have HO7 := Aside0.mk ho7
   have HB7 := Aside0.mk hb7
   have HV7 := Aside0.mk (blk_below (blk_drew HV.out) hb7)
   have H27 := Aside0.mk (blk_below (blk_drew HA2.out.h2) hb7)
   have HS7 := Aside0.mk (Kd.S_elder' (Kd.S_drew HS2.out) (Kd.R_base ho7) hb7)
   have HBB := Aside0.mk (below_step (below_drew1 HA2.out.bel) hb7)
   have HSZ := Aside0.mk (Nat.le_trans (below_size (below_drew1 HA2.out.bel)) (below_size hb7))
   clear hb7 ho7
   refine one_ (i := 4) (N := some 20) #[true, true, true, true, true, false, false, false] rfl rfl (by kernel_rfl) (by decide) (fun K hK => ?_)
   refine value_ (v := .slice (some ⟨w7.heap.size, 0, none⟩) 1 1) (w1 := w7.alloc (.cells #[.int .i64 q.f0.f0.f0, .string q.f0.f0.f1, .bool q.f2, .string q.f3, .slice A7 q.f4.length c7, .int .i64 q.f5, .int .i64 q.f6, .int .i64 q.f1, .int .i64 q.f0.f1] 32)) (by rfl) rfl ?_ ?_
   · go_simp
   refine hK.out _ _ ⟨pw_cell_below (below_alloc (Below.refl _ _) _) hHeld.1, pw_cell_below (below_alloc (Below.refl _ _) _) hHeld.2.1, pw_cell_below (below_alloc (Below.refl _ _) _) hHeld.2.2.1, pw_cell_below (below_alloc (Below.refl _ _) _) hHeld.2.2.2.1, pw_cell_below (below_alloc (Below.refl _ _) _) hHeld.2.2.2.2.1, pw_cell_below (below_alloc (Below.refl _ _) _) hHeld.2.2.2.2.2.1, pw_cell_below (below_alloc (Below.refl _ _) _) hHeld.2.2.2.2.2.2.1, pw_cell_below (below_alloc (Below.refl _ _) _) hHeld.2.2.2.2.2.2.2.1, pw_cell_below (below_alloc (Below.refl _ _) _) hHeld.2.2.2.2.2.2.2.2.1, pw_cell_below (below_alloc (Below.refl _ _) _) hHeld.2.2.2.2.2.2.2.2.2⟩ (fun hHeld => ?_)
   clear hK K
   refine norm_ (a' := ?_) ?_ ?_
   rotate_left
   · show Act.put _ (some 20) _ = _
     simp only [Act.put, sA_, i64_w, i32_w]
     rfl
   refine last_ (i := 5) (N := some 21) #[true, true, true, true, true, true, false, false] rfl rfl (by kernel_rfl) (by decide) (fun K hK => ?_)
   refine Kd.S_append_step k32 (w0 := w) (W := w7) w.heap.size (by rfl) (.tmp 17) (.tmp 20) 34 32 (.agg #[(.int .i64 0), (.string ⟨#[]⟩), (.bool false), (.string ⟨#[]⟩), (.slice none 0 0), (.int .i64 0), (.int .i64 0), (.int .i64 0), (.int .i64 0)]) 104 rfl Tryd.underlying34 infoSlot rfl (by decide) (by omega) (.slice AT L.length cT) L (⟨⟨q.f0.f0.f0, q.f0.f0.f1⟩, q.f2, q.f3, q.f4, q.f5, q.f6, q.f1, q.f0.f1⟩ : S32) [.int .i64 q.f0.f0.f0, .string q.f0.f0.f1, .bool q.f2, .string q.f3, .slice A7 q.f4.length c7, .int .i64 q.f5, .int .i64 q.f6, .int .i64 q.f1, .int .i64 q.f0.f1] (fun _ => True) (fun b => some b = (Value.slice A7 q.f4.length c7).ownBlock) rfl rfl (k32_mkM _ _ _ (⟨⟨q.f0.f0.f0, q.f0.f0.f1⟩, q.f2, q.f3, q.f4, q.f5, q.f6, q.f1, q.f0.f1⟩ : S32) (Kd.R_tight rfl (Kd.R_lower HO7.out (below_size (below_drew1 HA2.out.bel))))) (fun b hb => ⟨trivial, fun e => by have h1 := Kd.S_lt HS2.out b e.symm; have h2 := Kd.R_base HO7.out b hb.symm; exact absurd h1 (Nat.not_lt.2 h2)⟩) (fun _ _ => trivial) (Kd.S_mono HS7.out (fun b hb => ⟨trivial, fun e => hb.2 e⟩)) HBB.out HSZ.out (by have := HLen.out; omega) ?_
   intro v1 w1 hs1 hb1 hg1 _
   refine hK.out _ _ ?_
   clear hK K
   refine norm_ (a' := ?_) ?_ ?_
   rotate_left
   · show Act.put _ (some 21) _ = _
     simp only [Act.put, sA_, i64_w, i32_w]
     rfl
   have hne := Kd.S_ne (Kd.S_mono HS7.out (fun _ _ => trivial) : Kd.S k32 32 w7 w.heap.size (fun _ => True) _ _) HV7.out (by decide)
   have hv1 := blk_grown HV7.out hg1 hne
   have h21 := Aside0.mk (blk_grown H27.out hg1 (Kd.S_ne (Kd.S_mono HS7.out (fun _ _ => trivial) : Kd.S k32 32 w7 w.heap.size (fun _ => True) _ _) H27.out (by decide)))
   obtain ⟨A1, c1, rfl⟩ := Kd.S_slice hs1
   have hcv1 : w1.cell? ⟨w.heap.size + 1, 0, none⟩ = some (.slice AT L.length cT) := (blk_cell hv1 0).trans rfl
   have hfv1 := blk_frozen hv1 0
   have HS1 := Aside0.mk hs1
   have HV1 := Aside0.mk hv1
   have HB1 := Aside0.mk hb1
   clear hs1 hb1 hg1 hne
   refine pureY (i := 6) (N := some 22) (v := ?_) (a' := ?_) #[true, true, true, true, true, true, true, false] rfl rfl (by kernel_rfl) ⟨by rfl, ?_⟩ ?_ ?_
   rotate_left
   · intro w'
     go_simp
     with_reducible rfl
   rotate_left
   · simp only [Act.put, sA_, i64_w, i32_w]
     rfl
   refine last_ (i := 7) (N := none) #[true, true, true, true, true, true, true, true] rfl rfl (by kernel_rfl) (by decide) (fun K hK => ?_)
   refine skip_ (w1 := w1.setCell ⟨w.heap.size + 1, 0, none⟩ (.slice A1 (L ++ [(⟨⟨q.f0.f0.f0, q.f0.f0.f1⟩, q.f2, q.f3, q.f4, q.f5, q.f6, q.f1, q.f0.f1⟩ : S32)]).length c1)) (by rfl) rfl ?_ ?_
   · go_simp
   refine hK.out _ _ ?_
   clear hK K
   refine done_ (by kernel_rfl) ?_
   have HR9 := Aside0.mk (show TbAt w (w1.setCell ⟨w.heap.size + 1, 0, none⟩ (.slice A1 (L.length + 1) c1)) ((l.take (k + 1)).map rowT) by rw [HD.out, show L.length + 1 = (L ++ [(⟨⟨q.f0.f0.f0, q.f0.f0.f1⟩, q.f2, q.f3, q.f4, q.f5, q.f6, q.f1, q.f0.f1⟩ : S32)]).length by simp]; exact ⟨blk_far h21.out (p := ⟨w.heap.size + 1, 0, none⟩) (by show w.heap.size ≠ w.heap.size + 1; omega) _, ⟨_, blk_put HV1.out 0 _ rfl, Kd.S_set HS1.out HV1.out (by decide) 0 _⟩, below_set HB1.out (by show w.heap.size ≤ w.heap.size + 1; omega)⟩)
   clear hcv1 hfv1
   have HWk := Aside0.mk (show wrap64 ((k : Int) + 1) = ((k + 1 : Nat) : Int) by have := G.out.1; unfold wrap64; omega)
   go_wp2
   rw [HWk.out]
   go_roundw
   case rel => exact ⟨k + 1, by omega, rfl, HR9⟩
   case measure => simp [intOf]; omega
  obtain rfl : k = l.length := by omega
  have ql : decide (l.length < l.length) = false := decide_eq_false hlt
  rw [List.take_length] at HA
  obtain ⟨v, hv, hs⟩ := HA.out.hg
  have HV := Aside0.mk hv
  have HSv := Aside0.mk hs
  have hcv : wr.cell? ⟨w.heap.size + 1, 0, none⟩ = some v := (blk_cell hv 0).trans rfl
  have hc2 : wr.cell? ⟨w.heap.size, 0, none⟩ = some (.slice none 0 0) := (blk_cell HA.out.h2 0).trans rfl
  have hf2 := blk_frozen HA.out.h2 0
  clear hlt hk hv hs
  obtain ⟨A1, c1, rfl⟩ := Kd.S_slice HSv.out
  go_wp2
  refine bodyPost_ret (results_cell_row rfl _ _ w.heap.size 36 #[.slice A1 (l.map rowT).length c1] (0, 0) _ rfl (blk_put HA.out.h2 0 _ (by rw [List.length_map]; rfl)) Tryd.underlying36 rfl (by kernel_rfl)) rfl ?_
  exact ⟨_, rfl, Kd.S_set HSv.out HA.out.h2 (by decide) 0 _, below_set HA.out.bel (Nat.le_refl _)⟩
end Go.Proofs.YtnbohlcibgfjaaaDoor.Gp
end
