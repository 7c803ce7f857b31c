/- A part of the proof of RowFnExactTokens: each text's theorems that it needs, packed by shake.py, a program of this work; Lean checks them. -/
import Derived.Test.YtiicaoiijhodkaaDoorVk2
import Derived.Test.YtiicaoiijhodkaaDoorVk5
import Derived.ScopeJumps
import Derived.WalkMore
import Derived.Lib.Bytealg
section
namespace Go.Proofs.YtiicaoiijhodkaaDoor.Gp
open Go.RowKit Go.Proofs.YtiicaoiijhodkaaDoorW.PrintWords Go.Proofs.YtiicaoiijhodkaaDoorW.PrintLast Go.Proofs.YtiicaoiijhodkaaDoorW.PrintMore
set_option linter.unusedVariables false
set_option linter.unusedSimpArgs false
def jumpsTo (J : Nat → Act → World → Prop) (Q : Exit → Act → World → Prop) : Exit → Act → World → Prop
  | .goto l, a, w => J l a w
  | e, a, w => Q e a w
theorem wp_scope4 {P : Program} {c r0 r1 r2 r3 : Code} {a : Act} {w : World} {Q : Exit → Act → World → Prop} (J : Nat → Nat → Act → World → Prop)
    (h0 : findLabel c 0 = some (Code.skip.seq r0)) (h1 : findLabel c 1 = some (Code.skip.seq r1)) (h2 : findLabel c 2 = some (Code.skip.seq r2)) (h3 : findLabel c 3 = some (Code.skip.seq r3))
    (hl : ∀ l n a w, J l n a w → l < 4)
    (p0 : ∀ n a w, J 0 n a w → r0.wp P (jumpsTo (fun l' a' w' => ∃ n', n' < n ∧ J l' n' a' w') Q) a w)
    (p1 : ∀ n a w, J 1 n a w → r1.wp P (jumpsTo (fun l' a' w' => ∃ n', n' < n ∧ J l' n' a' w') Q) a w)
    (p2 : ∀ n a w, J 2 n a w → r2.wp P (jumpsTo (fun l' a' w' => ∃ n', n' < n ∧ J l' n' a' w') Q) a w)
    (p3 : ∀ n a w, J 3 n a w → r3.wp P (jumpsTo (fun l' a' w' => ∃ n', n' < n ∧ J l' n' a' w') Q) a w)
    (first : (∀ n a w, J 0 n a w → r0.wp P (jumpsTo (fun l' a' w' => ∃ n', J l' n' a' w') Q) a w) → c.wp P (jumpsTo (fun l a w => ∃ n, J l n a w) Q) a w) : (Code.scope c).wp P Q a w := by
  have weak : ∀ (n : Nat) (e : Exit) (a : Act) (w : World), jumpsTo (fun l' a' w' => ∃ n', n' < n ∧ J l' n' a' w') Q e a w → jumpsTo (fun l' a' w' => ∃ n', J l' n' a' w') Q e a w := by
    intro n e a w h
    cases e
    case goto l => obtain ⟨n', _, h'⟩ := h; exact ⟨n', h'⟩
    all_goals exact h
  replace first := first (fun n a w h => wp_mono (p0 n a w h) (weak n))
  have pass : ∀ l n a w, J l n a w → ∃ r, findLabel c l = some r ∧ r.wp P (jumpsTo (fun l' a' w' => ∃ n', n' < n ∧ J l' n' a' w') Q) a w := by
    intro l n a w h
    have h4 := hl l n a w h
    match l, h4, h with
    | 0, _, h => exact ⟨_, h0, wp_seq (wp_skip (p0 n a w h))⟩
    | 1, _, h => exact ⟨_, h1, wp_seq (wp_skip (p1 n a w h))⟩
    | 2, _, h => exact ⟨_, h2, wp_seq (wp_skip (p2 n a w h))⟩
    | 3, _, h => exact ⟨_, h3, wp_seq (wp_skip (p3 n a w h))⟩
  intro b k cs
  have hg : ∀ l r, findLabel c l = some r → gotoIn l (.inScope c :: k) = some (.code r :: .inScope c :: k) := fun l r h => by simp [gotoIn, h]
  have key : ∀ n l a w, J l n a w → ∃ r, findLabel c l = some r ∧ ∃ e a' w', Q e a' w' ∧ Arrives P (lone (b.at a (.code r :: .inScope c :: k)) cs w) b k cs e a' w' := by
    intro n
    induction n using Nat.strongRecOn with
    | _ n ih =>
      intro l a w hJ
      obtain ⟨r, hr, hp⟩ := pass l n a w hJ
      refine ⟨r, hr, ?_⟩
      obtain ⟨e, a₁, w₁, hq, harr⟩ := hp b (.inScope c :: k) cs
      cases e with
      | normal => exact ⟨.normal, a₁, w₁, hq, Steps.trans harr (.one step_inScope)⟩
      | exit id => exact ⟨.exit id, a₁, w₁, hq, fun k' hk => harr k' (by simp [exitTo, hk])⟩
      | goto l' =>
        obtain ⟨n', hlt, hJ'⟩ := hq
        obtain ⟨r', hr', e₂, a₂, w₂, hq₂, harr₂⟩ := ih n' hlt l' a₁ w₁ hJ'
        exact ⟨e₂, a₂, w₂, hq₂, .of_steps (harr _ (hg _ _ hr')) harr₂⟩
      | ret => exact ⟨_, a₁, w₁, hq, harr⟩
      | panic ch => exact ⟨_, a₁, w₁, hq, harr⟩
      | outgrown => exact ⟨_, a₁, w₁, hq, harr⟩
  obtain ⟨e, a₁, w₁, hq, harr⟩ := first b (.inScope c :: k) cs
  cases e with
  | normal => exact ⟨.normal, a₁, w₁, hq, .head step_scope (Steps.trans harr (.one step_inScope))⟩
  | exit id => exact ⟨.exit id, a₁, w₁, hq, fun k' hk => .head step_scope (harr k' (by simp [exitTo, hk]))⟩
  | goto l' =>
    obtain ⟨n', hJ'⟩ := hq
    obtain ⟨r', hr', e₂, a₂, w₂, hq₂, harr₂⟩ := key n' _ a₁ w₁ hJ'
    exact ⟨e₂, a₂, w₂, hq₂, .of_steps (.head step_scope (harr _ (hg _ _ hr'))) harr₂⟩
  | ret => exact ⟨_, a₁, w₁, hq, .of_steps (.one step_scope) harr⟩
  | panic ch => exact ⟨_, a₁, w₁, hq, .of_steps (.one step_scope) harr⟩
  | outgrown => exact ⟨_, a₁, w₁, hq, .of_steps (.one step_scope) harr⟩
abbrev Tok := S75
structure TokS (w0 W : World) (s : ByteArray) (gt go ga gi : Nat) (l : List Tok) (p i : Int) : Prop where
  ht : W.heap[gt]? = some (.cells #[.string s] 9 (0, 0))
  hp : W.heap[ga]? = some (.cells #[.int .i64 p] 3 (0, 0))
  hi : W.heap[gi]? = some (.cells #[.int .i64 i] 3 (0, 0))
  ho : ∃ v, W.heap[go]? = some (.cells #[v] 40 (0, 0)) ∧ Kd.R k75 75 W w0.heap.size (fun _ => True) v l
  ne : ga ≠ gi
  le : w0.heap.size ≤ gt ∧ w0.heap.size ≤ go ∧ w0.heap.size ≤ ga ∧ w0.heap.size ≤ gi
  bel : Below w0.heap.size w0 W
section
variable {w0 W : World} {s : ByteArray} {gt go ga gi : Nat} {l : List Tok} {p i : Int}
theorem TokS.setI (h : TokS w0 W s gt go ga gi l p i) (x : Int) : TokS w0 (W.setCell ⟨gi, 0, none⟩ (.int .i64 x)) s gt go ga gi l p x := by
  obtain ⟨v, hv, hr⟩ := h.ho
  exact ⟨blk_far h.ht (p := ⟨gi, 0, none⟩) (blk_ne h.ht h.hi (by decide)) _, blk_far h.hp (p := ⟨gi, 0, none⟩) h.ne _, blk_put h.hi 0 _ rfl, ⟨v, blk_far hv (p := ⟨gi, 0, none⟩) (blk_ne hv h.hi (by decide)) _, Kd.R_set hr h.hi (by decide) 0 _⟩, h.ne, h.le, below_set h.bel h.le.2.2.2⟩
theorem TokS.setP (h : TokS w0 W s gt go ga gi l p i) (x : Int) : TokS w0 (W.setCell ⟨ga, 0, none⟩ (.int .i64 x)) s gt go ga gi l x i := by
  obtain ⟨v, hv, hr⟩ := h.ho
  exact ⟨blk_far h.ht (p := ⟨ga, 0, none⟩) (blk_ne h.ht h.hp (by decide)) _, blk_put h.hp 0 _ rfl, blk_far h.hi (p := ⟨ga, 0, none⟩) (Ne.symm h.ne) _, ⟨v, blk_far hv (p := ⟨ga, 0, none⟩) (blk_ne hv h.hp (by decide)) _, Kd.R_set hr h.hp (by decide) 0 _⟩, h.ne, h.le, below_set h.bel h.le.2.2.1⟩
theorem TokS.keep {W1 : World} (h : TokS w0 W s gt go ga gi l p i) (hb : Below W.heap.size W W1) : TokS w0 W1 s gt go ga gi l p i := by
  obtain ⟨v, hv, hr⟩ := h.ho
  exact ⟨blk_below h.ht hb, blk_below h.hp hb, blk_below h.hi hb, ⟨v, blk_below hv hb, Kd.R_below hr hb⟩, h.ne, h.le, below_step h.bel hb⟩
theorem TokS.drewN (h : TokS w0 W s gt go ga gi l p i) (n : Nat) : TokS w0 (W.drewN n) s gt go ga gi l p i := h.keep (pw_below_drewN (Below.refl _ _) n)
theorem TokS.drew (h : TokS w0 W s gt go ga gi l p i) : TokS w0 W.drew s gt go ga gi l p i := h.keep (below_drew (Below.refl _ _))
end
theorem TokS.init (w : World) (s : ByteArray) : TokS w ((((w.alloc (.cells #[.string s] 9)).alloc (.cells #[.slice none 0 0] 40)).alloc (.cells #[.int .i64 0] 3)).alloc (.cells #[.int .i64 0] 3)) s w.heap.size (w.heap.size + 1) (w.heap.size + 1 + 1) (w.heap.size + 1 + 1 + 1) [] 0 0 := by
  have z : ∀ (w : World) (o : Obj), (w.alloc o).heap.size = w.heap.size + 1 := fun w o => by simp
  have nw : ∀ (w : World) (o : Obj) (n : Nat), w.heap.size = n → (w.alloc o).heap[n]? = some o := fun w o n h => h ▸ blk_new w o
  refine ⟨blk_alloc (blk_alloc (blk_alloc (blk_new w _) _) _) _, blk_alloc (nw _ _ _ (by simp)) _, nw _ _ _ (by simp), ⟨_, blk_alloc (blk_alloc (nw _ _ _ (by simp)) _) _, Kd.R_nil _ _ _ _ _⟩, by omega, by omega, by repeat (first | exact Below.refl _ _ | apply below_alloc)⟩
set_option maxHeartbeats 4000000 in
set_option maxRecDepth 100000 in
theorem impl_Tokens.emit (w0 W : World) (s : ByteArray) (gt go ga gi : Nat) (l : List Tok) (p i cl : Int) (h : TokS w0 W s gt go ga gi l p i) (h0 : 0 ≤ p) (h1 : p ≤ i) (h2 : i ≤ (s.size : Int)) (hl : l.length ≤ 2000) :
    Calls Tryd.prog 39 #[.int .i64 cl, .pointer (some ⟨go, 0, none⟩), .pointer (some ⟨gt, 0, none⟩), .pointer (some ⟨ga, 0, none⟩), .pointer (some ⟨gi, 0, none⟩)] W fun e w' => e = .returned (.tuple #[]) ∧ TokS w0 w' s gt go ga gi (l ++ [⟨cl, s.extract p.toNat i.toNat, p⟩]) p i := by
  have hu := Tryd.underlying75
  obtain ⟨v, hv, hr⟩ := h.ho
  obtain ⟨A, c, rfl⟩ := Kd.R_slice hr
  have HT := Aside0.mk h
  have HV := Aside0.mk hv
  have HR := Aside0.mk hr
  have HL := Aside0.mk hl
  have z0 := eq_true h0
  have z1 := eq_true h1
  have z2 := eq_true h2
  clear h hv hr hl h0 h1 h2
  go_enter Tryd.func39, Tryd.ntmps39
  go_wp2
  refine start_ (n := 11) (S := fun w' => w'.cell? ⟨go, 0, none⟩ = some (.slice A l.length c) ∧ w'.cell? ⟨gt, 0, none⟩ = some (.string s) ∧ w'.cell? ⟨ga, 0, none⟩ = some (.int .i64 p) ∧ w'.cell? ⟨gi, 0, none⟩ = some (.int .i64 i)) (ds := [9, 10]) #[false, false, false, false, false, false, false, false, false, false, false] (by kernel_rfl) rfl rfl ⟨(blk_cell HV.out 0).trans rfl, (blk_cell HT.out.ht 0).trans rfl, (blk_cell HT.out.hp 0).trans rfl, (blk_cell HT.out.hi 0).trans rfl⟩ (fun hHeld => ?_)
  refine take_ (i := 0) (N := some 6) (v := ?_) (a' := ?_) #[true, false, false, false, false, false, false, false, false, false, false] rfl rfl (by kernel_rfl) (fun _ _ _ h => h) (Or.inl ⟨by rfl, ?_⟩) hHeld ?_ ?_
  rotate_left
  · rintro w' ⟨s0, s1, s2, s3⟩
    go_simp
    with_reducible rfl
  rotate_left
  · simp only [Act.put, List.setIfInBounds_toArray, List.set_cons_zero, List.set_cons_succ, i64_w, i32_w]
    rfl
  refine pure_ (i := 1) (N := some 7) (v := ?_) (a' := ?_) #[true, true, false, false, false, false, false, false, false, false, false] rfl rfl (by kernel_rfl) (fun _ _ _ h => h) (Or.inl ⟨by rfl, ?_⟩) ?_ ?_
  rotate_left
  · intro w'
    go_simp
    with_reducible rfl
  rotate_left
  · simp only [Act.put, List.setIfInBounds_toArray, List.set_cons_zero, List.set_cons_succ, i64_w, i32_w]
    rfl
  refine take_ (i := 2) (N := some 8) (v := ?_) (a' := ?_) #[true, true, true, false, false, false, false, false, false, false, false] rfl rfl (by kernel_rfl) (fun _ _ _ h => h) (Or.inl ⟨by rfl, ?_⟩) hHeld ?_ ?_
  rotate_left
  · rintro w' ⟨s0, s1, s2, s3⟩
    go_simp
    with_reducible rfl
  rotate_left
  · simp only [Act.put, List.setIfInBounds_toArray, List.set_cons_zero, List.set_cons_succ, i64_w, i32_w]
    rfl
  refine take_ (i := 3) (N := some 9) (v := ?_) (a' := ?_) #[true, true, true, true, false, false, false, false, false, false, false] rfl rfl (by kernel_rfl) (fun _ _ _ h => h) (Or.inl ⟨by rfl, ?_⟩) hHeld ?_ ?_
  rotate_left
  · rintro w' ⟨s0, s1, s2, s3⟩
    go_simp
    with_reducible rfl
  rotate_left
  · simp only [Act.put, List.setIfInBounds_toArray, List.set_cons_zero, List.set_cons_succ, i64_w, i32_w]
    rfl
  refine take_ (i := 4) (N := some 10) (v := ?_) (a' := ?_) #[true, true, true, true, true, false, false, false, false, false, false] rfl rfl (by kernel_rfl) (fun _ _ _ h => h) (Or.inl ⟨by rfl, ?_⟩) hHeld ?_ ?_
  rotate_left
  · rintro w' ⟨s0, s1, s2, s3⟩
    go_simp
    with_reducible rfl
  rotate_left
  · simp only [Act.put, List.setIfInBounds_toArray, List.set_cons_zero, List.set_cons_succ, i64_w, i32_w]
    rfl
  refine pure_ (i := 5) (N := some 11) (v := ?_) (a' := ?_) #[true, true, true, true, true, true, false, false, false, false, false] rfl rfl (by kernel_rfl) (fun _ _ _ h => h) (Or.inl ⟨by rfl, ?_⟩) ?_ ?_
  rotate_left
  · intro w'
    go_simp
    with_reducible rfl
  rotate_left
  · simp only [Act.put, List.setIfInBounds_toArray, List.set_cons_zero, List.set_cons_succ, i64_w, i32_w]
    rfl
  refine take_ (i := 6) (N := some 12) (v := ?_) (a' := ?_) #[true, true, true, true, true, true, true, false, false, false, false] rfl rfl (by kernel_rfl) (fun _ _ _ h => h) (Or.inl ⟨by rfl, ?_⟩) hHeld ?_ ?_
  rotate_left
  · rintro w' ⟨s0, s1, s2, s3⟩
    go_simp
    with_reducible rfl
  rotate_left
  · simp only [Act.put, List.setIfInBounds_toArray, List.set_cons_zero, List.set_cons_succ, i64_w, i32_w]
    rfl
  refine pure_ (i := 7) (N := some 13) (v := ?_) (a' := ?_) #[true, true, true, true, true, true, true, true, false, false, false] rfl rfl (by kernel_rfl) (fun _ _ _ h => h) (Or.inl ⟨by rfl, ?_⟩) ?_ ?_
  rotate_left
  · intro w'
    go_simp
    with_reducible rfl
  rotate_left
  · simp only [Act.put, List.setIfInBounds_toArray, List.set_cons_zero, List.set_cons_succ, i64_w, i32_w]
    rfl
  refine one_ (i := 8) (N := some 14) #[true, true, true, true, true, true, true, true, true, false, false] rfl rfl (by kernel_rfl) (by decide) (fun K hK => ?_)
  refine value_ (v := .slice (some ⟨W.drew.heap.size, 0, none⟩) 1 1) (w1 := W.drew.alloc (.cells #[.int .i64 cl, .string (s.extract p.toNat i.toNat), .int .i64 p] 75)) (by rfl) rfl ?_ ?_
  · go_simp
  refine hK.out _ _ ⟨(blk_cell (blk_alloc HV.out _) 0).trans rfl, (blk_cell (blk_alloc HT.out.ht _) 0).trans rfl, (blk_cell (blk_alloc HT.out.hp _) 0).trans rfl, (blk_cell (blk_alloc HT.out.hi _) 0).trans rfl⟩ (fun hHeld => ?_)
  clear hK K
  refine norm_ (a' := ?_) ?_ ?_
  rotate_left
  · show Act.put _ (some 14) _ = _
    simp only [Act.put, List.setIfInBounds_toArray, List.set_cons_zero, List.set_cons_succ, i64_w, i32_w]
    rfl
  refine last_ (i := 9) (N := some 15) #[true, true, true, true, true, true, true, true, true, true, false] rfl rfl (by kernel_rfl) (by decide) (fun K hK => ?_)
  refine Kd.R_append_step k75 (w0 := w0) (W := W.drew) w0.heap.size (by rfl) (.tmp 6) (.tmp 14) 40 75 (.agg #[(.int .i64 0), (.string ⟨#[]⟩), (.int .i64 0)]) 32 rfl Tryd.underlying40 info75 rfl (by decide) (by omega) (.slice A l.length c) l (⟨cl, s.extract p.toNat i.toNat, p⟩ : Tok) [.int .i64 cl, .string (s.extract p.toNat i.toNat), .int .i64 p] (fun _ => True) (fun _ => False) rfl rfl (k75_mkM _ _ _ (⟨cl, s.extract p.toNat i.toNat, p⟩ : Tok)) (fun _ hk => hk.elim) (fun _ _ => trivial) (Kd.R_drew HR.out) (below_drew1 HT.out.bel) (below_size (below_drew1 HT.out.bel)) (by have := HL.out; omega) ?_
  intro v1 w1 hr1 hb1 hg1 hat1
  refine hK.out _ _ ?_
  clear hK K
  refine norm_ (a' := ?_) ?_ ?_
  rotate_left
  · show Act.put _ (some 15) _ = _
    simp only [Act.put, List.setIfInBounds_toArray, List.set_cons_zero, List.set_cons_succ, i64_w, i32_w]
    rfl
  have nt : some gt ≠ (Value.slice A l.length c).ownBlock := Kd.R_ne HR.out HT.out.ht (by decide)
  have np : some ga ≠ (Value.slice A l.length c).ownBlock := Kd.R_ne HR.out HT.out.hp (by decide)
  have ni : some gi ≠ (Value.slice A l.length c).ownBlock := Kd.R_ne HR.out HT.out.hi (by decide)
  have no : some go ≠ (Value.slice A l.length c).ownBlock := Kd.R_ne HR.out HV.out (by decide)
  have ht1 := blk_grown (blk_drew HT.out.ht) hg1 nt
  have hp1 := blk_grown (blk_drew HT.out.hp) hg1 np
  have hi1 := blk_grown (blk_drew HT.out.hi) hg1 ni
  have hv1 := blk_grown (blk_drew HV.out) hg1 no
  refine last_ (i := 10) (N := none) #[true, true, true, true, true, true, true, true, true, true, true] rfl rfl (by kernel_rfl) (by decide) (fun K hK => ?_)
  obtain ⟨A1, c1, rfl⟩ := Kd.R_slice hr1
  have hcv1 : w1.cell? ⟨go, 0, none⟩ = some (.slice A l.length c) := (blk_cell hv1 0).trans rfl
  have hfv1 := blk_frozen hv1 0
  refine skip_ (w1 := w1.setCell ⟨go, 0, none⟩ (.slice A1 (l ++ [(⟨cl, s.extract p.toNat i.toNat, p⟩ : Tok)]).length c1)) (by rfl) rfl ?_ ?_
  · go_simp
  refine hK.out _ _ ?_
  clear hK K
  refine done_ (by kernel_rfl) ?_
  go_end0
  exact ⟨rfl, blk_far ht1 (p := ⟨go, 0, none⟩) (blk_ne ht1 hv1 (by decide)) _, blk_far hp1 (p := ⟨go, 0, none⟩) (blk_ne hp1 hv1 (by decide)) _, blk_far hi1 (p := ⟨go, 0, none⟩) (blk_ne hi1 hv1 (by decide)) _, ⟨_, blk_put hv1 0 _ rfl, Kd.R_set hr1 hv1 (by decide) 0 _⟩, HT.out.ne, HT.out.le, below_set hb1 HT.out.le.2.1⟩
inductive impl_Tokens.Fr (gt go ga gi : Nat) : Act → Prop
  | mk (u0 u2 u7 u8 u9 u10 u11 u12 u13 u14 u15 u16 u17 u18 u19 u20 u21 u22 u23 u24 u25 u26 u27 u28 u29 u30 u31 u32 u33 u34 u35 u36 u37 u38 u39 u40 u41 u42 u43 u44 u45 u46 u47 u48 u49 u50 u51 u52 u53 u54 u55 u56 u57 u58 u59 u60 u61 u62 u63 u64 u65 u66 u67 u68 u69 u70 u71 u72 u73 u74 u75 u76 u77 u78 u79 u80 u81 u82 u83 u84 u85 u86 u87 u88 u89 u90 u91 u92 u93 u94 u95 u96 u97 u98 u99 u100 u101 u102 u103 u104 u105 u106 u107 u108 u109 u110 u111 u112 u113 u114 u115 u116 u117 u118 u119 u120 u121 u122 u123 u124 u125 u126 u127 u128 u129 u130 u131 u132 u133 u134 u135 u136 u137 u138 u139 u140 u141 u142 u143 u144 u145 u146 u147 u148 u149 u150 : Value) : impl_Tokens.Fr gt go ga gi { tmps := #[u0, .pointer (some ⟨gt, 0, none⟩), u2, .pointer (some ⟨go, 0, none⟩), .pointer (some ⟨ga, 0, none⟩), .pointer (some ⟨gi, 0, none⟩), .func (.func 39) #[] #[.pointer (some ⟨go, 0, none⟩), .pointer (some ⟨gt, 0, none⟩), .pointer (some ⟨ga, 0, none⟩), .pointer (some ⟨gi, 0, none⟩)], u7, u8, u9, u10, u11, u12, u13, u14, u15, u16, u17, u18, u19, u20, u21, u22, u23, u24, u25, u26, u27, u28, u29, u30, u31, u32, u33, u34, u35, u36, u37, u38, u39, u40, u41, u42, u43, u44, u45, u46, u47, u48, u49, u50, u51, u52, u53, u54, u55, u56, u57, u58, u59, u60, u61, u62, u63, u64, u65, u66, u67, u68, u69, u70, u71, u72, u73, u74, u75, u76, u77, u78, u79, u80, u81, u82, u83, u84, u85, u86, u87, u88, u89, u90, u91, u92, u93, u94, u95, u96, u97, u98, u99, u100, u101, u102, u103, u104, u105, u106, u107, u108, u109, u110, u111, u112, u113, u114, u115, u116, u117, u118, u119, u120, u121, u122, u123, u124, u125, u126, u127, u128, u129, u130, u131, u132, u133, u134, u135, u136, u137, u138, u139, u140, u141, u142, u143, u144, u145, u146, u147, u148, u149, u150], defers := [] }
def tokNx (s : ByteArray) (c : Nat) (p i : Int) (l : List Tok) : Option (Nat × Int × Int × List Tok) :=
  if c = 0 then
    if i = (s.size : Int) then none
    else if bt s i = 32 ∨ bt s i = 10 then some (0, i, i + 1, l)
    else if bt s i = 35 then some (1, i, i, l)
    else if 97 ≤ bt s i ∧ bt s i ≤ 122 then some (2, i, i, l)
    else if 48 ≤ bt s i ∧ bt s i ≤ 57 then some (3, i, i, l)
    else if strings_HasPrefix.f (s.extract i.toNat s.size) ⟨#[45, 62]⟩ = some true then some (0, i, i + 2, l ++ [⟨4, s.extract i.toNat (i + 2).toNat, i⟩])
    else if 0 ≤ Lib.indexByte [59, 58, 61, 63, 123, 125, 40, 41, 44, 46, 43, 60] (bt s i).toNat.toUInt8 then some (0, i, i + 1, l ++ [⟨4, s.extract i.toNat (i + 1).toNat, i⟩])
    else some (0, i, i + 1, l ++ [⟨0, s.extract i.toNat (i + 1).toNat, i⟩])
  else if c = 1 then if i = (s.size : Int) ∨ bt s i = 10 then some (0, p, i, l) else some (1, p, i + 1, l)
  else if c = 2 then
    if i < (s.size : Int) ∧ wb (bt s i) = true then some (2, p, i + 1, l)
    else some (0, p, i, l ++ [⟨if resB (s.extract p.toNat i.toNat).data.toList = true then 2 else if gnB (s.extract p.toNat i.toNat) = true then 1 else 0, s.extract p.toNat i.toNat, p⟩])
  else
    if i < (s.size : Int) ∧ 48 ≤ bt s i ∧ bt s i ≤ 57 then some (3, p, i + 1, l)
    else some (0, p, i, l ++ [⟨if i - p > 9 ∨ (bt s p = 48 ∧ i - p > 1) then 0 else 3, s.extract p.toNat i.toNat, p⟩])
theorem hasPrefix_some (a b : ByteArray) : ∃ t, strings_HasPrefix.f a b = some t := by
  unfold strings_HasPrefix.f stringslite_HasPrefix.f
  by_cases h : (a.size : Int) ≥ (b.size : Int)
  · rw [if_pos h, if_pos (by omega), if_pos h]
    exact ⟨_, rfl⟩
  · rw [if_neg h]
    exact ⟨_, rfl⟩
theorem hasPrefix_size (a : ByteArray) (i : Int) (h0 : 0 ≤ i) (h1 : i ≤ (a.size : Int)) (h : strings_HasPrefix.f (a.extract i.toNat a.size) ⟨#[45, 62]⟩ = some true) : i + 2 ≤ (a.size : Int) := by
  unfold strings_HasPrefix.f stringslite_HasPrefix.f at h
  by_cases c : ((a.extract i.toNat a.size).size : Int) ≥ ((⟨#[45, 62]⟩ : ByteArray).size : Int)
  · have c2 : ((a.extract i.toNat a.size).size : Int) ≥ 2 := c
    rw [ByteArray.size_extract] at c2
    omega
  · rw [if_neg c] at h
    cases h
def tokOk (s : ByteArray) (c : Nat) (p i : Int) (l : List Tok) : Prop := c < 4 ∧ 0 ≤ p ∧ p ≤ i ∧ i ≤ (s.size : Int) ∧ (c = 3 → p < (s.size : Int)) ∧ (s.size ≤ 1000) ∧ l.length ≤ 2000
instance (s : ByteArray) (c : Nat) (p i : Int) (l : List Tok) : Decidable (tokOk s c p i l) := inferInstanceAs (Decidable (_ ∧ _))
def tokSt : Nat → ByteArray → Nat → Int → Int → List Tok → Option (List Tok)
  | 0, _, _, _, _, _ => none
  | k + 1, s, c, p, i, l => if tokOk s c p i l then (match tokNx s c p i l with | none => some l | some (c', p', i', l') => tokSt k s c' p' i' l') else none
theorem tokSt_ok {k : Nat} {s : ByteArray} {c : Nat} {p i : Int} {l r : List Tok} (h : tokSt k s c p i l = some r) : tokOk s c p i l := by
  cases k with
  | zero => cases h
  | succ k =>
    unfold tokSt at h
    by_cases g : tokOk s c p i l
    · exact g
    · rw [if_neg g] at h; cases h
theorem tokSt_next {k : Nat} {s : ByteArray} {c : Nat} {p i : Int} {l r : List Tok} (h : tokSt k s c p i l = some r) {c' : Nat} {p' i' : Int} {l' : List Tok} (e : tokNx s c p i l = some (c', p', i', l')) : ∃ k', k = k' + 1 ∧ tokSt k' s c' p' i' l' = some r := by
  have g := tokSt_ok h
  cases k with
  | zero => cases h
  | succ k =>
    unfold tokSt at h
    rw [if_pos g, e] at h
    exact ⟨k, rfl, h⟩
theorem tokSt_end {k : Nat} {s : ByteArray} {c : Nat} {p i : Int} {l r : List Tok} (h : tokSt k s c p i l = some r) (e : tokNx s c p i l = none) : r = l := by
  have g := tokSt_ok h
  cases k with
  | zero => cases h
  | succ k =>
    unfold tokSt at h
    rw [if_pos g, e] at h
    exact (Option.some.inj h).symm
theorem tokSt.mono : ∀ (k : Nat) (s : ByteArray) (c : Nat) (p i : Int) (l : List Tok), LeO (tokSt k s c p i l) (tokSt (k + 1) s c p i l)
  | 0, _, _, _, _, _ => fun r h => by cases h
  | k + 1, s, c, p, i, l => fun r h => by
    have g := tokSt_ok h
    unfold tokSt at h ⊢
    rw [if_pos g] at h ⊢
    cases e : tokNx s c p i l with
    | none => rw [e] at h; exact h
    | some x =>
      rw [e] at h
      exact tokSt.mono k _ _ _ _ _ r h
def impl_Tokens.J (w0 : World) (s : ByteArray) (r : List Tok) (c n : Nat) (a : Act) (W : World) : Prop :=
  ∃ (gt go ga gi : Nat) (p i : Int) (l : List Tok), impl_Tokens.Fr gt go ga gi a ∧ tokSt n s c p i l = some r ∧ TokS w0 W s gt go ga gi l p i
theorem impl_Tokens.goes {w0 : World} {s : ByteArray} {r : List Tok} {gt go ga gi c n : Nat} {p i : Int} {l : List Tok} {c' : Nat} {p' i' : Int} {l' : List Tok} {a : Act} {W : World} (h : tokSt n s c p i l = some r) (e : tokNx s c p i l = some (c', p', i', l')) (ha : impl_Tokens.Fr gt go ga gi a) (hT : TokS w0 W s gt go ga gi l' p' i') :
    ∃ n', n' < n ∧ impl_Tokens.J w0 s r c' n' a W := by
  obtain ⟨k', rfl, h'⟩ := tokSt_next h e
  exact ⟨k', Nat.lt_succ_self _, gt, go, ga, gi, p', i', l', ha, h', hT⟩
theorem wrap_s (i : Int) (h0 : 0 ≤ i) (h1 : i ≤ 5000) : wrap64 i = i := by unfold wrap64; omega
def impl_Tokens.f (k : Nat) (a0 : ByteArray) : Option (List Tok) := if (a0.size : Int) > 1000 then some [] else tokSt k a0 0 0 0 []
set_option maxHeartbeats 40000000 in
set_option maxRecDepth 100000 in
theorem impl_Tokens.calls (k : Nat) (a0 : ByteArray) (r : List Tok) (w : World) (hG : GRes w) (h : impl_Tokens.f k a0 = some r) :
    Calls Tryd.prog 18 #[.string a0] w fun e w' => ∃ v0_ : Value, e = .returned (v0_) ∧ Kd.R k75 75 w' w.heap.size (fun _ => True) v0_ r ∧ Below w.heap.size w w' := by
  have HG := Aside0.mk hG
  clear hG
  unfold impl_Tokens.f at h
  by_cases c : (a0.size : Int) > 1000
  · rw [if_pos c] at h
    obtain rfl := Option.some.inj h
    have cb : decide (1000 < (a0.size : Int)) = true := decide_eq_true c
    have cb1 : decide (1000 < a0.size) = true := decide_eq_true (by omega)
    clear c h
    go_enter Tryd.func18, Tryd.ntmps18
    go_wp2
    go_step3
    go_wp2
    rw [Exit.noGoto_ret]
    go_ret
    exact ⟨_, rfl, Kd.R_nil _ _ _ _ _, by repeat (first | exact Below.refl _ _ | apply below_alloc | apply below_drew1)⟩
  · rw [if_neg c] at h
    have cb : decide (1000 < (a0.size : Int)) = false := decide_eq_false c
    have cb1 : decide (1000 < a0.size) = false := decide_eq_false (by omega)
    have H := Aside0.mk h
    clear c h
    go_enter Tryd.func18, Tryd.ntmps18
    go_wp2
    refine wp_scope4 (impl_Tokens.J w a0 r) rfl rfl rfl rfl ?_ ?p0 ?p1 ?p2 ?p3 ?first
    · rintro l n a W ⟨_, _, _, _, p, i, l', _, hs, _⟩
      exact (tokSt_ok hs).1
    case first =>
      intro hp0
      go_wp2
      go_step3
      simp only [Exit.then]
      rename_i hK
      exact hK _ _ (hp0 k _ _ ⟨_, _, _, _, 0, 0, [], by constructor, H.out, TokS.init w a0⟩)
    clear H cb cb1
    case p1 =>
      rintro n a W ⟨gt, go, ga, gi, p, i, l, hF, hs, hT⟩
      have g := tokSt_ok hs
      have hct : W.cell? ⟨gt, 0, none⟩ = some (.string a0) := (blk_cell hT.ht 0).trans rfl
      have hcp : W.cell? ⟨ga, 0, none⟩ = some (.int .i64 p) := (blk_cell hT.hp 0).trans rfl
      have hci : W.cell? ⟨gi, 0, none⟩ = some (.int .i64 i) := (blk_cell hT.hi 0).trans rfl
      have hfp := blk_frozen hT.hp 0
      have hfi := blk_frozen hT.hi 0
      have n1 : gt ≠ ga := blk_ne hT.ht hT.hp (by decide)
      have n2 : gt ≠ gi := blk_ne hT.ht hT.hi (by decide)
      have n3 : ga ≠ gi := hT.ne
      have n4 := Ne.symm n1
      have n5 := Ne.symm n2
      have n6 := Ne.symm n3
      have HS := Aside0.mk hs
      have HT := Aside0.mk hT
      obtain ⟨_, gp0, gpi, gis, g3, gsz, gl⟩ := g
      have GP := Aside0.mk (show 0 ≤ p ∧ p ≤ i ∧ i ≤ (a0.size : Int) ∧ a0.size ≤ 1000 ∧ l.length ≤ 2000 from ⟨gp0, gpi, gis, gsz, gl⟩)
      have G3 := Aside0.mk g3
      clear hs hT gp0 gpi gis g3 gsz gl
      have gp0 := eq_true GP.out.1
      have gpi := eq_true GP.out.2.1
      have gis := eq_true GP.out.2.2.1
      have gi0 : (0 ≤ i) = True := eq_true (by have := GP.out; omega)
      have hw1 : wrap64 (i + 1) = i + 1 := wrap_s _ (by have := GP.out; omega) (by have := GP.out; omega)
      have hw2 : wrap64 (i + 2) = i + 2 := wrap_s _ (by have := GP.out; omega) (by have := GP.out; omega)
      have hwp : wrap64 (i - p) = i - p := wrap_s _ (by have := GP.out; omega) (by have := GP.out; omega)
      have HW1 := Aside0.mk hw1
      have HW2 := Aside0.mk hw2
      clear hw1 hw2
      cases hF
      by_cases c1 : i = (a0.size : Int)
      · have e : tokNx a0 1 p i l = some (0, p, i, l) := by unfold tokNx; simp [c1]
        have E := Aside0.mk e
        have cE : (i == (a0.size : Int)) = true := beq_iff_eq.2 c1
        clear e c1
        go_wp2
        go_step3
        exact impl_Tokens.goes HS.out E.out (by constructor) HT.out
      · have cE : (i == (a0.size : Int)) = false := beq_eq_false_iff_ne.2 c1
        have q4 := eq_true (show i < (a0.size : Int) by have := GP.out; omega)
        have hx4 := bt_at a0 i
        by_cases c2 : bt a0 i = 10
        · have e : tokNx a0 1 p i l = some (0, p, i, l) := by unfold tokNx; simp [c2]
          have E := Aside0.mk e
          have cE2 : (bt a0 i == 10) = true := beq_iff_eq.2 c2
          clear e c1 c2
          go_wp2
          go_step3
          exact impl_Tokens.goes HS.out E.out (by constructor) HT.out
        · have e : tokNx a0 1 p i l = some (1, p, i + 1, l) := by unfold tokNx; simp [c1, c2]
          have E := Aside0.mk e
          have cE2 : (bt a0 i == 10) = false := beq_eq_false_iff_ne.2 c2
          clear e c1 c2
          go_wp2
          go_step3
          rw [HW1.out]
          exact impl_Tokens.goes HS.out E.out (by constructor) (HT.out.setI _)
    case p2 =>
      rintro n a W ⟨gt, go, ga, gi, p, i, l, hF, hs, hT⟩
      have g := tokSt_ok hs
      have hct : W.cell? ⟨gt, 0, none⟩ = some (.string a0) := (blk_cell hT.ht 0).trans rfl
      have hcp : W.cell? ⟨ga, 0, none⟩ = some (.int .i64 p) := (blk_cell hT.hp 0).trans rfl
      have hci : W.cell? ⟨gi, 0, none⟩ = some (.int .i64 i) := (blk_cell hT.hi 0).trans rfl
      have hfp := blk_frozen hT.hp 0
      have hfi := blk_frozen hT.hi 0
      have n1 : gt ≠ ga := blk_ne hT.ht hT.hp (by decide)
      have n2 : gt ≠ gi := blk_ne hT.ht hT.hi (by decide)
      have n3 : ga ≠ gi := hT.ne
      have n4 := Ne.symm n1
      have n5 := Ne.symm n2
      have n6 := Ne.symm n3
      have HS := Aside0.mk hs
      have HT := Aside0.mk hT
      obtain ⟨_, gp0, gpi, gis, g3, gsz, gl⟩ := g
      have GP := Aside0.mk (show 0 ≤ p ∧ p ≤ i ∧ i ≤ (a0.size : Int) ∧ a0.size ≤ 1000 ∧ l.length ≤ 2000 from ⟨gp0, gpi, gis, gsz, gl⟩)
      have G3 := Aside0.mk g3
      clear hs hT gp0 gpi gis g3 gsz gl
      have gp0 := eq_true GP.out.1
      have gpi := eq_true GP.out.2.1
      have gis := eq_true GP.out.2.2.1
      have gi0 : (0 ≤ i) = True := eq_true (by have := GP.out; omega)
      have hw1 : wrap64 (i + 1) = i + 1 := wrap_s _ (by have := GP.out; omega) (by have := GP.out; omega)
      have hw2 : wrap64 (i + 2) = i + 2 := wrap_s _ (by have := GP.out; omega) (by have := GP.out; omega)
      have hwp : wrap64 (i - p) = i - p := wrap_s _ (by have := GP.out; omega) (by have := GP.out; omega)
      have HW1 := Aside0.mk hw1
      have HW2 := Aside0.mk hw2
      clear hw1 hw2
      cases hF
      by_cases c1 : i < (a0.size : Int)
      · have cE : decide (i < (a0.size : Int)) = true := decide_eq_true c1
        have q4 := eq_true c1
        have hx4 := bt_at a0 i
        cases hwb : wb (bt a0 i)
        case true =>
          have e : tokNx a0 2 p i l = some (2, p, i + 1, l) := by unfold tokNx; simp [c1, hwb]
          have E := Aside0.mk e
          have HWB := Aside0.mk hwb
          clear e hwb c1
          go_wp2_with (go_at_call 42; (refine (impl_wordByte.calls _ _ _ ((wordByte_wb _).trans (congrArg some HWB.out))).mono ?_); rintro e w' ⟨rfl, ⟨nd, rfl⟩⟩)
          go_step3
          rw [HW1.out]
          exact impl_Tokens.goes HS.out E.out (by constructor) (by first | exact (HT.out.setI _).drewN _ | exact (HT.out.drewN _).setI _)
        case false =>
          have CW := Aside0.mk (show ¬ (i < (a0.size : Int) ∧ wb (bt a0 i) = true) by rw [hwb]; simp)
          have HWB := Aside0.mk hwb
          clear hwb c1
          go_wp2_with (go_at_call 42; (refine (impl_wordByte.calls _ _ _ ((wordByte_wb _).trans (congrArg some HWB.out))).mono ?_); rintro e W6 ⟨rfl, hd6⟩; have HT6 := Aside0.mk (show TokS w W6 a0 gt go ga gi l p i by obtain ⟨nd, rfl⟩ := hd6; exact HT.out.drewN nd); clear hd6)
          clear hct hcp hci hfp hfi
          cases hr : resB (a0.extract p.toNat i.toNat).data.toList
          case true =>
            have e : tokNx a0 2 p i l = some (0, p, i, l ++ [⟨2, a0.extract p.toNat i.toNat, p⟩]) := by unfold tokNx; rw [if_neg (by decide), if_neg (by decide), if_pos rfl, if_neg CW.out, hr]; rfl
            have E := Aside0.mk e
            have HR := Aside0.mk hr
            clear e hr
            have hGW := GRes.below HG.out (HT6.out).bel
            obtain ⟨bR, hcell, hown⟩ := hGW.drew.out
            have hlk := res_lookup hown (a0.extract p.toNat i.toNat) (by unfold maxLen; rw [ByteArray.size_extract]; have := GP.out; omega)
            rw [HR.out] at hlk
            simp only [if_true, if_false, Bool.false_eq_true] at hlk
            clear hGW hown
            refine start_ (n := 8) (S := fun w' => w'.cell? ⟨0, 0, none⟩ = some (.map (some bR)) ∧ w'.cell? ⟨gt, 0, none⟩ = some (.string a0) ∧ w'.cell? ⟨ga, 0, none⟩ = some (.int .i64 p) ∧ w'.cell? ⟨gi, 0, none⟩ = some (.int .i64 i) ∧ (Instr.lookup 61 (.map (some bR)) (.string (a0.extract p.toNat i.toNat)) false).run Tryd.prog w' = .ok (.int .i64 1) w') (ds := []) #[false, false, false, false, false, false, false, false] (by kernel_rfl) rfl rfl ⟨hcell, (blk_cell (HT6.out).ht 0).trans rfl, (blk_cell (HT6.out).hp 0).trans rfl, (blk_cell (HT6.out).hi 0).trans rfl, hlk⟩ (fun hHeld => ?_)
            refine take_ (i := 0) (N := some 96) (v := ?_) (a' := ?_) #[true, false, false, false, false, false, false, false] rfl rfl (by kernel_rfl) (fun _ _ _ h => h) (Or.inl ⟨by rfl, ?_⟩) hHeld ?_ ?_
            rotate_left
            · rintro w' ⟨s0, s1, s2, s3, s4⟩
              go_simp
              with_reducible rfl
            rotate_left
            · simp only [Act.put, List.setIfInBounds_toArray, List.set_cons_zero, List.set_cons_succ, i64_w, i32_w]
              rfl
            refine take_ (i := 1) (N := some 97) (v := ?_) (a' := ?_) #[true, true, false, false, false, false, false, false] rfl rfl (by kernel_rfl) (fun _ _ _ h => h) (Or.inl ⟨by rfl, ?_⟩) hHeld ?_ ?_
            rotate_left
            · rintro w' ⟨s0, s1, s2, s3, s4⟩
              go_simp
              with_reducible rfl
            rotate_left
            · simp only [Act.put, List.setIfInBounds_toArray, List.set_cons_zero, List.set_cons_succ, i64_w, i32_w]
              rfl
            refine take_ (i := 2) (N := some 98) (v := ?_) (a' := ?_) #[true, true, true, false, false, false, false, false] rfl rfl (by kernel_rfl) (fun _ _ _ h => h) (Or.inl ⟨by rfl, ?_⟩) hHeld ?_ ?_
            rotate_left
            · rintro w' ⟨s0, s1, s2, s3, s4⟩
              go_simp
              with_reducible rfl
            rotate_left
            · simp only [Act.put, List.setIfInBounds_toArray, List.set_cons_zero, List.set_cons_succ, i64_w, i32_w]
              rfl
            refine take_ (i := 3) (N := some 99) (v := ?_) (a' := ?_) #[true, true, true, true, false, false, false, false] rfl rfl (by kernel_rfl) (fun _ _ _ h => h) (Or.inl ⟨by rfl, ?_⟩) hHeld ?_ ?_
            rotate_left
            · rintro w' ⟨s0, s1, s2, s3, s4⟩
              go_simp
              with_reducible rfl
            rotate_left
            · simp only [Act.put, List.setIfInBounds_toArray, List.set_cons_zero, List.set_cons_succ, i64_w, i32_w]
              rfl
            refine pure_ (i := 4) (N := some 100) (v := ?_) (a' := ?_) #[true, true, true, true, true, false, false, false] rfl rfl (by kernel_rfl) (fun _ _ _ h => h) (Or.inl ⟨by rfl, ?_⟩) ?_ ?_
            rotate_left
            · intro w'
              go_simp
              with_reducible rfl
            rotate_left
            · simp only [Act.put, List.setIfInBounds_toArray, List.set_cons_zero, List.set_cons_succ, i64_w, i32_w]
              rfl
            refine take_ (i := 5) (N := some 101) (v := ?_) (a' := ?_) #[true, true, true, true, true, true, false, false] rfl rfl (by kernel_rfl) (fun _ _ _ h => h) (Or.inl ⟨by rfl, ?_⟩) hHeld ?_ ?_
            rotate_left
            · rintro w' ⟨s0, s1, s2, s3, s4⟩
              go_simp
              with_reducible rfl
            rotate_left
            · simp only [Act.put, List.setIfInBounds_toArray, List.set_cons_zero, List.set_cons_succ, i64_w, i32_w]
              rfl
            refine pure_ (i := 6) (N := some 102) (v := ?_) (a' := ?_) #[true, true, true, true, true, true, true, false] rfl rfl (by kernel_rfl) (fun _ _ _ h => h) (Or.inl ⟨by rfl, ?_⟩) ?_ ?_
            rotate_left
            · intro w'
              go_simp
              with_reducible rfl
            rotate_left
            · simp only [Act.put, List.setIfInBounds_toArray, List.set_cons_zero, List.set_cons_succ, i64_w, i32_w]
              rfl
            refine pure_ (i := 7) (N := some 95) (v := ?_) (a' := ?_) #[true, true, true, true, true, true, true, true] rfl rfl (by kernel_rfl) (fun _ _ _ h => h) (Or.inl ⟨by rfl, ?_⟩) ?_ ?_
            rotate_left
            · intro w'
              go_simp
              with_reducible rfl
            rotate_left
            · simp only [Act.put, List.setIfInBounds_toArray, List.set_cons_zero, List.set_cons_succ, i64_w, i32_w]
              rfl
            refine done_ (by kernel_rfl) ?_
            clear hHeld hlk hcell
            go_wp2_with (go_at_call 39; refine (impl_Tokens.emit w _ a0 gt go ga gi l p i 2 (by exact (HT6.out).drew) (by have := GP.out; omega) (by have := GP.out; omega) (by have := GP.out; omega) (by have := GP.out; omega)).mono ?_; rintro e w' ⟨rfl, hT9⟩; have HT9 := Aside0.mk hT9; clear hT9)
            go_step3
            exact impl_Tokens.goes HS.out E.out (by constructor) HT9.out
          case false =>
            have HR := Aside0.mk hr
            cases hg : gnB (a0.extract p.toNat i.toNat)
            case true =>
              have e : tokNx a0 2 p i l = some (0, p, i, l ++ [⟨1, a0.extract p.toNat i.toNat, p⟩]) := by unfold tokNx; rw [if_neg (by decide), if_neg (by decide), if_pos rfl, if_neg CW.out, hr, hg]; rfl
              have E := Aside0.mk e
              have HGB := Aside0.mk hg
              have HG2 := Aside0.mk (GRes.below HG.out (HT6.out).bel).drew
              have hct8 : (W6).drew.cell? ⟨gt, 0, none⟩ = some (.string a0) := (blk_cell (HT6.out).drew.ht 0).trans rfl
              have hcp8 : (W6).drew.cell? ⟨ga, 0, none⟩ = some (.int .i64 p) := (blk_cell (HT6.out).drew.hp 0).trans rfl
              have hci8 : (W6).drew.cell? ⟨gi, 0, none⟩ = some (.int .i64 i) := (blk_cell (HT6.out).drew.hi 0).trans rfl
              clear e hr hg
              have hGW := GRes.below HG.out (HT6.out).bel
              obtain ⟨bR, hcell, hown⟩ := hGW.drew.out
              have hlk := res_lookup hown (a0.extract p.toNat i.toNat) (by unfold maxLen; rw [ByteArray.size_extract]; have := GP.out; omega)
              rw [HR.out] at hlk
              simp only [if_true, if_false, Bool.false_eq_true] at hlk
              clear hGW hown
              refine start_ (n := 8) (S := fun w' => w'.cell? ⟨0, 0, none⟩ = some (.map (some bR)) ∧ w'.cell? ⟨gt, 0, none⟩ = some (.string a0) ∧ w'.cell? ⟨ga, 0, none⟩ = some (.int .i64 p) ∧ w'.cell? ⟨gi, 0, none⟩ = some (.int .i64 i) ∧ (Instr.lookup 61 (.map (some bR)) (.string (a0.extract p.toNat i.toNat)) false).run Tryd.prog w' = .ok (.int .i64 0) w') (ds := []) #[false, false, false, false, false, false, false, false] (by kernel_rfl) rfl rfl ⟨hcell, (blk_cell (HT6.out).ht 0).trans rfl, (blk_cell (HT6.out).hp 0).trans rfl, (blk_cell (HT6.out).hi 0).trans rfl, hlk⟩ (fun hHeld => ?_)
              refine take_ (i := 0) (N := some 96) (v := ?_) (a' := ?_) #[true, false, false, false, false, false, false, false] rfl rfl (by kernel_rfl) (fun _ _ _ h => h) (Or.inl ⟨by rfl, ?_⟩) hHeld ?_ ?_
              rotate_left
              · rintro w' ⟨s0, s1, s2, s3, s4⟩
                go_simp
                with_reducible rfl
              rotate_left
              · simp only [Act.put, List.setIfInBounds_toArray, List.set_cons_zero, List.set_cons_succ, i64_w, i32_w]
                rfl
              refine take_ (i := 1) (N := some 97) (v := ?_) (a' := ?_) #[true, true, false, false, false, false, false, false] rfl rfl (by kernel_rfl) (fun _ _ _ h => h) (Or.inl ⟨by rfl, ?_⟩) hHeld ?_ ?_
              rotate_left
              · rintro w' ⟨s0, s1, s2, s3, s4⟩
                go_simp
                with_reducible rfl
              rotate_left
              · simp only [Act.put, List.setIfInBounds_toArray, List.set_cons_zero, List.set_cons_succ, i64_w, i32_w]
                rfl
              refine take_ (i := 2) (N := some 98) (v := ?_) (a' := ?_) #[true, true, true, false, false, false, false, false] rfl rfl (by kernel_rfl) (fun _ _ _ h => h) (Or.inl ⟨by rfl, ?_⟩) hHeld ?_ ?_
              rotate_left
              · rintro w' ⟨s0, s1, s2, s3, s4⟩
                go_simp
                with_reducible rfl
              rotate_left
              · simp only [Act.put, List.setIfInBounds_toArray, List.set_cons_zero, List.set_cons_succ, i64_w, i32_w]
                rfl
              refine take_ (i := 3) (N := some 99) (v := ?_) (a' := ?_) #[true, true, true, true, false, false, false, false] rfl rfl (by kernel_rfl) (fun _ _ _ h => h) (Or.inl ⟨by rfl, ?_⟩) hHeld ?_ ?_
              rotate_left
              · rintro w' ⟨s0, s1, s2, s3, s4⟩
                go_simp
                with_reducible rfl
              rotate_left
              · simp only [Act.put, List.setIfInBounds_toArray, List.set_cons_zero, List.set_cons_succ, i64_w, i32_w]
                rfl
              refine pure_ (i := 4) (N := some 100) (v := ?_) (a' := ?_) #[true, true, true, true, true, false, false, false] rfl rfl (by kernel_rfl) (fun _ _ _ h => h) (Or.inl ⟨by rfl, ?_⟩) ?_ ?_
              rotate_left
              · intro w'
                go_simp
                with_reducible rfl
              rotate_left
              · simp only [Act.put, List.setIfInBounds_toArray, List.set_cons_zero, List.set_cons_succ, i64_w, i32_w]
                rfl
              refine take_ (i := 5) (N := some 101) (v := ?_) (a' := ?_) #[true, true, true, true, true, true, false, false] rfl rfl (by kernel_rfl) (fun _ _ _ h => h) (Or.inl ⟨by rfl, ?_⟩) hHeld ?_ ?_
              rotate_left
              · rintro w' ⟨s0, s1, s2, s3, s4⟩
                go_simp
                with_reducible rfl
              rotate_left
              · simp only [Act.put, List.setIfInBounds_toArray, List.set_cons_zero, List.set_cons_succ, i64_w, i32_w]
                rfl
              refine pure_ (i := 6) (N := some 102) (v := ?_) (a' := ?_) #[true, true, true, true, true, true, true, false] rfl rfl (by kernel_rfl) (fun _ _ _ h => h) (Or.inl ⟨by rfl, ?_⟩) ?_ ?_
              rotate_left
              · intro w'
                go_simp
                with_reducible rfl
              rotate_left
              · simp only [Act.put, List.setIfInBounds_toArray, List.set_cons_zero, List.set_cons_succ, i64_w, i32_w]
                rfl
              refine pure_ (i := 7) (N := some 95) (v := ?_) (a' := ?_) #[true, true, true, true, true, true, true, true] rfl rfl (by kernel_rfl) (fun _ _ _ h => h) (Or.inl ⟨by rfl, ?_⟩) ?_ ?_
              rotate_left
              · intro w'
                go_simp
                with_reducible rfl
              rotate_left
              · simp only [Act.put, List.setIfInBounds_toArray, List.set_cons_zero, List.set_cons_succ, i64_w, i32_w]
                rfl
              refine done_ (by kernel_rfl) ?_
              clear hHeld hlk hcell
              go_wp2_with (first | (go_at_call 30; refine (impl_goodName.calls _ _ _ HG2.out rfl).mono ?_; rintro e W7 ⟨rfl, hd7⟩; rw [HGB.out]; have HT7 := Aside0.mk (show TokS w W7 a0 gt go ga gi l p i by obtain ⟨nd, rfl⟩ := hd7; exact (HT6.out).drew.drewN nd); clear hd7) | (go_at_call 39; refine (impl_Tokens.emit w _ a0 gt go ga gi l p i 1 (by exact HT7.out) (by have := GP.out; omega) (by have := GP.out; omega) (by have := GP.out; omega) (by have := GP.out; omega)).mono ?_; rintro e w' ⟨rfl, hT9⟩; have HT9 := Aside0.mk hT9; clear hT9))
              go_step3
              exact impl_Tokens.goes HS.out E.out (by constructor) HT9.out
            case false =>
              have e : tokNx a0 2 p i l = some (0, p, i, l ++ [⟨0, a0.extract p.toNat i.toNat, p⟩]) := by unfold tokNx; rw [if_neg (by decide), if_neg (by decide), if_pos rfl, if_neg CW.out, hr, hg]; rfl
              have E := Aside0.mk e
              have HGB := Aside0.mk hg
              have HG2 := Aside0.mk (GRes.below HG.out (HT6.out).bel).drew
              have hct8 : (W6).drew.cell? ⟨gt, 0, none⟩ = some (.string a0) := (blk_cell (HT6.out).drew.ht 0).trans rfl
              have hcp8 : (W6).drew.cell? ⟨ga, 0, none⟩ = some (.int .i64 p) := (blk_cell (HT6.out).drew.hp 0).trans rfl
              have hci8 : (W6).drew.cell? ⟨gi, 0, none⟩ = some (.int .i64 i) := (blk_cell (HT6.out).drew.hi 0).trans rfl
              clear e hr hg
              have hGW := GRes.below HG.out (HT6.out).bel
              obtain ⟨bR, hcell, hown⟩ := hGW.drew.out
              have hlk := res_lookup hown (a0.extract p.toNat i.toNat) (by unfold maxLen; rw [ByteArray.size_extract]; have := GP.out; omega)
              rw [HR.out] at hlk
              simp only [if_true, if_false, Bool.false_eq_true] at hlk
              clear hGW hown
              refine start_ (n := 8) (S := fun w' => w'.cell? ⟨0, 0, none⟩ = some (.map (some bR)) ∧ w'.cell? ⟨gt, 0, none⟩ = some (.string a0) ∧ w'.cell? ⟨ga, 0, none⟩ = some (.int .i64 p) ∧ w'.cell? ⟨gi, 0, none⟩ = some (.int .i64 i) ∧ (Instr.lookup 61 (.map (some bR)) (.string (a0.extract p.toNat i.toNat)) false).run Tryd.prog w' = .ok (.int .i64 0) w') (ds := []) #[false, false, false, false, false, false, false, false] (by kernel_rfl) rfl rfl ⟨hcell, (blk_cell (HT6.out).ht 0).trans rfl, (blk_cell (HT6.out).hp 0).trans rfl, (blk_cell (HT6.out).hi 0).trans rfl, hlk⟩ (fun hHeld => ?_)
              refine take_ (i := 0) (N := some 96) (v := ?_) (a' := ?_) #[true, false, false, false, false, false, false, false] rfl rfl (by kernel_rfl) (fun _ _ _ h => h) (Or.inl ⟨by rfl, ?_⟩) hHeld ?_ ?_
              rotate_left
              · rintro w' ⟨s0, s1, s2, s3, s4⟩
                go_simp
                with_reducible rfl
              rotate_left
              · simp only [Act.put, List.setIfInBounds_toArray, List.set_cons_zero, List.set_cons_succ, i64_w, i32_w]
                rfl
              refine take_ (i := 1) (N := some 97) (v := ?_) (a' := ?_) #[true, true, false, false, false, false, false, false] rfl rfl (by kernel_rfl) (fun _ _ _ h => h) (Or.inl ⟨by rfl, ?_⟩) hHeld ?_ ?_
              rotate_left
              · rintro w' ⟨s0, s1, s2, s3, s4⟩
                go_simp
                with_reducible rfl
              rotate_left
              · simp only [Act.put, List.setIfInBounds_toArray, List.set_cons_zero, List.set_cons_succ, i64_w, i32_w]
                rfl
              refine take_ (i := 2) (N := some 98) (v := ?_) (a' := ?_) #[true, true, true, false, false, false, false, false] rfl rfl (by kernel_rfl) (fun _ _ _ h => h) (Or.inl ⟨by rfl, ?_⟩) hHeld ?_ ?_
              rotate_left
              · rintro w' ⟨s0, s1, s2, s3, s4⟩
                go_simp
                with_reducible rfl
              rotate_left
              · simp only [Act.put, List.setIfInBounds_toArray, List.set_cons_zero, List.set_cons_succ, i64_w, i32_w]
                rfl
              refine take_ (i := 3) (N := some 99) (v := ?_) (a' := ?_) #[true, true, true, true, false, false, false, false] rfl rfl (by kernel_rfl) (fun _ _ _ h => h) (Or.inl ⟨by rfl, ?_⟩) hHeld ?_ ?_
              rotate_left
              · rintro w' ⟨s0, s1, s2, s3, s4⟩
                go_simp
                with_reducible rfl
              rotate_left
              · simp only [Act.put, List.setIfInBounds_toArray, List.set_cons_zero, List.set_cons_succ, i64_w, i32_w]
                rfl
              refine pure_ (i := 4) (N := some 100) (v := ?_) (a' := ?_) #[true, true, true, true, true, false, false, false] rfl rfl (by kernel_rfl) (fun _ _ _ h => h) (Or.inl ⟨by rfl, ?_⟩) ?_ ?_
              rotate_left
              · intro w'
                go_simp
                with_reducible rfl
              rotate_left
              · simp only [Act.put, List.setIfInBounds_toArray, List.set_cons_zero, List.set_cons_succ, i64_w, i32_w]
                rfl
              refine take_ (i := 5) (N := some 101) (v := ?_) (a' := ?_) #[true, true, true, true, true, true, false, false] rfl rfl (by kernel_rfl) (fun _ _ _ h => h) (Or.inl ⟨by rfl, ?_⟩) hHeld ?_ ?_
              rotate_left
              · rintro w' ⟨s0, s1, s2, s3, s4⟩
                go_simp
                with_reducible rfl
              rotate_left
              · simp only [Act.put, List.setIfInBounds_toArray, List.set_cons_zero, List.set_cons_succ, i64_w, i32_w]
                rfl
              refine pure_ (i := 6) (N := some 102) (v := ?_) (a' := ?_) #[true, true, true, true, true, true, true, false] rfl rfl (by kernel_rfl) (fun _ _ _ h => h) (Or.inl ⟨by rfl, ?_⟩) ?_ ?_
              rotate_left
              · intro w'
                go_simp
                with_reducible rfl
              rotate_left
              · simp only [Act.put, List.setIfInBounds_toArray, List.set_cons_zero, List.set_cons_succ, i64_w, i32_w]
                rfl
              refine pure_ (i := 7) (N := some 95) (v := ?_) (a' := ?_) #[true, true, true, true, true, true, true, true] rfl rfl (by kernel_rfl) (fun _ _ _ h => h) (Or.inl ⟨by rfl, ?_⟩) ?_ ?_
              rotate_left
              · intro w'
                go_simp
                with_reducible rfl
              rotate_left
              · simp only [Act.put, List.setIfInBounds_toArray, List.set_cons_zero, List.set_cons_succ, i64_w, i32_w]
                rfl
              refine done_ (by kernel_rfl) ?_
              clear hHeld hlk hcell
              go_wp2_with (first | (go_at_call 30; refine (impl_goodName.calls _ _ _ HG2.out rfl).mono ?_; rintro e W7 ⟨rfl, hd7⟩; rw [HGB.out]; have HT7 := Aside0.mk (show TokS w W7 a0 gt go ga gi l p i by obtain ⟨nd, rfl⟩ := hd7; exact (HT6.out).drew.drewN nd); clear hd7) | (go_at_call 39; refine (impl_Tokens.emit w _ a0 gt go ga gi l p i 0 (by exact HT7.out) (by have := GP.out; omega) (by have := GP.out; omega) (by have := GP.out; omega) (by have := GP.out; omega)).mono ?_; rintro e w' ⟨rfl, hT9⟩; have HT9 := Aside0.mk hT9; clear hT9))
              go_step3
              exact impl_Tokens.goes HS.out E.out (by constructor) HT9.out
      · have cE : decide (i < (a0.size : Int)) = false := decide_eq_false c1
        have CW := Aside0.mk (show ¬ (i < (a0.size : Int) ∧ wb (bt a0 i) = true) from fun h => c1 h.1)
        clear c1
        go_wp2
        cases hr : resB (a0.extract p.toNat i.toNat).data.toList
        case true =>
          have e : tokNx a0 2 p i l = some (0, p, i, l ++ [⟨2, a0.extract p.toNat i.toNat, p⟩]) := by unfold tokNx; rw [if_neg (by decide), if_neg (by decide), if_pos rfl, if_neg CW.out, hr]; rfl
          have E := Aside0.mk e
          have HR := Aside0.mk hr
          clear e hr
          have hGW := GRes.below HG.out (HT.out).bel
          obtain ⟨bR, hcell, hown⟩ := hGW.drew.out
          have hlk := res_lookup hown (a0.extract p.toNat i.toNat) (by unfold maxLen; rw [ByteArray.size_extract]; have := GP.out; omega)
          rw [HR.out] at hlk
          simp only [if_true, if_false, Bool.false_eq_true] at hlk
          clear hGW hown
          refine start_ (n := 8) (S := fun w' => w'.cell? ⟨0, 0, none⟩ = some (.map (some bR)) ∧ w'.cell? ⟨gt, 0, none⟩ = some (.string a0) ∧ w'.cell? ⟨ga, 0, none⟩ = some (.int .i64 p) ∧ w'.cell? ⟨gi, 0, none⟩ = some (.int .i64 i) ∧ (Instr.lookup 61 (.map (some bR)) (.string (a0.extract p.toNat i.toNat)) false).run Tryd.prog w' = .ok (.int .i64 1) w') (ds := []) #[false, false, false, false, false, false, false, false] (by kernel_rfl) rfl rfl ⟨hcell, (blk_cell (HT.out).ht 0).trans rfl, (blk_cell (HT.out).hp 0).trans rfl, (blk_cell (HT.out).hi 0).trans rfl, hlk⟩ (fun hHeld => ?_)
          refine take_ (i := 0) (N := some 96) (v := ?_) (a' := ?_) #[true, false, false, false, false, false, false, false] rfl rfl (by kernel_rfl) (fun _ _ _ h => h) (Or.inl ⟨by rfl, ?_⟩) hHeld ?_ ?_
          rotate_left
          · rintro w' ⟨s0, s1, s2, s3, s4⟩
            go_simp
            with_reducible rfl
          rotate_left
          · simp only [Act.put, List.setIfInBounds_toArray, List.set_cons_zero, List.set_cons_succ, i64_w, i32_w]
            rfl
          refine take_ (i := 1) (N := some 97) (v := ?_) (a' := ?_) #[true, true, false, false, false, false, false, false] rfl rfl (by kernel_rfl) (fun _ _ _ h => h) (Or.inl ⟨by rfl, ?_⟩) hHeld ?_ ?_
          rotate_left
          · rintro w' ⟨s0, s1, s2, s3, s4⟩
            go_simp
            with_reducible rfl
          rotate_left
          · simp only [Act.put, List.setIfInBounds_toArray, List.set_cons_zero, List.set_cons_succ, i64_w, i32_w]
            rfl
          refine take_ (i := 2) (N := some 98) (v := ?_) (a' := ?_) #[true, true, true, false, false, false, false, false] rfl rfl (by kernel_rfl) (fun _ _ _ h => h) (Or.inl ⟨by rfl, ?_⟩) hHeld ?_ ?_
          rotate_left
          · rintro w' ⟨s0, s1, s2, s3, s4⟩
            go_simp
            with_reducible rfl
          rotate_left
          · simp only [Act.put, List.setIfInBounds_toArray, List.set_cons_zero, List.set_cons_succ, i64_w, i32_w]
            rfl
          refine take_ (i := 3) (N := some 99) (v := ?_) (a' := ?_) #[true, true, true, true, false, false, false, false] rfl rfl (by kernel_rfl) (fun _ _ _ h => h) (Or.inl ⟨by rfl, ?_⟩) hHeld ?_ ?_
          rotate_left
          · rintro w' ⟨s0, s1, s2, s3, s4⟩
            go_simp
            with_reducible rfl
          rotate_left
          · simp only [Act.put, List.setIfInBounds_toArray, List.set_cons_zero, List.set_cons_succ, i64_w, i32_w]
            rfl
          refine pure_ (i := 4) (N := some 100) (v := ?_) (a' := ?_) #[true, true, true, true, true, false, false, false] rfl rfl (by kernel_rfl) (fun _ _ _ h => h) (Or.inl ⟨by rfl, ?_⟩) ?_ ?_
          rotate_left
          · intro w'
            go_simp
            with_reducible rfl
          rotate_left
          · simp only [Act.put, List.setIfInBounds_toArray, List.set_cons_zero, List.set_cons_succ, i64_w, i32_w]
            rfl
          refine take_ (i := 5) (N := some 101) (v := ?_) (a' := ?_) #[true, true, true, true, true, true, false, false] rfl rfl (by kernel_rfl) (fun _ _ _ h => h) (Or.inl ⟨by rfl, ?_⟩) hHeld ?_ ?_
          rotate_left
          · rintro w' ⟨s0, s1, s2, s3, s4⟩
            go_simp
            with_reducible rfl
          rotate_left
          · simp only [Act.put, List.setIfInBounds_toArray, List.set_cons_zero, List.set_cons_succ, i64_w, i32_w]
            rfl
          refine pure_ (i := 6) (N := some 102) (v := ?_) (a' := ?_) #[true, true, true, true, true, true, true, false] rfl rfl (by kernel_rfl) (fun _ _ _ h => h) (Or.inl ⟨by rfl, ?_⟩) ?_ ?_
          rotate_left
          · intro w'
            go_simp
            with_reducible rfl
          rotate_left
          · simp only [Act.put, List.setIfInBounds_toArray, List.set_cons_zero, List.set_cons_succ, i64_w, i32_w]
            rfl
          refine pure_ (i := 7) (N := some 95) (v := ?_) (a' := ?_) #[true, true, true, true, true, true, true, true] rfl rfl (by kernel_rfl) (fun _ _ _ h => h) (Or.inl ⟨by rfl, ?_⟩) ?_ ?_
          rotate_left
          · intro w'
            go_simp
            with_reducible rfl
          rotate_left
          · simp only [Act.put, List.setIfInBounds_toArray, List.set_cons_zero, List.set_cons_succ, i64_w, i32_w]
            rfl
          refine done_ (by kernel_rfl) ?_
          clear hHeld hlk hcell
          go_wp2_with (go_at_call 39; refine (impl_Tokens.emit w _ a0 gt go ga gi l p i 2 (by exact (HT.out).drew) (by have := GP.out; omega) (by have := GP.out; omega) (by have := GP.out; omega) (by have := GP.out; omega)).mono ?_; rintro e w' ⟨rfl, hT9⟩; have HT9 := Aside0.mk hT9; clear hT9)
          go_step3
          exact impl_Tokens.goes HS.out E.out (by constructor) HT9.out
        case false =>
          have HR := Aside0.mk hr
          cases hg : gnB (a0.extract p.toNat i.toNat)
          case true =>
            have e : tokNx a0 2 p i l = some (0, p, i, l ++ [⟨1, a0.extract p.toNat i.toNat, p⟩]) := by unfold tokNx; rw [if_neg (by decide), if_neg (by decide), if_pos rfl, if_neg CW.out, hr, hg]; rfl
            have E := Aside0.mk e
            have HGB := Aside0.mk hg
            have HG2 := Aside0.mk (GRes.below HG.out (HT.out).bel).drew
            have hct8 : (W).drew.cell? ⟨gt, 0, none⟩ = some (.string a0) := (blk_cell (HT.out).drew.ht 0).trans rfl
            have hcp8 : (W).drew.cell? ⟨ga, 0, none⟩ = some (.int .i64 p) := (blk_cell (HT.out).drew.hp 0).trans rfl
            have hci8 : (W).drew.cell? ⟨gi, 0, none⟩ = some (.int .i64 i) := (blk_cell (HT.out).drew.hi 0).trans rfl
            clear e hr hg
            have hGW := GRes.below HG.out (HT.out).bel
            obtain ⟨bR, hcell, hown⟩ := hGW.drew.out
            have hlk := res_lookup hown (a0.extract p.toNat i.toNat) (by unfold maxLen; rw [ByteArray.size_extract]; have := GP.out; omega)
            rw [HR.out] at hlk
            simp only [if_true, if_false, Bool.false_eq_true] at hlk
            clear hGW hown
            refine start_ (n := 8) (S := fun w' => w'.cell? ⟨0, 0, none⟩ = some (.map (some bR)) ∧ w'.cell? ⟨gt, 0, none⟩ = some (.string a0) ∧ w'.cell? ⟨ga, 0, none⟩ = some (.int .i64 p) ∧ w'.cell? ⟨gi, 0, none⟩ = some (.int .i64 i) ∧ (Instr.lookup 61 (.map (some bR)) (.string (a0.extract p.toNat i.toNat)) false).run Tryd.prog w' = .ok (.int .i64 0) w') (ds := []) #[false, false, false, false, false, false, false, false] (by kernel_rfl) rfl rfl ⟨hcell, (blk_cell (HT.out).ht 0).trans rfl, (blk_cell (HT.out).hp 0).trans rfl, (blk_cell (HT.out).hi 0).trans rfl, hlk⟩ (fun hHeld => ?_)
            refine take_ (i := 0) (N := some 96) (v := ?_) (a' := ?_) #[true, false, false, false, false, false, false, false] rfl rfl (by kernel_rfl) (fun _ _ _ h => h) (Or.inl ⟨by rfl, ?_⟩) hHeld ?_ ?_
            rotate_left
            · rintro w' ⟨s0, s1, s2, s3, s4⟩
              go_simp
              with_reducible rfl
            rotate_left
            · simp only [Act.put, List.setIfInBounds_toArray, List.set_cons_zero, List.set_cons_succ, i64_w, i32_w]
              rfl
            refine take_ (i := 1) (N := some 97) (v := ?_) (a' := ?_) #[true, true, false, false, false, false, false, false] rfl rfl (by kernel_rfl) (fun _ _ _ h => h) (Or.inl ⟨by rfl, ?_⟩) hHeld ?_ ?_
            rotate_left
            · rintro w' ⟨s0, s1, s2, s3, s4⟩
              go_simp
              with_reducible rfl
            rotate_left
            · simp only [Act.put, List.setIfInBounds_toArray, List.set_cons_zero, List.set_cons_succ, i64_w, i32_w]
              rfl
            refine take_ (i := 2) (N := some 98) (v := ?_) (a' := ?_) #[true, true, true, false, false, false, false, false] rfl rfl (by kernel_rfl) (fun _ _ _ h => h) (Or.inl ⟨by rfl, ?_⟩) hHeld ?_ ?_
            rotate_left
            · rintro w' ⟨s0, s1, s2, s3, s4⟩
              go_simp
              with_reducible rfl
            rotate_left
            · simp only [Act.put, List.setIfInBounds_toArray, List.set_cons_zero, List.set_cons_succ, i64_w, i32_w]
              rfl
            refine take_ (i := 3) (N := some 99) (v := ?_) (a' := ?_) #[true, true, true, true, false, false, false, false] rfl rfl (by kernel_rfl) (fun _ _ _ h => h) (Or.inl ⟨by rfl, ?_⟩) hHeld ?_ ?_
            rotate_left
            · rintro w' ⟨s0, s1, s2, s3, s4⟩
              go_simp
              with_reducible rfl
            rotate_left
            · simp only [Act.put, List.setIfInBounds_toArray, List.set_cons_zero, List.set_cons_succ, i64_w, i32_w]
              rfl
            refine pure_ (i := 4) (N := some 100) (v := ?_) (a' := ?_) #[true, true, true, true, true, false, false, false] rfl rfl (by kernel_rfl) (fun _ _ _ h => h) (Or.inl ⟨by rfl, ?_⟩) ?_ ?_
            rotate_left
            · intro w'
              go_simp
              with_reducible rfl
            rotate_left
            · simp only [Act.put, List.setIfInBounds_toArray, List.set_cons_zero, List.set_cons_succ, i64_w, i32_w]
              rfl
            refine take_ (i := 5) (N := some 101) (v := ?_) (a' := ?_) #[true, true, true, true, true, true, false, false] rfl rfl (by kernel_rfl) (fun _ _ _ h => h) (Or.inl ⟨by rfl, ?_⟩) hHeld ?_ ?_
            rotate_left
            · rintro w' ⟨s0, s1, s2, s3, s4⟩
              go_simp
              with_reducible rfl
            rotate_left
            · simp only [Act.put, List.setIfInBounds_toArray, List.set_cons_zero, List.set_cons_succ, i64_w, i32_w]
              rfl
            refine pure_ (i := 6) (N := some 102) (v := ?_) (a' := ?_) #[true, true, true, true, true, true, true, false] rfl rfl (by kernel_rfl) (fun _ _ _ h => h) (Or.inl ⟨by rfl, ?_⟩) ?_ ?_
            rotate_left
            · intro w'
              go_simp
              with_reducible rfl
            rotate_left
            · simp only [Act.put, List.setIfInBounds_toArray, List.set_cons_zero, List.set_cons_succ, i64_w, i32_w]
              rfl
            refine pure_ (i := 7) (N := some 95) (v := ?_) (a' := ?_) #[true, true, true, true, true, true, true, true] rfl rfl (by kernel_rfl) (fun _ _ _ h => h) (Or.inl ⟨by rfl, ?_⟩) ?_ ?_
            rotate_left
            · intro w'
              go_simp
              with_reducible rfl
            rotate_left
            · simp only [Act.put, List.setIfInBounds_toArray, List.set_cons_zero, List.set_cons_succ, i64_w, i32_w]
              rfl
            refine done_ (by kernel_rfl) ?_
            clear hHeld hlk hcell
            go_wp2_with (first | (go_at_call 30; refine (impl_goodName.calls _ _ _ HG2.out rfl).mono ?_; rintro e W7 ⟨rfl, hd7⟩; rw [HGB.out]; have HT7 := Aside0.mk (show TokS w W7 a0 gt go ga gi l p i by obtain ⟨nd, rfl⟩ := hd7; exact (HT.out).drew.drewN nd); clear hd7) | (go_at_call 39; refine (impl_Tokens.emit w _ a0 gt go ga gi l p i 1 (by exact HT7.out) (by have := GP.out; omega) (by have := GP.out; omega) (by have := GP.out; omega) (by have := GP.out; omega)).mono ?_; rintro e w' ⟨rfl, hT9⟩; have HT9 := Aside0.mk hT9; clear hT9))
            go_step3
            exact impl_Tokens.goes HS.out E.out (by constructor) HT9.out
          case false =>
            have e : tokNx a0 2 p i l = some (0, p, i, l ++ [⟨0, a0.extract p.toNat i.toNat, p⟩]) := by unfold tokNx; rw [if_neg (by decide), if_neg (by decide), if_pos rfl, if_neg CW.out, hr, hg]; rfl
            have E := Aside0.mk e
            have HGB := Aside0.mk hg
            have HG2 := Aside0.mk (GRes.below HG.out (HT.out).bel).drew
            have hct8 : (W).drew.cell? ⟨gt, 0, none⟩ = some (.string a0) := (blk_cell (HT.out).drew.ht 0).trans rfl
            have hcp8 : (W).drew.cell? ⟨ga, 0, none⟩ = some (.int .i64 p) := (blk_cell (HT.out).drew.hp 0).trans rfl
            have hci8 : (W).drew.cell? ⟨gi, 0, none⟩ = some (.int .i64 i) := (blk_cell (HT.out).drew.hi 0).trans rfl
            clear e hr hg
            have hGW := GRes.below HG.out (HT.out).bel
            obtain ⟨bR, hcell, hown⟩ := hGW.drew.out
            have hlk := res_lookup hown (a0.extract p.toNat i.toNat) (by unfold maxLen; rw [ByteArray.size_extract]; have := GP.out; omega)
            rw [HR.out] at hlk
            simp only [if_true, if_false, Bool.false_eq_true] at hlk
            clear hGW hown
            refine start_ (n := 8) (S := fun w' => w'.cell? ⟨0, 0, none⟩ = some (.map (some bR)) ∧ w'.cell? ⟨gt, 0, none⟩ = some (.string a0) ∧ w'.cell? ⟨ga, 0, none⟩ = some (.int .i64 p) ∧ w'.cell? ⟨gi, 0, none⟩ = some (.int .i64 i) ∧ (Instr.lookup 61 (.map (some bR)) (.string (a0.extract p.toNat i.toNat)) false).run Tryd.prog w' = .ok (.int .i64 0) w') (ds := []) #[false, false, false, false, false, false, false, false] (by kernel_rfl) rfl rfl ⟨hcell, (blk_cell (HT.out).ht 0).trans rfl, (blk_cell (HT.out).hp 0).trans rfl, (blk_cell (HT.out).hi 0).trans rfl, hlk⟩ (fun hHeld => ?_)
            refine take_ (i := 0) (N := some 96) (v := ?_) (a' := ?_) #[true, false, false, false, false, false, false, false] rfl rfl (by kernel_rfl) (fun _ _ _ h => h) (Or.inl ⟨by rfl, ?_⟩) hHeld ?_ ?_
            rotate_left
            · rintro w' ⟨s0, s1, s2, s3, s4⟩
              go_simp
              with_reducible rfl
            rotate_left
            · simp only [Act.put, List.setIfInBounds_toArray, List.set_cons_zero, List.set_cons_succ, i64_w, i32_w]
              rfl
            refine take_ (i := 1) (N := some 97) (v := ?_) (a' := ?_) #[true, true, false, false, false, false, false, false] rfl rfl (by kernel_rfl) (fun _ _ _ h => h) (Or.inl ⟨by rfl, ?_⟩) hHeld ?_ ?_
            rotate_left
            · rintro w' ⟨s0, s1, s2, s3, s4⟩
              go_simp
              with_reducible rfl
            rotate_left
            · simp only [Act.put, List.setIfInBounds_toArray, List.set_cons_zero, List.set_cons_succ, i64_w, i32_w]
              rfl
            refine take_ (i := 2) (N := some 98) (v := ?_) (a' := ?_) #[true, true, true, false, false, false, false, false] rfl rfl (by kernel_rfl) (fun _ _ _ h => h) (Or.inl ⟨by rfl, ?_⟩) hHeld ?_ ?_
            rotate_left
            · rintro w' ⟨s0, s1, s2, s3, s4⟩
              go_simp
              with_reducible rfl
            rotate_left
            · simp only [Act.put, List.setIfInBounds_toArray, List.set_cons_zero, List.set_cons_succ, i64_w, i32_w]
              rfl
            refine take_ (i := 3) (N := some 99) (v := ?_) (a' := ?_) #[true, true, true, true, false, false, false, false] rfl rfl (by kernel_rfl) (fun _ _ _ h => h) (Or.inl ⟨by rfl, ?_⟩) hHeld ?_ ?_
            rotate_left
            · rintro w' ⟨s0, s1, s2, s3, s4⟩
              go_simp
              with_reducible rfl
            rotate_left
            · simp only [Act.put, List.setIfInBounds_toArray, List.set_cons_zero, List.set_cons_succ, i64_w, i32_w]
              rfl
            refine pure_ (i := 4) (N := some 100) (v := ?_) (a' := ?_) #[true, true, true, true, true, false, false, false] rfl rfl (by kernel_rfl) (fun _ _ _ h => h) (Or.inl ⟨by rfl, ?_⟩) ?_ ?_
            rotate_left
            · intro w'
              go_simp
              with_reducible rfl
            rotate_left
            · simp only [Act.put, List.setIfInBounds_toArray, List.set_cons_zero, List.set_cons_succ, i64_w, i32_w]
              rfl
            refine take_ (i := 5) (N := some 101) (v := ?_) (a' := ?_) #[true, true, true, true, true, true, false, false] rfl rfl (by kernel_rfl) (fun _ _ _ h => h) (Or.inl ⟨by rfl, ?_⟩) hHeld ?_ ?_
            rotate_left
            · rintro w' ⟨s0, s1, s2, s3, s4⟩
              go_simp
              with_reducible rfl
            rotate_left
            · simp only [Act.put, List.setIfInBounds_toArray, List.set_cons_zero, List.set_cons_succ, i64_w, i32_w]
              rfl
            refine pure_ (i := 6) (N := some 102) (v := ?_) (a' := ?_) #[true, true, true, true, true, true, true, false] rfl rfl (by kernel_rfl) (fun _ _ _ h => h) (Or.inl ⟨by rfl, ?_⟩) ?_ ?_
            rotate_left
            · intro w'
              go_simp
              with_reducible rfl
            rotate_left
            · simp only [Act.put, List.setIfInBounds_toArray, List.set_cons_zero, List.set_cons_succ, i64_w, i32_w]
              rfl
            refine pure_ (i := 7) (N := some 95) (v := ?_) (a' := ?_) #[true, true, true, true, true, true, true, true] rfl rfl (by kernel_rfl) (fun _ _ _ h => h) (Or.inl ⟨by rfl, ?_⟩) ?_ ?_
            rotate_left
            · intro w'
              go_simp
              with_reducible rfl
            rotate_left
            · simp only [Act.put, List.setIfInBounds_toArray, List.set_cons_zero, List.set_cons_succ, i64_w, i32_w]
              rfl
            refine done_ (by kernel_rfl) ?_
            clear hHeld hlk hcell
            go_wp2_with (first | (go_at_call 30; refine (impl_goodName.calls _ _ _ HG2.out rfl).mono ?_; rintro e W7 ⟨rfl, hd7⟩; rw [HGB.out]; have HT7 := Aside0.mk (show TokS w W7 a0 gt go ga gi l p i by obtain ⟨nd, rfl⟩ := hd7; exact (HT.out).drew.drewN nd); clear hd7) | (go_at_call 39; refine (impl_Tokens.emit w _ a0 gt go ga gi l p i 0 (by exact HT7.out) (by have := GP.out; omega) (by have := GP.out; omega) (by have := GP.out; omega) (by have := GP.out; omega)).mono ?_; rintro e w' ⟨rfl, hT9⟩; have HT9 := Aside0.mk hT9; clear hT9))
            go_step3
            exact impl_Tokens.goes HS.out E.out (by constructor) HT9.out
    case p3 =>
      rintro n a W ⟨gt, go, ga, gi, p, i, l, hF, hs, hT⟩
      have g := tokSt_ok hs
      have hct : W.cell? ⟨gt, 0, none⟩ = some (.string a0) := (blk_cell hT.ht 0).trans rfl
      have hcp : W.cell? ⟨ga, 0, none⟩ = some (.int .i64 p) := (blk_cell hT.hp 0).trans rfl
      have hci : W.cell? ⟨gi, 0, none⟩ = some (.int .i64 i) := (blk_cell hT.hi 0).trans rfl
      have hfp := blk_frozen hT.hp 0
      have hfi := blk_frozen hT.hi 0
      have n1 : gt ≠ ga := blk_ne hT.ht hT.hp (by decide)
      have n2 : gt ≠ gi := blk_ne hT.ht hT.hi (by decide)
      have n3 : ga ≠ gi := hT.ne
      have n4 := Ne.symm n1
      have n5 := Ne.symm n2
      have n6 := Ne.symm n3
      have HS := Aside0.mk hs
      have HT := Aside0.mk hT
      obtain ⟨_, gp0, gpi, gis, g3, gsz, gl⟩ := g
      have GP := Aside0.mk (show 0 ≤ p ∧ p ≤ i ∧ i ≤ (a0.size : Int) ∧ a0.size ≤ 1000 ∧ l.length ≤ 2000 from ⟨gp0, gpi, gis, gsz, gl⟩)
      have G3 := Aside0.mk g3
      clear hs hT gp0 gpi gis g3 gsz gl
      have gp0 := eq_true GP.out.1
      have gpi := eq_true GP.out.2.1
      have gis := eq_true GP.out.2.2.1
      have gi0 : (0 ≤ i) = True := eq_true (by have := GP.out; omega)
      have hw1 : wrap64 (i + 1) = i + 1 := wrap_s _ (by have := GP.out; omega) (by have := GP.out; omega)
      have hw2 : wrap64 (i + 2) = i + 2 := wrap_s _ (by have := GP.out; omega) (by have := GP.out; omega)
      have hwp : wrap64 (i - p) = i - p := wrap_s _ (by have := GP.out; omega) (by have := GP.out; omega)
      have HW1 := Aside0.mk hw1
      have HW2 := Aside0.mk hw2
      clear hw1 hw2
      cases hF
      by_cases c1 : i < (a0.size : Int)
      · have cE : decide (i < (a0.size : Int)) = true := decide_eq_true c1
        have q4 := eq_true c1
        have hx4 := bt_at a0 i
        by_cases c2 : 48 ≤ bt a0 i
        · have cE2 : decide (48 ≤ bt a0 i) = true := decide_eq_true c2
          by_cases c3 : bt a0 i ≤ 57
          · have cE3 : decide (bt a0 i ≤ 57) = true := decide_eq_true c3
            have e : tokNx a0 3 p i l = some (3, p, i + 1, l) := by unfold tokNx; rw [if_neg (by decide), if_neg (by decide), if_neg (by decide), if_pos ⟨c1, c2, c3⟩]
            have E := Aside0.mk e
            clear e c1 c2 c3
            go_wp2
            go_step3
            rw [HW1.out]
            exact impl_Tokens.goes HS.out E.out (by constructor) (HT.out.setI _)
          · have cE3 : decide (bt a0 i ≤ 57) = false := decide_eq_false c3
            have CW := Aside0.mk (show ¬ (i < (a0.size : Int) ∧ 48 ≤ bt a0 i ∧ bt a0 i ≤ 57) from fun h => c3 h.2.2)
            clear c1 c2 c3
            have qp := eq_true (G3.out rfl)
            have hxp := bt_at a0 p
            have HWP := Aside0.mk hwp
            by_cases d1 : i - p > 9
            · have e : tokNx a0 3 p i l = some (0, p, i, l ++ [⟨0, a0.extract p.toNat i.toNat, p⟩]) := by unfold tokNx; rw [if_neg (by decide), if_neg (by decide), if_neg (by decide), if_neg CW.out, if_pos (Or.inl d1)]
              have E := Aside0.mk e
              have dE : decide (9 < wrap64 (i - p)) = true := by rw [hwp]; exact decide_eq_true d1
              clear e d1 hwp
              go_wp2_with (go_at_call 39; refine (impl_Tokens.emit w _ a0 gt go ga gi l p i 0 (by exact HT.out) (by have := GP.out; omega) (by have := GP.out; omega) (by have := GP.out; omega) (by have := GP.out; omega)).mono ?_; rintro e w' ⟨rfl, hT9⟩; have HT9 := Aside0.mk hT9; clear hT9)
              go_step3
              exact impl_Tokens.goes HS.out E.out (by constructor) HT9.out
            · have dE : decide (9 < wrap64 (i - p)) = false := by rw [hwp]; exact decide_eq_false d1
              by_cases d2 : bt a0 p = 48
              · have dE2 : (bt a0 p == 48) = true := beq_iff_eq.2 d2
                by_cases d3 : i - p > 1
                · have e : tokNx a0 3 p i l = some (0, p, i, l ++ [⟨0, a0.extract p.toNat i.toNat, p⟩]) := by unfold tokNx; rw [if_neg (by decide), if_neg (by decide), if_neg (by decide), if_neg CW.out, if_pos (Or.inr ⟨d2, d3⟩)]
                  have E := Aside0.mk e
                  have dE3 : decide (1 < wrap64 (i - p)) = true := by rw [hwp]; exact decide_eq_true d3
                  clear e d1 d2 d3 hwp
                  go_wp2_with (go_at_call 39; refine (impl_Tokens.emit w _ a0 gt go ga gi l p i 0 (by exact HT.out) (by have := GP.out; omega) (by have := GP.out; omega) (by have := GP.out; omega) (by have := GP.out; omega)).mono ?_; rintro e w' ⟨rfl, hT9⟩; have HT9 := Aside0.mk hT9; clear hT9)
                  go_step3
                  exact impl_Tokens.goes HS.out E.out (by constructor) HT9.out
                · have e : tokNx a0 3 p i l = some (0, p, i, l ++ [⟨3, a0.extract p.toNat i.toNat, p⟩]) := by unfold tokNx; rw [if_neg (by decide), if_neg (by decide), if_neg (by decide), if_neg CW.out, if_neg (fun h => h.elim d1 (fun h => d3 h.2))]
                  have E := Aside0.mk e
                  have dE3 : decide (1 < wrap64 (i - p)) = false := by rw [hwp]; exact decide_eq_false d3
                  clear e d1 d2 d3 hwp
                  go_wp2_with (go_at_call 39; refine (impl_Tokens.emit w _ a0 gt go ga gi l p i 3 (by exact HT.out) (by have := GP.out; omega) (by have := GP.out; omega) (by have := GP.out; omega) (by have := GP.out; omega)).mono ?_; rintro e w' ⟨rfl, hT9⟩; have HT9 := Aside0.mk hT9; clear hT9)
                  go_step3
                  exact impl_Tokens.goes HS.out E.out (by constructor) HT9.out
              · have dE2 : (bt a0 p == 48) = false := beq_eq_false_iff_ne.2 d2
                have e : tokNx a0 3 p i l = some (0, p, i, l ++ [⟨3, a0.extract p.toNat i.toNat, p⟩]) := by unfold tokNx; rw [if_neg (by decide), if_neg (by decide), if_neg (by decide), if_neg CW.out, if_neg (fun h => h.elim d1 (fun h => d2 h.1))]
                have E := Aside0.mk e
                clear e d1 d2 hwp
                go_wp2_with (go_at_call 39; refine (impl_Tokens.emit w _ a0 gt go ga gi l p i 3 (by exact HT.out) (by have := GP.out; omega) (by have := GP.out; omega) (by have := GP.out; omega) (by have := GP.out; omega)).mono ?_; rintro e w' ⟨rfl, hT9⟩; have HT9 := Aside0.mk hT9; clear hT9)
                go_step3
                exact impl_Tokens.goes HS.out E.out (by constructor) HT9.out
        · have cE2 : decide (48 ≤ bt a0 i) = false := decide_eq_false c2
          have CW := Aside0.mk (show ¬ (i < (a0.size : Int) ∧ 48 ≤ bt a0 i ∧ bt a0 i ≤ 57) from fun h => c2 h.2.1)
          clear c1 c2
          have qp := eq_true (G3.out rfl)
          have hxp := bt_at a0 p
          have HWP := Aside0.mk hwp
          by_cases d1 : i - p > 9
          · have e : tokNx a0 3 p i l = some (0, p, i, l ++ [⟨0, a0.extract p.toNat i.toNat, p⟩]) := by unfold tokNx; rw [if_neg (by decide), if_neg (by decide), if_neg (by decide), if_neg CW.out, if_pos (Or.inl d1)]
            have E := Aside0.mk e
            have dE : decide (9 < wrap64 (i - p)) = true := by rw [hwp]; exact decide_eq_true d1
            clear e d1 hwp
            go_wp2_with (go_at_call 39; refine (impl_Tokens.emit w _ a0 gt go ga gi l p i 0 (by exact HT.out) (by have := GP.out; omega) (by have := GP.out; omega) (by have := GP.out; omega) (by have := GP.out; omega)).mono ?_; rintro e w' ⟨rfl, hT9⟩; have HT9 := Aside0.mk hT9; clear hT9)
            go_step3
            exact impl_Tokens.goes HS.out E.out (by constructor) HT9.out
          · have dE : decide (9 < wrap64 (i - p)) = false := by rw [hwp]; exact decide_eq_false d1
            by_cases d2 : bt a0 p = 48
            · have dE2 : (bt a0 p == 48) = true := beq_iff_eq.2 d2
              by_cases d3 : i - p > 1
              · have e : tokNx a0 3 p i l = some (0, p, i, l ++ [⟨0, a0.extract p.toNat i.toNat, p⟩]) := by unfold tokNx; rw [if_neg (by decide), if_neg (by decide), if_neg (by decide), if_neg CW.out, if_pos (Or.inr ⟨d2, d3⟩)]
                have E := Aside0.mk e
                have dE3 : decide (1 < wrap64 (i - p)) = true := by rw [hwp]; exact decide_eq_true d3
                clear e d1 d2 d3 hwp
                go_wp2_with (go_at_call 39; refine (impl_Tokens.emit w _ a0 gt go ga gi l p i 0 (by exact HT.out) (by have := GP.out; omega) (by have := GP.out; omega) (by have := GP.out; omega) (by have := GP.out; omega)).mono ?_; rintro e w' ⟨rfl, hT9⟩; have HT9 := Aside0.mk hT9; clear hT9)
                go_step3
                exact impl_Tokens.goes HS.out E.out (by constructor) HT9.out
              · have e : tokNx a0 3 p i l = some (0, p, i, l ++ [⟨3, a0.extract p.toNat i.toNat, p⟩]) := by unfold tokNx; rw [if_neg (by decide), if_neg (by decide), if_neg (by decide), if_neg CW.out, if_neg (fun h => h.elim d1 (fun h => d3 h.2))]
                have E := Aside0.mk e
                have dE3 : decide (1 < wrap64 (i - p)) = false := by rw [hwp]; exact decide_eq_false d3
                clear e d1 d2 d3 hwp
                go_wp2_with (go_at_call 39; refine (impl_Tokens.emit w _ a0 gt go ga gi l p i 3 (by exact HT.out) (by have := GP.out; omega) (by have := GP.out; omega) (by have := GP.out; omega) (by have := GP.out; omega)).mono ?_; rintro e w' ⟨rfl, hT9⟩; have HT9 := Aside0.mk hT9; clear hT9)
                go_step3
                exact impl_Tokens.goes HS.out E.out (by constructor) HT9.out
            · have dE2 : (bt a0 p == 48) = false := beq_eq_false_iff_ne.2 d2
              have e : tokNx a0 3 p i l = some (0, p, i, l ++ [⟨3, a0.extract p.toNat i.toNat, p⟩]) := by unfold tokNx; rw [if_neg (by decide), if_neg (by decide), if_neg (by decide), if_neg CW.out, if_neg (fun h => h.elim d1 (fun h => d2 h.1))]
              have E := Aside0.mk e
              clear e d1 d2 hwp
              go_wp2_with (go_at_call 39; refine (impl_Tokens.emit w _ a0 gt go ga gi l p i 3 (by exact HT.out) (by have := GP.out; omega) (by have := GP.out; omega) (by have := GP.out; omega) (by have := GP.out; omega)).mono ?_; rintro e w' ⟨rfl, hT9⟩; have HT9 := Aside0.mk hT9; clear hT9)
              go_step3
              exact impl_Tokens.goes HS.out E.out (by constructor) HT9.out
      · have cE : decide (i < (a0.size : Int)) = false := decide_eq_false c1
        have CW := Aside0.mk (show ¬ (i < (a0.size : Int) ∧ 48 ≤ bt a0 i ∧ bt a0 i ≤ 57) from fun h => c1 h.1)
        clear c1
        have qp := eq_true (G3.out rfl)
        have hxp := bt_at a0 p
        have HWP := Aside0.mk hwp
        by_cases d1 : i - p > 9
        · have e : tokNx a0 3 p i l = some (0, p, i, l ++ [⟨0, a0.extract p.toNat i.toNat, p⟩]) := by unfold tokNx; rw [if_neg (by decide), if_neg (by decide), if_neg (by decide), if_neg CW.out, if_pos (Or.inl d1)]
          have E := Aside0.mk e
          have dE : decide (9 < wrap64 (i - p)) = true := by rw [hwp]; exact decide_eq_true d1
          clear e d1 hwp
          go_wp2_with (go_at_call 39; refine (impl_Tokens.emit w _ a0 gt go ga gi l p i 0 (by exact HT.out) (by have := GP.out; omega) (by have := GP.out; omega) (by have := GP.out; omega) (by have := GP.out; omega)).mono ?_; rintro e w' ⟨rfl, hT9⟩; have HT9 := Aside0.mk hT9; clear hT9)
          go_step3
          exact impl_Tokens.goes HS.out E.out (by constructor) HT9.out
        · have dE : decide (9 < wrap64 (i - p)) = false := by rw [hwp]; exact decide_eq_false d1
          by_cases d2 : bt a0 p = 48
          · have dE2 : (bt a0 p == 48) = true := beq_iff_eq.2 d2
            by_cases d3 : i - p > 1
            · have e : tokNx a0 3 p i l = some (0, p, i, l ++ [⟨0, a0.extract p.toNat i.toNat, p⟩]) := by unfold tokNx; rw [if_neg (by decide), if_neg (by decide), if_neg (by decide), if_neg CW.out, if_pos (Or.inr ⟨d2, d3⟩)]
              have E := Aside0.mk e
              have dE3 : decide (1 < wrap64 (i - p)) = true := by rw [hwp]; exact decide_eq_true d3
              clear e d1 d2 d3 hwp
              go_wp2_with (go_at_call 39; refine (impl_Tokens.emit w _ a0 gt go ga gi l p i 0 (by exact HT.out) (by have := GP.out; omega) (by have := GP.out; omega) (by have := GP.out; omega) (by have := GP.out; omega)).mono ?_; rintro e w' ⟨rfl, hT9⟩; have HT9 := Aside0.mk hT9; clear hT9)
              go_step3
              exact impl_Tokens.goes HS.out E.out (by constructor) HT9.out
            · have e : tokNx a0 3 p i l = some (0, p, i, l ++ [⟨3, a0.extract p.toNat i.toNat, p⟩]) := by unfold tokNx; rw [if_neg (by decide), if_neg (by decide), if_neg (by decide), if_neg CW.out, if_neg (fun h => h.elim d1 (fun h => d3 h.2))]
              have E := Aside0.mk e
              have dE3 : decide (1 < wrap64 (i - p)) = false := by rw [hwp]; exact decide_eq_false d3
              clear e d1 d2 d3 hwp
              go_wp2_with (go_at_call 39; refine (impl_Tokens.emit w _ a0 gt go ga gi l p i 3 (by exact HT.out) (by have := GP.out; omega) (by have := GP.out; omega) (by have := GP.out; omega) (by have := GP.out; omega)).mono ?_; rintro e w' ⟨rfl, hT9⟩; have HT9 := Aside0.mk hT9; clear hT9)
              go_step3
              exact impl_Tokens.goes HS.out E.out (by constructor) HT9.out
          · have dE2 : (bt a0 p == 48) = false := beq_eq_false_iff_ne.2 d2
            have e : tokNx a0 3 p i l = some (0, p, i, l ++ [⟨3, a0.extract p.toNat i.toNat, p⟩]) := by unfold tokNx; rw [if_neg (by decide), if_neg (by decide), if_neg (by decide), if_neg CW.out, if_neg (fun h => h.elim d1 (fun h => d2 h.1))]
            have E := Aside0.mk e
            clear e d1 d2 hwp
            go_wp2_with (go_at_call 39; refine (impl_Tokens.emit w _ a0 gt go ga gi l p i 3 (by exact HT.out) (by have := GP.out; omega) (by have := GP.out; omega) (by have := GP.out; omega) (by have := GP.out; omega)).mono ?_; rintro e w' ⟨rfl, hT9⟩; have HT9 := Aside0.mk hT9; clear hT9)
            go_step3
            exact impl_Tokens.goes HS.out E.out (by constructor) HT9.out
    case p0 =>
      rintro n a W ⟨gt, go, ga, gi, p, i, l, hF, hs, hT⟩
      have g := tokSt_ok hs
      have hct : W.cell? ⟨gt, 0, none⟩ = some (.string a0) := (blk_cell hT.ht 0).trans rfl
      have hcp : W.cell? ⟨ga, 0, none⟩ = some (.int .i64 p) := (blk_cell hT.hp 0).trans rfl
      have hci : W.cell? ⟨gi, 0, none⟩ = some (.int .i64 i) := (blk_cell hT.hi 0).trans rfl
      have hfp := blk_frozen hT.hp 0
      have hfi := blk_frozen hT.hi 0
      have n1 : gt ≠ ga := blk_ne hT.ht hT.hp (by decide)
      have n2 : gt ≠ gi := blk_ne hT.ht hT.hi (by decide)
      have n3 : ga ≠ gi := hT.ne
      have n4 := Ne.symm n1
      have n5 := Ne.symm n2
      have n6 := Ne.symm n3
      have HS := Aside0.mk hs
      have HT := Aside0.mk hT
      obtain ⟨_, gp0, gpi, gis, g3, gsz, gl⟩ := g
      have GP := Aside0.mk (show 0 ≤ p ∧ p ≤ i ∧ i ≤ (a0.size : Int) ∧ a0.size ≤ 1000 ∧ l.length ≤ 2000 from ⟨gp0, gpi, gis, gsz, gl⟩)
      have G3 := Aside0.mk g3
      clear hs hT gp0 gpi gis g3 gsz gl
      have gp0 := eq_true GP.out.1
      have gpi := eq_true GP.out.2.1
      have gis := eq_true GP.out.2.2.1
      have gi0 : (0 ≤ i) = True := eq_true (by have := GP.out; omega)
      have hw1 : wrap64 (i + 1) = i + 1 := wrap_s _ (by have := GP.out; omega) (by have := GP.out; omega)
      have hw2 : wrap64 (i + 2) = i + 2 := wrap_s _ (by have := GP.out; omega) (by have := GP.out; omega)
      have hwp : wrap64 (i - p) = i - p := wrap_s _ (by have := GP.out; omega) (by have := GP.out; omega)
      have HW1 := Aside0.mk hw1
      have HW2 := Aside0.mk hw2
      clear hw1 hw2
      cases hF
      by_cases c1 : i = (a0.size : Int)
      · have e : tokNx a0 0 p i l = none := by unfold tokNx; rw [if_pos rfl, if_pos c1]
        have cE : (i == (a0.size : Int)) = true := beq_iff_eq.2 c1
        obtain rfl := tokSt_end HS.out e
        obtain ⟨v, hv, hr⟩ := HT.out.ho
        have hco : W.cell? ⟨go, 0, none⟩ = some v := (blk_cell hv 0).trans rfl
        have HR := Aside0.mk hr
        clear hr hv e c1
        go_wp2
        simp only [jumpsTo]
        go_ret
        exact ⟨_, rfl, HR.out, HT.out.bel⟩
      have cE : (i == (a0.size : Int)) = false := beq_eq_false_iff_ne.2 c1
      have q4 := eq_true (show i < (a0.size : Int) by have := GP.out; omega)
      have hx4 := bt_at a0 i
      have HTP := Aside0.mk (HT.out.setP i)
      by_cases c2 : bt a0 i = 32
      · have e : tokNx a0 0 p i l = some (0, i, i + 1, l) := by unfold tokNx; rw [if_pos rfl, if_neg c1, if_pos (Or.inl c2)]
        have E := Aside0.mk e
        have cE2 : (bt a0 i == 32) = true := beq_iff_eq.2 c2
        clear e c1 c2
        go_wp2
        go_step3
        rw [HW1.out]
        exact impl_Tokens.goes HS.out E.out (by constructor) (HTP.out.setI _)
      have cE2 : (bt a0 i == 32) = false := beq_eq_false_iff_ne.2 c2
      by_cases c3 : bt a0 i = 10
      · have e : tokNx a0 0 p i l = some (0, i, i + 1, l) := by unfold tokNx; rw [if_pos rfl, if_neg c1, if_pos (Or.inr c3)]
        have E := Aside0.mk e
        have cE3 : (bt a0 i == 10) = true := beq_iff_eq.2 c3
        clear e c1 c2 c3
        go_wp2
        go_step3
        rw [HW1.out]
        exact impl_Tokens.goes HS.out E.out (by constructor) (HTP.out.setI _)
      have cE3 : (bt a0 i == 10) = false := beq_eq_false_iff_ne.2 c3
      have c23 : ¬ (bt a0 i = 32 ∨ bt a0 i = 10) := fun h => h.elim c2 c3
      clear c2 c3
      by_cases c4 : bt a0 i = 35
      · have e : tokNx a0 0 p i l = some (1, i, i, l) := by unfold tokNx; rw [if_pos rfl, if_neg c1, if_neg c23, if_pos c4]
        have E := Aside0.mk e
        have cE4 : (bt a0 i == 35) = true := beq_iff_eq.2 c4
        clear e c1 c23 c4
        go_wp2
        go_step3
        exact impl_Tokens.goes HS.out E.out (by constructor) HTP.out
      have cE4 : (bt a0 i == 35) = false := beq_eq_false_iff_ne.2 c4
      by_cases c5 : 97 ≤ bt a0 i ∧ bt a0 i ≤ 122
      · have e : tokNx a0 0 p i l = some (2, i, i, l) := by unfold tokNx; rw [if_pos rfl, if_neg c1, if_neg c23, if_neg c4, if_pos c5]
        have E := Aside0.mk e
        have cE5 : decide (97 ≤ bt a0 i) = true := decide_eq_true c5.1
        have cE6 : decide (bt a0 i ≤ 122) = true := decide_eq_true c5.2
        clear e c1 c23 c4 c5
        go_wp2
        go_step3
        exact impl_Tokens.goes HS.out E.out (by constructor) HTP.out
      by_cases c6 : 48 ≤ bt a0 i ∧ bt a0 i ≤ 57
      · have e : tokNx a0 0 p i l = some (3, i, i, l) := by unfold tokNx; rw [if_pos rfl, if_neg c1, if_neg c23, if_neg c4, if_neg c5, if_pos c6]
        have E := Aside0.mk e
        have cE5 : decide (97 ≤ bt a0 i) = false := decide_eq_false (by omega)
        have cE6 : decide (48 ≤ bt a0 i) = true := decide_eq_true c6.1
        have cE7 : decide (bt a0 i ≤ 57) = true := decide_eq_true c6.2
        clear e c1 c23 c4 c5 c6
        go_wp2
        go_step3
        exact impl_Tokens.goes HS.out E.out (by constructor) HTP.out
      have NX := Aside0.mk (⟨c1, c23, c4, c5, c6⟩ : ¬ i = (a0.size : Int) ∧ ¬ (bt a0 i = 32 ∨ bt a0 i = 10) ∧ ¬ bt a0 i = 35 ∧ ¬ (97 ≤ bt a0 i ∧ bt a0 i ≤ 122) ∧ ¬ (48 ≤ bt a0 i ∧ bt a0 i ≤ 57))
      have tests : ∃ t1 t2 t3 t4 : Bool, decide (97 ≤ bt a0 i) = t1 ∧ decide (bt a0 i ≤ 122) = t2 ∧ decide (48 ≤ bt a0 i) = t3 ∧ decide (bt a0 i ≤ 57) = t4 ∧ ((t1 = false ∧ t3 = false) ∨ (t1 = false ∧ t3 = true ∧ t4 = false) ∨ (t1 = true ∧ t2 = false ∧ t3 = true ∧ t4 = false)) := by
        refine ⟨_, _, _, _, rfl, rfl, rfl, rfl, ?_⟩
        by_cases h : bt a0 i < 48
        · exact Or.inl ⟨decide_eq_false (by omega), decide_eq_false (by omega)⟩
        · by_cases h2 : bt a0 i < 97
          · exact Or.inr (Or.inl ⟨decide_eq_false (by omega), decide_eq_true (by omega), decide_eq_false (by omega)⟩)
          · exact Or.inr (Or.inr ⟨decide_eq_true (by omega), decide_eq_false (by omega), decide_eq_true (by omega), decide_eq_false (by omega)⟩)
      obtain ⟨t1, t2, t3, t4, cT1, cT2, cT3, cT4, ht⟩ := tests
      clear c1 c23 c4 c5 c6
      obtain ⟨hb, hpb⟩ : ∃ b, strings_HasPrefix.f (a0.extract i.toNat a0.size) ⟨#[45, 62]⟩ = some b := hasPrefix_some _ _
      obtain ⟨z, hz⟩ : ∃ z, z = Lib.indexByte [59, 58, 61, 63, 123, 125, 40, 41, 44, 46, 43, 60] (bt a0 i).toNat.toUInt8 := ⟨_, rfl⟩
      have HPB := Aside0.mk hpb
      have HZ := Aside0.mk hz
      have HZF := Aside0.mk (show strings_IndexByte.f (⟨#[59, 58, 61, 63, 123, 125, 40, 41, 44, 46, 43, 60]⟩ : ByteArray) (bt a0 i) = some z from congrArg some hz.symm)
      clear hpb hz
      have LT := Aside0.mk (show i < (a0.size : Int) from of_eq_true q4)
      rcases ht with ⟨rfl, rfl⟩ | ⟨rfl, rfl, rfl⟩ | ⟨rfl, rfl, rfl, rfl⟩
      · cases hb
        case true =>
          have HSZ := Aside0.mk (hasPrefix_size a0 i (by have := GP.out; omega) (by have := GP.out; omega) HPB.out)
          have e : tokNx a0 0 p i l = some (0, i, i + 2, l ++ [⟨4, a0.extract i.toNat (i + 2).toNat, i⟩]) := by unfold tokNx; rw [if_pos rfl, if_neg NX.out.1, if_neg NX.out.2.1, if_neg NX.out.2.2.1, if_neg NX.out.2.2.2.1, if_neg NX.out.2.2.2.2, if_pos HPB.out]
          have E := Aside0.mk e
          clear e
          go_wp2_with (first | (go_at_call 40; refine (strings_HasPrefix.calls _ _ _ _ HPB.out).mono ?_; rintro e W6 ⟨rfl, hd6⟩; have HT6 := Aside0.mk (show TokS w W6 a0 gt go ga gi l i i by obtain ⟨nd, rfl⟩ := hd6; exact HTP.out.drewN nd); have hct6 : W6.cell? ⟨gt, 0, none⟩ = some (.string a0) := (blk_cell HT6.out.ht 0).trans rfl; have hci6 : W6.cell? ⟨gi, 0, none⟩ = some (.int .i64 i) := (blk_cell HT6.out.hi 0).trans rfl; have hfi6 := blk_frozen HT6.out.hi 0; clear hd6) | (go_at_call 39; refine (impl_Tokens.emit w _ a0 gt go ga gi l i (wrap64 (i + 2)) 4 (by exact HT6.out.setI _) (by have := GP.out; omega) (by rw [HW2.out]; omega) (by rw [HW2.out]; have := GP.out; have := HSZ.out; omega) (by have := GP.out; omega)).mono ?_; rintro e w' ⟨rfl, hT9⟩; rw [HW2.out] at hT9; have HT9 := Aside0.mk hT9; clear hT9))
          go_step3
          exact impl_Tokens.goes HS.out E.out (by constructor) HT9.out
        case false =>
          have nhp : ¬ strings_HasPrefix.f (a0.extract i.toNat a0.size) ⟨#[45, 62]⟩ = some true := by rw [HPB.out]; simp
          by_cases c7 : 0 ≤ z
          · have e : tokNx a0 0 p i l = some (0, i, i + 1, l ++ [⟨4, a0.extract i.toNat (i + 1).toNat, i⟩]) := by unfold tokNx; rw [if_pos rfl, if_neg NX.out.1, if_neg NX.out.2.1, if_neg NX.out.2.2.1, if_neg NX.out.2.2.2.1, if_neg NX.out.2.2.2.2, if_neg nhp, if_pos (HZ.out ▸ c7)]
            have E := Aside0.mk e
            have cZ : decide (0 ≤ z) = true := decide_eq_true c7
            clear e nhp c7
            go_wp2_with (first | (go_at_call 40; refine (strings_HasPrefix.calls _ _ _ _ HPB.out).mono ?_; rintro e W6 ⟨rfl, hd6⟩; have HT6 := Aside0.mk (show TokS w W6 a0 gt go ga gi l i i by obtain ⟨nd, rfl⟩ := hd6; exact HTP.out.drewN nd); have hct6 : W6.cell? ⟨gt, 0, none⟩ = some (.string a0) := (blk_cell HT6.out.ht 0).trans rfl; have hci6 : W6.cell? ⟨gi, 0, none⟩ = some (.int .i64 i) := (blk_cell HT6.out.hi 0).trans rfl; have hfi6 := blk_frozen HT6.out.hi 0; clear hd6) | (go_at_call 41; refine (strings_IndexByte.calls _ _ _ _ HZF.out).mono ?_; rintro e W7 ⟨rfl, hd7⟩; have HT7 := Aside0.mk (show TokS w W7 a0 gt go ga gi l i i by obtain ⟨nd, rfl⟩ := hd7; exact HT6.out.drewN nd); have hci7 : W7.cell? ⟨gi, 0, none⟩ = some (.int .i64 i) := (blk_cell HT7.out.hi 0).trans rfl; have hfi7 := blk_frozen HT7.out.hi 0; clear hd7) | (go_at_call 39; refine (impl_Tokens.emit w _ a0 gt go ga gi l i (wrap64 (i + 1)) 4 (by exact HT7.out.setI _) (by have := GP.out; omega) (by rw [HW1.out]; omega) (by rw [HW1.out]; have := GP.out; have := LT.out; omega) (by have := GP.out; omega)).mono ?_; rintro e w' ⟨rfl, hT9⟩; rw [HW1.out] at hT9; have HT9 := Aside0.mk hT9; clear hT9))
            go_step3
            exact impl_Tokens.goes HS.out E.out (by constructor) HT9.out
          · have e : tokNx a0 0 p i l = some (0, i, i + 1, l ++ [⟨0, a0.extract i.toNat (i + 1).toNat, i⟩]) := by unfold tokNx; rw [if_pos rfl, if_neg NX.out.1, if_neg NX.out.2.1, if_neg NX.out.2.2.1, if_neg NX.out.2.2.2.1, if_neg NX.out.2.2.2.2, if_neg nhp, if_neg (HZ.out ▸ c7)]
            have E := Aside0.mk e
            have cZ : decide (0 ≤ z) = false := decide_eq_false c7
            clear e nhp c7
            go_wp2_with (first | (go_at_call 40; refine (strings_HasPrefix.calls _ _ _ _ HPB.out).mono ?_; rintro e W6 ⟨rfl, hd6⟩; have HT6 := Aside0.mk (show TokS w W6 a0 gt go ga gi l i i by obtain ⟨nd, rfl⟩ := hd6; exact HTP.out.drewN nd); have hct6 : W6.cell? ⟨gt, 0, none⟩ = some (.string a0) := (blk_cell HT6.out.ht 0).trans rfl; have hci6 : W6.cell? ⟨gi, 0, none⟩ = some (.int .i64 i) := (blk_cell HT6.out.hi 0).trans rfl; have hfi6 := blk_frozen HT6.out.hi 0; clear hd6) | (go_at_call 41; refine (strings_IndexByte.calls _ _ _ _ HZF.out).mono ?_; rintro e W7 ⟨rfl, hd7⟩; have HT7 := Aside0.mk (show TokS w W7 a0 gt go ga gi l i i by obtain ⟨nd, rfl⟩ := hd7; exact HT6.out.drewN nd); have hci7 : W7.cell? ⟨gi, 0, none⟩ = some (.int .i64 i) := (blk_cell HT7.out.hi 0).trans rfl; have hfi7 := blk_frozen HT7.out.hi 0; clear hd7) | (go_at_call 39; refine (impl_Tokens.emit w _ a0 gt go ga gi l i (wrap64 (i + 1)) 0 (by exact HT7.out.setI _) (by have := GP.out; omega) (by rw [HW1.out]; omega) (by rw [HW1.out]; have := GP.out; have := LT.out; omega) (by have := GP.out; omega)).mono ?_; rintro e w' ⟨rfl, hT9⟩; rw [HW1.out] at hT9; have HT9 := Aside0.mk hT9; clear hT9))
            go_step3
            exact impl_Tokens.goes HS.out E.out (by constructor) HT9.out
      · cases hb
        case true =>
          have HSZ := Aside0.mk (hasPrefix_size a0 i (by have := GP.out; omega) (by have := GP.out; omega) HPB.out)
          have e : tokNx a0 0 p i l = some (0, i, i + 2, l ++ [⟨4, a0.extract i.toNat (i + 2).toNat, i⟩]) := by unfold tokNx; rw [if_pos rfl, if_neg NX.out.1, if_neg NX.out.2.1, if_neg NX.out.2.2.1, if_neg NX.out.2.2.2.1, if_neg NX.out.2.2.2.2, if_pos HPB.out]
          have E := Aside0.mk e
          clear e
          go_wp2_with (first | (go_at_call 40; refine (strings_HasPrefix.calls _ _ _ _ HPB.out).mono ?_; rintro e W6 ⟨rfl, hd6⟩; have HT6 := Aside0.mk (show TokS w W6 a0 gt go ga gi l i i by obtain ⟨nd, rfl⟩ := hd6; exact HTP.out.drewN nd); have hct6 : W6.cell? ⟨gt, 0, none⟩ = some (.string a0) := (blk_cell HT6.out.ht 0).trans rfl; have hci6 : W6.cell? ⟨gi, 0, none⟩ = some (.int .i64 i) := (blk_cell HT6.out.hi 0).trans rfl; have hfi6 := blk_frozen HT6.out.hi 0; clear hd6) | (go_at_call 39; refine (impl_Tokens.emit w _ a0 gt go ga gi l i (wrap64 (i + 2)) 4 (by exact HT6.out.setI _) (by have := GP.out; omega) (by rw [HW2.out]; omega) (by rw [HW2.out]; have := GP.out; have := HSZ.out; omega) (by have := GP.out; omega)).mono ?_; rintro e w' ⟨rfl, hT9⟩; rw [HW2.out] at hT9; have HT9 := Aside0.mk hT9; clear hT9))
          go_step3
          exact impl_Tokens.goes HS.out E.out (by constructor) HT9.out
        case false =>
          have nhp : ¬ strings_HasPrefix.f (a0.extract i.toNat a0.size) ⟨#[45, 62]⟩ = some true := by rw [HPB.out]; simp
          by_cases c7 : 0 ≤ z
          · have e : tokNx a0 0 p i l = some (0, i, i + 1, l ++ [⟨4, a0.extract i.toNat (i + 1).toNat, i⟩]) := by unfold tokNx; rw [if_pos rfl, if_neg NX.out.1, if_neg NX.out.2.1, if_neg NX.out.2.2.1, if_neg NX.out.2.2.2.1, if_neg NX.out.2.2.2.2, if_neg nhp, if_pos (HZ.out ▸ c7)]
            have E := Aside0.mk e
            have cZ : decide (0 ≤ z) = true := decide_eq_true c7
            clear e nhp c7
            go_wp2_with (first | (go_at_call 40; refine (strings_HasPrefix.calls _ _ _ _ HPB.out).mono ?_; rintro e W6 ⟨rfl, hd6⟩; have HT6 := Aside0.mk (show TokS w W6 a0 gt go ga gi l i i by obtain ⟨nd, rfl⟩ := hd6; exact HTP.out.drewN nd); have hct6 : W6.cell? ⟨gt, 0, none⟩ = some (.string a0) := (blk_cell HT6.out.ht 0).trans rfl; have hci6 : W6.cell? ⟨gi, 0, none⟩ = some (.int .i64 i) := (blk_cell HT6.out.hi 0).trans rfl; have hfi6 := blk_frozen HT6.out.hi 0; clear hd6) | (go_at_call 41; refine (strings_IndexByte.calls _ _ _ _ HZF.out).mono ?_; rintro e W7 ⟨rfl, hd7⟩; have HT7 := Aside0.mk (show TokS w W7 a0 gt go ga gi l i i by obtain ⟨nd, rfl⟩ := hd7; exact HT6.out.drewN nd); have hci7 : W7.cell? ⟨gi, 0, none⟩ = some (.int .i64 i) := (blk_cell HT7.out.hi 0).trans rfl; have hfi7 := blk_frozen HT7.out.hi 0; clear hd7) | (go_at_call 39; refine (impl_Tokens.emit w _ a0 gt go ga gi l i (wrap64 (i + 1)) 4 (by exact HT7.out.setI _) (by have := GP.out; omega) (by rw [HW1.out]; omega) (by rw [HW1.out]; have := GP.out; have := LT.out; omega) (by have := GP.out; omega)).mono ?_; rintro e w' ⟨rfl, hT9⟩; rw [HW1.out] at hT9; have HT9 := Aside0.mk hT9; clear hT9))
            go_step3
            exact impl_Tokens.goes HS.out E.out (by constructor) HT9.out
          · have e : tokNx a0 0 p i l = some (0, i, i + 1, l ++ [⟨0, a0.extract i.toNat (i + 1).toNat, i⟩]) := by unfold tokNx; rw [if_pos rfl, if_neg NX.out.1, if_neg NX.out.2.1, if_neg NX.out.2.2.1, if_neg NX.out.2.2.2.1, if_neg NX.out.2.2.2.2, if_neg nhp, if_neg (HZ.out ▸ c7)]
            have E := Aside0.mk e
            have cZ : decide (0 ≤ z) = false := decide_eq_false c7
            clear e nhp c7
            go_wp2_with (first | (go_at_call 40; refine (strings_HasPrefix.calls _ _ _ _ HPB.out).mono ?_; rintro e W6 ⟨rfl, hd6⟩; have HT6 := Aside0.mk (show TokS w W6 a0 gt go ga gi l i i by obtain ⟨nd, rfl⟩ := hd6; exact HTP.out.drewN nd); have hct6 : W6.cell? ⟨gt, 0, none⟩ = some (.string a0) := (blk_cell HT6.out.ht 0).trans rfl; have hci6 : W6.cell? ⟨gi, 0, none⟩ = some (.int .i64 i) := (blk_cell HT6.out.hi 0).trans rfl; have hfi6 := blk_frozen HT6.out.hi 0; clear hd6) | (go_at_call 41; refine (strings_IndexByte.calls _ _ _ _ HZF.out).mono ?_; rintro e W7 ⟨rfl, hd7⟩; have HT7 := Aside0.mk (show TokS w W7 a0 gt go ga gi l i i by obtain ⟨nd, rfl⟩ := hd7; exact HT6.out.drewN nd); have hci7 : W7.cell? ⟨gi, 0, none⟩ = some (.int .i64 i) := (blk_cell HT7.out.hi 0).trans rfl; have hfi7 := blk_frozen HT7.out.hi 0; clear hd7) | (go_at_call 39; refine (impl_Tokens.emit w _ a0 gt go ga gi l i (wrap64 (i + 1)) 0 (by exact HT7.out.setI _) (by have := GP.out; omega) (by rw [HW1.out]; omega) (by rw [HW1.out]; have := GP.out; have := LT.out; omega) (by have := GP.out; omega)).mono ?_; rintro e w' ⟨rfl, hT9⟩; rw [HW1.out] at hT9; have HT9 := Aside0.mk hT9; clear hT9))
            go_step3
            exact impl_Tokens.goes HS.out E.out (by constructor) HT9.out
      · cases hb
        case true =>
          have HSZ := Aside0.mk (hasPrefix_size a0 i (by have := GP.out; omega) (by have := GP.out; omega) HPB.out)
          have e : tokNx a0 0 p i l = some (0, i, i + 2, l ++ [⟨4, a0.extract i.toNat (i + 2).toNat, i⟩]) := by unfold tokNx; rw [if_pos rfl, if_neg NX.out.1, if_neg NX.out.2.1, if_neg NX.out.2.2.1, if_neg NX.out.2.2.2.1, if_neg NX.out.2.2.2.2, if_pos HPB.out]
          have E := Aside0.mk e
          clear e
          go_wp2_with (first | (go_at_call 40; refine (strings_HasPrefix.calls _ _ _ _ HPB.out).mono ?_; rintro e W6 ⟨rfl, hd6⟩; have HT6 := Aside0.mk (show TokS w W6 a0 gt go ga gi l i i by obtain ⟨nd, rfl⟩ := hd6; exact HTP.out.drewN nd); have hct6 : W6.cell? ⟨gt, 0, none⟩ = some (.string a0) := (blk_cell HT6.out.ht 0).trans rfl; have hci6 : W6.cell? ⟨gi, 0, none⟩ = some (.int .i64 i) := (blk_cell HT6.out.hi 0).trans rfl; have hfi6 := blk_frozen HT6.out.hi 0; clear hd6) | (go_at_call 39; refine (impl_Tokens.emit w _ a0 gt go ga gi l i (wrap64 (i + 2)) 4 (by exact HT6.out.setI _) (by have := GP.out; omega) (by rw [HW2.out]; omega) (by rw [HW2.out]; have := GP.out; have := HSZ.out; omega) (by have := GP.out; omega)).mono ?_; rintro e w' ⟨rfl, hT9⟩; rw [HW2.out] at hT9; have HT9 := Aside0.mk hT9; clear hT9))
          go_step3
          exact impl_Tokens.goes HS.out E.out (by constructor) HT9.out
        case false =>
          have nhp : ¬ strings_HasPrefix.f (a0.extract i.toNat a0.size) ⟨#[45, 62]⟩ = some true := by rw [HPB.out]; simp
          by_cases c7 : 0 ≤ z
          · have e : tokNx a0 0 p i l = some (0, i, i + 1, l ++ [⟨4, a0.extract i.toNat (i + 1).toNat, i⟩]) := by unfold tokNx; rw [if_pos rfl, if_neg NX.out.1, if_neg NX.out.2.1, if_neg NX.out.2.2.1, if_neg NX.out.2.2.2.1, if_neg NX.out.2.2.2.2, if_neg nhp, if_pos (HZ.out ▸ c7)]
            have E := Aside0.mk e
            have cZ : decide (0 ≤ z) = true := decide_eq_true c7
            clear e nhp c7
            go_wp2_with (first | (go_at_call 40; refine (strings_HasPrefix.calls _ _ _ _ HPB.out).mono ?_; rintro e W6 ⟨rfl, hd6⟩; have HT6 := Aside0.mk (show TokS w W6 a0 gt go ga gi l i i by obtain ⟨nd, rfl⟩ := hd6; exact HTP.out.drewN nd); have hct6 : W6.cell? ⟨gt, 0, none⟩ = some (.string a0) := (blk_cell HT6.out.ht 0).trans rfl; have hci6 : W6.cell? ⟨gi, 0, none⟩ = some (.int .i64 i) := (blk_cell HT6.out.hi 0).trans rfl; have hfi6 := blk_frozen HT6.out.hi 0; clear hd6) | (go_at_call 41; refine (strings_IndexByte.calls _ _ _ _ HZF.out).mono ?_; rintro e W7 ⟨rfl, hd7⟩; have HT7 := Aside0.mk (show TokS w W7 a0 gt go ga gi l i i by obtain ⟨nd, rfl⟩ := hd7; exact HT6.out.drewN nd); have hci7 : W7.cell? ⟨gi, 0, none⟩ = some (.int .i64 i) := (blk_cell HT7.out.hi 0).trans rfl; have hfi7 := blk_frozen HT7.out.hi 0; clear hd7) | (go_at_call 39; refine (impl_Tokens.emit w _ a0 gt go ga gi l i (wrap64 (i + 1)) 4 (by exact HT7.out.setI _) (by have := GP.out; omega) (by rw [HW1.out]; omega) (by rw [HW1.out]; have := GP.out; have := LT.out; omega) (by have := GP.out; omega)).mono ?_; rintro e w' ⟨rfl, hT9⟩; rw [HW1.out] at hT9; have HT9 := Aside0.mk hT9; clear hT9))
            go_step3
            exact impl_Tokens.goes HS.out E.out (by constructor) HT9.out
          · have e : tokNx a0 0 p i l = some (0, i, i + 1, l ++ [⟨0, a0.extract i.toNat (i + 1).toNat, i⟩]) := by unfold tokNx; rw [if_pos rfl, if_neg NX.out.1, if_neg NX.out.2.1, if_neg NX.out.2.2.1, if_neg NX.out.2.2.2.1, if_neg NX.out.2.2.2.2, if_neg nhp, if_neg (HZ.out ▸ c7)]
            have E := Aside0.mk e
            have cZ : decide (0 ≤ z) = false := decide_eq_false c7
            clear e nhp c7
            go_wp2_with (first | (go_at_call 40; refine (strings_HasPrefix.calls _ _ _ _ HPB.out).mono ?_; rintro e W6 ⟨rfl, hd6⟩; have HT6 := Aside0.mk (show TokS w W6 a0 gt go ga gi l i i by obtain ⟨nd, rfl⟩ := hd6; exact HTP.out.drewN nd); have hct6 : W6.cell? ⟨gt, 0, none⟩ = some (.string a0) := (blk_cell HT6.out.ht 0).trans rfl; have hci6 : W6.cell? ⟨gi, 0, none⟩ = some (.int .i64 i) := (blk_cell HT6.out.hi 0).trans rfl; have hfi6 := blk_frozen HT6.out.hi 0; clear hd6) | (go_at_call 41; refine (strings_IndexByte.calls _ _ _ _ HZF.out).mono ?_; rintro e W7 ⟨rfl, hd7⟩; have HT7 := Aside0.mk (show TokS w W7 a0 gt go ga gi l i i by obtain ⟨nd, rfl⟩ := hd7; exact HT6.out.drewN nd); have hci7 : W7.cell? ⟨gi, 0, none⟩ = some (.int .i64 i) := (blk_cell HT7.out.hi 0).trans rfl; have hfi7 := blk_frozen HT7.out.hi 0; clear hd7) | (go_at_call 39; refine (impl_Tokens.emit w _ a0 gt go ga gi l i (wrap64 (i + 1)) 0 (by exact HT7.out.setI _) (by have := GP.out; omega) (by rw [HW1.out]; omega) (by rw [HW1.out]; have := GP.out; have := LT.out; omega) (by have := GP.out; omega)).mono ?_; rintro e w' ⟨rfl, hT9⟩; rw [HW1.out] at hT9; have HT9 := Aside0.mk hT9; clear hT9))
            go_step3
            exact impl_Tokens.goes HS.out E.out (by constructor) HT9.out
end Go.Proofs.YtiicaoiijhodkaaDoor.Gp
end
