-- Written by wip/tools/mkprint.py (my program) out of the translation, for this claim. Not trusted: Lean checks it.
import Derived.Test.YtcpdeenhjodmfaaDoorQBigTextx0
import Derived.Test.YtcpdeenhjodmfaaDoorQBigTextx2
namespace Go.Proofs.YtcpdeenhjodmfaaDoor.QBigText
open Go.RowKit Go.Proofs.YtcpdeenhjodmfaaDoorW.PrintWords Go.Proofs.YtcpdeenhjodmfaaDoorW.PrintLast Go.Proofs.YtcpdeenhjodmfaaDoorW.PrintMore
attribute [local go_sem] max2_int min2_int max_two min_two max_three min_three max_four min_four   -- for this text's walks alone
set_option linter.unusedVariables false
set_option linter.unusedSimpArgs false

/-! ### impl_BigText: function 8 -/
/-- What a round keeps: block B, and whatever lies at or beyond s. -/
structure KpS (B s : Nat) (W W' : World) : Prop where
  size : W.heap.size ≤ W'.heap.size
  same : ∀ k, (s ≤ k ∨ k = B) → k < W.heap.size → W'.heap[k]? = W.heap[k]?
theorem KpS.trans {B s : Nat} {X Y Z : World} (h : KpS B s X Y) (k : KpS B s Y Z) : KpS B s X Z := ⟨Nat.le_trans h.size k.size, fun i hi hl => (k.same i hi (Nat.lt_of_lt_of_le hl h.size)).trans (h.same i hi hl)⟩
theorem KpS.putObj {B s : Nat} {W : World} {l : Nat} (o : Obj) (h1 : l < s) (h2 : l ≠ B) : KpS B s W (W.putObj l o) :=
  ⟨by simp [World.putObj], fun k hk hl => World.putObj_heap_other (by omega)⟩
/-- An iterator whose state lies in block B. -/
def SeqS (F : Fence) (n : Nat) (P : Program) (gf : Nat) (lb : Array Value) (B T : Nat) (enc : Int → Value) (xs : List Int) (w0 : World) : Prop :=
  ∀ (l : Nat) (J : List Int → Nat → World → Prop) (W : World), Below w0.heap.size w0 W →
    (∀ pre s W1 W2 row, J pre s W1 → W1.grownBy W2 row → (row = none ∨ row = some B) → (∃ cs, W2.heap[B]? = some (.cells cs T (0, 0))) → J pre s W2) →
    (∀ pre x s W1, J pre s W1 → s ≤ W1.heap.size → pre.length < xs.length → YieldAt F (n - 1) P l #[enc x] W1 fun e W' => e = .returned (.bool true) ∧ ∃ s', s' ≤ W'.heap.size ∧ J (pre ++ [x]) s' W' ∧ KpS B s W1 W') →
    J [] W.heap.size W →
    CallsIn F n P gf (#[.func (.yield l) #[] #[]] ++ lb) W fun e W' => (∃ v, e = .returned v) ∧ ∃ s, J xs s W'
def ownPostS (B s z : Nat) (I : List Int → Nat → World → Prop) (xs : List Int) (W : World) : Exit → Act → World → Prop
  | .normal, _, W' => KeepsFrom z W W' ∧ KpS B s W W' ∧ I xs W'.heap.size W'
  | _, _, _ => False
theorem wpIn_rangeFunc_S {F : Fence} {n : Nat} {P : Program} {g : Operand} {ps : Array Tmp} {assign body : Code} {Q : Exit → Act → World → Prop} {a : Act} {w : World}
    (hro : F.round = none) (h1 : 1 ≤ n) {gf : Nat} {lb : Array Value} (hg : a.eval g = .func (.func gf) #[] lb) (hFg : F.fn gf) (eg : ∀ args w, (callFunc gf args).run P w = .ok (.enter gf args) w)
    {enc : Int → Value} {xs : List Int} {B T : Nat} {w0 : World} (hseq : SeqS F (n - 1) P gf lb B T enc xs w0) (hB : B < w.heap.size) (hb0 : Below w0.heap.size w0 w) (hps : ps.size = 1)
    (I : List Int → Nat → World → Prop)
    (hI : ∀ pre s W W' row, I pre s W → W.grownBy W' row → (∀ r, row = some r → (r = B ∧ ∃ cs, W'.heap[B]? = some (.cells cs T (0, 0))) ∨ (w.heap.size ≤ r ∧ ∃ o : Obj, W.heap[r]? = some o ∧ o.isCells = false)) → I pre s W')
    (h0 : ∀ s, w.heap.size ≤ s → I [] s w) (a₁ : Int → Act)
    (hassign : ∀ (l : Nat) (x : Int) (W : World) (K : Act → World → Prop), K (a₁ x) W →
      assign.wpIn (F.inRound l) (n - 1 - 1) P (Exit.then K (fun _ _ _ => False)) { tmps := (ps.zip #[enc x]).foldl (fun t (p, v) => t.setIfInBounds p v) a.tmps, defers := [] } W)
    (hbody : ∀ (l : Nat) (pre : List Int) (x : Int) (s : Nat) (W : World), I pre s W → s ≤ W.heap.size → w.heap.size + 2 ≤ s → pre.length < xs.length → body.wpIn (F.inRound l) (n - 1 - 1) P (ownPostS B s w.heap.size I (pre ++ [x]) W) (a₁ x) W)
    (hdone : ∀ (D s : Nat) (W : World), w.heap.size ≤ D → I xs s W → W.heap[D]? = some (.deferred (some [])) → Q .normal { a with defers := { target := .collected D, args := #[] } :: a.defers } W) :
    (Code.rangeFunc g ps assign body).wpIn F n P Q a w := by
  refine wpIn_rangeFunc ?_
  intro fn hfn
  rw [hro]
  obtain ⟨rec, hrec⟩ : ∃ rec : LoopState → Option Code → Loop, rec = fun st pe => { state := st, pending := pe, fn, tmps := a.tmps, params := ps, assign, body, defers := w.heap.size } := ⟨_, rfl⟩
  obtain ⟨W1, hW1⟩ : ∃ W1, (w.alloc (.deferred (some []))).alloc (.loop (rec .ready none)) = W1 := ⟨_, rfl⟩
  have hsz : W1.heap.size = w.heap.size + 2 := by rw [← hW1]; simp
  have hL1 : W1.heap[w.heap.size + 1]? = some (.loop (rec .ready none)) := by
    rw [← hW1]; have := World.alloc_heap_new (w.alloc (.deferred (some []))) (.loop (rec .ready none)); rwa [World.size_alloc] at this
  have hK1 : W1.heap[w.heap.size]? = some (.deferred (some [])) := by
    rw [← hW1]; exact (Below.heap_alloc _ _ _ (by simp)).trans (World.alloc_heap_new w _)
  have hI1 : I [] W1.heap.size W1 := by
    have h2 := h0 W1.heap.size (by omega)
    rw [← hW1] at h2 ⊢
    exact hI _ _ _ _ none (hI _ _ _ _ none h2 (World.grownBy_alloc _ _ none) (fun r e => by cases e)) (World.grownBy_alloc _ _ none) (fun r e => by cases e)
  have hb1 : Below w0.heap.size w0 W1 := by
    rw [← hW1]; exact hb0.trans ((((Below.refl _ w).alloc (Nat.le_refl _) _).alloc (by simp) _).mono hb0.size)
  have hIput : ∀ {pre : List Int} {s : Nat} {W : World} {l : Nat} {o : Obj} (o' : Obj), I pre s W → w.heap.size ≤ l → W.heap[l]? = some o → o.isCells = false → I pre s (W.putObj l o') := fun o' hi hl hk ho =>
    hI _ _ _ _ (some _) hi (grownBy_putObj' _ _ o') (fun r e => by cases e; exact .inr ⟨hl, _, hk, ho⟩)
  refine ⟨w.heap.size + 1, [{ target := .collected w.heap.size, args := #[] }], W1, { target := .fn (.func gf) lb, args := #[.func (.yield (w.heap.size + 1)) #[] #[]] }, W1, gf,
    #[.func (.yield (w.heap.size + 1)) #[] #[]] ++ lb, W1, ?_, ?_, ?_, ?_, fun _ => h1, ?_⟩
  · rw [← hW1, hrec]; exact run_enterLoop_outer _ _ _ _ _
  · simp only [resolve, hg]
    simp [go_sem]
  · intro f' hf'; simp [Target.leads] at hf'; subst hf'; exact hFg
  · simp [invoke, go_sem, eg]
  · refine (hseq (w.heap.size + 1)
      (fun pre s W => w.heap.size + 2 ≤ s ∧ I pre s W ∧ W.heap[w.heap.size + 1]? = some (.loop (rec .ready none)) ∧ W.heap[w.heap.size]? = some (.deferred (some [])))
      W1 hb1
      (fun pre s A A' row hs hg' hr hT => by
        have hne : ∀ k, w.heap.size ≤ k → some k ≠ row := fun k hk e => by
          rcases hr with hr | hr
          · rw [hr] at e; cases e
          · rw [hr] at e; cases e; omega
        exact ⟨hs.1, hI _ _ _ _ row hs.2.1 hg' (fun r e => by
          rcases hr with hr | hr
          · rw [hr] at e; cases e
          · rw [hr] at e; cases e; exact .inl ⟨rfl, hT⟩), (hg'.block _ (Array.getElem?_eq_some_iff.1 hs.2.2.1).1 (hne _ (by omega))).trans hs.2.2.1, (hg'.block _ (Array.getElem?_eq_some_iff.1 hs.2.2.2).1 (hne _ (Nat.le_refl _))).trans hs.2.2.2⟩)
      ?_ ⟨by omega, hI1, hL1, hK1⟩).mono ?_
    · rintro pre x s W ⟨hs, hi, hl, hk⟩ hsW hlen
      have hlt : w.heap.size + 1 < W.heap.size := (Array.getElem?_eq_some_iff.1 hl).1
      have hy := run_yield (P := P) (args := #[enc x]) hl (by rw [hrec]; exact hps.symm)
      rw [hrec] at hy
      refine ⟨fn, _, assign, body, hy, roundIn_of_wpIn hfn (hassign _ x W _ ⟨_, run_beginRound hl (by rw [hrec]), ?_⟩)⟩
      obtain ⟨W2, hW2⟩ : ∃ W2, W.putObj (w.heap.size + 1) (.loop { rec .ready none with state := .busy }) = W2 := ⟨_, rfl⟩
      have hl2 : W2.heap[w.heap.size + 1]? = some (.loop { rec .ready none with state := .busy }) := by rw [← hW2]; exact World.putObj_heap_same hlt
      have hk2 : W2.heap[w.heap.size]? = some (.deferred (some [])) := by rw [← hW2]; exact (World.putObj_heap_other (by omega)).trans hk
      have hw2 : KpS B s W W2 := by rw [← hW2]; exact KpS.putObj _ (by omega) (by omega)
      have hi2 : I pre s W2 := by rw [← hW2]; exact hIput _ hi (by omega) hl rfl
      have hs2 : s ≤ W2.heap.size := Nat.le_trans hsW hw2.size
      subst hW2
      refine wpIn_mono (hbody (w.heap.size + 1) pre x s _ hi2 hs2 hs hlen) ?_
      rintro e a3 W3 hp
      cases e with
      | normal =>
        obtain ⟨hk3, hkp3, hi3⟩ := hp
        have hl3 := hk3.same _ _ (by omega) hl2 rfl
        have hr := run_endRound (P := P) none hl3
        rw [hrec] at hr hl3
        have hlt3 : w.heap.size + 1 < W3.heap.size := (Array.getElem?_eq_some_iff.1 hl3).1
        refine ⟨_, _, hr, rfl, W3.heap.size, by simp [World.putObj], ⟨by omega, hIput _ hi3 (by omega) hl3 rfl, ?_, ?_⟩, (hw2.trans hkp3).trans (KpS.putObj _ (by omega) (by omega))⟩
        · rw [hrec]; exact World.putObj_heap_same hlt3
        · exact (World.putObj_heap_other (by omega)).trans (hk3.same _ _ (Nat.le_refl _) hk2 rfl)
      | ret => exact hp.elim
      | exit id => exact hp.elim
      | goto t => exact hp.elim
      | panic ch => exact hp.elim
      | outgrown => exact hp.elim
    · rintro e W2 ⟨⟨v, rfl⟩, s, hs, hi, hl, hk⟩
      exact ⟨none, _, by have := run_endLoop (P := P) hl (by rw [hrec]; simp); rw [hrec] at this; exact this, hdone _ s _ (Nat.le_refl _) (hIput _ hi (by omega) hl rfl) ((World.putObj_heap_other (by omega)).trans hk)⟩
attribute [local go_sem] Oper.semAt_some
def impl_nines.f : Nat → List Int → Option (List Int)
  | 0, _ => none
  | k + 1, b => if 0 < b.length then (impl_limbs_small.f k b 1000000000).bind fun t => (impl_nines.f k t.1).bind fun r => some (t.2 :: r) else some []
theorem impl_nines.mono : ∀ k b, LeO (impl_nines.f k b) (impl_nines.f (k + 1) b)
  | 0, b => fun r h => by simp [impl_nines.f] at h
  | k + 1, b => by
    rw [impl_nines.f, impl_nines.f]
    refine LeO.ite ?_ (LeO.refl _)
    refine LeO.bind (impl_limbs_small.mono _ _ _) (fun t => ?_)
    exact LeO.bind (impl_nines.mono k t.1) (fun _ => LeO.refl _)
set_option maxHeartbeats 8000000 in
set_option maxRecDepth 100000 in
theorem impl_nines1.seq (n k Bn : Nat) (A : Option Addr) (c : Nat) (a xs : List Int) (w0 : World) (hn : 3 ≤ n) (hbox : w0.heap[Bn]? = some (.cells #[.slice A a.length c] 57 (0, 0))) (hc : a.length ≤ c)
    (hR : Kd.C (Kd.int .u32) w0 A a.length a) (h : impl_nines.f k a = some xs) :
    SeqS Fence.wide n Tryd.prog 47 #[.pointer (some ⟨Bn, 0, none⟩)] Bn 57 (fun x => .int .u32 x) xs w0 := by
  intro l J W hW hJ hY h0
  have hBn : Bn < w0.heap.size := blk_lt hbox
  have h1n : 1 ≤ n := by omega
  have h1m : 1 ≤ n - 1 := by omega
  refine callsIn_of_wp Tryd.func47 rfl trivial ?_ rfl
  simp only [Tryd.ntmps47, List.size_toArray, List.length_cons, List.length_nil, Nat.reduceAdd, Nat.reduceSub, Array.replicate_succ, Array.replicate_zero, List.push_toArray, List.append_toArray, List.nil_append, List.cons_append]
  gi_wp2
  refine wpIn_loop_rounds k ?_
  change Code.roundsIn _ _ _ ?cc ?QQ _ _ _
  have key : ∀ (k : Nat) (b ys pre : List Int) (s : Nat) (A : Option Addr) (c : Nat) (W : World) (u2 u3 u4 u5 u6 u7 u8 u9 u10 u11 u12 u13 u14 u15 : Value), W.heap[Bn]? = some (.cells #[.slice A b.length c] 57 (0, 0)) → b.length ≤ c → Kd.C (Kd.int .u32) W A b.length b → impl_nines.f k b = some ys → xs = pre ++ ys → s ≤ W.heap.size → J pre s W →
      Code.roundsIn Fence.wide n Tryd.prog ?cc ?QQ k { tmps := #[.func (.yield l) #[] #[], .pointer (some ⟨Bn, 0, none⟩), u2, u3, u4, u5, u6, u7, u8, u9, u10, u11, u12, u13, u14, u15], defers := [] } W := by
    intro k
    induction k with
    | zero => intro b ys pre s A c W u2 u3 u4 u5 u6 u7 u8 u9 u10 u11 u12 u13 u14 u15 _ _ _ h _ _ _; simp [impl_nines.f] at h
    | succ k ih =>
      intro b ys pre s A c W u2 u3 u4 u5 u6 u7 u8 u9 u10 u11 u12 u13 u14 u15 hbx hc hC h hx hs hJ1
      rw [roundsIn_succ]
      have hcB : W.cell? ⟨Bn, 0, none⟩ = some (.slice A b.length c) := (blk_cell hbx 0).trans rfl
      rw [impl_nines.f] at h
      by_cases hb : 0 < b.length
      · rw [if_pos hb] at h
        obtain ⟨t, ht, h⟩ := Option.bind_eq_some_iff.mp h
        obtain ⟨r, hr, h⟩ := Option.bind_eq_some_iff.mp h
        obtain rfl := Option.some.inj h
        obtain ⟨r1, r2⟩ := t
        have hgt : decide ((b.length : Int) > 0) = true := decide_eq_true (by omega)
        have hgt2 : ((0 : Int) < (b.length : Int)) = True := eq_true (by omega)
        gi_wp2_with (refine ⟨trivial, ?_⟩; gi_at_call 48; refine (callsIn_wide.2 (impl_limbs_small.calls k A c b 1000000000 r1 r2 W hC hc ht)).mono ?_; rintro e w2 ⟨v0, rfl, hV, hb2⟩; obtain ⟨A2, c2, rfl⟩ := Kd.V_slice hV; have hbx2 := blk_below hbx hb2; have hcB2 : w2.cell? ⟨Bn, 0, none⟩ = some (.slice A b.length c) := (blk_cell hbx2 0).trans rfl; have hfB2 := blk_frozen hbx2 0; have hg3 := grownBy_setCell' w2 Bn (.slice A2 r1.length c2); obtain ⟨fn_, tm_, as_, bd_, hy, hRd⟩ := hY pre r2 s (w2.setCell ⟨Bn, 0, none⟩ (.slice A2 r1.length c2)) (hJ _ _ _ _ _ (hJ _ _ _ _ none hJ1 (grown_of_below hb2 none) (.inl rfl) ⟨_, hbx2⟩) hg3 (.inr rfl) ⟨_, blk_put (cs := #[.slice A b.length c]) hbx2 0 _ rfl⟩) (Nat.le_trans hs (Nat.le_trans hb2.size hg3.size)) (by rw [hx, List.length_append, List.length_cons]; omega))
        refine hRd.mono ?_
        rintro e W4 ⟨rfl, s4, hs4, hJ4, hK4⟩
        have hBlt : Bn < W.heap.size := blk_lt hbx
        have hbx3 : (w2.setCell ⟨Bn, 0, none⟩ (.slice A2 r1.length c2)).heap[Bn]? = some (.cells #[.slice A2 r1.length c2] 57 (0, 0)) := blk_put (cs := #[.slice A b.length c]) hbx2 0 _ rfl
        have hbx4 := (hK4.same Bn (.inr rfl) (blk_lt hbx3)).trans hbx3
        have hV4 := Kd.V_step (Kd.V_far hV (p := ⟨Bn, 0, none⟩) (fun k_ hk_ => by dsimp only; omega) (.slice A2 r1.length c2)) (fun k_ hk_ hl_ => hK4.same k_ (.inl (Nat.le_trans hs hk_)) hl_)
        gi_wp2
        exact ih r1 r (pre ++ [r2]) s4 A2 c2 W4 _ _ _ _ _ _ _ _ _ _ _ _ _ _ hbx4 (Kd.V_reads' hV4).2.1 (Kd.V_reads' hV4).2.2 hr (by rw [hx, List.append_assoc]; rfl) hs4 hJ4
      · rw [if_neg hb] at h
        obtain rfl := Option.some.inj h
        obtain rfl : b = [] := List.eq_nil_of_length_eq_zero (by omega)
        rw [List.append_nil] at hx
        subst hx
        gi_wp2
        go_end0
        exact ⟨⟨_, rfl⟩, s, hJ1⟩
  exact key k a xs [] W.heap.size A c W _ _ _ _ _ _ _ _ _ _ _ _ _ _ (blk_below hbox hW) hc (Kd.C_below hR hW) h rfl (Nat.le_refl _) h0
set_option maxHeartbeats 8000000 in
set_option maxRecDepth 100000 in
theorem impl_nines.calls (A : Option Addr) (c : Nat) (a : List Int) (w : World) :
    Calls Tryd.prog 26 #[.slice A a.length c] w fun e w' => ∃ g, e = .returned (.func (.func 47) #[] #[.pointer (some ⟨g, 0, none⟩)]) ∧ w'.heap[g]? = some (.cells #[.slice A a.length c] 57 (0, 0)) ∧ w.heap.size ≤ g ∧ Below w.heap.size w w' := by
  go_enter Tryd.func26, Tryd.ntmps26
  go_wp2
  go_ret
  exact ⟨w.heap.size, rfl, blk_new w _, Nat.le_refl _, below_alloc (Below.refl _ _) _⟩
def itoaB (g : Int) : List Int := (Lib.itoa g).map fun b => ((b.toNat : Nat) : Int)
def grpB (i : Nat) (g : Int) : List Int := (if 0 < i then List.replicate (9 - (itoaB g).length) 48 else []) ++ itoaB g
def grpsB (l : List Int) (n : Nat) : List Int := (List.range n).flatMap fun i => grpB i (l.getD i 0)
def textB0 (neg : Bool) : List Int := if neg = true then [45] else []
def textB (neg : Bool) (gs : List Int) : List Int := textB0 neg ++ grpsB gs.reverse gs.length
def ok9 (gs : List Int) : Bool := gs.all fun g => decide (0 ≤ g ∧ g < 1000000000)
def impl_BigText.f (k : Nat) (a0_0 : Bool) (l0_1 : List Int) : Option (List Int × Int) := (impl_BigValid.f a0_0 l0_1).bind fun t => (if t = true then ((impl_nines.f k l0_1).bind fun gs => (if gs.length = 0 then some ([48], 0) else (if gs.length ≤ 1048576 ∧ ok9 gs = true then some (textB a0_0 gs, 0) else none))) else some ([], 1))
theorem impl_BigText.mono : ∀ a0 a1 k, LeO (impl_BigText.f k a0 a1) (impl_BigText.f (k + 1) a0 a1) := by
  intro a0 a1 k
  unfold impl_BigText.f
  repeat' with_reducible first | exact impl_nines.mono _ _ | exact LeO.refl _ | exact LeO.none _ | refine LeO.ite ?_ ?_ | refine LeO.bind ?_ (fun _ => ?_)
def TabW (w : World) : Prop := Lib.TabIs Tryd.prog w "internal/strconv.uint64pow10" .u64 Lib.pow10Tab
/-- A row of bytes that the call owns; or one byte whose place a literal has marked. -/
def RM (w : World) (base : Nat) (ok : Nat → Prop) (v : Value) (xs : List Int) : Prop :=
  Kd.R (Kd.int .u8) 5 w base ok v xs ∨ ∃ gl x, xs = [x] ∧ v = .slice (some ⟨gl, 0, none⟩) 1 1 ∧ ok gl ∧ base ≤ gl ∧ w.heap[gl]? = some (.cells #[.int .u8 x] 5 (1, 2))
section
variable {w w1 : World} {base : Nat} {ok ok' : Nat → Prop} {v : Value} {xs : List Int}
theorem RM_ok (h : RM w base ok v xs) : ∀ k, v.ownBlock = some k → ok k := by
  rcases h with h | ⟨gl, x, rfl, rfl, ho, hb, hg⟩
  · exact h.1
  · intro k hk
    injection hk with hk
    exact hk ▸ ho
theorem RM_lt (h : RM w base ok v xs) : ∀ k, v.ownBlock = some k → k < w.heap.size := by
  rcases h with h | ⟨gl, x, rfl, rfl, ho, hb, hg⟩
  · exact Kd.R_lt h
  · intro k hk
    injection hk with hk
    exact hk ▸ blk_lt hg
theorem RM_base (h : RM w base ok v xs) : ∀ k, v.ownBlock = some k → base ≤ k := by
  rcases h with h | ⟨gl, x, rfl, rfl, ho, hb, hg⟩
  · exact Kd.R_base h
  · intro k hk
    injection hk with hk
    exact hk ▸ hb
theorem RM_mono (h : RM w base ok v xs) (hok : ∀ k, ok k → ok' k) : RM w base ok' v xs := by
  rcases h with h | ⟨gl, x, rfl, rfl, ho, hb, hg⟩
  · exact .inl (Kd.R_mono h hok)
  · exact .inr ⟨gl, x, rfl, rfl, hok _ ho, hb, hg⟩
theorem RM_tight (h : RM w base ok v xs) : RM w base (fun k => some k = v.ownBlock) v xs := by
  rcases h with h | ⟨gl, x, rfl, rfl, ho, hb, hg⟩
  · exact .inl (Kd.R_tight rfl h)
  · exact .inr ⟨gl, x, rfl, rfl, rfl, hb, hg⟩
theorem RM_reok (h : RM w base ok v xs) (hok : ∀ k, v.ownBlock = some k → ok' k) : RM w base ok' v xs := RM_mono (RM_tight h) (fun k hk => hok k hk.symm)
theorem RM_bound (h : RM w base ok v xs) : RM w base (fun k => ok k ∧ base ≤ k ∧ k < w.heap.size ∧ v.ownBlock = some k) v xs :=
  RM_mono (RM_tight h) (fun k hk => ⟨RM_ok h k hk.symm, RM_base h k hk.symm, RM_lt h k hk.symm, hk.symm⟩)
theorem RM_step (h : RM w base ok v xs) (hm : ∀ k, ok k → k < w.heap.size → w1.heap[k]? = w.heap[k]?) : RM w1 base ok v xs := by
  rcases h with h | ⟨gl, x, rfl, rfl, ho, hb, hg⟩
  · exact .inl (Kd.R_step h hm)
  · exact .inr ⟨gl, x, rfl, rfl, ho, hb, (hm gl ho (blk_lt hg)).trans hg⟩
theorem RM_below (h : RM w base ok v xs) (hb : Below w.heap.size w w1) : RM w1 base ok v xs := RM_step h (fun k _ hk => hb.block k hk)
theorem RM_alloc (h : RM w base ok v xs) (o : Obj) : RM (w.alloc o) base ok v xs := RM_below h (below_alloc (Below.refl _ _) o)
theorem RM_drew (h : RM w base ok v xs) : RM w.drew base ok v xs := RM_below h (below_drew (Below.refl _ _))
theorem RM_drewN (h : RM w base ok v xs) (m : Nat) : RM (w.drewN m) base ok v xs := RM_below h (pw_below_drewN (Below.refl _ _) m)
theorem RM_lower {base' : Nat} (h : RM w base ok v xs) (hb : base' ≤ base) : RM w base' ok v xs := by
  rcases h with h | ⟨gl, x, rfl, rfl, ho, hb', hg⟩
  · exact .inl (Kd.R_lower h hb)
  · exact .inr ⟨gl, x, rfl, rfl, ho, Nat.le_trans hb hb', hg⟩
theorem RM_slice (h : RM w base ok v xs) : ∃ A c, v = .slice A xs.length c := by
  rcases h with h | ⟨gl, x, rfl, rfl, ho, hb, hg⟩
  · exact Kd.R_slice h
  · exact ⟨_, _, rfl⟩
theorem one_C {W : World} {gl : Nat} {x : Int} {t : Nat} {fr : Nat × Nat} (hg : W.heap[gl]? = some (.cells #[.int .u8 x] t fr)) : Kd.C (Kd.int .u8) W (some ⟨gl, 0, none⟩) 1 [x] := by
  refine Kd.C_of_reads (d := (0 : Int)) ⟨rfl, by simp, fun _ => ⟨⟨gl, 0, none⟩, rfl, fun j hj => ?_⟩⟩
  obtain rfl : j = 0 := by simpa using hj
  rw [Addr.add_lit]
  simp only [World.cell?, hg]
  rfl
theorem RM_reads' {A : Option Addr} {n c : Nat} (h : RM w base ok (.slice A n c) xs) : n = xs.length ∧ n ≤ c ∧ Kd.C (Kd.int .u8) w A xs.length xs := by
  rcases h with h | ⟨gl, x, rfl, e, ho, hb, hg⟩
  · exact Kd.R_reads' h
  · injection e with e1 e2 e3
    subst e1; subst e2; subst e3
    exact ⟨rfl, Nat.le_refl _, one_C hg⟩
theorem RM_ne (h : RM w base ok v xs) {g t : Nat} {cells : Array Value} (hb : w.heap[g]? = some (.cells cells t (0, 0))) (_ht : 5 ≠ t) : some g ≠ v.ownBlock := by
  rcases h with h | ⟨gl, x, rfl, rfl, ho, hb', hg⟩
  · exact Kd.R_ne h hb _ht
  · intro e
    injection e with e
    rw [e, hg] at hb
    cases hb
theorem RM_new' {W : World} {u : Value} (h : RM w1 W.heap.size ok v xs) (hlt : ∀ k, u.ownBlock = some k → k < W.heap.size) : RM w1 W.heap.size (fun k => ok k ∧ some k ≠ u.ownBlock) v xs :=
  RM_mono (RM_bound h) (fun k hk => ⟨hk.1, fun e => by have := hlt k e.symm; have := hk.2.1; omega⟩)
theorem RM_elder' {u : Value} (h : RM w base ok v xs) (hbase : ∀ k, u.ownBlock = some k → w.heap.size ≤ k) (hb : Below w.heap.size w w1) : RM w1 base (fun k => ok k ∧ some k ≠ u.ownBlock) v xs :=
  RM_below (RM_mono (RM_bound h) (fun k hk => ⟨hk.1, fun e => by have := hbase k e.symm; have := hk.2.2.1; omega⟩)) hb
theorem RM_apart' {u : Value} {e' : Nat} (h : RM w base ok v xs) (hty : ∀ k, u.ownBlock = some k → ∃ cells, w.heap[k]? = some (.cells cells e' (0, 0))) (ht : ∀ q, q ∈ 5 :: (Kd.int .u8).E → q ≠ e') : RM w base (fun k => ok k ∧ some k ≠ u.ownBlock) v xs :=
  RM_mono (RM_bound h) (fun k hk => ⟨hk.1, fun e => by
    obtain ⟨cells, hc⟩ := hty k e.symm
    exact RM_ne h hc (ht _ List.mem_cons_self) hk.2.2.2.symm⟩)
theorem R_apartM {d : Kd Int} {e b : Nat} {oku : Nat → Prop} {u : Value} {ys : List Int} (hE : d.E = []) (h : d.R e w b oku u ys) (hm : RM w base ok v xs) (ht : 5 ≠ e) : d.R e w b (fun k => oku k ∧ some k ≠ v.ownBlock) u ys :=
  Kd.R_mono (Kd.R_tight hE h) (fun k hk => ⟨h.1 k hk.symm, fun e2 => by
    obtain ⟨cells, hc⟩ := Kd.R_typed h k hk.symm
    exact RM_ne hm hc ht e2⟩)
theorem RM_keptB {S : Nat → Prop} (h : RM w base ok v xs) (hk : Kept w w1 S) (hne : ∀ k, ok k → ¬ S k) : RM w1 base (fun k => ok k ∧ (¬ S k ∧ k < w.heap.size)) v xs :=
  RM_step (RM_mono (RM_bound h) (fun k hk => ⟨hk.1, hne k hk.1, hk.2.2.1⟩)) (fun k ho hl => hk.2 k hl ho.2.1)
end
theorem pM {base : Nat} {ok : Nat → Prop} {v : Value} {xs : List Int} {W w : World} (_h : Aside0 (RM W base ok v xs)) (hs : RM w base ok v xs := by (with_reducible repeat (first | apply RM_alloc | apply RM_drewN | apply RM_drew)); exact Aside0.out (by assumption)) : RM w base ok v xs := hs
theorem cM {A : Option Addr} {n c base : Nat} {ok : Nat → Prop} {xs : List Int} {W v : World} (_h : Aside0 (RM W base ok (.slice A n c) xs)) (hs : Kd.C (Kd.int .u8) v A xs.length xs := by repeat (first | exact (RM_reads' (Aside0.out (by assumption))).2.2 | (with_reducible refine Kd.C_alloc ?_ _) | (with_reducible refine Kd.C_drewN ?_ _) | (with_reducible refine Kd.C_drew ?_))) : Kd.C (Kd.int .u8) v A xs.length xs := hs
def OutR (w' : World) (base : Nat) (v : Value) (r : List Int) : Prop := RM w' base (fun _ => True) v r
attribute [local go_sem] Oper.semAt_some
section
variable {P : Program} {ops : Array Oper} {rest : List Oper} {o o2 : Oper} {a : Act} {Q : Exit → Act → World → Prop}
/-- A row of bytes laid by a literal, which a conversion to its own type marks. -/
theorem lit_mark_event {W : World} (hgd : o.guard = none) (hgd2 : o2.guard = none) {N N2 : Tmp} (hd : o.dst = some N) (hd2 : o2.dst = some N2) {t e : TypeId} (ht : P.underlying t = some (.slice e)) (he : P.underlying e = some (.int .u8)) (ho2 : o2.op = .convert t t (.tmp N)) {cs : Array Value} {n : Nat}
    (hrun : (execOp a.eval o).run P W = .ok (.value (.slice (some ⟨W.heap.size, 0, none⟩) n n)) (W.alloc (.cells cs e)))
    (hev : ∀ v, (a.put (some N) v).eval (.tmp N) = v)
    (h : ∀ g, g = W.heap.size → ∀ w1, w1.heap[g]? = some (.cells cs e (cs.size, cs.size + 1)) → Below W.heap.size W w1 → wpList P ops Q rest ((a.put (some N) (.slice (some ⟨g, 0, none⟩) n n)).put (some N2) (.slice (some ⟨g, 0, none⟩) n n)) w1) : wpList P ops Q (o :: o2 :: rest) a W := by
  refine Kd.event_run hgd hrun ?_
  rw [hd]
  refine Kd.event_run (v := .slice (some ⟨W.heap.size, 0, none⟩) n n) (w1 := W.alloc (.cells cs e (cs.size, cs.size + 1))) hgd2 ?_ ?_
  · have hk := Lib.run_convert_bytes_const (P := P) W t e cs n n ht he
    simp only [execOp, ho2, hev, Sem.run_bind, hk, Result.andThen]
    rfl
  · rw [hd2]
    exact h _ rfl _ (heap_alloc_new W _) (below_alloc (Below.refl _ _) _)
/-- 'append' onto such a row: it is full, so what is appended to lies in a new row. -/
theorem append_mark {W : World} (hgd : o.guard = none) (s x : Operand) (t e : TypeId) (ho : o.op = .call { callee := .builtin .append, args := #[s, x], argTypes := #[t, t] })
    (ht : P.underlying t = some (.slice e)) (hinfo : (P.info? e).map (fun i => (i.zero, i.size, i.bytes)) = some (some (.int .u8 0), 1, 1))
    (g : Nat) (xs ys : List Int) (A : Option Addr) (m c : Nat) (fr : Nat × Nat) (hs : a.eval s = .slice (some ⟨g, 0, none⟩) xs.length xs.length) (hx : a.eval x = .slice A m c)
    (HM : W.heap[g]? = some (.cells (xs.map (Value.int .u8)).toArray e fr)) (HR : Kd.C (Kd.int .u8) W A m ys) (hm : 0 < ys.length) (hl : xs.length + ys.length ≤ 140737488355328)
    (h : ∀ v1 w1, Kd.R (Kd.int .u8) e w1 W.heap.size (fun _ => True) v1 (xs ++ ys) → Below W.heap.size W w1 → W.grownBy w1 none → wpList P ops Q rest (a.put o.dst v1) w1) : wpList P ops Q (o :: rest) a W := by
  obtain ⟨i0, hi, hz0, hz1, hz2⟩ := info_parts hinfo
  have HR' := HR
  obtain ⟨hys, _, had⟩ := HR'
  obtain rfl : ys.length = m := hys
  obtain ⟨ad, rfl, _⟩ := had hm
  obtain ⟨news, hnr, hnc⟩ := ReadsRow.inner_ HR
  have hsz : (Kd.int .u8).sz = 1 := rfl
  have hn1 : news.length = ys.length * 1 := hnr.1
  have hx1 : Reps ((Kd.int .u8).K W) 1 xs (xs.map (Value.int .u8)) := by
    refine ⟨by simp, fun j p hj => ?_⟩
    have hlt := (List.getElem?_eq_some_iff.1 hj).1
    have hp := (List.getElem?_eq_some_iff.1 hj).2
    show ((xs.map (Value.int .u8)).drop (j * 1)).take 1 = [Value.int .u8 p]
    rw [Nat.mul_one, List.drop_eq_getElem_cons (by simpa using hlt)]
    simp [hp]
  have hone : ∀ u ∈ news, u.oneCell' = true := by
    intro u hu
    obtain ⟨j, hj, rfl⟩ := List.mem_iff_getElem.1 hu
    have h2 := hnr.2 j _ (List.getElem?_eq_getElem (by omega : j < ys.length))
    have h3 : (news.drop (j * 1)).take 1 = [Value.int .u8 (ys[j]'(by omega))] := h2
    rw [Nat.mul_one, List.drop_eq_getElem_cons hj, List.take_succ_cons, List.take_zero] at h3
    rw [(List.cons.inj h3).1]
    rfl
  refine wpList_append_grows W hgd s x t ho e i0 (.int .u8 0) 1 1 ht hi hz0 hz1 hz2 rfl (by decide) (some ⟨g, 0, none⟩) xs.length xs.length (xs.map (Value.int .u8)) hs (fun h => by cases h) (by simp) ?_ ad ys.length c news hx hn1 hnc hone (by omega) (by unfold maxLen; omega) (by omega) ?_
  · intro b hb j u hu
    injection hb with hb
    subst hb
    rw [Addr.add_lit]
    have hj := (List.getElem?_eq_some_iff.1 hu).1
    simp only [World.cell?, HM, Nat.zero_add]
    simpa using hu
  · intro v1 w1 hown hg
    refine h v1 w1 ⟨fun _ _ => trivial, _, by rw [List.length_append]; exact hown, ?_⟩ ((Below.refl W.heap.size W).grown hg (Nat.le_refl _) (fun k hk => by cases hk)) hg
    have h3 := Kd.reps_append hx1 hnr
    exact h3
end
theorem rowR {W : World} {base t : Nat} {v : Value} {pre : List Int} (h : W.ownsRow base t 1 v pre.length (pre.map (Value.int .u32))) : Kd.R (Kd.int .u32) t W base (fun _ => True) v pre := by
  refine ⟨fun _ _ => trivial, _, h, by rw [List.length_map]; exact (Nat.mul_one _).symm, fun j p hj => ?_⟩
  have hlt := (List.getElem?_eq_some_iff.1 hj).1
  have hp := (List.getElem?_eq_some_iff.1 hj).2
  show ((pre.map (Value.int .u32)).drop (j * 1)).take 1 = [Value.int .u32 p]
  rw [Nat.mul_one, List.drop_eq_getElem_cons (by simpa using hlt), List.take_succ_cons, List.take_zero, List.getElem_map, hp]
theorem grownBy_putRow' {w w' : World} {g q : Nat} {d : Array Int} (h : w' = Sort.putRow (Value.int .u32) (Sort.ahead w q) g 0 d) : w.grownBy w' (some g) := by
  subst h
  refine ⟨rfl, rfl, rfl, by simp [Sort.putRow, Sort.mapBlock, Sort.ahead], fun k hk hne => ?_⟩
  have : g ≠ k := fun e => hne (by rw [e])
  simp [Sort.putRow, Sort.mapBlock, Sort.ahead, Array.getElem?_modify, this]
theorem ne_typed {w : World} {k g t e : Nat} {cs : Array Value} (h : w.heap[k]? = some (.cells cs t (0, 0))) (hc : ∃ cells, w.heap[g]? = some (.cells cells e (0, 0))) (hne : t ≠ e) : k ≠ g := by
  rintro rfl
  obtain ⟨cells, hc⟩ := hc
  rw [h] at hc
  cases hc
  exact hne rfl
theorem ne_def {w : World} {k g e : Nat} {x : Option (List Deferred)} (h : w.heap[k]? = some (.deferred x)) (hc : ∃ cells, w.heap[g]? = some (.cells cells e (0, 0))) : k ≠ g := by
  rintro rfl
  obtain ⟨cells, hc⟩ := hc
  rw [h] at hc
  cases hc
/-- What slices.Reverse leaves: the row turned round, all else as it lay. -/
theorem rev_step {w W W' : World} {gb1 gG gr cr D q : Nat} {gs : List Int} {C : Array Value} {v : Value} {pre : List Int}
    (HO : (Kd.int .u8).R 5 W w.heap.size (fun _ => True) v pre) (BK : W.heap[gb1]? = some (.cells C 29 (0, 0))) (HD : W.heap[D]? = some (.deferred (some [])))
    (HX : W.heap[gG]? = some (.cells #[.slice (some ⟨gr, 0, none⟩) gs.length cr] 22 (0, 0))) (HB : Below w.heap.size w W) (HG : w.heap.size ≤ gr)
    (HRW : W.ownsRow w.heap.size 59 1 (.slice (some ⟨gr, 0, none⟩) gs.length cr) gs.length (gs.map (Value.int .u32)))
    (hw : W' = Sort.putRow (Value.int .u32) (Sort.ahead W q) gr 0 gs.reverse.toArray) :
    Aside0 ((Kd.int .u8).R 5 W' w.heap.size (fun _ => True) v pre) ∧ Aside0 (W'.heap[gb1]? = some (.cells C 29 (0, 0))) ∧ Aside0 (W'.heap[D]? = some (.deferred (some []))) ∧
      Aside0 (W'.heap[gG]? = some (.cells #[.slice (some ⟨gr, 0, none⟩) gs.length cr] 22 (0, 0))) ∧ Aside0 (Below w.heap.size w W') ∧
      Aside0 ((Kd.int .u32).R 59 W' w.heap.size (fun _ => True) (.slice (some ⟨gr, 0, none⟩) gs.length cr) gs.reverse) := by
  have hg := grownBy_putRow' hw
  have hne := own_typed HRW gr rfl
  have h_ := Lib.ownsRow_putRow (q := q) (ys := gs.reverse) HRW (by simp) (Nat.le_refl _)
  rw [← hw, List.take_of_length_le (by simp)] at h_
  refine ⟨AM (Kd.R_over' (v := .slice (some ⟨gr, 0, none⟩) gs.length cr) HO (fun k hk => own_typed HRW k hk) (by decide) hg), AM (blk_grown BK hg (fun e => ne_typed BK hne (by decide) (Option.some.inj e))),
    AM (blk_grown HD hg (fun e => ne_def HD hne (Option.some.inj e))), AM (blk_grown HX hg (fun e => ne_typed HX hne (by decide) (Option.some.inj e))), AM (by rw [hw]; exact Lib.below_putRow HB HG), AM ?_⟩
  refine rowR ?_
  simpa using h_
theorem tabW_below {w W : World} (h : TabW w) (hb : Below w.heap.size w W) : TabW W := by
  have hg : Tryd.prog.globalNamed "internal/strconv.uint64pow10" = some 1 := by kernel_rfl
  have h2 : Lib.TabIs Tryd.prog w "internal/strconv.uint64pow10" .u64 Lib.pow10Tab := h
  unfold Lib.TabIs World.var? at h2
  rw [hg] at h2
  simp only [Option.bind_some] at h2
  show Lib.TabIs Tryd.prog W "internal/strconv.uint64pow10" .u64 Lib.pow10Tab
  unfold Lib.TabIs World.var?
  rw [hg]
  simp only [Option.bind_some]
  have hlt : 1 < w.heap.size := by
    rcases Nat.lt_or_ge 1 w.heap.size with h' | h'
    · exact h'
    · rw [Array.getElem?_eq_none h'] at h2; cases h2
  rw [hb.block 1 hlt]
  exact h2
theorem nDig_le : ∀ (k u : Nat), u < 10 ^ (k + 1) → Lib.nDigits u ≤ k + 1
  | 0, u, h => by rw [Lib.nDigits_small (by omega)]; omega
  | k + 1, u, h => by
    by_cases h1 : u < 10
    · rw [Lib.nDigits_small h1]; omega
    · rw [Lib.nDigits_big h1]
      have : u / 10 < 10 ^ (k + 1) := by
        rw [Nat.div_lt_iff_lt_mul (by omega), ← Nat.pow_succ]; exact h
      have := nDig_le k (u / 10) this
      omega
theorem itoaB_len (g : Int) (h0 : 0 ≤ g) (h1 : g < 1000000000) : (itoaB g).length ≤ 9 := by
  unfold itoaB Lib.itoa
  rw [if_neg (by omega), List.length_map, Lib.decDigits_length]
  exact nDig_le 8 g.toNat (by omega)
theorem itoa_calls (g : Int) (h0 : 0 ≤ g) (h1 : g < 1000000000) (W : World) (ht : TabW W) :
    Calls Tryd.prog 28 #[.int .i64 g] W fun e w' => ∃ s : ByteArray, e = .returned (.string s) ∧ bytesOf s = itoaB g ∧ s.size = (itoaB g).length ∧ Below W.heap.size W w' := by
  refine (Tryd.strconv_Itoa g (by omega) (by omega) W ht).mono ?_
  rintro e w2 ⟨rfl, kk, os, rfl⟩
  exact ⟨_, rfl, by simp [bytesOf, itoaB], by simp [itoaB, ByteArray.size], Lib.below_grow _ _ (Nat.le_refl _) _ _⟩
theorem grps_succ (l : List Int) (j : Nat) : grpsB l (j + 1) = grpsB l j ++ grpB j (l.getD j 0) := by
  unfold grpsB
  rw [List.range_succ, List.flatMap_append]
  simp
theorem ok9_at {gs : List Int} (h : ok9 gs = true) {j : Nat} (hj : j < gs.length) {g : Int} (hg : rdOf 0 gs.reverse (j : Int) = g) : 0 ≤ g ∧ g < 1000000000 ∧ gs.reverse.getD j 0 = g := by
  unfold rdOf at hg
  rw [Int.toNat_natCast] at hg
  have hm : g ∈ gs.reverse := by
    rw [← hg, List.getD_eq_getElem?_getD, List.getElem?_eq_getElem (by simpa using hj)]
    exact List.getElem_mem _
  have h2 := List.all_eq_true.1 h g (List.mem_reverse.1 hm)
  simp only [decide_eq_true_eq] at h2
  exact ⟨h2.1, h2.2, hg⟩
theorem R_def {W : World} {D base : Nat} {x y : Option (List Deferred)} {v : Value} {xs : List Int} (h : (Kd.int .u8).R 5 W base (fun _ => True) v xs) (hD : W.heap[D]? = some (.deferred x)) : (Kd.int .u8).R 5 (W.putObj D (.deferred y)) base (fun _ => True) v xs :=
  Kd.R_mono (Kd.R_step (Kd.R_mono (Kd.R_bound h) (fun k hk => show k ≠ D from fun e => by
    obtain ⟨_, q, _, cells, hc⟩ := hk.2.2
    rw [e, hD] at hc
    cases hc)) (fun k hk _ => World.putObj_heap_other hk)) (fun _ _ => trivial)
theorem grp_step {tx rs pre pre2 bs : List Int} {j n : Nat} {g : Int} (h2 : pre2 ++ List.replicate 0 48 = pre ++ (if 0 < j then List.replicate (9 - n) 48 else [])) (h1 : pre = tx ++ grpsB rs j) (hs : bs = itoaB g) (hn : n = (itoaB g).length) (hg : rs.getD j 0 = g) : pre2 ++ bs = tx ++ grpsB rs (j + 1) := by
  rw [List.replicate_zero, List.append_nil] at h2
  rw [grps_succ, hg, h2, h1, hs, hn]
  unfold grpB
  simp only [List.append_assoc]
theorem holds_at {W : World} {base t gr n cr : Nat} {gs : List Int} (h : W.ownsRow base t 1 (.slice (some ⟨gr, 0, none⟩) n cr) n (gs.map (Value.int .u32))) : Sort.Holds (Value.int .u32) W gr 0 gs.toArray := by
  obtain ⟨_, _, e_, _, _, _, _, _, hH_⟩ := Lib.holds_of_ownsRow (α := Int) h (by intro h; cases h)
  injection e_ with e1 _ e3
  injection e1 with e1
  injection e1 with e1
  subst e1
  exact hH_
/-- What holds between two rounds over the groups. -/
structure LI (w W : World) (gr n cr D : Nat) (rs : List Int) (v : Value) (pre : List Int) : Prop where
  out : (Kd.int .u8).R 5 W w.heap.size (fun _ => True) v pre
  dfr : W.heap[D]? = some (.deferred (some []))
  row : (Kd.int .u32).R 59 W w.heap.size (fun _ => True) (.slice (some ⟨gr, 0, none⟩) n cr) rs
  blo : Below w.heap.size w W
theorem LI.below {w W W' : World} {gr n cr D : Nat} {rs : List Int} {v : Value} {pre : List Int} (h : LI w W gr n cr D rs v pre) (hb : Below W.heap.size W W') : LI w W' gr n cr D rs v pre :=
  ⟨Kd.R_below h.out hb, blk_below h.dfr hb, Kd.R_below h.row hb, below_step h.blo hb⟩
theorem LI.grown {w W W' : World} {gr n cr D : Nat} {rs : List Int} {v v' : Value} {pre pre' : List Int} (h : LI w W gr n cr D rs v pre) (ho : (Kd.int .u8).R 5 W' w.heap.size (fun _ => True) v' pre') (hb : Below w.heap.size w W') (hg : W.grownBy W' v.ownBlock) : LI w W' gr n cr D rs v' pre' :=
  ⟨ho, blk_grown h.dfr hg (fun e => ne_def h.dfr (Kd.R_typed h.out D e.symm) rfl), Kd.R_over' (v := v) h.row (fun k hk => Kd.R_typed h.out k hk) (by decide) hg, hb⟩
/-- Between two rounds: the box of the argument, the box of the groups and its row, and what lay below. -/
def RI (gb1 gG gN : Nat) (C : Array Value) (w : World) (pre : List Int) (s : Nat) (W : World) : Prop :=
  W.heap[gb1]? = some (.cells C 29 (0, 0)) ∧ (∃ v, Boxed W gG 22 v ∧ W.ownsRow w.heap.size 59 1 v pre.length (pre.map (Value.int .u32)) ∧ (∀ b, v.ownBlock = some b → b < s ∧ b ≠ gN)) ∧ (∃ cs, W.heap[gN]? = some (.cells cs 57 (0, 0))) ∧ Below w.heap.size w W
theorem RI.kept {gb1 gG gN z : Nat} {C : Array Value} {w W W' : World} {pre : List Int} {s : Nat} {row : Option Nat} (h1 : gb1 ≠ gN) (h2 : gG ≠ gN) (h3 : w.heap.size ≤ gN) (h4 : w.heap.size ≤ z)
    (h : RI gb1 gG gN C w pre s W) (hg : W.grownBy W' row) (hr : ∀ r, row = some r → (r = gN ∧ ∃ cs, W'.heap[gN]? = some (.cells cs 57 (0, 0))) ∨ (z ≤ r ∧ ∃ o : Obj, W.heap[r]? = some o ∧ o.isCells = false)) : RI gb1 gG gN C w pre s W' := by
  obtain ⟨hb, ⟨v, hv, ho, hk⟩, ⟨cN, hN⟩, hB⟩ := h
  have hne : ∀ (k : Nat) (cs : Array Value) (t : Nat) (fr : Nat × Nat), W.heap[k]? = some (.cells cs t fr) → k ≠ gN → some k ≠ row := fun k cs t fr hc hkn e => by
    rcases hr k e.symm with h | ⟨_, o, hoo, hcc⟩
    · exact hkn h.1
    · rw [hc] at hoo
      cases hoo
      cases hcc
  refine ⟨(hg.block gb1 (blk_lt hb) (hne _ _ _ _ hb h1)).trans hb, ⟨v, hv.kept hg (hne _ _ _ _ hv h2), ho.kept hg ?_, hk⟩, ?_, hB.grown hg hB.size (fun k e => ?_)⟩
  · cases hvb : v.ownBlock with
    | none => exact .inl rfl
    | some b =>
      obtain ⟨cells, hc⟩ := own_typed ho b hvb
      exact .inr (hne _ _ _ _ hc (hk b hvb).2)
  · by_cases e : some gN = row
    · rcases hr gN e.symm with h | ⟨_, o, hoo, hcc⟩
      · exact h.2
      · rw [hN] at hoo
        cases hoo
        cases hcc
    · exact ⟨cN, (hg.block gN (blk_lt hN) e).trans hN⟩
  · rcases hr k e with h | ⟨h, _⟩
    · omega
    · omega
set_option maxHeartbeats 8000000 in
set_option maxRecDepth 100000 in
theorem impl_BigText.calls (k : Nat) (a0_0 : Bool) (A0_1 : Option Addr) (c0_1 : Nat) (l0_1 : List Int) (r1 : List Int) (r2 : Int) (w : World) (htab : TabW w) (hr0_1 : Kd.C (Kd.int .u32) w A0_1 l0_1.length l0_1) (hc0_1 : l0_1.length ≤ c0_1) (h : impl_BigText.f k a0_0 l0_1 = some (r1, r2)) :
    Calls Tryd.prog 8 #[.agg #[.bool a0_0, .slice A0_1 l0_1.length c0_1]] w fun e w' => ∃ v0_ : Value, e = .returned (.tuple #[v0_, .int .i64 r2]) ∧ OutR w' w.heap.size v0_ r1 ∧ Below w.heap.size w w' := by
  have hu29 := Tryd.underlying29; have HR0_1 := AM hr0_1; have HC0_1 := AM hc0_1; clear hr0_1 hc0_1; have HB := AM (Below.refl w.heap.size w); have HT := AM htab; clear htab
  obtain ⟨t1, A10, H⟩ := Option.bind_eq_some_iff.mp h
  clear h
  have A1 := AM A10; clear A10
  by_cases c1 : t1 = true
  rotate_left
  · rw [if_neg c1] at H
    obtain rfl : t1 = false := by simpa using c1
    clear c1
    have H2 := Option.some.inj H
    clear H
    obtain ⟨rfl, rfl⟩ := Prod.mk.inj H2
    clear H2
    go_enter Tryd.func8, Tryd.ntmps8
    go_wp2_with (first | ((with_reducible refine gate_dst (N := 1) rfl ?_); refine box_event ?hg (N := 1) ?hd (cs := #[.bool a0_0, .slice A0_1 l0_1.length c0_1]) (t := 29) ?hr ?_; (case hd => rfl); (case hg => rfl); (case hr => first | (go_simp; done) | (go_simp; rfl)); intro gb1 hg w3 hbox hb; have BK1 := AM (hbox); have GE1 := gH HB hg; replace HB := AM (below_step (pH HB) hb); clear hb hbox hg; have ⟨hcy_0, hcy_1, hfy_0, hfy_1⟩ := z2 BK1) | ((with_reducible refine gate_callee (f := 25) rfl ?_); refine goesL_ (some 12) rfl rfl Tryd.func25 (by kernel_rfl) rfl #[.agg #[.bool a0_0, .slice A0_1 l0_1.length c0_1]] rfl (by (try simp only [List.map_toArray, List.map_cons, List.map_nil]); first | done | rfl) ?_; (with_reducible refine (impl_BigValid.calls a0_0 _ _ l0_1 _ _ ?side1 ?side2 A1.out).mono ?_); (case side1 => exact cB HR0_1 HB); (case side2 => exact HC0_1.out); rintro e_ w4 ⟨rfl, hb⟩; refine ⟨_, rfl, ?_⟩; replace BK1 := bB BK1 hb; replace HB := AM (below_step (pH HB) hb); clear hb; have ⟨hcv_0, hcv_1, hfv_0, hfv_1⟩ := z2 BK1))
    go_ret2
    exact ⟨_, rfl, .inl (Kd.R_nil _ _ _ _ _), pH HB⟩
  · rw [if_pos c1] at H
    subst c1
    obtain ⟨gs, A20, H⟩ := Option.bind_eq_some_iff.mp H
    have A2 := AM A20; clear A20
    have hgo : gs.length ≤ 1048576 ∧ ok9 gs = true := by
      by_cases h0 : gs.length = 0
      · exact ⟨by omega, by rw [List.eq_nil_of_length_eq_zero h0]; rfl⟩
      rw [if_neg h0] at H
      by_cases h1 : gs.length ≤ 1048576 ∧ ok9 gs = true
      · exact h1
      rw [if_neg h1] at H
      cases H
    have hgl := hgo.1
    have HOK := AM hgo.2
    have HH := AM H
    clear hgo H
    have hinfo5 : (Tryd.prog.info? 5).map (fun i => (i.zero, i.size, i.bytes)) = some (some (.int .u8 0), 1, 1) := by kernel_rfl
    obtain ⟨i0, hi, hz0, hz1, hz2⟩ := info_parts (show (Tryd.prog.info? 59).map (fun i => (i.zero, i.size, i.bytes)) = some (some (.int .u32 0), 1, 4) from by kernel_rfl)
    refine (callsIn_wide (n := 8)).1 (callsIn_of_wp_marks (F := Fence.wide) Tryd.func8 rfl trivial ?_ rfl)
    simp only [Tryd.ntmps8, List.size_toArray, List.length_cons, List.length_nil, Nat.reduceAdd, Nat.reduceSub, Array.replicate_succ, Array.replicate_zero, List.push_toArray, List.append_toArray, List.nil_append, List.cons_append]
    refine wpIn_wide.2 ?_
    go_wp2_with (first | ((with_reducible refine gate_dst (N := 1) rfl ?_); refine box_event ?hg (N := 1) ?hd (cs := #[.bool a0_0, .slice A0_1 l0_1.length c0_1]) (t := 29) ?hr ?_; (case hd => rfl); (case hg => rfl); (case hr => first | (go_simp; done) | (go_simp; rfl)); intro gb1 hg w3 hbox hb; have BK1 := AM (hbox); have GE1 := gH HB hg; replace HB := AM (below_step (pH HB) hb); clear hb hbox hg; have ⟨hcy_0, hcy_1, hfy_0, hfy_1⟩ := z2 BK1) | ((with_reducible refine gate_callee (f := 25) rfl ?_); refine goesL_ (some 12) rfl rfl Tryd.func25 (by kernel_rfl) rfl #[.agg #[.bool a0_0, .slice A0_1 l0_1.length c0_1]] rfl (by (try simp only [List.map_toArray, List.map_cons, List.map_nil]); first | done | rfl) ?_; (with_reducible refine (impl_BigValid.calls a0_0 _ _ l0_1 _ _ ?side1 ?side2 A1.out).mono ?_); (case side1 => exact cB HR0_1 HB); (case side2 => exact HC0_1.out); rintro e_ w4 ⟨rfl, hb⟩; refine ⟨_, rfl, ?_⟩; replace BK1 := bB BK1 hb; replace HB := AM (below_step (pH HB) hb); clear hb; have ⟨hcv_0, hcv_1, hfv_0, hfv_1⟩ := z2 BK1) | ((with_reducible refine gate_dst (N := 4) rfl ?_); refine box_event ?hg (N := 4) ?hd (cs := #[.slice none 0 0]) (t := 22) ?hr ?_; (case hd => rfl); (case hg => rfl); (case hr => first | (go_simp; done) | (go_simp; rfl)); intro gG hg w6 hbox hb; have HG := AM hbox; have HGE := gH HB hg; have HNE := nL BK1 hg; replace BK1 := bB BK1 hb; replace HB := AM (below_step (pH HB) hb); clear hb hbox hg; have hcg : w6.cell? ⟨gG, 0, none⟩ = some (.slice none 0 0) := (blk_cell HG.out 0).trans rfl; have hfg := blk_frozen HG.out 0; have ⟨hcw_0, hcw_1, hfw_0, hfw_1⟩ := z2 BK1) | ((with_reducible refine gate_callee (f := 26) rfl ?_); refine goesL_ (some 16) rfl rfl Tryd.func26 (by kernel_rfl) rfl #[.slice A0_1 l0_1.length c0_1] rfl (by (try simp only [List.map_toArray, List.map_cons, List.map_nil]); first | done | rfl) ?_; (with_reducible refine (impl_nines.calls _ _ l0_1 _).mono ?_); rintro e_ w7 ⟨gN, rfl, hN, hNge, hb⟩; refine ⟨_, rfl, ?_⟩; have HNN := AM hN; have HNG := AM (show gG < gN from Nat.lt_of_lt_of_le (blk_lt HG.out) hNge); have HNX := AM (show gb1 ≠ gN from Nat.ne_of_lt (Nat.lt_of_lt_of_le (blk_lt BK1.out) hNge)); have HNL := AM (show w.heap.size ≤ gN from Nat.le_trans HB.out.size hNge); replace BK1 := bB BK1 hb; replace HG := bB HG hb; replace HB := AM (below_step (pH HB) hb); clear hb hN hNge; have ⟨hcx_0, hcx_1, hfx_0, hfx_1⟩ := z2 BK1))
    simp only [Act.put, sa, sb, sc]
    have hgb1 := blk_lt BK1.out
    refine (wpIn_wide (n := 8)).1 ?_
    refine wpIn_rangeFunc_S rfl (by omega) (gf := 47) (lb := #[.pointer (some ⟨gN, 0, none⟩)]) rfl trivial (enters_of Tryd.func47 (by kernel_rfl) rfl)
      (impl_nines1.seq 7 k gN A0_1 c0_1 l0_1 gs _ (by omega) HNN.out HC0_1.out (cB HR0_1 HB) A2.out) (blk_lt HNN.out) (Below.refl _ _) rfl
      (fun pre s W => RI gb1 gG gN #[.bool a0_0, .slice A0_1 l0_1.length c0_1] w pre s W)
      (fun pre s W W' row hi hg hr => RI.kept HNX.out (Nat.ne_of_lt HNG.out) HNL.out HB.out.size hi hg hr)
      (fun s hs => ⟨BK1.out, ⟨_, HG.out, World.ownsRow_nil _ _ _ _, fun b hb => by cases hb⟩, ⟨_, HNN.out⟩, HB.out⟩)
      (fun x => { tmps := #[.agg #[.bool a0_0, .slice A0_1 l0_1.length c0_1], .pointer (some ⟨gb1, 0, none⟩), .slice none 0 0, .int .i64 0, .pointer (some ⟨gG, 0, none⟩), .int .u32 x, undef, undef, undef, undef, undef, .agg #[.bool a0_0, .slice A0_1 l0_1.length c0_1], .bool true, .bool false, .pointer (some ⟨gb1, 1, none⟩), .slice A0_1 l0_1.length c0_1, .func (.func 47) #[] #[.pointer (some ⟨gN, 0, none⟩)], .int .u32 x, undef, undef, undef, undef, undef, undef, undef, undef, undef, undef, undef, undef, undef, undef, undef, undef, undef, undef, undef, undef, undef, undef, undef, undef, undef, undef, undef, undef, undef, undef, undef, undef, undef, undef, undef, undef, undef, undef, undef, undef, undef, undef, undef, undef], defers := [] }) ?assign ?body ?done
    case assign =>
      intro l x W K hK
      gi_wp2
      exact hK
    case body =>
      rintro l pre x s W ⟨hb1, ⟨v, hv, hrow, hown⟩, ⟨cN, hcN⟩, hB⟩ hsW hs hlen
      have hc := hv.cell
      have hgr := hB.size
      have hge := HGE.out
      have hgn := HNG.out
      have hsz := blk_lt HG.out
      have hszN := blk_lt HNN.out
      gi_wp2_with (gi_at_builtin; refine wpListIn_append_own _ rfl _ _ 22 rfl w.heap.size 59 i0 (.int .u32 0) 1 4 Tryd.underlying22 hi hz0 hz1 hz2 rfl (by decide) _ _ _ rfl (hrow.alloc _) ⟨W.heap.size, 0, none⟩ 1 1 [.int .u32 x] rfl rfl (cell_one_new _ _ _) (by simp [Value.oneCell']) (by unfold maxLen; omega) (by omega) (by simp; omega) ?_; intro v' w1 hown' hgrow _; obtain ⟨g', cap', rfl⟩ := ownsRow_succ hown'; obtain ⟨hv1, hv2, hr2, hk2, hb2⟩ := hv.appended (by decide) hrow hB.size hge hown' hgrow; have hc1 := hv1.cell; have hf1 := hv1.frozen)
      have hkeep : ∀ k, k ≠ gG → some k ≠ v.ownBlock → k < W.heap.size → (w1.setCell ⟨gG, 0, none⟩ (.slice (some ⟨g', 0, none⟩) (pre.length + 1) cap')).heap[k]? = W.heap[k]? := fun k h1 h2 h3 =>
        (Below.heap_setCell w1 ⟨gG, 0, none⟩ _ k h1).trans ((hgrow.block k (by simp; omega) h2).trans (Below.heap_alloc W _ k h3))
      have hkN : some gN ≠ v.ownBlock := fun e => (hown gN e.symm).2 rfl
      have hN4 := (hkeep gN (by omega) hkN (blk_lt hcN)).trans hcN
      refine ⟨hk2.from _, ⟨hk2.size, fun k hk hl => hkeep k (by omega) (fun e => by have := hown k e.symm; omega) hl⟩, (hkeep gb1 HNE.out (fun e => ?_) (blk_lt hb1)).trans hb1, ⟨_, hv2, by simpa using hr2, fun b hb => ?_⟩, ⟨_, hN4⟩, hB.trans hb2⟩
      · obtain ⟨cells, hcc⟩ := own_typed hrow gb1 e.symm
        rw [hb1] at hcc
        cases hcc
      · obtain ⟨cells, hcc⟩ := own_typed hr2 b hb
        refine ⟨blk_lt hcc, ?_⟩
        rintro rfl
        rw [hN4] at hcc
        cases hcc
    case done =>
      rintro D s W hD ⟨hb1, ⟨v, hv, hrow, hown⟩, ⟨cN, hcN⟩, hB2⟩ hK
      have BK := AM hb1; have HX := AM (show W.heap[gG]? = some (.cells #[v] 22 (0, 0)) from hv); have HB3 := AM hB2; have HD := AM hK; have HDL := AM (show w.heap.size ≤ D from Nat.le_trans HB.out.size hD)
      clear hb1 hv hcN hB2 hK hD
      have ⟨hcq_0, hcq_1, hfq_0, hfq_1⟩ := z2 BK
      have H := HH.out
      clear HH
      by_cases hz : gs.length = 0
      · rw [if_pos hz] at H
        obtain ⟨rfl, rfl⟩ := Prod.mk.inj (Option.some.inj H)
        clear H
        obtain ⟨Ag, cg, eg⟩ := Kd.R_slice (rowR hrow)
        subst eg
        have hcg2 : W.cell? ⟨gG, 0, none⟩ = some (.slice Ag gs.length cg) := (blk_cell HX.out 0).trans rfl
        have hfg2 := blk_frozen HX.out 0
        have cz0 : decide ((gs.length : Int) = 0) = true := decide_eq_true (by omega)
        go_wp2_with (first | ((with_reducible refine gate_dst (N := 25) rfl ?_); refine lit_mark_event ?hg ?hg2 (N := 25) (N2 := 26) ?hd ?hd2 Tryd.underlying26 Tryd.underlying5 ?ho2 (cs := #[.int .u8 48]) (n := 1) ?hr ?hev ?_; (case hd => rfl); (case hd2 => rfl); (case hg => rfl); (case hg2 => rfl); (case ho2 => rfl); (case hr => first | (go_simp; done) | (go_simp; rfl)); (case hev => intro v_; first | rfl | (go_simp; done)); intro gl hgl_ w9 hmk_ hb; have HM := AM hmk_; have HML := AM (show w.heap.size ≤ gl from by rw [hgl_]; exact (pH HB3).size); have HMD := AM (show D ≠ gl from by rw [hgl_]; exact Nat.ne_of_lt (blk_lt HD.out)); replace HD := bB HD hb; replace HB3 := AM (below_step (pH HB3) hb); clear hb hmk_ hgl_))
        refine ⟨by simp, .inl ⟨_, _, rfl, run_takeDeferred HD.out, ?_⟩⟩
        exact ⟨_, results_tmp2 rfl _ _ _, _, rfl, .inr ⟨gl, 48, rfl, rfl, trivial, HML.out, (World.putObj_heap_other (fun e => HMD.out e.symm)).trans HM.out⟩, HB3.out.trans (belowK_b (n₀ := w.heap.size) (w := w) (Nat.le_refl _) _ D _ _ HDL.out HD.out rfl rfl)⟩
      · rw [if_neg hz, if_pos ⟨hgl, HOK.out⟩] at H
        obtain ⟨rfl, rfl⟩ := Prod.mk.inj (Option.some.inj H)
        clear H
        have cz0 : decide ((gs.length : Int) = 0) = false := decide_eq_false (by omega)
        have hne : v ≠ .slice none 0 0 := by
          rintro rfl
          rcases hrow.2 with ⟨_, h⟩ | ⟨_, _, _, h, _⟩
          · exact hz h
          · cases h
        obtain ⟨gr, cr, rfl, hgrb, hgrl, hcn, hcm, _, hHO⟩ := Lib.holds_of_ownsRow (α := Int) hrow hne
        have HRW := AM hrow; have HGRB := AM hgrb; have HO := AM (Kd.R_nil (Kd.int .u8) 5 W w.heap.size (fun _ => True))
        clear hrow hown hne
        have hcg2 : W.cell? ⟨gG, 0, none⟩ = some (.slice (some ⟨gr, 0, none⟩) gs.length cr) := (blk_cell HX.out 0).trans rfl
        have hfg2 := blk_frozen HX.out 0
        clear hHO H hcm hgrb hgrl HNN HG hcx_1 hfx_0 hfx_1 hcw_1 hfw_0 hfw_1 hcv_1 hfv_0 hfv_1 hcy_1 hfy_0 hfy_1 hcg hfg
        cases a0_0 with
        | true =>
          go_wp2_with (first | ((with_reducible refine gate_builtin (b := .append) (xs := #[.tmp 29, .tmp 30]) rfl ?_); at_builtin; refine Kd.R_append (Kd.int .u8) (w0 := w) w.heap.size rfl (.tmp 29) (.tmp 30) 26 5 (.int .u8 0) 1 rfl Tryd.underlying26 hinfo5 rfl (by decide) (by omega) (.slice none 0 0) [] 45 [.int .u8 45] (fun _ => True) (fun _ => False) rfl rfl ?aP (fun _ hk => hk.elim) ?aF ?aO ?aB ?aS ?aL ?_; (case aP => exact rfl); (case aB => exact (pH HB3)); (case aF => exact (fun _ _ => trivial)); (case aO => exact (pR HO)); (case aS => exact (pH HB3).size); (case aL => simp); intro v31 w31 ho hb hg hat; replace HO := AM ho; replace HX := AM (blk_grown HX.out hg (by simp [Value.ownBlock])); replace BK := AM (blk_grown BK.out hg (by simp [Value.ownBlock])); replace HD := AM (blk_grown HD.out hg (by simp [Value.ownBlock])); replace HRW := AM (HRW.out.kept hg (.inr (by simp [Value.ownBlock]))); replace HB3 := AM hb; clear ho hb hg hat; have hcg3 : w31.cell? ⟨gG, 0, none⟩ = some (.slice (some ⟨gr, 0, none⟩) gs.length cr) := (blk_cell HX.out 0).trans rfl; have hfg3 := blk_frozen HX.out 0))
          refine (Tryd.slices_Reverse (Value.int .u32) (fun _ => rfl) gr 0 cr gs _ (holds_at HRW.out) (by omega)).mono ?_
          rintro e_ w33 ⟨rfl, q_, hw_⟩
          obtain ⟨HO, BK, HD, HX, HB3, HRW⟩ := rev_step HO.out BK.out HD.out HX.out HB3.out HGRB.out HRW.out hw_
          clear hw_
          have hcg4 : w33.cell? ⟨gG, 0, none⟩ = some (.slice (some ⟨gr, 0, none⟩) gs.length cr) := (blk_cell HX.out 0).trans rfl
          have hfg4 := blk_frozen HX.out 0
          go_wp2
          clear hcg4 hfg4 hcg2 hfg2
          have HI : LI w w33 gr gs.length cr D gs.reverse v31 [45] := ⟨HO.out, HD.out, HRW.out, HB3.out⟩
          clear HO BK HD HX HB3 HRW
          refine wp_loop_rounds (gs.length + 1) ?_
          change Code.rounds _ ?cc ?QQ _ _ _
          have key : ∀ (m j : Nat) (v : Value) (pre : List Int) (W : World) (u0 u1 u4 u5 u7 u8 u9 u10 u11 u12 u13 u14 u15 u16 u17 u18 u19 u20 u21 u22 u23 u24 u25 u26 u27 u28 u29 u30 u31 u32 u33 u37 u38 u39 u40 u41 u42 u43 u44 u45 u46 u47 u48 u49 u50 u51 u52 u53 u54 u55 u56 u57 u58 u59 u60 u61 : Value), j + m = gs.length → pre.length ≤ 1 + 9 * j → Aside0 (pre = textB0 true ++ grpsB gs.reverse j) → LI w W gr gs.length cr D gs.reverse v pre →
              Code.rounds Tryd.prog ?cc ?QQ (m + 1) { tmps := #[u0, u1, .slice none 0 0, .int .i64 0, u4, u5, v, u7, u8, u9, u10, u11, u12, u13, u14, u15, u16, u17, u18, u19, u20, u21, u22, u23, u24, u25, u26, u27, u28, u29, u30, u31, u32, u33, .slice (some ⟨gr, 0, none⟩) gs.length cr, .int .i64 gs.length, .int .i64 j, u37, u38, u39, u40, u41, u42, u43, u44, u45, u46, u47, u48, u49, u50, u51, u52, u53, u54, u55, u56, u57, u58, u59, u60, u61], defers := [{ target := Target.collected D, args := #[] }] } W := by
            intro m
            induction m with
            | zero =>
              intro j v pre W u0 u1 u4 u5 u7 u8 u9 u10 u11 u12 u13 u14 u15 u16 u17 u18 u19 u20 u21 u22 u23 u24 u25 u26 u27 u28 u29 u30 u31 u32 u33 u37 u38 u39 u40 u41 u42 u43 u44 u45 u46 u47 u48 u49 u50 u51 u52 u53 u54 u55 u56 u57 u58 u59 u60 u61 hj hp hpe HI
              obtain rfl : j = gs.length := by omega
              have HI := hpe.out ▸ HI
              rw [rounds_succ]
              go_wp2
              refine ⟨by simp, .inl ⟨_, _, rfl, run_takeDeferred HI.dfr, ?_⟩⟩
              exact ⟨_, results_tmp2 rfl _ _ _, _, rfl, .inl (R_def HI.out HI.dfr), HI.blo.trans (belowK_b (n₀ := w.heap.size) (w := w) (Nat.le_refl _) _ D _ _ HDL.out HI.dfr rfl rfl)⟩
            | succ m ih =>
              intro j v pre W u0 u1 u4 u5 u7 u8 u9 u10 u11 u12 u13 u14 u15 u16 u17 u18 u19 u20 u21 u22 u23 u24 u25 u26 u27 u28 u29 u30 u31 u32 u33 u37 u38 u39 u40 u41 u42 u43 u44 u45 u46 u47 u48 u49 u50 u51 u52 u53 u54 u55 u56 u57 u58 u59 u60 u61 hj hp hpe HI
              have hlt : j < gs.length := by omega
              have hltI : ((j : Int) < (gs.length : Int)) := by omega
              have hd : decide (j < gs.length) = true := decide_eq_true hlt
              obtain ⟨g, hg⟩ : ∃ g, rdOf 0 gs.reverse (j : Int) = g := ⟨_, rfl⟩
              have ⟨hcell, hfro⟩ := Kd.R_celln (0 : Int) HI.row (j : Int) (by omega) hltI
              rw [hg] at hcell
              rw [Int.toNat_natCast] at hcell hfro
              have HG9 := AM (ok9_at HOK.out hlt hg)
              clear hg
              have hg0 : 0 ≤ g := HG9.out.1
              have hg1 : g < 1000000000 := HG9.out.2.1
              rw [rounds_succ]
              go_wp2_with (fail)
              refine (itoa_calls g hg0 hg1 W (tabW_below HT.out HI.blo)).mono ?_
              rintro e_ w2 ⟨s, rfl, hs, hsz, hb⟩
              have hs9 : s.size ≤ 9 := by rw [hsz]; exact itoaB_len g hg0 hg1
              have HS := AM hs
              have HSZ := AM hsz
              have HI2 := HI.below hb
              clear hs hsz hb HI hcell hfro
              go_wp2
              refine wp_loop_rounds ((if 0 < j then 9 - s.size else 0) + 1) ?_
              change Code.rounds _ ?cc2 ?QQ2 _ _ _
              have key2 : ∀ (q : Nat) (nn : Int) (v : Value) (pre2 : List Int) (W : World) (u0 u1 u4 u5 u11 u12 u13 u14 u15 u16 u17 u18 u19 u20 u21 u22 u23 u24 u25 u26 u27 u28 u29 u30 u31 u32 u33 u37 u38 u39 u40 u41 u42 u43 u44 u45 u46 u47 u48 u49 u50 u51 u52 u53 u54 u55 u56 u57 u58 u59 u60 u61 : Value), (0 < j → nn + q = 9) → (j = 0 → q = 0) → 0 ≤ nn → nn ≤ 9 → pre2.length + q ≤ 1 + 9 * j + (9 - s.size) → Aside0 (pre2 ++ List.replicate q 48 = pre ++ (if 0 < j then List.replicate (9 - s.size) 48 else [])) → LI w W gr gs.length cr D gs.reverse v pre2 →
                  Code.rounds Tryd.prog ?cc2 ?QQ2 (q + 1) { tmps := #[u0, u1, .slice none 0 0, .int .i64 0, u4, u5, v, .int .i64 j, .int .u32 g, .string s, .int .i64 nn, u11, u12, u13, u14, u15, u16, u17, u18, u19, u20, u21, u22, u23, u24, u25, u26, u27, u28, u29, u30, u31, u32, u33, .slice (some ⟨gr, 0, none⟩) gs.length cr, .int .i64 gs.length, .int .i64 j, u37, u38, u39, u40, u41, u42, u43, u44, u45, u46, u47, u48, u49, u50, u51, u52, u53, u54, u55, u56, u57, u58, u59, u60, u61], defers := [{ target := Target.collected D, args := #[] }] } W := by
                intro q
                induction q with
                | zero =>
                  intro nn v pre2 W u0 u1 u4 u5 u11 u12 u13 u14 u15 u16 u17 u18 u19 u20 u21 u22 u23 u24 u25 u26 u27 u28 u29 u30 u31 u32 u33 u37 u38 u39 u40 u41 u42 u43 u44 u45 u46 u47 u48 u49 u50 u51 u52 u53 u54 u55 u56 u57 u58 u59 u60 u61 hq hq0 hn0 hn9 hpl hpe2 HI
                  have hpl2 : pre2.length + s.size ≤ 140737488355328 := by omega
                  rw [rounds_succ]
                  by_cases hj1 : 0 < j
                  rotate_left
                  · have hdj : decide (0 < j) = false := decide_eq_false hj1
                    clear hj1 hq hq0
                    go_wp2_with (first | ((with_reducible refine gate_builtin (b := .append) (xs := #[.tmp 57, .tmp 58]) rfl ?_); at_builtin; refine print_append_str (w0 := w) w.heap.size rfl (.tmp 57) (.tmp 58) 26 9 5 rfl Tryd.underlying26 Tryd.underlying9 hinfo5 v pre2 s rfl rfl ?aO ?aB ?aS ?aL ?_; (case aO => exact Kd.own_of_R HI.out); (case aB => exact HI.blo); (case aS => exact HI.blo.size); (case aL => omega); intro v4 w4 ho hb hg; have HI4 := LI.grown HI (Kd.R_of_own ho (fun _ _ => trivial)) hb hg; clear ho hb hg))
                    exact ih (j + 1) v4 (pre2 ++ bytesOf s) w4 _ _ _ _ _ _ _ _ _ _ _ _ _ _ _ _ _ _ _ _ _ _ _ _ _ _ _ _ _ _ _ _ _ _ _ _ _ _ _ _ _ _ _ _ _ _ _ _ _ _ _ _ _ _ _ _ (by omega) (by rw [List.length_append, bytesOf_length]; omega) (AM (grp_step hpe2.out hpe.out HS.out HSZ.out HG9.out.2.2)) HI4
                  · have hdj : decide (0 < j) = true := decide_eq_true hj1
                    obtain rfl : nn = 9 := by omega
                    go_wp2_with (first | ((with_reducible refine gate_builtin (b := .append) (xs := #[.tmp 57, .tmp 58]) rfl ?_); at_builtin; refine print_append_str (w0 := w) w.heap.size rfl (.tmp 57) (.tmp 58) 26 9 5 rfl Tryd.underlying26 Tryd.underlying9 hinfo5 v pre2 s rfl rfl ?aO ?aB ?aS ?aL ?_; (case aO => exact Kd.own_of_R HI.out); (case aB => exact HI.blo); (case aS => exact HI.blo.size); (case aL => omega); intro v4 w4 ho hb hg; have HI4 := LI.grown HI (Kd.R_of_own ho (fun _ _ => trivial)) hb hg; clear ho hb hg))
                    exact ih (j + 1) v4 (pre2 ++ bytesOf s) w4 _ _ _ _ _ _ _ _ _ _ _ _ _ _ _ _ _ _ _ _ _ _ _ _ _ _ _ _ _ _ _ _ _ _ _ _ _ _ _ _ _ _ _ _ _ _ _ _ _ _ _ _ _ _ _ _ (by omega) (by rw [List.length_append, bytesOf_length]; omega) (AM (grp_step hpe2.out hpe.out HS.out HSZ.out HG9.out.2.2)) HI4
                | succ q ih2 =>
                  intro nn v pre2 W u0 u1 u4 u5 u11 u12 u13 u14 u15 u16 u17 u18 u19 u20 u21 u22 u23 u24 u25 u26 u27 u28 u29 u30 u31 u32 u33 u37 u38 u39 u40 u41 u42 u43 u44 u45 u46 u47 u48 u49 u50 u51 u52 u53 u54 u55 u56 u57 u58 u59 u60 u61 hq hq0 hn0 hn9 hpl hpe2 HI
                  have hj0 : 0 < j := by omega
                  have hn : nn < 9 := by have := hq hj0; omega
                  have hpl2 : pre2.length < 35184372088832 := by omega
                  rw [rounds_succ]
                  go_wp2_with (first | ((with_reducible refine gate_builtin (b := .append) (xs := #[.tmp 54, .tmp 55]) rfl ?_); at_builtin; refine Kd.R_append (Kd.int .u8) (w0 := w) w.heap.size rfl (.tmp 54) (.tmp 55) 26 5 (.int .u8 0) 1 rfl Tryd.underlying26 hinfo5 rfl (by decide) (by omega) v pre2 48 [.int .u8 48] (fun _ => True) (fun _ => False) rfl rfl ?aP (fun _ hk => hk.elim) ?aF ?aO ?aB ?aS ?aL ?_; (case aP => exact rfl); (case aF => exact (fun _ _ => trivial)); (case aO => exact HI.out); (case aB => exact HI.blo); (case aS => exact HI.blo.size); (case aL => first | exact hpl2 | omega); intro v3 w3 ho hb hg hat; have HI3 := LI.grown HI ho hb hg; clear ho hb hg hat))
                  exact ih2 (nn + 1) v3 (pre2 ++ [48]) w3 _ _ _ _ _ _ _ _ _ _ _ _ _ _ _ _ _ _ _ _ _ _ _ _ _ _ _ _ _ _ _ _ _ _ _ _ _ _ _ _ _ _ _ _ _ _ _ _ _ _ _ _ (by omega) (by omega) (by omega) (by omega) (by rw [List.length_append]; simp only [List.length_cons, List.length_nil]; omega) (AM (by rw [List.append_assoc]; exact hpe2.out)) HI3
              by_cases hj0 : 0 < j
              · exact key2 _ s.size v pre w2 _ _ _ _ _ _ _ _ _ _ _ _ _ _ _ _ _ _ _ _ _ _ _ _ _ _ _ _ _ _ _ _ _ _ _ _ _ _ _ _ _ _ _ _ _ _ _ _ _ _ _ _ (by intro _; rw [if_pos hj0]; omega) (by omega) (by omega) (by omega) (by rw [if_pos hj0]; omega) (AM (by rw [if_pos hj0, if_pos hj0])) HI2
              · exact key2 _ s.size v pre w2 _ _ _ _ _ _ _ _ _ _ _ _ _ _ _ _ _ _ _ _ _ _ _ _ _ _ _ _ _ _ _ _ _ _ _ _ _ _ _ _ _ _ _ _ _ _ _ _ _ _ _ _ (by omega) (by intro _; rw [if_neg hj0]) (by omega) (by omega) (by rw [if_neg hj0]; omega) (AM (by rw [if_neg hj0, if_neg hj0]; rfl)) HI2
          exact key gs.length 0 v31 [45] w33 _ _ _ _ _ _ _ _ _ _ _ _ _ _ _ _ _ _ _ _ _ _ _ _ _ _ _ _ _ _ _ _ _ _ _ _ _ _ _ _ _ _ _ _ _ _ _ _ _ _ _ _ _ _ _ _ (by omega) (by simp) (AM rfl) HI
        | false =>
          go_wp2_with (fail)
          refine (Tryd.slices_Reverse (Value.int .u32) (fun _ => rfl) gr 0 cr gs _ (holds_at HRW.out) (by omega)).mono ?_
          rintro e_ w33 ⟨rfl, q_, hw_⟩
          obtain ⟨HO, BK, HD, HX, HB3, HRW⟩ := rev_step HO.out BK.out HD.out HX.out HB3.out HGRB.out HRW.out hw_
          clear hw_
          have hcg4 : w33.cell? ⟨gG, 0, none⟩ = some (.slice (some ⟨gr, 0, none⟩) gs.length cr) := (blk_cell HX.out 0).trans rfl
          have hfg4 := blk_frozen HX.out 0
          go_wp2
          clear hcg4 hfg4 hcg2 hfg2
          have HI : LI w w33 gr gs.length cr D gs.reverse (.slice none 0 0) [] := ⟨HO.out, HD.out, HRW.out, HB3.out⟩
          clear HO BK HD HX HB3 HRW
          refine wp_loop_rounds (gs.length + 1) ?_
          change Code.rounds _ ?cf ?QF _ _ _
          have key : ∀ (m j : Nat) (v : Value) (pre : List Int) (W : World) (u0 u1 u4 u5 u7 u8 u9 u10 u11 u12 u13 u14 u15 u16 u17 u18 u19 u20 u21 u22 u23 u24 u25 u26 u27 u28 u29 u30 u31 u32 u33 u37 u38 u39 u40 u41 u42 u43 u44 u45 u46 u47 u48 u49 u50 u51 u52 u53 u54 u55 u56 u57 u58 u59 u60 u61 : Value), j + m = gs.length → pre.length ≤ 1 + 9 * j → Aside0 (pre = textB0 false ++ grpsB gs.reverse j) → LI w W gr gs.length cr D gs.reverse v pre →
              Code.rounds Tryd.prog ?cf ?QF (m + 1) { tmps := #[u0, u1, .slice none 0 0, .int .i64 0, u4, u5, v, u7, u8, u9, u10, u11, u12, u13, u14, u15, u16, u17, u18, u19, u20, u21, u22, u23, u24, u25, u26, u27, u28, u29, u30, u31, u32, u33, .slice (some ⟨gr, 0, none⟩) gs.length cr, .int .i64 gs.length, .int .i64 j, u37, u38, u39, u40, u41, u42, u43, u44, u45, u46, u47, u48, u49, u50, u51, u52, u53, u54, u55, u56, u57, u58, u59, u60, u61], defers := [{ target := Target.collected D, args := #[] }] } W := by
            intro m
            induction m with
            | zero =>
              intro j v pre W u0 u1 u4 u5 u7 u8 u9 u10 u11 u12 u13 u14 u15 u16 u17 u18 u19 u20 u21 u22 u23 u24 u25 u26 u27 u28 u29 u30 u31 u32 u33 u37 u38 u39 u40 u41 u42 u43 u44 u45 u46 u47 u48 u49 u50 u51 u52 u53 u54 u55 u56 u57 u58 u59 u60 u61 hj hp hpe HI
              obtain rfl : j = gs.length := by omega
              have HI := hpe.out ▸ HI
              rw [rounds_succ]
              go_wp2
              refine ⟨by simp, .inl ⟨_, _, rfl, run_takeDeferred HI.dfr, ?_⟩⟩
              exact ⟨_, results_tmp2 rfl _ _ _, _, rfl, .inl (R_def HI.out HI.dfr), HI.blo.trans (belowK_b (n₀ := w.heap.size) (w := w) (Nat.le_refl _) _ D _ _ HDL.out HI.dfr rfl rfl)⟩
            | succ m ih =>
              intro j v pre W u0 u1 u4 u5 u7 u8 u9 u10 u11 u12 u13 u14 u15 u16 u17 u18 u19 u20 u21 u22 u23 u24 u25 u26 u27 u28 u29 u30 u31 u32 u33 u37 u38 u39 u40 u41 u42 u43 u44 u45 u46 u47 u48 u49 u50 u51 u52 u53 u54 u55 u56 u57 u58 u59 u60 u61 hj hp hpe HI
              have hlt : j < gs.length := by omega
              have hltI : ((j : Int) < (gs.length : Int)) := by omega
              have hd : decide (j < gs.length) = true := decide_eq_true hlt
              obtain ⟨g, hg⟩ : ∃ g, rdOf 0 gs.reverse (j : Int) = g := ⟨_, rfl⟩
              have ⟨hcell, hfro⟩ := Kd.R_celln (0 : Int) HI.row (j : Int) (by omega) hltI
              rw [hg] at hcell
              rw [Int.toNat_natCast] at hcell hfro
              have HG9 := AM (ok9_at HOK.out hlt hg)
              clear hg
              have hg0 : 0 ≤ g := HG9.out.1
              have hg1 : g < 1000000000 := HG9.out.2.1
              rw [rounds_succ]
              go_wp2_with (fail)
              refine (itoa_calls g hg0 hg1 W (tabW_below HT.out HI.blo)).mono ?_
              rintro e_ w2 ⟨s, rfl, hs, hsz, hb⟩
              have hs9 : s.size ≤ 9 := by rw [hsz]; exact itoaB_len g hg0 hg1
              have HS := AM hs
              have HSZ := AM hsz
              have HI2 := HI.below hb
              clear hs hsz hb HI hcell hfro
              go_wp2
              refine wp_loop_rounds ((if 0 < j then 9 - s.size else 0) + 1) ?_
              change Code.rounds _ ?cf2 ?QF2 _ _ _
              have key2 : ∀ (q : Nat) (nn : Int) (v : Value) (pre2 : List Int) (W : World) (u0 u1 u4 u5 u11 u12 u13 u14 u15 u16 u17 u18 u19 u20 u21 u22 u23 u24 u25 u26 u27 u28 u29 u30 u31 u32 u33 u37 u38 u39 u40 u41 u42 u43 u44 u45 u46 u47 u48 u49 u50 u51 u52 u53 u54 u55 u56 u57 u58 u59 u60 u61 : Value), (0 < j → nn + q = 9) → (j = 0 → q = 0) → 0 ≤ nn → nn ≤ 9 → pre2.length + q ≤ 1 + 9 * j + (9 - s.size) → Aside0 (pre2 ++ List.replicate q 48 = pre ++ (if 0 < j then List.replicate (9 - s.size) 48 else [])) → LI w W gr gs.length cr D gs.reverse v pre2 →
                  Code.rounds Tryd.prog ?cf2 ?QF2 (q + 1) { tmps := #[u0, u1, .slice none 0 0, .int .i64 0, u4, u5, v, .int .i64 j, .int .u32 g, .string s, .int .i64 nn, u11, u12, u13, u14, u15, u16, u17, u18, u19, u20, u21, u22, u23, u24, u25, u26, u27, u28, u29, u30, u31, u32, u33, .slice (some ⟨gr, 0, none⟩) gs.length cr, .int .i64 gs.length, .int .i64 j, u37, u38, u39, u40, u41, u42, u43, u44, u45, u46, u47, u48, u49, u50, u51, u52, u53, u54, u55, u56, u57, u58, u59, u60, u61], defers := [{ target := Target.collected D, args := #[] }] } W := by
                intro q
                induction q with
                | zero =>
                  intro nn v pre2 W u0 u1 u4 u5 u11 u12 u13 u14 u15 u16 u17 u18 u19 u20 u21 u22 u23 u24 u25 u26 u27 u28 u29 u30 u31 u32 u33 u37 u38 u39 u40 u41 u42 u43 u44 u45 u46 u47 u48 u49 u50 u51 u52 u53 u54 u55 u56 u57 u58 u59 u60 u61 hq hq0 hn0 hn9 hpl hpe2 HI
                  have hpl2 : pre2.length + s.size ≤ 140737488355328 := by omega
                  rw [rounds_succ]
                  by_cases hj1 : 0 < j
                  rotate_left
                  · have hdj : decide (0 < j) = false := decide_eq_false hj1
                    clear hj1 hq hq0
                    go_wp2_with (first | ((with_reducible refine gate_builtin (b := .append) (xs := #[.tmp 57, .tmp 58]) rfl ?_); at_builtin; refine print_append_str (w0 := w) w.heap.size rfl (.tmp 57) (.tmp 58) 26 9 5 rfl Tryd.underlying26 Tryd.underlying9 hinfo5 v pre2 s rfl rfl ?aO ?aB ?aS ?aL ?_; (case aO => exact Kd.own_of_R HI.out); (case aB => exact HI.blo); (case aS => exact HI.blo.size); (case aL => omega); intro v4 w4 ho hb hg; have HI4 := LI.grown HI (Kd.R_of_own ho (fun _ _ => trivial)) hb hg; clear ho hb hg))
                    exact ih (j + 1) v4 (pre2 ++ bytesOf s) w4 _ _ _ _ _ _ _ _ _ _ _ _ _ _ _ _ _ _ _ _ _ _ _ _ _ _ _ _ _ _ _ _ _ _ _ _ _ _ _ _ _ _ _ _ _ _ _ _ _ _ _ _ _ _ _ _ (by omega) (by rw [List.length_append, bytesOf_length]; omega) (AM (grp_step hpe2.out hpe.out HS.out HSZ.out HG9.out.2.2)) HI4
                  · have hdj : decide (0 < j) = true := decide_eq_true hj1
                    obtain rfl : nn = 9 := by omega
                    go_wp2_with (first | ((with_reducible refine gate_builtin (b := .append) (xs := #[.tmp 57, .tmp 58]) rfl ?_); at_builtin; refine print_append_str (w0 := w) w.heap.size rfl (.tmp 57) (.tmp 58) 26 9 5 rfl Tryd.underlying26 Tryd.underlying9 hinfo5 v pre2 s rfl rfl ?aO ?aB ?aS ?aL ?_; (case aO => exact Kd.own_of_R HI.out); (case aB => exact HI.blo); (case aS => exact HI.blo.size); (case aL => omega); intro v4 w4 ho hb hg; have HI4 := LI.grown HI (Kd.R_of_own ho (fun _ _ => trivial)) hb hg; clear ho hb hg))
                    exact ih (j + 1) v4 (pre2 ++ bytesOf s) w4 _ _ _ _ _ _ _ _ _ _ _ _ _ _ _ _ _ _ _ _ _ _ _ _ _ _ _ _ _ _ _ _ _ _ _ _ _ _ _ _ _ _ _ _ _ _ _ _ _ _ _ _ _ _ _ _ (by omega) (by rw [List.length_append, bytesOf_length]; omega) (AM (grp_step hpe2.out hpe.out HS.out HSZ.out HG9.out.2.2)) HI4
                | succ q ih2 =>
                  intro nn v pre2 W u0 u1 u4 u5 u11 u12 u13 u14 u15 u16 u17 u18 u19 u20 u21 u22 u23 u24 u25 u26 u27 u28 u29 u30 u31 u32 u33 u37 u38 u39 u40 u41 u42 u43 u44 u45 u46 u47 u48 u49 u50 u51 u52 u53 u54 u55 u56 u57 u58 u59 u60 u61 hq hq0 hn0 hn9 hpl hpe2 HI
                  have hj0 : 0 < j := by omega
                  have hn : nn < 9 := by have := hq hj0; omega
                  have hpl2 : pre2.length < 35184372088832 := by omega
                  rw [rounds_succ]
                  go_wp2_with (first | ((with_reducible refine gate_builtin (b := .append) (xs := #[.tmp 54, .tmp 55]) rfl ?_); at_builtin; refine Kd.R_append (Kd.int .u8) (w0 := w) w.heap.size rfl (.tmp 54) (.tmp 55) 26 5 (.int .u8 0) 1 rfl Tryd.underlying26 hinfo5 rfl (by decide) (by omega) v pre2 48 [.int .u8 48] (fun _ => True) (fun _ => False) rfl rfl ?aP (fun _ hk => hk.elim) ?aF ?aO ?aB ?aS ?aL ?_; (case aP => exact rfl); (case aF => exact (fun _ _ => trivial)); (case aO => exact HI.out); (case aB => exact HI.blo); (case aS => exact HI.blo.size); (case aL => first | exact hpl2 | omega); intro v3 w3 ho hb hg hat; have HI3 := LI.grown HI ho hb hg; clear ho hb hg hat))
                  exact ih2 (nn + 1) v3 (pre2 ++ [48]) w3 _ _ _ _ _ _ _ _ _ _ _ _ _ _ _ _ _ _ _ _ _ _ _ _ _ _ _ _ _ _ _ _ _ _ _ _ _ _ _ _ _ _ _ _ _ _ _ _ _ _ _ _ (by omega) (by omega) (by omega) (by omega) (by rw [List.length_append]; simp only [List.length_cons, List.length_nil]; omega) (AM (by rw [List.append_assoc]; exact hpe2.out)) HI3
              by_cases hj0 : 0 < j
              · exact key2 _ s.size v pre w2 _ _ _ _ _ _ _ _ _ _ _ _ _ _ _ _ _ _ _ _ _ _ _ _ _ _ _ _ _ _ _ _ _ _ _ _ _ _ _ _ _ _ _ _ _ _ _ _ _ _ _ _ (by intro _; rw [if_pos hj0]; omega) (by omega) (by omega) (by omega) (by rw [if_pos hj0]; omega) (AM (by rw [if_pos hj0, if_pos hj0])) HI2
              · exact key2 _ s.size v pre w2 _ _ _ _ _ _ _ _ _ _ _ _ _ _ _ _ _ _ _ _ _ _ _ _ _ _ _ _ _ _ _ _ _ _ _ _ _ _ _ _ _ _ _ _ _ _ _ _ _ _ _ _ (by omega) (by intro _; rw [if_neg hj0]) (by omega) (by omega) (by rw [if_neg hj0]; omega) (AM (by rw [if_neg hj0, if_neg hj0]; rfl)) HI2
          exact key gs.length 0 (.slice none 0 0) [] w33 _ _ _ _ _ _ _ _ _ _ _ _ _ _ _ _ _ _ _ _ _ _ _ _ _ _ _ _ _ _ _ _ _ _ _ _ _ _ _ _ _ _ _ _ _ _ _ _ _ _ _ _ _ _ _ _ (by omega) (by simp) (AM rfl) HI

/-! ### laws_eqByteS: function 9 -/
def laws_eqByteS.l0 : Nat → List Int → List Int → Int → Option (Bool)
 | 0, _, _, _ => none
 | k + 1, x0, x1, x5 => if x5 < (x0.length : Int) then (if 0 ≤ x5 then (if x5 < (x1.length : Int) then (if (rd x0 x5) = (rd x1 x5) then (laws_eqByteS.l0 k x0 x1 (wrap64 (x5 + 1))) else (some false)) else (none)) else (none)) else (some true)
def laws_eqByteS.f (k : Nat) (l0 : List Int) (l1 : List Int) : Option (Bool) := if (l0.length : Int) = (l1.length : Int) then (laws_eqByteS.l0 k l0 l1 0) else (some false)
theorem laws_eqByteS.mono_l : ∀ k, (∀ y0 y1 y2, LeO (laws_eqByteS.l0 k y0 y1 y2) (laws_eqByteS.l0 (k + 1) y0 y1 y2))
 | 0 => fun _ _ _ r h => by simp [laws_eqByteS.l0] at h
 | k + 1 => by
  have ih0 := laws_eqByteS.mono_l k
  · intro y0 y1 y2
    unfold laws_eqByteS.l0
    repeat' with_reducible first | exact ih0 _ _ _ | exact LeO.refl _ | exact LeO.none _ | refine LeO.ite ?_ ?_ | refine LeO.bind ?_ (fun _ => ?_)
theorem laws_eqByteS.mono : ∀ a0 a1 k, LeO (laws_eqByteS.f k a0 a1) (laws_eqByteS.f (k + 1) a0 a1) := by
 intro a0 a1 k
 have ih0 := laws_eqByteS.mono_l k
 unfold laws_eqByteS.f
 repeat' with_reducible first | exact ih0 _ _ _ | exact LeO.refl _ | exact LeO.none _ | refine LeO.ite ?_ ?_ | refine LeO.bind ?_ (fun _ => ?_)
set_option maxHeartbeats 8000000 in
set_option maxRecDepth 100000 in
theorem laws_eqByteS.calls (k : Nat) (A0 : Option Addr) (c0 : Nat) (l0 : List Int) (A1 : Option Addr) (c1 : Nat) (l1 : List Int) (r : Bool) (w : World) (hr0 : Kd.C (Kd.int .u8) w A0 l0.length l0) (hc0 : l0.length ≤ c0) (hr1 : Kd.C (Kd.int .u8) w A1 l1.length l1) (hc1 : l1.length ≤ c1) (h : laws_eqByteS.f k l0 l1 = some r) :
 Calls Tryd.prog 9 #[.slice A0 l0.length c0, .slice A1 l1.length c1] w fun e w' => e = .returned (.bool r) ∧ Drawn0 w w' := by
 have HR0 := AM hr0; have HC0 := AM hc0; clear hr0 hc0; have HR1 := AM hr1; have HC1 := AM hc1; clear hr1 hc1
 have H : (if (l0.length : Int) = (l1.length : Int) then (laws_eqByteS.l0 k l0 l1 0) else (some false)) = some r := h
 clear h
 by_cases c3 : (l0.length : Int) = (l1.length : Int)
 rotate_left
 · rw [if_neg c3] at H
   have c3b0 : ((l0.length : Int) == (l1.length : Int)) = false := beq_eq_false_iff_ne.mpr c3
   have c3b1 : ((l0.length : Int) != (l1.length : Int)) = true := bne_iff_ne.mpr c3
   have c3b2 : (l0.length == l1.length) = false := by first | simpa using c3 | (simp at c3 ⊢; omega)
   obtain rfl := Option.some.inj H
   go_enter Tryd.func9, Tryd.ntmps9
   go_wp2
   repeat (go_quiet (fail); try go_wp2)
   go_ret
   exact ⟨by first | rfl | (simp; done) | (simp [*]; done), by repeat (first | exact Drawn0.refl _ | apply Drawn0.step)⟩

 rw [if_pos c3] at H
 have c3b0 : ((l0.length : Int) == (l1.length : Int)) = true := beq_iff_eq.mpr c3
 have c3b1 : ((l0.length : Int) != (l1.length : Int)) = false := bne_eq_false_iff_eq.mpr c3
 have c3b2 : (l0.length == l1.length) = true := by first | simpa using c3 | (simp at c3 ⊢; omega)
 clear c3
 have H' := AM H
 clear H
 go_enter Tryd.func9, Tryd.ntmps9
 go_wp2
 repeat (go_quiet (fail); try go_wp2)
 go_loopg [5] k (fun kq v5 w' => ∃ (x5_1 : Int), v5 = .int .i64 x5_1 ∧ Aside0 (laws_eqByteS.l0 kq l0 l1 x5_1 = some r) ∧ Aside0 (kq ≤ k) ∧ Drawn0 w w')
 case atStart => exact ⟨(0), (by first | rfl | (simp; done) | (simp [*]; done)), H', ⟨Nat.le_refl _⟩, by repeat (first | exact Drawn0.refl _ | apply Drawn0.step)⟩
 case round =>
  clear H'
  try clear c1
  try clear p2
  try clear c3
  try clear c3b0
  try clear c3b1
  try clear c3b2
  obtain ⟨x5_1, rfl, HA, HK1, ⟨m1, rfl⟩⟩ := hrel
  cases gk with
  | zero => exact absurd HA.out (by simp [laws_eqByteS.l0])
  | succ k1 =>
   have H := HA.out; clear HA
   simp only [laws_eqByteS.l0] at H
   by_cases c4 : x5_1 < (l0.length : Int)
   rotate_left
   · rw [if_neg c4] at H
     have c4b0 : decide (x5_1 < (l0.length : Int)) = false := decide_eq_false c4
     clear c4
     obtain rfl := Option.some.inj H
     go_wp2
     repeat (go_quiet (fail); try go_wp2)
     go_ret
     exact ⟨by first | rfl | (simp; done) | (simp [*]; done), by repeat (first | exact Drawn0.refl _ | apply Drawn0.step)⟩
   rw [if_pos c4] at H
   have c4b0 : decide (x5_1 < (l0.length : Int)) = true := decide_eq_true c4
   clear c4
   by_cases c5 : 0 ≤ x5_1
   rotate_left
   · rw [if_neg c5] at H
     exact absurd H (by simp)
   rw [if_pos c5] at H
   have c5b0 : decide (0 ≤ x5_1) = true := decide_eq_true c5
   clear c5
   by_cases c6 : x5_1 < (l1.length : Int)
   rotate_left
   · rw [if_neg c6] at H
     exact absurd H (by simp)
   rw [if_pos c6] at H
   have c6b0 : decide (x5_1 < (l1.length : Int)) = true := decide_eq_true c6
   clear c6
   by_cases c7 : (rd l0 x5_1) = (rd l1 x5_1)
   rotate_left
   · rw [if_neg c7] at H
     have c7b0 : ((rd l0 x5_1) == (rd l1 x5_1)) = false := beq_eq_false_iff_ne.mpr c7
     have c7b1 : ((rd l0 x5_1) != (rd l1 x5_1)) = true := bne_iff_ne.mpr c7
     obtain rfl := Option.some.inj H
     have p190 : 0 ≤ (x5_1 : Int) := of_decide_eq_true (by first | (with_reducible assumption) | assumption)
     have q190 : x5_1 < (l0.length : Int) := of_decide_eq_true (by first | (with_reducible assumption) | assumption)
     obtain ⟨ad190, e190, hx190_0⟩ := Kd.at_int HR0.out x5_1 p190 q190
     cases e190
     replace p190 := eq_true p190; replace q190 := eq_true q190
     have p191 : 0 ≤ (x5_1 : Int) := of_decide_eq_true (by first | (with_reducible assumption) | assumption)
     have q191 : x5_1 < (l1.length : Int) := of_decide_eq_true (by first | (with_reducible assumption) | assumption)
     obtain ⟨ad191, e191, hx191_0⟩ := Kd.at_int HR1.out x5_1 p191 q191
     cases e191
     replace p191 := eq_true p191; replace q191 := eq_true q191
     go_wp2
     repeat (go_quiet (fail); try go_wp2)
     go_ret
     exact ⟨by first | rfl | (simp; done) | (simp [*]; done), by repeat (first | exact Drawn0.refl _ | apply Drawn0.step)⟩
   rw [if_pos c7] at H
   have c7b0 : ((rd l0 x5_1) == (rd l1 x5_1)) = true := beq_iff_eq.mpr c7
   have c7b1 : ((rd l0 x5_1) != (rd l1 x5_1)) = false := bne_eq_false_iff_eq.mpr c7
   clear c7
   have H' := AM H
   clear H
   have p190 : 0 ≤ (x5_1 : Int) := of_decide_eq_true (by first | (with_reducible assumption) | assumption)
   have q190 : x5_1 < (l0.length : Int) := of_decide_eq_true (by first | (with_reducible assumption) | assumption)
   obtain ⟨ad190, e190, hx190_0⟩ := Kd.at_int HR0.out x5_1 p190 q190
   cases e190
   replace p190 := eq_true p190; replace q190 := eq_true q190
   have p191 : 0 ≤ (x5_1 : Int) := of_decide_eq_true (by first | (with_reducible assumption) | assumption)
   have q191 : x5_1 < (l1.length : Int) := of_decide_eq_true (by first | (with_reducible assumption) | assumption)
   obtain ⟨ad191, e191, hx191_0⟩ := Kd.at_int HR1.out x5_1 p191 q191
   cases e191
   replace p191 := eq_true p191; replace q191 := eq_true q191
   go_wp2
   repeat (go_quiet (fail); try go_wp2)
   go_roundg k1
   case measure => have := HK1.out; omega
   case rel => exact ⟨(wrap64 (x5_1 + 1)), (by first | rfl | (simp; done) | (simp [*]; done)), H', ⟨by have := HK1.out; omega⟩, by repeat (first | exact Drawn0.refl _ | apply Drawn0.step)⟩
end Go.Proofs.YtcpdeenhjodmfaaDoor.QBigText
