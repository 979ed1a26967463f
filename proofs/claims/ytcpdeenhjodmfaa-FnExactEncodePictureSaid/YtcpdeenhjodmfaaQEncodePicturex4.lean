-- Written by wip/tools/mkprint.py (my program) out of the translation, for this claim. Not trusted: Lean checks it.
import Derived.Test.YtcpdeenhjodmfaaQEncodePicturex0
import Derived.Test.YtcpdeenhjodmfaaQEncodePicturex1
import Derived.Test.YtcpdeenhjodmfaaQEncodePicturex3
namespace Go.Proofs.Ytcpdeenhjodmfaa.QEncodePicture
open Go.RowKit Go.Proofs.YtcpdeenhjodmfaaW.PrintWords Go.Proofs.YtcpdeenhjodmfaaW.PrintLast Go.Proofs.YtcpdeenhjodmfaaW.PrintMore
attribute [local go_sem] max2_int min2_int max_two min_two max_three min_three max_four min_four   -- for this text's walks alone
set_option linter.unusedVariables false
set_option linter.unusedSimpArgs false

/-! ### impl_EncodePicture: function 25 -/
def Side2 (t0 : Nat) (w w' : World) (g f : Nat) : Prop := w.heap.size ≤ w'.heap.size ∧ ∀ (k : Nat) (cs : Array Value) (t : Nat) (fr : Nat × Nat), w.heap[k]? = some (.cells cs t fr) → t ≠ t0 → k ≠ g → k ≠ f → w'.heap[k]? = some (.cells cs t fr)
theorem Side2.refl (t0 : Nat) (w : World) (g f : Nat) : Side2 t0 w w g f := ⟨Nat.le_refl _, fun _ _ _ _ h _ _ _ => h⟩
theorem Side2.trans {t0 : Nat} {w w1 w2 : World} {g f : Nat} (h : Side2 t0 w w1 g f) (k : Side2 t0 w1 w2 g f) : Side2 t0 w w2 g f := ⟨Nat.le_trans h.1 k.1, fun b cs t fr hb ht hg hf => k.2 b cs t fr (h.2 b cs t fr hb ht hg hf) ht hg hf⟩
theorem Side2.of {t0 : Nat} {w w1 : World} {g f : Nat} (h : Side t0 w w1 g) : Side2 t0 w w1 g f := ⟨h.1, fun b cs t fr hb ht hg _ => h.2 b cs t fr hb ht hg⟩
theorem Side2.drewN {t0 : Nat} {w w1 : World} {g f : Nat} (h : Side2 t0 w w1 g f) (n : Nat) : Side2 t0 w (w1.drewN n) g f := h
theorem Side2.drew {t0 : Nat} {w w1 : World} {g f : Nat} (h : Side2 t0 w w1 g f) : Side2 t0 w w1.drew g f := h
theorem Side2.below {t0 : Nat} {w w1 w2 : World} {g f : Nat} (h : Side2 t0 w w1 g f) (hb : Below w1.heap.size w1 w2) : Side2 t0 w w2 g f := h.trans (Side2.of (Side.below hb))
theorem Side2.setF {t0 : Nat} {w w1 : World} {g f : Nat} (h : Side2 t0 w w1 g f) (j : Nat) (u : Value) : Side2 t0 w (w1.setCell ⟨f, j, none⟩ u) g f :=
  h.trans ⟨by simp, fun k cs t fr hk _ _ hf => (Below.heap_setCell w1 ⟨f, j, none⟩ u k hf).trans hk⟩
theorem Side2.setR {t0 : Nat} {w w1 : World} {g f : Nat} (h : Side2 t0 w w1 g f) {r : Nat} {cs0 : Array Value} {fr0 : Nat × Nat} (hr : w1.heap[r]? = some (.cells cs0 t0 fr0)) (j : Nat) (u : Value) : Side2 t0 w (w1.setCell ⟨r, j, none⟩ u) g f :=
  h.trans ⟨by simp, fun k cs t fr hk ht _ _ => (Below.heap_setCell w1 ⟨r, j, none⟩ u k (by
    rintro rfl
    rw [hk] at hr
    injection hr with hr
    injection hr with _ hr
    exact ht hr)).trans hk⟩
def bitOr (x : Int) (f : Nat) : Int := Go.bits .or .u8 x (IntKind.u8.wrap (2 ^ min ((8 : Int) - (f : Int)).toNat 8))
def bitStep (s : Nat × List Int) (on : Bool) : Nat × List Int :=
  let a : Nat × List Int := if s.1 = 0 then (8, s.2 ++ [0]) else s
  (a.1 - 1, if on then a.2.set (a.2.length - 1) (bitOr (a.2.getD (a.2.length - 1) 0) a.1) else a.2)
theorem below_size' {w0 w : World} (h : Below w0.heap.size w0 w) : w0.heap.size ≤ w.heap.size := h.size
theorem bit_row {W : World} {base : Nat} {mk mk2 : Bool} {v : Value} {xs z0 : List Int} (hz : z0 = [0]) (h : OutV 5 W base mk2 v (xs ++ putB 1 z0)) (hm : mk2 = true → mk = true ∧ putB 1 z0 = []) : Kd.R (Kd.int .u8) 5 W base (fun _ => True) v (xs ++ [0]) := by
  subst hz
  have e : putB 1 [0] = [0] := rfl
  rw [e] at h hm
  cases mk2 with
  | false => exact h.1 rfl
  | true => exact absurd (hm rfl).2 (by simp)
set_option maxHeartbeats 8000000 in
set_option maxRecDepth 100000 in
theorem bit_calls (w0 w : World) (gF gB fr : Nat) (hfr : fr ≤ 8) (v : Value) (mk : Bool) (xs : List Int) (on : Bool)
    (hF : w.heap[gF]? = some (.cells #[.int .i64 (fr : Int)] 3 (0, 0))) (hF0 : w0.heap.size ≤ gF) (hG : w.heap[gB]? = some (.cells #[v] 107 (0, 0))) (hG0 : w0.heap.size ≤ gB)
    (HO : OutV 5 w w0.heap.size mk v xs) (hmk : fr ≠ 0 → mk = false ∧ xs ≠ []) (hB : Below w0.heap.size w0 w) (hl : xs.length + 1 ≤ 140737488355328) :
    Calls Try.prog 72 #[.bool on, .pointer (some ⟨gF, 0, none⟩), .pointer (some ⟨gB, 0, none⟩)] w fun e w' => e = .returned (.tuple #[]) ∧ ∃ v', w'.heap[gF]? = some (.cells #[.int .i64 ((bitStep (fr, xs) on).1 : Int)] 3 (0, 0)) ∧ w'.heap[gB]? = some (.cells #[v'] 107 (0, 0)) ∧ OutV 5 w' w0.heap.size false v' (bitStep (fr, xs) on).2 ∧ Below w0.heap.size w0 w' ∧ Side2 5 w w' gB gF := by
  have HF := AM hF; have HG := AM hG; have HB := AM hB; have HOv := AM HO; have HF0 := AM hF0; have HG0 := AM hG0; have HL := AM hl; have HM := AM hmk
  have HNE := AM (show gF ≠ gB from by
    rintro rfl
    rw [hF] at hG
    injection hG with h
    injection h with _ h
    cases h)
  have hne1 : gF ≠ gB := HNE.out
  have hne2 : gB ≠ gF := HNE.out.symm
  clear hF hG hB HO hmk hl hF0 hG0
  have ⟨hcF, hfF⟩ := z1 HF
  have ⟨hcG, hfG⟩ := z1 HG
  obtain ⟨v1, hv1⟩ : ∃ v1, v1 = v := ⟨_, rfl⟩
  go_enter Try.func72, Try.ntmps72
  go_upto_if 5 with (fail)
  repeat (go_quiet (fail); go_upto_if 5 with (fail))
  go_cut [] (fun wc => ∃ (f1 : Nat) (v1 : Value) (xs1 : List Int), Aside0 ((f1, xs1) = (if fr = 0 then (8, xs ++ [0]) else (fr, xs))) ∧ Aside0 (wc.heap[gF]? = some (.cells #[.int .i64 (f1 : Int)] 3 (0, 0))) ∧ Aside0 (wc.heap[gB]? = some (.cells #[v1] 107 (0, 0))) ∧ Aside0 (Kd.R (Kd.int .u8) 5 wc w0.heap.size (fun _ => True) v1 xs1) ∧ Aside0 (Below w0.heap.size w0 wc) ∧ Aside0 (Side2 5 w wc gB gF))
  case first =>
    by_cases c0 : fr = 0
    · have c1 : (((fr : Nat) : Int) == 0) = true := by rw [c0]; rfl
      have c2 : ((fr : Nat) == 0) = true := by rw [c0]; rfl
      have HC0 := AM c0
      clear c0
      obtain ⟨z0, hz0⟩ : ∃ z0 : List Int, z0 = [0] := ⟨_, rfl⟩
      have hzl : z0.length = 1 := by rw [hz0]; rfl
      have HZ := AM hz0; have HZL := AM hzl
      clear hz0 hzl
      have HS := AM (Side2.refl 5 w gB gF)
      go_wp2_with (first | ((with_reducible refine gate_dst (N := 6) rfl ?_); refine Kd.R_lit (Kd.int .u32) _ 50 ?hg (N := 6) ?hd (xs := ([0] : List Int)) (inner := [.int .u32 0]) (ok := fun _ => True) (okp := fun _ => True) ?hr ?hp (fun _ hk => hk) trivial (Below.refl _ _) (Nat.le_refl _) (by simp) ?_; (case hd => rfl); (case hg => rfl); (case hr => first | (go_simp; done) | (go_simp; rfl)); (case hp => exact (Reps.one (show Kd.M (Kd.int .u32) _ _ _ 0 [.int .u32 0] from rfl) (Reps.none _ _))); intro v6 w1 ho hb hg_ hnew_; clear hg_ hnew_; rw [← HZ.out] at ho; have HV := AM (Kd.R_lower ho (below_size' HB.out)); replace HF := bB HF hb; replace HG := bB HG hb; replace HOv := AM (HOv.out.below hb); replace HS := AM (HS.out.below hb); replace HB := AM (below_then HB.out HB.out.size hb); clear hb ho; obtain ⟨A6, c6, e6⟩ := Kd.R_slice HV.out; subst e6) | ((with_reducible refine gate_callee (f := 71) rfl ?_); refine goesL_ (some 7) rfl rfl Try.func71 (by kernel_rfl) rfl #[.pointer (some ⟨gB, 0, none⟩), .int .i64 1, .slice A6 z0.length c6] rfl (by (try simp only [List.map_toArray, List.map_cons, List.map_nil]); first | done | rfl) ?_; (with_reducible refine (put_calls' w0 _ gB 1 1 rfl (by omega) v mk xs z0 A6 c6 _ HG.out HG0.out HOv.out HB.out HV.out ?hl ?hn).mono ?_); (case hl => rw [HZL.out]; have := HL.out; omega); (case hn => rw [HZL.out]; omega); rintro e_ w2 ⟨rfl, v2, mk2, hG2, hO2, hm2, hb2, hs2⟩; refine ⟨_, rfl, ?_⟩; replace HF := AM (hs2.2 gF _ _ _ HF.out (by decide) HNE.out); replace HG := AM hG2; replace HB := AM hb2; replace HS := AM (HS.out.trans (Side2.of hs2)); have HR2 := AM (bit_row HZ.out hO2 hm2); clear HV HOv hG2 hO2 hm2 hb2 hs2; have ⟨hcF2, hfF2⟩ := z1 HF))
      go_meet
      case rel => exact ⟨8, v2, xs ++ [0], ⟨by rw [if_pos HC0.out]⟩, ⟨by refine blk_put (cs := #[.int .i64 (fr : Int)]) ?_ 0 _ rfl; exact HF.out⟩, ⟨by refine blk_far ?_ HNE.out.symm _; exact HG.out⟩, ⟨Kd.R_set HR2.out HF.out (fun q (hq : q ∈ 5 :: ([] : List Nat)) => by rw [List.mem_singleton.1 hq]; decide) 0 _⟩, ⟨below_set HB.out HF0.out⟩, ⟨HS.out.setF 0 _⟩⟩
    · have c1 : (((fr : Nat) : Int) == 0) = false := beq_eq_false_iff_ne.2 (by omega)
      have c2 : ((fr : Nat) == 0) = false := beq_eq_false_iff_ne.2 c0
      have HC0 := AM c0
      clear c0
      go_wp2
      go_meet
      case rel => exact ⟨fr, v, xs, ⟨by rw [if_neg HC0.out]⟩, HF, HG, ⟨by have h1 := (HM.out HC0.out).1; have h2 := HOv.out.1 h1; exact h2⟩, HB, ⟨Side2.refl _ _ _ _⟩⟩
  case rest =>
    try clear hcF hfF hcG hfG
    clear HF HG HB HOv
    obtain ⟨f1, v1, xs1, HE, HF, HG, HR, HB, HS⟩ := hcut
    have hf1 : 1 ≤ f1 ∧ f1 ≤ 8 := by
      have h := HE.out
      by_cases c : fr = 0
      · rw [if_pos c] at h
        have := (Prod.mk.inj h).1
        omega
      · rw [if_neg c] at h
        have := (Prod.mk.inj h).1
        omega
    have hx1 : xs1 ≠ [] := by
      have h := HE.out
      by_cases c : fr = 0
      · rw [if_pos c] at h
        rw [(Prod.mk.inj h).2]
        simp
      · rw [if_neg c] at h
        rw [(Prod.mk.inj h).2]
        exact (HM.out c).2
    have hpos : 0 < xs1.length := List.length_pos_iff.2 hx1
    have HF1 := AM hf1
    have HX1 := AM hx1
    have HPOS := AM hpos
    clear hf1 hx1 hpos
    have ⟨hcF, hfF⟩ := z1 HF
    have hw1 : wrap64 ((f1 : Int) - 1) = ((f1 - 1 : Nat) : Int) := by have := HF1.out; unfold wrap64; omega
    have HW1 := AM hw1
    clear hw1
    cases on with
    | false =>
      go_wp2
      go_end0
      have hst : bitStep (fr, xs) false = (f1 - 1, xs1) := by
        unfold bitStep
        dsimp only
        rw [← HE.out]
        rfl
      refine ⟨rfl, v1, ?_, ?_, ?_, ?_, ?_⟩
      · rw [hst]; exact blk_put (cs := #[.int .i64 (f1 : Int)]) HF.out 0 _ (by rw [HW1.out]; rfl)
      · exact blk_far HG.out HNE.out.symm _
      · rw [hst]; exact OutV.set ⟨fun _ => HR.out, fun h => by cases h⟩ HF.out (by decide) 0 _
      · exact below_set HB.out HF0.out
      · exact HS.out.setF 0 _
    | true =>
      have ⟨hcG, hfG⟩ := z1 HG
      obtain ⟨go5, co5, eo5, gb5, gl5, cl5, HG5⟩ := Kd.R_form HR.out HPOS.out
      subst eo5
      have HGB5 := AM gb5; have HGG5 := AM HG5; clear gb5 gl5 HG5
      obtain ⟨jn, hjn⟩ : ∃ j_ : Int, wrap64 ((xs1.length : Int) - 1) = j_ := ⟨_, rfl⟩
      have hjnw : IntKind.i64.wrap ((xs1.length : Int) - 1) = jn := (i64_w _).trans hjn
      have hjv : jn = ((xs1.length - 1 : Nat) : Int) := by
        have := HPOS.out
        have h2 : xs1.length ≤ 9223372036854775807 := (Kd.R_reads' HR.out).2.2.2.1
        rw [← hjn]
        unfold wrap64
        omega
      have p5 : (0 : Int) ≤ jn := by omega
      have q5 : jn < (xs1.length : Int) := by have := HPOS.out; omega
      obtain ⟨hx5, hf5⟩ := Kd.R_celln 0 HR.out jn p5 q5
      have p5b : decide ((0 : Int) ≤ jn) = true := decide_eq_true p5
      have q5b : decide (jn < (xs1.length : Int)) = true := decide_eq_true q5
      replace p5 := eq_true p5; replace q5 := eq_true q5
      have HJV := AM hjv
      clear hjv
      obtain ⟨js, hjs⟩ : ∃ j_ : Int, wrap64 (8 - (f1 : Int)) = j_ := ⟨_, rfl⟩
      have hjsw : IntKind.i64.wrap (8 - (f1 : Int)) = js := (i64_w _).trans hjs
      have hjsv : js = (8 : Int) - (f1 : Int) := by have := HF1.out; rw [← hjs]; unfold wrap64; omega
      have ps : (0 : Int) ≤ js := by have := HF1.out; omega
      have psb : decide ((0 : Int) ≤ js) = true := decide_eq_true ps
      replace ps := eq_true ps
      have HJS := AM hjsv
      clear hjsv
      obtain ⟨y, hy⟩ : ∃ y : Int, rdOf 0 xs1 jn = y := ⟨_, rfl⟩
      rw [hy] at hx5
      have HY := AM hy
      clear hy
      obtain ⟨jm, hjm⟩ : ∃ j_ : Int, IntKind.u8.wrap (2 ^ min js.toNat 8) = j_ := ⟨_, rfl⟩
      have hjm2 : (2 : Int) ^ min js.toNat 8 % 256 = jm := by rw [← hjm]; simp [IntKind.wrap, IntKind.bits, IntKind.signed]
      obtain ⟨je, hje⟩ : ∃ j_ : Int, Go.bits .or .u8 y jm = j_ := ⟨_, rfl⟩
      have HJM := AM hjm
      have HJE := AM hje
      have HX5 := AM hx5; have HF5 := AM hf5
      clear hx5 hf5
      try go_wp2
      replace HG := AM (blk_drew HG.out); replace HF := AM (blk_drew HF.out); replace HR := AM (Kd.R_drew HR.out); replace HB := AM (below_drew1 HB.out); replace HS := AM (Side2.drew HS.out); replace HX5 := AM (show wc.drew.cell? _ = _ from HX5.out); replace HF5 := AM (show wc.drew.frozen? _ = _ from HF5.out); replace HGG5 := AM (blk_drew HGG5.out)
      refine start_ (n := 12) (S := fun w' => w'.cell? ⟨gB, 0, none⟩ = some (.slice (some ⟨go5, 0, none⟩) xs1.length co5) ∧ w'.cell? ⟨go5, jn.toNat, none⟩ = some (.int .u8 y) ∧ w'.cell? ⟨gF, 0, none⟩ = some (.int .i64 (f1 : Int))) (ds := [11]) #[false, false, false, false, false, false, false, false, false, false, false, false] (by kernel_rfl) rfl rfl ⟨(blk_cell HG.out 0).trans rfl, HX5.out, (blk_cell HF.out 0).trans rfl⟩ (fun hHeld => ?_)
      generalize wc.drew = w1 at HG HF HR HB HS HX5 HF5 HGG5 hHeld ⊢
      refine take_ (i := 0) (N := some 9) (v := ?_) (a' := ?_) #[true, false, false, false, false, false, false, false, false, false, false, false] rfl rfl (by kernel_rfl) (fun _ _ _ h => h) (Or.inl ⟨by rfl, ?_⟩) hHeld ?_ ?_
      rotate_left
      · rintro w' ⟨s0, s1, s2⟩
        go_simp
        with_reducible rfl
      rotate_left
      · simp only [Act.put, sa, sb, sc, i64_w, i32_w]
        rfl
      refine take_ (i := 1) (N := some 10) (v := ?_) (a' := ?_) #[true, true, false, false, false, false, false, false, false, false, false, false] rfl rfl (by kernel_rfl) (fun _ _ _ h => h) (Or.inl ⟨by rfl, ?_⟩) hHeld ?_ ?_
      rotate_left
      · rintro w' ⟨s0, s1, s2⟩
        go_simp
        with_reducible rfl
      rotate_left
      · simp only [Act.put, sa, sb, sc, i64_w, i32_w]
        rfl
      refine pure_ (i := 2) (N := some 11) (v := ?_) (a' := ?_) #[true, true, true, false, false, false, false, false, false, false, false, false] rfl rfl (by kernel_rfl) (fun _ _ _ h => h) (Or.inl ⟨by rfl, ?_⟩) ?_ ?_
      rotate_left
      · intro w'
        go_simp
        with_reducible rfl
      rotate_left
      · simp only [Act.put, sa, sb, sc, i64_w, i32_w]
        rfl
      refine pure_ (i := 3) (N := some 12) (v := ?_) (a' := ?_) #[true, true, true, true, false, false, false, false, false, false, false, false] rfl rfl (by kernel_rfl) (fun _ _ _ h => h) (Or.inl ⟨by rfl, ?_⟩) ?_ ?_
      rotate_left
      · intro w'
        go_simp
        with_reducible rfl
      rotate_left
      · simp only [Act.put, sa, sb, sc, i64_w, i32_w]
        rfl
      refine pure_ (i := 4) (N := some 13) (v := ?_) (a' := ?_) #[true, true, true, true, true, false, false, false, false, false, false, false] rfl rfl (by kernel_rfl) (fun _ _ _ h => h) (Or.inl ⟨by rfl, ?_⟩) ?_ ?_
      rotate_left
      · intro w'
        go_simp
        with_reducible rfl
      rotate_left
      · simp only [Act.put, sa, sb, sc, i64_w, i32_w]
        rfl
      refine take_ (i := 5) (N := some 14) (v := ?_) (a' := ?_) #[true, true, true, true, true, true, false, false, false, false, false, false] rfl rfl (by kernel_rfl) (fun _ _ _ h => h) (Or.inl ⟨by rfl, ?_⟩) hHeld ?_ ?_
      rotate_left
      · rintro w' ⟨s0, s1, s2⟩
        go_simp
        with_reducible rfl
      rotate_left
      · simp only [Act.put, sa, sb, sc, i64_w, i32_w]
        rfl
      refine take_ (i := 6) (N := some 15) (v := ?_) (a' := ?_) #[true, true, true, true, true, true, true, false, false, false, false, false] rfl rfl (by kernel_rfl) (fun _ _ _ h => h) (Or.inl ⟨by rfl, ?_⟩) hHeld ?_ ?_
      rotate_left
      · rintro w' ⟨s0, s1, s2⟩
        go_simp
        with_reducible rfl
      rotate_left
      · simp only [Act.put, sa, sb, sc, i64_w, i32_w]
        rfl
      refine pure_ (i := 7) (N := some 16) (v := ?_) (a' := ?_) #[true, true, true, true, true, true, true, true, false, false, false, false] rfl rfl (by kernel_rfl) (fun _ _ _ h => h) (Or.inl ⟨by rfl, ?_⟩) ?_ ?_
      rotate_left
      · intro w'
        go_simp
        with_reducible rfl
      rotate_left
      · simp only [Act.put, sa, sb, sc, i64_w, i32_w]
        rfl
      refine pure_ (i := 8) (N := some 17) (v := ?_) (a' := ?_) #[true, true, true, true, true, true, true, true, true, false, false, false] rfl rfl (by kernel_rfl) (fun _ _ _ h => h) (Or.inl ⟨by rfl, ?_⟩) ?_ ?_
      rotate_left
      · intro w'
        go_simp
        with_reducible rfl
      rotate_left
      · simp only [Act.put, sa, sb, sc, i64_w, i32_w]
        rfl
      refine pure_ (i := 9) (N := some 18) (v := ?_) (a' := ?_) #[true, true, true, true, true, true, true, true, true, true, false, false] rfl rfl (by kernel_rfl) (fun _ _ _ h => h) (Or.inl ⟨by rfl, ?_⟩) ?_ ?_
      rotate_left
      · intro w'
        go_simp
        with_reducible rfl
      rotate_left
      · simp only [Act.put, sa, sb, sc, i64_w, i32_w]
        rfl
      refine pure_ (i := 10) (N := some 19) (v := ?_) (a' := ?_) #[true, true, true, true, true, true, true, true, true, true, true, false] rfl rfl (by kernel_rfl) (fun _ _ _ h => h) (Or.inl ⟨by rfl, ?_⟩) ?_ ?_
      rotate_left
      · intro w'
        go_simp
        with_reducible rfl
      rotate_left
      · simp only [Act.put, sa, sb, sc, i64_w, i32_w]
        rfl
      refine last_ (i := 11) (N := none) #[true, true, true, true, true, true, true, true, true, true, true, true] rfl rfl (by kernel_rfl) (by decide) (fun K hK => ?_)
      have HP7 := AM (Kd.R_putg HR.out jn je)
      have hs1 := HX5.out
      have hs2 := HF5.out
      refine skip_ (w1 := ?_) (by rfl) rfl ?_ ?_
      rotate_left
      · go_simp
        rfl
      refine hK.out _ _ ?_
      clear hK K
      refine done_ (by kernel_rfl) ?_

      have HNF := AM (show gF ≠ go5 from by
        rintro rfl
        have h := HGG5.out
        rw [HF.out] at h
        injection h with h
        injection h with _ h
        cases h)
      have HNG := AM (show gB ≠ go5 from by
        rintro rfl
        have h := HGG5.out
        rw [HG.out] at h
        injection h with h
        injection h with _ h
        cases h)
      have HF2 := AM (blk_far HF.out (p := ⟨go5, jn.toNat, none⟩) HNF.out (.int .u8 je))
      have HG2 := AM (blk_far HG.out (p := ⟨go5, jn.toNat, none⟩) HNG.out (.int .u8 je))
      have HB2 := AM (below_set (g := go5) (j := jn.toNat) (v := .int .u8 je) HB.out HGB5.out)
      have HS2 := AM (HS.out.setR HGG5.out jn.toNat (.int .u8 je))
      have ⟨hcF2, hfF2⟩ := z1 HF2
      try go_wp2
      go_end0
      have hst : bitStep (fr, xs) true = (f1 - 1, xs1.set jn.toNat je) := by
        unfold bitStep
        dsimp only
        rw [← HE.out]
        simp only [if_true, bitOr]
        rw [show xs1.length - 1 = jn.toNat from by rw [HJV.out]; rfl, ← HJS.out, show xs1.getD jn.toNat 0 = y from HY.out, HJM.out, HJE.out]
      refine ⟨rfl, .slice (some ⟨go5, 0, none⟩) xs1.length co5, ?_, ?_, ?_, ?_, ?_⟩
      · rw [hst]; exact blk_put (cs := #[.int .i64 (f1 : Int)]) HF2.out 0 _ (by rw [HW1.out]; rfl)
      · exact blk_far HG2.out HNE.out.symm _
      · rw [hst]; exact OutV.set ⟨fun _ => HP7.out.1, fun h => by cases h⟩ HF2.out (by decide) 0 _
      · exact below_set HB2.out HF0.out
      · exact HS2.out.setF 0 _
def encHead (ids : List Int) (L : Int) : List Int := ([80, 73, 67, 84] ++ putB 2 [IntKind.u32.wrap (ids.length : Int)]) ++ putB 1 [IntKind.u32.wrap L]
def encIds (ids : List Int) : List Int := ids.flatMap fun v => putB 4 [IntKind.u32.wrap v]
def encBits (X : List Int) (lit : List Bool) : Nat × List Int := lit.foldl bitStep (0, X)
theorem encIds_length : ∀ ids : List Int, (encIds ids).length = 4 * ids.length
  | [] => rfl
  | v :: ids => by
    have ih := encIds_length ids
    unfold encIds at ih ⊢
    rw [List.flatMap_cons, List.length_append, putB_length, ih, List.length_cons, List.length_cons, List.length_nil]
    omega
theorem encIds_take (ids : List Int) (j : Nat) (h : j < ids.length) : encIds (ids.take (j + 1)) = encIds (ids.take j) ++ putB 4 [IntKind.u32.wrap (ids.getD j 0)] := by
  unfold encIds
  rw [List.take_succ_eq_append_getElem h, List.flatMap_append, List.flatMap_cons, List.flatMap_nil, List.append_nil, List.getD_eq_getElem?_getD, List.getElem?_eq_getElem h]
  rfl
theorem encHead_length (ids : List Int) (L : Int) : (encHead ids L).length = 7 := by
  unfold encHead
  rw [List.length_append, List.length_append, putB_length, putB_length]
  rfl
theorem bitStep_ok (s : Nat × List Int) (on : Bool) (h : s.1 ≤ 8 ∧ s.2 ≠ []) : (bitStep s on).1 ≤ 8 ∧ (bitStep s on).2 ≠ [] ∧ (bitStep s on).2.length ≤ s.2.length + 1 := by
  unfold bitStep
  by_cases c : s.1 = 0
  · rw [if_pos c]
    dsimp only
    refine ⟨by omega, ?_, ?_⟩
    · split
      · intro e
        have := congrArg List.length e
        simp at this
      · simp
    · split <;> simp
  · rw [if_neg c]
    dsimp only
    have hl : 0 < s.2.length := List.length_pos_iff.2 h.2
    refine ⟨by omega, ?_, ?_⟩
    · split
      · intro e
        have := congrArg List.length e
        simp at this
        exact h.2 this
      · exact h.2
    · split <;> simp
theorem encBits_ok (X : List Int) (hX : X ≠ []) (lit : List Bool) : ∀ j, j ≤ lit.length → (encBits X (lit.take j)).1 ≤ 8 ∧ (encBits X (lit.take j)).2 ≠ [] ∧ (encBits X (lit.take j)).2.length ≤ X.length + j
  | 0, _ => by simp [encBits, hX]
  | j + 1, h => by
    obtain ⟨h1, h2, h3⟩ := encBits_ok X hX lit j (by omega)
    have e : encBits X (lit.take (j + 1)) = bitStep (encBits X (lit.take j)) (lit[j]'(by omega)) := by
      unfold encBits
      rw [List.take_succ_eq_append_getElem (by omega), List.foldl_append]
      rfl
    rw [e]
    obtain ⟨k1, k2, k3⟩ := bitStep_ok _ (lit[j]'(by omega)) ⟨h1, h2⟩
    exact ⟨k1, k2, by omega⟩
theorem encBits_take (X : List Int) (lit : List Bool) (j : Nat) (h : j < lit.length) : encBits X (lit.take (j + 1)) = bitStep (encBits X (lit.take j)) (lit.getD j false) := by
  unfold encBits
  rw [List.take_succ_eq_append_getElem h, List.foldl_append, List.getD_eq_getElem?_getD, List.getElem?_eq_getElem h]
  rfl
theorem out_row {W : World} {base : Nat} {mk mk2 : Bool} {v : Value} {xs zs : List Int} (h : OutV 5 W base mk2 v (xs ++ zs)) (hm : mk2 = true → mk = true ∧ zs = []) (hz : zs ≠ []) : Kd.R (Kd.int .u8) 5 W base (fun _ => True) v (xs ++ zs) := by
  cases mk2 with
  | false => exact h.1 rfl
  | true => exact absurd (hm rfl).2 hz
theorem OutV.own {t0 : Nat} {W : World} {base : Nat} {v : Value} {xs : List Int} (h : Kd.R (Kd.int .u8) t0 W base (fun _ => True) v xs) : OutV t0 W base false v xs := ⟨fun _ => h, fun e => by cases e⟩
theorem mark_out {W1 : World} {base gl N : Nat} (h : gl = N) (hb : base ≤ N) (hm : W1.heap[gl]? = some (.cells #[.int .u8 80, .int .u8 73, .int .u8 67, .int .u8 84] 5 ((#[.int .u8 80, .int .u8 73, .int .u8 67, .int .u8 84] : Array Value).size, (#[.int .u8 80, .int .u8 73, .int .u8 67, .int .u8 84] : Array Value).size + 1))) : OutV 5 W1 base true (.slice (some ⟨gl, 0, none⟩) 4 4) [80, 73, 67, 84] :=
  ⟨fun h => (by cases h), fun _ => ⟨gl, rfl, by omega, hm⟩⟩
theorem putB_ne (n : Nat) (hn : 0 < n) (v : Int) : putB n [v] ≠ [] := by
  intro e
  have := congrArg List.length e
  rw [putB_length] at this
  simp at this
  omega
def impl_EncodePicture.f (k : Nat) (l0_0 : List Int) (a0_1 : Int) (l0_2 : List Bool) : Option (List Int) := (impl_validPicture.f k l0_0 a0_1 l0_2).bind fun t1 => (if t1 = true then (if l0_0.length ≤ 1000 ∧ l0_2.length ≤ 100000 then some (encBits (encHead l0_0 a0_1 ++ encIds l0_0) l0_2).2 else none) else some [])
theorem impl_EncodePicture.mono : ∀ a0 a1 a2 k, LeO (impl_EncodePicture.f k a0 a1 a2) (impl_EncodePicture.f (k + 1) a0 a1 a2) := by
  intro a0 a1 a2 k
  unfold impl_EncodePicture.f
  repeat' with_reducible first | exact impl_validPicture.mono _ _ _ _ | exact LeO.refl _ | exact LeO.none _ | refine LeO.ite ?_ ?_ | refine LeO.bind ?_ (fun _ => ?_)
set_option maxHeartbeats 8000000 in
set_option maxRecDepth 100000 in
theorem impl_EncodePicture.calls (k : Nat) (A0_0 : Option Addr) (c0_0 : Nat) (l0_0 : List Int) (a0_1 : Int) (A0_2 : Option Addr) (c0_2 : Nat) (l0_2 : List Bool) (r : List Int) (w : World) (hr0_0 : Kd.C (Kd.int .i64) w A0_0 l0_0.length l0_0) (hc0_0 : l0_0.length ≤ c0_0) (hr0_2 : Kd.C Kd.bool w A0_2 l0_2.length l0_2) (hc0_2 : l0_2.length ≤ c0_2) (h : impl_EncodePicture.f k l0_0 a0_1 l0_2 = some r) :
    Calls Try.prog 25 #[.agg #[.slice A0_0 l0_0.length c0_0, .int .i64 a0_1, .slice A0_2 l0_2.length c0_2]] w fun e w' => ∃ v0_ : Value, e = .returned (v0_) ∧ Kd.R (Kd.int .u8) 5 w' w.heap.size (fun _ => True) v0_ r ∧ Below w.heap.size w w' := by
  have hu43 := Try.underlying43; have HR0_0 := AM hr0_0; have HC0_0 := AM hc0_0; clear hr0_0 hc0_0; have HR0_2 := AM hr0_2; have HC0_2 := AM hc0_2; clear hr0_2 hc0_2; have HB := AM (Below.refl w.heap.size w)
  obtain ⟨t1, A10, H⟩ := Option.bind_eq_some_iff.mp h
  clear h
  have A1 := AM A10; clear A10
  by_cases c1 : t1 = true
  rotate_left
  · rw [if_neg c1] at H
    obtain rfl : t1 = false := by simpa using c1
    clear c1
    obtain rfl := Option.some.inj H
    clear H
    go_enter Try.func25, Try.ntmps25
    go_wp2_with (first | ((with_reducible refine gate_dst (N := 1) rfl ?_); refine box_event ?hg (N := 1) ?hd (cs := #[.slice A0_0 l0_0.length c0_0, .int .i64 a0_1, .slice A0_2 l0_2.length c0_2]) (t := 43) ?hr ?_; (case hd => rfl); (case hg => rfl); (case hr => first | (go_simp; done) | (go_simp; rfl)); intro gb1 hg w3 hbox hb; have BK1 := AM (hbox); replace HB := AM (below_step (pH HB) hb); clear hb hbox hg; have ⟨hcy_0, hcy_1, hcy_2, hfy_0, hfy_1, hfy_2⟩ := z3 BK1) | ((with_reducible refine gate_callee (f := 70) rfl ?_); refine goesL_ (some 11) rfl rfl Try.func70 (by kernel_rfl) rfl #[.agg #[.slice A0_0 l0_0.length c0_0, .int .i64 a0_1, .slice A0_2 l0_2.length c0_2]] rfl (by (try simp only [List.map_toArray, List.map_cons, List.map_nil]); first | done | rfl) ?_; (with_reducible refine (impl_validPicture.calls k _ _ l0_0 a0_1 _ _ l0_2 _ _ ?side1 ?side2 ?side3 ?side4 A1.out).mono ?_); (case side1 => exact cB HR0_0 HB); (case side2 => exact HC0_0.out); (case side3 => exact cB HR0_2 HB); (case side4 => exact HC0_2.out); rintro e_ w4 ⟨rfl, hb⟩; refine ⟨_, rfl, ?_⟩; replace BK1 := bB BK1 hb; replace HB := AM (below_step (pH HB) hb); clear hb; have ⟨hcv_0, hcv_1, hcv_2, hfv_0, hfv_1, hfv_2⟩ := z3 BK1))
    go_ret
    exact ⟨_, rfl, Kd.R_nil _ _ _ _ _, pH HB⟩
  · rw [if_pos c1] at H
    subst c1
    by_cases c2 : l0_0.length ≤ 1000 ∧ l0_2.length ≤ 100000
    rotate_left
    · rw [if_neg c2] at H
      cases H
    rw [if_pos c2] at H
    obtain rfl := Option.some.inj H
    clear H
    have HLN := AM c2
    clear c2
    obtain ⟨q0, hz0⟩ : ∃ q0 : List Int, q0 = [IntKind.u32.wrap (l0_0.length : Int)] := ⟨_, rfl⟩
    have HZ0 := AM hz0; have HZL0 := AM (show q0.length = 1 by rw [hz0]; rfl); clear hz0
    obtain ⟨q1, hz1⟩ : ∃ q1 : List Int, q1 = [IntKind.u32.wrap a0_1] := ⟨_, rfl⟩
    have HZ1 := AM hz1; have HZL1 := AM (show q1.length = 1 by rw [hz1]; rfl); clear hz1
    go_enter Try.func25, Try.ntmps25
    go_wp2_with (first | ((with_reducible refine gate_dst (N := 1) rfl ?_); refine box_event ?hg (N := 1) ?hd (cs := #[.slice A0_0 l0_0.length c0_0, .int .i64 a0_1, .slice A0_2 l0_2.length c0_2]) (t := 43) ?hr ?_; (case hd => rfl); (case hg => rfl); (case hr => first | (go_simp; done) | (go_simp; rfl)); intro gb1 hg w3 hbox hb; have BK1 := AM (hbox); replace HB := AM (below_step (pH HB) hb); clear hb hbox hg; have ⟨hcy_0, hcy_1, hcy_2, hfy_0, hfy_1, hfy_2⟩ := z3 BK1) | ((with_reducible refine gate_callee (f := 70) rfl ?_); refine goesL_ (some 11) rfl rfl Try.func70 (by kernel_rfl) rfl #[.agg #[.slice A0_0 l0_0.length c0_0, .int .i64 a0_1, .slice A0_2 l0_2.length c0_2]] rfl (by (try simp only [List.map_toArray, List.map_cons, List.map_nil]); first | done | rfl) ?_; (with_reducible refine (impl_validPicture.calls k _ _ l0_0 a0_1 _ _ l0_2 _ _ ?side1 ?side2 ?side3 ?side4 A1.out).mono ?_); (case side1 => exact cB HR0_0 HB); (case side2 => exact HC0_0.out); (case side3 => exact cB HR0_2 HB); (case side4 => exact HC0_2.out); rintro e_ w4 ⟨rfl, hb⟩; refine ⟨_, rfl, ?_⟩; replace BK1 := bB BK1 hb; replace HB := AM (below_step (pH HB) hb); clear hb; have ⟨hcv_0, hcv_1, hcv_2, hfv_0, hfv_1, hfv_2⟩ := z3 BK1) | ((with_reducible refine gate_dst (N := 13) rfl ?_); refine lit_mark_event ?hg ?hg2 (N := 13) (N2 := 14) ?hd ?hd2 Try.underlying107 Try.underlying5 ?ho2 (cs := #[.int .u8 80, .int .u8 73, .int .u8 67, .int .u8 84]) (n := 4) ?hr ?hev ?_; (case hd => rfl); (case hd2 => rfl); (case hg => rfl); (case hg2 => rfl); (case ho2 => rfl); (case hr => first | (go_simp; done) | (go_simp; rfl)); (case hev => intro v_; first | rfl | (go_simp; done)); intro gl hgl_ w5 hmk_ hb; have HOv := AM (mark_out hgl_ (below_size' HB.out) hmk_); replace BK1 := bB BK1 hb; replace HB := AM (below_step (pH HB) hb); clear hb hmk_ hgl_) | ((with_reducible refine gate_dst (N := 3) rfl ?_); refine box_event ?hg (N := 3) ?hd (cs := #[.slice none 0 0]) (t := 107) ?hr ?_; (case hd => rfl); (case hg => rfl); (case hr => first | (go_simp; done) | (go_simp; rfl)); intro gB hg w6 hbox hb; have HG := AM hbox; have HGE := gH HB hg; have HNE := nL BK1 hg; replace BK1 := bB BK1 hb; replace HOv := AM (HOv.out.below hb); replace HB := AM (below_step (pH HB) hb); clear hb hbox hg; have ⟨hcg, hfg⟩ := z1 HG) | ((with_reducible refine gate_store (t := 107) (p := 3) rfl ?_); refine store_event (t := 107) (p := 3) (v := ?vo_b) (w1 := (w6.setCell ⟨gB, 0, none⟩ (.slice (some ⟨gl, 0, none⟩) 4 4))) ?hg ?ho ?hn ?hr ?_; (case ho => rfl); (case hg => rfl); (case hn => rfl); (case hr => first | (go_simp; done) | (go_simp; rfl)); intro w8 hw; have hg1 : w8.heap[gB]? = some (.cells #[.slice (some ⟨gl, 0, none⟩) 4 4] 107 (0, 0)) := (by rw [hw]; exact blk_put (cs := #[.slice none 0 0]) HG.out 0 _ rfl); have ho1 : OutV 5 w8 w.heap.size true (.slice (some ⟨gl, 0, none⟩) 4 4) [80, 73, 67, 84] := (by rw [hw]; exact OutV.set HOv.out HG.out (by decide) 0 _); have hb1 : Below w.heap.size w w8 := (by rw [hw]; exact below_set HB.out HGE.out); have hk1 : w8.heap[gb1]? = some (.cells #[.slice A0_0 l0_0.length c0_0, .int .i64 a0_1, .slice A0_2 l0_2.length c0_2] 43 (0, 0)) := (by rw [hw]; exact blk_far BK1.out HNE.out _); clear hw HG HOv HB BK1; have HG := AM hg1; have HOv := AM ho1; have HB := AM hb1; have BK1 := AM hk1; clear hg1 ho1 hb1 hk1 hcg hfg; have ⟨hcs_0, hcs_1, hcs_2, hfs_0, hfs_1, hfs_2⟩ := z3 BK1) | ((with_reducible refine gate_dst (N := 19) rfl ?_); refine Kd.R_lit (Kd.int .u32) _ 50 ?hg (N := 19) ?hd (xs := ([IntKind.u32.wrap (l0_0.length : Int)] : List Int)) (inner := [.int .u32 (IntKind.u32.wrap (l0_0.length : Int))]) (ok := fun _ => True) (okp := fun _ => True) ?hr ?hp (fun _ hk => hk) trivial (Below.refl _ _) (Nat.le_refl _) (by simp) ?_; (case hd => rfl); (case hg => rfl); (case hr => first | (go_simp; done) | (go_simp; rfl)); (case hp => exact (Reps.one (show Kd.M (Kd.int .u32) _ _ _ _ [.int .u32 _] from rfl) (Reps.none _ _))); intro v19 w19 ho hb hg_ hnew_; clear hg_ hnew_; rw [← HZ0.out] at ho; have HV19 := AM (Kd.R_lower ho (below_size' HB.out)); replace BK1 := bB BK1 hb; replace HG := bB HG hb; replace HOv := AM (HOv.out.below hb); replace HB := AM (below_then HB.out HB.out.size hb); clear hb ho; obtain ⟨A19, c19, e19⟩ := Kd.R_slice HV19.out; subst e19) | ((with_reducible refine gate_callee (f := 71) rfl ?_); refine goesL_ (some 20) rfl rfl Try.func71 (by kernel_rfl) rfl #[.pointer (some ⟨gB, 0, none⟩), .int .i64 2, .slice A19 q0.length c19] rfl (by (try simp only [List.map_toArray, List.map_cons, List.map_nil]); first | done | rfl) ?_; (with_reducible refine (put_calls' w _ gB 2 2 rfl (by omega) (.slice (some ⟨gl, 0, none⟩) 4 4) true [80, 73, 67, 84] q0 A19 c19 _ HG.out HGE.out HOv.out HB.out HV19.out ?hl ?hn).mono ?_); (case hl => rw [HZL0.out]; simp); (case hn => rw [HZL0.out]; omega); rintro e_ w20 ⟨rfl, v20, mk20, hG2, hO2, hm2, hb2, hs2⟩; refine ⟨_, rfl, ?_⟩; replace BK1 := AM (hs2.2 gb1 _ _ _ BK1.out (by decide) HNE.out); replace HG := AM hG2; replace HB := AM hb2; rw [HZ0.out] at hO2 hm2; have HR20 := AM (out_row hO2 hm2 (putB_ne 2 (by omega) _)); clear HOv; clear HV19 hG2 hO2 hm2 hb2 hs2; have ⟨hcp20_0, hcp20_1, hcp20_2, hfp20_0, hfp20_1, hfp20_2⟩ := z3 BK1) | ((with_reducible refine gate_dst (N := 24) rfl ?_); refine Kd.R_lit (Kd.int .u32) _ 50 ?hg (N := 24) ?hd (xs := ([IntKind.u32.wrap a0_1] : List Int)) (inner := [.int .u32 (IntKind.u32.wrap a0_1)]) (ok := fun _ => True) (okp := fun _ => True) ?hr ?hp (fun _ hk => hk) trivial (Below.refl _ _) (Nat.le_refl _) (by simp) ?_; (case hd => rfl); (case hg => rfl); (case hr => first | (go_simp; done) | (go_simp; rfl)); (case hp => exact (Reps.one (show Kd.M (Kd.int .u32) _ _ _ _ [.int .u32 _] from rfl) (Reps.none _ _))); intro v24 w24 ho hb hg_ hnew_; clear hg_ hnew_; rw [← HZ1.out] at ho; have HV24 := AM (Kd.R_lower ho (below_size' HB.out)); replace BK1 := bB BK1 hb; replace HG := bB HG hb; replace HR20 := AM (Kd.R_below HR20.out hb); replace HB := AM (below_then HB.out HB.out.size hb); clear hb ho; obtain ⟨A24, c24, e24⟩ := Kd.R_slice HV24.out; subst e24) | ((with_reducible refine gate_callee (f := 71) rfl ?_); refine goesL_ (some 25) rfl rfl Try.func71 (by kernel_rfl) rfl #[.pointer (some ⟨gB, 0, none⟩), .int .i64 1, .slice A24 q1.length c24] rfl (by (try simp only [List.map_toArray, List.map_cons, List.map_nil]); first | done | rfl) ?_; (with_reducible refine (put_calls' w _ gB 1 1 rfl (by omega) v20 false ([80, 73, 67, 84] ++ putB 2 [IntKind.u32.wrap (l0_0.length : Int)]) q1 A24 c24 _ HG.out HGE.out (OutV.own HR20.out) HB.out HV24.out ?hl ?hn).mono ?_); (case hl => rw [HZL1.out]; rw [List.length_append, putB_length]; simp); (case hn => rw [HZL1.out]; omega); rintro e_ w25 ⟨rfl, v25, mk25, hG2, hO2, hm2, hb2, hs2⟩; refine ⟨_, rfl, ?_⟩; replace BK1 := AM (hs2.2 gb1 _ _ _ BK1.out (by decide) HNE.out); replace HG := AM hG2; replace HB := AM hb2; rw [HZ1.out] at hO2 hm2; have HR25 := AM (out_row hO2 hm2 (putB_ne 1 (by omega) _)); clear HR20; clear HV24 hG2 hO2 hm2 hb2 hs2; have ⟨hcp25_0, hcp25_1, hcp25_2, hfp25_0, hfp25_1, hfp25_2⟩ := z3 BK1))
    have HH := AM (show Kd.R (Kd.int .u8) 5 w25 w.heap.size (fun _ => True) v25 (encHead l0_0 a0_1 ++ encIds (l0_0.take 0)) from by rw [show encIds (l0_0.take 0) = [] from by simp [encIds], List.append_nil]; exact HR25.out)
    clear HR25
    go_loopg [29] l0_0.length (fun kq v29 w' => ∃ (j : Nat) (v' : Value), v29 = .int .i64 (j : Int) ∧ Aside0 (j + kq = l0_0.length) ∧ Aside0 (w'.heap[gb1]? = some (.cells #[.slice A0_0 l0_0.length c0_0, .int .i64 a0_1, .slice A0_2 l0_2.length c0_2] 43 (0, 0))) ∧ Aside0 (w'.heap[gB]? = some (.cells #[v'] 107 (0, 0))) ∧ Aside0 (Kd.R (Kd.int .u8) 5 w' w.heap.size (fun _ => True) v' (encHead l0_0 a0_1 ++ encIds (l0_0.take j))) ∧ Aside0 (Below w.heap.size w w'))
    case atStart => exact ⟨0, v25, rfl, ⟨by omega⟩, BK1, HG, HH, HB⟩
    case round =>
      clear HH BK1 HG HB
      obtain ⟨j, v', rfl, HJ, BK1, HG, HR, HB⟩ := hrel
      cases gk with
      | zero =>
        have ej : j = l0_0.length := by have := HJ.out; omega
        have cb0 : decide ((j : Int) < (l0_0.length : Int)) = false := decide_eq_false (by omega)
        have cb1 : decide (j < l0_0.length) = false := decide_eq_false (by omega)
        rw [ej, List.take_length] at HR
        replace ej := AM ej
        have ⟨hce_0, hce_1, hce_2, hfe_0, hfe_1, hfe_2⟩ := z3 BK1
        go_wp2_with (first | ((with_reducible refine gate_dst (N := 6) rfl ?_); refine box_event ?hg (N := 6) ?hd (cs := #[.int .i64 0]) (t := 3) ?hr ?_; (case hd => rfl); (case hg => rfl); (case hr => first | (go_simp; done) | (go_simp; rfl)); intro gF hg w40 hbox hb; have HF := AM hbox; have HFE := gH HB hg; have HNF := nL BK1 hg; have HNG := nL HG hg; replace BK1 := bB BK1 hb; replace HG := bB HG hb; replace HR := AM (Kd.R_below HR.out hb); replace HB := AM (below_step (pH HB) hb); clear hb hbox hg; have ⟨hcf, hff⟩ := z1 HF) | ((with_reducible refine gate_store (t := 3) (p := 6) rfl ?_); refine store_event (t := 3) (p := 6) (v := ?vo_f) (w1 := (w40.setCell ⟨gF, 0, none⟩ (.int .i64 0))) ?hg ?ho ?hn ?hr ?_; (case ho => rfl); (case hg => rfl); (case hn => rfl); (case hr => first | (go_simp; done) | (go_simp; rfl)); intro w41 hw; have hf1 : w41.heap[gF]? = some (.cells #[.int .i64 0] 3 (0, 0)) := (by rw [hw]; exact blk_put (cs := #[.int .i64 0]) HF.out 0 _ rfl); have hg1 : w41.heap[gB]? = some (.cells #[v'] 107 (0, 0)) := (by rw [hw]; exact blk_far HG.out HNG.out _); have hr1 : Kd.R (Kd.int .u8) 5 w41 w.heap.size (fun _ => True) v' (encHead l0_0 a0_1 ++ encIds l0_0) := (by rw [hw]; exact Kd.R_set HR.out HF.out (fun q (hq : q ∈ 5 :: ([] : List Nat)) => by rw [List.mem_singleton.1 hq]; decide) 0 _); have hb1 : Below w.heap.size w w41 := (by rw [hw]; exact below_set HB.out HFE.out); have hk1 : w41.heap[gb1]? = some (.cells #[.slice A0_0 l0_0.length c0_0, .int .i64 a0_1, .slice A0_2 l0_2.length c0_2] 43 (0, 0)) := (by rw [hw]; exact blk_far BK1.out HNF.out _); clear hw HF HG HR HB BK1 hcf hff; have HF := AM hf1; have HG := AM hg1; have HR := AM hr1; have HB := AM hb1; have BK1 := AM hk1; clear hf1 hg1 hr1 hb1 hk1; have ⟨hch_0, hch_1, hch_2, hfh_0, hfh_1, hfh_2⟩ := z3 BK1))
        obtain ⟨X, hX⟩ : ∃ X, encHead l0_0 a0_1 ++ encIds l0_0 = X := ⟨_, rfl⟩
        have hXl : X.length = 7 + 4 * l0_0.length := by rw [← hX, List.length_append, encHead_length, encIds_length]
        have hX0 : X ≠ [] := by intro e; rw [e] at hXl; simp at hXl; omega
        rw [hX] at HR
        have HX := AM hX; have HXL := AM hXl; have HX0 := AM hX0
        clear hX hXl hX0
        have HNGF := AM HNG.out
        go_loopg [42] l0_2.length (fun kq v42 w' => ∃ (i : Nat) (v' : Value), v42 = .int .i64 (i : Int) ∧ Aside0 (i + kq = l0_2.length) ∧ Aside0 (w'.heap[gF]? = some (.cells #[.int .i64 (((encBits X (l0_2.take i)).1 : Nat) : Int)] 3 (0, 0))) ∧ Aside0 (w'.heap[gB]? = some (.cells #[v'] 107 (0, 0))) ∧ Aside0 (Kd.R (Kd.int .u8) 5 w' w.heap.size (fun _ => True) v' (encBits X (l0_2.take i)).2) ∧ Aside0 (Below w.heap.size w w'))
        case atStart => exact ⟨0, v', rfl, ⟨by omega⟩, HF, HG, HR, HB⟩
        case round =>
          clear HR BK1 HG HB HF
          obtain ⟨i, v', rfl, HI, HF, HG, HR, HB⟩ := hrel
          have HOK := AM (encBits_ok X HX0.out l0_2 i (by have := HI.out; omega))
          cases gk with
          | zero =>
            have ei : i = l0_2.length := by have := HI.out; omega
            have ci0 : decide ((i : Int) < (l0_2.length : Int)) = false := decide_eq_false (by omega)
            have ci1 : decide (i < l0_2.length) = false := decide_eq_false (by omega)
            rw [ei, List.take_length] at HR
            replace ei := AM ei
            have ⟨hcq, hfq⟩ := z1 HG
            obtain ⟨Ao, co, eo⟩ := Kd.R_slice HR.out
            subst eo
            go_wp2
            go_ret
            exact ⟨_, rfl, by rw [HX.out]; exact HR.out, HB.out⟩
          | succ k3 =>
            have hi : i < l0_2.length := by have := HI.out; omega
            have ci0 : decide ((i : Int) < (l0_2.length : Int)) = true := decide_eq_true (by omega)
            have ci1 : decide (i < l0_2.length) = true := decide_eq_true hi
            obtain ⟨ad, ea, hx⟩ := Kd.at_bool HR0_2.out (i : Int) (by omega) (by omega)
            subst ea
            obtain ⟨y, hy⟩ : ∃ y, l0_2.getD i false = y := ⟨_, rfl⟩
            have hx2 : wr.cell? (ad.add i) = some (.bool y) := by
              rw [Int.toNat_natCast] at hx
              rw [pw_cell_below HB.out hx, ← hy]
              simp [rdOf]
            clear hx
            replace hy := AM hy
            have hw : wrap64 ((i : Int) + 1) = ((i + 1 : Nat) : Int) := by have := HLN.out; unfold wrap64; omega
            have HW := AM hw
            clear hw
            go_wp2_with (go_at_call 72; refine (bit_calls w _ gF gB (encBits X (l0_2.take i)).1 HOK.out.1 v' false (encBits X (l0_2.take i)).2 y HF.out HFE.out HG.out HGE.out (OutV.own HR.out) ?hmk HB.out ?hl).mono ?_; (case hmk => exact fun _ => ⟨rfl, HOK.out.2.1⟩); (case hl => have h1 := HOK.out.2.2; have h2 := HXL.out; have h3 := HLN.out; omega); rintro e_ w50 ⟨rfl, v50, hf2, hg2, ho2, hb2, hs2⟩; replace HF := AM hf2; replace HG := AM hg2; have HR50 := AM (ho2.1 rfl); replace HB := AM hb2; clear HR hf2 hg2 ho2 hb2 hs2)
            go_roundg k3
            case measure => omega
            case rel =>
              have he := encBits_take X l0_2 i hi
              rw [hy.out] at he
              refine ⟨i + 1, v50, by first | rfl | rw [HW.out] | (simp; done), ⟨by have := HI.out; omega⟩, ⟨?_⟩, HG, ⟨?_⟩, HB⟩
              · rw [he]; exact HF.out
              · rw [he]; exact HR50.out
      | succ k2 =>
        have hj : j < l0_0.length := by have := HJ.out; omega
        have cb0 : decide ((j : Int) < (l0_0.length : Int)) = true := decide_eq_true (by omega)
        have cb1 : decide (j < l0_0.length) = true := decide_eq_true hj
        obtain ⟨ad, ea, hx⟩ := Kd.at_int HR0_0.out (j : Int) (by omega) (by omega)
        subst ea
        obtain ⟨y, hy⟩ : ∃ y, l0_0.getD j 0 = y := ⟨_, rfl⟩
        have hx2 : wr.cell? (ad.add j) = some (.int .i64 y) := by
          rw [Int.toNat_natCast] at hx
          rw [pw_cell_below HB.out hx, ← hy]
          simp [rd]
        clear hx
        replace hy := AM hy
        obtain ⟨q2, hq2⟩ : ∃ q2 : List Int, q2 = [IntKind.u32.wrap y] := ⟨_, rfl⟩
        have HZ2 := AM hq2; have HZL2 := AM (show q2.length = 1 by rw [hq2]; rfl); clear hq2
        have hw : wrap64 ((j : Int) + 1) = ((j + 1 : Nat) : Int) := by have := HLN.out; unfold wrap64; omega
        have HW := AM hw
        clear hw
        go_wp2_with (first | ((with_reducible refine gate_dst (N := 35) rfl ?_); refine Kd.R_lit (Kd.int .u32) _ 50 ?hg (N := 35) ?hd (xs := ([IntKind.u32.wrap y] : List Int)) (inner := [.int .u32 (IntKind.u32.wrap y)]) (ok := fun _ => True) (okp := fun _ => True) ?hr ?hp (fun _ hk => hk) trivial (Below.refl _ _) (Nat.le_refl _) (by simp) ?_; (case hd => rfl); (case hg => rfl); (case hr => first | (go_simp; done) | (go_simp; rfl)); (case hp => exact (Reps.one (show Kd.M (Kd.int .u32) _ _ _ _ [.int .u32 _] from rfl) (Reps.none _ _))); intro v35 w35 ho hb hg_ hnew_; clear hg_ hnew_; rw [← HZ2.out] at ho; have HV35 := AM (Kd.R_lower ho (below_size' HB.out)); replace BK1 := bB BK1 hb; replace HG := bB HG hb; replace HR := AM (Kd.R_below HR.out hb); replace HB := AM (below_then HB.out HB.out.size hb); clear hb ho; obtain ⟨A35, c35, e35⟩ := Kd.R_slice HV35.out; subst e35) | ((with_reducible refine gate_callee (f := 71) rfl ?_); refine goesL_ (some 36) rfl rfl Try.func71 (by kernel_rfl) rfl #[.pointer (some ⟨gB, 0, none⟩), .int .i64 4, .slice A35 q2.length c35] rfl (by (try simp only [List.map_toArray, List.map_cons, List.map_nil]); first | done | rfl) ?_; (with_reducible refine (put_calls' w _ gB 4 4 rfl (by omega) v' false (encHead l0_0 a0_1 ++ encIds (l0_0.take j)) q2 A35 c35 _ HG.out HGE.out (OutV.own HR.out) HB.out HV35.out ?hl ?hn).mono ?_); (case hl => rw [HZL2.out]; rw [List.length_append, encHead_length, encIds_length, List.length_take]; have := HLN.out; omega); (case hn => rw [HZL2.out]; omega); rintro e_ w36 ⟨rfl, v36, mk36, hG2, hO2, hm2, hb2, hs2⟩; refine ⟨_, rfl, ?_⟩; replace BK1 := AM (hs2.2 gb1 _ _ _ BK1.out (by decide) HNE.out); replace HG := AM hG2; replace HB := AM hb2; rw [HZ2.out] at hO2 hm2; have HR36 := AM (out_row hO2 hm2 (putB_ne 4 (by omega) _)); clear HR; clear HV35 hG2 hO2 hm2 hb2 hs2; have ⟨hcp36_0, hcp36_1, hcp36_2, hfp36_0, hfp36_1, hfp36_2⟩ := z3 BK1))
        go_roundg k2
        case measure => omega
        case rel =>
          refine ⟨j + 1, v36, by first | rfl | rw [HW.out] | (simp; done), ⟨by have := HJ.out; omega⟩, BK1, HG, ⟨?_⟩, HB⟩
          rw [encIds_take l0_0 j hj, hy.out, ← List.append_assoc]
          exact HR36.out

/-! ### laws_eqByteS: function 26 -/
def laws_eqByteS.l0 : Nat → List Int → List Int → Int → Option (Bool)
 | 0, _, _, _ => none
 | k + 1, x0, x1, x5 => if x5 < (x0.length : Int) then (if 0 ≤ x5 then (if x5 < (x1.length : Int) then (if (rd x0 x5) = (rd x1 x5) then (laws_eqByteS.l0 k x0 x1 (wrap64 (x5 + 1))) else (some false)) else (none)) else (none)) else (some true)
def laws_eqByteS.f (k : Nat) (l0 : List Int) (l1 : List Int) : Option (Bool) := if (l0.length : Int) = (l1.length : Int) then (laws_eqByteS.l0 k l0 l1 0) else (some false)
theorem laws_eqByteS.mono_l : ∀ k, (∀ y0 y1 y2, LeO (laws_eqByteS.l0 k y0 y1 y2) (laws_eqByteS.l0 (k + 1) y0 y1 y2))
 | 0 => fun _ _ _ r h => by simp [laws_eqByteS.l0] at h
 | k + 1 => by
  have ih0 := laws_eqByteS.mono_l k
  · intro y0 y1 y2
    unfold laws_eqByteS.l0
    repeat' with_reducible first | exact ih0 _ _ _ | exact LeO.refl _ | exact LeO.none _ | refine LeO.ite ?_ ?_ | refine LeO.bind ?_ (fun _ => ?_)
theorem laws_eqByteS.mono : ∀ a0 a1 k, LeO (laws_eqByteS.f k a0 a1) (laws_eqByteS.f (k + 1) a0 a1) := by
 intro a0 a1 k
 have ih0 := laws_eqByteS.mono_l k
 unfold laws_eqByteS.f
 repeat' with_reducible first | exact ih0 _ _ _ | exact LeO.refl _ | exact LeO.none _ | refine LeO.ite ?_ ?_ | refine LeO.bind ?_ (fun _ => ?_)
set_option maxHeartbeats 8000000 in
set_option maxRecDepth 100000 in
theorem laws_eqByteS.calls (k : Nat) (A0 : Option Addr) (c0 : Nat) (l0 : List Int) (A1 : Option Addr) (c1 : Nat) (l1 : List Int) (r : Bool) (w : World) (hr0 : Kd.C (Kd.int .u8) w A0 l0.length l0) (hc0 : l0.length ≤ c0) (hr1 : Kd.C (Kd.int .u8) w A1 l1.length l1) (hc1 : l1.length ≤ c1) (h : laws_eqByteS.f k l0 l1 = some r) :
 Calls Try.prog 26 #[.slice A0 l0.length c0, .slice A1 l1.length c1] w fun e w' => e = .returned (.bool r) ∧ Drawn0 w w' := by
 have HR0 := AM hr0; have HC0 := AM hc0; clear hr0 hc0; have HR1 := AM hr1; have HC1 := AM hc1; clear hr1 hc1
 have H : (if (l0.length : Int) = (l1.length : Int) then (laws_eqByteS.l0 k l0 l1 0) else (some false)) = some r := h
 clear h
 by_cases c3 : (l0.length : Int) = (l1.length : Int)
 rotate_left
 · rw [if_neg c3] at H
   have c3b0 : ((l0.length : Int) == (l1.length : Int)) = false := beq_eq_false_iff_ne.mpr c3
   have c3b1 : ((l0.length : Int) != (l1.length : Int)) = true := bne_iff_ne.mpr c3
   have c3b2 : (l0.length == l1.length) = false := by first | simpa using c3 | (simp at c3 ⊢; omega)
   obtain rfl := Option.some.inj H
   go_enter Try.func26, Try.ntmps26
   go_wp2
   repeat (go_quiet (fail); try go_wp2)
   go_ret
   exact ⟨by first | rfl | (simp; done) | (simp [*]; done), by repeat (first | exact Drawn0.refl _ | apply Drawn0.step)⟩

 rw [if_pos c3] at H
 have c3b0 : ((l0.length : Int) == (l1.length : Int)) = true := beq_iff_eq.mpr c3
 have c3b1 : ((l0.length : Int) != (l1.length : Int)) = false := bne_eq_false_iff_eq.mpr c3
 have c3b2 : (l0.length == l1.length) = true := by first | simpa using c3 | (simp at c3 ⊢; omega)
 clear c3
 have H' := AM H
 clear H
 go_enter Try.func26, Try.ntmps26
 go_wp2
 repeat (go_quiet (fail); try go_wp2)
 go_loopg [5] k (fun kq v5 w' => ∃ (x5_1 : Int), v5 = .int .i64 x5_1 ∧ Aside0 (laws_eqByteS.l0 kq l0 l1 x5_1 = some r) ∧ Aside0 (kq ≤ k) ∧ Drawn0 w w')
 case atStart => exact ⟨(0), (by first | rfl | (simp; done) | (simp [*]; done)), H', ⟨Nat.le_refl _⟩, by repeat (first | exact Drawn0.refl _ | apply Drawn0.step)⟩
 case round =>
  clear H'
  try clear c1
  try clear c2
  try clear p2
  try clear c3
  try clear c3b0
  try clear c3b1
  try clear c3b2
  obtain ⟨x5_1, rfl, HA, HK1, ⟨m1, rfl⟩⟩ := hrel
  cases gk with
  | zero => exact absurd HA.out (by simp [laws_eqByteS.l0])
  | succ k1 =>
   have H := HA.out; clear HA
   simp only [laws_eqByteS.l0] at H
   by_cases c4 : x5_1 < (l0.length : Int)
   rotate_left
   · rw [if_neg c4] at H
     have c4b0 : decide (x5_1 < (l0.length : Int)) = false := decide_eq_false c4
     clear c4
     obtain rfl := Option.some.inj H
     go_wp2
     repeat (go_quiet (fail); try go_wp2)
     go_ret
     exact ⟨by first | rfl | (simp; done) | (simp [*]; done), by repeat (first | exact Drawn0.refl _ | apply Drawn0.step)⟩
   rw [if_pos c4] at H
   have c4b0 : decide (x5_1 < (l0.length : Int)) = true := decide_eq_true c4
   clear c4
   by_cases c5 : 0 ≤ x5_1
   rotate_left
   · rw [if_neg c5] at H
     exact absurd H (by simp)
   rw [if_pos c5] at H
   have c5b0 : decide (0 ≤ x5_1) = true := decide_eq_true c5
   clear c5
   by_cases c6 : x5_1 < (l1.length : Int)
   rotate_left
   · rw [if_neg c6] at H
     exact absurd H (by simp)
   rw [if_pos c6] at H
   have c6b0 : decide (x5_1 < (l1.length : Int)) = true := decide_eq_true c6
   clear c6
   by_cases c7 : (rd l0 x5_1) = (rd l1 x5_1)
   rotate_left
   · rw [if_neg c7] at H
     have c7b0 : ((rd l0 x5_1) == (rd l1 x5_1)) = false := beq_eq_false_iff_ne.mpr c7
     have c7b1 : ((rd l0 x5_1) != (rd l1 x5_1)) = true := bne_iff_ne.mpr c7
     obtain rfl := Option.some.inj H
     have p170 : 0 ≤ (x5_1 : Int) := of_decide_eq_true (by first | (with_reducible assumption) | assumption)
     have q170 : x5_1 < (l0.length : Int) := of_decide_eq_true (by first | (with_reducible assumption) | assumption)
     obtain ⟨ad170, e170, hx170_0⟩ := Kd.at_int HR0.out x5_1 p170 q170
     cases e170
     replace p170 := eq_true p170; replace q170 := eq_true q170
     have p171 : 0 ≤ (x5_1 : Int) := of_decide_eq_true (by first | (with_reducible assumption) | assumption)
     have q171 : x5_1 < (l1.length : Int) := of_decide_eq_true (by first | (with_reducible assumption) | assumption)
     obtain ⟨ad171, e171, hx171_0⟩ := Kd.at_int HR1.out x5_1 p171 q171
     cases e171
     replace p171 := eq_true p171; replace q171 := eq_true q171
     go_wp2
     repeat (go_quiet (fail); try go_wp2)
     go_ret
     exact ⟨by first | rfl | (simp; done) | (simp [*]; done), by repeat (first | exact Drawn0.refl _ | apply Drawn0.step)⟩
   rw [if_pos c7] at H
   have c7b0 : ((rd l0 x5_1) == (rd l1 x5_1)) = true := beq_iff_eq.mpr c7
   have c7b1 : ((rd l0 x5_1) != (rd l1 x5_1)) = false := bne_eq_false_iff_eq.mpr c7
   clear c7
   have H' := AM H
   clear H
   have p170 : 0 ≤ (x5_1 : Int) := of_decide_eq_true (by first | (with_reducible assumption) | assumption)
   have q170 : x5_1 < (l0.length : Int) := of_decide_eq_true (by first | (with_reducible assumption) | assumption)
   obtain ⟨ad170, e170, hx170_0⟩ := Kd.at_int HR0.out x5_1 p170 q170
   cases e170
   replace p170 := eq_true p170; replace q170 := eq_true q170
   have p171 : 0 ≤ (x5_1 : Int) := of_decide_eq_true (by first | (with_reducible assumption) | assumption)
   have q171 : x5_1 < (l1.length : Int) := of_decide_eq_true (by first | (with_reducible assumption) | assumption)
   obtain ⟨ad171, e171, hx171_0⟩ := Kd.at_int HR1.out x5_1 p171 q171
   cases e171
   replace p171 := eq_true p171; replace q171 := eq_true q171
   go_wp2
   repeat (go_quiet (fail); try go_wp2)
   go_roundg k1
   case measure => have := HK1.out; omega
   case rel => exact ⟨(wrap64 (x5_1 + 1)), (by first | rfl | (simp; done) | (simp [*]; done)), H', ⟨by have := HK1.out; omega⟩, by repeat (first | exact Drawn0.refl _ | apply Drawn0.step)⟩
/-! ### laws_eqIntS: function 73 -/
def laws_eqIntS.l0 : Nat → List Int → List Int → Int → Option (Bool)
 | 0, _, _, _ => none
 | k + 1, x0, x1, x5 => if x5 < (x0.length : Int) then (if 0 ≤ x5 then (if x5 < (x1.length : Int) then (if (rd x0 x5) = (rd x1 x5) then (laws_eqIntS.l0 k x0 x1 (wrap64 (x5 + 1))) else (some false)) else (none)) else (none)) else (some true)
def laws_eqIntS.f (k : Nat) (l0 : List Int) (l1 : List Int) : Option (Bool) := if (l0.length : Int) = (l1.length : Int) then (laws_eqIntS.l0 k l0 l1 0) else (some false)
theorem laws_eqIntS.mono_l : ∀ k, (∀ y0 y1 y2, LeO (laws_eqIntS.l0 k y0 y1 y2) (laws_eqIntS.l0 (k + 1) y0 y1 y2))
 | 0 => fun _ _ _ r h => by simp [laws_eqIntS.l0] at h
 | k + 1 => by
  have ih0 := laws_eqIntS.mono_l k
  · intro y0 y1 y2
    unfold laws_eqIntS.l0
    repeat' with_reducible first | exact ih0 _ _ _ | exact LeO.refl _ | exact LeO.none _ | refine LeO.ite ?_ ?_ | refine LeO.bind ?_ (fun _ => ?_)
theorem laws_eqIntS.mono : ∀ a0 a1 k, LeO (laws_eqIntS.f k a0 a1) (laws_eqIntS.f (k + 1) a0 a1) := by
 intro a0 a1 k
 have ih0 := laws_eqIntS.mono_l k
 unfold laws_eqIntS.f
 repeat' with_reducible first | exact ih0 _ _ _ | exact LeO.refl _ | exact LeO.none _ | refine LeO.ite ?_ ?_ | refine LeO.bind ?_ (fun _ => ?_)
set_option maxHeartbeats 8000000 in
set_option maxRecDepth 100000 in
theorem laws_eqIntS.calls (k : Nat) (A0 : Option Addr) (c0 : Nat) (l0 : List Int) (A1 : Option Addr) (c1 : Nat) (l1 : List Int) (r : Bool) (w : World) (hr0 : Kd.C (Kd.int .i64) w A0 l0.length l0) (hc0 : l0.length ≤ c0) (hr1 : Kd.C (Kd.int .i64) w A1 l1.length l1) (hc1 : l1.length ≤ c1) (h : laws_eqIntS.f k l0 l1 = some r) :
 Calls Try.prog 73 #[.slice A0 l0.length c0, .slice A1 l1.length c1] w fun e w' => e = .returned (.bool r) ∧ Drawn0 w w' := by
 have HR0 := AM hr0; have HC0 := AM hc0; clear hr0 hc0; have HR1 := AM hr1; have HC1 := AM hc1; clear hr1 hc1
 have H : (if (l0.length : Int) = (l1.length : Int) then (laws_eqIntS.l0 k l0 l1 0) else (some false)) = some r := h
 clear h
 by_cases c3 : (l0.length : Int) = (l1.length : Int)
 rotate_left
 · rw [if_neg c3] at H
   have c3b0 : ((l0.length : Int) == (l1.length : Int)) = false := beq_eq_false_iff_ne.mpr c3
   have c3b1 : ((l0.length : Int) != (l1.length : Int)) = true := bne_iff_ne.mpr c3
   have c3b2 : (l0.length == l1.length) = false := by first | simpa using c3 | (simp at c3 ⊢; omega)
   obtain rfl := Option.some.inj H
   go_enter Try.func73, Try.ntmps73
   go_wp2
   repeat (go_quiet (fail); try go_wp2)
   go_ret
   exact ⟨by first | rfl | (simp; done) | (simp [*]; done), by repeat (first | exact Drawn0.refl _ | apply Drawn0.step)⟩

 rw [if_pos c3] at H
 have c3b0 : ((l0.length : Int) == (l1.length : Int)) = true := beq_iff_eq.mpr c3
 have c3b1 : ((l0.length : Int) != (l1.length : Int)) = false := bne_eq_false_iff_eq.mpr c3
 have c3b2 : (l0.length == l1.length) = true := by first | simpa using c3 | (simp at c3 ⊢; omega)
 clear c3
 have H' := AM H
 clear H
 go_enter Try.func73, Try.ntmps73
 go_wp2
 repeat (go_quiet (fail); try go_wp2)
 go_loopg [5] k (fun kq v5 w' => ∃ (x5_1 : Int), v5 = .int .i64 x5_1 ∧ Aside0 (laws_eqIntS.l0 kq l0 l1 x5_1 = some r) ∧ Aside0 (kq ≤ k) ∧ Drawn0 w w')
 case atStart => exact ⟨(0), (by first | rfl | (simp; done) | (simp [*]; done)), H', ⟨Nat.le_refl _⟩, by repeat (first | exact Drawn0.refl _ | apply Drawn0.step)⟩
 case round =>
  clear H'
  try clear c1
  try clear p2
  try clear c3
  try clear c3b0
  try clear c3b1
  try clear c3b2
  obtain ⟨x5_1, rfl, HA, HK1, ⟨m1, rfl⟩⟩ := hrel
  cases gk with
  | zero => exact absurd HA.out (by simp [laws_eqIntS.l0])
  | succ k1 =>
   have H := HA.out; clear HA
   simp only [laws_eqIntS.l0] at H
   by_cases c4 : x5_1 < (l0.length : Int)
   rotate_left
   · rw [if_neg c4] at H
     have c4b0 : decide (x5_1 < (l0.length : Int)) = false := decide_eq_false c4
     clear c4
     obtain rfl := Option.some.inj H
     go_wp2
     repeat (go_quiet (fail); try go_wp2)
     go_ret
     exact ⟨by first | rfl | (simp; done) | (simp [*]; done), by repeat (first | exact Drawn0.refl _ | apply Drawn0.step)⟩
   rw [if_pos c4] at H
   have c4b0 : decide (x5_1 < (l0.length : Int)) = true := decide_eq_true c4
   clear c4
   by_cases c5 : 0 ≤ x5_1
   rotate_left
   · rw [if_neg c5] at H
     exact absurd H (by simp)
   rw [if_pos c5] at H
   have c5b0 : decide (0 ≤ x5_1) = true := decide_eq_true c5
   clear c5
   by_cases c6 : x5_1 < (l1.length : Int)
   rotate_left
   · rw [if_neg c6] at H
     exact absurd H (by simp)
   rw [if_pos c6] at H
   have c6b0 : decide (x5_1 < (l1.length : Int)) = true := decide_eq_true c6
   clear c6
   by_cases c7 : (rd l0 x5_1) = (rd l1 x5_1)
   rotate_left
   · rw [if_neg c7] at H
     have c7b0 : ((rd l0 x5_1) == (rd l1 x5_1)) = false := beq_eq_false_iff_ne.mpr c7
     have c7b1 : ((rd l0 x5_1) != (rd l1 x5_1)) = true := bne_iff_ne.mpr c7
     obtain rfl := Option.some.inj H
     have p172 : 0 ≤ (x5_1 : Int) := of_decide_eq_true (by first | (with_reducible assumption) | assumption)
     have q172 : x5_1 < (l0.length : Int) := of_decide_eq_true (by first | (with_reducible assumption) | assumption)
     obtain ⟨ad172, e172, hx172_0⟩ := Kd.at_int HR0.out x5_1 p172 q172
     cases e172
     replace p172 := eq_true p172; replace q172 := eq_true q172
     have p173 : 0 ≤ (x5_1 : Int) := of_decide_eq_true (by first | (with_reducible assumption) | assumption)
     have q173 : x5_1 < (l1.length : Int) := of_decide_eq_true (by first | (with_reducible assumption) | assumption)
     obtain ⟨ad173, e173, hx173_0⟩ := Kd.at_int HR1.out x5_1 p173 q173
     cases e173
     replace p173 := eq_true p173; replace q173 := eq_true q173
     go_wp2
     repeat (go_quiet (fail); try go_wp2)
     go_ret
     exact ⟨by first | rfl | (simp; done) | (simp [*]; done), by repeat (first | exact Drawn0.refl _ | apply Drawn0.step)⟩
   rw [if_pos c7] at H
   have c7b0 : ((rd l0 x5_1) == (rd l1 x5_1)) = true := beq_iff_eq.mpr c7
   have c7b1 : ((rd l0 x5_1) != (rd l1 x5_1)) = false := bne_eq_false_iff_eq.mpr c7
   clear c7
   have H' := AM H
   clear H
   have p172 : 0 ≤ (x5_1 : Int) := of_decide_eq_true (by first | (with_reducible assumption) | assumption)
   have q172 : x5_1 < (l0.length : Int) := of_decide_eq_true (by first | (with_reducible assumption) | assumption)
   obtain ⟨ad172, e172, hx172_0⟩ := Kd.at_int HR0.out x5_1 p172 q172
   cases e172
   replace p172 := eq_true p172; replace q172 := eq_true q172
   have p173 : 0 ≤ (x5_1 : Int) := of_decide_eq_true (by first | (with_reducible assumption) | assumption)
   have q173 : x5_1 < (l1.length : Int) := of_decide_eq_true (by first | (with_reducible assumption) | assumption)
   obtain ⟨ad173, e173, hx173_0⟩ := Kd.at_int HR1.out x5_1 p173 q173
   cases e173
   replace p173 := eq_true p173; replace q173 := eq_true q173
   go_wp2
   repeat (go_quiet (fail); try go_wp2)
   go_roundg k1
   case measure => have := HK1.out; omega
   case rel => exact ⟨(wrap64 (x5_1 + 1)), (by first | rfl | (simp; done) | (simp [*]; done)), H', ⟨by have := HK1.out; omega⟩, by repeat (first | exact Drawn0.refl _ | apply Drawn0.step)⟩
/-! ### laws_eqBoolS: function 74 -/
def laws_eqBoolS.l0 : Nat → List Bool → List Bool → Int → Option (Bool)
 | 0, _, _, _ => none
 | k + 1, x0, x1, x5 => if x5 < (x0.length : Int) then (if 0 ≤ x5 then (if x5 < (x1.length : Int) then (if ((rdOf false x0 x5) != (rdOf false x1 x5)) = true then (some false) else (laws_eqBoolS.l0 k x0 x1 (wrap64 (x5 + 1)))) else (none)) else (none)) else (some true)
def laws_eqBoolS.f (k : Nat) (l0 : List Bool) (l1 : List Bool) : Option (Bool) := if (l0.length : Int) = (l1.length : Int) then (laws_eqBoolS.l0 k l0 l1 0) else (some false)
theorem laws_eqBoolS.mono_l : ∀ k, (∀ y0 y1 y2, LeO (laws_eqBoolS.l0 k y0 y1 y2) (laws_eqBoolS.l0 (k + 1) y0 y1 y2))
 | 0 => fun _ _ _ r h => by simp [laws_eqBoolS.l0] at h
 | k + 1 => by
  have ih0 := laws_eqBoolS.mono_l k
  · intro y0 y1 y2
    unfold laws_eqBoolS.l0
    repeat' with_reducible first | exact ih0 _ _ _ | exact LeO.refl _ | exact LeO.none _ | refine LeO.ite ?_ ?_ | refine LeO.bind ?_ (fun _ => ?_)
theorem laws_eqBoolS.mono : ∀ a0 a1 k, LeO (laws_eqBoolS.f k a0 a1) (laws_eqBoolS.f (k + 1) a0 a1) := by
 intro a0 a1 k
 have ih0 := laws_eqBoolS.mono_l k
 unfold laws_eqBoolS.f
 repeat' with_reducible first | exact ih0 _ _ _ | exact LeO.refl _ | exact LeO.none _ | refine LeO.ite ?_ ?_ | refine LeO.bind ?_ (fun _ => ?_)
set_option maxHeartbeats 8000000 in
set_option maxRecDepth 100000 in
theorem laws_eqBoolS.calls (k : Nat) (A0 : Option Addr) (c0 : Nat) (l0 : List Bool) (A1 : Option Addr) (c1 : Nat) (l1 : List Bool) (r : Bool) (w : World) (hr0 : Kd.C Kd.bool w A0 l0.length l0) (hc0 : l0.length ≤ c0) (hr1 : Kd.C Kd.bool w A1 l1.length l1) (hc1 : l1.length ≤ c1) (h : laws_eqBoolS.f k l0 l1 = some r) :
 Calls Try.prog 74 #[.slice A0 l0.length c0, .slice A1 l1.length c1] w fun e w' => e = .returned (.bool r) ∧ Drawn0 w w' := by
 have HR0 := AM hr0; have HC0 := AM hc0; clear hr0 hc0; have HR1 := AM hr1; have HC1 := AM hc1; clear hr1 hc1
 have H : (if (l0.length : Int) = (l1.length : Int) then (laws_eqBoolS.l0 k l0 l1 0) else (some false)) = some r := h
 clear h
 by_cases c3 : (l0.length : Int) = (l1.length : Int)
 rotate_left
 · rw [if_neg c3] at H
   have c3b0 : ((l0.length : Int) == (l1.length : Int)) = false := beq_eq_false_iff_ne.mpr c3
   have c3b1 : ((l0.length : Int) != (l1.length : Int)) = true := bne_iff_ne.mpr c3
   have c3b2 : (l0.length == l1.length) = false := by first | simpa using c3 | (simp at c3 ⊢; omega)
   obtain rfl := Option.some.inj H
   go_enter Try.func74, Try.ntmps74
   go_wp2
   repeat (go_quiet (fail); try go_wp2)
   go_ret
   exact ⟨by first | rfl | (simp; done) | (simp [*]; done), by repeat (first | exact Drawn0.refl _ | apply Drawn0.step)⟩

 rw [if_pos c3] at H
 have c3b0 : ((l0.length : Int) == (l1.length : Int)) = true := beq_iff_eq.mpr c3
 have c3b1 : ((l0.length : Int) != (l1.length : Int)) = false := bne_eq_false_iff_eq.mpr c3
 have c3b2 : (l0.length == l1.length) = true := by first | simpa using c3 | (simp at c3 ⊢; omega)
 clear c3
 have H' := AM H
 clear H
 go_enter Try.func74, Try.ntmps74
 go_wp2
 repeat (go_quiet (fail); try go_wp2)
 go_loopg [5] k (fun kq v5 w' => ∃ (x5_1 : Int), v5 = .int .i64 x5_1 ∧ Aside0 (laws_eqBoolS.l0 kq l0 l1 x5_1 = some r) ∧ Aside0 (kq ≤ k) ∧ Drawn0 w w')
 case atStart => exact ⟨(0), (by first | rfl | (simp; done) | (simp [*]; done)), H', ⟨Nat.le_refl _⟩, by repeat (first | exact Drawn0.refl _ | apply Drawn0.step)⟩
 case round =>
  clear H'
  try clear c1
  try clear p2
  try clear c3
  try clear c3b0
  try clear c3b1
  try clear c3b2
  obtain ⟨x5_1, rfl, HA, HK1, ⟨m1, rfl⟩⟩ := hrel
  cases gk with
  | zero => exact absurd HA.out (by simp [laws_eqBoolS.l0])
  | succ k1 =>
   have H := HA.out; clear HA
   simp only [laws_eqBoolS.l0] at H
   by_cases c4 : x5_1 < (l0.length : Int)
   rotate_left
   · rw [if_neg c4] at H
     have c4b0 : decide (x5_1 < (l0.length : Int)) = false := decide_eq_false c4
     clear c4
     obtain rfl := Option.some.inj H
     go_wp2
     repeat (go_quiet (fail); try go_wp2)
     go_ret
     exact ⟨by first | rfl | (simp; done) | (simp [*]; done), by repeat (first | exact Drawn0.refl _ | apply Drawn0.step)⟩
   rw [if_pos c4] at H
   have c4b0 : decide (x5_1 < (l0.length : Int)) = true := decide_eq_true c4
   clear c4
   by_cases c5 : 0 ≤ x5_1
   rotate_left
   · rw [if_neg c5] at H
     exact absurd H (by simp)
   rw [if_pos c5] at H
   have c5b0 : decide (0 ≤ x5_1) = true := decide_eq_true c5
   clear c5
   by_cases c6 : x5_1 < (l1.length : Int)
   rotate_left
   · rw [if_neg c6] at H
     exact absurd H (by simp)
   rw [if_pos c6] at H
   have c6b0 : decide (x5_1 < (l1.length : Int)) = true := decide_eq_true c6
   clear c6
   by_cases c7 : ((rdOf false l0 x5_1) != (rdOf false l1 x5_1)) = true
   · rw [if_pos c7] at H
     have c7b0 : ((rdOf false l0 x5_1) != (rdOf false l1 x5_1)) = true := c7
     (try (have c7b1 : decide ((rdOf false l0 x5_1) = (rdOf false l1 x5_1)) = false := by simpa using c7))
     (try (have c7b2 : ((rdOf false l0 x5_1) == (rdOf false l1 x5_1)) = false := by simpa using c7))
     (try (have c7b3 : ¬ ((rdOf false l0 x5_1) = (rdOf false l1 x5_1)) := by simpa using c7))
     clear c7
     obtain rfl := Option.some.inj H
     have p174 : 0 ≤ (x5_1 : Int) := of_decide_eq_true (by first | (with_reducible assumption) | assumption)
     have q174 : x5_1 < (l0.length : Int) := of_decide_eq_true (by first | (with_reducible assumption) | assumption)
     obtain ⟨ad174, e174, hx174_0⟩ := Kd.at_bool HR0.out x5_1 p174 q174
     cases e174
     replace p174 := eq_true p174; replace q174 := eq_true q174
     have p175 : 0 ≤ (x5_1 : Int) := of_decide_eq_true (by first | (with_reducible assumption) | assumption)
     have q175 : x5_1 < (l1.length : Int) := of_decide_eq_true (by first | (with_reducible assumption) | assumption)
     obtain ⟨ad175, e175, hx175_0⟩ := Kd.at_bool HR1.out x5_1 p175 q175
     cases e175
     replace p175 := eq_true p175; replace q175 := eq_true q175
     go_wp2
     repeat (go_quiet (fail); try go_wp2)
     go_ret
     exact ⟨by first | rfl | (simp; done) | (simp [*]; done), by repeat (first | exact Drawn0.refl _ | apply Drawn0.step)⟩
   rw [if_neg c7] at H
   have c7b0 : ((rdOf false l0 x5_1) != (rdOf false l1 x5_1)) = false := by simpa using c7
   (try (have c7b1 : decide ((rdOf false l0 x5_1) = (rdOf false l1 x5_1)) = true := by simpa using c7))
   (try (have c7b2 : ((rdOf false l0 x5_1) == (rdOf false l1 x5_1)) = true := by simpa using c7))
   clear c7
   have H' := AM H
   clear H
   have p174 : 0 ≤ (x5_1 : Int) := of_decide_eq_true (by first | (with_reducible assumption) | assumption)
   have q174 : x5_1 < (l0.length : Int) := of_decide_eq_true (by first | (with_reducible assumption) | assumption)
   obtain ⟨ad174, e174, hx174_0⟩ := Kd.at_bool HR0.out x5_1 p174 q174
   cases e174
   replace p174 := eq_true p174; replace q174 := eq_true q174
   have p175 : 0 ≤ (x5_1 : Int) := of_decide_eq_true (by first | (with_reducible assumption) | assumption)
   have q175 : x5_1 < (l1.length : Int) := of_decide_eq_true (by first | (with_reducible assumption) | assumption)
   obtain ⟨ad175, e175, hx175_0⟩ := Kd.at_bool HR1.out x5_1 p175 q175
   cases e175
   replace p175 := eq_true p175; replace q175 := eq_true q175
   go_wp2
   repeat (go_quiet (fail); try go_wp2)
   go_roundg k1
   case measure => have := HK1.out; omega
   case rel => exact ⟨(wrap64 (x5_1 + 1)), (by first | rfl | (simp; done) | (simp [*]; done)), H', ⟨by have := HK1.out; omega⟩, by repeat (first | exact Drawn0.refl _ | apply Drawn0.step)⟩
end Go.Proofs.Ytcpdeenhjodmfaa.QEncodePicture
