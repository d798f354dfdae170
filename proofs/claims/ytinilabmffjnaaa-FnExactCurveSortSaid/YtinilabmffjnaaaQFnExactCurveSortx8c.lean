/- The functions that the law FnExactCurveSort reaches, each with what it computes and its contract. -/
import Derived.Test.YtinilabmffjnaaaQFnExactCurveSortx0
import Derived.Test.YtinilabmffjnaaaQFnExactCurveSortx4
import Derived.Test.YtinilabmffjnaaaQFnExactCurveSortx7
import Derived.Test.YtinilabmffjnaaaQFnExactCurveSortx8a0
namespace Go.Proofs.Ytinilabmffjnaaa.PFnExactCurveSort
open Go.RowKit Go.Proofs.YtinilabmffjnaaaW.PrintWords Go.Proofs.YtinilabmffjnaaaW.PrintLast Go.Proofs.YtinilabmffjnaaaW.PrintMore
attribute [local go_sem] max2_int min2_int max_two min_two max_three min_three max_four min_four
set_option linter.unusedVariables false
set_option linter.unusedSimpArgs false
set_option maxHeartbeats 8000000 in
set_option maxRecDepth 100000 in
theorem slices_symMergeCmpFunc_int.case3 (k : Nat) (ih : ∀ m, m < k + 1 → ∀ (P0_ : Nat → Prop) (u9000_ : Value) (l0 : List Int) (a1 : Int) (a2 : Int) (a3 : Int) (A4 : Option Addr) (c4 : Nat) (l4 : List Int) (gx : Nat) (r : List Int) (w0 w : World) (hB : Below w0.heap.size w0 w) (ho0 : Kd.R (Kd.int .i64) 3 w w0.heap.size P0_ u9000_ l0) (hr4 : ∀ W_, Kept w W_ (fun k_ => P0_ k_) → Kd.C (Kd.int .i64) W_ A4 l4.length l4) (hc4 : l4.length ≤ c4) (hpx : ∀ W_, Kept w W_ (fun k_ => P0_ k_) → W_.cell? ⟨gx, 0, none⟩ = some (.slice A4 l4.length c4)) (h : slices_symMergeCmpFunc_int.f m l0 a1 a2 a3 l4 = some r), Calls Try.prog 126 #[u9000_, .int .i64 a1, .int .i64 a2, .int .i64 a3, .func (.func 87) #[] #[.pointer (some ⟨gx, 0, none⟩)]] w fun e w' => e = .returned (.tuple #[]) ∧ Kd.R (Kd.int .i64) 3 w' w0.heap.size (fun k_ => (P0_ k_ ∨ w.heap.size ≤ k_)) u9000_ r ∧ Below w0.heap.size w0 w' ∧ Kept w w' (fun k_ => P0_ k_)) (P0_ : Nat → Prop) (u9000_ : Value) (l0 : List Int) (a1 : Int) (a2 : Int) (a3 : Int) (A4 : Option Addr) (c4 : Nat) (l4 : List Int) (gx : Nat) (r : List Int) (w0 w : World) (hB : Below w0.heap.size w0 w) (ho0 : Kd.R (Kd.int .i64) 3 w w0.heap.size P0_ u9000_ l0) (hr4 : ∀ W_, Kept w W_ (fun k_ => P0_ k_) → Kd.C (Kd.int .i64) W_ A4 l4.length l4) (hc4 : l4.length ≤ c4) (hpx : ∀ W_, Kept w W_ (fun k_ => P0_ k_) → W_.cell? ⟨gx, 0, none⟩ = some (.slice A4 l4.length c4)) (h : slices_symMergeCmpFunc_int.f (k + 1) l0 a1 a2 a3 l4 = some r) (c6 : ¬ (wrap64 (a2 - a1)) = 1) (c31 : ¬ (wrap64 (a3 - a2)) = 1) :
  Calls Try.prog 126 #[u9000_, .int .i64 a1, .int .i64 a2, .int .i64 a3, .func (.func 87) #[] #[.pointer (some ⟨gx, 0, none⟩)]] w fun e w' => e = .returned (.tuple #[]) ∧ Kd.R (Kd.int .i64) 3 w' w0.heap.size (fun k_ => (P0_ k_ ∨ w.heap.size ≤ k_)) u9000_ r ∧ Below w0.heap.size w0 w' ∧ Kept w w' (fun k_ => P0_ k_) := by
 simp only [slices_symMergeCmpFunc_int.f] at h
 have HO0 := Ak (show Kd.R (Kd.int .i64) 3 w w0.heap.size (fun k_ => (P0_ k_ ∨ w.heap.size ≤ k_)) u9000_ l0 from Kd.R_mono ho0 (fun k_ hk => (.inl hk)))
 have HR4 := Ak hr4
 have HC4 := Ak hc4
 have HPX := Ak hpx
 clear hr4 hc4 hpx
 have HK := Ak (Kept.refl w (fun k_ => P0_ k_))
 have HW0 := Ak hB.size
 have HB := Ak hB
 clear hB
 have H : (if (wrap64 (a2 - a1)) = 1 then (slices_symMergeCmpFunc_int.l0 k l0 a1 l4 a2 a3) else (if (wrap64 (a3 - a2)) = 1 then (slices_symMergeCmpFunc_int.l2 k l0 a2 l4 a1 a2) else (if a2 > (wrap64 ((IntKind.u64.wrap (wrap64 (a1 + a3))) / 2)) then (slices_symMergeCmpFunc_int.j4 k l0 a1 a2 a3 l4 (wrap64 ((IntKind.u64.wrap (wrap64 (a1 + a3))) / 2)) (wrap64 ((wrap64 ((IntKind.u64.wrap (wrap64 (a1 + a3))) / 2)) + a2)) (wrap64 ((wrap64 ((wrap64 ((IntKind.u64.wrap (wrap64 (a1 + a3))) / 2)) + a2)) - a3)) (wrap64 ((IntKind.u64.wrap (wrap64 (a1 + a3))) / 2))) else (slices_symMergeCmpFunc_int.j4 k l0 a1 a2 a3 l4 (wrap64 ((IntKind.u64.wrap (wrap64 (a1 + a3))) / 2)) (wrap64 ((wrap64 ((IntKind.u64.wrap (wrap64 (a1 + a3))) / 2)) + a2)) a1 a2)))) = some r := h
 clear h
 rw [if_neg c6] at H
 have c6b0 : ((wrap64 (a2 - a1)) == 1) = false := beq_eq_false_iff_ne.mpr c6
 have c6b1 : ((wrap64 (a2 - a1)) != 1) = true := bne_iff_ne.mpr c6
 rw [if_neg c31] at H
 have c31b0 : ((wrap64 (a3 - a2)) == 1) = false := beq_eq_false_iff_ne.mpr c31
 have c31b1 : ((wrap64 (a3 - a2)) != 1) = true := bne_iff_ne.mpr c31
 have HC56 := Ak H
 clear H
 go_enter Try.func126, Try.ntmps126
 go_upto_if 140 with (fail)
 go_cut [20, 21] (fun v20 v21 wc => ∃ (kq : Nat) (x20_55 : Int) (x21_55 : Int), v20 = .int .i64 x20_55 ∧ v21 = .int .i64 x21_55 ∧ Aside0 (slices_symMergeCmpFunc_int.j4 kq l0 a1 a2 a3 l4 (wrap64 ((IntKind.u64.wrap (wrap64 (a1 + a3))) / 2)) (wrap64 ((wrap64 ((IntKind.u64.wrap (wrap64 (a1 + a3))) / 2)) + a2)) x20_55 x21_55 = some r) ∧ Aside0 (kq ≤ k) ∧ Aside0 (Kd.R (Kd.int .i64) 3 wc w0.heap.size (fun k_ => (P0_ k_ ∨ w.heap.size ≤ k_)) u9000_ l0) ∧ Aside0 (Kept w wc (fun k_ => P0_ k_)) ∧ Aside0 (Below w0.heap.size w0 wc))
 case first =>
  have H := HC56.out
  clear HC56
  by_cases c57 : a2 > (wrap64 ((IntKind.u64.wrap (wrap64 (a1 + a3))) / 2))
  ·rw [if_pos c57] at H
   have c57b0 : decide ((wrap64 ((IntKind.u64.wrap (wrap64 (a1 + a3))) / 2)) < a2) = true := decide_eq_true c57
   clear c57
   (first | rw [c57b0] | (simp only [i64_w, i32_w]; rw [c57b0]) | skip)
   have H' := Ak H
   clear H
   go_wp2
   go_meet
   case rel => exact ⟨_, (wrap64 ((wrap64 ((wrap64 ((IntKind.u64.wrap (wrap64 (a1 + a3))) / 2)) + a2)) - a3)), (wrap64 ((IntKind.u64.wrap (wrap64 (a1 + a3))) / 2)), (by first | rfl | (simp; done) | (simp [*]; done)), (by first | rfl | (simp; done) | (simp [*]; done)), H', ⟨by first | omega | exact Nat.le_refl _⟩, ⟨rq HO0.out⟩, ⟨by repeat (first | (with_reducible first | exact HK.out | apply Kept.alloc | apply Kept.drewN | apply Kept.drew) | exact HK.out)⟩, ⟨bw HB.out⟩⟩
  ·rw [if_neg c57] at H
   have c57b0 : decide ((wrap64 ((IntKind.u64.wrap (wrap64 (a1 + a3))) / 2)) < a2) = false := decide_eq_false c57
   clear c57
   (first | rw [c57b0] | (simp only [i64_w, i32_w]; rw [c57b0]) | skip)
   have H' := Ak H
   clear H
   go_wp2
   go_meet
   case rel => exact ⟨_, (a1), (a2), (by first | rfl | (simp; done) | (simp [*]; done)), (by first | rfl | (simp; done) | (simp [*]; done)), H', ⟨by first | omega | exact Nat.le_refl _⟩, ⟨rq HO0.out⟩, ⟨by repeat (first | (with_reducible first | exact HK.out | apply Kept.alloc | apply Kept.drewN | apply Kept.drew) | exact HK.out)⟩, ⟨bw HB.out⟩⟩
 case rest =>
  clear HC56
  try clear q1
  try clear hx1
  try clear q2
  try clear hx2
  try clear q5
  try clear hx5
  try clear hf5
  try clear c6b0
  try clear c6b1
  try clear c7b0
  try clear c9b0
  try clear c10b0
  try clear c11b0
  try clear c12b0
  try clear q13
  try clear hx13
  try clear c14b0
  try clear q14
  try clear hx14
  try clear c19b0
  try clear c21b0
  try clear c22b0
  try clear c23b0
  try clear c24b0
  try clear q25
  try clear hx25
  try clear hf25
  try clear q26
  try clear hx26
  try clear hf26
  try clear c31b0
  try clear c31b1
  try clear c32b0
  try clear c33b0
  try clear c34b0
  try clear c36b0
  try clear c37b0
  try clear c39b0
  try clear c44b0
  try clear c46b0
  try clear c47b0
  try clear c48b0
  try clear c49b0
  try clear q50
  try clear hx50
  try clear hf50
  try clear q51
  try clear hx51
  try clear hf51
  try clear c57b0
  try clear hx133_0
  try clear hx134_0
  try clear hx136_0
  try clear hx137_0
  try clear hx140_0
  try clear hx141_0
  try clear hx143_0
  try clear hx144_0
  try clear hx25_0
  try clear hx26_0
  try clear hx50_0
  try clear hx51_0
  try clear q1
  try clear q13
  try clear q133
  try clear q134
  try clear q136
  try clear q137
  try clear q14
  try clear q140
  try clear q141
  try clear q143
  try clear q144
  try clear q2
  try clear q25
  try clear q26
  try clear q50
  try clear q51
  obtain ⟨kq, x20_55, x21_55, rfl, rfl, HA, HJ55, HO_0, HK, HB⟩ := hcut
  cases kq with
  | zero => exact absurd HA.out (by simp [slices_symMergeCmpFunc_int.j4])
  | succ kj55 =>
   have H := HA.out
   clear HA
   simp only [slices_symMergeCmpFunc_int.j4] at H
   have H' := Ak H
   clear H
   go_wp2
   go_loopg [20, 21] kj55 (fun kq v20 v21 w' => ∃ (x20_2 : Int) (x21_2 : Int), v20 = .int .i64 x20_2 ∧ v21 = .int .i64 x21_2 ∧ Aside0 (slices_symMergeCmpFunc_int.l4 kq l0 a1 a2 a3 l4 (wrap64 ((IntKind.u64.wrap (wrap64 (a1 + a3))) / 2)) (wrap64 ((wrap64 ((IntKind.u64.wrap (wrap64 (a1 + a3))) / 2)) + a2)) x20_2 x21_2 (wrap64 ((wrap64 ((wrap64 ((IntKind.u64.wrap (wrap64 (a1 + a3))) / 2)) + a2)) - 1)) = some r) ∧ Aside0 (kq ≤ kj55) ∧ Aside0 (Kd.R (Kd.int .i64) 3 w' w0.heap.size (fun k_ => (P0_ k_ ∨ w.heap.size ≤ k_)) u9000_ l0) ∧ Aside0 (Kept w w' (fun k_ => P0_ k_)) ∧ Aside0 (Below w0.heap.size w0 w'))
   case atStart => exact ⟨(x20_55), (x21_55), (by first | rfl | (simp; done) | (simp [*]; done)), (by first | rfl | (simp; done) | (simp [*]; done)), H', ⟨Nat.le_refl _⟩, ⟨rq HO_0.out⟩, ⟨by repeat (first | (with_reducible first | exact HK.out | apply Kept.alloc | apply Kept.drewN | apply Kept.drew) | exact HK.out)⟩, ⟨bw HB.out⟩⟩
   case round =>
    clear H'
    try clear q1
    try clear hx1
    try clear q2
    try clear hx2
    try clear q5
    try clear hx5
    try clear hf5
    try clear c6b0
    try clear c6b1
    try clear c7b0
    try clear c9b0
    try clear c10b0
    try clear c11b0
    try clear c12b0
    try clear q13
    try clear hx13
    try clear c14b0
    try clear q14
    try clear hx14
    try clear c19b0
    try clear c21b0
    try clear c22b0
    try clear c23b0
    try clear c24b0
    try clear q25
    try clear hx25
    try clear hf25
    try clear q26
    try clear hx26
    try clear hf26
    try clear c31b0
    try clear c31b1
    try clear c32b0
    try clear c33b0
    try clear c34b0
    try clear c36b0
    try clear c37b0
    try clear c39b0
    try clear c44b0
    try clear c46b0
    try clear c47b0
    try clear c48b0
    try clear c49b0
    try clear q50
    try clear hx50
    try clear hf50
    try clear q51
    try clear hx51
    try clear hf51
    try clear c57b0
    try clear hx133_0
    try clear hx134_0
    try clear hx136_0
    try clear hx137_0
    try clear hx140_0
    try clear hx141_0
    try clear hx143_0
    try clear hx144_0
    try clear hx25_0
    try clear hx26_0
    try clear hx50_0
    try clear hx51_0
    try clear q1
    try clear q13
    try clear q133
    try clear q134
    try clear q136
    try clear q137
    try clear q14
    try clear q140
    try clear q141
    try clear q143
    try clear q144
    try clear q2
    try clear q25
    try clear q26
    try clear q5
    try clear q50
    try clear q51
    obtain ⟨x20_2, x21_2, rfl, rfl, HA, HK2, HO_0, HK, HB⟩ := hrel
    cases gk with
    | zero => exact absurd HA.out (by simp [slices_symMergeCmpFunc_int.l4])
    | succ k2 =>
     have H := HA.out
     clear HA
     simp only [slices_symMergeCmpFunc_int.l4] at H
     by_cases c58 : x20_2 < x21_2
     ·rw [if_pos c58] at H
      have c58b0 : decide (x20_2 < x21_2) = true := decide_eq_true c58
      clear c58
      obtain ⟨ji59, hji59⟩ : ∃ j_ : Int, (wrap64 ((wrap64 ((wrap64 ((wrap64 ((IntKind.u64.wrap (wrap64 (a1 + a3))) / 2)) + a2)) - 1)) - (wrap64 ((IntKind.u64.wrap (wrap64 (x20_2 + x21_2))) / 2)))) = j_ := ⟨_, rfl⟩
      replace H : (if 0 ≤ (ji59) then (if (ji59) < (l0.length : Int) then (if 0 ≤ (wrap64 ((IntKind.u64.wrap (wrap64 (x20_2 + x21_2))) / 2)) then (if (wrap64 ((IntKind.u64.wrap (wrap64 (x20_2 + x21_2))) / 2)) < (l0.length : Int) then ((impl_CurveSortOne.f (rd l0 (ji59)) (rd l0 (wrap64 ((IntKind.u64.wrap (wrap64 (x20_2 + x21_2))) / 2))) l4).bind fun t149 => (if t149 < 0 then (slices_symMergeCmpFunc_int.l4 k2 l0 a1 a2 a3 l4 (wrap64 ((IntKind.u64.wrap (wrap64 (a1 + a3))) / 2)) (wrap64 ((wrap64 ((IntKind.u64.wrap (wrap64 (a1 + a3))) / 2)) + a2)) x20_2 (wrap64 ((IntKind.u64.wrap (wrap64 (x20_2 + x21_2))) / 2)) (wrap64 ((wrap64 ((wrap64 ((IntKind.u64.wrap (wrap64 (a1 + a3))) / 2)) + a2)) - 1))) else (slices_symMergeCmpFunc_int.l4 k2 l0 a1 a2 a3 l4 (wrap64 ((IntKind.u64.wrap (wrap64 (a1 + a3))) / 2)) (wrap64 ((wrap64 ((IntKind.u64.wrap (wrap64 (a1 + a3))) / 2)) + a2)) (wrap64 ((wrap64 ((IntKind.u64.wrap (wrap64 (x20_2 + x21_2))) / 2)) + 1)) x21_2 (wrap64 ((wrap64 ((wrap64 ((IntKind.u64.wrap (wrap64 (a1 + a3))) / 2)) + a2)) - 1))))) else (none)) else (none)) else (none)) else (none)) = some r := by first | (rw [hji59] at H; exact H) | (simp only [hji59] at H ⊢; exact H)
      have hji59w : (IntKind.i64.wrap ((wrap64 ((wrap64 ((wrap64 ((IntKind.u64.wrap (wrap64 (a1 + a3))) / 2)) + a2)) - 1)) - (wrap64 ((IntKind.u64.wrap (wrap64 (x20_2 + x21_2))) / 2)))) = ji59 := (i64_w _).trans hji59
      by_cases c60 : 0 ≤ (ji59)
      ·rw [if_pos c60] at H
       have c60b0 : decide (0 ≤ (ji59)) = true := decide_eq_true c60
       clear c60
       by_cases c61 : (ji59) < (l0.length : Int)
       ·rw [if_pos c61] at H
        have c61b0 : decide ((ji59) < (l0.length : Int)) = true := decide_eq_true c61
        clear c61
        obtain ⟨ji62, hji62⟩ : ∃ j_ : Int, (wrap64 ((IntKind.u64.wrap (wrap64 (x20_2 + x21_2))) / 2)) = j_ := ⟨_, rfl⟩
        replace H : (if 0 ≤ (ji62) then (if (ji62) < (l0.length : Int) then ((impl_CurveSortOne.f (rd l0 (ji59)) (rd l0 (ji62)) l4).bind fun t149 => (if t149 < 0 then (slices_symMergeCmpFunc_int.l4 k2 l0 a1 a2 a3 l4 (wrap64 ((IntKind.u64.wrap (wrap64 (a1 + a3))) / 2)) (wrap64 ((wrap64 ((IntKind.u64.wrap (wrap64 (a1 + a3))) / 2)) + a2)) x20_2 ji62 (wrap64 ((wrap64 ((wrap64 ((IntKind.u64.wrap (wrap64 (a1 + a3))) / 2)) + a2)) - 1))) else (slices_symMergeCmpFunc_int.l4 k2 l0 a1 a2 a3 l4 (wrap64 ((IntKind.u64.wrap (wrap64 (a1 + a3))) / 2)) (wrap64 ((wrap64 ((IntKind.u64.wrap (wrap64 (a1 + a3))) / 2)) + a2)) (wrap64 ((ji62) + 1)) x21_2 (wrap64 ((wrap64 ((wrap64 ((IntKind.u64.wrap (wrap64 (a1 + a3))) / 2)) + a2)) - 1))))) else (none)) else (none)) = some r := by first | (rw [hji62] at H; exact H) | (simp only [hji62] at H ⊢; exact H)
        have hji62w : (IntKind.i64.wrap ((IntKind.u64.wrap (wrap64 (x20_2 + x21_2))) / 2)) = ji62 := (i64_w _).trans hji62
        (try rw [hji62] at hji59)
        (try rw [hji62] at hji59w)
        by_cases c63 : 0 ≤ (ji62)
        ·rw [if_pos c63] at H
         have c63b0 : decide (0 ≤ (ji62)) = true := decide_eq_true c63
         clear c63
         by_cases c64 : (ji62) < (l0.length : Int)
         ·rw [if_pos c64] at H
          have c64b0 : decide ((ji62) < (l0.length : Int)) = true := decide_eq_true c64
          clear c64
          replace H := Option.bind_eq_some_iff.mp H
          obtain ⟨t149, A650, H⟩ := H
          replace H : (if t149 < 0 then (slices_symMergeCmpFunc_int.l4 k2 l0 a1 a2 a3 l4 (wrap64 ((IntKind.u64.wrap (wrap64 (a1 + a3))) / 2)) (wrap64 ((wrap64 ((IntKind.u64.wrap (wrap64 (a1 + a3))) / 2)) + a2)) x20_2 ji62 (wrap64 ((wrap64 ((wrap64 ((IntKind.u64.wrap (wrap64 (a1 + a3))) / 2)) + a2)) - 1))) else (slices_symMergeCmpFunc_int.l4 k2 l0 a1 a2 a3 l4 (wrap64 ((IntKind.u64.wrap (wrap64 (a1 + a3))) / 2)) (wrap64 ((wrap64 ((IntKind.u64.wrap (wrap64 (a1 + a3))) / 2)) + a2)) (wrap64 ((ji62) + 1)) x21_2 (wrap64 ((wrap64 ((wrap64 ((IntKind.u64.wrap (wrap64 (a1 + a3))) / 2)) + a2)) - 1)))) = some r := H
          have A65 := Ak A650
          clear A650
          by_cases c66 : t149 < 0
          ·as_aux_lemma =>
           rw [if_pos c66] at H
           have c66b0 : decide (t149 < 0) = true := decide_eq_true c66
           clear c66
           have H' := Ak H
           clear H
           try go_wp2
           have n0_ := Ak (Kd.R_drew HO_0.out)
           have n1_ := Ak (Kept.drew HK.out)
           have n2_ := Ak (below_drew1 HB.out)
           clear HO_0
           clear HK
           clear HB
           have HO_0 := n0_
           have HK := n1_
           have HB := n2_
           clear n0_ n1_ n2_
           obtain ⟨Ao68, co68, eo68⟩ := Kd.R_slice HO_0.out
           (first | subst eo68 | (injection eo68 with f1_ f2_ f3_; have f4_ := f1_.symm; have f5_ := f3_.symm; clear f1_ f2_ f3_; subst f4_; subst f5_))
           have p147 : 0 ≤ ((ji59) : Int) := of_decide_eq_true (by first | (with_reducible assumption) | assumption)
           have q147 : (ji59) < (l0.length : Int) := of_decide_eq_true (by first | (with_reducible assumption) | assumption)
           obtain ⟨ad147, e147, hx147_0⟩ := Kd.at_int (Kd.R_reads' HO_0.out).2.2 (ji59) p147 q147
           cases e147
           replace p147 := eq_true p147
           replace q147 := eq_true q147
           have p148 : 0 ≤ ((ji62) : Int) := of_decide_eq_true (by first | (with_reducible assumption) | assumption)
           have q148 : (ji62) < (l0.length : Int) := of_decide_eq_true (by first | (with_reducible assumption) | assumption)
           obtain ⟨ad148, e148, hx148_0⟩ := Kd.at_int (Kd.R_reads' HO_0.out).2.2 (ji62) p148 q148
           obtain rfl : ad147 = ad148 := (by injection e148)
           replace p148 := eq_true p148
           replace q148 := eq_true q148
           refine start_ (n := 14) (S := fun w' => w'.cell? (ad147.add ((ji59)).toNat) = some (.int .i64 (rd l0 (ji59))) ∧ w'.cell? (ad147.add ((ji62)).toNat) = some (.int .i64 (rd l0 (ji62)))) (ds := []) #[false, false, false, false, false, false, false, false, false, false, false, false, false, false] (by kernel_rfl) rfl rfl ⟨hx147_0, hx148_0⟩ (fun hHeld => ?_); refine with_tabW slices_symMergeCmpFunc_int.tab35 slices_symMergeCmpFunc_int.bits35 (fun HT_ HW_ => ?_)
           generalize wr.drew = w67 at HO_0 HK HB hx147_0 hx148_0 hHeld ⊢
           refine pure_ (i := 0) (N := some 158) (v := ?_) (a' := ?_) #[true, false, false, false, false, false, false, false, false, false, false, false, false, false] rfl rfl (any_of HT_.out (by kernel_rfl)) (fun _ _ _ h => h) (Or.inl ⟨by rfl, ?_⟩) ?_ ?_
           rotate_left
           ·intro w'
            go_simp
            with_reducible rfl
           rotate_left
           ·simp only [Act.put, sT, sZ, sS, i64_w, i32_w]
            rfl
           refine pure_ (i := 1) (N := some 159) (v := ?_) (a' := ?_) #[true, true, false, false, false, false, false, false, false, false, false, false, false, false] rfl rfl (any_of HT_.out (by kernel_rfl)) (fun _ _ _ h => h) (Or.inl ⟨by rfl, ?_⟩) ?_ ?_
           rotate_left
           ·intro w'
            go_simp
            with_reducible rfl
           rotate_left
           ·simp only [Act.put, sT, sZ, sS, i64_w, i32_w]
            rfl
           refine pure_ (i := 2) (N := some 160) (v := ?_) (a' := ?_) #[true, true, true, false, false, false, false, false, false, false, false, false, false, false] rfl rfl (any_of HT_.out (by kernel_rfl)) (fun _ _ _ h => h) (Or.inl ⟨by rfl, ?_⟩) ?_ ?_
           rotate_left
           ·intro w'
            go_simp
            with_reducible rfl
           rotate_left
           ·simp only [Act.put, sT, sZ, sS, i64_w, i32_w]
            rfl
           refine pure_ (i := 3) (N := some 161) (v := ?_) (a' := ?_) #[true, true, true, true, false, false, false, false, false, false, false, false, false, false] rfl rfl (any_of HT_.out (by kernel_rfl)) (fun _ _ _ h => h) (Or.inl ⟨by rfl, ?_⟩) ?_ ?_
           rotate_left
           ·intro w'
            go_simp
            with_reducible rfl
           rotate_left
           ·simp only [Act.put, sT, sZ, sS, i64_w, i32_w]
            rfl
           refine pure_ (i := 4) (N := some 162) (v := ?_) (a' := ?_) #[true, true, true, true, true, false, false, false, false, false, false, false, false, false] rfl rfl (any_of HT_.out (by kernel_rfl)) (fun _ _ _ h => h) (Or.inl ⟨by rfl, ?_⟩) ?_ ?_
           rotate_left
           ·intro w'
            go_simp
            with_reducible rfl
           rotate_left
           ·simp only [Act.put, sT, sZ, sS, i64_w, i32_w]
            rfl
           refine pure_ (i := 5) (N := some 163) (v := ?_) (a' := ?_) #[true, true, true, true, true, true, false, false, false, false, false, false, false, false] rfl rfl (any_of HT_.out (by kernel_rfl)) (fun _ _ _ h => h) (Or.inl ⟨by rfl, ?_⟩) ?_ ?_
           rotate_left
           ·intro w'
            go_simp
            with_reducible rfl
           rotate_left
           ·simp only [Act.put, sT, sZ, sS, i64_w, i32_w]
            rfl
           refine pure_ (i := 7) (N := some 165) (v := ?_) (a' := ?_) #[true, true, true, true, true, true, false, true, false, false, false, false, false, false] rfl rfl (any_of HT_.out (by kernel_rfl)) (fun _ _ _ h => h) (Or.inl ⟨by rfl, ?_⟩) ?_ ?_
           rotate_left
           ·intro w'
            go_simp
            with_reducible rfl
           rotate_left
           ·simp only [Act.put, sT, sZ, sS, i64_w, i32_w]
            rfl
           refine pure_ (i := 8) (N := some 166) (v := ?_) (a' := ?_) #[true, true, true, true, true, true, false, true, true, false, false, false, false, false] rfl rfl (any_of HT_.out (by kernel_rfl)) (fun _ _ _ h => h) (Or.inl ⟨by rfl, ?_⟩) ?_ ?_
           rotate_left
           ·intro w'
            go_simp
            with_reducible rfl
           rotate_left
           ·simp only [Act.put, sT, sZ, sS, i64_w, i32_w]
            rfl
           refine pure_ (i := 9) (N := some 167) (v := ?_) (a' := ?_) #[true, true, true, true, true, true, false, true, true, true, false, false, false, false] rfl rfl (any_of HT_.out (by kernel_rfl)) (fun _ _ _ h => h) (Or.inl ⟨by rfl, ?_⟩) ?_ ?_
           rotate_left
           ·intro w'
            go_simp
            with_reducible rfl
           rotate_left
           ·simp only [Act.put, sT, sZ, sS, i64_w, i32_w]
            rfl
           refine take_ (i := 6) (N := some 164) (v := ?_) (a' := ?_) #[true, true, true, true, true, true, true, true, true, true, false, false, false, false] rfl rfl (take_ofW HT_.out HW_.out (by kernel_rfl)) (fun _ _ _ h => h) (Or.inl ⟨by rfl, ?_⟩) hHeld ?_ ?_
           rotate_left
           ·rintro w' ⟨s0, s1⟩
            go_simp
            with_reducible rfl
           rotate_left
           ·simp only [Act.put, sT, sZ, sS, i64_w, i32_w]
            rfl
           refine take_ (i := 10) (N := some 168) (v := ?_) (a' := ?_) #[true, true, true, true, true, true, true, true, true, true, true, false, false, false] rfl rfl (take_ofW HT_.out HW_.out (by kernel_rfl)) (fun _ _ _ h => h) (Or.inl ⟨by rfl, ?_⟩) hHeld ?_ ?_
           rotate_left
           ·rintro w' ⟨s0, s1⟩
            go_simp
            with_reducible rfl
           rotate_left
           ·simp only [Act.put, sT, sZ, sS, i64_w, i32_w]
            rfl
           refine one_ (i := 11) (N := some 169) #[true, true, true, true, true, true, true, true, true, true, true, true, false, false] rfl rfl (one_of HT_.out (by kernel_rfl)) (by decide) (fun K hK => ?_)
           refine goesD_ Try.func87 (by kernel_rfl) rfl #[.int .i64 (rd l0 (ji59)), .int .i64 (rd l0 (ji62)), .pointer (some ⟨gx, 0, none⟩)] #[.pointer (some ⟨gx, 0, none⟩)] (by rfl) rfl rfl (by rfl) (by (try simp only [List.map_toArray, List.map_cons, List.map_nil]); first | done | (simp only [hji59, hji62]; rfl) | rfl | (simp only [List.length_drop, List.length_take]; rfl)) ?_
           with_reducible refine (impl_CurveSortOne.calls (rd l0 (ji59)) (rd l0 (ji62)) A4 c4 l4 gx t149 _ ?hpx ?side1 ?side2 A65.out).mono ?_
           (case hpx => exact HPX.out _ (by repeat (first | (with_reducible first | exact HK.out | apply Kept.alloc | apply Kept.drewN | apply Kept.drew) | exact HK.out))); (case side1 => exact Kd.C_kept_now HR4.out (by repeat (first | (with_reducible first | exact HK.out | apply Kept.alloc | apply Kept.drewN | apply Kept.drew) | exact HK.out)))
           (case side2 => exact HC4.out)
           rintro e w' ⟨rfl, ⟨nd, rfl⟩⟩
           refine ⟨_, rfl, ?_⟩
           refine hK.out _ _ ⟨hHeld.1, hHeld.2⟩ (fun hHeld => ?_)
           clear hK K
           refine norm_ (a' := ?_) ?_ ?_
           rotate_left
           ·show Act.put _ (some 169) _ = _
            simp only [Act.put, sT, sZ, sS, i64_w, i32_w]
            rfl
           refine pure_ (i := 12) (N := some 170) (v := ?_) (a' := ?_) #[true, true, true, true, true, true, true, true, true, true, true, true, true, false] rfl rfl (any_of HT_.out (by kernel_rfl)) (fun _ _ _ h => h) (Or.inl ⟨by rfl, ?_⟩) ?_ ?_
           rotate_left
           ·intro w'
            go_simp
            with_reducible rfl
           rotate_left
           ·simp only [Act.put, sT, sZ, sS, i64_w, i32_w]
            rfl
           refine pure_ (i := 13) (N := some 171) (v := ?_) (a' := ?_) #[true, true, true, true, true, true, true, true, true, true, true, true, true, true] rfl rfl (any_of HT_.out (by kernel_rfl)) (fun _ _ _ h => h) (Or.inl ⟨by rfl, ?_⟩) ?_ ?_
           rotate_left
           ·intro w'
            go_simp
            with_reducible rfl
           rotate_left
           ·simp only [Act.put, sT, sZ, sS, i64_w, i32_w]
            rfl
           refine done_ (done_of HT_.out (by kernel_rfl)) ?_
           try go_wp2
           go_roundg k2
           case measure => have := HJ55.out; have := HK2.out; omega
           case rel => exact ⟨(x20_2), (ji62), (by first | rfl | (simp; done) | (simp [*]; done)), (by first | rfl | (simp; done) | (simp only [← hji62] <;> (first | rfl | simp)) | (simp [*]; done)), H', ⟨by have := HJ55.out; have := HK2.out; omega⟩, ⟨rq HO_0.out⟩, ⟨by repeat (first | (with_reducible first | exact HK.out | apply Kept.alloc | apply Kept.drewN | apply Kept.drew) | exact HK.out)⟩, ⟨bw HB.out⟩⟩
          ·as_aux_lemma =>
           rw [if_neg c66] at H
           have c66b0 : decide (t149 < 0) = false := decide_eq_false c66
           clear c66
           have H' := Ak H
           clear H
           try go_wp2
           have n0_ := Ak (Kd.R_drew HO_0.out)
           have n1_ := Ak (Kept.drew HK.out)
           have n2_ := Ak (below_drew1 HB.out)
           clear HO_0
           clear HK
           clear HB
           have HO_0 := n0_
           have HK := n1_
           have HB := n2_
           clear n0_ n1_ n2_
           obtain ⟨Ao70, co70, eo70⟩ := Kd.R_slice HO_0.out
           (first | subst eo70 | (injection eo70 with f1_ f2_ f3_; have f4_ := f1_.symm; have f5_ := f3_.symm; clear f1_ f2_ f3_; subst f4_; subst f5_))
           have p147 : 0 ≤ ((ji59) : Int) := of_decide_eq_true (by first | (with_reducible assumption) | assumption)
           have q147 : (ji59) < (l0.length : Int) := of_decide_eq_true (by first | (with_reducible assumption) | assumption)
           obtain ⟨ad147, e147, hx147_0⟩ := Kd.at_int (Kd.R_reads' HO_0.out).2.2 (ji59) p147 q147
           cases e147
           replace p147 := eq_true p147
           replace q147 := eq_true q147
           have p148 : 0 ≤ ((ji62) : Int) := of_decide_eq_true (by first | (with_reducible assumption) | assumption)
           have q148 : (ji62) < (l0.length : Int) := of_decide_eq_true (by first | (with_reducible assumption) | assumption)
           obtain ⟨ad148, e148, hx148_0⟩ := Kd.at_int (Kd.R_reads' HO_0.out).2.2 (ji62) p148 q148
           obtain rfl : ad147 = ad148 := (by injection e148)
           replace p148 := eq_true p148
           replace q148 := eq_true q148
           refine start_ (n := 14) (S := fun w' => w'.cell? (ad147.add ((ji59)).toNat) = some (.int .i64 (rd l0 (ji59))) ∧ w'.cell? (ad147.add ((ji62)).toNat) = some (.int .i64 (rd l0 (ji62)))) (ds := []) #[false, false, false, false, false, false, false, false, false, false, false, false, false, false] (by kernel_rfl) rfl rfl ⟨hx147_0, hx148_0⟩ (fun hHeld => ?_); refine with_tabW slices_symMergeCmpFunc_int.tab35 slices_symMergeCmpFunc_int.bits35 (fun HT_ HW_ => ?_)
           generalize wr.drew = w69 at HO_0 HK HB hx147_0 hx148_0 hHeld ⊢
           refine pure_ (i := 0) (N := some 158) (v := ?_) (a' := ?_) #[true, false, false, false, false, false, false, false, false, false, false, false, false, false] rfl rfl (any_of HT_.out (by kernel_rfl)) (fun _ _ _ h => h) (Or.inl ⟨by rfl, ?_⟩) ?_ ?_
           rotate_left
           ·intro w'
            go_simp
            with_reducible rfl
           rotate_left
           ·simp only [Act.put, sT, sZ, sS, i64_w, i32_w]
            rfl
           refine pure_ (i := 1) (N := some 159) (v := ?_) (a' := ?_) #[true, true, false, false, false, false, false, false, false, false, false, false, false, false] rfl rfl (any_of HT_.out (by kernel_rfl)) (fun _ _ _ h => h) (Or.inl ⟨by rfl, ?_⟩) ?_ ?_
           rotate_left
           ·intro w'
            go_simp
            with_reducible rfl
           rotate_left
           ·simp only [Act.put, sT, sZ, sS, i64_w, i32_w]
            rfl
           refine pure_ (i := 2) (N := some 160) (v := ?_) (a' := ?_) #[true, true, true, false, false, false, false, false, false, false, false, false, false, false] rfl rfl (any_of HT_.out (by kernel_rfl)) (fun _ _ _ h => h) (Or.inl ⟨by rfl, ?_⟩) ?_ ?_
           rotate_left
           ·intro w'
            go_simp
            with_reducible rfl
           rotate_left
           ·simp only [Act.put, sT, sZ, sS, i64_w, i32_w]
            rfl
           refine pure_ (i := 3) (N := some 161) (v := ?_) (a' := ?_) #[true, true, true, true, false, false, false, false, false, false, false, false, false, false] rfl rfl (any_of HT_.out (by kernel_rfl)) (fun _ _ _ h => h) (Or.inl ⟨by rfl, ?_⟩) ?_ ?_
           rotate_left
           ·intro w'
            go_simp
            with_reducible rfl
           rotate_left
           ·simp only [Act.put, sT, sZ, sS, i64_w, i32_w]
            rfl
           refine pure_ (i := 4) (N := some 162) (v := ?_) (a' := ?_) #[true, true, true, true, true, false, false, false, false, false, false, false, false, false] rfl rfl (any_of HT_.out (by kernel_rfl)) (fun _ _ _ h => h) (Or.inl ⟨by rfl, ?_⟩) ?_ ?_
           rotate_left
           ·intro w'
            go_simp
            with_reducible rfl
           rotate_left
           ·simp only [Act.put, sT, sZ, sS, i64_w, i32_w]
            rfl
           refine pure_ (i := 5) (N := some 163) (v := ?_) (a' := ?_) #[true, true, true, true, true, true, false, false, false, false, false, false, false, false] rfl rfl (any_of HT_.out (by kernel_rfl)) (fun _ _ _ h => h) (Or.inl ⟨by rfl, ?_⟩) ?_ ?_
           rotate_left
           ·intro w'
            go_simp
            with_reducible rfl
           rotate_left
           ·simp only [Act.put, sT, sZ, sS, i64_w, i32_w]
            rfl
           refine pure_ (i := 7) (N := some 165) (v := ?_) (a' := ?_) #[true, true, true, true, true, true, false, true, false, false, false, false, false, false] rfl rfl (any_of HT_.out (by kernel_rfl)) (fun _ _ _ h => h) (Or.inl ⟨by rfl, ?_⟩) ?_ ?_
           rotate_left
           ·intro w'
            go_simp
            with_reducible rfl
           rotate_left
           ·simp only [Act.put, sT, sZ, sS, i64_w, i32_w]
            rfl
           refine pure_ (i := 8) (N := some 166) (v := ?_) (a' := ?_) #[true, true, true, true, true, true, false, true, true, false, false, false, false, false] rfl rfl (any_of HT_.out (by kernel_rfl)) (fun _ _ _ h => h) (Or.inl ⟨by rfl, ?_⟩) ?_ ?_
           rotate_left
           ·intro w'
            go_simp
            with_reducible rfl
           rotate_left
           ·simp only [Act.put, sT, sZ, sS, i64_w, i32_w]
            rfl
           refine pure_ (i := 9) (N := some 167) (v := ?_) (a' := ?_) #[true, true, true, true, true, true, false, true, true, true, false, false, false, false] rfl rfl (any_of HT_.out (by kernel_rfl)) (fun _ _ _ h => h) (Or.inl ⟨by rfl, ?_⟩) ?_ ?_
           rotate_left
           ·intro w'
            go_simp
            with_reducible rfl
           rotate_left
           ·simp only [Act.put, sT, sZ, sS, i64_w, i32_w]
            rfl
           refine take_ (i := 6) (N := some 164) (v := ?_) (a' := ?_) #[true, true, true, true, true, true, true, true, true, true, false, false, false, false] rfl rfl (take_ofW HT_.out HW_.out (by kernel_rfl)) (fun _ _ _ h => h) (Or.inl ⟨by rfl, ?_⟩) hHeld ?_ ?_
           rotate_left
           ·rintro w' ⟨s0, s1⟩
            go_simp
            with_reducible rfl
           rotate_left
           ·simp only [Act.put, sT, sZ, sS, i64_w, i32_w]
            rfl
           refine take_ (i := 10) (N := some 168) (v := ?_) (a' := ?_) #[true, true, true, true, true, true, true, true, true, true, true, false, false, false] rfl rfl (take_ofW HT_.out HW_.out (by kernel_rfl)) (fun _ _ _ h => h) (Or.inl ⟨by rfl, ?_⟩) hHeld ?_ ?_
           rotate_left
           ·rintro w' ⟨s0, s1⟩
            go_simp
            with_reducible rfl
           rotate_left
           ·simp only [Act.put, sT, sZ, sS, i64_w, i32_w]
            rfl
           refine one_ (i := 11) (N := some 169) #[true, true, true, true, true, true, true, true, true, true, true, true, false, false] rfl rfl (one_of HT_.out (by kernel_rfl)) (by decide) (fun K hK => ?_)
           refine goesD_ Try.func87 (by kernel_rfl) rfl #[.int .i64 (rd l0 (ji59)), .int .i64 (rd l0 (ji62)), .pointer (some ⟨gx, 0, none⟩)] #[.pointer (some ⟨gx, 0, none⟩)] (by rfl) rfl rfl (by rfl) (by (try simp only [List.map_toArray, List.map_cons, List.map_nil]); first | done | (simp only [hji59, hji62]; rfl) | rfl | (simp only [List.length_drop, List.length_take]; rfl)) ?_
           with_reducible refine (impl_CurveSortOne.calls (rd l0 (ji59)) (rd l0 (ji62)) A4 c4 l4 gx t149 _ ?hpx ?side1 ?side2 A65.out).mono ?_
           (case hpx => exact HPX.out _ (by repeat (first | (with_reducible first | exact HK.out | apply Kept.alloc | apply Kept.drewN | apply Kept.drew) | exact HK.out))); (case side1 => exact Kd.C_kept_now HR4.out (by repeat (first | (with_reducible first | exact HK.out | apply Kept.alloc | apply Kept.drewN | apply Kept.drew) | exact HK.out)))
           (case side2 => exact HC4.out)
           rintro e w' ⟨rfl, ⟨nd, rfl⟩⟩
           refine ⟨_, rfl, ?_⟩
           refine hK.out _ _ ⟨hHeld.1, hHeld.2⟩ (fun hHeld => ?_)
           clear hK K
           refine norm_ (a' := ?_) ?_ ?_
           rotate_left
           ·show Act.put _ (some 169) _ = _
            simp only [Act.put, sT, sZ, sS, i64_w, i32_w]
            rfl
           refine pure_ (i := 12) (N := some 170) (v := ?_) (a' := ?_) #[true, true, true, true, true, true, true, true, true, true, true, true, true, false] rfl rfl (any_of HT_.out (by kernel_rfl)) (fun _ _ _ h => h) (Or.inl ⟨by rfl, ?_⟩) ?_ ?_
           rotate_left
           ·intro w'
            go_simp
            with_reducible rfl
           rotate_left
           ·simp only [Act.put, sT, sZ, sS, i64_w, i32_w]
            rfl
           refine pure_ (i := 13) (N := some 171) (v := ?_) (a' := ?_) #[true, true, true, true, true, true, true, true, true, true, true, true, true, true] rfl rfl (any_of HT_.out (by kernel_rfl)) (fun _ _ _ h => h) (Or.inl ⟨by rfl, ?_⟩) ?_ ?_
           rotate_left
           ·intro w'
            go_simp
            with_reducible rfl
           rotate_left
           ·simp only [Act.put, sT, sZ, sS, i64_w, i32_w]
            rfl
           refine done_ (done_of HT_.out (by kernel_rfl)) ?_
           try go_wp2
           go_roundg k2
           case measure => have := HJ55.out; have := HK2.out; omega
           case rel => exact ⟨(wrap64 ((ji62) + 1)), (x21_2), (by first | rfl | (simp; done) | (simp only [← hji62] <;> (first | rfl | simp)) | (simp [*]; done)), (by first | rfl | (simp; done) | (simp [*]; done)), H', ⟨by have := HJ55.out; have := HK2.out; omega⟩, ⟨rq HO_0.out⟩, ⟨by repeat (first | (with_reducible first | exact HK.out | apply Kept.alloc | apply Kept.drewN | apply Kept.drew) | exact HK.out)⟩, ⟨bw HB.out⟩⟩
         ·rw [if_neg c64] at H
          exact absurd H (by simp)
        ·rw [if_neg c63] at H
         exact absurd H (by simp)
       ·rw [if_neg c61] at H
        exact absurd H (by simp)
      ·rw [if_neg c60] at H
       exact absurd H (by simp)
     ·as_aux_lemma =>
      rw [if_neg c58] at H
      have c58b0 : decide (x20_2 < x21_2) = false := decide_eq_false c58
      clear c58
      have HC71 := Ak H
      clear H
      go_upto_region 39 with (fail)
      go_cut [185] (fun v185 wc => ∃ (kq : Nat) (x185_70 : Bool), v185 = .bool x185_70 ∧ Aside0 (slices_symMergeCmpFunc_int.j6 kq l0 a1 a2 a3 l4 (wrap64 ((IntKind.u64.wrap (wrap64 (a1 + a3))) / 2)) x20_2 (wrap64 ((wrap64 ((wrap64 ((IntKind.u64.wrap (wrap64 (a1 + a3))) / 2)) + a2)) - x20_2)) x185_70 = some r) ∧ Aside0 (kq ≤ k2) ∧ Aside0 (Kd.R (Kd.int .i64) 3 wc w0.heap.size (fun k_ => (P0_ k_ ∨ w.heap.size ≤ k_)) u9000_ l0) ∧ Aside0 (Kept w wc (fun k_ => P0_ k_)) ∧ Aside0 (Below w0.heap.size w0 wc))
      case first =>
       have H := HC71.out
       clear HC71
       by_cases c72 : x20_2 < a2
       ·rw [if_pos c72] at H
        have c72b0 : decide (x20_2 < a2) = true := decide_eq_true c72
        clear c72
        (first | rw [c72b0] | (simp only [i64_w, i32_w]; rw [c72b0]) | skip)
        have H' := Ak H
        clear H
        go_wp2
        go_meet
        case rel => exact ⟨_, (decide (a2 < (wrap64 ((wrap64 ((wrap64 ((IntKind.u64.wrap (wrap64 (a1 + a3))) / 2)) + a2)) - x20_2)))), (by first | rfl | (simp; done) | (simp [*]; done)), H', ⟨by have := HJ55.out; have := HK2.out; first | omega | exact Nat.le_refl _⟩, ⟨rq HO_0.out⟩, ⟨by repeat (first | (with_reducible first | exact HK.out | apply Kept.alloc | apply Kept.drewN | apply Kept.drew) | exact HK.out)⟩, ⟨bw HB.out⟩⟩
       ·rw [if_neg c72] at H
        have c72b0 : decide (x20_2 < a2) = false := decide_eq_false c72
        clear c72
        (first | rw [c72b0] | (simp only [i64_w, i32_w]; rw [c72b0]) | skip)
        have H' := Ak H
        clear H
        go_wp2
        go_meet
        case rel => exact ⟨_, (false), (by first | rfl | (simp; done) | (simp [*]; done)), H', ⟨by have := HJ55.out; have := HK2.out; first | omega | exact Nat.le_refl _⟩, ⟨rq HO_0.out⟩, ⟨by repeat (first | (with_reducible first | exact HK.out | apply Kept.alloc | apply Kept.drewN | apply Kept.drew) | exact HK.out)⟩, ⟨bw HB.out⟩⟩
      case rest =>
       clear HC71
       try clear q1
       try clear hx1
       try clear q2
       try clear hx2
       try clear q5
       try clear hx5
       try clear hf5
       try clear c6b0
       try clear c6b1
       try clear c7b0
       try clear c9b0
       try clear c10b0
       try clear c11b0
       try clear c12b0
       try clear q13
       try clear hx13
       try clear c14b0
       try clear q14
       try clear hx14
       try clear c19b0
       try clear c21b0
       try clear c22b0
       try clear c23b0
       try clear c24b0
       try clear q25
       try clear hx25
       try clear hf25
       try clear q26
       try clear hx26
       try clear hf26
       try clear c31b0
       try clear c31b1
       try clear c32b0
       try clear c33b0
       try clear c34b0
       try clear c36b0
       try clear c37b0
       try clear c39b0
       try clear c44b0
       try clear c46b0
       try clear c47b0
       try clear c48b0
       try clear c49b0
       try clear q50
       try clear hx50
       try clear hf50
       try clear q51
       try clear hx51
       try clear hf51
       try clear c57b0
       try clear c58b0
       try clear c60b0
       try clear c61b0
       try clear c63b0
       try clear c64b0
       try clear c66b0
       try clear c72b0
       try clear hx133_0
       try clear hx134_0
       try clear hx136_0
       try clear hx137_0
       try clear hx140_0
       try clear hx141_0
       try clear hx143_0
       try clear hx144_0
       try clear hx147_0
       try clear hx148_0
       try clear hx25_0
       try clear hx26_0
       try clear hx50_0
       try clear hx51_0
       try clear q1
       try clear q13
       try clear q133
       try clear q134
       try clear q136
       try clear q137
       try clear q14
       try clear q140
       try clear q141
       try clear q143
       try clear q144
       try clear q147
       try clear q148
       try clear q2
       try clear q25
       try clear q26
       try clear q5
       try clear q50
       try clear q51
       obtain ⟨kq, x185_70, rfl, HA, HJ70, HO_0, HK, HB⟩ := hcut
       cases kq with
       | zero => exact absurd HA.out (by simp [slices_symMergeCmpFunc_int.j6])
       | succ kj70 =>
        have H := HA.out
        clear HA
        simp only [slices_symMergeCmpFunc_int.j6] at H
        have HC73 := Ak H
        clear H
        go_upto_if 185 with (fail)
        go_cut [] (fun wc => ∃ (kq : Nat) (x0_72 : List Int), Aside0 (slices_symMergeCmpFunc_int.j7 kq x0_72 a1 a3 l4 (wrap64 ((IntKind.u64.wrap (wrap64 (a1 + a3))) / 2)) x20_2 (wrap64 ((wrap64 ((wrap64 ((IntKind.u64.wrap (wrap64 (a1 + a3))) / 2)) + a2)) - x20_2)) = some r) ∧ Aside0 (kq ≤ kj70) ∧ Aside0 (Kd.R (Kd.int .i64) 3 wc w0.heap.size (fun k_ => (P0_ k_ ∨ w.heap.size ≤ k_)) u9000_ x0_72) ∧ Aside0 (Kept w wc (fun k_ => P0_ k_)) ∧ Aside0 (Below w0.heap.size w0 wc))
        case first =>
         have H := HC73.out
         clear HC73
         by_cases c74 : x185_70 = true
         ·subst c74
          have H1 : ((slices_rotateCmpFunc_int.f kj70 l0 x20_2 a2 (wrap64 ((wrap64 ((wrap64 ((IntKind.u64.wrap (wrap64 (a1 + a3))) / 2)) + a2)) - x20_2)) l4).bind fun t150 => (slices_symMergeCmpFunc_int.j7 kj70 t150 a1 a3 l4 (wrap64 ((IntKind.u64.wrap (wrap64 (a1 + a3))) / 2)) x20_2 (wrap64 ((wrap64 ((wrap64 ((IntKind.u64.wrap (wrap64 (a1 + a3))) / 2)) + a2)) - x20_2)))) = some r := by rw [if_pos rfl] at H; exact H
          clear H
          have H := H1
          clear H1
          replace H := Option.bind_eq_some_iff.mp H
          obtain ⟨t150, A750, H⟩ := H
          replace H : (slices_symMergeCmpFunc_int.j7 kj70 t150 a1 a3 l4 (wrap64 ((IntKind.u64.wrap (wrap64 (a1 + a3))) / 2)) x20_2 (wrap64 ((wrap64 ((wrap64 ((IntKind.u64.wrap (wrap64 (a1 + a3))) / 2)) + a2)) - x20_2))) = some r := H
          have A75 := Ak A750
          clear A750
          have H' := Ak H
          clear H
          obtain ⟨Ao76, co76, eo76⟩ := Kd.R_slice HO_0.out
          subst eo76
          go_wp2_with (first | ((with_reducible refine gate_callee (f := 131) rfl ?_); refine goesL_ (some 191) rfl rfl Try.func131 (by kernel_rfl) rfl #[.slice Ao76 l0.length co76, .int .i64 x20_2, .int .i64 a2, .int .i64 (wrap64 ((wrap64 ((wrap64 ((IntKind.u64.wrap (wrap64 (a1 + a3))) / 2)) + a2)) - x20_2)), .func (.func 87) #[] #[.pointer (some ⟨gx, 0, none⟩)]] rfl gm ?_; (with_reducible refine (slices_rotateCmpFunc_int.calls kj70 (fun k_ => some k_ = (.slice Ao76 l0.length co76 : Value).ownBlock) (.slice Ao76 l0.length co76) l0 x20_2 a2 (wrap64 ((wrap64 ((wrap64 ((IntKind.u64.wrap (wrap64 (a1 + a3))) / 2)) + a2)) - x20_2)) A4 c4 l4 gx t150 w0 _ ?side1 ?side2 ?side3 ?side4 ?hpx A75.out).mono ?_); (case side1 => repeat (first | (with_reducible first | exact HB.out | apply below_alloc | apply pw_below_drewN | apply below_drew1) | exact HB.out)); (case side2 => exact Kd.R_tight rfl HO_0.out); (case hpx => exact fun W_ hk_ => HPX.out W_ (Kept.then_ (S := (fun k_ => P0_ k_)) (by repeat (first | (with_reducible first | exact HK.out | apply Kept.alloc | apply Kept.drewN | apply Kept.drew) | exact HK.out)) hk_ (fun k_ hs_ => (fun e_ => (HO_0.out.1 k_ e_.symm)) hs_))); (case side3 => exact Kd.C_kept_call HR4.out (by repeat (first | (with_reducible first | exact HK.out | apply Kept.alloc | apply Kept.drewN | apply Kept.drew) | exact HK.out)) (fun k_ hs_ => (fun e_ => (HO_0.out.1 k_ e_.symm)) hs_)); (case side4 => exact HC4.out); rintro e w77 ⟨rfl, hy0, hb, hkp⟩; refine ⟨_, rfl, ?_⟩; have n0_ := Ak (Kd.R_reok rfl hy0 (fun k_ e_ => HO_0.out.1 k_ e_)); have n1_ := Ak (Kept.then_ (S := (fun k_ => P0_ k_)) (by repeat (first | (with_reducible first | exact HK.out | apply Kept.alloc | apply Kept.drewN | apply Kept.drew) | exact HK.out)) hkp (fun k_ hs_ => (fun e_ => (HO_0.out.1 k_ e_.symm)) hs_)); have n2_ := Ak (hb); clear HO_0; clear HK; clear HB; have HO_0 := n0_; have HK := n1_; have HB := n2_; clear n0_ n1_ n2_))
          go_meet
          case rel => exact ⟨_, (t150), H', ⟨by have := HJ55.out; have := HK2.out; have := HJ70.out; first | omega | exact Nat.le_refl _⟩, ⟨rq HO_0.out⟩, ⟨by repeat (first | (with_reducible first | exact HK.out | apply Kept.alloc | apply Kept.drewN | apply Kept.drew) | exact HK.out)⟩, ⟨bw HB.out⟩⟩
         ·replace c74 := Bool.eq_false_iff.mpr c74
          subst c74
          have H1 : (slices_symMergeCmpFunc_int.j7 kj70 l0 a1 a3 l4 (wrap64 ((IntKind.u64.wrap (wrap64 (a1 + a3))) / 2)) x20_2 (wrap64 ((wrap64 ((wrap64 ((IntKind.u64.wrap (wrap64 (a1 + a3))) / 2)) + a2)) - x20_2))) = some r := by rw [if_neg (show ¬ (false = true) by decide)] at H; exact H
          clear H
          have H := H1
          clear H1
          have H' := Ak H
          clear H
          go_wp2
          go_meet
          case rel => exact ⟨_, (l0), H', ⟨by have := HJ55.out; have := HK2.out; have := HJ70.out; first | omega | exact Nat.le_refl _⟩, ⟨rq HO_0.out⟩, ⟨by repeat (first | (with_reducible first | exact HK.out | apply Kept.alloc | apply Kept.drewN | apply Kept.drew) | exact HK.out)⟩, ⟨bw HB.out⟩⟩
        case rest =>
         clear HC73
         try clear q1
         try clear hx1
         try clear q2
         try clear hx2
         try clear q5
         try clear hx5
         try clear hf5
         try clear c6b0
         try clear c6b1
         try clear c7b0
         try clear c9b0
         try clear c10b0
         try clear c11b0
         try clear c12b0
         try clear q13
         try clear hx13
         try clear c14b0
         try clear q14
         try clear hx14
         try clear c19b0
         try clear c21b0
         try clear c22b0
         try clear c23b0
         try clear c24b0
         try clear q25
         try clear hx25
         try clear hf25
         try clear q26
         try clear hx26
         try clear hf26
         try clear c31b0
         try clear c31b1
         try clear c32b0
         try clear c33b0
         try clear c34b0
         try clear c36b0
         try clear c37b0
         try clear c39b0
         try clear c44b0
         try clear c46b0
         try clear c47b0
         try clear c48b0
         try clear c49b0
         try clear q50
         try clear hx50
         try clear hf50
         try clear q51
         try clear hx51
         try clear hf51
         try clear c57b0
         try clear c58b0
         try clear c60b0
         try clear c61b0
         try clear c63b0
         try clear c64b0
         try clear c66b0
         try clear c72b0
         try clear hx133_0
         try clear hx134_0
         try clear hx136_0
         try clear hx137_0
         try clear hx140_0
         try clear hx141_0
         try clear hx143_0
         try clear hx144_0
         try clear hx147_0
         try clear hx148_0
         try clear hx25_0
         try clear hx26_0
         try clear hx50_0
         try clear hx51_0
         try clear q1
         try clear q13
         try clear q133
         try clear q134
         try clear q136
         try clear q137
         try clear q14
         try clear q140
         try clear q141
         try clear q143
         try clear q144
         try clear q147
         try clear q148
         try clear q2
         try clear q25
         try clear q26
         try clear q5
         try clear q50
         try clear q51
         obtain ⟨kq, x0_72, HA, HJ72, HO_0, HK, HB⟩ := hcut
         cases kq with
         | zero => exact absurd HA.out (by simp [slices_symMergeCmpFunc_int.j7])
         | succ kj72 =>
          have H := HA.out
          clear HA
          simp only [slices_symMergeCmpFunc_int.j7] at H
          have HC78 := Ak H
          clear H
          go_upto_region 41 with (fail)
          go_cut [199] (fun v199 wc => ∃ (kq : Nat) (x199_77 : Bool), v199 = .bool x199_77 ∧ Aside0 (slices_symMergeCmpFunc_int.j8 kq x0_72 a1 a3 l4 (wrap64 ((IntKind.u64.wrap (wrap64 (a1 + a3))) / 2)) x20_2 (wrap64 ((wrap64 ((wrap64 ((IntKind.u64.wrap (wrap64 (a1 + a3))) / 2)) + a2)) - x20_2)) x199_77 = some r) ∧ Aside0 (kq ≤ kj72) ∧ Aside0 (Kd.R (Kd.int .i64) 3 wc w0.heap.size (fun k_ => (P0_ k_ ∨ w.heap.size ≤ k_)) u9000_ x0_72) ∧ Aside0 (Kept w wc (fun k_ => P0_ k_)) ∧ Aside0 (Below w0.heap.size w0 wc))
          case first =>
           have H := HC78.out
           clear HC78
           by_cases c79 : a1 < x20_2
           ·rw [if_pos c79] at H
            have c79b0 : decide (a1 < x20_2) = true := decide_eq_true c79
            clear c79
            (first | rw [c79b0] | (simp only [i64_w, i32_w]; rw [c79b0]) | skip)
            have H' := Ak H
            clear H
            go_wp2
            go_meet
            case rel => exact ⟨_, (decide (x20_2 < (wrap64 ((IntKind.u64.wrap (wrap64 (a1 + a3))) / 2)))), (by first | rfl | (simp; done) | (simp [*]; done)), H', ⟨by have := HJ55.out; have := HK2.out; have := HJ70.out; have := HJ72.out; first | omega | exact Nat.le_refl _⟩, ⟨rq HO_0.out⟩, ⟨by repeat (first | (with_reducible first | exact HK.out | apply Kept.alloc | apply Kept.drewN | apply Kept.drew) | exact HK.out)⟩, ⟨bw HB.out⟩⟩
           ·rw [if_neg c79] at H
            have c79b0 : decide (a1 < x20_2) = false := decide_eq_false c79
            clear c79
            (first | rw [c79b0] | (simp only [i64_w, i32_w]; rw [c79b0]) | skip)
            have H' := Ak H
            clear H
            go_wp2
            go_meet
            case rel => exact ⟨_, (false), (by first | rfl | (simp; done) | (simp [*]; done)), H', ⟨by have := HJ55.out; have := HK2.out; have := HJ70.out; have := HJ72.out; first | omega | exact Nat.le_refl _⟩, ⟨rq HO_0.out⟩, ⟨by repeat (first | (with_reducible first | exact HK.out | apply Kept.alloc | apply Kept.drewN | apply Kept.drew) | exact HK.out)⟩, ⟨bw HB.out⟩⟩
          case rest =>
           clear HC78
           try clear q1
           try clear hx1
           try clear q2
           try clear hx2
           try clear q5
           try clear hx5
           try clear hf5
           try clear c6b0
           try clear c6b1
           try clear c7b0
           try clear c9b0
           try clear c10b0
           try clear c11b0
           try clear c12b0
           try clear q13
           try clear hx13
           try clear c14b0
           try clear q14
           try clear hx14
           try clear c19b0
           try clear c21b0
           try clear c22b0
           try clear c23b0
           try clear c24b0
           try clear q25
           try clear hx25
           try clear hf25
           try clear q26
           try clear hx26
           try clear hf26
           try clear c31b0
           try clear c31b1
           try clear c32b0
           try clear c33b0
           try clear c34b0
           try clear c36b0
           try clear c37b0
           try clear c39b0
           try clear c44b0
           try clear c46b0
           try clear c47b0
           try clear c48b0
           try clear c49b0
           try clear q50
           try clear hx50
           try clear hf50
           try clear q51
           try clear hx51
           try clear hf51
           try clear c57b0
           try clear c58b0
           try clear c60b0
           try clear c61b0
           try clear c63b0
           try clear c64b0
           try clear c66b0
           try clear c72b0
           try clear c79b0
           try clear hx133_0
           try clear hx134_0
           try clear hx136_0
           try clear hx137_0
           try clear hx140_0
           try clear hx141_0
           try clear hx143_0
           try clear hx144_0
           try clear hx147_0
           try clear hx148_0
           try clear hx25_0
           try clear hx26_0
           try clear hx50_0
           try clear hx51_0
           try clear q1
           try clear q13
           try clear q133
           try clear q134
           try clear q136
           try clear q137
           try clear q14
           try clear q140
           try clear q141
           try clear q143
           try clear q144
           try clear q147
           try clear q148
           try clear q2
           try clear q25
           try clear q26
           try clear q5
           try clear q50
           try clear q51
           obtain ⟨kq, x199_77, rfl, HA, HJ77, HO_0, HK, HB⟩ := hcut
           cases kq with
           | zero => exact absurd HA.out (by simp [slices_symMergeCmpFunc_int.j8])
           | succ kj77 =>
            have H := HA.out
            clear HA
            simp only [slices_symMergeCmpFunc_int.j8] at H
            by_cases c80 : x199_77 = true
            ·subst c80
             have H1 : ((slices_symMergeCmpFunc_int.f kj77 x0_72 a1 x20_2 (wrap64 ((IntKind.u64.wrap (wrap64 (a1 + a3))) / 2)) l4).bind fun t151 => (if (wrap64 ((IntKind.u64.wrap (wrap64 (a1 + a3))) / 2)) < (wrap64 ((wrap64 ((wrap64 ((IntKind.u64.wrap (wrap64 (a1 + a3))) / 2)) + a2)) - x20_2)) then (if (wrap64 ((wrap64 ((wrap64 ((IntKind.u64.wrap (wrap64 (a1 + a3))) / 2)) + a2)) - x20_2)) < a3 then ((slices_symMergeCmpFunc_int.f kj77 t151 (wrap64 ((IntKind.u64.wrap (wrap64 (a1 + a3))) / 2)) (wrap64 ((wrap64 ((wrap64 ((IntKind.u64.wrap (wrap64 (a1 + a3))) / 2)) + a2)) - x20_2)) a3 l4).bind fun t152 => (some t152)) else (some t151)) else (some t151))) = some r := by rw [if_pos rfl] at H; exact H
             clear H
             have H := H1
             clear H1
             replace H := Option.bind_eq_some_iff.mp H
             obtain ⟨t151, A810, H⟩ := H
             replace H : (if (wrap64 ((IntKind.u64.wrap (wrap64 (a1 + a3))) / 2)) < (wrap64 ((wrap64 ((wrap64 ((IntKind.u64.wrap (wrap64 (a1 + a3))) / 2)) + a2)) - x20_2)) then (if (wrap64 ((wrap64 ((wrap64 ((IntKind.u64.wrap (wrap64 (a1 + a3))) / 2)) + a2)) - x20_2)) < a3 then ((slices_symMergeCmpFunc_int.f kj77 t151 (wrap64 ((IntKind.u64.wrap (wrap64 (a1 + a3))) / 2)) (wrap64 ((wrap64 ((wrap64 ((IntKind.u64.wrap (wrap64 (a1 + a3))) / 2)) + a2)) - x20_2)) a3 l4).bind fun t152 => (some t152)) else (some t151)) else (some t151)) = some r := H
             have A81 := Ak A810
             clear A810
             by_cases c82 : (wrap64 ((IntKind.u64.wrap (wrap64 (a1 + a3))) / 2)) < (wrap64 ((wrap64 ((wrap64 ((IntKind.u64.wrap (wrap64 (a1 + a3))) / 2)) + a2)) - x20_2))
             ·rw [if_pos c82] at H
              have c82b0 : decide ((wrap64 ((IntKind.u64.wrap (wrap64 (a1 + a3))) / 2)) < (wrap64 ((wrap64 ((wrap64 ((IntKind.u64.wrap (wrap64 (a1 + a3))) / 2)) + a2)) - x20_2))) = true := decide_eq_true c82
              clear c82
              by_cases c83 : (wrap64 ((wrap64 ((wrap64 ((IntKind.u64.wrap (wrap64 (a1 + a3))) / 2)) + a2)) - x20_2)) < a3
              ·rw [if_pos c83] at H
               have c83b0 : decide ((wrap64 ((wrap64 ((wrap64 ((IntKind.u64.wrap (wrap64 (a1 + a3))) / 2)) + a2)) - x20_2)) < a3) = true := decide_eq_true c83
               clear c83
               replace H := Option.bind_eq_some_iff.mp H
               obtain ⟨t152, A840, H⟩ := H
               replace H : (some t152) = some r := H
               have A84 := Ak A840
               clear A840
               obtain rfl := Option.some.inj H
               obtain ⟨Ao85, co85, eo85⟩ := Kd.R_slice HO_0.out
               subst eo85
               go_wp2_with (first | ((with_reducible refine gate_callee (f := 126) rfl ?_); refine goesL_ (some 205) rfl rfl Try.func126 (by kernel_rfl) rfl #[.slice Ao85 x0_72.length co85, .int .i64 a1, .int .i64 x20_2, .int .i64 (wrap64 ((IntKind.u64.wrap (wrap64 (a1 + a3))) / 2)), .func (.func 87) #[] #[.pointer (some ⟨gx, 0, none⟩)]] rfl gm ?_; (with_reducible refine (ih kj77 (by have := HJ55.out; have := HK2.out; have := HJ70.out; have := HJ72.out; have := HJ77.out; omega) (fun k_ => some k_ = (.slice Ao85 x0_72.length co85 : Value).ownBlock) (.slice Ao85 x0_72.length co85) x0_72 a1 x20_2 (wrap64 ((IntKind.u64.wrap (wrap64 (a1 + a3))) / 2)) A4 c4 l4 gx t151 w0 _ ?side1 ?side2 ?side3 ?side4 ?hpx A81.out).mono ?_); (case side1 => repeat (first | (with_reducible first | exact HB.out | apply below_alloc | apply pw_below_drewN | apply below_drew1) | exact HB.out)); (case side2 => exact Kd.R_tight rfl HO_0.out); (case hpx => exact fun W_ hk_ => HPX.out W_ (Kept.then_ (S := (fun k_ => P0_ k_)) (by repeat (first | (with_reducible first | exact HK.out | apply Kept.alloc | apply Kept.drewN | apply Kept.drew) | exact HK.out)) hk_ (fun k_ hs_ => (fun e_ => (HO_0.out.1 k_ e_.symm)) hs_))); (case side3 => exact Kd.C_kept_call HR4.out (by repeat (first | (with_reducible first | exact HK.out | apply Kept.alloc | apply Kept.drewN | apply Kept.drew) | exact HK.out)) (fun k_ hs_ => (fun e_ => (HO_0.out.1 k_ e_.symm)) hs_)); (case side4 => exact HC4.out); rintro e w86 ⟨rfl, hy0, hb, hkp⟩; refine ⟨_, rfl, ?_⟩; have n0_ := Ak (Kd.R_reok rfl hy0 (fun k_ e_ => HO_0.out.1 k_ e_)); have n1_ := Ak (Kept.then_ (S := (fun k_ => P0_ k_)) (by repeat (first | (with_reducible first | exact HK.out | apply Kept.alloc | apply Kept.drewN | apply Kept.drew) | exact HK.out)) hkp (fun k_ hs_ => (fun e_ => (HO_0.out.1 k_ e_.symm)) hs_)); have n2_ := Ak (hb); clear HO_0; clear HK; clear HB; have HO_0 := n0_; have HK := n1_; have HB := n2_; clear n0_ n1_ n2_) | ((with_reducible refine gate_callee (f := 126) rfl ?_); refine goesL_ (some 219) rfl rfl Try.func126 (by kernel_rfl) rfl #[.slice Ao85 x0_72.length co85, .int .i64 (wrap64 ((IntKind.u64.wrap (wrap64 (a1 + a3))) / 2)), .int .i64 (wrap64 ((wrap64 ((wrap64 ((IntKind.u64.wrap (wrap64 (a1 + a3))) / 2)) + a2)) - x20_2)), .int .i64 a3, .func (.func 87) #[] #[.pointer (some ⟨gx, 0, none⟩)]] rfl gm ?_; (with_reducible refine (ih kj77 (by have := HJ55.out; have := HK2.out; have := HJ70.out; have := HJ72.out; have := HJ77.out; omega) (fun k_ => some k_ = (.slice Ao85 x0_72.length co85 : Value).ownBlock) (.slice Ao85 x0_72.length co85) t151 (wrap64 ((IntKind.u64.wrap (wrap64 (a1 + a3))) / 2)) (wrap64 ((wrap64 ((wrap64 ((IntKind.u64.wrap (wrap64 (a1 + a3))) / 2)) + a2)) - x20_2)) a3 A4 c4 l4 gx t152 w0 _ ?side1 ?side2 ?side3 ?side4 ?hpx A84.out).mono ?_); (case side1 => repeat (first | (with_reducible first | exact HB.out | apply below_alloc | apply pw_below_drewN | apply below_drew1) | exact HB.out)); (case side2 => exact Kd.R_tight rfl HO_0.out); (case hpx => exact fun W_ hk_ => HPX.out W_ (Kept.then_ (S := (fun k_ => P0_ k_)) (by repeat (first | (with_reducible first | exact HK.out | apply Kept.alloc | apply Kept.drewN | apply Kept.drew) | exact HK.out)) hk_ (fun k_ hs_ => (fun e_ => (HO_0.out.1 k_ e_.symm)) hs_))); (case side3 => exact Kd.C_kept_call HR4.out (by repeat (first | (with_reducible first | exact HK.out | apply Kept.alloc | apply Kept.drewN | apply Kept.drew) | exact HK.out)) (fun k_ hs_ => (fun e_ => (HO_0.out.1 k_ e_.symm)) hs_)); (case side4 => exact HC4.out); rintro e w87 ⟨rfl, hy0, hb, hkp⟩; refine ⟨_, rfl, ?_⟩; have n0_ := Ak (Kd.R_reok rfl hy0 (fun k_ e_ => HO_0.out.1 k_ e_)); have n1_ := Ak (Kept.then_ (S := (fun k_ => P0_ k_)) (by repeat (first | (with_reducible first | exact HK.out | apply Kept.alloc | apply Kept.drewN | apply Kept.drew) | exact HK.out)) hkp (fun k_ hs_ => (fun e_ => (HO_0.out.1 k_ e_.symm)) hs_)); have n2_ := Ak (hb); clear HO_0; clear HK; clear HB; have HO_0 := n0_; have HK := n1_; have HB := n2_; clear n0_ n1_ n2_))
               first | go_end0 | ((try simp only [Exit.inBlock, Exit.then]); refine bodyPost_ret (results_none rfl _ _ _) rfl ?_)
               exact ⟨by first | rfl | (simp [errW_none, errW_some] <;> rfl) | (simp [*, errW_none, errW_some] <;> rfl), rq HO_0.out, bw HB.out, by repeat (first | (with_reducible first | exact HK.out | apply Kept.alloc | apply Kept.drewN | apply Kept.drew) | exact HK.out)⟩
              ·rw [if_neg c83] at H
               have c83b0 : decide ((wrap64 ((wrap64 ((wrap64 ((IntKind.u64.wrap (wrap64 (a1 + a3))) / 2)) + a2)) - x20_2)) < a3) = false := decide_eq_false c83
               clear c83
               obtain rfl := Option.some.inj H
               obtain ⟨Ao88, co88, eo88⟩ := Kd.R_slice HO_0.out
               subst eo88
               go_wp2_with (first | ((with_reducible refine gate_callee (f := 126) rfl ?_); refine goesL_ (some 205) rfl rfl Try.func126 (by kernel_rfl) rfl #[.slice Ao88 x0_72.length co88, .int .i64 a1, .int .i64 x20_2, .int .i64 (wrap64 ((IntKind.u64.wrap (wrap64 (a1 + a3))) / 2)), .func (.func 87) #[] #[.pointer (some ⟨gx, 0, none⟩)]] rfl gm ?_; (with_reducible refine (ih kj77 (by have := HJ55.out; have := HK2.out; have := HJ70.out; have := HJ72.out; have := HJ77.out; omega) (fun k_ => some k_ = (.slice Ao88 x0_72.length co88 : Value).ownBlock) (.slice Ao88 x0_72.length co88) x0_72 a1 x20_2 (wrap64 ((IntKind.u64.wrap (wrap64 (a1 + a3))) / 2)) A4 c4 l4 gx t151 w0 _ ?side1 ?side2 ?side3 ?side4 ?hpx A81.out).mono ?_); (case side1 => repeat (first | (with_reducible first | exact HB.out | apply below_alloc | apply pw_below_drewN | apply below_drew1) | exact HB.out)); (case side2 => exact Kd.R_tight rfl HO_0.out); (case hpx => exact fun W_ hk_ => HPX.out W_ (Kept.then_ (S := (fun k_ => P0_ k_)) (by repeat (first | (with_reducible first | exact HK.out | apply Kept.alloc | apply Kept.drewN | apply Kept.drew) | exact HK.out)) hk_ (fun k_ hs_ => (fun e_ => (HO_0.out.1 k_ e_.symm)) hs_))); (case side3 => exact Kd.C_kept_call HR4.out (by repeat (first | (with_reducible first | exact HK.out | apply Kept.alloc | apply Kept.drewN | apply Kept.drew) | exact HK.out)) (fun k_ hs_ => (fun e_ => (HO_0.out.1 k_ e_.symm)) hs_)); (case side4 => exact HC4.out); rintro e w89 ⟨rfl, hy0, hb, hkp⟩; refine ⟨_, rfl, ?_⟩; have n0_ := Ak (Kd.R_reok rfl hy0 (fun k_ e_ => HO_0.out.1 k_ e_)); have n1_ := Ak (Kept.then_ (S := (fun k_ => P0_ k_)) (by repeat (first | (with_reducible first | exact HK.out | apply Kept.alloc | apply Kept.drewN | apply Kept.drew) | exact HK.out)) hkp (fun k_ hs_ => (fun e_ => (HO_0.out.1 k_ e_.symm)) hs_)); have n2_ := Ak (hb); clear HO_0; clear HK; clear HB; have HO_0 := n0_; have HK := n1_; have HB := n2_; clear n0_ n1_ n2_))
               first | go_end0 | ((try simp only [Exit.inBlock, Exit.then]); refine bodyPost_ret (results_none rfl _ _ _) rfl ?_)
               exact ⟨by first | rfl | (simp [errW_none, errW_some] <;> rfl) | (simp [*, errW_none, errW_some] <;> rfl), rq HO_0.out, bw HB.out, by repeat (first | (with_reducible first | exact HK.out | apply Kept.alloc | apply Kept.drewN | apply Kept.drew) | exact HK.out)⟩
             ·rw [if_neg c82] at H
              have c82b0 : decide ((wrap64 ((IntKind.u64.wrap (wrap64 (a1 + a3))) / 2)) < (wrap64 ((wrap64 ((wrap64 ((IntKind.u64.wrap (wrap64 (a1 + a3))) / 2)) + a2)) - x20_2))) = false := decide_eq_false c82
              clear c82
              obtain rfl := Option.some.inj H
              obtain ⟨Ao90, co90, eo90⟩ := Kd.R_slice HO_0.out
              subst eo90
              go_wp2_with (first | ((with_reducible refine gate_callee (f := 126) rfl ?_); refine goesL_ (some 205) rfl rfl Try.func126 (by kernel_rfl) rfl #[.slice Ao90 x0_72.length co90, .int .i64 a1, .int .i64 x20_2, .int .i64 (wrap64 ((IntKind.u64.wrap (wrap64 (a1 + a3))) / 2)), .func (.func 87) #[] #[.pointer (some ⟨gx, 0, none⟩)]] rfl gm ?_; (with_reducible refine (ih kj77 (by have := HJ55.out; have := HK2.out; have := HJ70.out; have := HJ72.out; have := HJ77.out; omega) (fun k_ => some k_ = (.slice Ao90 x0_72.length co90 : Value).ownBlock) (.slice Ao90 x0_72.length co90) x0_72 a1 x20_2 (wrap64 ((IntKind.u64.wrap (wrap64 (a1 + a3))) / 2)) A4 c4 l4 gx t151 w0 _ ?side1 ?side2 ?side3 ?side4 ?hpx A81.out).mono ?_); (case side1 => repeat (first | (with_reducible first | exact HB.out | apply below_alloc | apply pw_below_drewN | apply below_drew1) | exact HB.out)); (case side2 => exact Kd.R_tight rfl HO_0.out); (case hpx => exact fun W_ hk_ => HPX.out W_ (Kept.then_ (S := (fun k_ => P0_ k_)) (by repeat (first | (with_reducible first | exact HK.out | apply Kept.alloc | apply Kept.drewN | apply Kept.drew) | exact HK.out)) hk_ (fun k_ hs_ => (fun e_ => (HO_0.out.1 k_ e_.symm)) hs_))); (case side3 => exact Kd.C_kept_call HR4.out (by repeat (first | (with_reducible first | exact HK.out | apply Kept.alloc | apply Kept.drewN | apply Kept.drew) | exact HK.out)) (fun k_ hs_ => (fun e_ => (HO_0.out.1 k_ e_.symm)) hs_)); (case side4 => exact HC4.out); rintro e w91 ⟨rfl, hy0, hb, hkp⟩; refine ⟨_, rfl, ?_⟩; have n0_ := Ak (Kd.R_reok rfl hy0 (fun k_ e_ => HO_0.out.1 k_ e_)); have n1_ := Ak (Kept.then_ (S := (fun k_ => P0_ k_)) (by repeat (first | (with_reducible first | exact HK.out | apply Kept.alloc | apply Kept.drewN | apply Kept.drew) | exact HK.out)) hkp (fun k_ hs_ => (fun e_ => (HO_0.out.1 k_ e_.symm)) hs_)); have n2_ := Ak (hb); clear HO_0; clear HK; clear HB; have HO_0 := n0_; have HK := n1_; have HB := n2_; clear n0_ n1_ n2_))
              first | go_end0 | ((try simp only [Exit.inBlock, Exit.then]); refine bodyPost_ret (results_none rfl _ _ _) rfl ?_)
              exact ⟨by first | rfl | (simp [errW_none, errW_some] <;> rfl) | (simp [*, errW_none, errW_some] <;> rfl), rq HO_0.out, bw HB.out, by repeat (first | (with_reducible first | exact HK.out | apply Kept.alloc | apply Kept.drewN | apply Kept.drew) | exact HK.out)⟩
            ·replace c80 := Bool.eq_false_iff.mpr c80
             subst c80
             have H1 : (if (wrap64 ((IntKind.u64.wrap (wrap64 (a1 + a3))) / 2)) < (wrap64 ((wrap64 ((wrap64 ((IntKind.u64.wrap (wrap64 (a1 + a3))) / 2)) + a2)) - x20_2)) then (if (wrap64 ((wrap64 ((wrap64 ((IntKind.u64.wrap (wrap64 (a1 + a3))) / 2)) + a2)) - x20_2)) < a3 then ((slices_symMergeCmpFunc_int.f kj77 x0_72 (wrap64 ((IntKind.u64.wrap (wrap64 (a1 + a3))) / 2)) (wrap64 ((wrap64 ((wrap64 ((IntKind.u64.wrap (wrap64 (a1 + a3))) / 2)) + a2)) - x20_2)) a3 l4).bind fun t153 => (some t153)) else (some x0_72)) else (some x0_72)) = some r := by rw [if_neg (show ¬ (false = true) by decide)] at H; exact H
             clear H
             have H := H1
             clear H1
             by_cases c92 : (wrap64 ((IntKind.u64.wrap (wrap64 (a1 + a3))) / 2)) < (wrap64 ((wrap64 ((wrap64 ((IntKind.u64.wrap (wrap64 (a1 + a3))) / 2)) + a2)) - x20_2))
             ·rw [if_pos c92] at H
              have c92b0 : decide ((wrap64 ((IntKind.u64.wrap (wrap64 (a1 + a3))) / 2)) < (wrap64 ((wrap64 ((wrap64 ((IntKind.u64.wrap (wrap64 (a1 + a3))) / 2)) + a2)) - x20_2))) = true := decide_eq_true c92
              clear c92
              by_cases c93 : (wrap64 ((wrap64 ((wrap64 ((IntKind.u64.wrap (wrap64 (a1 + a3))) / 2)) + a2)) - x20_2)) < a3
              ·rw [if_pos c93] at H
               have c93b0 : decide ((wrap64 ((wrap64 ((wrap64 ((IntKind.u64.wrap (wrap64 (a1 + a3))) / 2)) + a2)) - x20_2)) < a3) = true := decide_eq_true c93
               clear c93
               replace H := Option.bind_eq_some_iff.mp H
               obtain ⟨t153, A940, H⟩ := H
               replace H : (some t153) = some r := H
               have A94 := Ak A940
               clear A940
               obtain rfl := Option.some.inj H
               obtain ⟨Ao95, co95, eo95⟩ := Kd.R_slice HO_0.out
               subst eo95
               go_wp2_with (first | ((with_reducible refine gate_callee (f := 126) rfl ?_); refine goesL_ (some 219) rfl rfl Try.func126 (by kernel_rfl) rfl #[.slice Ao95 x0_72.length co95, .int .i64 (wrap64 ((IntKind.u64.wrap (wrap64 (a1 + a3))) / 2)), .int .i64 (wrap64 ((wrap64 ((wrap64 ((IntKind.u64.wrap (wrap64 (a1 + a3))) / 2)) + a2)) - x20_2)), .int .i64 a3, .func (.func 87) #[] #[.pointer (some ⟨gx, 0, none⟩)]] rfl gm ?_; (with_reducible refine (ih kj77 (by have := HJ55.out; have := HK2.out; have := HJ70.out; have := HJ72.out; have := HJ77.out; omega) (fun k_ => some k_ = (.slice Ao95 x0_72.length co95 : Value).ownBlock) (.slice Ao95 x0_72.length co95) x0_72 (wrap64 ((IntKind.u64.wrap (wrap64 (a1 + a3))) / 2)) (wrap64 ((wrap64 ((wrap64 ((IntKind.u64.wrap (wrap64 (a1 + a3))) / 2)) + a2)) - x20_2)) a3 A4 c4 l4 gx t153 w0 _ ?side1 ?side2 ?side3 ?side4 ?hpx A94.out).mono ?_); (case side1 => repeat (first | (with_reducible first | exact HB.out | apply below_alloc | apply pw_below_drewN | apply below_drew1) | exact HB.out)); (case side2 => exact Kd.R_tight rfl HO_0.out); (case hpx => exact fun W_ hk_ => HPX.out W_ (Kept.then_ (S := (fun k_ => P0_ k_)) (by repeat (first | (with_reducible first | exact HK.out | apply Kept.alloc | apply Kept.drewN | apply Kept.drew) | exact HK.out)) hk_ (fun k_ hs_ => (fun e_ => (HO_0.out.1 k_ e_.symm)) hs_))); (case side3 => exact Kd.C_kept_call HR4.out (by repeat (first | (with_reducible first | exact HK.out | apply Kept.alloc | apply Kept.drewN | apply Kept.drew) | exact HK.out)) (fun k_ hs_ => (fun e_ => (HO_0.out.1 k_ e_.symm)) hs_)); (case side4 => exact HC4.out); rintro e w96 ⟨rfl, hy0, hb, hkp⟩; refine ⟨_, rfl, ?_⟩; have n0_ := Ak (Kd.R_reok rfl hy0 (fun k_ e_ => HO_0.out.1 k_ e_)); have n1_ := Ak (Kept.then_ (S := (fun k_ => P0_ k_)) (by repeat (first | (with_reducible first | exact HK.out | apply Kept.alloc | apply Kept.drewN | apply Kept.drew) | exact HK.out)) hkp (fun k_ hs_ => (fun e_ => (HO_0.out.1 k_ e_.symm)) hs_)); have n2_ := Ak (hb); clear HO_0; clear HK; clear HB; have HO_0 := n0_; have HK := n1_; have HB := n2_; clear n0_ n1_ n2_))
               first | go_end0 | ((try simp only [Exit.inBlock, Exit.then]); refine bodyPost_ret (results_none rfl _ _ _) rfl ?_)
               exact ⟨by first | rfl | (simp [errW_none, errW_some] <;> rfl) | (simp [*, errW_none, errW_some] <;> rfl), rq HO_0.out, bw HB.out, by repeat (first | (with_reducible first | exact HK.out | apply Kept.alloc | apply Kept.drewN | apply Kept.drew) | exact HK.out)⟩
              ·rw [if_neg c93] at H
               have c93b0 : decide ((wrap64 ((wrap64 ((wrap64 ((IntKind.u64.wrap (wrap64 (a1 + a3))) / 2)) + a2)) - x20_2)) < a3) = false := decide_eq_false c93
               clear c93
               obtain rfl := Option.some.inj H
               go_wp2
               first | go_end0 | ((try simp only [Exit.inBlock, Exit.then]); refine bodyPost_ret (results_none rfl _ _ _) rfl ?_)
               exact ⟨by first | rfl | (simp [errW_none, errW_some] <;> rfl) | (simp [*, errW_none, errW_some] <;> rfl), rq HO_0.out, bw HB.out, by repeat (first | (with_reducible first | exact HK.out | apply Kept.alloc | apply Kept.drewN | apply Kept.drew) | exact HK.out)⟩
             ·rw [if_neg c92] at H
              have c92b0 : decide ((wrap64 ((IntKind.u64.wrap (wrap64 (a1 + a3))) / 2)) < (wrap64 ((wrap64 ((wrap64 ((IntKind.u64.wrap (wrap64 (a1 + a3))) / 2)) + a2)) - x20_2))) = false := decide_eq_false c92
              clear c92
              obtain rfl := Option.some.inj H
              go_wp2
              first | go_end0 | ((try simp only [Exit.inBlock, Exit.then]); refine bodyPost_ret (results_none rfl _ _ _) rfl ?_)
              exact ⟨by first | rfl | (simp [errW_none, errW_some] <;> rfl) | (simp [*, errW_none, errW_some] <;> rfl), rq HO_0.out, bw HB.out, by repeat (first | (with_reducible first | exact HK.out | apply Kept.alloc | apply Kept.drewN | apply Kept.drew) | exact HK.out)⟩

end Go.Proofs.Ytinilabmffjnaaa.PFnExactCurveSort
