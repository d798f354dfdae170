/- The functions that the law FnHulls reaches, each with what it computes and its contract. -/
import Derived.Test.YtgmnphckgicadaaQFnHullsx0
import Derived.Test.YtgmnphckgicadaaQFnHullsx2
import Derived.Test.YtgmnphckgicadaaQFnHullsx3
import Derived.Test.YtgmnphckgicadaaQFnHullsx5
namespace Go.Proofs.Ytgmnphckgicadaa.PFnHulls
open Go.RowKit Go.Proofs.YtgmnphckgicadaaW.PrintWords Go.Proofs.YtgmnphckgicadaaW.PrintLast Go.Proofs.YtgmnphckgicadaaW.PrintMore
attribute [local go_sem] max2_int min2_int max_two min_two max_three min_three max_four min_four
set_option linter.unusedVariables false
set_option linter.unusedSimpArgs false

def spec_Hull.l0 : Nat → List (S67) → List (S67) → List (S67) → Int → Option ((List (S67)))
 | 0, _, _, _, _ => none
 | k + 1, x3, x4, x5, x6 => if x6 ≥ 0 then (if 0 ≤ x6 then (if x6 < (x3.length : Int) then (if x5.length < 8796093022208 then (spec_Hull.l0 k x3 x4 (x5 ++ [(⟨(rd_T67 x3 x6).f0, (rd_T67 x3 x6).f1⟩ : S67)]) (wrap64 (x6 - 1))) else (none)) else (none)) else (none)) else ((spec_l9Chain.f k x5).bind fun t162 => (if 0 ≤ (wrap64 ((x4.length : Int) - 1)) then (if (wrap64 ((x4.length : Int) - 1)) ≤ (x4.length : Int) then ((some (x4.take ((wrap64 ((x4.length : Int) - 1)) : Int).toNat : List (S67))).bind fun y165 => (if 0 ≤ (wrap64 ((t162.length : Int) - 1)) then (if (wrap64 ((t162.length : Int) - 1)) ≤ (t162.length : Int) then ((some (t162.take ((wrap64 ((t162.length : Int) - 1)) : Int).toNat : List (S67))).bind fun y168 => (if y165.length + y168.length < 8796093022208 then (some (y165 ++ y168)) else (none))) else (none)) else (none))) else (none)) else (none)))
def spec_Hull.f (k : Nat) (l0 : List (S67)) : Option ((List (S67))) := (spec_l9Right.f k l0 500).bind fun t145 => (if t145 = true then ((spec_l9Sorted.f k l0).bind fun t149 => (if (t149.length : Int) < 3 then (some t149) else ((spec_l9Chain.f k t149).bind fun t152 => (spec_Hull.l0 k t149 t152 (([] : List (S67))) (wrap64 ((t149.length : Int) - 1)))))) else (some (([] : List (S67)))))
def spec_Hull.T13 : Bool × List (List Nat × List Nat) := (true, [([], []), ([], []), ([1], [1]), ([2], [2]), ([0, 3], [0, 3]), ([], []), ([], []), ([6], [6]), ([7], [7]), ([5, 8], [5, 8]), ([4, 9], [4, 9]), ([10, 10, 0, 1, 2, 3, 4, 5, 6, 7, 8, 9, 10], [10])])
def spec_Hull.B13 : List Nat := [0, 0, 2, 6, 15, 0, 0, 64, 192, 480, 1023, 2047]
theorem spec_Hull.tab13 : rtab .any (opsOf Try.f32 13) = spec_Hull.T13 := by kernel_rfl
theorem spec_Hull.bits13 : waitsOk spec_Hull.T13.2 spec_Hull.B13 = true := by kernel_rfl
theorem ob_ (A : Option Addr) (n m c : Nat) : (Value.slice A n c).ownBlock = (Value.slice A m c).ownBlock := by cases A <;> rfl
set_option maxHeartbeats 8000000 in
set_option maxRecDepth 100000 in
theorem spec_Hull.calls (k : Nat) (A0 : Option Addr) (c0 : Nat) (l0 : List (S67)) (r : List (S67)) (w : World) (hr0 : Kd.C k67 w A0 l0.length l0) (hc0 : l0.length ≤ c0) (h : spec_Hull.f k l0 = some r) :
  Calls Try.prog 32 #[.slice A0 l0.length c0] w fun e w' => ∃ v0_ : Value, e = .returned (v0_) ∧ Kd.R k67 67 w' w.heap.size (fun _ => True) v0_ r ∧ Below w.heap.size w w' := by
 have hu67 := Try.underlying67
 have HR0 := Ak hr0
 have HC0 := Ak hc0
 clear hr0 hc0
 have HB := Ak (Below.refl w.heap.size w)
 have H : ((spec_l9Right.f k l0 500).bind fun t145 => (if t145 = true then ((spec_l9Sorted.f k l0).bind fun t149 => (if (t149.length : Int) < 3 then (some t149) else ((spec_l9Chain.f k t149).bind fun t152 => (spec_Hull.l0 k t149 t152 (([] : List (S67))) (wrap64 ((t149.length : Int) - 1)))))) else (some (([] : List (S67)))))) = some r := h
 clear h
 replace H := Option.bind_eq_some_iff.mp H
 obtain ⟨t145, A20, H⟩ := H
 have A2 := Ak A20
 clear A20
 by_cases c3 : t145 = true
 ·subst c3
  have H1 : ((spec_l9Sorted.f k l0).bind fun t149 => (if (t149.length : Int) < 3 then (some t149) else ((spec_l9Chain.f k t149).bind fun t152 => (spec_Hull.l0 k t149 t152 (([] : List (S67))) (wrap64 ((t149.length : Int) - 1)))))) = some r := by rw [if_pos rfl] at H; exact H
  clear H
  have H := H1
  clear H1
  replace H := Option.bind_eq_some_iff.mp H
  obtain ⟨t149, A40, H⟩ := H
  have A4 := Ak A40
  clear A40
  by_cases c5 : (t149.length : Int) < 3
  ·rw [if_pos c5] at H
   have c5b0 : decide ((t149.length : Int) < 3) = true := decide_eq_true c5
   have c5b1 : decide (t149.length < 3) = true := decide_eq_true (by omega)
   clear c5
   obtain rfl := Option.some.inj H
   go_enter Try.func32, Try.ntmps32
   go_wp2_with (first | ((with_reducible refine gate_callee (f := 71) rfl ?_); refine goesL_ (some 9) rfl rfl Try.func71 (by kernel_rfl) rfl #[.slice A0 l0.length c0, .int .i64 500] rfl gm ?_; (with_reducible refine (spec_l9Right.calls k _ _ l0 500 true _ ?side1 ?side2 A2.out).mono ?_); (case side1 => exact zq HR0.out); (case side2 => exact HC0.out); rintro e w6 ⟨rfl, hb⟩; refine ⟨_, rfl, ?_⟩; replace HB := Ak (below_step (bw HB.out) hb)) | ((with_reducible refine gate_callee (f := 72) rfl ?_); refine goesL_ (some 13) rfl rfl Try.func72 (by kernel_rfl) rfl #[.slice A0 l0.length c0] rfl gm ?_; (with_reducible refine (spec_l9Sorted.calls k _ _ l0 t149 _ ?side1 ?side2 A4.out).mono ?_); (case side1 => exact zq (Kd.C_below HR0.out HB.out)); (case side2 => exact HC0.out); rintro e w7 ⟨v150, rfl, ho0, hb⟩; refine ⟨_, rfl, ?_⟩; have HO151 := Ak (Kd.R_lower ho0 (below_size (bw HB.out))); replace HB := Ak (below_step (bw HB.out) hb); obtain ⟨Ao8, co8, eo8⟩ := Kd.R_slice HO151.out; subst eo8))
   go_ret
   exact ⟨_, zw, rq HO151.out, bw HB.out⟩
  ·rw [if_neg c5] at H
   have c5b0 : decide ((t149.length : Int) < 3) = false := decide_eq_false c5
   have c5b1 : decide (t149.length < 3) = false := decide_eq_false (by omega)
   clear c5
   replace H := Option.bind_eq_some_iff.mp H
   obtain ⟨t152, A90, H⟩ := H
   have A9 := Ak A90
   clear A90
   obtain ⟨y155, hy155⟩ : ∃ y_ : List (S67), y_ = (([] : List (S67))) := ⟨_, rfl⟩
   replace H : (spec_Hull.l0 k t149 t152 y155 (wrap64 ((t149.length : Int) - 1))) = some r := by first | (rw [hy155]; with_reducible exact H) | (have H2_ := (Option.bind_some _ _).symm.trans H; rw [hy155]; with_reducible exact H2_) | (have H2_ := (Option.bind_some _ _).symm.trans H; with_reducible exact H2_) | with_reducible exact H | (rw [hy155]; exact H) | exact H
   have Ny155 := Ak hy155
   clear hy155
   have H' := Ak H
   clear H
   go_enter Try.func32, Try.ntmps32
   go_wp2_with (first | ((with_reducible refine gate_callee (f := 71) rfl ?_); refine goesL_ (some 9) rfl rfl Try.func71 (by kernel_rfl) rfl #[.slice A0 l0.length c0, .int .i64 500] rfl gm ?_; (with_reducible refine (spec_l9Right.calls k _ _ l0 500 true _ ?side1 ?side2 A2.out).mono ?_); (case side1 => exact zq HR0.out); (case side2 => exact HC0.out); rintro e w10 ⟨rfl, hb⟩; refine ⟨_, rfl, ?_⟩; replace HB := Ak (below_step (bw HB.out) hb)) | ((with_reducible refine gate_callee (f := 72) rfl ?_); refine goesL_ (some 13) rfl rfl Try.func72 (by kernel_rfl) rfl #[.slice A0 l0.length c0] rfl gm ?_; (with_reducible refine (spec_l9Sorted.calls k _ _ l0 t149 _ ?side1 ?side2 A4.out).mono ?_); (case side1 => exact zq (Kd.C_below HR0.out HB.out)); (case side2 => exact HC0.out); rintro e w11 ⟨v150, rfl, ho0, hb⟩; refine ⟨_, rfl, ?_⟩; have HO151 := Ak (Kd.R_lower ho0 (below_size (bw HB.out))); replace HB := Ak (below_step (bw HB.out) hb); obtain ⟨Ao12, co12, eo12⟩ := Kd.R_slice HO151.out; subst eo12) | ((with_reducible refine gate_callee (f := 73) rfl ?_); refine goesL_ (some 19) rfl rfl Try.func73 (by kernel_rfl) rfl #[.slice Ao12 t149.length co12] rfl gm ?_; (with_reducible refine (spec_l9Chain.calls k _ _ t149 t152 _ ?side1 ?side2 A9.out).mono ?_); (case side1 => repeat (first | exact (Kd.R_reads' HO151.out).2.2 | (with_reducible refine Kd.C_alloc ?_ _) | (with_reducible refine Kd.C_drewN ?_ _) | (with_reducible refine Kd.C_drew ?_))); (case side2 => exact (Kd.R_reads' HO151.out).2.1); rintro e w13 ⟨v153, rfl, ho0, hb⟩; refine ⟨_, rfl, ?_⟩; have HO154 := Ak (Kd.R_lower (Kd.R_new' ho0 (Kd.R_lt (rq HO151.out))) (below_size (bw HB.out))); replace HO151 := Ak (Kd.R_elder' (rq HO151.out) (Kd.R_base ho0) hb); replace HB := Ak (below_step (bw HB.out) hb)) | ((with_reducible refine gate_dst (N := 20) rfl ?_); refine Kd.R_lit k67 _ 67 ?hg (N := 20) ?hd (xs := ([] : List (S67))) (inner := []) (ok := fun _ => True) (okp := fun _ => True) ?hr ?hp (fun _ hk => hk) trivial (Below.refl _ _) (Nat.le_refl _) (by simp) ?_; (case hd => rfl); (case hg => rfl); (case hr => first | (go_simp; done) | (go_simp; rfl)); (case hp => exact (Reps.none _ _)); intro v156 w14 ho15 hb hg_ hnew_; clear hg_ hnew_; (first | rw [← Ny155.out] at ho15 | (simp only [Int.reduceToNat] at ho15; rw [← Ny155.out] at ho15)); have HO157 := Ak (Kd.R_lower (Kd.R_new' (Kd.R_new' ho15 (Kd.R_lt (rq HO151.out))) (Kd.R_lt (rq HO154.out))) (below_size (bw HB.out))); replace HO151 := Ak (Kd.R_elder' (rq HO151.out) (Kd.R_base ho15) hb); replace HO154 := Ak (Kd.R_elder' (rq HO154.out) (Kd.R_base ho15) hb); replace HB := Ak (below_step (bw HB.out) hb); clear hb ho15))
   go_loopg [5, 6] k (fun kq v5 v6 w' => ∃ (x5_1 : List (S67)) (x6_1 : Int), v6 = .int .i64 x6_1 ∧ Aside0 (spec_Hull.l0 kq t149 t152 x5_1 x6_1 = some r) ∧ Aside0 (kq ≤ k) ∧ Aside0 (Kd.R k67 67 w' w.heap.size (fun k_ => Nb k_ v153 ∧ Nb k_ v5) (.slice Ao12 t149.length co12) t149) ∧ Aside0 (Kd.R k67 67 w' w.heap.size (fun k_ => some k_ ≠ ((.slice Ao12 t149.length co12) : Value).ownBlock ∧ Nb k_ v5) v153 t152) ∧ Aside0 (Kd.R k67 67 w' w.heap.size (fun k_ => some k_ ≠ ((.slice Ao12 t149.length co12) : Value).ownBlock ∧ Nb k_ v153) v5 x5_1) ∧ Aside0 (Below w.heap.size w w'))
   case atStart => exact ⟨(y155), (wrap64 ((t149.length : Int) - 1)), (by first | rfl | (simp; done) | (simp [*]; done)), H', ⟨Nat.le_refl _⟩, ⟨by refine rq ?_; exact Kd.R_mono HO151.out (fun _ hk => ⟨hk.1.2, hk.2⟩)⟩, ⟨by refine rq ?_; exact Kd.R_mono HO154.out (fun _ hk => ⟨hk.1.2, hk.2⟩)⟩, ⟨by refine rq ?_; exact Kd.R_mono HO157.out (fun _ hk => ⟨hk.1.2, hk.2⟩)⟩, ⟨bw HB.out⟩⟩
   case round =>
    clear H'
    try clear c5b0
    try clear c5b1
    obtain ⟨x5_1, x6_1, rfl, HA, HK1, HO_3, HO_4, HO_5, HB⟩ := hrel
    cases gk with
    | zero => exact absurd HA.out (by simp [spec_Hull.l0])
    | succ k1 =>
     have H := HA.out
     clear HA
     simp only [spec_Hull.l0] at H
     by_cases c16 : x6_1 ≥ 0
     ·rw [if_pos c16] at H
      have c16b0 : decide (0 ≤ x6_1) = true := decide_eq_true c16
      clear c16
      by_cases c17 : 0 ≤ x6_1
      ·rw [if_pos c17] at H
       have c17b0 : decide (0 ≤ x6_1) = true := decide_eq_true c17
       clear c17
       by_cases c18 : x6_1 < (t149.length : Int)
       ·rw [if_pos c18] at H
        have c18b0 : decide (x6_1 < (t149.length : Int)) = true := decide_eq_true c18
        clear c18
        by_cases c19 : x5_1.length < 8796093022208
        ·rw [if_pos c19] at H
         have LMc19 := Ak c19
         clear c19
         obtain ⟨y159, hy159⟩ : ∃ y_ : List (S67), y_ = (x5_1 ++ [(⟨(rd_T67 t149 x6_1).f0, (rd_T67 t149 x6_1).f1⟩ : S67)]) := ⟨_, rfl⟩
         replace H : (spec_Hull.l0 k1 t149 t152 y159 (wrap64 (x6_1 - 1))) = some r := by first | (rw [hy159]; with_reducible exact H) | (have H2_ := (Option.bind_some _ _).symm.trans H; rw [hy159]; with_reducible exact H2_) | (have H2_ := (Option.bind_some _ _).symm.trans H; with_reducible exact H2_) | with_reducible exact H | (rw [hy159]; exact H) | exact H
         have Ny159 := Ak hy159
         clear hy159
         have H' := Ak H
         clear H
         have p158 : 0 ≤ (x6_1 : Int) := of_decide_eq_true (by first | (with_reducible assumption) | assumption)
         have q158 : x6_1 < (t149.length : Int) := of_decide_eq_true (by first | (with_reducible assumption) | assumption)
         obtain ⟨ad158, e158, hx158_0, hx158_1⟩ := at_T67 (Kd.R_reads' HO_3.out).2.2 x6_1 p158 q158
         cases e158
         replace p158 := eq_true p158
         replace q158 := eq_true q158
         go_wp2_with (first | ((with_reducible refine gate_builtin (b := .append) (xs := #[.tmp 28, .tmp 33]) rfl ?_); at_builtin; refine Kd.R_append k67 (w0 := w) w.heap.size rfl (.tmp 28) (.tmp 33) 58 67 (.agg #[(.int .i64 0), (.int .i64 0)]) 16 rfl Try.underlying58 info67 rfl (by decide) (by omega) u5 x5_1 (⟨(rd_T67 t149 x6_1).f0, (rd_T67 t149 x6_1).f1⟩ : S67) [.int .i64 ((rd_T67 t149 x6_1).f0), .int .i64 ((rd_T67 t149 x6_1).f1)] (fun k_ => some k_ ≠ (.slice (some ad158) t149.length co12 : Value).ownBlock ∧ Nb k_ v153) (fun _ => False) rfl rfl ?aP (fun _ hk => hk.elim) ?aF ?aO ?aB ?aS ?aL ?_; (case aP => exact k67_mkM _ _ _ (⟨(rd_T67 t149 x6_1).f0, (rd_T67 t149 x6_1).f1⟩ : S67)); (case aB => exact (bw HB.out)); (case aF => exact (fun k_ hk => ⟨Kd.fresh' (Kd.R_lt (rq HO_3.out)) k_ hk, Kd.fresh' (Kd.R_lt (rq HO_4.out)) k_ hk⟩)); (case aO => exact (rq HO_5.out)); (case aS => exact (below_size (bw HB.out))); (case aL => have := LMc19.out; omega); intro v160 w20 ho hb hg hat; rw [← Ny159.out] at ho; replace HO_3 := Ak (Kd.R_after (ok := (fun k_ => Nb k_ v153)) (rq HO_3.out) hg hat); replace HO_4 := Ak (Kd.R_after (ok := (fun k_ => some k_ ≠ (.slice (some ad158) t149.length co12 : Value).ownBlock)) (rq HO_4.out) hg hat); replace HB := Ak (hb); have HO161 := Ak (ho); clear HO_5; clear ho hb hg hat))
         go_roundg k1
         case measure => have := HK1.out; omega
         case rel => exact ⟨(y159), (wrap64 (x6_1 - 1)), (by first | rfl | (simp; done) | (simp [*]; done)), H', ⟨by have := HK1.out; omega⟩, ⟨rq HO_3.out⟩, ⟨rq HO_4.out⟩, ⟨rq HO161.out⟩, ⟨bw HB.out⟩⟩
        ·rw [if_neg c19] at H
         exact absurd H (by simp)
       ·rw [if_neg c18] at H
        exact absurd H (by simp)
      ·rw [if_neg c17] at H
       exact absurd H (by simp)
     ·rw [if_neg c16] at H
      have c16b0 : decide (0 ≤ x6_1) = false := decide_eq_false c16
      clear c16
      replace H := Option.bind_eq_some_iff.mp H
      obtain ⟨t162, A210, H⟩ := H
      have A21 := Ak A210
      clear A210
      obtain ⟨ji22, hji22⟩ : ∃ j_ : Int, (wrap64 ((t152.length : Int) - 1)) = j_ := ⟨_, rfl⟩
      replace H : (if 0 ≤ (ji22) then (if (ji22) ≤ (t152.length : Int) then ((some (t152.take ((ji22) : Int).toNat : List (S67))).bind fun y165 => (if 0 ≤ (wrap64 ((t162.length : Int) - 1)) then (if (wrap64 ((t162.length : Int) - 1)) ≤ (t162.length : Int) then ((some (t162.take ((wrap64 ((t162.length : Int) - 1)) : Int).toNat : List (S67))).bind fun y168 => (if y165.length + y168.length < 8796093022208 then (some (y165 ++ y168)) else (none))) else (none)) else (none))) else (none)) else (none)) = some r := by first | (rw [hji22] at H; exact H) | (simp only [hji22] at H ⊢; exact H)
      (try rw [hji22] at A21)
      have hji22w : (IntKind.i64.wrap ((t152.length : Int) - 1)) = ji22 := (i64_w _).trans hji22
      by_cases c23 : 0 ≤ (ji22)
      ·rw [if_pos c23] at H
       have c23b0 := eq_true c23
       have c23b1 : decide (0 ≤ (ji22)) = true := decide_eq_true c23
       clear c23
       by_cases c24 : (ji22) ≤ (t152.length : Int)
       ·rw [if_pos c24] at H
        have c24b0 := eq_true c24
        have c24b1 : decide ((ji22) ≤ (t152.length : Int)) = true := decide_eq_true c24
        clear c24
        obtain ⟨y165, hy165⟩ : ∃ y_ : List (S67), y_ = (t152.take ((ji22) : Int).toNat) := ⟨_, rfl⟩
        replace H : (if 0 ≤ (wrap64 ((t162.length : Int) - 1)) then (if (wrap64 ((t162.length : Int) - 1)) ≤ (t162.length : Int) then ((some (t162.take ((wrap64 ((t162.length : Int) - 1)) : Int).toNat : List (S67))).bind fun y168 => (if y165.length + y168.length < 8796093022208 then (some (y165 ++ y168)) else (none))) else (none)) else (none)) = some r := by first | (rw [hy165]; with_reducible exact H) | (have H2_ := (Option.bind_some _ _).symm.trans H; rw [hy165]; with_reducible exact H2_) | (have H2_ := (Option.bind_some _ _).symm.trans H; with_reducible exact H2_) | with_reducible exact H | (rw [hy165]; exact H) | exact H
        have Ny165 := Ak hy165
        clear hy165
        obtain ⟨ji25, hji25⟩ : ∃ j_ : Int, (wrap64 ((t162.length : Int) - 1)) = j_ := ⟨_, rfl⟩
        replace H : (if 0 ≤ (ji25) then (if (ji25) ≤ (t162.length : Int) then ((some (t162.take ((ji25) : Int).toNat : List (S67))).bind fun y168 => (if y165.length + y168.length < 8796093022208 then (some (y165 ++ y168)) else (none))) else (none)) else (none)) = some r := by first | (rw [hji25] at H; exact H) | (simp only [hji25] at H ⊢; exact H)
        (try rw [hji25] at A21)
        have hji25w : (IntKind.i64.wrap ((t162.length : Int) - 1)) = ji25 := (i64_w _).trans hji25
        by_cases c26 : 0 ≤ (ji25)
        ·rw [if_pos c26] at H
         have c26b0 := eq_true c26
         have c26b1 : decide (0 ≤ (ji25)) = true := decide_eq_true c26
         clear c26
         by_cases c27 : (ji25) ≤ (t162.length : Int)
         ·rw [if_pos c27] at H
          have c27b0 := eq_true c27
          have c27b1 : decide ((ji25) ≤ (t162.length : Int)) = true := decide_eq_true c27
          clear c27
          obtain ⟨y168, hy168⟩ : ∃ y_ : List (S67), y_ = (t162.take ((ji25) : Int).toNat) := ⟨_, rfl⟩
          replace H : (if y165.length + y168.length < 8796093022208 then (some (y165 ++ y168)) else (none)) = some r := by first | (rw [hy168]; with_reducible exact H) | (have H2_ := (Option.bind_some _ _).symm.trans H; rw [hy168]; with_reducible exact H2_) | (have H2_ := (Option.bind_some _ _).symm.trans H; with_reducible exact H2_) | with_reducible exact H | (rw [hy168]; exact H) | exact H
          have Ny168 := Ak hy168
          clear hy168
          by_cases c28 : y165.length + y168.length < 8796093022208
          ·rw [if_pos c28] at H
           have LMc28 := Ak c28
           clear c28
           obtain ⟨y172, hy172⟩ : ∃ y_ : List (S67), y_ = (y165 ++ y168) := ⟨_, rfl⟩
           replace H : (some y172) = some r := by first | (rw [hy172]; with_reducible exact H) | (have H2_ := (Option.bind_some _ _).symm.trans H; rw [hy172]; with_reducible exact H2_) | (have H2_ := (Option.bind_some _ _).symm.trans H; with_reducible exact H2_) | with_reducible exact H | (rw [hy172]; exact H) | exact H
           have Ny172 := Ak hy172
           clear hy172
           obtain rfl := Option.some.inj H
           obtain ⟨Ao29, co29, eo29⟩ := Kd.R_slice HO_5.out
           subst eo29
           try go_wp2_with (first | ((with_reducible refine gate_callee (f := 73) rfl ?_); refine goesL_ (some 36) rfl rfl Try.func73 (by kernel_rfl) rfl #[.slice Ao29 x5_1.length co29] rfl gm ?_; (with_reducible refine (spec_l9Chain.calls k1 _ _ x5_1 t162 _ ?side1 ?side2 A21.out).mono ?_); (case side1 => repeat (first | exact (Kd.R_reads' HO_5.out).2.2 | (with_reducible refine Kd.C_alloc ?_ _) | (with_reducible refine Kd.C_drewN ?_ _) | (with_reducible refine Kd.C_drew ?_))); (case side2 => exact (Kd.R_reads' HO_5.out).2.1); rintro e w30 ⟨v163, rfl, ho0, hb⟩; refine ⟨_, rfl, ?_⟩; have HO164 := Ak (Kd.R_lower (Kd.R_new' (Kd.R_new' (Kd.R_new' ho0 (Kd.R_lt (rq HO_3.out))) (Kd.R_lt (rq HO_4.out))) (Kd.R_lt (rq HO_5.out))) (below_size (bw HB.out))); replace HO_3 := Ak (Kd.R_elder' (rq HO_3.out) (Kd.R_base ho0) hb); replace HO_4 := Ak (Kd.R_elder' (rq HO_4.out) (Kd.R_base ho0) hb); replace HO_5 := Ak (Kd.R_elder' (rq HO_5.out) (Kd.R_base ho0) hb); replace HB := Ak (below_step (bw HB.out) hb)))
           replace HO_3 := Ak (Kd.R_drew HO_3.out)
           replace HO_4 := Ak (Kd.R_drew HO_4.out)
           replace HO_5 := Ak (Kd.R_drew HO_5.out)
           replace HO164 := Ak (Kd.R_drew HO164.out)
           replace HB := Ak (below_drew1 HB.out)
           obtain ⟨Ao32, co32, eo32⟩ := Kd.R_slice HO_4.out
           (first | subst eo32 | (injection eo32 with f1_ f2_ f3_; have f4_ := f1_.symm; have f5_ := f3_.symm; clear f1_ f2_ f3_; subst f4_; subst f5_))
           have q33 : ((ji22) : Int) ≤ ((t152.length : Int) : Int) := of_decide_eq_true (by first | (with_reducible assumption) | assumption)
           obtain ⟨i033, hi033, _, hsz33, _⟩ := info_parts info67
           have hcut33 := cut_to (P := Try.prog) 58 67 .i64 Try.underlying58 hi033 Ao32 t152.length co32 (ji22) (of_decide_eq_true (by first | (with_reducible assumption) | assumption)) q33 (Kd.R_reads' HO_4.out).2.1
           have hr33 := Kd.R_take (m := ((ji22) : Int).toNat) HO_4.out (by omega)
           have hy33 : y165.length = ((ji22) : Int).toNat := (by rw [Ny165.out, List.length_take]; omega)
           rw [← Ny165.out] at hr33
           rw [← hy33] at hr33 hcut33
           clear hy33 hi033 hsz33 HO_4
           have HO167 := Ak hr33
           clear hr33
           replace q33 := eq_true q33
           obtain ⟨Ao34, co34, eo34⟩ := Kd.R_slice HO164.out
           (first | subst eo34 | (injection eo34 with f1_ f2_ f3_; have f4_ := f1_.symm; have f5_ := f3_.symm; clear f1_ f2_ f3_; subst f4_; subst f5_))
           have q35 : ((ji25) : Int) ≤ ((t162.length : Int) : Int) := of_decide_eq_true (by first | (with_reducible assumption) | assumption)
           obtain ⟨i035, hi035, _, hsz35, _⟩ := info_parts info67
           have hroom35 : t162.length ≤ co34 := (Kd.R_reads' HO164.out).2.1
           have hC35 : Kd.C k67 _ Ao34 t162.length t162 := (Kd.R_reads' HO164.out).2.2
           have hcut35 := cut_to (P := Try.prog) 58 67 .i64 Try.underlying58 hi035 Ao34 t162.length co34 (ji25) (of_decide_eq_true (by first | (with_reducible assumption) | assumption)) q35 hroom35
           have hr35 := Kd.C_take (m := ((ji25) : Int).toNat) hC35 (by omega)
           have hy35 : y168.length = ((ji25) : Int).toNat := (by rw [Ny168.out, List.length_take]; omega)
           rw [← Ny168.out] at hr35
           rw [← hy35] at hcut35
           have HR171 := Ak hr35
           have HC171 := Ak (show y168.length ≤ co34 from by omega)
           clear hr35 hC35 hroom35 hi035 hsz35
           have KY35 := Ak hy35
           clear hy35
           have KL35 := Ak (show ((ji25) : Int).toNat ≤ t162.length from by omega)
           replace q35 := eq_true q35
           refine start_ (n := 12) (S := fun w' => True) (ds := []) #[false, false, false, false, false, false, false, false, false, false, false, false] (by kernel_rfl) rfl rfl trivial (fun hHeld => ?_); refine with_tabW spec_Hull.tab13 spec_Hull.bits13 (fun HT_ HW_ => ?_)
           generalize w30.drew = w31 at HO_3 HO_5 HO164 HB HO167 HR171 hHeld ⊢
           (try simp only [Nb, ob_ Ao32 t152.length y165.length co32] at HO_3)
           (try simp only [Nb, ob_ Ao32 t152.length y165.length co32] at HO_5)
           (try simp only [Nb, ob_ Ao32 t152.length y165.length co32] at HO164)
           refine pure_ (i := 0) (N := some 37) (v := ?_) (a' := ?_) #[true, false, false, false, false, false, false, false, false, false, false, false] rfl rfl (any_of HT_.out (by kernel_rfl)) (fun _ _ _ h => h) (Or.inl ⟨by rfl, ?_⟩) ?_ ?_
           rotate_left
           ·intro w'
            go_simp
            with_reducible rfl
           rotate_left
           ·simp only [Act.put, sT, sZ, sS, i64_w, i32_w]
            rfl
           refine pure_ (i := 1) (N := some 38) (v := ?_) (a' := ?_) #[true, true, false, false, false, false, false, false, false, false, false, false] rfl rfl (any_of HT_.out (by kernel_rfl)) (fun _ _ _ h => h) (Or.inl ⟨by rfl, ?_⟩) ?_ ?_
           rotate_left
           ·intro w'
            go_simp
            with_reducible rfl
           rotate_left
           ·simp only [Act.put, sT, sZ, sS, i64_w, i32_w]
            rfl
           refine pure_ (i := 2) (N := some 39) (v := ?_) (a' := ?_) #[true, true, true, false, false, false, false, false, false, false, false, false] rfl rfl (any_of HT_.out (by kernel_rfl)) (fun _ _ _ h => h) (Or.inl ⟨by rfl, ?_⟩) ?_ ?_
           rotate_left
           ·intro w'
            go_simp
            with_reducible rfl
           rotate_left
           ·simp only [Act.put, sT, sZ, sS, i64_w, i32_w]
            rfl
           refine pure_ (i := 3) (N := some 40) (v := ?_) (a' := ?_) #[true, true, true, true, false, false, false, false, false, false, false, false] rfl rfl (any_of HT_.out (by kernel_rfl)) (fun _ _ _ h => h) (Or.inl ⟨by rfl, ?_⟩) ?_ ?_
           rotate_left
           ·intro w'
            go_simp
            with_reducible rfl
           rotate_left
           ·simp only [Act.put, sT, sZ, sS, i64_w, i32_w]
            rfl
           refine pure_ (i := 4) (N := some 41) (v := ?_) (a' := ?_) #[true, true, true, true, true, false, false, false, false, false, false, false] rfl rfl (any_of HT_.out (by kernel_rfl)) (fun _ _ _ h => h) (Or.inl ⟨by rfl, ?_⟩) ?_ ?_
           rotate_left
           ·intro w'
            go_simp
            with_reducible rfl
           rotate_left
           ·simp only [Act.put, sT, sZ, sS, i64_w, i32_w]
            rfl
           refine pure_ (i := 5) (N := some 42) (v := ?_) (a' := ?_) #[true, true, true, true, true, true, false, false, false, false, false, false] rfl rfl (any_of HT_.out (by kernel_rfl)) (fun _ _ _ h => h) (Or.inl ⟨by rfl, ?_⟩) ?_ ?_
           rotate_left
           ·intro w'
            go_simp
            with_reducible rfl
           rotate_left
           ·simp only [Act.put, sT, sZ, sS, i64_w, i32_w]
            rfl
           refine pure_ (i := 6) (N := some 43) (v := ?_) (a' := ?_) #[true, true, true, true, true, true, true, false, false, false, false, false] rfl rfl (any_of HT_.out (by kernel_rfl)) (fun _ _ _ h => h) (Or.inl ⟨by rfl, ?_⟩) ?_ ?_
           rotate_left
           ·intro w'
            go_simp
            with_reducible rfl
           rotate_left
           ·simp only [Act.put, sT, sZ, sS, i64_w, i32_w]
            rfl
           refine pure_ (i := 7) (N := some 44) (v := ?_) (a' := ?_) #[true, true, true, true, true, true, true, true, false, false, false, false] rfl rfl (any_of HT_.out (by kernel_rfl)) (fun _ _ _ h => h) (Or.inl ⟨by rfl, ?_⟩) ?_ ?_
           rotate_left
           ·intro w'
            go_simp
            with_reducible rfl
           rotate_left
           ·simp only [Act.put, sT, sZ, sS, i64_w, i32_w]
            rfl
           refine pure_ (i := 8) (N := some 45) (v := ?_) (a' := ?_) #[true, true, true, true, true, true, true, true, true, false, false, false] rfl rfl (any_of HT_.out (by kernel_rfl)) (fun _ _ _ h => h) (Or.inl ⟨by rfl, ?_⟩) ?_ ?_
           rotate_left
           ·intro w'
            go_simp
            with_reducible rfl
           rotate_left
           ·simp only [Act.put, sT, sZ, sS, i64_w, i32_w]
            rfl
           refine pure_ (i := 9) (N := some 46) (v := ?_) (a' := ?_) #[true, true, true, true, true, true, true, true, true, true, false, false] rfl rfl (any_of HT_.out (by kernel_rfl)) (fun _ _ _ h => h) (Or.inl ⟨by rfl, ?_⟩) ?_ ?_
           rotate_left
           ·intro w'
            go_simp
            with_reducible rfl
           rotate_left
           ·simp only [Act.put, sT, sZ, sS, i64_w, i32_w]
            rfl
           refine one_ (i := 10) (N := some 47) #[true, true, true, true, true, true, true, true, true, true, true, false] rfl rfl (one_of HT_.out (by kernel_rfl)) (by decide) (fun K hK => ?_)
           refine Kd.R_append_rows_step k67 (w0 := w) w.heap.size (by rfl) (.tmp 41) (.tmp 46) 58 67 (.agg #[(.int .i64 0), (.int .i64 0)]) 16 rfl Try.underlying58 info67 rfl (by decide) (by omega) (.slice Ao32 y165.length co32) y165 y168 _ _ _ (fun k_ => Nb k_ (.slice Ao12 t149.length co12) ∧ Nb k_ (.slice Ao29 x5_1.length co29) ∧ Nb k_ (.slice Ao34 t162.length co34)) (fun _ => False) rfl rfl ?aO ?aR (fun _ _ h => h) (fun _ h => h.elim) ?aF ?aB ?aS ?aL ?_
           (case aR => repeat (first | exact (by repeat (first | (with_reducible exact HR171.out) | (with_reducible refine Kd.C_alloc ?_ _) | (with_reducible refine Kd.C_drewN ?_ _) | (with_reducible refine Kd.C_drew ?_) | exact HR171.out)) | (with_reducible refine Kd.C_alloc ?_ _) | (with_reducible refine Kd.C_drewN ?_ _) | (with_reducible refine Kd.C_drew ?_)))
           (case aB => exact (bw HB.out))
           (case aF => exact (fun k_ hk => ⟨Kd.fresh' (Kd.R_lt (rq HO_3.out)) k_ hk, Kd.fresh' (Kd.R_lt (rq HO_5.out)) k_ hk, Kd.fresh' (Kd.R_lt (rq HO164.out)) k_ hk⟩))
           (case aO => exact (by refine rq ?_; exact Kd.R_mono HO167.out (fun _ hk => ⟨hk.1.1, ⟨hk.1.2, hk.2⟩⟩)))
           (case aS => exact (below_size (bw HB.out)))
           (case aL => have := LMc28.out; omega)
           intro v173 w36 ho hb hg hat
           rw [← Ny172.out] at ho
           (try simp only [Nb, ob_ Ao32 t152.length y165.length co32] at HO_3)
           (try simp only [Nb, ob_ Ao32 t152.length y165.length co32] at HO_5)
           (try simp only [Nb, ob_ Ao32 t152.length y165.length co32] at HO164)
           replace HO_3 := Ak (Kd.R_after (ok := (fun k_ => Nb k_ (.slice Ao29 x5_1.length co29) ∧ Nb k_ (.slice Ao34 t162.length co34))) (by (with_reducible repeat (first | apply Kd.R_alloc | apply Kd.R_drewN | apply Kd.R_drew)); exact Kd.R_mono HO_3.out (fun _ hk => ⟨⟨hk.1.2, hk.2⟩, hk.1.1⟩)) hg hat)
           replace HO_5 := Ak (Kd.R_after (ok := (fun k_ => Nb k_ (.slice Ao12 t149.length co12) ∧ Nb k_ (.slice Ao34 t162.length co34))) (by (with_reducible repeat (first | apply Kd.R_alloc | apply Kd.R_drewN | apply Kd.R_drew)); exact Kd.R_mono HO_5.out (fun _ hk => ⟨⟨hk.1.1, hk.2⟩, hk.1.2⟩)) hg hat)
           replace HB := Ak (hb)
           replace HR171 := Ak ((show Kd.C k67 w36 Ao34 y168.length y168 from by rw [Ny168.out]; exact Kd.C_take (m := ((ji25) : Int).toNat) ((Kd.R_reads' (Kd.R_after (ok := (fun k_ => Nb k_ (.slice Ao12 t149.length co12) ∧ Nb k_ (.slice Ao29 x5_1.length co29))) (by (with_reducible repeat (first | apply Kd.R_alloc | apply Kd.R_drewN | apply Kd.R_drew)); exact Kd.R_mono HO164.out (fun _ hk => ⟨⟨hk.1.1.2, hk.2⟩, hk.1.2⟩)) hg hat)).2.2) KL35.out))
           replace HO164 := Ak (Kd.R_after (ok := (fun k_ => Nb k_ (.slice Ao12 t149.length co12) ∧ Nb k_ (.slice Ao29 x5_1.length co29))) (by (with_reducible repeat (first | apply Kd.R_alloc | apply Kd.R_drewN | apply Kd.R_drew)); exact Kd.R_mono HO164.out (fun _ hk => ⟨⟨hk.1.1.2, hk.2⟩, hk.1.2⟩)) hg hat)
           have HO174 := Ak (ho)
           clear HO167
           clear ho hb hg hat
           refine hK.out _ _ trivial (fun hHeld => ?_)
           clear hK K
           refine norm_ (a' := ?_) ?_ ?_
           rotate_left
           ·show Act.put _ (some 47) _ = _
            simp only [Act.put, sT, sZ, sS, i64_w, i32_w]
            rfl
           refine pure_ (i := 11) (N := some 2) (v := ?_) (a' := ?_) #[true, true, true, true, true, true, true, true, true, true, true, true] rfl rfl (any_of HT_.out (by kernel_rfl)) (fun _ _ _ h => h) (Or.inl ⟨by rfl, ?_⟩) ?_ ?_
           rotate_left
           ·intro w'
            go_simp
            with_reducible rfl
           rotate_left
           ·simp only [Act.put, sT, sZ, sS, i64_w, i32_w]
            rfl
           refine done_ (done_of HT_.out (by kernel_rfl)) ?_
           try go_wp2
           go_ret
           exact ⟨_, by first | rfl | (simp [errW_none, errW_some] <;> rfl) | (simp only [← hji22, ← hji25]; first | rfl | (simp [errW_none, errW_some] <;> rfl)) | (simp [*, errW_none, errW_some] <;> rfl), by refine rq ?_; exact Kd.R_mono HO174.out (fun _ hk => trivial), bw HB.out⟩
          ·rw [if_neg c28] at H
           exact absurd H (by simp)
         ·rw [if_neg c27] at H
          exact absurd H (by simp)
        ·rw [if_neg c26] at H
         exact absurd H (by simp)
       ·rw [if_neg c24] at H
        exact absurd H (by simp)
      ·rw [if_neg c23] at H
       exact absurd H (by simp)
 ·replace c3 := Bool.eq_false_iff.mpr c3
  subst c3
  have H1 : (some (([] : List (S67)))) = some r := by rw [if_neg (show ¬ (false = true) by decide)] at H; exact H
  clear H
  have H := H1
  clear H1
  obtain ⟨y146, hy146⟩ : ∃ y_ : List (S67), y_ = (([] : List (S67))) := ⟨_, rfl⟩
  replace H : (some y146) = some r := by first | (rw [hy146]; with_reducible exact H) | (have H2_ := (Option.bind_some _ _).symm.trans H; rw [hy146]; with_reducible exact H2_) | (have H2_ := (Option.bind_some _ _).symm.trans H; with_reducible exact H2_) | with_reducible exact H | (rw [hy146]; exact H) | exact H
  have Ny146 := Ak hy146
  clear hy146
  obtain rfl := Option.some.inj H
  go_enter Try.func32, Try.ntmps32
  go_wp2_with (first | ((with_reducible refine gate_callee (f := 71) rfl ?_); refine goesL_ (some 9) rfl rfl Try.func71 (by kernel_rfl) rfl #[.slice A0 l0.length c0, .int .i64 500] rfl gm ?_; (with_reducible refine (spec_l9Right.calls k _ _ l0 500 false _ ?side1 ?side2 A2.out).mono ?_); (case side1 => exact zq HR0.out); (case side2 => exact HC0.out); rintro e w37 ⟨rfl, hb⟩; refine ⟨_, rfl, ?_⟩; replace HB := Ak (below_step (bw HB.out) hb)) | ((with_reducible refine gate_dst (N := 11) rfl ?_); refine Kd.R_lit k67 _ 67 ?hg (N := 11) ?hd (xs := ([] : List (S67))) (inner := []) (ok := fun _ => True) (okp := fun _ => True) ?hr ?hp (fun _ hk => hk) trivial (Below.refl _ _) (Nat.le_refl _) (by simp) ?_; (case hd => rfl); (case hg => rfl); (case hr => first | (go_simp; done) | (go_simp; rfl)); (case hp => exact (Reps.none _ _)); intro v147 w38 ho39 hb hg_ hnew_; clear hg_ hnew_; (first | rw [← Ny146.out] at ho39 | (simp only [Int.reduceToNat] at ho39; rw [← Ny146.out] at ho39)); have HO148 := Ak (Kd.R_lower ho39 (below_size (bw HB.out))); replace HB := Ak (below_step (bw HB.out) hb); clear hb ho39))
  go_ret
  exact ⟨_, zw, rq HO148.out, bw HB.out⟩

end Go.Proofs.Ytgmnphckgicadaa.PFnHulls
