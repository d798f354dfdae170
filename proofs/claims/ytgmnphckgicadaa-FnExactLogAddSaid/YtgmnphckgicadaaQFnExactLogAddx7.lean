/- Functions that the law reaches, with their contracts. -/
import Derived.Test.YtgmnphckgicadaaQFnExactLogAddx6
namespace Go.Proofs.Ytgmnphckgicadaa.PFnExactLogAdd
open Go.RowKit Go.Proofs.YtgmnphckgicadaaW.PrintWords Go.Proofs.YtgmnphckgicadaaW.PrintLast Go.Proofs.YtgmnphckgicadaaW.PrintMore
attribute [local go_sem] max2_int min2_int max_two min_two max_three min_three max_four min_four
set_option linter.unusedVariables false
set_option linter.unusedSimpArgs false

mutual
def spec_LogWrites.j0 : Nat → List Int → List (S96) → Int → Int → Int → Int → Int → Option ((List (S96)))
 | 0, _, _, _, _, _, _, _ => none
 | k + 1, x1, x5, x6, x194000, x194001, x194002, x194003 => (spec_l12Fine.f x194000 x194001 x194002 x194003).bind fun t197 => (if t197 = true then (if (x1.length : Int) > 4000 then (spec_LogWrites.j1 k x1 x5 x6 true x194000 x194001 x194002 x194003) else ((spec_LogRoom.f x194000 x194001 x194002 x194003).bind fun t198 => (spec_LogWrites.j1 k x1 x5 x6 (decide (x6 > t198)) x194000 x194001 x194002 x194003))) else (spec_LogWrites.j1 k x1 x5 x6 true x194000 x194001 x194002 x194003))
def spec_LogWrites.j1 : Nat → List Int → List (S96) → Int → Bool → Int → Int → Int → Int → Option ((List (S96)))
 | 0, _, _, _, _, _, _, _, _ => none
 | k + 1, x1, x5, x6, x31, x194000, x194001, x194002, x194003 => if x31 = true then (some x5) else (spec_LogWrites.l0 k x1 x5 x6 0 x194000 x194001 x194002 x194003)
def spec_LogWrites.l0 : Nat → List Int → List (S96) → Int → Int → Int → Int → Int → Int → Option ((List (S96)))
 | 0, _, _, _, _, _, _, _, _ => none
 | k + 1, x1, x5, x6, x7, x194000, x194001, x194002, x194003 => if x7 < x6 then ((spec_l4Min.f (wrap64 ((wrap64 (x7 + 1)) * 44)) (x1.length : Int)).bind fun t199 => (if 0 ≤ (wrap64 (x7 * 44)) then (if (wrap64 (x7 * 44)) ≤ t199 then (if t199 ≤ (x1.length : Int) then ((spec_l12Sector.f k x194003 (wrap64 (x194002 + x7)) (decide ((wrap64 (x7 + 1)) < x6)) ((x1.take (t199 : Int).toNat).drop ((wrap64 (x7 * 44)) : Int).toNat)).bind fun t201 => (if x5.length < 4398046511104 then (spec_LogWrites.l0 k x1 (x5 ++ [(⟨wrap64 ((wrap64 (x194000 + x194002)) + x7), t201⟩ : S96)]) x6 (wrap64 (x7 + 1)) x194000 x194001 x194002 x194003) else (none))) else (none)) else (none)) else (none))) else (some x5)
end
def spec_LogWrites.f (k : Nat) (a0_0 : Int) (a0_1 : Int) (a0_2 : Int) (a0_3 : Int) (l1 : List Int) : Option ((List (S96))) := (some (([] : List (S96)) : List (S96))).bind fun y194 => (if (wrap64 (Int.tdiv (wrap64 ((wrap64 ((l1.length : Int) + 44)) - 1)) 44)) = 0 then (spec_LogWrites.j0 k l1 y194 1 a0_0 a0_1 a0_2 a0_3) else (spec_LogWrites.j0 k l1 y194 (wrap64 (Int.tdiv (wrap64 ((wrap64 ((l1.length : Int) + 44)) - 1)) 44)) a0_0 a0_1 a0_2 a0_3))
def spec_LogWrites.T11 : Bool × List (List Nat × List Nat) := (true, [([], []), ([0], [0]), ([], []), ([2], [2]), ([], []), ([3, 4], [3, 4]), ([], []), ([6], [6]), ([], []), ([7, 8], [7, 8]), ([], []), ([], []), ([11], [11]), ([], []), ([10, 12, 13], [10, 12, 13]), ([1, 5, 9, 14], [1, 5, 9, 14]), ([15, 15, 0, 1, 2, 3, 4, 5, 6, 7, 8, 9, 10, 11, 12, 13, 14, 15], [15])])
def spec_LogWrites.B11 : List Nat := [0, 1, 0, 4, 0, 28, 0, 64, 0, 448, 0, 0, 2048, 0, 15360, 32767, 65535]
theorem spec_LogWrites.tab11 : rtab .any (opsOf Try.f45 11) = spec_LogWrites.T11 := by kernel_rfl
theorem spec_LogWrites.bits11 : waitsOk spec_LogWrites.T11.2 spec_LogWrites.B11 = true := by kernel_rfl
set_option maxHeartbeats 8000000 in
set_option maxRecDepth 100000 in
theorem spec_LogWrites.calls (k : Nat) (a0_0 : Int) (a0_1 : Int) (a0_2 : Int) (a0_3 : Int) (A1 : Option Addr) (c1 : Nat) (l1 : List Int) (r : List (S96)) (w : World) (hr1 : Kd.C (Kd.int .u8) w A1 l1.length l1) (hc1 : l1.length ≤ c1) (h : spec_LogWrites.f k a0_0 a0_1 a0_2 a0_3 l1 = some r) :
  Calls Try.prog 45 #[.agg #[.int .i64 a0_0, .int .i64 a0_1, .int .i64 a0_2, .int .i64 a0_3], .slice A1 l1.length c1] w fun e w' => ∃ v0_ : Value, e = .returned (v0_) ∧ Kd.S k96 96 w' w.heap.size (fun _ => True) v0_ r ∧ Below w.heap.size w w' := by
 have hu32 := Try.underlying32
 have hu96 := Try.underlying96
 have HR1 := Ak hr1
 have HC1 := Ak hc1
 clear hr1 hc1
 have HB := Ak (Below.refl w.heap.size w)
 have H : ((some (([] : List (S96)) : List (S96))).bind fun y194 => (if (wrap64 (Int.tdiv (wrap64 ((wrap64 ((l1.length : Int) + 44)) - 1)) 44)) = 0 then (spec_LogWrites.j0 k l1 y194 1 a0_0 a0_1 a0_2 a0_3) else (spec_LogWrites.j0 k l1 y194 (wrap64 (Int.tdiv (wrap64 ((wrap64 ((l1.length : Int) + 44)) - 1)) 44)) a0_0 a0_1 a0_2 a0_3))) = some r := h
 clear h
 obtain ⟨y194, hy194⟩ : ∃ y_ : List (S96), y_ = (([] : List (S96))) := ⟨_, rfl⟩
 replace H : (if (wrap64 (Int.tdiv (wrap64 ((wrap64 ((l1.length : Int) + 44)) - 1)) 44)) = 0 then (spec_LogWrites.j0 k l1 y194 1 a0_0 a0_1 a0_2 a0_3) else (spec_LogWrites.j0 k l1 y194 (wrap64 (Int.tdiv (wrap64 ((wrap64 ((l1.length : Int) + 44)) - 1)) 44)) a0_0 a0_1 a0_2 a0_3)) = some r := by first | (rw [hy194]; with_reducible exact H) | (have H2_ := (Option.bind_some _ _).symm.trans H; rw [hy194]; with_reducible exact H2_) | (have H2_ := (Option.bind_some _ _).symm.trans H; with_reducible exact H2_) | with_reducible exact H | (rw [hy194]; exact H) | exact H
 have Ny194 := Ak hy194
 clear hy194
 have HC3 := Ak H
 clear H
 go_enter Try.func45, Try.ntmps45
 go_upto_if 17 with (first | ((with_reducible refine gate_dst (N := 2) rfl ?_); (try (refine gate_guard (by rfl) ?_; dsimp only)); refine box_event ?hg (N := 2) ?hd (cs := #[.int .i64 a0_0, .int .i64 a0_1, .int .i64 a0_2, .int .i64 a0_3]) (t := 32) ?hr ?_; (case hd => rfl); (case hg => rfl); (case hr => first | (go_simp; done) | (go_simp; rfl)); intro gb193 hg w4 hbox hb; have BK193 := Ak (hbox); have GW193 := Ak (zb hg (bw HB.out)); have GE193 := Ak (zb hg (bw HB.out)); replace HB := Ak (below_step (bw HB.out) hb); clear hb hbox hg) | ((with_reducible refine gate_dst (N := 10) rfl ?_); (try (refine gate_guard (by rfl) ?_; dsimp only)); refine Kd.S_lit k96 _ 96 ?hg (N := 10) ?hd (xs := ([] : List (S96))) (inner := []) (ok := fun _ => True) (okp := fun _ => True) ?hr ?hp (fun _ hk => hk) trivial (Below.refl _ _) (Nat.le_refl _) (by simp) ?_; (case hd => rfl); (case hg => rfl); (case hr => first | (go_simp; done) | (go_simp; rfl)); (case hp => exact (Reps.none _ _)); intro v195 w5 ho6 hb hg_ hnew_; clear hg_ hnew_; (first | rw [← Ny194.out] at ho6 | (simp only [Int.reduceToNat] at ho6; rw [← Ny194.out] at ho6)); have HO196 := Ak (Kd.S_lower ho6 (below_size (bw1 HB.out GE193.out))); replace BK193 := Ak (blk_below (bq BK193.out) hb); replace HB := Ak (below_step (bw1 HB.out GE193.out) hb); clear hb ho6))
 (try simp only [Act.put, sT, sZ, sS])
 go_cut [6] (fun v6 wc => ∃ (kq : Nat) (x6_2 : Int), v6 = .int .i64 x6_2 ∧ Aside0 (spec_LogWrites.j0 kq l1 y194 x6_2 a0_0 a0_1 a0_2 a0_3 = some r) ∧ Aside0 (kq ≤ k) ∧ Aside0 (Kd.S k96 96 wc w.heap.size (fun _ => True) v195 y194) ∧ Aside0 (wc.heap[gb193]? = some (.cells #[.int .i64 a0_0, .int .i64 a0_1, .int .i64 a0_2, .int .i64 a0_3] 32 (0, 0))) ∧ Aside0 (Below w.heap.size w wc))
 case first =>
  have H := HC3.out
  clear HC3
  by_cases c7 : (wrap64 (Int.tdiv (wrap64 ((wrap64 ((l1.length : Int) + 44)) - 1)) 44)) = 0
  ·rw [if_pos c7] at H
   have c7b0 : ((wrap64 (Int.tdiv (wrap64 ((wrap64 ((l1.length : Int) + 44)) - 1)) 44)) == 0) = true := beq_iff_eq.mpr c7
   have c7b1 : ((wrap64 (Int.tdiv (wrap64 ((wrap64 ((l1.length : Int) + 44)) - 1)) 44)) != 0) = false := bne_eq_false_iff_eq.mpr c7
   clear c7
   (first | rw [c7b0] | (simp only [i64_w, i32_w]; rw [c7b0]) | skip)
   have H' := Ak H
   clear H
   go_wp2
   go_meet
   case rel => exact ⟨_, (1), (by first | rfl | (simp; done) | (simp [*]; done)), H', ⟨by first | omega | exact Nat.le_refl _⟩, ⟨sq HO196.out⟩, ⟨bq BK193.out⟩, ⟨bw1 HB.out GE193.out⟩⟩
  ·rw [if_neg c7] at H
   have c7b0 : ((wrap64 (Int.tdiv (wrap64 ((wrap64 ((l1.length : Int) + 44)) - 1)) 44)) == 0) = false := beq_eq_false_iff_ne.mpr c7
   have c7b1 : ((wrap64 (Int.tdiv (wrap64 ((wrap64 ((l1.length : Int) + 44)) - 1)) 44)) != 0) = true := bne_iff_ne.mpr c7
   (first | rw [c7b0] | (simp only [i64_w, i32_w]; rw [c7b0]) | skip)
   have H' := Ak H
   clear H
   go_wp2
   go_meet
   case rel => exact ⟨_, (wrap64 (Int.tdiv (wrap64 ((wrap64 ((l1.length : Int) + 44)) - 1)) 44)), (by first | rfl | (simp; done) | (simp [*]; done)), H', ⟨by first | omega | exact Nat.le_refl _⟩, ⟨sq HO196.out⟩, ⟨bq BK193.out⟩, ⟨bw1 HB.out GE193.out⟩⟩
 case rest =>
  clear HC3
  try clear c7b0
  try clear c7b1
  obtain ⟨kq, x6_2, rfl, HA, HJ2, HO_5, BK193, HB⟩ := hcut
  cases kq with
  | zero => exact absurd HA.out (by simp [spec_LogWrites.j0])
  | succ kj2 =>
   have H := HA.out
   clear HA
   simp only [spec_LogWrites.j0] at H
   have HC8 := Ak H
   clear H
   go_upto_region 5 with (fail)
   go_cut [31] (fun v31 wc => ∃ (kq : Nat) (x31_7 : Bool), v31 = .bool x31_7 ∧ Aside0 (spec_LogWrites.j1 kq l1 y194 x6_2 x31_7 a0_0 a0_1 a0_2 a0_3 = some r) ∧ Aside0 (kq ≤ kj2) ∧ Aside0 (Kd.S k96 96 wc w.heap.size (fun _ => True) v195 y194) ∧ Aside0 (wc.heap[gb193]? = some (.cells #[.int .i64 a0_0, .int .i64 a0_1, .int .i64 a0_2, .int .i64 a0_3] 32 (0, 0))) ∧ Aside0 (Below w.heap.size w wc))
   case first =>
    have H := HC8.out
    clear HC8
    replace H := Option.bind_eq_some_iff.mp H
    obtain ⟨t197, A90, H⟩ := H
    have A9 := Ak A90
    clear A90
    by_cases c10 : t197 = true
    ·subst c10
     have H1 : (if (l1.length : Int) > 4000 then (spec_LogWrites.j1 kj2 l1 y194 x6_2 true a0_0 a0_1 a0_2 a0_3) else ((spec_LogRoom.f a0_0 a0_1 a0_2 a0_3).bind fun t198 => (spec_LogWrites.j1 kj2 l1 y194 x6_2 (decide (x6_2 > t198)) a0_0 a0_1 a0_2 a0_3))) = some r := by rw [if_pos rfl] at H; exact H
     clear H
     have H := H1
     clear H1
     by_cases c11 : (l1.length : Int) > 4000
     ·rw [if_pos c11] at H
      have c11b0 : decide (4000 < (l1.length : Int)) = true := decide_eq_true c11
      have c11b1 : decide (4000 < l1.length) = true := decide_eq_true (by omega)
      clear c11
      (first | rw [c11b0] | (simp only [i64_w, i32_w]; rw [c11b0]) | skip)
      have H' := Ak H
      clear H
      have hcz12_0 : wc.cell? ⟨gb193, 0, none⟩ = some (.int .i64 a0_0) := zk0 BK193.out
      have hcz12_1 : wc.cell? ⟨gb193, 1, none⟩ = some (.int .i64 a0_1) := zk1 BK193.out
      have hcz12_2 : wc.cell? ⟨gb193, 2, none⟩ = some (.int .i64 a0_2) := zk2 BK193.out
      have hcz12_3 : wc.cell? ⟨gb193, 3, none⟩ = some (.int .i64 a0_3) := zk3 BK193.out
      have hfz12_0 := blk_frozen BK193.out 0
      have hfz12_1 := blk_frozen BK193.out 1
      have hfz12_2 := blk_frozen BK193.out 2
      have hfz12_3 := blk_frozen BK193.out 3
      go_wp2_with (first | ((with_reducible refine gate_callee (f := 93) rfl ?_); refine goesL_ (some 19) rfl rfl Try.func93 (by kernel_rfl) rfl #[.agg #[.int .i64 a0_0, .int .i64 a0_1, .int .i64 a0_2, .int .i64 a0_3]] rfl gm ?_; (with_reducible refine (spec_l12Fine.calls a0_0 a0_1 a0_2 a0_3 true _ A9.out).mono ?_); rintro e w13 ⟨rfl, hb⟩; refine ⟨_, rfl, ?_⟩; replace HO_5 := Ak (Kd.S_below (sq HO_5.out) hb); replace BK193 := Ak (blk_below (bq BK193.out) hb); replace HB := Ak (below_step (bw1 HB.out GE193.out) hb)))
      go_meet
      case rel => exact ⟨_, (true), (by first | rfl | (simp; done) | (simp [*]; done)), H', ⟨by have := HJ2.out; first | omega | exact Nat.le_refl _⟩, ⟨sq HO_5.out⟩, ⟨bq BK193.out⟩, ⟨bw1 HB.out GE193.out⟩⟩
     ·rw [if_neg c11] at H
      have c11b0 : decide (4000 < (l1.length : Int)) = false := decide_eq_false c11
      have c11b1 : decide (4000 < l1.length) = false := decide_eq_false (by omega)
      clear c11
      (first | rw [c11b0] | (simp only [i64_w, i32_w]; rw [c11b0]) | skip)
      replace H := Option.bind_eq_some_iff.mp H
      obtain ⟨t198, A140, H⟩ := H
      have A14 := Ak A140
      clear A140
      have H' := Ak H
      clear H
      have hcz15_0 : wc.cell? ⟨gb193, 0, none⟩ = some (.int .i64 a0_0) := zk0 BK193.out
      have hcz15_1 : wc.cell? ⟨gb193, 1, none⟩ = some (.int .i64 a0_1) := zk1 BK193.out
      have hcz15_2 : wc.cell? ⟨gb193, 2, none⟩ = some (.int .i64 a0_2) := zk2 BK193.out
      have hcz15_3 : wc.cell? ⟨gb193, 3, none⟩ = some (.int .i64 a0_3) := zk3 BK193.out
      have hfz15_0 := blk_frozen BK193.out 0
      have hfz15_1 := blk_frozen BK193.out 1
      have hfz15_2 := blk_frozen BK193.out 2
      have hfz15_3 := blk_frozen BK193.out 3
      go_wp2_with (first | ((with_reducible refine gate_callee (f := 93) rfl ?_); refine goesL_ (some 19) rfl rfl Try.func93 (by kernel_rfl) rfl #[.agg #[.int .i64 a0_0, .int .i64 a0_1, .int .i64 a0_2, .int .i64 a0_3]] rfl gm ?_; (with_reducible refine (spec_l12Fine.calls a0_0 a0_1 a0_2 a0_3 true _ A9.out).mono ?_); rintro e w16 ⟨rfl, hb⟩; refine ⟨_, rfl, ?_⟩; replace HO_5 := Ak (Kd.S_below (sq HO_5.out) hb); replace BK193 := Ak (blk_below (bq BK193.out) hb); replace HB := Ak (below_step (bw1 HB.out GE193.out) hb); have hcz17_0 := zk0 BK193.out; have hcz17_1 := zk1 BK193.out; have hcz17_2 := zk2 BK193.out; have hcz17_3 := zk3 BK193.out; have hfz17_0 := blk_frozen BK193.out 0; have hfz17_1 := blk_frozen BK193.out 1; have hfz17_2 := blk_frozen BK193.out 2; have hfz17_3 := blk_frozen BK193.out 3) | (go_at_call 94; (with_reducible refine (spec_LogRoom.calls a0_0 a0_1 a0_2 a0_3 t198 _ A14.out).mono ?_); rintro e w18 ⟨rfl, hb⟩; replace HO_5 := Ak (Kd.S_below (sq HO_5.out) hb); replace BK193 := Ak (blk_below (bq BK193.out) hb); replace HB := Ak (below_step (bw1 HB.out GE193.out) hb)))
      go_meet
      case rel => exact ⟨_, (decide (x6_2 > t198)), (by first | rfl | (simp; done) | (simp [*]; done)), H', ⟨by have := HJ2.out; first | omega | exact Nat.le_refl _⟩, ⟨sq HO_5.out⟩, ⟨bq BK193.out⟩, ⟨bw1 HB.out GE193.out⟩⟩
    ·replace c10 := Bool.eq_false_iff.mpr c10
     subst c10
     have H1 : (spec_LogWrites.j1 kj2 l1 y194 x6_2 true a0_0 a0_1 a0_2 a0_3) = some r := by rw [if_neg (show ¬ (false = true) by decide)] at H; exact H
     clear H
     have H := H1
     clear H1
     have H' := Ak H
     clear H
     have hcz19_0 : wc.cell? ⟨gb193, 0, none⟩ = some (.int .i64 a0_0) := zk0 BK193.out
     have hcz19_1 : wc.cell? ⟨gb193, 1, none⟩ = some (.int .i64 a0_1) := zk1 BK193.out
     have hcz19_2 : wc.cell? ⟨gb193, 2, none⟩ = some (.int .i64 a0_2) := zk2 BK193.out
     have hcz19_3 : wc.cell? ⟨gb193, 3, none⟩ = some (.int .i64 a0_3) := zk3 BK193.out
     have hfz19_0 := blk_frozen BK193.out 0
     have hfz19_1 := blk_frozen BK193.out 1
     have hfz19_2 := blk_frozen BK193.out 2
     have hfz19_3 := blk_frozen BK193.out 3
     go_wp2_with (first | ((with_reducible refine gate_callee (f := 93) rfl ?_); refine goesL_ (some 19) rfl rfl Try.func93 (by kernel_rfl) rfl #[.agg #[.int .i64 a0_0, .int .i64 a0_1, .int .i64 a0_2, .int .i64 a0_3]] rfl gm ?_; (with_reducible refine (spec_l12Fine.calls a0_0 a0_1 a0_2 a0_3 false _ A9.out).mono ?_); rintro e w20 ⟨rfl, hb⟩; refine ⟨_, rfl, ?_⟩; replace HO_5 := Ak (Kd.S_below (sq HO_5.out) hb); replace BK193 := Ak (blk_below (bq BK193.out) hb); replace HB := Ak (below_step (bw1 HB.out GE193.out) hb)))
     go_meet
     case rel => exact ⟨_, (true), (by first | rfl | (simp; done) | (simp [*]; done)), H', ⟨by have := HJ2.out; first | omega | exact Nat.le_refl _⟩, ⟨sq HO_5.out⟩, ⟨bq BK193.out⟩, ⟨bw1 HB.out GE193.out⟩⟩
   case rest =>
    clear HC8
    try clear c7b0
    try clear c7b1
    try clear c11b0
    try clear c11b1
    obtain ⟨kq, x31_7, rfl, HA, HJ7, HO_5, BK193, HB⟩ := hcut
    cases kq with
    | zero => exact absurd HA.out (by simp [spec_LogWrites.j1])
    | succ kj7 =>
     have H := HA.out
     clear HA
     simp only [spec_LogWrites.j1] at H
     by_cases c21 : x31_7 = true
     ·subst c21
      have H1 : (some y194) = some r := by rw [if_pos rfl] at H; exact H
      clear H
      have H := H1
      clear H1
      obtain rfl := Option.some.inj H
      go_wp2
      go_ret
      exact ⟨_, zw, sq HO_5.out, bw1 HB.out GE193.out⟩
     ·replace c21 := Bool.eq_false_iff.mpr c21
      subst c21
      have H1 : (spec_LogWrites.l0 kj7 l1 y194 x6_2 0 a0_0 a0_1 a0_2 a0_3) = some r := by rw [if_neg (show ¬ (false = true) by decide)] at H; exact H
      clear H
      have H := H1
      clear H1
      have H' := Ak H
      clear H
      go_wp2
      go_loopg [5, 7] kj7 (fun kq v5 v7 w' => ∃ (x5_3 : List (S96)) (x7_3 : Int), v7 = .int .i64 x7_3 ∧ Aside0 (spec_LogWrites.l0 kq l1 x5_3 x6_2 x7_3 a0_0 a0_1 a0_2 a0_3 = some r) ∧ Aside0 (kq ≤ kj7) ∧ Aside0 (Kd.S k96 96 w' w.heap.size (fun _ => True) v5 x5_3) ∧ Aside0 (w'.heap[gb193]? = some (.cells #[.int .i64 a0_0, .int .i64 a0_1, .int .i64 a0_2, .int .i64 a0_3] 32 (0, 0))) ∧ Aside0 (Below w.heap.size w w'))
      case atStart => exact ⟨(y194), (0), (by first | rfl | (simp; done) | (simp [*]; done)), H', ⟨Nat.le_refl _⟩, ⟨sq HO_5.out⟩, ⟨bq BK193.out⟩, ⟨bw1 HB.out GE193.out⟩⟩
      case round =>
       clear H'
       try clear c7b0
       try clear c7b1
       try clear c11b0
       try clear c11b1
       obtain ⟨x5_3, x7_3, rfl, HA, HK3, HO_5, BK193, HB⟩ := hrel
       cases gk with
       | zero => exact absurd HA.out (by simp [spec_LogWrites.l0])
       | succ k3 =>
        have H := HA.out
        clear HA
        simp only [spec_LogWrites.l0] at H
        by_cases c22 : x7_3 < x6_2
        ·rw [if_pos c22] at H
         have c22b0 : decide (x7_3 < x6_2) = true := decide_eq_true c22
         clear c22
         replace H := Option.bind_eq_some_iff.mp H
         obtain ⟨t199, A230, H⟩ := H
         have A23 := Ak A230
         clear A230
         obtain ⟨ji24, hji24⟩ : ∃ j_ : Int, (wrap64 (x7_3 * 44)) = j_ := ⟨_, rfl⟩
         replace H : (if 0 ≤ (ji24) then (if (ji24) ≤ t199 then (if t199 ≤ (l1.length : Int) then ((spec_l12Sector.f k3 a0_3 (wrap64 (a0_2 + x7_3)) (decide ((wrap64 (x7_3 + 1)) < x6_2)) ((l1.take (t199 : Int).toNat).drop ((ji24) : Int).toNat)).bind fun t201 => (if x5_3.length < 4398046511104 then (spec_LogWrites.l0 k3 l1 (x5_3 ++ [(⟨wrap64 ((wrap64 (a0_0 + a0_2)) + x7_3), t201⟩ : S96)]) x6_2 (wrap64 (x7_3 + 1)) a0_0 a0_1 a0_2 a0_3) else (none))) else (none)) else (none)) else (none)) = some r := by first | (rw [hji24] at H; exact H) | (simp only [hji24] at H ⊢; exact H)
         (try rw [hji24] at A23)
         have hji24w : (IntKind.i64.wrap (x7_3 * 44)) = ji24 := (i64_w _).trans hji24
         by_cases c25 : 0 ≤ (ji24)
         ·rw [if_pos c25] at H
          have c25b0 := eq_true c25
          have c25b1 : decide (0 ≤ (ji24)) = true := decide_eq_true c25
          clear c25
          by_cases c26 : (ji24) ≤ t199
          ·rw [if_pos c26] at H
           have c26b0 := eq_true c26
           have c26b1 : decide ((ji24) ≤ t199) = true := decide_eq_true c26
           clear c26
           by_cases c27 : t199 ≤ (l1.length : Int)
           ·rw [if_pos c27] at H
            have c27b0 := eq_true c27
            have c27b1 : decide (t199 ≤ (l1.length : Int)) = true := decide_eq_true c27
            clear c27
            replace H := Option.bind_eq_some_iff.mp H
            obtain ⟨t201, A280, H⟩ := H
            have A28 := Ak A280
            clear A280
            by_cases c29 : x5_3.length < 4398046511104
            ·rw [if_pos c29] at H
             have LMc29 := Ak c29
             clear c29
             obtain ⟨y204, hy204⟩ : ∃ y_ : List (S96), y_ = (x5_3 ++ [(⟨wrap64 ((wrap64 (a0_0 + a0_2)) + x7_3), t201⟩ : S96)]) := ⟨_, rfl⟩
             replace H : (spec_LogWrites.l0 k3 l1 y204 x6_2 (wrap64 (x7_3 + 1)) a0_0 a0_1 a0_2 a0_3) = some r := by first | (rw [hy204]; with_reducible exact H) | (have H2_ := (Option.bind_some _ _).symm.trans H; rw [hy204]; with_reducible exact H2_) | (have H2_ := (Option.bind_some _ _).symm.trans H; with_reducible exact H2_) | with_reducible exact H | (rw [hy204]; exact H) | exact H
             have Ny204 := Ak hy204
             clear hy204
             have H' := Ak H
             clear H
             try go_wp2_with (first | ((with_reducible refine gate_callee (f := 95) rfl ?_); refine goesL_ (some 43) rfl rfl Try.func95 (by kernel_rfl) rfl #[.int .i64 (wrap64 ((wrap64 (x7_3 + 1)) * 44)), .int .i64 (l1.length : Int)] rfl gm ?_; (with_reducible refine (spec_l4Min.calls (wrap64 ((wrap64 (x7_3 + 1)) * 44)) (l1.length : Int) t199 _ A23.out).mono ?_); rintro e w' ⟨rfl, ⟨nd, rfl⟩⟩; refine ⟨_, rfl, ?_⟩))
             (try (rw [drewN_self wr]; generalize hq_ : World.drewN wr _ = wr; replace HO_5 : Aside0 (Kd.S k96 96 wr w.heap.size (fun _ => True) u5 x5_3) := ⟨by rw [← hq_]; exact (sq HO_5.out)⟩; replace BK193 : Aside0 (wr.heap[gb193]? = some (.cells #[.int .i64 a0_0, .int .i64 a0_1, .int .i64 a0_2, .int .i64 a0_3] 32 (0, 0))) := ⟨by rw [← hq_]; exact (bq BK193.out)⟩; replace HB : Aside0 (Below w.heap.size w wr) := ⟨by rw [← hq_]; exact (bw1 HB.out GE193.out)⟩; clear hq_))
             replace HO_5 := Ak (Kd.S_drew HO_5.out)
             replace BK193 := Ak (blk_drew BK193.out)
             replace HB := Ak (below_drew1 HB.out)
             obtain ⟨i031, hi031, _, hsz31, _⟩ := info_parts info5
             obtain ⟨A31, hcut31, hA31, hC31⟩ := print_mid_of (P := Try.prog) (Value.int .u8) 0 22 5 .i64 .i64 Try.underlying22 hi031 hsz31 A1 c1 l1 (ji24) t199 (of_decide_eq_true (by first | (with_reducible assumption) | assumption)) (by first | omega | exact of_decide_eq_true (by first | (with_reducible assumption) | assumption)) (of_decide_eq_true (by first | (with_reducible assumption) | assumption)) HC1.out
             have HR200 := Ak (Kd.C_of_reads (h1 := fun _ => rfl) (hA31 _ (Kd.reads_of_C HR1.out)))
             have HC200 := Ak hC31
             clear hA31 hC31 hi031 hsz31
             refine start_ (n := 17) (S := fun w' => w'.cell? ⟨gb193, 0, none⟩ = some (.int .i64 a0_0) ∧ w'.cell? ⟨gb193, 1, none⟩ = some (.int .i64 a0_1) ∧ w'.cell? ⟨gb193, 2, none⟩ = some (.int .i64 a0_2) ∧ w'.cell? ⟨gb193, 3, none⟩ = some (.int .i64 a0_3)) (ds := []) #[false, false, false, false, false, false, false, false, false, false, false, false, false, false, false, false, false] (by kernel_rfl) rfl rfl ⟨zk0 BK193.out, zk1 BK193.out, zk2 BK193.out, zk3 BK193.out⟩ (fun hHeld => ?_); refine with_tabW spec_LogWrites.tab11 spec_LogWrites.bits11 (fun HT_ HW_ => ?_)
             generalize wr.drew = w30 at HO_5 BK193 HB HR200 hHeld ⊢
             refine pure_ (i := 0) (N := some 44) (v := ?_) (a' := ?_) #[true, false, false, false, false, false, false, false, false, false, false, false, false, false, false, false, false] rfl rfl (any_of HT_.out (by kernel_rfl)) (fun _ _ _ h => h) (Or.inl ⟨by rfl, ?_⟩) ?_ ?_
             rotate_left
             ·intro w'
              go_simp
              with_reducible rfl
             rotate_left
             ·simp only [Act.put, sT, sZ, sS, i64_w, i32_w]
              rfl
             refine pure_ (i := 2) (N := some 46) (v := ?_) (a' := ?_) #[true, false, true, false, false, false, false, false, false, false, false, false, false, false, false, false, false] rfl rfl (any_of HT_.out (by kernel_rfl)) (fun _ _ _ h => h) (Or.inl ⟨by rfl, ?_⟩) ?_ ?_
             rotate_left
             ·intro w'
              go_simp
              with_reducible rfl
             rotate_left
             ·simp only [Act.put, sT, sZ, sS, i64_w, i32_w]
              rfl
             refine pure_ (i := 4) (N := some 48) (v := ?_) (a' := ?_) #[true, false, true, false, true, false, false, false, false, false, false, false, false, false, false, false, false] rfl rfl (any_of HT_.out (by kernel_rfl)) (fun _ _ _ h => h) (Or.inl ⟨by rfl, ?_⟩) ?_ ?_
             rotate_left
             ·intro w'
              go_simp
              with_reducible rfl
             rotate_left
             ·simp only [Act.put, sT, sZ, sS, i64_w, i32_w]
              rfl
             refine pure_ (i := 6) (N := some 50) (v := ?_) (a' := ?_) #[true, false, true, false, true, false, true, false, false, false, false, false, false, false, false, false, false] rfl rfl (any_of HT_.out (by kernel_rfl)) (fun _ _ _ h => h) (Or.inl ⟨by rfl, ?_⟩) ?_ ?_
             rotate_left
             ·intro w'
              go_simp
              with_reducible rfl
             rotate_left
             ·simp only [Act.put, sT, sZ, sS, i64_w, i32_w]
              rfl
             refine pure_ (i := 7) (N := some 51) (v := ?_) (a' := ?_) #[true, false, true, false, true, false, true, true, false, false, false, false, false, false, false, false, false] rfl rfl (any_of HT_.out (by kernel_rfl)) (fun _ _ _ h => h) (Or.inl ⟨by rfl, ?_⟩) ?_ ?_
             rotate_left
             ·intro w'
              go_simp
              with_reducible rfl
             rotate_left
             ·simp only [Act.put, sT, sZ, sS, i64_w, i32_w]
              rfl
             refine pure_ (i := 8) (N := some 52) (v := ?_) (a' := ?_) #[true, false, true, false, true, false, true, true, true, false, false, false, false, false, false, false, false] rfl rfl (any_of HT_.out (by kernel_rfl)) (fun _ _ _ h => h) (Or.inl ⟨by rfl, ?_⟩) ?_ ?_
             rotate_left
             ·intro w'
              go_simp
              with_reducible rfl
             rotate_left
             ·simp only [Act.put, sT, sZ, sS, i64_w, i32_w]
              rfl
             refine pure_ (i := 9) (N := some 53) (v := ?_) (a' := ?_) #[true, false, true, false, true, false, true, true, true, true, false, false, false, false, false, false, false] rfl rfl (any_of HT_.out (by kernel_rfl)) (fun _ _ _ h => h) (Or.inl ⟨by rfl, ?_⟩) ?_ ?_
             rotate_left
             ·intro w'
              go_simp
              with_reducible rfl
             rotate_left
             ·simp only [Act.put, sT, sZ, sS, i64_w, i32_w]
              rfl
             refine pure_ (i := 10) (N := some 54) (v := ?_) (a' := ?_) #[true, false, true, false, true, false, true, true, true, true, true, false, false, false, false, false, false] rfl rfl (any_of HT_.out (by kernel_rfl)) (fun _ _ _ h => h) (Or.inl ⟨by rfl, ?_⟩) ?_ ?_
             rotate_left
             ·intro w'
              go_simp
              with_reducible rfl
             rotate_left
             ·simp only [Act.put, sT, sZ, sS, i64_w, i32_w]
              rfl
             refine pure_ (i := 11) (N := some 55) (v := ?_) (a' := ?_) #[true, false, true, false, true, false, true, true, true, true, true, true, false, false, false, false, false] rfl rfl (any_of HT_.out (by kernel_rfl)) (fun _ _ _ h => h) (Or.inl ⟨by rfl, ?_⟩) ?_ ?_
             rotate_left
             ·intro w'
              go_simp
              with_reducible rfl
             rotate_left
             ·simp only [Act.put, sT, sZ, sS, i64_w, i32_w]
              rfl
             refine pure_ (i := 12) (N := some 56) (v := ?_) (a' := ?_) #[true, false, true, false, true, false, true, true, true, true, true, true, true, false, false, false, false] rfl rfl (any_of HT_.out (by kernel_rfl)) (fun _ _ _ h => h) (Or.inl ⟨by rfl, ?_⟩) ?_ ?_
             rotate_left
             ·intro w'
              go_simp
              with_reducible rfl
             rotate_left
             ·simp only [Act.put, sT, sZ, sS, i64_w, i32_w]
              rfl
             refine pure_ (i := 13) (N := some 57) (v := ?_) (a' := ?_) #[true, false, true, false, true, false, true, true, true, true, true, true, true, true, false, false, false] rfl rfl (any_of HT_.out (by kernel_rfl)) (fun _ _ _ h => h) (Or.inl ⟨by rfl, ?_⟩) ?_ ?_
             rotate_left
             ·intro w'
              go_simp
              with_reducible rfl
             rotate_left
             ·simp only [Act.put, sT, sZ, sS, i64_w, i32_w]
              rfl
             refine pure_ (i := 14) (N := some 58) (v := ?_) (a' := ?_) #[true, false, true, false, true, false, true, true, true, true, true, true, true, true, true, false, false] rfl rfl (any_of HT_.out (by kernel_rfl)) (fun _ _ _ h => h) (Or.inl ⟨by rfl, ?_⟩) ?_ ?_
             rotate_left
             ·intro w'
              go_simp
              with_reducible rfl
             rotate_left
             ·simp only [Act.put, sT, sZ, sS, i64_w, i32_w]
              rfl
             refine take_ (i := 1) (N := some 45) (v := ?_) (a' := ?_) #[true, true, true, false, true, false, true, true, true, true, true, true, true, true, true, false, false] rfl rfl (take_ofW HT_.out HW_.out (by kernel_rfl)) (fun _ _ _ h => h) (Or.inl ⟨by rfl, ?_⟩) hHeld ?_ ?_
             rotate_left
             ·rintro w' ⟨s0, s1, s2, s3⟩
              go_simp
              with_reducible rfl
             rotate_left
             ·simp only [Act.put, sT, sZ, sS, i64_w, i32_w]
              rfl
             refine take_ (i := 3) (N := some 47) (v := ?_) (a' := ?_) #[true, true, true, true, true, false, true, true, true, true, true, true, true, true, true, false, false] rfl rfl (take_ofW HT_.out HW_.out (by kernel_rfl)) (fun _ _ _ h => h) (Or.inl ⟨by rfl, ?_⟩) hHeld ?_ ?_
             rotate_left
             ·rintro w' ⟨s0, s1, s2, s3⟩
              go_simp
              with_reducible rfl
             rotate_left
             ·simp only [Act.put, sT, sZ, sS, i64_w, i32_w]
              rfl
             refine pure_ (i := 5) (N := some 49) (v := ?_) (a' := ?_) #[true, true, true, true, true, true, true, true, true, true, true, true, true, true, true, false, false] rfl rfl (any_of HT_.out (by kernel_rfl)) (fun _ _ _ h => h) (Or.inl ⟨by rfl, ?_⟩) ?_ ?_
             rotate_left
             ·intro w'
              go_simp
              with_reducible rfl
             rotate_left
             ·simp only [Act.put, sT, sZ, sS, i64_w, i32_w]
              rfl
             refine one_ (i := 15) (N := some 59) #[true, true, true, true, true, true, true, true, true, true, true, true, true, true, true, true, false] rfl rfl (one_of HT_.out (by kernel_rfl)) (by decide) (fun K hK => ?_)
             refine goes_ Try.func96 (by kernel_rfl) rfl #[.int .i64 a0_3, .int .i64 (wrap64 (a0_2 + x7_3)), .bool (decide ((wrap64 (x7_3 + 1)) < x6_2)), .slice A31 ((l1.take (t199 : Int).toNat).drop ((ji24) : Int).toNat).length (c1 - (ji24).toNat)] (by rfl) rfl rfl (by (try simp only [List.map_toArray, List.map_cons, List.map_nil]); first | done | (rw [show ((l1.take (t199 : Int).toNat).drop ((ji24) : Int).toNat).length = (t199.toNat - (ji24).toNat) from (by rw [List.length_drop, List.length_take]; have h_ : (t199 : Int) ≤ (l1.length : Int) := of_decide_eq_true (by first | (with_reducible assumption) | assumption); omega)] <;> rfl) | (simp only [hji24]; rfl) | rfl | (simp only [List.length_drop, List.length_take]; rfl)) ?_
             with_reducible refine (spec_l12Sector.calls k3 a0_3 (wrap64 (a0_2 + x7_3)) (decide ((wrap64 (x7_3 + 1)) < x6_2)) _ _ ((l1.take (t199 : Int).toNat).drop ((ji24) : Int).toNat) t201 _ ?side1 ?side2 A28.out).mono ?_
             (case side1 => exact zq (Kd.C_below HR200.out HB.out))
             (case side2 => exact HC200.out)
             rintro e w32 ⟨v202, rfl, ho0, hb⟩
             refine ⟨_, rfl, ?_⟩
             replace HO_5 := Ak (Kd.S_elder' (sq HO_5.out) (Kd.R_base ho0) hb)
             have HO203 := Ak (Kd.R_lower ho0 (below_size (bw1 HB.out GE193.out)))
             replace BK193 := Ak (blk_below (bq BK193.out) hb)
             replace HB := Ak (below_step (bw1 HB.out GE193.out) hb)
             refine hK.out _ _ ⟨zk0 BK193.out, zk1 BK193.out, zk2 BK193.out, zk3 BK193.out⟩ (fun hHeld => ?_)
             clear hK K
             refine norm_ (a' := ?_) ?_ ?_
             rotate_left
             ·show Act.put _ (some 59) _ = _
              simp only [Act.put, sT, sZ, sS, i64_w, i32_w]
              rfl
             refine pure_ (i := 16) (N := some 9) (v := ?_) (a' := ?_) #[true, true, true, true, true, true, true, true, true, true, true, true, true, true, true, true, true] rfl rfl (any_of HT_.out (by kernel_rfl)) (fun _ _ _ h => h) (Or.inl ⟨by rfl, ?_⟩) ?_ ?_
             rotate_left
             ·intro w'
              go_simp
              with_reducible rfl
             rotate_left
             ·simp only [Act.put, sT, sZ, sS, i64_w, i32_w]
              rfl
             refine done_ (done_of HT_.out (by kernel_rfl)) ?_
             have hcz33_0 := zk0 BK193.out
             have hcz33_1 := zk1 BK193.out
             have hcz33_2 := zk2 BK193.out
             have hcz33_3 := zk3 BK193.out
             have hfz33_0 := blk_frozen BK193.out 0
             have hfz33_1 := blk_frozen BK193.out 1
             have hfz33_2 := blk_frozen BK193.out 2
             have hfz33_3 := blk_frozen BK193.out 3
             obtain ⟨Ao34, co34, eo34⟩ := Kd.R_slice HO203.out
             subst eo34
             try go_wp2_with (first | ((with_reducible refine gate_builtin (b := .append) (xs := #[.tmp 60, .tmp 70]) rfl ?_); (try (refine gate_guard (by rfl) ?_; dsimp only)); at_builtin; refine Kd.S_append k96 (w0 := w) w.heap.size rfl (.tmp 60) (.tmp 70) 29 96 (.agg #[(.int .i64 0), (.slice none 0 0)]) 32 rfl Try.underlying29 info96 rfl (by decide) (by omega) u5 x5_3 (⟨wrap64 ((wrap64 (a0_0 + a0_2)) + x7_3), t201⟩ : S96) [.int .i64 (wrap64 ((wrap64 (a0_0 + a0_2)) + x7_3)), .slice Ao34 t201.length co34] (fun _ => True) (fun k_ => some k_ = (.slice Ao34 t201.length co34 : Value).ownBlock) rfl rfl ?aP (fun k_ hk_ => ((Kd.R_mono (ok' := fun k_ => ((fun _ => True)) k_ ∧ some k_ ≠ (u5 : Value).ownBlock) (Kd.R_apart' (HO203.out) (Kd.S_typed HO_5.out) (by decide)) (fun k_ hk => ⟨trivial, hk.2⟩))).1 k_ hk_.symm) ?aF ?aO ?aB ?aS ?aL ?_; (case aP => exact k96_mkM _ _ _ (⟨wrap64 ((wrap64 (a0_0 + a0_2)) + x7_3), t201⟩ : S96) (Kd.R_mono (Kd.R_tight rfl (Kd.R_mono (ok' := fun k_ => ((fun _ => True)) k_ ∧ some k_ ≠ (u5 : Value).ownBlock) (Kd.R_apart' (HO203.out) (Kd.S_typed HO_5.out) (by decide)) (fun k_ hk => ⟨trivial, hk.2⟩))) (fun _ h_ => h_))); (case aB => exact (bw1 HB.out GE193.out)); (case aF => exact (fun _ _ => trivial)); (case aO => exact (by refine sq ?_; exact Kd.S_mono HO_5.out (fun k_ hk => ⟨trivial, fun e_ => hk.2 e_⟩))); (case aS => exact (below_size (bw1 HB.out GE193.out))); (case aL => have := LMc29.out; omega); intro v205 w35 ho hb hg hat; rw [← Ny204.out] at ho; replace BK193 := Ak (blk_grown (g := gb193) (o := .cells #[.int .i64 a0_0, .int .i64 a0_1, .int .i64 a0_2, .int .i64 a0_3] 32 (0, 0)) (bq BK193.out) hg (Kd.S_ne HO_5.out BK193.out (by decide))); replace HB := Ak (hb); have HO206 := Ak (ho); clear HO_5 HO203; clear ho hb hg hat))
             go_roundg k3
             case measure => have := HJ2.out; have := HJ7.out; have := HK3.out; omega
             case rel => exact ⟨(y204), (wrap64 (x7_3 + 1)), (by first | rfl | (simp; done) | (simp [*]; done)), H', ⟨by have := HJ2.out; have := HJ7.out; have := HK3.out; omega⟩, ⟨sq HO206.out⟩, ⟨bq BK193.out⟩, ⟨bw1 HB.out GE193.out⟩⟩
            ·rw [if_neg c29] at H
             exact absurd H (by simp)
           ·rw [if_neg c27] at H
            exact absurd H (by simp)
          ·rw [if_neg c26] at H
           exact absurd H (by simp)
         ·rw [if_neg c25] at H
          exact absurd H (by simp)
        ·rw [if_neg c22] at H
         have c22b0 : decide (x7_3 < x6_2) = false := decide_eq_false c22
         clear c22
         obtain rfl := Option.some.inj H
         go_wp2
         go_ret
         exact ⟨_, zw, sq HO_5.out, bw1 HB.out GE193.out⟩

end Go.Proofs.Ytgmnphckgicadaa.PFnExactLogAdd

