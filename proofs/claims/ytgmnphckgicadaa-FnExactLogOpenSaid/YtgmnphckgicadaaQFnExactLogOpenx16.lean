/- Functions that the law reaches, with their contracts. -/
import Derived.Test.YtgmnphckgicadaaQFnExactLogOpenx8
import Derived.Test.YtgmnphckgicadaaQFnExactLogOpenx14
import Derived.Test.YtgmnphckgicadaaQFnExactLogOpenx15
namespace Go.Proofs.Ytgmnphckgicadaa.PFnExactLogOpen
open Go.RowKit Go.Proofs.YtgmnphckgicadaaW.PrintWords Go.Proofs.YtgmnphckgicadaaW.PrintLast Go.Proofs.YtgmnphckgicadaaW.PrintMore
attribute [local go_sem] max2_int min2_int max_two min_two max_three min_three max_four min_four
set_option linter.unusedVariables false
set_option linter.unusedSimpArgs false

mutual
def spec_l12Read.j0 : Nat → List Int → Int → Bool → Int → Int → Bool → Option (Int × Int × Bool × List Int × Bool)
 | 0, _, _, _, _, _, _ => none
 | k + 1, x0, x5, x44, x263000, x263001, x263002 => if x44 = true then (some (0, 0, false, ([] : List Int), false)) else ((some (([] : List Int) : List Int)).bind fun y267 => (if 16 ≤ (wrap64 (16 + x5)) then (if (wrap64 (16 + x5)) ≤ (x0.length : Int) then (if y267.length + ((x0.take ((wrap64 (16 + x5)) : Int).toNat).drop 16).length < 140737488355328 then ((some (y267 ++ ((x0.take ((wrap64 (16 + x5)) : Int).toNat).drop 16) : List Int)).bind fun y271 => ((spec_l12Sector.f k x263000 x263001 x263002 y271).bind fun t274 => (spec_l12Read.l0 k x0 t274 0 x263000 x263001 x263002 y271))) else (none)) else (none)) else (none)))
def spec_l12Read.l0 : Nat → List Int → List Int → Int → Int → Int → Bool → List Int → Option (Int × Int × Bool × List Int × Bool)
 | 0, _, _, _, _, _, _, _ => none
 | k + 1, x0, x6, x7, x263000, x263001, x263002, x263003 => if x7 < (x0.length : Int) then (if 0 ≤ x7 then (if x7 < (x6.length : Int) then (if (rd x0 x7) = (rd x6 x7) then (spec_l12Read.l0 k x0 x6 (wrap64 (x7 + 1)) x263000 x263001 x263002 x263003) else (some (0, 0, false, ([] : List Int), false))) else (none)) else (none)) else (some (x263000, x263001, x263002, x263003, true))
end
def spec_l12Read.f (k : Nat) (l0 : List Int) : Option (Int × Int × Bool × List Int × Bool) := (spec_l12Get.f l0 0).bind fun t259 => ((spec_l12Get.f l0 4).bind fun t260 => (if 8 < (l0.length : Int) then (if 9 < (l0.length : Int) then ((spec_l1In.f t259 1 1000000).bind fun t264 => (if t264 = true then ((spec_l1In.f (wrap64 (rd l0 8)) 1 2).bind fun t266 => (if t266 = true then (if (wrap64 (rd l0 9)) > 44 then (spec_l12Read.j0 k l0 (wrap64 (rd l0 9)) true t259 t260 ((rd l0 8) == 1)) else (if (rd l0 8) = 1 then (spec_l12Read.j0 k l0 (wrap64 (rd l0 9)) ((wrap64 (rd l0 9)) != 44) t259 t260 ((rd l0 8) == 1)) else (spec_l12Read.j0 k l0 (wrap64 (rd l0 9)) false t259 t260 ((rd l0 8) == 1)))) else (spec_l12Read.j0 k l0 (wrap64 (rd l0 9)) true t259 t260 ((rd l0 8) == 1)))) else (spec_l12Read.j0 k l0 (wrap64 (rd l0 9)) true t259 t260 ((rd l0 8) == 1)))) else (none)) else (none)))
def spec_l12Read.T1 : Bool × List (List Nat × List Nat) := (true, [([], []), ([0], [0]), ([], []), ([2, 1], [2]), ([], []), ([4], [4]), ([5], [5]), ([6], [6]), ([1, 3, 7], [1, 3, 7]), ([], []), ([9, 8, 3, 0, 1, 2, 3, 4, 5, 6, 7, 8, 9], [8, 9])])
def spec_l12Read.B1 : List Nat := [0, 1, 0, 7, 0, 16, 48, 112, 255, 0, 1023]
theorem spec_l12Read.tab1 : rtab .any (opsOf Try.f58 1) = spec_l12Read.T1 := by kernel_rfl
theorem spec_l12Read.bits1 : waitsOk spec_l12Read.T1.2 spec_l12Read.B1 = true := by kernel_rfl
def spec_l12Read.T10 : Bool × List (List Nat × List Nat) := (true, [([], []), ([], []), ([0, 1], [0, 1]), ([2], [2]), ([], []), ([], []), ([4, 5], [4, 5]), ([6], [6]), ([3, 7], [3, 7])])
def spec_l12Read.B10 : List Nat := [0, 0, 3, 7, 0, 0, 48, 112, 255]
theorem spec_l12Read.tab10 : rtab .any (opsOf Try.f58 10) = spec_l12Read.T10 := by kernel_rfl
theorem spec_l12Read.bits10 : waitsOk spec_l12Read.T10.2 spec_l12Read.B10 = true := by kernel_rfl
set_option maxHeartbeats 8000000 in
set_option maxRecDepth 100000 in
theorem spec_l12Read.calls (k : Nat) (A0 : Option Addr) (c0 : Nat) (l0 : List Int) (r1 : Int) (r2 : Int) (r3 : Bool) (r4 : List Int) (r5 : Bool) (w : World) (hr0 : Kd.C (Kd.int .u8) w A0 l0.length l0) (hc0 : l0.length ≤ c0) (h : spec_l12Read.f k l0 = some (r1, r2, r3, r4, r5)) :
  Calls Try.prog 58 #[.slice A0 l0.length c0] w fun e w' => ∃ v3_ : Value, e = .returned (.tuple #[.agg #[.int .i64 r1, .int .i64 r2, .bool r3, v3_], .bool r5]) ∧ Kd.R (Kd.int .u8) 5 w' w.heap.size (fun _ => True) v3_ r4 ∧ Below w.heap.size w w' := by
 have hu79 := Try.underlying79
 have HR0 := Ak hr0
 have HC0 := Ak hc0
 clear hr0 hc0
 have HB := Ak (Below.refl w.heap.size w)
 have H : ((spec_l12Get.f l0 0).bind fun t259 => ((spec_l12Get.f l0 4).bind fun t260 => (if 8 < (l0.length : Int) then (if 9 < (l0.length : Int) then ((spec_l1In.f t259 1 1000000).bind fun t264 => (if t264 = true then ((spec_l1In.f (wrap64 (rd l0 8)) 1 2).bind fun t266 => (if t266 = true then (if (wrap64 (rd l0 9)) > 44 then (spec_l12Read.j0 k l0 (wrap64 (rd l0 9)) true t259 t260 ((rd l0 8) == 1)) else (if (rd l0 8) = 1 then (spec_l12Read.j0 k l0 (wrap64 (rd l0 9)) ((wrap64 (rd l0 9)) != 44) t259 t260 ((rd l0 8) == 1)) else (spec_l12Read.j0 k l0 (wrap64 (rd l0 9)) false t259 t260 ((rd l0 8) == 1)))) else (spec_l12Read.j0 k l0 (wrap64 (rd l0 9)) true t259 t260 ((rd l0 8) == 1)))) else (spec_l12Read.j0 k l0 (wrap64 (rd l0 9)) true t259 t260 ((rd l0 8) == 1)))) else (none)) else (none)))) = some (r1, r2, r3, r4, r5) := h
 clear h
 replace H := Option.bind_eq_some_iff.mp H
 obtain ⟨t259, A20, H⟩ := H
 replace H : ((spec_l12Get.f l0 4).bind fun t260 => (if 8 < (l0.length : Int) then (if 9 < (l0.length : Int) then ((spec_l1In.f t259 1 1000000).bind fun t264 => (if t264 = true then ((spec_l1In.f (wrap64 (rd l0 8)) 1 2).bind fun t266 => (if t266 = true then (if (wrap64 (rd l0 9)) > 44 then (spec_l12Read.j0 k l0 (wrap64 (rd l0 9)) true t259 t260 ((rd l0 8) == 1)) else (if (rd l0 8) = 1 then (spec_l12Read.j0 k l0 (wrap64 (rd l0 9)) ((wrap64 (rd l0 9)) != 44) t259 t260 ((rd l0 8) == 1)) else (spec_l12Read.j0 k l0 (wrap64 (rd l0 9)) false t259 t260 ((rd l0 8) == 1)))) else (spec_l12Read.j0 k l0 (wrap64 (rd l0 9)) true t259 t260 ((rd l0 8) == 1)))) else (spec_l12Read.j0 k l0 (wrap64 (rd l0 9)) true t259 t260 ((rd l0 8) == 1)))) else (none)) else (none))) = some (r1, r2, r3, r4, r5) := H
 have A2 := Ak A20
 clear A20
 replace H := Option.bind_eq_some_iff.mp H
 obtain ⟨t260, A30, H⟩ := H
 replace H : (if 8 < (l0.length : Int) then (if 9 < (l0.length : Int) then ((spec_l1In.f t259 1 1000000).bind fun t264 => (if t264 = true then ((spec_l1In.f (wrap64 (rd l0 8)) 1 2).bind fun t266 => (if t266 = true then (if (wrap64 (rd l0 9)) > 44 then (spec_l12Read.j0 k l0 (wrap64 (rd l0 9)) true t259 t260 ((rd l0 8) == 1)) else (if (rd l0 8) = 1 then (spec_l12Read.j0 k l0 (wrap64 (rd l0 9)) ((wrap64 (rd l0 9)) != 44) t259 t260 ((rd l0 8) == 1)) else (spec_l12Read.j0 k l0 (wrap64 (rd l0 9)) false t259 t260 ((rd l0 8) == 1)))) else (spec_l12Read.j0 k l0 (wrap64 (rd l0 9)) true t259 t260 ((rd l0 8) == 1)))) else (spec_l12Read.j0 k l0 (wrap64 (rd l0 9)) true t259 t260 ((rd l0 8) == 1)))) else (none)) else (none)) = some (r1, r2, r3, r4, r5) := H
 have A3 := Ak A30
 clear A30
 by_cases c4 : 8 < (l0.length : Int)
 ·rw [if_pos c4] at H
  have c4b0 : decide (8 < (l0.length : Int)) = true := decide_eq_true c4
  have c4b1 : decide (8 < l0.length) = true := decide_eq_true (by omega)
  clear c4
  by_cases c5 : 9 < (l0.length : Int)
  ·rw [if_pos c5] at H
   have c5b0 : decide (9 < (l0.length : Int)) = true := decide_eq_true c5
   have c5b1 : decide (9 < l0.length) = true := decide_eq_true (by omega)
   clear c5
   have HC6 := Ak H
   clear H
   go_enter Try.func58, Try.ntmps58
   try go_wp2_with (first | ((with_reducible refine gate_dst (N := 2) rfl ?_); refine box_event ?hg (N := 2) ?hd (cs := #[.int .i64 0, .int .i64 0, .bool false, .slice none 0 0]) (t := 79) ?hr ?_; (case hd => rfl); (case hg => rfl); (case hr => first | (go_simp; done) | (go_simp; rfl)); intro gb258 hg w7 hbox hb; have n0_ := Ak (below_step (bw HB.out) hb); have n1_ := Ak (hbox); have n2_ := Ak ((by rw [hg]; exact (below_size (bw HB.out)) : w.heap.size ≤ gb258)); have n3_ := Ak ((by rw [hg]; exact (below_size (bw HB.out)) : w.heap.size ≤ gb258)); clear HB; have HB := n0_; have BK258 := n1_; have GW258 := n2_; have GE258 := n3_; clear n0_ n1_ n2_ n3_; clear hb hbox hg))
   have n0_ := Ak (blk_drew BK258.out)
   have n1_ := Ak (below_drew1 HB.out)
   clear BK258
   clear HB
   have BK258 := n0_
   have HB := n1_
   clear n0_ n1_
   have p261 : 0 ≤ (8 : Int) := (by omega)
   have q261 : 8 < (l0.length : Int) := of_decide_eq_true (by first | (with_reducible assumption) | assumption)
   obtain ⟨ad261, e261, hx261_0⟩ := Kd.at_int HR0.out 8 p261 q261
   have hw261_0 := hx261_0
   (try rw [show ((8 : Int)).toNat = 8 from rfl] at hw261_0)
   (try rw [show 8 * 1 = 8 from rfl] at hw261_0)
   (try simp only [Nat.reduceMul, Nat.reduceEqDiff, Go.Addr.add, ↓reduceIte] at hw261_0)
   cases e261
   (try simp only [show (8 : Int).toNat = 8 from rfl, Nat.reduceMul, Nat.reduceEqDiff, Go.Addr.add, ↓reduceIte] at hx261_0)
   have qi261 : (8 < l0.length) = True := eq_true (by omega)
   (try rw [show ((8 : Int)).toNat = 8 from rfl] at hx261_0)
   replace hx261_0 := (HB.out.cell (World.block_lt_of_cell? w _ hx261_0)).trans hx261_0
   replace p261 := eq_true p261
   replace q261 := eq_true q261
   refine start_ (n := 11) (S := fun w' => w'.cell? ⟨ad261.block, ad261.off + 8, none⟩ = some (.int .u8 (rd l0 8))) (ds := []) #[false, false, false, false, false, false, false, false, false, false, false] (by kernel_rfl) rfl rfl (((HB.out.cell (World.block_lt_of_cell? w _ hw261_0)).trans hw261_0)) (fun hHeld => ?_); refine with_tabW spec_l12Read.tab1 spec_l12Read.bits1 (fun HT_ HW_ => ?_)
   generalize w7.drew = w8 at BK258 HB hx261_0 hHeld ⊢
   refine pure_ (i := 0) (N := some 8) (v := ?_) (a' := ?_) #[true, false, false, false, false, false, false, false, false, false, false] rfl rfl (any_of HT_.out (by kernel_rfl)) (fun _ _ _ h => h) (Or.inl ⟨by rfl, ?_⟩) ?_ ?_
   rotate_left
   ·intro w'
    go_simp
    with_reducible rfl
   rotate_left
   ·simp only [Act.put, sT, sZ, sS, i64_w, i32_w]
    rfl
   refine pure_ (i := 2) (N := some 10) (v := ?_) (a' := ?_) #[true, false, true, false, false, false, false, false, false, false, false] rfl rfl (any_of HT_.out (by kernel_rfl)) (fun _ _ _ h => h) (Or.inl ⟨by rfl, ?_⟩) ?_ ?_
   rotate_left
   ·intro w'
    go_simp
    with_reducible rfl
   rotate_left
   ·simp only [Act.put, sT, sZ, sS, i64_w, i32_w]
    rfl
   refine pure_ (i := 4) (N := some 12) (v := ?_) (a' := ?_) #[true, false, true, false, true, false, false, false, false, false, false] rfl rfl (any_of HT_.out (by kernel_rfl)) (fun _ _ _ h => h) (Or.inl ⟨by rfl, ?_⟩) ?_ ?_
   rotate_left
   ·intro w'
    go_simp
    with_reducible rfl
   rotate_left
   ·simp only [Act.put, sT, sZ, sS, i64_w, i32_w]
    rfl
   refine pure_ (i := 5) (N := some 13) (v := ?_) (a' := ?_) #[true, false, true, false, true, true, false, false, false, false, false] rfl rfl (any_of HT_.out (by kernel_rfl)) (fun _ _ _ h => h) (Or.inl ⟨by rfl, ?_⟩) ?_ ?_
   rotate_left
   ·intro w'
    go_simp
    with_reducible rfl
   rotate_left
   ·simp only [Act.put, sT, sZ, sS, i64_w, i32_w]
    rfl
   refine take_ (i := 6) (N := some 14) (v := ?_) (a' := ?_) #[true, false, true, false, true, true, true, false, false, false, false] rfl rfl (take_ofW HT_.out HW_.out (by kernel_rfl)) (fun _ _ _ h => h) (Or.inl ⟨by rfl, ?_⟩) hHeld ?_ ?_
   rotate_left
   ·intro w' s0
    go_simp
    with_reducible rfl
   rotate_left
   ·simp only [Act.put, sT, sZ, sS, i64_w, i32_w]
    rfl
   refine pure_ (i := 7) (N := some 15) (v := ?_) (a' := ?_) #[true, false, true, false, true, true, true, true, false, false, false] rfl rfl (any_of HT_.out (by kernel_rfl)) (fun _ _ _ h => h) (Or.inl ⟨by rfl, ?_⟩) ?_ ?_
   rotate_left
   ·intro w'
    go_simp
    with_reducible rfl
   rotate_left
   ·simp only [Act.put, sT, sZ, sS, i64_w, i32_w]
    rfl
   refine join_ (σ := Nat) 1 #[true, true, true, true, true, true, true, true, true, true, false] (fun s_ => [(9, .int .i64 t259), (11, .int .i64 t260), (4, .pointer (some ⟨s_, 0, none⟩)), (16, .agg #[.int .i64 t259, .int .i64 t260, .bool ((rd l0 8) == 1), .slice none 0 0])]) (fun s_ w' => (w'.cell? ⟨ad261.block, ad261.off + 8, none⟩ = some (.int .u8 (rd l0 8))) ∧ (w'.heap[gb258]? = some (.cells #[.int .i64 0, .int .i64 0, .bool false, .slice none 0 0] 79 (0, 0))) ∧ (w'.heap[s_]? = some (.cells #[.int .i64 0, .int .i64 0, .bool false, .slice none 0 0] 79 (0, 0))) ∧ (w.heap.size ≤ s_) ∧ (w.heap.size ≤ s_) ∧ (gb258 ≠ s_) ∧ (s_ ≠ gb258) ∧ (Below w.heap.size w w')) ?_ ?_
   rotate_left
   ·intro hCont
    refine two_ (i := 1) (j := 9) (Ni := some 9) (Nj := some 4) #[true, true, true, false, true, true, true, true, false, false, false] #[true, false, true, false, true, true, true, true, false, true, false] rfl rfl rfl rfl (two_of HT_.out (by kernel_rfl)) (by decide) (by decide) (fun K hK => ?_) (fun K hK => ?_)
    ·skip
     refine goes_ Try.func105 (by kernel_rfl) rfl #[.slice (some ad261) l0.length c0, .int .i64 0] (by rfl) rfl rfl gm ?_
     with_reducible refine (spec_l12Get.calls _ _ l0 0 t259 _ ?side1 ?side2 A2.out).mono ?_
     (case side1 => repeat (first | exact (Kd.C_below HR0.out HB.out) | (with_reducible refine Kd.C_alloc ?_ _) | (with_reducible refine Kd.C_drewN ?_ _) | (with_reducible refine Kd.C_drew ?_)))
     (case side2 => exact HC0.out)
     rintro e w' ⟨rfl, ⟨nd, rfl⟩⟩
     refine ⟨_, rfl, ?_⟩
     refine hK.out _ _ (((HB.out.cell (World.block_lt_of_cell? w _ hw261_0)).trans hw261_0)) (fun hHeld => ?_)
     clear hK K
     refine norm_ (a' := ?_) ?_ ?_
     rotate_left
     ·show Act.put _ (some 9) _ = _
      simp only [Act.put, sT, sZ, sS, i64_w, i32_w]
      rfl
     refine two_ (i := 3) (j := 9) (Ni := some 11) (Nj := some 4) #[true, true, true, true, true, true, true, true, false, false, false] #[true, true, true, false, true, true, true, true, false, true, false] rfl rfl rfl rfl (two_of HT_.out (by kernel_rfl)) (by decide) (by decide) (fun K hK => ?_) (fun K hK => ?_)
     ·skip
      refine goes_ Try.func105 (by kernel_rfl) rfl #[.slice (some ad261) l0.length c0, .int .i64 4] (by rfl) rfl rfl gm ?_
      with_reducible refine (spec_l12Get.calls _ _ l0 4 t260 _ ?side1 ?side2 A3.out).mono ?_
      (case side1 => repeat (first | exact (Kd.C_below HR0.out (bw1 HB.out GE258.out)) | (with_reducible refine Kd.C_alloc ?_ _) | (with_reducible refine Kd.C_drewN ?_ _) | (with_reducible refine Kd.C_drew ?_)))
      (case side2 => exact HC0.out)
      rintro e w' ⟨rfl, ⟨nd, rfl⟩⟩
      refine ⟨_, rfl, ?_⟩
      refine hK.out _ _ (((HB.out.cell (World.block_lt_of_cell? w _ hw261_0)).trans hw261_0)) (fun hHeld => ?_)
      clear hK K
      refine norm_ (a' := ?_) ?_ ?_
      rotate_left
      ·show Act.put _ (some 11) _ = _
       simp only [Act.put, sT, sZ, sS, i64_w, i32_w]
       rfl
      refine pure_ (i := 8) (N := some 16) (v := ?_) (a' := ?_) #[true, true, true, true, true, true, true, true, true, false, false] rfl rfl (any_of HT_.out (by kernel_rfl)) (fun _ _ _ h => h) (Or.inl ⟨by rfl, ?_⟩) ?_ ?_
      rotate_left
      ·intro w'
       go_simp
       with_reducible rfl
      rotate_left
      ·simp only [Act.put, sT, sZ, sS, i64_w, i32_w]
       rfl
      refine one_ (i := 9) (N := some 4) #[true, true, true, true, true, true, true, true, true, true, false] rfl rfl (one_of HT_.out (by kernel_rfl)) (by decide) (fun K hK => ?_)
      refine box_step ?hg (N := 4) ?hd (cs := #[.int .i64 0, .int .i64 0, .bool false, .slice none 0 0]) (t := 79) ?hr ?_; (case hd => rfl); (case hg => rfl); (case hr => first | (go_simp; done) | (go_simp; rfl))
      intro gb262 hg w9 hbox hb
      have n0_ := Ak (blk_below (g := gb258) (o := .cells #[.int .i64 0, .int .i64 0, .bool false, .slice none 0 0] 79 (0, 0)) (bq BK258.out) hb)
      have n1_ := Ak (below_step (bw1 HB.out GE258.out) hb)
      have n2_ := Ak (hbox)
      have n3_ := Ak ((by rw [hg]; exact (below_size (bw1 HB.out GE258.out)) : w.heap.size ≤ gb262))
      have n4_ := Ak ((by rw [hg]; exact (below_size (bw1 HB.out GE258.out)) : w.heap.size ≤ gb262))
      have n5_ := Ak ((by rw [hg]; exact Nat.ne_of_lt (blk_lt (g := gb258) (o := .cells #[.int .i64 0, .int .i64 0, .bool false, .slice none 0 0] 79 (0, 0)) (bq BK258.out)) : gb258 ≠ gb262))
      have n6_ := Ak ((by rw [hg]; exact Nat.ne_of_gt (blk_lt (g := gb258) (o := .cells #[.int .i64 0, .int .i64 0, .bool false, .slice none 0 0] 79 (0, 0)) (bq BK258.out)) : gb262 ≠ gb258))
      clear BK258
      clear HB
      have BK258 := n0_
      have HB := n1_
      have BK262 := n2_
      have GW262 := n3_
      have GE262 := n4_
      have NB258_262 := n5_
      have NB262_258 := n6_
      clear n0_ n1_ n2_ n3_ n4_ n5_ n6_
      clear hb hbox hg
      refine hK.out _ _ (((HB.out.cell (World.block_lt_of_cell? w _ hw261_0)).trans hw261_0)) (fun hHeld => ?_)
      clear hK K
      refine norm_ (a' := ?_) ?_ ?_
      rotate_left
      ·show Act.put _ (some 4) _ = _
       simp only [Act.put, sT, sZ, sS, i64_w, i32_w]
       rfl
      exact norm_ (by simp only [putAll, Act.put, sT, sZ, sS]) (hCont (gb262) _ ⟨hHeld, (bq BK258.out), (bq BK262.out), GW262.out, GE262.out, NB258_262.out, NB262_258.out, (bw2 HB.out GE258.out GE262.out)⟩)
     ·skip
      refine box_step ?hg (N := 4) ?hd (cs := #[.int .i64 0, .int .i64 0, .bool false, .slice none 0 0]) (t := 79) ?hr ?_; (case hd => rfl); (case hg => rfl); (case hr => first | (go_simp; done) | (go_simp; rfl))
      intro gb262 hg w9 hbox hb
      have n0_ := Ak (blk_below (g := gb258) (o := .cells #[.int .i64 0, .int .i64 0, .bool false, .slice none 0 0] 79 (0, 0)) (bq BK258.out) hb)
      have n1_ := Ak (below_step (bw1 HB.out GE258.out) hb)
      have n2_ := Ak (hbox)
      have n3_ := Ak ((by rw [hg]; exact (below_size (bw1 HB.out GE258.out)) : w.heap.size ≤ gb262))
      have n4_ := Ak ((by rw [hg]; exact (below_size (bw1 HB.out GE258.out)) : w.heap.size ≤ gb262))
      have n5_ := Ak ((by rw [hg]; exact Nat.ne_of_lt (blk_lt (g := gb258) (o := .cells #[.int .i64 0, .int .i64 0, .bool false, .slice none 0 0] 79 (0, 0)) (bq BK258.out)) : gb258 ≠ gb262))
      have n6_ := Ak ((by rw [hg]; exact Nat.ne_of_gt (blk_lt (g := gb258) (o := .cells #[.int .i64 0, .int .i64 0, .bool false, .slice none 0 0] 79 (0, 0)) (bq BK258.out)) : gb262 ≠ gb258))
      clear BK258
      clear HB
      have BK258 := n0_
      have HB := n1_
      have BK262 := n2_
      have GW262 := n3_
      have GE262 := n4_
      have NB258_262 := n5_
      have NB262_258 := n6_
      clear n0_ n1_ n2_ n3_ n4_ n5_ n6_
      clear hb hbox hg
      refine hK.out _ _ (((HB.out.cell (World.block_lt_of_cell? w _ hw261_0)).trans hw261_0)) (fun hHeld => ?_)
      clear hK K
      refine norm_ (a' := ?_) ?_ ?_
      rotate_left
      ·show Act.put _ (some 4) _ = _
       simp only [Act.put, sT, sZ, sS, i64_w, i32_w]
       rfl
      refine one_ (i := 3) (N := some 11) #[true, true, true, true, true, true, true, true, false, true, false] rfl rfl (one_of HT_.out (by kernel_rfl)) (by decide) (fun K hK => ?_)
      refine goes_ Try.func105 (by kernel_rfl) rfl #[.slice (some ad261) l0.length c0, .int .i64 4] (by rfl) rfl rfl gm ?_
      with_reducible refine (spec_l12Get.calls _ _ l0 4 t260 _ ?side1 ?side2 A3.out).mono ?_
      (case side1 => repeat (first | exact (Kd.C_below HR0.out HB.out) | (with_reducible refine Kd.C_alloc ?_ _) | (with_reducible refine Kd.C_drewN ?_ _) | (with_reducible refine Kd.C_drew ?_)))
      (case side2 => exact HC0.out)
      rintro e w' ⟨rfl, ⟨nd, rfl⟩⟩
      refine ⟨_, rfl, ?_⟩
      refine hK.out _ _ (((HB.out.cell (World.block_lt_of_cell? w _ hw261_0)).trans hw261_0)) (fun hHeld => ?_)
      clear hK K
      refine norm_ (a' := ?_) ?_ ?_
      rotate_left
      ·show Act.put _ (some 11) _ = _
       simp only [Act.put, sT, sZ, sS, i64_w, i32_w]
       rfl
      refine pure_ (i := 8) (N := some 16) (v := ?_) (a' := ?_) #[true, true, true, true, true, true, true, true, true, true, false] rfl rfl (any_of HT_.out (by kernel_rfl)) (fun _ _ _ h => h) (Or.inl ⟨by rfl, ?_⟩) ?_ ?_
      rotate_left
      ·intro w'
       go_simp
       with_reducible rfl
      rotate_left
      ·simp only [Act.put, sT, sZ, sS, i64_w, i32_w]
       rfl
      exact norm_ (by simp only [putAll, Act.put, sT, sZ, sS]) (hCont (gb262) _ ⟨hHeld, (bq BK258.out), (bq BK262.out), GW262.out, GE262.out, NB258_262.out, NB262_258.out, (bw2 HB.out GE258.out GE262.out)⟩)
    ·skip
     refine box_step ?hg (N := 4) ?hd (cs := #[.int .i64 0, .int .i64 0, .bool false, .slice none 0 0]) (t := 79) ?hr ?_; (case hd => rfl); (case hg => rfl); (case hr => first | (go_simp; done) | (go_simp; rfl))
     intro gb262 hg w9 hbox hb
     have n0_ := Ak (blk_below (g := gb258) (o := .cells #[.int .i64 0, .int .i64 0, .bool false, .slice none 0 0] 79 (0, 0)) (bq BK258.out) hb)
     have n1_ := Ak (below_step (bw1 HB.out GE258.out) hb)
     have n2_ := Ak (hbox)
     have n3_ := Ak ((by rw [hg]; exact (below_size (bw1 HB.out GE258.out)) : w.heap.size ≤ gb262))
     have n4_ := Ak ((by rw [hg]; exact (below_size (bw1 HB.out GE258.out)) : w.heap.size ≤ gb262))
     have n5_ := Ak ((by rw [hg]; exact Nat.ne_of_lt (blk_lt (g := gb258) (o := .cells #[.int .i64 0, .int .i64 0, .bool false, .slice none 0 0] 79 (0, 0)) (bq BK258.out)) : gb258 ≠ gb262))
     have n6_ := Ak ((by rw [hg]; exact Nat.ne_of_gt (blk_lt (g := gb258) (o := .cells #[.int .i64 0, .int .i64 0, .bool false, .slice none 0 0] 79 (0, 0)) (bq BK258.out)) : gb262 ≠ gb258))
     clear BK258
     clear HB
     have BK258 := n0_
     have HB := n1_
     have BK262 := n2_
     have GW262 := n3_
     have GE262 := n4_
     have NB258_262 := n5_
     have NB262_258 := n6_
     clear n0_ n1_ n2_ n3_ n4_ n5_ n6_
     clear hb hbox hg
     refine hK.out _ _ (((HB.out.cell (World.block_lt_of_cell? w _ hw261_0)).trans hw261_0)) (fun hHeld => ?_)
     clear hK K
     refine norm_ (a' := ?_) ?_ ?_
     rotate_left
     ·show Act.put _ (some 4) _ = _
      simp only [Act.put, sT, sZ, sS, i64_w, i32_w]
      rfl
     refine one_ (i := 1) (N := some 9) #[true, true, true, false, true, true, true, true, false, true, false] rfl rfl (one_of HT_.out (by kernel_rfl)) (by decide) (fun K hK => ?_)
     refine goes_ Try.func105 (by kernel_rfl) rfl #[.slice (some ad261) l0.length c0, .int .i64 0] (by rfl) rfl rfl gm ?_
     with_reducible refine (spec_l12Get.calls _ _ l0 0 t259 _ ?side1 ?side2 A2.out).mono ?_
     (case side1 => repeat (first | exact (Kd.C_below HR0.out HB.out) | (with_reducible refine Kd.C_alloc ?_ _) | (with_reducible refine Kd.C_drewN ?_ _) | (with_reducible refine Kd.C_drew ?_)))
     (case side2 => exact HC0.out)
     rintro e w' ⟨rfl, ⟨nd, rfl⟩⟩
     refine ⟨_, rfl, ?_⟩
     refine hK.out _ _ (((HB.out.cell (World.block_lt_of_cell? w _ hw261_0)).trans hw261_0)) (fun hHeld => ?_)
     clear hK K
     refine norm_ (a' := ?_) ?_ ?_
     rotate_left
     ·show Act.put _ (some 9) _ = _
      simp only [Act.put, sT, sZ, sS, i64_w, i32_w]
      rfl
     refine one_ (i := 3) (N := some 11) #[true, true, true, true, true, true, true, true, false, true, false] rfl rfl (one_of HT_.out (by kernel_rfl)) (by decide) (fun K hK => ?_)
     refine goes_ Try.func105 (by kernel_rfl) rfl #[.slice (some ad261) l0.length c0, .int .i64 4] (by rfl) rfl rfl gm ?_
     with_reducible refine (spec_l12Get.calls _ _ l0 4 t260 _ ?side1 ?side2 A3.out).mono ?_
     (case side1 => repeat (first | exact (Kd.C_below HR0.out (bw2 HB.out GE258.out GE262.out)) | (with_reducible refine Kd.C_alloc ?_ _) | (with_reducible refine Kd.C_drewN ?_ _) | (with_reducible refine Kd.C_drew ?_)))
     (case side2 => exact HC0.out)
     rintro e w' ⟨rfl, ⟨nd, rfl⟩⟩
     refine ⟨_, rfl, ?_⟩
     refine hK.out _ _ (((HB.out.cell (World.block_lt_of_cell? w _ hw261_0)).trans hw261_0)) (fun hHeld => ?_)
     clear hK K
     refine norm_ (a' := ?_) ?_ ?_
     rotate_left
     ·show Act.put _ (some 11) _ = _
      simp only [Act.put, sT, sZ, sS, i64_w, i32_w]
      rfl
     refine pure_ (i := 8) (N := some 16) (v := ?_) (a' := ?_) #[true, true, true, true, true, true, true, true, true, true, false] rfl rfl (any_of HT_.out (by kernel_rfl)) (fun _ _ _ h => h) (Or.inl ⟨by rfl, ?_⟩) ?_ ?_
     rotate_left
     ·intro w'
      go_simp
      with_reducible rfl
     rotate_left
     ·simp only [Act.put, sT, sZ, sS, i64_w, i32_w]
      rfl
     exact norm_ (by simp only [putAll, Act.put, sT, sZ, sS]) (hCont (gb262) _ ⟨hHeld, (bq BK258.out), (bq BK262.out), GW262.out, GE262.out, NB258_262.out, NB262_258.out, (bw2 HB.out GE258.out GE262.out)⟩)
   rintro gb262 w10 ⟨hS_, h0_, h1_, h2_, h3_, h4_, h5_, h6_⟩
   have n0_ : Aside0 (w10.heap[gb258]? = some (.cells #[.int .i64 0, .int .i64 0, .bool false, .slice none 0 0] 79 (0, 0))) := ⟨h0_⟩
   have n1_ : Aside0 (w10.heap[gb262]? = some (.cells #[.int .i64 0, .int .i64 0, .bool false, .slice none 0 0] 79 (0, 0))) := ⟨h1_⟩
   have n2_ : Aside0 (w.heap.size ≤ gb262) := ⟨h2_⟩
   have n3_ : Aside0 (w.heap.size ≤ gb262) := ⟨h3_⟩
   have n4_ : Aside0 (gb258 ≠ gb262) := ⟨h4_⟩
   have n5_ : Aside0 (gb262 ≠ gb258) := ⟨h5_⟩
   have n6_ : Aside0 (Below w.heap.size w w10) := ⟨h6_⟩
   clear BK258
   clear HB
   clear h0_ h1_ h2_ h3_ h4_ h5_ h6_
   have BK258 := n0_
   have BK262 := n1_
   have GW262 := n2_
   have GE262 := n3_
   have NB258_262 := n4_
   have NB262_258 := n5_
   have HB := n6_
   clear n0_ n1_ n2_ n3_ n4_ n5_ n6_
   have hHeld : w10.cell? ⟨ad261.block, ad261.off + 8, none⟩ = some (.int .u8 (rd l0 8)) := hS_
   refine norm_ (a' := ?_) ?_ ?_
   rotate_left
   ·simp only [putAll, Act.put, sT, sZ, sS]
    rfl
   refine one_ (i := 10) (N := none) #[true, true, true, true, true, true, true, true, true, true, true] rfl rfl (one_of HT_.out (by kernel_rfl)) (by decide) (fun K hK => ?_)
   have hs11 : w10.cell? ⟨gb262, 0, none⟩ = some (.int .i64 0) := (blk_cell BK262.out 0).trans rfl
   have hfs11 := blk_frozen BK262.out 0
   have hns11_0 := NB258_262.out
   have hms11_0 := NB262_258.out
   have hs12 : w10.cell? ⟨gb262, 1, none⟩ = some (.int .i64 0) := (blk_cell BK262.out 1).trans rfl
   have hfs12 := blk_frozen BK262.out 1
   have hns12_0 := NB258_262.out
   have hms12_0 := NB262_258.out
   have hs13 : w10.cell? ⟨gb262, 2, none⟩ = some (.bool false) := (blk_cell BK262.out 2).trans rfl
   have hfs13 := blk_frozen BK262.out 2
   have hns13_0 := NB258_262.out
   have hms13_0 := NB262_258.out
   have hs14 : w10.cell? ⟨gb262, 3, none⟩ = some (.slice none 0 0) := (blk_cell BK262.out 3).trans rfl
   have hfs14 := blk_frozen BK262.out 3
   have hns14_0 := NB258_262.out
   have hms14_0 := NB262_258.out
   refine skip_ (w1 := ?_) (by rfl) rfl ?_ ?_
   rotate_left
   ·go_simp
    rfl
   refine hK.out _ _ (((cell_far (p := ⟨gb262, _, none⟩) (by first | exact Nat.ne_of_lt (Nat.lt_of_lt_of_le (by have := World.block_lt_of_cell? _ _ hw261_0; first | rwa [add_block] at this | exact this) GW262.out) | (rw [add_block]; exact Nat.ne_of_lt (Nat.lt_of_lt_of_le (by have := World.block_lt_of_cell? _ _ hw261_0; first | rwa [add_block] at this | exact this) GW262.out)) | (show (Addr.add _ _).block ≠ _; rw [add_block]; exact Nat.ne_of_lt (Nat.lt_of_lt_of_le (by have := World.block_lt_of_cell? _ _ hw261_0; first | rwa [add_block] at this | exact this) GW262.out)) | (dsimp only; exact Nat.ne_of_lt (Nat.lt_of_lt_of_le (by have := World.block_lt_of_cell? _ _ hw261_0; first | rwa [add_block] at this | exact this) GW262.out))) _).trans (((cell_far (p := ⟨gb262, _, none⟩) (by first | exact Nat.ne_of_lt (Nat.lt_of_lt_of_le (by have := World.block_lt_of_cell? _ _ hw261_0; first | rwa [add_block] at this | exact this) GW262.out) | (rw [add_block]; exact Nat.ne_of_lt (Nat.lt_of_lt_of_le (by have := World.block_lt_of_cell? _ _ hw261_0; first | rwa [add_block] at this | exact this) GW262.out)) | (show (Addr.add _ _).block ≠ _; rw [add_block]; exact Nat.ne_of_lt (Nat.lt_of_lt_of_le (by have := World.block_lt_of_cell? _ _ hw261_0; first | rwa [add_block] at this | exact this) GW262.out)) | (dsimp only; exact Nat.ne_of_lt (Nat.lt_of_lt_of_le (by have := World.block_lt_of_cell? _ _ hw261_0; first | rwa [add_block] at this | exact this) GW262.out))) _).trans (((cell_far (p := ⟨gb262, _, none⟩) (by first | exact Nat.ne_of_lt (Nat.lt_of_lt_of_le (by have := World.block_lt_of_cell? _ _ hw261_0; first | rwa [add_block] at this | exact this) GW262.out) | (rw [add_block]; exact Nat.ne_of_lt (Nat.lt_of_lt_of_le (by have := World.block_lt_of_cell? _ _ hw261_0; first | rwa [add_block] at this | exact this) GW262.out)) | (show (Addr.add _ _).block ≠ _; rw [add_block]; exact Nat.ne_of_lt (Nat.lt_of_lt_of_le (by have := World.block_lt_of_cell? _ _ hw261_0; first | rwa [add_block] at this | exact this) GW262.out)) | (dsimp only; exact Nat.ne_of_lt (Nat.lt_of_lt_of_le (by have := World.block_lt_of_cell? _ _ hw261_0; first | rwa [add_block] at this | exact this) GW262.out))) _).trans (((cell_far (p := ⟨gb262, _, none⟩) (by first | exact Nat.ne_of_lt (Nat.lt_of_lt_of_le (by have := World.block_lt_of_cell? _ _ hw261_0; first | rwa [add_block] at this | exact this) GW262.out) | (rw [add_block]; exact Nat.ne_of_lt (Nat.lt_of_lt_of_le (by have := World.block_lt_of_cell? _ _ hw261_0; first | rwa [add_block] at this | exact this) GW262.out)) | (show (Addr.add _ _).block ≠ _; rw [add_block]; exact Nat.ne_of_lt (Nat.lt_of_lt_of_le (by have := World.block_lt_of_cell? _ _ hw261_0; first | rwa [add_block] at this | exact this) GW262.out)) | (dsimp only; exact Nat.ne_of_lt (Nat.lt_of_lt_of_le (by have := World.block_lt_of_cell? _ _ hw261_0; first | rwa [add_block] at this | exact this) GW262.out))) _).trans (hHeld))))))))) (fun hHeld => ?_)
   clear hK K
   refine done_ (done_of HT_.out (by kernel_rfl)) ?_
   have p263 : 0 ≤ (9 : Int) := (by omega)
   have q263 : 9 < (l0.length : Int) := of_decide_eq_true (by first | (with_reducible assumption) | assumption)
   obtain ⟨ad263, e263, hx263_0⟩ := Kd.at_int HR0.out 9 p263 q263
   obtain rfl : ad261 = ad263 := (by injection e263)
   (try simp only [show (9 : Int).toNat = 9 from rfl, Nat.reduceMul, Nat.reduceEqDiff, Go.Addr.add, ↓reduceIte] at hx263_0)
   have qi263 : (9 < l0.length) = True := eq_true (by omega)
   (try rw [show ((9 : Int)).toNat = 9 from rfl] at hx263_0)
   have hn263_0 : ad261.block ≠ gb262 := Nat.ne_of_lt (Nat.lt_of_lt_of_le (by have := World.block_lt_of_cell? _ _ hx263_0; first | rwa [add_block] at this | exact this) GW262.out)
   have hn263_1 : ad261.block ≠ gb262 := Nat.ne_of_lt (Nat.lt_of_lt_of_le (by have := World.block_lt_of_cell? _ _ hx263_0; first | rwa [add_block] at this | exact this) GW262.out)
   have hn263_2 : ad261.block ≠ gb262 := Nat.ne_of_lt (Nat.lt_of_lt_of_le (by have := World.block_lt_of_cell? _ _ hx263_0; first | rwa [add_block] at this | exact this) GW262.out)
   have hn263_3 : ad261.block ≠ gb262 := Nat.ne_of_lt (Nat.lt_of_lt_of_le (by have := World.block_lt_of_cell? _ _ hx263_0; first | rwa [add_block] at this | exact this) GW262.out)
   replace hx263_0 := (HB.out.cell (World.block_lt_of_cell? w _ hx263_0)).trans hx263_0
   replace hx263_0 := (cell_far (p := ⟨gb262, 0, none⟩) (by first | (rw [add_block]; exact hn263_0) | (show (Addr.add _ _).block ≠ _; rw [add_block]; exact hn263_0) | exact hn263_0) (.int .i64 t259)).trans hx263_0
   replace hx263_0 := (cell_far (p := ⟨gb262, 1, none⟩) (by first | (rw [add_block]; exact hn263_1) | (show (Addr.add _ _).block ≠ _; rw [add_block]; exact hn263_1) | exact hn263_1) (.int .i64 t260)).trans hx263_0
   replace hx263_0 := (cell_far (p := ⟨gb262, 2, none⟩) (by first | (rw [add_block]; exact hn263_2) | (show (Addr.add _ _).block ≠ _; rw [add_block]; exact hn263_2) | exact hn263_2) (.bool ((rd l0 8) == 1))).trans hx263_0
   replace hx263_0 := (cell_far (p := ⟨gb262, 3, none⟩) (by first | (rw [add_block]; exact hn263_3) | (show (Addr.add _ _).block ≠ _; rw [add_block]; exact hn263_3) | exact hn263_3) (.slice none 0 0)).trans hx263_0
   clear hn263_0
   clear hn263_1
   clear hn263_2
   clear hn263_3
   replace p263 := eq_true p263
   replace q263 := eq_true q263
   go_upto_region 3 with (fail)
   go_cut [44] (fun v44 wc => ∃ (kq : Nat) (x44_5 : Bool), v44 = .bool x44_5 ∧ Aside0 (spec_l12Read.j0 kq l0 (wrap64 (rd l0 9)) x44_5 t259 t260 ((rd l0 8) == 1) = some (r1, r2, r3, r4, r5)) ∧ Aside0 (kq ≤ k) ∧ Aside0 (wc.heap[gb258]? = some (.cells #[.int .i64 0, .int .i64 0, .bool false, (.slice none 0 0)] 79 (0, 0))) ∧ Aside0 (wc.heap[gb262]? = some (.cells #[.int .i64 t259, .int .i64 t260, .bool ((rd l0 8) == 1), (.slice none 0 0)] 79 (0, 0))) ∧ Aside0 (Below w.heap.size w wc))
   case first =>
    have H := HC6.out
    clear HC6
    replace H := Option.bind_eq_some_iff.mp H
    obtain ⟨t264, A150, H⟩ := H
    replace H : (if t264 = true then ((spec_l1In.f (wrap64 (rd l0 8)) 1 2).bind fun t266 => (if t266 = true then (if (wrap64 (rd l0 9)) > 44 then (spec_l12Read.j0 k l0 (wrap64 (rd l0 9)) true t259 t260 ((rd l0 8) == 1)) else (if (rd l0 8) = 1 then (spec_l12Read.j0 k l0 (wrap64 (rd l0 9)) ((wrap64 (rd l0 9)) != 44) t259 t260 ((rd l0 8) == 1)) else (spec_l12Read.j0 k l0 (wrap64 (rd l0 9)) false t259 t260 ((rd l0 8) == 1)))) else (spec_l12Read.j0 k l0 (wrap64 (rd l0 9)) true t259 t260 ((rd l0 8) == 1)))) else (spec_l12Read.j0 k l0 (wrap64 (rd l0 9)) true t259 t260 ((rd l0 8) == 1))) = some (r1, r2, r3, r4, r5) := H
    have A15 := Ak A150
    clear A150
    by_cases c16 : t264 = true
    ·subst c16
     have H1 : ((spec_l1In.f (wrap64 (rd l0 8)) 1 2).bind fun t266 => (if t266 = true then (if (wrap64 (rd l0 9)) > 44 then (spec_l12Read.j0 k l0 (wrap64 (rd l0 9)) true t259 t260 ((rd l0 8) == 1)) else (if (rd l0 8) = 1 then (spec_l12Read.j0 k l0 (wrap64 (rd l0 9)) ((wrap64 (rd l0 9)) != 44) t259 t260 ((rd l0 8) == 1)) else (spec_l12Read.j0 k l0 (wrap64 (rd l0 9)) false t259 t260 ((rd l0 8) == 1)))) else (spec_l12Read.j0 k l0 (wrap64 (rd l0 9)) true t259 t260 ((rd l0 8) == 1)))) = some (r1, r2, r3, r4, r5) := by rw [if_pos rfl] at H; exact H
     clear H
     have H := H1
     clear H1
     replace H := Option.bind_eq_some_iff.mp H
     obtain ⟨t266, A170, H⟩ := H
     replace H : (if t266 = true then (if (wrap64 (rd l0 9)) > 44 then (spec_l12Read.j0 k l0 (wrap64 (rd l0 9)) true t259 t260 ((rd l0 8) == 1)) else (if (rd l0 8) = 1 then (spec_l12Read.j0 k l0 (wrap64 (rd l0 9)) ((wrap64 (rd l0 9)) != 44) t259 t260 ((rd l0 8) == 1)) else (spec_l12Read.j0 k l0 (wrap64 (rd l0 9)) false t259 t260 ((rd l0 8) == 1)))) else (spec_l12Read.j0 k l0 (wrap64 (rd l0 9)) true t259 t260 ((rd l0 8) == 1))) = some (r1, r2, r3, r4, r5) := H
     have A17 := Ak A170
     clear A170
     by_cases c18 : t266 = true
     ·subst c18
      have H1 : (if (wrap64 (rd l0 9)) > 44 then (spec_l12Read.j0 k l0 (wrap64 (rd l0 9)) true t259 t260 ((rd l0 8) == 1)) else (if (rd l0 8) = 1 then (spec_l12Read.j0 k l0 (wrap64 (rd l0 9)) ((wrap64 (rd l0 9)) != 44) t259 t260 ((rd l0 8) == 1)) else (spec_l12Read.j0 k l0 (wrap64 (rd l0 9)) false t259 t260 ((rd l0 8) == 1)))) = some (r1, r2, r3, r4, r5) := by rw [if_pos rfl] at H; exact H
      clear H
      have H := H1
      clear H1
      by_cases c19 : (wrap64 (rd l0 9)) > 44
      ·rw [if_pos c19] at H
       have c19b0 : decide (44 < (wrap64 (rd l0 9))) = true := decide_eq_true c19
       clear c19
       (first | rw [c19b0] | (simp only [i64_w, i32_w]; rw [c19b0]) | skip)
       have H' := Ak H
       clear H
       have hnb20 := NB262_258.out
       have hnc20 := NB258_262.out
       have hcz21_0 : w10.cell? ⟨gb262, 0, none⟩ = some (.int .i64 0) := (blk_cell BK262.out 0).trans rfl
       have hcz21_1 : w10.cell? ⟨gb262, 1, none⟩ = some (.int .i64 0) := (blk_cell BK262.out 1).trans rfl
       have hcz21_2 : w10.cell? ⟨gb262, 2, none⟩ = some (.bool false) := (blk_cell BK262.out 2).trans rfl
       have hcz21_3 : w10.cell? ⟨gb262, 3, none⟩ = some (.slice none 0 0) := (blk_cell BK262.out 3).trans rfl
       have hfz21_0 := blk_frozen BK262.out 0
       have hfz21_1 := blk_frozen BK262.out 1
       have hfz21_2 := blk_frozen BK262.out 2
       have hfz21_3 := blk_frozen BK262.out 3
       go_wp2_with (first | ((with_reducible refine gate_callee (f := 97) rfl ?_); refine goesL_ (some 23) rfl rfl Try.func97 (by kernel_rfl) rfl #[.int .i64 t259, .int .i64 1, .int .i64 1000000] rfl gm ?_; (with_reducible refine (spec_l1In.calls t259 1 1000000 true _ A15.out).mono ?_); rintro e w' ⟨rfl, ⟨nd, rfl⟩⟩; refine ⟨_, rfl, ?_⟩; have p265 : 0 ≤ (8 : Int) := (by omega); have q265 : 8 < (l0.length : Int) := of_decide_eq_true (by first | (with_reducible assumption) | assumption); obtain ⟨ad265, e265, hx265_0⟩ := Kd.at_int HR0.out 8 p265 q265; obtain rfl : ad261 = ad265 := (by injection e265); (try simp only [show (8 : Int).toNat = 8 from rfl, Nat.reduceMul, Nat.reduceEqDiff, Go.Addr.add, ↓reduceIte] at hx265_0); have qi265 : (8 < l0.length) = True := eq_true (by omega); (try rw [show ((8 : Int)).toNat = 8 from rfl] at hx265_0); have hn265_0 : ad261.block ≠ gb262 := Nat.ne_of_lt (Nat.lt_of_lt_of_le (by have := World.block_lt_of_cell? _ _ hx265_0; first | rwa [add_block] at this | exact this) GW262.out); have hn265_1 : ad261.block ≠ gb262 := Nat.ne_of_lt (Nat.lt_of_lt_of_le (by have := World.block_lt_of_cell? _ _ hx265_0; first | rwa [add_block] at this | exact this) GW262.out); have hn265_2 : ad261.block ≠ gb262 := Nat.ne_of_lt (Nat.lt_of_lt_of_le (by have := World.block_lt_of_cell? _ _ hx265_0; first | rwa [add_block] at this | exact this) GW262.out); have hn265_3 : ad261.block ≠ gb262 := Nat.ne_of_lt (Nat.lt_of_lt_of_le (by have := World.block_lt_of_cell? _ _ hx265_0; first | rwa [add_block] at this | exact this) GW262.out); replace hx265_0 := (HB.out.cell (World.block_lt_of_cell? w _ hx265_0)).trans hx265_0; replace hx265_0 := (cell_far (p := ⟨gb262, 0, none⟩) (by first | (rw [add_block]; exact hn265_0) | (show (Addr.add _ _).block ≠ _; rw [add_block]; exact hn265_0) | exact hn265_0) (.int .i64 t259)).trans hx265_0; replace hx265_0 := (cell_far (p := ⟨gb262, 1, none⟩) (by first | (rw [add_block]; exact hn265_1) | (show (Addr.add _ _).block ≠ _; rw [add_block]; exact hn265_1) | exact hn265_1) (.int .i64 t260)).trans hx265_0; replace hx265_0 := (cell_far (p := ⟨gb262, 2, none⟩) (by first | (rw [add_block]; exact hn265_2) | (show (Addr.add _ _).block ≠ _; rw [add_block]; exact hn265_2) | exact hn265_2) (.bool ((rd l0 8) == 1))).trans hx265_0; replace hx265_0 := (cell_far (p := ⟨gb262, 3, none⟩) (by first | (rw [add_block]; exact hn265_3) | (show (Addr.add _ _).block ≠ _; rw [add_block]; exact hn265_3) | exact hn265_3) (.slice none 0 0)).trans hx265_0; clear hn265_0; clear hn265_1; clear hn265_2; clear hn265_3; replace p265 := eq_true p265; replace q265 := eq_true q265) | (go_at_call 97; (with_reducible refine (spec_l1In.calls (wrap64 (rd l0 8)) 1 2 true _ A17.out).mono ?_); rintro e w' ⟨rfl, ⟨nd, rfl⟩⟩))
       go_meet
       case rel => exact ⟨_, (true), (by first | rfl | (simp; done) | (simp [*]; done)), H', ⟨by first | omega | exact Nat.le_refl _⟩, ⟨by (with_reducible repeat (first | refine blk_drewN ?_ _ | refine blk_drew ?_ | refine blk_alloc ?_ _)); refine blk_far ?_ NB258_262.out _; (with_reducible repeat (first | refine blk_drewN ?_ _ | refine blk_drew ?_ | refine blk_alloc ?_ _)); refine blk_far ?_ NB258_262.out _; (with_reducible repeat (first | refine blk_drewN ?_ _ | refine blk_drew ?_ | refine blk_alloc ?_ _)); refine blk_far ?_ NB258_262.out _; (with_reducible repeat (first | refine blk_drewN ?_ _ | refine blk_drew ?_ | refine blk_alloc ?_ _)); refine blk_far ?_ NB258_262.out _; (with_reducible repeat (first | refine blk_drewN ?_ _ | refine blk_drew ?_ | refine blk_alloc ?_ _)); exact BK258.out⟩, ⟨by (with_reducible repeat (first | refine blk_drewN ?_ _ | refine blk_drew ?_ | refine blk_alloc ?_ _)); refine blk_put (cs := #[.int .i64 t259, .int .i64 t260, .bool ((rd l0 8) == 1), .slice none 0 0]) ?_ 3 _ rfl; (with_reducible repeat (first | refine blk_drewN ?_ _ | refine blk_drew ?_ | refine blk_alloc ?_ _)); refine blk_put (cs := #[.int .i64 t259, .int .i64 t260, .bool false, .slice none 0 0]) ?_ 2 _ (by first | rfl | (rw [show ((rd l0 8) == 1) = true from (by assumption)]; rfl) | (rw [show ((rd l0 8) == 1) = false from (by assumption)]; rfl)); (with_reducible repeat (first | refine blk_drewN ?_ _ | refine blk_drew ?_ | refine blk_alloc ?_ _)); refine blk_put (cs := #[.int .i64 t259, .int .i64 0, .bool false, .slice none 0 0]) ?_ 1 _ rfl; (with_reducible repeat (first | refine blk_drewN ?_ _ | refine blk_drew ?_ | refine blk_alloc ?_ _)); refine blk_put (cs := #[.int .i64 0, .int .i64 0, .bool false, .slice none 0 0]) ?_ 0 _ rfl; (with_reducible repeat (first | refine blk_drewN ?_ _ | refine blk_drew ?_ | refine blk_alloc ?_ _)); exact BK262.out⟩, ⟨bw2 HB.out GE258.out GE262.out⟩⟩
      ·rw [if_neg c19] at H
       have c19b0 : decide (44 < (wrap64 (rd l0 9))) = false := decide_eq_false c19
       clear c19
       (first | rw [c19b0] | (simp only [i64_w, i32_w]; rw [c19b0]) | skip)
       by_cases c22 : (rd l0 8) = 1
       ·rw [if_pos c22] at H
        have c22b0 : ((rd l0 8) == 1) = true := beq_iff_eq.mpr c22
        have c22b1 : ((rd l0 8) != 1) = false := bne_eq_false_iff_eq.mpr c22
        clear c22
        have H' := Ak H
        clear H
        have hnb23 := NB262_258.out
        have hnc23 := NB258_262.out
        have hcz24_0 : w10.cell? ⟨gb262, 0, none⟩ = some (.int .i64 0) := (blk_cell BK262.out 0).trans rfl
        have hcz24_1 : w10.cell? ⟨gb262, 1, none⟩ = some (.int .i64 0) := (blk_cell BK262.out 1).trans rfl
        have hcz24_2 : w10.cell? ⟨gb262, 2, none⟩ = some (.bool false) := (blk_cell BK262.out 2).trans rfl
        have hcz24_3 : w10.cell? ⟨gb262, 3, none⟩ = some (.slice none 0 0) := (blk_cell BK262.out 3).trans rfl
        have hfz24_0 := blk_frozen BK262.out 0
        have hfz24_1 := blk_frozen BK262.out 1
        have hfz24_2 := blk_frozen BK262.out 2
        have hfz24_3 := blk_frozen BK262.out 3
        go_wp2_with (first | ((with_reducible refine gate_callee (f := 97) rfl ?_); refine goesL_ (some 23) rfl rfl Try.func97 (by kernel_rfl) rfl #[.int .i64 t259, .int .i64 1, .int .i64 1000000] rfl gm ?_; (with_reducible refine (spec_l1In.calls t259 1 1000000 true _ A15.out).mono ?_); rintro e w' ⟨rfl, ⟨nd, rfl⟩⟩; refine ⟨_, rfl, ?_⟩; have p265 : 0 ≤ (8 : Int) := (by omega); have q265 : 8 < (l0.length : Int) := of_decide_eq_true (by first | (with_reducible assumption) | assumption); obtain ⟨ad265, e265, hx265_0⟩ := Kd.at_int HR0.out 8 p265 q265; obtain rfl : ad261 = ad265 := (by injection e265); (try simp only [show (8 : Int).toNat = 8 from rfl, Nat.reduceMul, Nat.reduceEqDiff, Go.Addr.add, ↓reduceIte] at hx265_0); have qi265 : (8 < l0.length) = True := eq_true (by omega); (try rw [show ((8 : Int)).toNat = 8 from rfl] at hx265_0); have hn265_0 : ad261.block ≠ gb262 := Nat.ne_of_lt (Nat.lt_of_lt_of_le (by have := World.block_lt_of_cell? _ _ hx265_0; first | rwa [add_block] at this | exact this) GW262.out); have hn265_1 : ad261.block ≠ gb262 := Nat.ne_of_lt (Nat.lt_of_lt_of_le (by have := World.block_lt_of_cell? _ _ hx265_0; first | rwa [add_block] at this | exact this) GW262.out); have hn265_2 : ad261.block ≠ gb262 := Nat.ne_of_lt (Nat.lt_of_lt_of_le (by have := World.block_lt_of_cell? _ _ hx265_0; first | rwa [add_block] at this | exact this) GW262.out); have hn265_3 : ad261.block ≠ gb262 := Nat.ne_of_lt (Nat.lt_of_lt_of_le (by have := World.block_lt_of_cell? _ _ hx265_0; first | rwa [add_block] at this | exact this) GW262.out); replace hx265_0 := (HB.out.cell (World.block_lt_of_cell? w _ hx265_0)).trans hx265_0; replace hx265_0 := (cell_far (p := ⟨gb262, 0, none⟩) (by first | (rw [add_block]; exact hn265_0) | (show (Addr.add _ _).block ≠ _; rw [add_block]; exact hn265_0) | exact hn265_0) (.int .i64 t259)).trans hx265_0; replace hx265_0 := (cell_far (p := ⟨gb262, 1, none⟩) (by first | (rw [add_block]; exact hn265_1) | (show (Addr.add _ _).block ≠ _; rw [add_block]; exact hn265_1) | exact hn265_1) (.int .i64 t260)).trans hx265_0; replace hx265_0 := (cell_far (p := ⟨gb262, 2, none⟩) (by first | (rw [add_block]; exact hn265_2) | (show (Addr.add _ _).block ≠ _; rw [add_block]; exact hn265_2) | exact hn265_2) (.bool ((rd l0 8) == 1))).trans hx265_0; replace hx265_0 := (cell_far (p := ⟨gb262, 3, none⟩) (by first | (rw [add_block]; exact hn265_3) | (show (Addr.add _ _).block ≠ _; rw [add_block]; exact hn265_3) | exact hn265_3) (.slice none 0 0)).trans hx265_0; clear hn265_0; clear hn265_1; clear hn265_2; clear hn265_3; replace p265 := eq_true p265; replace q265 := eq_true q265) | (go_at_call 97; (with_reducible refine (spec_l1In.calls (wrap64 (rd l0 8)) 1 2 true _ A17.out).mono ?_); rintro e w' ⟨rfl, ⟨nd, rfl⟩⟩))
        go_meet
        case rel => exact ⟨_, (((wrap64 (rd l0 9)) != 44)), (by first | rfl | (simp; done) | (simp [*]; done)), H', ⟨by first | omega | exact Nat.le_refl _⟩, ⟨by (with_reducible repeat (first | refine blk_drewN ?_ _ | refine blk_drew ?_ | refine blk_alloc ?_ _)); refine blk_far ?_ NB258_262.out _; (with_reducible repeat (first | refine blk_drewN ?_ _ | refine blk_drew ?_ | refine blk_alloc ?_ _)); refine blk_far ?_ NB258_262.out _; (with_reducible repeat (first | refine blk_drewN ?_ _ | refine blk_drew ?_ | refine blk_alloc ?_ _)); refine blk_far ?_ NB258_262.out _; (with_reducible repeat (first | refine blk_drewN ?_ _ | refine blk_drew ?_ | refine blk_alloc ?_ _)); refine blk_far ?_ NB258_262.out _; (with_reducible repeat (first | refine blk_drewN ?_ _ | refine blk_drew ?_ | refine blk_alloc ?_ _)); exact BK258.out⟩, ⟨by (with_reducible repeat (first | refine blk_drewN ?_ _ | refine blk_drew ?_ | refine blk_alloc ?_ _)); refine blk_put (cs := #[.int .i64 t259, .int .i64 t260, .bool ((rd l0 8) == 1), .slice none 0 0]) ?_ 3 _ rfl; (with_reducible repeat (first | refine blk_drewN ?_ _ | refine blk_drew ?_ | refine blk_alloc ?_ _)); refine blk_put (cs := #[.int .i64 t259, .int .i64 t260, .bool false, .slice none 0 0]) ?_ 2 _ (by first | rfl | (rw [show ((rd l0 8) == 1) = true from (by assumption)]; rfl) | (rw [show ((rd l0 8) == 1) = false from (by assumption)]; rfl)); (with_reducible repeat (first | refine blk_drewN ?_ _ | refine blk_drew ?_ | refine blk_alloc ?_ _)); refine blk_put (cs := #[.int .i64 t259, .int .i64 0, .bool false, .slice none 0 0]) ?_ 1 _ rfl; (with_reducible repeat (first | refine blk_drewN ?_ _ | refine blk_drew ?_ | refine blk_alloc ?_ _)); refine blk_put (cs := #[.int .i64 0, .int .i64 0, .bool false, .slice none 0 0]) ?_ 0 _ rfl; (with_reducible repeat (first | refine blk_drewN ?_ _ | refine blk_drew ?_ | refine blk_alloc ?_ _)); exact BK262.out⟩, ⟨bw2 HB.out GE258.out GE262.out⟩⟩
       ·rw [if_neg c22] at H
        have c22b0 : ((rd l0 8) == 1) = false := beq_eq_false_iff_ne.mpr c22
        have c22b1 : ((rd l0 8) != 1) = true := bne_iff_ne.mpr c22
        have H' := Ak H
        clear H
        have hnb25 := NB262_258.out
        have hnc25 := NB258_262.out
        have hcz26_0 : w10.cell? ⟨gb262, 0, none⟩ = some (.int .i64 0) := (blk_cell BK262.out 0).trans rfl
        have hcz26_1 : w10.cell? ⟨gb262, 1, none⟩ = some (.int .i64 0) := (blk_cell BK262.out 1).trans rfl
        have hcz26_2 : w10.cell? ⟨gb262, 2, none⟩ = some (.bool false) := (blk_cell BK262.out 2).trans rfl
        have hcz26_3 : w10.cell? ⟨gb262, 3, none⟩ = some (.slice none 0 0) := (blk_cell BK262.out 3).trans rfl
        have hfz26_0 := blk_frozen BK262.out 0
        have hfz26_1 := blk_frozen BK262.out 1
        have hfz26_2 := blk_frozen BK262.out 2
        have hfz26_3 := blk_frozen BK262.out 3
        go_wp2_with (first | ((with_reducible refine gate_callee (f := 97) rfl ?_); refine goesL_ (some 23) rfl rfl Try.func97 (by kernel_rfl) rfl #[.int .i64 t259, .int .i64 1, .int .i64 1000000] rfl gm ?_; (with_reducible refine (spec_l1In.calls t259 1 1000000 true _ A15.out).mono ?_); rintro e w' ⟨rfl, ⟨nd, rfl⟩⟩; refine ⟨_, rfl, ?_⟩; have p265 : 0 ≤ (8 : Int) := (by omega); have q265 : 8 < (l0.length : Int) := of_decide_eq_true (by first | (with_reducible assumption) | assumption); obtain ⟨ad265, e265, hx265_0⟩ := Kd.at_int HR0.out 8 p265 q265; obtain rfl : ad261 = ad265 := (by injection e265); (try simp only [show (8 : Int).toNat = 8 from rfl, Nat.reduceMul, Nat.reduceEqDiff, Go.Addr.add, ↓reduceIte] at hx265_0); have qi265 : (8 < l0.length) = True := eq_true (by omega); (try rw [show ((8 : Int)).toNat = 8 from rfl] at hx265_0); have hn265_0 : ad261.block ≠ gb262 := Nat.ne_of_lt (Nat.lt_of_lt_of_le (by have := World.block_lt_of_cell? _ _ hx265_0; first | rwa [add_block] at this | exact this) GW262.out); have hn265_1 : ad261.block ≠ gb262 := Nat.ne_of_lt (Nat.lt_of_lt_of_le (by have := World.block_lt_of_cell? _ _ hx265_0; first | rwa [add_block] at this | exact this) GW262.out); have hn265_2 : ad261.block ≠ gb262 := Nat.ne_of_lt (Nat.lt_of_lt_of_le (by have := World.block_lt_of_cell? _ _ hx265_0; first | rwa [add_block] at this | exact this) GW262.out); have hn265_3 : ad261.block ≠ gb262 := Nat.ne_of_lt (Nat.lt_of_lt_of_le (by have := World.block_lt_of_cell? _ _ hx265_0; first | rwa [add_block] at this | exact this) GW262.out); replace hx265_0 := (HB.out.cell (World.block_lt_of_cell? w _ hx265_0)).trans hx265_0; replace hx265_0 := (cell_far (p := ⟨gb262, 0, none⟩) (by first | (rw [add_block]; exact hn265_0) | (show (Addr.add _ _).block ≠ _; rw [add_block]; exact hn265_0) | exact hn265_0) (.int .i64 t259)).trans hx265_0; replace hx265_0 := (cell_far (p := ⟨gb262, 1, none⟩) (by first | (rw [add_block]; exact hn265_1) | (show (Addr.add _ _).block ≠ _; rw [add_block]; exact hn265_1) | exact hn265_1) (.int .i64 t260)).trans hx265_0; replace hx265_0 := (cell_far (p := ⟨gb262, 2, none⟩) (by first | (rw [add_block]; exact hn265_2) | (show (Addr.add _ _).block ≠ _; rw [add_block]; exact hn265_2) | exact hn265_2) (.bool ((rd l0 8) == 1))).trans hx265_0; replace hx265_0 := (cell_far (p := ⟨gb262, 3, none⟩) (by first | (rw [add_block]; exact hn265_3) | (show (Addr.add _ _).block ≠ _; rw [add_block]; exact hn265_3) | exact hn265_3) (.slice none 0 0)).trans hx265_0; clear hn265_0; clear hn265_1; clear hn265_2; clear hn265_3; replace p265 := eq_true p265; replace q265 := eq_true q265) | (go_at_call 97; (with_reducible refine (spec_l1In.calls (wrap64 (rd l0 8)) 1 2 true _ A17.out).mono ?_); rintro e w' ⟨rfl, ⟨nd, rfl⟩⟩))
        go_meet
        case rel => exact ⟨_, (false), (by first | rfl | (simp; done) | (simp [*]; done)), H', ⟨by first | omega | exact Nat.le_refl _⟩, ⟨by (with_reducible repeat (first | refine blk_drewN ?_ _ | refine blk_drew ?_ | refine blk_alloc ?_ _)); refine blk_far ?_ NB258_262.out _; (with_reducible repeat (first | refine blk_drewN ?_ _ | refine blk_drew ?_ | refine blk_alloc ?_ _)); refine blk_far ?_ NB258_262.out _; (with_reducible repeat (first | refine blk_drewN ?_ _ | refine blk_drew ?_ | refine blk_alloc ?_ _)); refine blk_far ?_ NB258_262.out _; (with_reducible repeat (first | refine blk_drewN ?_ _ | refine blk_drew ?_ | refine blk_alloc ?_ _)); refine blk_far ?_ NB258_262.out _; (with_reducible repeat (first | refine blk_drewN ?_ _ | refine blk_drew ?_ | refine blk_alloc ?_ _)); exact BK258.out⟩, ⟨by (with_reducible repeat (first | refine blk_drewN ?_ _ | refine blk_drew ?_ | refine blk_alloc ?_ _)); refine blk_put (cs := #[.int .i64 t259, .int .i64 t260, .bool ((rd l0 8) == 1), .slice none 0 0]) ?_ 3 _ rfl; (with_reducible repeat (first | refine blk_drewN ?_ _ | refine blk_drew ?_ | refine blk_alloc ?_ _)); refine blk_put (cs := #[.int .i64 t259, .int .i64 t260, .bool false, .slice none 0 0]) ?_ 2 _ (by first | rfl | (rw [show ((rd l0 8) == 1) = true from (by assumption)]; rfl) | (rw [show ((rd l0 8) == 1) = false from (by assumption)]; rfl)); (with_reducible repeat (first | refine blk_drewN ?_ _ | refine blk_drew ?_ | refine blk_alloc ?_ _)); refine blk_put (cs := #[.int .i64 t259, .int .i64 0, .bool false, .slice none 0 0]) ?_ 1 _ rfl; (with_reducible repeat (first | refine blk_drewN ?_ _ | refine blk_drew ?_ | refine blk_alloc ?_ _)); refine blk_put (cs := #[.int .i64 0, .int .i64 0, .bool false, .slice none 0 0]) ?_ 0 _ rfl; (with_reducible repeat (first | refine blk_drewN ?_ _ | refine blk_drew ?_ | refine blk_alloc ?_ _)); exact BK262.out⟩, ⟨bw2 HB.out GE258.out GE262.out⟩⟩
     ·replace c18 := Bool.eq_false_iff.mpr c18
      subst c18
      have H1 : (spec_l12Read.j0 k l0 (wrap64 (rd l0 9)) true t259 t260 ((rd l0 8) == 1)) = some (r1, r2, r3, r4, r5) := by rw [if_neg (show ¬ (false = true) by decide)] at H; exact H
      clear H
      have H := H1
      clear H1
      have H' := Ak H
      clear H
      have hnb27 := NB262_258.out
      have hnc27 := NB258_262.out
      have hcz28_0 : w10.cell? ⟨gb262, 0, none⟩ = some (.int .i64 0) := (blk_cell BK262.out 0).trans rfl
      have hcz28_1 : w10.cell? ⟨gb262, 1, none⟩ = some (.int .i64 0) := (blk_cell BK262.out 1).trans rfl
      have hcz28_2 : w10.cell? ⟨gb262, 2, none⟩ = some (.bool false) := (blk_cell BK262.out 2).trans rfl
      have hcz28_3 : w10.cell? ⟨gb262, 3, none⟩ = some (.slice none 0 0) := (blk_cell BK262.out 3).trans rfl
      have hfz28_0 := blk_frozen BK262.out 0
      have hfz28_1 := blk_frozen BK262.out 1
      have hfz28_2 := blk_frozen BK262.out 2
      have hfz28_3 := blk_frozen BK262.out 3
      go_wp2_with (first | ((with_reducible refine gate_callee (f := 97) rfl ?_); refine goesL_ (some 23) rfl rfl Try.func97 (by kernel_rfl) rfl #[.int .i64 t259, .int .i64 1, .int .i64 1000000] rfl gm ?_; (with_reducible refine (spec_l1In.calls t259 1 1000000 true _ A15.out).mono ?_); rintro e w' ⟨rfl, ⟨nd, rfl⟩⟩; refine ⟨_, rfl, ?_⟩; have p265 : 0 ≤ (8 : Int) := (by omega); have q265 : 8 < (l0.length : Int) := of_decide_eq_true (by first | (with_reducible assumption) | assumption); obtain ⟨ad265, e265, hx265_0⟩ := Kd.at_int HR0.out 8 p265 q265; obtain rfl : ad261 = ad265 := (by injection e265); (try simp only [show (8 : Int).toNat = 8 from rfl, Nat.reduceMul, Nat.reduceEqDiff, Go.Addr.add, ↓reduceIte] at hx265_0); have qi265 : (8 < l0.length) = True := eq_true (by omega); (try rw [show ((8 : Int)).toNat = 8 from rfl] at hx265_0); have hn265_0 : ad261.block ≠ gb262 := Nat.ne_of_lt (Nat.lt_of_lt_of_le (by have := World.block_lt_of_cell? _ _ hx265_0; first | rwa [add_block] at this | exact this) GW262.out); have hn265_1 : ad261.block ≠ gb262 := Nat.ne_of_lt (Nat.lt_of_lt_of_le (by have := World.block_lt_of_cell? _ _ hx265_0; first | rwa [add_block] at this | exact this) GW262.out); have hn265_2 : ad261.block ≠ gb262 := Nat.ne_of_lt (Nat.lt_of_lt_of_le (by have := World.block_lt_of_cell? _ _ hx265_0; first | rwa [add_block] at this | exact this) GW262.out); have hn265_3 : ad261.block ≠ gb262 := Nat.ne_of_lt (Nat.lt_of_lt_of_le (by have := World.block_lt_of_cell? _ _ hx265_0; first | rwa [add_block] at this | exact this) GW262.out); replace hx265_0 := (HB.out.cell (World.block_lt_of_cell? w _ hx265_0)).trans hx265_0; replace hx265_0 := (cell_far (p := ⟨gb262, 0, none⟩) (by first | (rw [add_block]; exact hn265_0) | (show (Addr.add _ _).block ≠ _; rw [add_block]; exact hn265_0) | exact hn265_0) (.int .i64 t259)).trans hx265_0; replace hx265_0 := (cell_far (p := ⟨gb262, 1, none⟩) (by first | (rw [add_block]; exact hn265_1) | (show (Addr.add _ _).block ≠ _; rw [add_block]; exact hn265_1) | exact hn265_1) (.int .i64 t260)).trans hx265_0; replace hx265_0 := (cell_far (p := ⟨gb262, 2, none⟩) (by first | (rw [add_block]; exact hn265_2) | (show (Addr.add _ _).block ≠ _; rw [add_block]; exact hn265_2) | exact hn265_2) (.bool ((rd l0 8) == 1))).trans hx265_0; replace hx265_0 := (cell_far (p := ⟨gb262, 3, none⟩) (by first | (rw [add_block]; exact hn265_3) | (show (Addr.add _ _).block ≠ _; rw [add_block]; exact hn265_3) | exact hn265_3) (.slice none 0 0)).trans hx265_0; clear hn265_0; clear hn265_1; clear hn265_2; clear hn265_3; replace p265 := eq_true p265; replace q265 := eq_true q265) | (go_at_call 97; (with_reducible refine (spec_l1In.calls (wrap64 (rd l0 8)) 1 2 false _ A17.out).mono ?_); rintro e w' ⟨rfl, ⟨nd, rfl⟩⟩))
      go_meet
      case rel => exact ⟨_, (true), (by first | rfl | (simp; done) | (simp [*]; done)), H', ⟨by first | omega | exact Nat.le_refl _⟩, ⟨by (with_reducible repeat (first | refine blk_drewN ?_ _ | refine blk_drew ?_ | refine blk_alloc ?_ _)); refine blk_far ?_ NB258_262.out _; (with_reducible repeat (first | refine blk_drewN ?_ _ | refine blk_drew ?_ | refine blk_alloc ?_ _)); refine blk_far ?_ NB258_262.out _; (with_reducible repeat (first | refine blk_drewN ?_ _ | refine blk_drew ?_ | refine blk_alloc ?_ _)); refine blk_far ?_ NB258_262.out _; (with_reducible repeat (first | refine blk_drewN ?_ _ | refine blk_drew ?_ | refine blk_alloc ?_ _)); refine blk_far ?_ NB258_262.out _; (with_reducible repeat (first | refine blk_drewN ?_ _ | refine blk_drew ?_ | refine blk_alloc ?_ _)); exact BK258.out⟩, ⟨by (with_reducible repeat (first | refine blk_drewN ?_ _ | refine blk_drew ?_ | refine blk_alloc ?_ _)); refine blk_put (cs := #[.int .i64 t259, .int .i64 t260, .bool ((rd l0 8) == 1), .slice none 0 0]) ?_ 3 _ rfl; (with_reducible repeat (first | refine blk_drewN ?_ _ | refine blk_drew ?_ | refine blk_alloc ?_ _)); refine blk_put (cs := #[.int .i64 t259, .int .i64 t260, .bool false, .slice none 0 0]) ?_ 2 _ (by first | rfl | (rw [show ((rd l0 8) == 1) = true from (by assumption)]; rfl) | (rw [show ((rd l0 8) == 1) = false from (by assumption)]; rfl)); (with_reducible repeat (first | refine blk_drewN ?_ _ | refine blk_drew ?_ | refine blk_alloc ?_ _)); refine blk_put (cs := #[.int .i64 t259, .int .i64 0, .bool false, .slice none 0 0]) ?_ 1 _ rfl; (with_reducible repeat (first | refine blk_drewN ?_ _ | refine blk_drew ?_ | refine blk_alloc ?_ _)); refine blk_put (cs := #[.int .i64 0, .int .i64 0, .bool false, .slice none 0 0]) ?_ 0 _ rfl; (with_reducible repeat (first | refine blk_drewN ?_ _ | refine blk_drew ?_ | refine blk_alloc ?_ _)); exact BK262.out⟩, ⟨bw2 HB.out GE258.out GE262.out⟩⟩
    ·replace c16 := Bool.eq_false_iff.mpr c16
     subst c16
     have H1 : (spec_l12Read.j0 k l0 (wrap64 (rd l0 9)) true t259 t260 ((rd l0 8) == 1)) = some (r1, r2, r3, r4, r5) := by rw [if_neg (show ¬ (false = true) by decide)] at H; exact H
     clear H
     have H := H1
     clear H1
     have H' := Ak H
     clear H
     have hnb29 := NB262_258.out
     have hnc29 := NB258_262.out
     have hcz30_0 : w10.cell? ⟨gb262, 0, none⟩ = some (.int .i64 0) := (blk_cell BK262.out 0).trans rfl
     have hcz30_1 : w10.cell? ⟨gb262, 1, none⟩ = some (.int .i64 0) := (blk_cell BK262.out 1).trans rfl
     have hcz30_2 : w10.cell? ⟨gb262, 2, none⟩ = some (.bool false) := (blk_cell BK262.out 2).trans rfl
     have hcz30_3 : w10.cell? ⟨gb262, 3, none⟩ = some (.slice none 0 0) := (blk_cell BK262.out 3).trans rfl
     have hfz30_0 := blk_frozen BK262.out 0
     have hfz30_1 := blk_frozen BK262.out 1
     have hfz30_2 := blk_frozen BK262.out 2
     have hfz30_3 := blk_frozen BK262.out 3
     go_wp2_with (first | ((with_reducible refine gate_callee (f := 97) rfl ?_); refine goesL_ (some 23) rfl rfl Try.func97 (by kernel_rfl) rfl #[.int .i64 t259, .int .i64 1, .int .i64 1000000] rfl gm ?_; (with_reducible refine (spec_l1In.calls t259 1 1000000 false _ A15.out).mono ?_); rintro e w' ⟨rfl, ⟨nd, rfl⟩⟩; refine ⟨_, rfl, ?_⟩))
     go_meet
     case rel => exact ⟨_, (true), (by first | rfl | (simp; done) | (simp [*]; done)), H', ⟨by first | omega | exact Nat.le_refl _⟩, ⟨by (with_reducible repeat (first | refine blk_drewN ?_ _ | refine blk_drew ?_ | refine blk_alloc ?_ _)); refine blk_far ?_ NB258_262.out _; (with_reducible repeat (first | refine blk_drewN ?_ _ | refine blk_drew ?_ | refine blk_alloc ?_ _)); refine blk_far ?_ NB258_262.out _; (with_reducible repeat (first | refine blk_drewN ?_ _ | refine blk_drew ?_ | refine blk_alloc ?_ _)); refine blk_far ?_ NB258_262.out _; (with_reducible repeat (first | refine blk_drewN ?_ _ | refine blk_drew ?_ | refine blk_alloc ?_ _)); refine blk_far ?_ NB258_262.out _; (with_reducible repeat (first | refine blk_drewN ?_ _ | refine blk_drew ?_ | refine blk_alloc ?_ _)); exact BK258.out⟩, ⟨by (with_reducible repeat (first | refine blk_drewN ?_ _ | refine blk_drew ?_ | refine blk_alloc ?_ _)); refine blk_put (cs := #[.int .i64 t259, .int .i64 t260, .bool ((rd l0 8) == 1), .slice none 0 0]) ?_ 3 _ rfl; (with_reducible repeat (first | refine blk_drewN ?_ _ | refine blk_drew ?_ | refine blk_alloc ?_ _)); refine blk_put (cs := #[.int .i64 t259, .int .i64 t260, .bool false, .slice none 0 0]) ?_ 2 _ (by first | rfl | (rw [show ((rd l0 8) == 1) = true from (by assumption)]; rfl) | (rw [show ((rd l0 8) == 1) = false from (by assumption)]; rfl)); (with_reducible repeat (first | refine blk_drewN ?_ _ | refine blk_drew ?_ | refine blk_alloc ?_ _)); refine blk_put (cs := #[.int .i64 t259, .int .i64 0, .bool false, .slice none 0 0]) ?_ 1 _ rfl; (with_reducible repeat (first | refine blk_drewN ?_ _ | refine blk_drew ?_ | refine blk_alloc ?_ _)); refine blk_put (cs := #[.int .i64 0, .int .i64 0, .bool false, .slice none 0 0]) ?_ 0 _ rfl; (with_reducible repeat (first | refine blk_drewN ?_ _ | refine blk_drew ?_ | refine blk_alloc ?_ _)); exact BK262.out⟩, ⟨bw2 HB.out GE258.out GE262.out⟩⟩
   case rest =>
    clear HC6
    try clear q2
    try clear hx2
    try clear qi2
    try clear c4b0
    try clear c4b1
    try clear c5b0
    try clear c5b1
    try clear c19b0
    try clear c22b0
    try clear c22b1
    try clear q26
    try clear hx26
    try clear qi26
    try clear hx261_0
    try clear hx263_0
    try clear hx265_0
    try clear q261
    try clear q263
    try clear q265
    obtain ⟨kq, x44_5, rfl, HA, HJ5, BK258, BK262, HB⟩ := hcut
    cases kq with
    | zero => exact absurd HA.out (by simp [spec_l12Read.j0])
    | succ kj5 =>
     have H := HA.out
     clear HA
     simp only [spec_l12Read.j0] at H
     by_cases c31 : x44_5 = true
     ·subst c31
      have H1 : (some (0, 0, false, ([] : List Int), false)) = some (r1, r2, r3, r4, r5) := by rw [if_pos rfl] at H; exact H
      clear H
      have H := H1
      clear H1
      simp only [Option.some.injEq, Prod.mk.injEq] at H
      obtain ⟨rfl, rfl, rfl, rfl, rfl⟩ := H
      have hnb32 := NB258_262.out
      have hnc32 := NB262_258.out
      have hcz33_0 : wc.cell? ⟨gb258, 0, none⟩ = some (.int .i64 0) := (blk_cell BK258.out 0).trans rfl
      have hcz33_1 : wc.cell? ⟨gb258, 1, none⟩ = some (.int .i64 0) := (blk_cell BK258.out 1).trans rfl
      have hcz33_2 : wc.cell? ⟨gb258, 2, none⟩ = some (.bool false) := (blk_cell BK258.out 2).trans rfl
      have hcz33_3 : wc.cell? ⟨gb258, 3, none⟩ = some (.slice none 0 0) := (blk_cell BK258.out 3).trans rfl
      have hfz33_0 := blk_frozen BK258.out 0
      have hfz33_1 := blk_frozen BK258.out 1
      have hfz33_2 := blk_frozen BK258.out 2
      have hfz33_3 := blk_frozen BK258.out 3
      go_wp2
      refine bodyPost_ret (results_ct rfl _ _ gb258 79 #[.int .i64 0, .int .i64 0, .bool false, .slice none 0 0] (0, 0) _ rfl (by (with_reducible repeat (first | refine blk_drewN ?_ _ | refine blk_drew ?_ | refine blk_alloc ?_ _)); refine blk_put (cs := #[.int .i64 0, .int .i64 0, .bool false, .slice none 0 0]) ?_ 3 _ rfl; (with_reducible repeat (first | refine blk_drewN ?_ _ | refine blk_drew ?_ | refine blk_alloc ?_ _)); refine blk_put (cs := #[.int .i64 0, .int .i64 0, .bool false, .slice none 0 0]) ?_ 2 _ rfl; (with_reducible repeat (first | refine blk_drewN ?_ _ | refine blk_drew ?_ | refine blk_alloc ?_ _)); refine blk_put (cs := #[.int .i64 0, .int .i64 0, .bool false, .slice none 0 0]) ?_ 1 _ rfl; (with_reducible repeat (first | refine blk_drewN ?_ _ | refine blk_drew ?_ | refine blk_alloc ?_ _)); refine blk_put (cs := #[.int .i64 0, .int .i64 0, .bool false, .slice none 0 0]) ?_ 0 _ rfl; (with_reducible repeat (first | refine blk_drewN ?_ _ | refine blk_drew ?_ | refine blk_alloc ?_ _)); exact BK258.out) Try.underlying79 rfl (by kernel_rfl)) rfl ?_
      exact ⟨_, by first | rfl | (simp [errW_none, errW_some] <;> rfl) | (simp [*, errW_none, errW_some] <;> rfl), by first | exact Kd.R_nil _ _ _ _ _ | exact Kd.N_nil _ _ _ _ _ | exact Kd.V_nil _ _ _ _ _ | exact Kd.Q_nil _ _ _ _ _ | exact Kd.S_nil _ _ _ _ _, bw2 HB.out GE258.out GE262.out⟩
     ·replace c31 := Bool.eq_false_iff.mpr c31
      subst c31
      have H1 : ((some (([] : List Int) : List Int)).bind fun y267 => (if 16 ≤ (wrap64 (16 + (wrap64 (rd l0 9)))) then (if (wrap64 (16 + (wrap64 (rd l0 9)))) ≤ (l0.length : Int) then (if y267.length + ((l0.take ((wrap64 (16 + (wrap64 (rd l0 9)))) : Int).toNat).drop 16).length < 140737488355328 then ((some (y267 ++ ((l0.take ((wrap64 (16 + (wrap64 (rd l0 9)))) : Int).toNat).drop 16) : List Int)).bind fun y271 => ((spec_l12Sector.f kj5 t259 t260 ((rd l0 8) == 1) y271).bind fun t274 => (spec_l12Read.l0 kj5 l0 t274 0 t259 t260 ((rd l0 8) == 1) y271))) else (none)) else (none)) else (none))) = some (r1, r2, r3, r4, r5) := by rw [if_neg (show ¬ (false = true) by decide)] at H; exact H
      clear H
      have H := H1
      clear H1
      obtain ⟨y267, hy267⟩ : ∃ y_ : List Int, y_ = (([] : List Int)) := ⟨_, rfl⟩
      replace H : (if 16 ≤ (wrap64 (16 + (wrap64 (rd l0 9)))) then (if (wrap64 (16 + (wrap64 (rd l0 9)))) ≤ (l0.length : Int) then (if y267.length + ((l0.take ((wrap64 (16 + (wrap64 (rd l0 9)))) : Int).toNat).drop 16).length < 140737488355328 then ((some (y267 ++ ((l0.take ((wrap64 (16 + (wrap64 (rd l0 9)))) : Int).toNat).drop 16) : List Int)).bind fun y271 => ((spec_l12Sector.f kj5 t259 t260 ((rd l0 8) == 1) y271).bind fun t274 => (spec_l12Read.l0 kj5 l0 t274 0 t259 t260 ((rd l0 8) == 1) y271))) else (none)) else (none)) else (none)) = some (r1, r2, r3, r4, r5) := by first | (rw [hy267]; with_reducible exact H) | (have H2_ := (Option.bind_some _ _).symm.trans H; rw [hy267]; with_reducible exact H2_) | (have H2_ := (Option.bind_some _ _).symm.trans H; with_reducible exact H2_) | with_reducible exact H | (rw [hy267]; exact H) | exact H
      have Ny267 := Ak hy267
      clear hy267
      by_cases c34 : 16 ≤ (wrap64 (16 + (wrap64 (rd l0 9))))
      ·rw [if_pos c34] at H
       have c34b0 := eq_true c34
       have c34b1 : decide (16 ≤ (wrap64 (16 + (wrap64 (rd l0 9))))) = true := decide_eq_true c34
       by_cases c35 : (wrap64 (16 + (wrap64 (rd l0 9)))) ≤ (l0.length : Int)
       ·rw [if_pos c35] at H
        have c35b0 := eq_true c35
        have c35b1 : decide ((wrap64 (16 + (wrap64 (rd l0 9)))) ≤ (l0.length : Int)) = true := decide_eq_true c35
        by_cases c36 : y267.length + ((l0.take ((wrap64 (16 + (wrap64 (rd l0 9)))) : Int).toNat).drop 16).length < 140737488355328
        ·rw [if_pos c36] at H
         have LMc36 := Ak c36
         clear c36
         obtain ⟨y271, hy271⟩ : ∃ y_ : List Int, y_ = (y267 ++ ((l0.take ((wrap64 (16 + (wrap64 (rd l0 9)))) : Int).toNat).drop 16)) := ⟨_, rfl⟩
         replace H : ((spec_l12Sector.f kj5 t259 t260 ((rd l0 8) == 1) y271).bind fun t274 => (spec_l12Read.l0 kj5 l0 t274 0 t259 t260 ((rd l0 8) == 1) y271)) = some (r1, r2, r3, r4, r5) := by first | (rw [hy271]; with_reducible exact H) | (have H2_ := (Option.bind_some _ _).symm.trans H; rw [hy271]; with_reducible exact H2_) | (have H2_ := (Option.bind_some _ _).symm.trans H; with_reducible exact H2_) | with_reducible exact H | (rw [hy271]; exact H) | exact H
         have Ny271 := Ak hy271
         clear hy271
         replace H := Option.bind_eq_some_iff.mp H
         obtain ⟨t274, A370, H⟩ := H
         replace H : (spec_l12Read.l0 kj5 l0 t274 0 t259 t260 ((rd l0 8) == 1) y271) = some (r1, r2, r3, r4, r5) := H
         have A37 := Ak A370
         clear A370
         have H' := Ak H
         clear H
         go_wp2_with (first | ((with_reducible refine gate_dst (N := 46) rfl ?_); refine Kd.R_lit (Kd.int .u8) _ 5 ?hg (N := 46) ?hd (xs := ([] : List Int)) (inner := []) (ok := fun _ => True) (okp := fun _ => True) ?hr ?hp (fun _ hk => hk) trivial (Below.refl _ _) (Nat.le_refl _) (by simp) ?_; (case hd => rfl); (case hg => rfl); (case hr => first | (go_simp; done) | (go_simp; rfl)); (case hp => exact (Reps.none _ _)); intro v268 w38 ho39 hb hg_ hnew_; clear hg_ hnew_; (first | rw [← Ny267.out] at ho39 | (simp only [Int.reduceToNat] at ho39; rw [← Ny267.out] at ho39)); have n0_ := Ak (Kd.R_lower ho39 (below_size (bw2 HB.out GE258.out GE262.out))); have n1_ := Ak (blk_below (g := gb258) (o := .cells #[.int .i64 0, .int .i64 0, .bool false, .slice none 0 0] 79 (0, 0)) (bq BK258.out) hb); have n2_ := Ak (blk_below (g := gb262) (o := .cells #[.int .i64 t259, .int .i64 t260, .bool ((rd l0 8) == 1), .slice none 0 0] 79 (0, 0)) (bq BK262.out) hb); have n3_ := Ak (below_step (bw2 HB.out GE258.out GE262.out) hb); clear BK258; clear BK262; clear HB; have HO269 := n0_; have BK258 := n1_; have BK262 := n2_; have HB := n3_; clear n0_ n1_ n2_ n3_; clear hb ho39; obtain ⟨i040, hi040, _, hsz40, _⟩ := info_parts info5; obtain ⟨A40, hcut40, hA40, hC40⟩ := print_mid_of (P := Try.prog) (Value.int .u8) 0 22 5 .i64 .i64 Try.underlying22 hi040 hsz40 (some ad261) c0 l0 16 (wrap64 (16 + (wrap64 (rd l0 9)))) (by omega) (by first | omega | exact of_decide_eq_true (by first | (with_reducible assumption) | assumption)) (of_decide_eq_true (by first | (with_reducible assumption) | assumption)) HC0.out; have HR270 := Ak (Kd.C_of_reads (h1 := fun _ => rfl) (hA40 _ (Kd.reads_of_C HR0.out))); have HC270 := Ak hC40; clear hA40 hC40 hi040 hsz40) | ((with_reducible refine gate_builtin (b := .append) (xs := #[.tmp 46, .tmp 50]) rfl ?_); at_builtin; refine Kd.R_append_rows (Kd.int .u8) (w0 := w) w.heap.size rfl (.tmp 46) (.tmp 50) 22 5 (.int .u8 0) 1 rfl Try.underlying22 info5 rfl (by decide) (by omega) v268 y267 ((l0.take ((wrap64 (16 + (wrap64 (rd l0 9)))) : Int).toNat).drop 16) _ _ _ (fun _ => True) (fun _ => False) rfl rfl ?aO ?aR (fun _ _ h => h) (fun _ h => h.elim) ?aF ?aB ?aS ?aL ?_; (case aR => first | (rw [← show ((l0.take ((wrap64 (16 + (wrap64 (rd l0 9)))) : Int).toNat).drop 16).length = ((wrap64 (16 + (wrap64 (rd l0 9)))).toNat - 16) from (by rw [List.length_drop, List.length_take]; have h_ : ((wrap64 (16 + (wrap64 (rd l0 9)))) : Int) ≤ (l0.length : Int) := of_decide_eq_true (by first | (with_reducible assumption) | assumption); omega)]; repeat (first | exact (Kd.C_below HR270.out HB.out) | (with_reducible refine Kd.C_alloc ?_ _) | (with_reducible refine Kd.C_drewN ?_ _) | (with_reducible refine Kd.C_drew ?_))) | (repeat (first | exact (Kd.C_below HR270.out HB.out) | (with_reducible refine Kd.C_alloc ?_ _) | (with_reducible refine Kd.C_drewN ?_ _) | (with_reducible refine Kd.C_drew ?_)))); (case aB => exact (bw2 HB.out GE258.out GE262.out)); (case aF => exact (fun _ _ => trivial)); (case aO => exact (rq HO269.out)); (case aS => exact (below_size (bw2 HB.out GE258.out GE262.out))); (case aL => have := LMc36.out; have hlx_ := (show ((l0.take ((wrap64 (16 + (wrap64 (rd l0 9)))) : Int).toNat).drop 16).length = ((wrap64 (16 + (wrap64 (rd l0 9)))).toNat - 16) from (by rw [List.length_drop, List.length_take]; have h_ : ((wrap64 (16 + (wrap64 (rd l0 9)))) : Int) ≤ (l0.length : Int) := of_decide_eq_true (by first | (with_reducible assumption) | assumption); omega)); omega); intro v272 w41 ho hb hg hat; rw [← Ny271.out] at ho; have n0_ := Ak (blk_grown (g := gb258) (o := .cells #[.int .i64 0, .int .i64 0, .bool false, .slice none 0 0] 79 (0, 0)) (bq BK258.out) hg (Kd.R_ne HO269.out BK258.out (by decide))); have n1_ := Ak (blk_grown (g := gb262) (o := .cells #[.int .i64 t259, .int .i64 t260, .bool ((rd l0 8) == 1), .slice none 0 0] 79 (0, 0)) (bq BK262.out) hg (Kd.R_ne HO269.out BK262.out (by decide))); have n2_ := Ak (hb); have n3_ := Ak (ho); clear BK258; clear BK262; clear HB; clear HO269; have BK258 := n0_; have BK262 := n1_; have HB := n2_; have HO273 := n3_; clear n0_ n1_ n2_ n3_; clear ho hb hg hat; obtain ⟨Ao42, co42, eo42⟩ := Kd.R_slice HO273.out; subst eo42; have hnb43 := NB262_258.out; have hnc43 := NB258_262.out; have hcz44_0 : w41.cell? ⟨gb262, 0, none⟩ = some (.int .i64 t259) := (blk_cell BK262.out 0).trans rfl; have hcz44_1 : w41.cell? ⟨gb262, 1, none⟩ = some (.int .i64 t260) := (blk_cell BK262.out 1).trans rfl; have hcz44_2 : w41.cell? ⟨gb262, 2, none⟩ = some (.bool ((rd l0 8) == 1)) := (blk_cell BK262.out 2).trans rfl; have hcz44_3 : w41.cell? ⟨gb262, 3, none⟩ = some (.slice none 0 0) := (blk_cell BK262.out 3).trans rfl; have hfz44_0 := blk_frozen BK262.out 0; have hfz44_1 := blk_frozen BK262.out 1; have hfz44_2 := blk_frozen BK262.out 2; have hfz44_3 := blk_frozen BK262.out 3) | ((with_reducible refine gate_callee (f := 96) rfl ?_); refine goesL_ (some 61) rfl rfl Try.func96 (by kernel_rfl) rfl #[.int .i64 t259, .int .i64 t260, .bool ((rd l0 8) == 1), .slice Ao42 y271.length co42] rfl gm ?_; (with_reducible refine (spec_l12Sector.calls kj5 t259 t260 ((rd l0 8) == 1) _ _ y271 t274 _ ?side1 ?side2 A37.out).mono ?_); (case side1 => refine (Kd.R_reads' (e := 5) (base := w.heap.size) (ok := fun k_ => True) (n := y271.length) (c := co42) ?_).2.2; exact (by (with_reducible repeat (first | apply Kd.R_alloc | apply Kd.R_drewN | apply Kd.R_drew)); exact (Kd.R_mono (Kd.R_far (p := ⟨gb262, 3, none⟩) (Kd.R_types HO273.out BK262.out (by decide)) (fun _ hk => hk.2) (.slice Ao42 y271.length co42)) (fun _ h_ => h_.1)))); (case side2 => exact (Kd.R_reads' HO273.out).2.1); rintro e w45 ⟨v275, rfl, ho0, hb⟩; refine ⟨_, rfl, ?_⟩; have n0_ := Ak (Kd.R_elder' (by (with_reducible repeat (first | apply Kd.R_alloc | apply Kd.R_drewN | apply Kd.R_drew)); exact (Kd.R_mono (Kd.R_far (p := ⟨gb262, 3, none⟩) (Kd.R_types HO273.out BK262.out (by decide)) (fun _ hk => hk.2) (.slice Ao42 y271.length co42)) (fun _ h_ => h_.1))) (Kd.R_base ho0) hb); have n1_ := Ak (Kd.R_lower (Kd.R_new' ho0 (Kd.R_lt (by (with_reducible repeat (first | apply Kd.R_alloc | apply Kd.R_drewN | apply Kd.R_drew)); exact (Kd.R_mono (Kd.R_far (p := ⟨gb262, 3, none⟩) (Kd.R_types HO273.out BK262.out (by decide)) (fun _ hk => hk.2) (.slice Ao42 y271.length co42)) (fun _ h_ => h_.1))))) (below_size (bw2 HB.out GE258.out GE262.out))); have n2_ := Ak (blk_below (g := gb258) (o := .cells #[.int .i64 0, .int .i64 0, .bool false, .slice none 0 0] 79 (0, 0)) (by (with_reducible repeat (first | refine blk_drewN ?_ _ | refine blk_drew ?_ | refine blk_alloc ?_ _)); refine blk_far ?_ NB258_262.out _; (with_reducible repeat (first | refine blk_drewN ?_ _ | refine blk_drew ?_ | refine blk_alloc ?_ _)); exact BK258.out) hb); have n3_ := Ak (blk_below (g := gb262) (o := .cells #[.int .i64 t259, .int .i64 t260, .bool ((rd l0 8) == 1), .slice Ao42 y271.length co42] 79 (0, 0)) (by (with_reducible repeat (first | refine blk_drewN ?_ _ | refine blk_drew ?_ | refine blk_alloc ?_ _)); refine blk_put (cs := #[.int .i64 t259, .int .i64 t260, .bool ((rd l0 8) == 1), .slice none 0 0]) ?_ 3 _ rfl; (with_reducible repeat (first | refine blk_drewN ?_ _ | refine blk_drew ?_ | refine blk_alloc ?_ _)); exact BK262.out) hb); have n4_ := Ak (below_step (bw2 HB.out GE258.out GE262.out) hb); clear HO273; clear BK258; clear BK262; clear HB; have HO273 := n0_; have HO276 := n1_; have BK258 := n2_; have BK262 := n3_; have HB := n4_; clear n0_ n1_ n2_ n3_ n4_))
         go_loopg [7] kj5 (fun kq v7 w' => ∃ (x7_2 : Int) (x259000_2 : Int) (x259001_2 : Int) (x259002_2 : Bool), v7 = .int .i64 x7_2 ∧ Aside0 (spec_l12Read.l0 kq l0 t274 x7_2 t259 t260 ((rd l0 8) == 1) y271 = some (r1, r2, r3, r4, r5)) ∧ Aside0 (kq ≤ kj5) ∧ Aside0 (Kd.R (Kd.int .u8) 5 w' w.heap.size (fun k_ => some k_ ≠ ((.slice Ao42 y271.length co42) : Value).ownBlock) v275 t274) ∧ Aside0 (Kd.R (Kd.int .u8) 5 w' w.heap.size (fun k_ => some k_ ≠ (v275 : Value).ownBlock) (.slice Ao42 y271.length co42) y271) ∧ Aside0 (w'.heap[gb258]? = some (.cells #[.int .i64 x259000_2, .int .i64 x259001_2, .bool x259002_2, (.slice none 0 0)] 79 (0, 0))) ∧ Aside0 (w'.heap[gb262]? = some (.cells #[.int .i64 t259, .int .i64 t260, .bool ((rd l0 8) == 1), (.slice Ao42 y271.length co42)] 79 (0, 0))) ∧ Aside0 (Below w.heap.size w w'))
         case atStart => exact ⟨(0), (0), (0), (false), (by first | rfl | (simp; done) | (simp [*]; done)), H', ⟨Nat.le_refl _⟩, ⟨by (with_reducible repeat (first | apply Kd.R_alloc | apply Kd.R_drewN | apply Kd.R_drew)); exact Kd.R_mono HO276.out (fun _ hk => hk.2)⟩, ⟨by (with_reducible repeat (first | apply Kd.R_alloc | apply Kd.R_drewN | apply Kd.R_drew)); exact Kd.R_mono HO273.out (fun _ hk => hk.2)⟩, ⟨bq BK258.out⟩, ⟨bq BK262.out⟩, ⟨bw2 HB.out GE258.out GE262.out⟩⟩
         case round =>
          clear H'
          try clear q2
          try clear hx2
          try clear qi2
          try clear c4b0
          try clear c4b1
          try clear c5b0
          try clear c5b1
          try clear c19b0
          try clear c22b0
          try clear c22b1
          try clear q26
          try clear hx26
          try clear qi26
          try clear c34b0
          try clear c34b1
          try clear c35b0
          try clear c35b1
          try clear hx261_0
          try clear hx263_0
          try clear hx265_0
          try clear q2
          try clear q26
          try clear q261
          try clear q263
          try clear q265
          obtain ⟨x7_2, x259000_2, x259001_2, x259002_2, rfl, HA, HK2, HO_6, HO_263003, BK258, BK262, HB⟩ := hrel
          cases gk with
          | zero => exact absurd HA.out (by simp [spec_l12Read.l0])
          | succ k2 =>
           have H := HA.out
           clear HA
           simp only [spec_l12Read.l0] at H
           by_cases c46 : x7_2 < (l0.length : Int)
           ·rw [if_pos c46] at H
            have c46b0 : decide (x7_2 < (l0.length : Int)) = true := decide_eq_true c46
            clear c46
            by_cases c47 : 0 ≤ x7_2
            ·rw [if_pos c47] at H
             have c47b0 : decide (0 ≤ x7_2) = true := decide_eq_true c47
             clear c47
             by_cases c48 : x7_2 < (t274.length : Int)
             ·rw [if_pos c48] at H
              have c48b0 : decide (x7_2 < (t274.length : Int)) = true := decide_eq_true c48
              clear c48
              by_cases c49 : (rd l0 x7_2) = (rd t274 x7_2)
              ·rw [if_pos c49] at H
               have c49b0 : ((rd l0 x7_2) == (rd t274 x7_2)) = true := beq_iff_eq.mpr c49
               have c49b1 : ((rd l0 x7_2) != (rd t274 x7_2)) = false := bne_eq_false_iff_eq.mpr c49
               clear c49
               have H' := Ak H
               clear H
               try go_wp2
               have n0_ := Ak (Kd.R_drew HO_6.out)
               have n1_ := Ak (Kd.R_drew HO_263003.out)
               have n2_ := Ak (blk_drew BK258.out)
               have n3_ := Ak (blk_drew BK262.out)
               have n4_ := Ak (below_drew1 HB.out)
               clear HO_6
               clear HO_263003
               clear BK258
               clear BK262
               clear HB
               have HO_6 := n0_
               have HO_263003 := n1_
               have BK258 := n2_
               have BK262 := n3_
               have HB := n4_
               clear n0_ n1_ n2_ n3_ n4_
               have p277 : 0 ≤ (x7_2 : Int) := of_decide_eq_true (by first | (with_reducible assumption) | assumption)
               have q277 : x7_2 < (l0.length : Int) := of_decide_eq_true (by first | (with_reducible assumption) | assumption)
               obtain ⟨ad277, e277, hx277_0⟩ := Kd.at_int HR0.out x7_2 p277 q277
               have hw277_0 := hx277_0
               obtain rfl : ad261 = ad277 := (by injection e277)
               replace hx277_0 := (HB.out.cell (World.block_lt_of_cell? w _ hx277_0)).trans hx277_0
               replace p277 := eq_true p277
               replace q277 := eq_true q277
               obtain ⟨Ao51, co51, eo51⟩ := Kd.R_slice HO_6.out
               (first | subst eo51 | (injection eo51 with f1_ f2_ f3_; have f4_ := f1_.symm; have f5_ := f3_.symm; clear f1_ f2_ f3_; subst f4_; subst f5_))
               have p278 : 0 ≤ (x7_2 : Int) := of_decide_eq_true (by first | (with_reducible assumption) | assumption)
               have q278 : x7_2 < (t274.length : Int) := of_decide_eq_true (by first | (with_reducible assumption) | assumption)
               obtain ⟨ad278, e278, hx278_0⟩ := Kd.at_int (Kd.R_reads' HO_6.out).2.2 x7_2 p278 q278
               cases e278
               replace p278 := eq_true p278
               replace q278 := eq_true q278
               refine start_ (n := 9) (S := fun w' => w'.cell? (ad261.add (x7_2).toNat) = some (.int .u8 (rd l0 x7_2)) ∧ w'.cell? (ad278.add (x7_2).toNat) = some (.int .u8 (rd t274 x7_2))) (ds := []) #[false, false, false, false, false, false, false, false, false] (by kernel_rfl) rfl rfl ⟨((HB.out.cell (World.block_lt_of_cell? w _ hw277_0)).trans hw277_0), hx278_0⟩ (fun hHeld => ?_); refine with_tabW spec_l12Read.tab10 spec_l12Read.bits10 (fun HT_ HW_ => ?_)
               generalize wr.drew = w50 at HO_6 HO_263003 BK258 BK262 HB hx277_0 hx278_0 hHeld ⊢
               refine pure_ (i := 0) (N := some 68) (v := ?_) (a' := ?_) #[true, false, false, false, false, false, false, false, false] rfl rfl (any_of HT_.out (by kernel_rfl)) (fun _ _ _ h => h) (Or.inl ⟨by rfl, ?_⟩) ?_ ?_
               rotate_left
               ·intro w'
                go_simp
                with_reducible rfl
               rotate_left
               ·simp only [Act.put, sT, sZ, sS, i64_w, i32_w]
                rfl
               refine pure_ (i := 1) (N := some 69) (v := ?_) (a' := ?_) #[true, true, false, false, false, false, false, false, false] rfl rfl (any_of HT_.out (by kernel_rfl)) (fun _ _ _ h => h) (Or.inl ⟨by rfl, ?_⟩) ?_ ?_
               rotate_left
               ·intro w'
                go_simp
                with_reducible rfl
               rotate_left
               ·simp only [Act.put, sT, sZ, sS, i64_w, i32_w]
                rfl
               refine pure_ (i := 2) (N := some 70) (v := ?_) (a' := ?_) #[true, true, true, false, false, false, false, false, false] rfl rfl (any_of HT_.out (by kernel_rfl)) (fun _ _ _ h => h) (Or.inl ⟨by rfl, ?_⟩) ?_ ?_
               rotate_left
               ·intro w'
                go_simp
                with_reducible rfl
               rotate_left
               ·simp only [Act.put, sT, sZ, sS, i64_w, i32_w]
                rfl
               refine pure_ (i := 4) (N := some 72) (v := ?_) (a' := ?_) #[true, true, true, false, true, false, false, false, false] rfl rfl (any_of HT_.out (by kernel_rfl)) (fun _ _ _ h => h) (Or.inl ⟨by rfl, ?_⟩) ?_ ?_
               rotate_left
               ·intro w'
                go_simp
                with_reducible rfl
               rotate_left
               ·simp only [Act.put, sT, sZ, sS, i64_w, i32_w]
                rfl
               refine pure_ (i := 5) (N := some 73) (v := ?_) (a' := ?_) #[true, true, true, false, true, true, false, false, false] rfl rfl (any_of HT_.out (by kernel_rfl)) (fun _ _ _ h => h) (Or.inl ⟨by rfl, ?_⟩) ?_ ?_
               rotate_left
               ·intro w'
                go_simp
                with_reducible rfl
               rotate_left
               ·simp only [Act.put, sT, sZ, sS, i64_w, i32_w]
                rfl
               refine pure_ (i := 6) (N := some 74) (v := ?_) (a' := ?_) #[true, true, true, false, true, true, true, false, false] rfl rfl (any_of HT_.out (by kernel_rfl)) (fun _ _ _ h => h) (Or.inl ⟨by rfl, ?_⟩) ?_ ?_
               rotate_left
               ·intro w'
                go_simp
                with_reducible rfl
               rotate_left
               ·simp only [Act.put, sT, sZ, sS, i64_w, i32_w]
                rfl
               refine take_ (i := 3) (N := some 71) (v := ?_) (a' := ?_) #[true, true, true, true, true, true, true, false, false] rfl rfl (take_ofW HT_.out HW_.out (by kernel_rfl)) (fun _ _ _ h => h) (Or.inl ⟨by rfl, ?_⟩) hHeld ?_ ?_
               rotate_left
               ·rintro w' ⟨s0, s1⟩
                go_simp
                with_reducible rfl
               rotate_left
               ·simp only [Act.put, sT, sZ, sS, i64_w, i32_w]
                rfl
               refine take_ (i := 7) (N := some 75) (v := ?_) (a' := ?_) #[true, true, true, true, true, true, true, true, false] rfl rfl (take_ofW HT_.out HW_.out (by kernel_rfl)) (fun _ _ _ h => h) (Or.inl ⟨by rfl, ?_⟩) hHeld ?_ ?_
               rotate_left
               ·rintro w' ⟨s0, s1⟩
                go_simp
                with_reducible rfl
               rotate_left
               ·simp only [Act.put, sT, sZ, sS, i64_w, i32_w]
                rfl
               refine pure_ (i := 8) (N := some 76) (v := ?_) (a' := ?_) #[true, true, true, true, true, true, true, true, true] rfl rfl (any_of HT_.out (by kernel_rfl)) (fun _ _ _ h => h) (Or.inl ⟨by rfl, ?_⟩) ?_ ?_
               rotate_left
               ·intro w'
                go_simp
                with_reducible rfl
               rotate_left
               ·simp only [Act.put, sT, sZ, sS, i64_w, i32_w]
                rfl
               refine done_ (done_of HT_.out (by kernel_rfl)) ?_
               try go_wp2
               go_roundg k2
               case measure => have := HJ5.out; have := HK2.out; omega
               case rel => exact ⟨(wrap64 (x7_2 + 1)), (x259000_2), (x259001_2), (x259002_2), (by first | rfl | (simp; done) | (simp [*]; done)), H', ⟨by have := HJ5.out; have := HK2.out; omega⟩, ⟨rq HO_6.out⟩, ⟨rq HO_263003.out⟩, ⟨bq BK258.out⟩, ⟨bq BK262.out⟩, ⟨bw2 HB.out GE258.out GE262.out⟩⟩
              ·rw [if_neg c49] at H
               have c49b0 : ((rd l0 x7_2) == (rd t274 x7_2)) = false := beq_eq_false_iff_ne.mpr c49
               have c49b1 : ((rd l0 x7_2) != (rd t274 x7_2)) = true := bne_iff_ne.mpr c49
               simp only [Option.some.injEq, Prod.mk.injEq] at H
               obtain ⟨rfl, rfl, rfl, rfl, rfl⟩ := H
               try go_wp2
               have n0_ := Ak (Kd.R_drew HO_6.out)
               have n1_ := Ak (Kd.R_drew HO_263003.out)
               have n2_ := Ak (blk_drew BK258.out)
               have n3_ := Ak (blk_drew BK262.out)
               have n4_ := Ak (below_drew1 HB.out)
               clear HO_6
               clear HO_263003
               clear BK258
               clear BK262
               clear HB
               have HO_6 := n0_
               have HO_263003 := n1_
               have BK258 := n2_
               have BK262 := n3_
               have HB := n4_
               clear n0_ n1_ n2_ n3_ n4_
               have p277 : 0 ≤ (x7_2 : Int) := of_decide_eq_true (by first | (with_reducible assumption) | assumption)
               have q277 : x7_2 < (l0.length : Int) := of_decide_eq_true (by first | (with_reducible assumption) | assumption)
               obtain ⟨ad277, e277, hx277_0⟩ := Kd.at_int HR0.out x7_2 p277 q277
               have hw277_0 := hx277_0
               obtain rfl : ad261 = ad277 := (by injection e277)
               replace hx277_0 := (HB.out.cell (World.block_lt_of_cell? w _ hx277_0)).trans hx277_0
               replace p277 := eq_true p277
               replace q277 := eq_true q277
               obtain ⟨Ao53, co53, eo53⟩ := Kd.R_slice HO_6.out
               (first | subst eo53 | (injection eo53 with f1_ f2_ f3_; have f4_ := f1_.symm; have f5_ := f3_.symm; clear f1_ f2_ f3_; subst f4_; subst f5_))
               have p278 : 0 ≤ (x7_2 : Int) := of_decide_eq_true (by first | (with_reducible assumption) | assumption)
               have q278 : x7_2 < (t274.length : Int) := of_decide_eq_true (by first | (with_reducible assumption) | assumption)
               obtain ⟨ad278, e278, hx278_0⟩ := Kd.at_int (Kd.R_reads' HO_6.out).2.2 x7_2 p278 q278
               cases e278
               replace p278 := eq_true p278
               replace q278 := eq_true q278
               refine start_ (n := 9) (S := fun w' => w'.cell? (ad261.add (x7_2).toNat) = some (.int .u8 (rd l0 x7_2)) ∧ w'.cell? (ad278.add (x7_2).toNat) = some (.int .u8 (rd t274 x7_2))) (ds := []) #[false, false, false, false, false, false, false, false, false] (by kernel_rfl) rfl rfl ⟨((HB.out.cell (World.block_lt_of_cell? w _ hw277_0)).trans hw277_0), hx278_0⟩ (fun hHeld => ?_); refine with_tabW spec_l12Read.tab10 spec_l12Read.bits10 (fun HT_ HW_ => ?_)
               generalize wr.drew = w52 at HO_6 HO_263003 BK258 BK262 HB hx277_0 hx278_0 hHeld ⊢
               refine pure_ (i := 0) (N := some 68) (v := ?_) (a' := ?_) #[true, false, false, false, false, false, false, false, false] rfl rfl (any_of HT_.out (by kernel_rfl)) (fun _ _ _ h => h) (Or.inl ⟨by rfl, ?_⟩) ?_ ?_
               rotate_left
               ·intro w'
                go_simp
                with_reducible rfl
               rotate_left
               ·simp only [Act.put, sT, sZ, sS, i64_w, i32_w]
                rfl
               refine pure_ (i := 1) (N := some 69) (v := ?_) (a' := ?_) #[true, true, false, false, false, false, false, false, false] rfl rfl (any_of HT_.out (by kernel_rfl)) (fun _ _ _ h => h) (Or.inl ⟨by rfl, ?_⟩) ?_ ?_
               rotate_left
               ·intro w'
                go_simp
                with_reducible rfl
               rotate_left
               ·simp only [Act.put, sT, sZ, sS, i64_w, i32_w]
                rfl
               refine pure_ (i := 2) (N := some 70) (v := ?_) (a' := ?_) #[true, true, true, false, false, false, false, false, false] rfl rfl (any_of HT_.out (by kernel_rfl)) (fun _ _ _ h => h) (Or.inl ⟨by rfl, ?_⟩) ?_ ?_
               rotate_left
               ·intro w'
                go_simp
                with_reducible rfl
               rotate_left
               ·simp only [Act.put, sT, sZ, sS, i64_w, i32_w]
                rfl
               refine pure_ (i := 4) (N := some 72) (v := ?_) (a' := ?_) #[true, true, true, false, true, false, false, false, false] rfl rfl (any_of HT_.out (by kernel_rfl)) (fun _ _ _ h => h) (Or.inl ⟨by rfl, ?_⟩) ?_ ?_
               rotate_left
               ·intro w'
                go_simp
                with_reducible rfl
               rotate_left
               ·simp only [Act.put, sT, sZ, sS, i64_w, i32_w]
                rfl
               refine pure_ (i := 5) (N := some 73) (v := ?_) (a' := ?_) #[true, true, true, false, true, true, false, false, false] rfl rfl (any_of HT_.out (by kernel_rfl)) (fun _ _ _ h => h) (Or.inl ⟨by rfl, ?_⟩) ?_ ?_
               rotate_left
               ·intro w'
                go_simp
                with_reducible rfl
               rotate_left
               ·simp only [Act.put, sT, sZ, sS, i64_w, i32_w]
                rfl
               refine pure_ (i := 6) (N := some 74) (v := ?_) (a' := ?_) #[true, true, true, false, true, true, true, false, false] rfl rfl (any_of HT_.out (by kernel_rfl)) (fun _ _ _ h => h) (Or.inl ⟨by rfl, ?_⟩) ?_ ?_
               rotate_left
               ·intro w'
                go_simp
                with_reducible rfl
               rotate_left
               ·simp only [Act.put, sT, sZ, sS, i64_w, i32_w]
                rfl
               refine take_ (i := 3) (N := some 71) (v := ?_) (a' := ?_) #[true, true, true, true, true, true, true, false, false] rfl rfl (take_ofW HT_.out HW_.out (by kernel_rfl)) (fun _ _ _ h => h) (Or.inl ⟨by rfl, ?_⟩) hHeld ?_ ?_
               rotate_left
               ·rintro w' ⟨s0, s1⟩
                go_simp
                with_reducible rfl
               rotate_left
               ·simp only [Act.put, sT, sZ, sS, i64_w, i32_w]
                rfl
               refine take_ (i := 7) (N := some 75) (v := ?_) (a' := ?_) #[true, true, true, true, true, true, true, true, false] rfl rfl (take_ofW HT_.out HW_.out (by kernel_rfl)) (fun _ _ _ h => h) (Or.inl ⟨by rfl, ?_⟩) hHeld ?_ ?_
               rotate_left
               ·rintro w' ⟨s0, s1⟩
                go_simp
                with_reducible rfl
               rotate_left
               ·simp only [Act.put, sT, sZ, sS, i64_w, i32_w]
                rfl
               refine pure_ (i := 8) (N := some 76) (v := ?_) (a' := ?_) #[true, true, true, true, true, true, true, true, true] rfl rfl (any_of HT_.out (by kernel_rfl)) (fun _ _ _ h => h) (Or.inl ⟨by rfl, ?_⟩) ?_ ?_
               rotate_left
               ·intro w'
                go_simp
                with_reducible rfl
               rotate_left
               ·simp only [Act.put, sT, sZ, sS, i64_w, i32_w]
                rfl
               refine done_ (done_of HT_.out (by kernel_rfl)) ?_
               have hnb54 := NB258_262.out
               have hnc54 := NB262_258.out
               have hcz55_0 : w52.cell? ⟨gb258, 0, none⟩ = some (.int .i64 x259000_2) := (blk_cell BK258.out 0).trans rfl
               have hcz55_1 : w52.cell? ⟨gb258, 1, none⟩ = some (.int .i64 x259001_2) := (blk_cell BK258.out 1).trans rfl
               have hcz55_2 : w52.cell? ⟨gb258, 2, none⟩ = some (.bool x259002_2) := (blk_cell BK258.out 2).trans rfl
               have hcz55_3 : w52.cell? ⟨gb258, 3, none⟩ = some (.slice none 0 0) := (blk_cell BK258.out 3).trans rfl
               have hfz55_0 := blk_frozen BK258.out 0
               have hfz55_1 := blk_frozen BK258.out 1
               have hfz55_2 := blk_frozen BK258.out 2
               have hfz55_3 := blk_frozen BK258.out 3
               try go_wp2
               refine bodyPost_ret (results_ct rfl _ _ gb258 79 #[.int .i64 0, .int .i64 0, .bool false, .slice none 0 0] (0, 0) _ rfl (by (with_reducible repeat (first | refine blk_drewN ?_ _ | refine blk_drew ?_ | refine blk_alloc ?_ _)); refine blk_put (cs := #[.int .i64 0, .int .i64 0, .bool false, .slice none 0 0]) ?_ 3 _ rfl; (with_reducible repeat (first | refine blk_drewN ?_ _ | refine blk_drew ?_ | refine blk_alloc ?_ _)); refine blk_put (cs := #[.int .i64 0, .int .i64 0, .bool x259002_2, .slice none 0 0]) ?_ 2 _ rfl; (with_reducible repeat (first | refine blk_drewN ?_ _ | refine blk_drew ?_ | refine blk_alloc ?_ _)); refine blk_put (cs := #[.int .i64 0, .int .i64 x259001_2, .bool x259002_2, .slice none 0 0]) ?_ 1 _ rfl; (with_reducible repeat (first | refine blk_drewN ?_ _ | refine blk_drew ?_ | refine blk_alloc ?_ _)); refine blk_put (cs := #[.int .i64 x259000_2, .int .i64 x259001_2, .bool x259002_2, .slice none 0 0]) ?_ 0 _ rfl; (with_reducible repeat (first | refine blk_drewN ?_ _ | refine blk_drew ?_ | refine blk_alloc ?_ _)); exact BK258.out) Try.underlying79 rfl (by kernel_rfl)) rfl ?_
               exact ⟨_, by first | rfl | (simp [errW_none, errW_some] <;> rfl) | (simp [*, errW_none, errW_some] <;> rfl), by first | exact Kd.R_nil _ _ _ _ _ | exact Kd.N_nil _ _ _ _ _ | exact Kd.V_nil _ _ _ _ _ | exact Kd.Q_nil _ _ _ _ _ | exact Kd.S_nil _ _ _ _ _, bw2 HB.out GE258.out GE262.out⟩
             ·rw [if_neg c48] at H
              exact absurd H (by simp)
            ·rw [if_neg c47] at H
             exact absurd H (by simp)
           ·rw [if_neg c46] at H
            have c46b0 : decide (x7_2 < (l0.length : Int)) = false := decide_eq_false c46
            clear c46
            simp only [Option.some.injEq, Prod.mk.injEq] at H
            obtain ⟨rfl, rfl, rfl, rfl, rfl⟩ := H
            have hnb56 := NB262_258.out
            have hnc56 := NB258_262.out
            have hcz57_0 : wr.cell? ⟨gb262, 0, none⟩ = some (.int .i64 t259) := (blk_cell BK262.out 0).trans rfl
            have hcz57_1 : wr.cell? ⟨gb262, 1, none⟩ = some (.int .i64 t260) := (blk_cell BK262.out 1).trans rfl
            have hcz57_2 : wr.cell? ⟨gb262, 2, none⟩ = some (.bool ((rd l0 8) == 1)) := (blk_cell BK262.out 2).trans rfl
            have hcz57_3 : wr.cell? ⟨gb262, 3, none⟩ = some (.slice Ao42 y271.length co42) := (blk_cell BK262.out 3).trans rfl
            have hfz57_0 := blk_frozen BK262.out 0
            have hfz57_1 := blk_frozen BK262.out 1
            have hfz57_2 := blk_frozen BK262.out 2
            have hfz57_3 := blk_frozen BK262.out 3
            have hcz58_0 : wr.cell? ⟨gb258, 0, none⟩ = some (.int .i64 x259000_2) := (blk_cell BK258.out 0).trans rfl
            have hcz58_1 : wr.cell? ⟨gb258, 1, none⟩ = some (.int .i64 x259001_2) := (blk_cell BK258.out 1).trans rfl
            have hcz58_2 : wr.cell? ⟨gb258, 2, none⟩ = some (.bool x259002_2) := (blk_cell BK258.out 2).trans rfl
            have hcz58_3 : wr.cell? ⟨gb258, 3, none⟩ = some (.slice none 0 0) := (blk_cell BK258.out 3).trans rfl
            have hfz58_0 := blk_frozen BK258.out 0
            have hfz58_1 := blk_frozen BK258.out 1
            have hfz58_2 := blk_frozen BK258.out 2
            have hfz58_3 := blk_frozen BK258.out 3
            go_wp2
            refine bodyPost_ret (results_ct rfl _ _ gb258 79 #[.int .i64 t259, .int .i64 t260, .bool ((rd l0 8) == 1), .slice Ao42 y271.length co42] (0, 0) _ rfl (by (with_reducible repeat (first | refine blk_drewN ?_ _ | refine blk_drew ?_ | refine blk_alloc ?_ _)); refine blk_put (cs := #[.int .i64 t259, .int .i64 t260, .bool ((rd l0 8) == 1), .slice none 0 0]) ?_ 3 _ rfl; (with_reducible repeat (first | refine blk_drewN ?_ _ | refine blk_drew ?_ | refine blk_alloc ?_ _)); refine blk_put (cs := #[.int .i64 t259, .int .i64 t260, .bool x259002_2, .slice none 0 0]) ?_ 2 _ rfl; (with_reducible repeat (first | refine blk_drewN ?_ _ | refine blk_drew ?_ | refine blk_alloc ?_ _)); refine blk_put (cs := #[.int .i64 t259, .int .i64 x259001_2, .bool x259002_2, .slice none 0 0]) ?_ 1 _ rfl; (with_reducible repeat (first | refine blk_drewN ?_ _ | refine blk_drew ?_ | refine blk_alloc ?_ _)); refine blk_put (cs := #[.int .i64 x259000_2, .int .i64 x259001_2, .bool x259002_2, .slice none 0 0]) ?_ 0 _ rfl; (with_reducible repeat (first | refine blk_drewN ?_ _ | refine blk_drew ?_ | refine blk_alloc ?_ _)); exact BK258.out) Try.underlying79 rfl (by kernel_rfl)) rfl ?_
            exact ⟨_, by first | rfl | (simp [errW_none, errW_some] <;> rfl) | (simp [*, errW_none, errW_some] <;> rfl), by (with_reducible repeat (first | apply Kd.R_alloc | apply Kd.R_drewN | apply Kd.R_drew)); exact Kd.R_mono (Kd.R_far (p := ⟨gb258, 3, none⟩) (Kd.R_far (p := ⟨gb258, 2, none⟩) (Kd.R_far (p := ⟨gb258, 1, none⟩) (Kd.R_far (p := ⟨gb258, 0, none⟩) (Kd.R_types HO_263003.out BK258.out (by decide)) (fun _ hk => hk.2) (.int .i64 t259)) (fun _ hk => hk.2) (.int .i64 t260)) (fun _ hk => hk.2) (.bool ((rd l0 8) == 1))) (fun _ hk => hk.2) (.slice Ao42 y271.length co42)) (fun _ hk => trivial), bw2 HB.out GE258.out GE262.out⟩
        ·rw [if_neg c36] at H
         exact absurd H (by simp)
       ·rw [if_neg c35] at H
        exact absurd H (by simp)
      ·rw [if_neg c34] at H
       exact absurd H (by simp)
  ·rw [if_neg c5] at H
   exact absurd H (by simp)
 ·rw [if_neg c4] at H
  exact absurd H (by simp)

end Go.Proofs.Ytgmnphckgicadaa.PFnExactLogOpen

