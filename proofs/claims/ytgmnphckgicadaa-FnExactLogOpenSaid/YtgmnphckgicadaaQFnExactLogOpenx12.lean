/- Functions that the law reaches, with their contracts. -/
import Derived.Test.YtgmnphckgicadaaQFnExactLogOpenx10
namespace Go.Proofs.Ytgmnphckgicadaa.PFnExactLogOpen
open Go.RowKit Go.Proofs.YtgmnphckgicadaaW.PrintWords Go.Proofs.YtgmnphckgicadaaW.PrintLast Go.Proofs.YtgmnphckgicadaaW.PrintMore
attribute [local go_sem] max2_int min2_int max_two min_two max_three min_three max_four min_four
set_option linter.unusedVariables false
set_option linter.unusedSimpArgs false

mutual
def spec_ReadSector.j0 : Nat → Int → Bool → List Int → List (S96) → Option (List Int × Bool)
 | 0, _, _, _, _ => none
 | k + 1, x1, x18, x173000, x173001 => if x18 = true then (some ((([] : List Int)), false)) else ((some (([] : List Int) : List Int)).bind fun y179 => (if 0 ≤ (wrap64 (x1 * 64)) then (if (wrap64 (x1 * 64)) ≤ (wrap64 ((wrap64 (x1 + 1)) * 64)) then (if (wrap64 ((wrap64 (x1 + 1)) * 64)) ≤ (x173000.length : Int) then (if y179.length + ((x173000.take ((wrap64 ((wrap64 (x1 + 1)) * 64)) : Int).toNat).drop ((wrap64 (x1 * 64)) : Int).toNat).length < 140737488355328 then (spec_ReadSector.l0 k x1 (y179 ++ ((x173000.take ((wrap64 ((wrap64 (x1 + 1)) * 64)) : Int).toNat).drop ((wrap64 (x1 * 64)) : Int).toNat)) 0 x173000 x173001) else (none)) else (none)) else (none)) else (none)))
def spec_ReadSector.l0 : Nat → Int → List Int → Int → List Int → List (S96) → Option (List Int × Bool)
 | 0, _, _, _, _, _ => none
 | k + 1, x1, x6, x7, x173000, x173001 => if x7 < (x173001.length : Int) then (if 0 ≤ x7 then (if ((rd_T96 x173001 x7).f0) = x1 then ((some (([] : List Int) : List Int)).bind fun y187 => (if y187.length + ((rd_T96 x173001 x7).f1).length < 140737488355328 then (spec_ReadSector.l0 k x1 (y187 ++ ((rd_T96 x173001 x7).f1)) (wrap64 (x7 + 1)) x173000 x173001) else (none))) else (spec_ReadSector.l0 k x1 x6 (wrap64 (x7 + 1)) x173000 x173001)) else (none)) else (some (x6, true))
end
def spec_ReadSector.f (k : Nat) (l0_0 : List Int) (l0_1 : List (S96)) (a1 : Int) : Option (List Int × Bool) := (spec_DiskOk.f k l0_0 l0_1).bind fun t173 => (if t173 = true then ((spec_l11Many.f l0_0 l0_1).bind fun t174 => ((spec_l1In.f a1 0 (wrap64 (t174 - 1))).bind fun t175 => (spec_ReadSector.j0 k a1 (!t175) l0_0 l0_1))) else (spec_ReadSector.j0 k a1 true l0_0 l0_1))
set_option maxHeartbeats 8000000 in
set_option maxRecDepth 100000 in
theorem spec_ReadSector.calls (k : Nat) (A0_0 : Option Addr) (c0_0 : Nat) (l0_0 : List Int) (A0_1 : Option Addr) (c0_1 : Nat) (l0_1 : List (S96)) (a1 : Int) (r1 : List Int) (r2 : Bool) (w : World) (hr0_0 : Kd.C (Kd.int .u8) w A0_0 l0_0.length l0_0) (hc0_0 : l0_0.length ≤ c0_0) (hr0_1 : Kd.C k96 w A0_1 l0_1.length l0_1) (hc0_1 : l0_1.length ≤ c0_1) (h : spec_ReadSector.f k l0_0 l0_1 a1 = some (r1, r2)) :
  Calls Try.prog 57 #[.agg #[.slice A0_0 l0_0.length c0_0, .slice A0_1 l0_1.length c0_1], .int .i64 a1] w fun e w' => ∃ v0_ : Value, e = .returned (.tuple #[v0_, .bool r2]) ∧ Kd.R (Kd.int .u8) 5 w' w.heap.size (fun _ => True) v0_ r1 ∧ Below w.heap.size w w' := by
 have hu31 := Try.underlying31
 have HR0_0 := Ak hr0_0
 have HC0_0 := Ak hc0_0
 clear hr0_0 hc0_0
 have HR0_1 := Ak hr0_1
 have HC0_1 := Ak hc0_1
 clear hr0_1 hc0_1
 have HB := Ak (Below.refl w.heap.size w)
 have H : ((spec_DiskOk.f k l0_0 l0_1).bind fun t173 => (if t173 = true then ((spec_l11Many.f l0_0 l0_1).bind fun t174 => ((spec_l1In.f a1 0 (wrap64 (t174 - 1))).bind fun t175 => (spec_ReadSector.j0 k a1 (!t175) l0_0 l0_1))) else (spec_ReadSector.j0 k a1 true l0_0 l0_1))) = some (r1, r2) := h
 clear h
 have HC3 := Ak H
 clear H
 go_enter Try.func57, Try.ntmps57
 go_upto_region 1 with (first | ((with_reducible refine gate_dst (N := 2) rfl ?_); refine box_event ?hg (N := 2) ?hd (cs := #[.slice A0_0 l0_0.length c0_0, .slice A0_1 l0_1.length c0_1]) (t := 31) ?hr ?_; (case hd => rfl); (case hg => rfl); (case hr => first | (go_simp; done) | (go_simp; rfl)); intro gb172 hg w4 hbox hb; have n0_ := Ak (below_step (bw HB.out) hb); have n1_ := Ak (hbox); have n2_ := Ak ((by rw [hg]; exact (below_size (bw HB.out)) : w.heap.size ≤ gb172)); have n3_ := Ak ((by rw [hg]; exact (below_size (bw HB.out)) : w.heap.size ≤ gb172)); clear HB; have HB := n0_; have BK172 := n1_; have GW172 := n2_; have GE172 := n3_; clear n0_ n1_ n2_ n3_; clear hb hbox hg))
 (try simp only [Act.put, sT, sZ, sS])
 go_cut [18] (fun v18 wc => ∃ (kq : Nat) (x18_2 : Bool), v18 = .bool x18_2 ∧ Aside0 (spec_ReadSector.j0 kq a1 x18_2 l0_0 l0_1 = some (r1, r2)) ∧ Aside0 (kq ≤ k) ∧ Aside0 (wc.heap[gb172]? = some (.cells #[(.slice A0_0 l0_0.length c0_0), (.slice A0_1 l0_1.length c0_1)] 31 (0, 0))) ∧ Aside0 (Below w.heap.size w wc))
 case first =>
  have H := HC3.out
  clear HC3
  replace H := Option.bind_eq_some_iff.mp H
  obtain ⟨t173, A50, H⟩ := H
  replace H : (if t173 = true then ((spec_l11Many.f l0_0 l0_1).bind fun t174 => ((spec_l1In.f a1 0 (wrap64 (t174 - 1))).bind fun t175 => (spec_ReadSector.j0 k a1 (!t175) l0_0 l0_1))) else (spec_ReadSector.j0 k a1 true l0_0 l0_1)) = some (r1, r2) := H
  have A5 := Ak A50
  clear A50
  by_cases c6 : t173 = true
  ·subst c6
   have H1 : ((spec_l11Many.f l0_0 l0_1).bind fun t174 => ((spec_l1In.f a1 0 (wrap64 (t174 - 1))).bind fun t175 => (spec_ReadSector.j0 k a1 (!t175) l0_0 l0_1))) = some (r1, r2) := by rw [if_pos rfl] at H; exact H
   clear H
   have H := H1
   clear H1
   replace H := Option.bind_eq_some_iff.mp H
   obtain ⟨t174, A70, H⟩ := H
   replace H : ((spec_l1In.f a1 0 (wrap64 (t174 - 1))).bind fun t175 => (spec_ReadSector.j0 k a1 (!t175) l0_0 l0_1)) = some (r1, r2) := H
   have A7 := Ak A70
   clear A70
   replace H := Option.bind_eq_some_iff.mp H
   obtain ⟨t175, A80, H⟩ := H
   replace H : (spec_ReadSector.j0 k a1 (!t175) l0_0 l0_1) = some (r1, r2) := H
   have A8 := Ak A80
   clear A80
   have H' := Ak H
   clear H
   have hcz9_0 : w4.cell? ⟨gb172, 0, none⟩ = some (.slice A0_0 l0_0.length c0_0) := (blk_cell BK172.out 0).trans rfl
   have hcz9_1 : w4.cell? ⟨gb172, 1, none⟩ = some (.slice A0_1 l0_1.length c0_1) := (blk_cell BK172.out 1).trans rfl
   have hfz9_0 := blk_frozen BK172.out 0
   have hfz9_1 := blk_frozen BK172.out 1
   go_wp2_with (first | ((with_reducible refine gate_callee (f := 98) rfl ?_); refine goesL_ (some 9) rfl rfl Try.func98 (by kernel_rfl) rfl #[.agg #[.slice A0_0 l0_0.length c0_0, .slice A0_1 l0_1.length c0_1]] rfl gm ?_; (with_reducible refine (spec_DiskOk.calls k _ _ l0_0 _ _ l0_1 true _ ?side1 ?side2 ?side3 ?side4 A5.out).mono ?_); (case side1 => repeat (first | exact (Kd.C_below HR0_0.out HB.out) | (with_reducible refine Kd.C_alloc ?_ _) | (with_reducible refine Kd.C_drewN ?_ _) | (with_reducible refine Kd.C_drew ?_))); (case side2 => exact HC0_0.out); (case side3 => repeat (first | exact (Kd.C_below HR0_1.out HB.out) | (with_reducible refine Kd.C_alloc ?_ _) | (with_reducible refine Kd.C_drewN ?_ _) | (with_reducible refine Kd.C_drew ?_))); (case side4 => exact HC0_1.out); rintro e w10 ⟨rfl, hb⟩; refine ⟨_, rfl, ?_⟩; have n0_ := Ak (blk_below (g := gb172) (o := .cells #[.slice A0_0 l0_0.length c0_0, .slice A0_1 l0_1.length c0_1] 31 (0, 0)) (bq BK172.out) hb); have n1_ := Ak (below_step (bw1 HB.out GE172.out) hb); clear BK172; clear HB; have BK172 := n0_; have HB := n1_; clear n0_ n1_; have hcz11_0 : w10.cell? ⟨gb172, 0, none⟩ = some (.slice A0_0 l0_0.length c0_0) := (blk_cell BK172.out 0).trans rfl; have hcz11_1 : w10.cell? ⟨gb172, 1, none⟩ = some (.slice A0_1 l0_1.length c0_1) := (blk_cell BK172.out 1).trans rfl; have hfz11_0 := blk_frozen BK172.out 0; have hfz11_1 := blk_frozen BK172.out 1) | (go_at_call 104; (with_reducible refine (spec_l11Many.calls _ _ l0_0 _ _ l0_1 t174 _ ?side1 ?side2 ?side3 ?side4 A7.out).mono ?_); (case side1 => repeat (first | exact (Kd.C_below HR0_0.out HB.out) | (with_reducible refine Kd.C_alloc ?_ _) | (with_reducible refine Kd.C_drewN ?_ _) | (with_reducible refine Kd.C_drew ?_))); (case side2 => exact HC0_0.out); (case side3 => repeat (first | exact (Kd.C_below HR0_1.out HB.out) | (with_reducible refine Kd.C_alloc ?_ _) | (with_reducible refine Kd.C_drewN ?_ _) | (with_reducible refine Kd.C_drew ?_))); (case side4 => exact HC0_1.out); rintro e w12 ⟨rfl, hb⟩; have n0_ := Ak (blk_below (g := gb172) (o := .cells #[.slice A0_0 l0_0.length c0_0, .slice A0_1 l0_1.length c0_1] 31 (0, 0)) (bq BK172.out) hb); have n1_ := Ak (below_step (bw1 HB.out GE172.out) hb); clear BK172; clear HB; have BK172 := n0_; have HB := n1_; clear n0_ n1_) | (go_at_call 97; (with_reducible refine (spec_l1In.calls a1 0 (wrap64 (t174 - 1)) t175 _ A8.out).mono ?_); rintro e w' ⟨rfl, ⟨nd, rfl⟩⟩))
   go_meet
   case rel => exact ⟨_, (!t175), (by first | rfl | (simp; done) | (simp [*]; done)), H', ⟨by first | omega | exact Nat.le_refl _⟩, ⟨bq BK172.out⟩, ⟨bw1 HB.out GE172.out⟩⟩
  ·replace c6 := Bool.eq_false_iff.mpr c6
   subst c6
   have H1 : (spec_ReadSector.j0 k a1 true l0_0 l0_1) = some (r1, r2) := by rw [if_neg (show ¬ (false = true) by decide)] at H; exact H
   clear H
   have H := H1
   clear H1
   have H' := Ak H
   clear H
   have hcz13_0 : w4.cell? ⟨gb172, 0, none⟩ = some (.slice A0_0 l0_0.length c0_0) := (blk_cell BK172.out 0).trans rfl
   have hcz13_1 : w4.cell? ⟨gb172, 1, none⟩ = some (.slice A0_1 l0_1.length c0_1) := (blk_cell BK172.out 1).trans rfl
   have hfz13_0 := blk_frozen BK172.out 0
   have hfz13_1 := blk_frozen BK172.out 1
   go_wp2_with (first | ((with_reducible refine gate_callee (f := 98) rfl ?_); refine goesL_ (some 9) rfl rfl Try.func98 (by kernel_rfl) rfl #[.agg #[.slice A0_0 l0_0.length c0_0, .slice A0_1 l0_1.length c0_1]] rfl gm ?_; (with_reducible refine (spec_DiskOk.calls k _ _ l0_0 _ _ l0_1 false _ ?side1 ?side2 ?side3 ?side4 A5.out).mono ?_); (case side1 => repeat (first | exact (Kd.C_below HR0_0.out HB.out) | (with_reducible refine Kd.C_alloc ?_ _) | (with_reducible refine Kd.C_drewN ?_ _) | (with_reducible refine Kd.C_drew ?_))); (case side2 => exact HC0_0.out); (case side3 => repeat (first | exact (Kd.C_below HR0_1.out HB.out) | (with_reducible refine Kd.C_alloc ?_ _) | (with_reducible refine Kd.C_drewN ?_ _) | (with_reducible refine Kd.C_drew ?_))); (case side4 => exact HC0_1.out); rintro e w14 ⟨rfl, hb⟩; refine ⟨_, rfl, ?_⟩; have n0_ := Ak (blk_below (g := gb172) (o := .cells #[.slice A0_0 l0_0.length c0_0, .slice A0_1 l0_1.length c0_1] 31 (0, 0)) (bq BK172.out) hb); have n1_ := Ak (below_step (bw1 HB.out GE172.out) hb); clear BK172; clear HB; have BK172 := n0_; have HB := n1_; clear n0_ n1_))
   go_meet
   case rel => exact ⟨_, (true), (by first | rfl | (simp; done) | (simp [*]; done)), H', ⟨by first | omega | exact Nat.le_refl _⟩, ⟨bq BK172.out⟩, ⟨bw1 HB.out GE172.out⟩⟩
 case rest =>
  clear HC3
  obtain ⟨kq, x18_2, rfl, HA, HJ2, BK172, HB⟩ := hcut
  cases kq with
  | zero => exact absurd HA.out (by simp [spec_ReadSector.j0])
  | succ kj2 =>
   have H := HA.out
   clear HA
   simp only [spec_ReadSector.j0] at H
   by_cases c15 : x18_2 = true
   ·subst c15
    have H1 : (some ((([] : List Int)), false)) = some (r1, r2) := by rw [if_pos rfl] at H; exact H
    clear H
    have H := H1
    clear H1
    obtain ⟨y176, hy176⟩ : ∃ y_ : List Int, y_ = (([] : List Int)) := ⟨_, rfl⟩
    replace H : (some (y176, false)) = some (r1, r2) := by first | (rw [hy176]; with_reducible exact H) | (have H2_ := (Option.bind_some _ _).symm.trans H; rw [hy176]; with_reducible exact H2_) | (have H2_ := (Option.bind_some _ _).symm.trans H; with_reducible exact H2_) | with_reducible exact H | (rw [hy176]; exact H) | exact H
    have Ny176 := Ak hy176
    clear hy176
    simp only [Option.some.injEq, Prod.mk.injEq] at H
    obtain ⟨rfl, rfl⟩ := H
    go_wp2_with (first | ((with_reducible refine gate_dst (N := 19) rfl ?_); refine Kd.R_lit (Kd.int .u8) _ 5 ?hg (N := 19) ?hd (xs := ([] : List Int)) (inner := []) (ok := fun _ => True) (okp := fun _ => True) ?hr ?hp (fun _ hk => hk) trivial (Below.refl _ _) (Nat.le_refl _) (by simp) ?_; (case hd => rfl); (case hg => rfl); (case hr => first | (go_simp; done) | (go_simp; rfl)); (case hp => exact (Reps.none _ _)); intro v177 w16 ho17 hb hg_ hnew_; clear hg_ hnew_; (first | rw [← Ny176.out] at ho17 | (simp only [Int.reduceToNat] at ho17; rw [← Ny176.out] at ho17)); have n0_ := Ak (Kd.R_lower ho17 (below_size (bw1 HB.out GE172.out))); have n1_ := Ak (blk_below (g := gb172) (o := .cells #[.slice A0_0 l0_0.length c0_0, .slice A0_1 l0_1.length c0_1] 31 (0, 0)) (bq BK172.out) hb); have n2_ := Ak (below_step (bw1 HB.out GE172.out) hb); clear BK172; clear HB; have HO178 := n0_; have BK172 := n1_; have HB := n2_; clear n0_ n1_ n2_; clear hb ho17))
    go_ret2
    exact ⟨_, by first | rfl | (simp [errW_none, errW_some] <;> rfl) | (simp [*, errW_none, errW_some] <;> rfl), rq HO178.out, bw1 HB.out GE172.out⟩
   ·replace c15 := Bool.eq_false_iff.mpr c15
    subst c15
    have H1 : ((some (([] : List Int) : List Int)).bind fun y179 => (if 0 ≤ (wrap64 (a1 * 64)) then (if (wrap64 (a1 * 64)) ≤ (wrap64 ((wrap64 (a1 + 1)) * 64)) then (if (wrap64 ((wrap64 (a1 + 1)) * 64)) ≤ (l0_0.length : Int) then (if y179.length + ((l0_0.take ((wrap64 ((wrap64 (a1 + 1)) * 64)) : Int).toNat).drop ((wrap64 (a1 * 64)) : Int).toNat).length < 140737488355328 then (spec_ReadSector.l0 kj2 a1 (y179 ++ ((l0_0.take ((wrap64 ((wrap64 (a1 + 1)) * 64)) : Int).toNat).drop ((wrap64 (a1 * 64)) : Int).toNat)) 0 l0_0 l0_1) else (none)) else (none)) else (none)) else (none))) = some (r1, r2) := by rw [if_neg (show ¬ (false = true) by decide)] at H; exact H
    clear H
    have H := H1
    clear H1
    obtain ⟨y179, hy179⟩ : ∃ y_ : List Int, y_ = (([] : List Int)) := ⟨_, rfl⟩
    replace H : (if 0 ≤ (wrap64 (a1 * 64)) then (if (wrap64 (a1 * 64)) ≤ (wrap64 ((wrap64 (a1 + 1)) * 64)) then (if (wrap64 ((wrap64 (a1 + 1)) * 64)) ≤ (l0_0.length : Int) then (if y179.length + ((l0_0.take ((wrap64 ((wrap64 (a1 + 1)) * 64)) : Int).toNat).drop ((wrap64 (a1 * 64)) : Int).toNat).length < 140737488355328 then (spec_ReadSector.l0 kj2 a1 (y179 ++ ((l0_0.take ((wrap64 ((wrap64 (a1 + 1)) * 64)) : Int).toNat).drop ((wrap64 (a1 * 64)) : Int).toNat)) 0 l0_0 l0_1) else (none)) else (none)) else (none)) else (none)) = some (r1, r2) := by first | (rw [hy179]; with_reducible exact H) | (have H2_ := (Option.bind_some _ _).symm.trans H; rw [hy179]; with_reducible exact H2_) | (have H2_ := (Option.bind_some _ _).symm.trans H; with_reducible exact H2_) | with_reducible exact H | (rw [hy179]; exact H) | exact H
    have Ny179 := Ak hy179
    clear hy179
    obtain ⟨ji18, hji18⟩ : ∃ j_ : Int, (wrap64 (a1 * 64)) = j_ := ⟨_, rfl⟩
    replace H : (if 0 ≤ (ji18) then (if (ji18) ≤ (wrap64 ((wrap64 (a1 + 1)) * 64)) then (if (wrap64 ((wrap64 (a1 + 1)) * 64)) ≤ (l0_0.length : Int) then (if y179.length + ((l0_0.take ((wrap64 ((wrap64 (a1 + 1)) * 64)) : Int).toNat).drop ((ji18) : Int).toNat).length < 140737488355328 then (spec_ReadSector.l0 kj2 a1 (y179 ++ ((l0_0.take ((wrap64 ((wrap64 (a1 + 1)) * 64)) : Int).toNat).drop ((ji18) : Int).toNat)) 0 l0_0 l0_1) else (none)) else (none)) else (none)) else (none)) = some (r1, r2) := by first | (rw [hji18] at H; exact H) | (simp only [hji18] at H ⊢; exact H)
    have hji18w : (IntKind.i64.wrap (a1 * 64)) = ji18 := (i64_w _).trans hji18
    by_cases c19 : 0 ≤ (ji18)
    ·rw [if_pos c19] at H
     have c19b0 := eq_true c19
     have c19b1 : decide (0 ≤ (ji18)) = true := decide_eq_true c19
     clear c19
     by_cases c20 : (ji18) ≤ (wrap64 ((wrap64 (a1 + 1)) * 64))
     ·rw [if_pos c20] at H
      have c20b0 := eq_true c20
      have c20b1 : decide ((ji18) ≤ (wrap64 ((wrap64 (a1 + 1)) * 64))) = true := decide_eq_true c20
      by_cases c21 : (wrap64 ((wrap64 (a1 + 1)) * 64)) ≤ (l0_0.length : Int)
      ·rw [if_pos c21] at H
       have c21b0 := eq_true c21
       have c21b1 : decide ((wrap64 ((wrap64 (a1 + 1)) * 64)) ≤ (l0_0.length : Int)) = true := decide_eq_true c21
       by_cases c22 : y179.length + ((l0_0.take ((wrap64 ((wrap64 (a1 + 1)) * 64)) : Int).toNat).drop ((ji18) : Int).toNat).length < 140737488355328
       ·rw [if_pos c22] at H
        have LMc22 := Ak c22
        clear c22
        obtain ⟨y183, hy183⟩ : ∃ y_ : List Int, y_ = (y179 ++ ((l0_0.take ((wrap64 ((wrap64 (a1 + 1)) * 64)) : Int).toNat).drop ((ji18) : Int).toNat)) := ⟨_, rfl⟩
        replace H : (spec_ReadSector.l0 kj2 a1 y183 0 l0_0 l0_1) = some (r1, r2) := by first | (rw [hy183]; with_reducible exact H) | (have H2_ := (Option.bind_some _ _).symm.trans H; rw [hy183]; with_reducible exact H2_) | (have H2_ := (Option.bind_some _ _).symm.trans H; with_reducible exact H2_) | with_reducible exact H | (rw [hy183]; exact H) | exact H
        have Ny183 := Ak hy183
        clear hy183
        have H' := Ak H
        clear H
        go_wp2_with (first | ((with_reducible refine gate_dst (N := 20) rfl ?_); refine Kd.R_lit (Kd.int .u8) _ 5 ?hg (N := 20) ?hd (xs := ([] : List Int)) (inner := []) (ok := fun _ => True) (okp := fun _ => True) ?hr ?hp (fun _ hk => hk) trivial (Below.refl _ _) (Nat.le_refl _) (by simp) ?_; (case hd => rfl); (case hg => rfl); (case hr => first | (go_simp; done) | (go_simp; rfl)); (case hp => exact (Reps.none _ _)); intro v180 w23 ho24 hb hg_ hnew_; clear hg_ hnew_; (first | rw [← Ny179.out] at ho24 | (simp only [Int.reduceToNat] at ho24; rw [← Ny179.out] at ho24)); have n0_ := Ak (Kd.R_lower ho24 (below_size (bw1 HB.out GE172.out))); have n1_ := Ak (blk_below (g := gb172) (o := .cells #[.slice A0_0 l0_0.length c0_0, .slice A0_1 l0_1.length c0_1] 31 (0, 0)) (bq BK172.out) hb); have n2_ := Ak (below_step (bw1 HB.out GE172.out) hb); clear BK172; clear HB; have HO181 := n0_; have BK172 := n1_; have HB := n2_; clear n0_ n1_ n2_; clear hb ho24; have hcz25_0 : w23.cell? ⟨gb172, 0, none⟩ = some (.slice A0_0 l0_0.length c0_0) := (blk_cell BK172.out 0).trans rfl; have hcz25_1 : w23.cell? ⟨gb172, 1, none⟩ = some (.slice A0_1 l0_1.length c0_1) := (blk_cell BK172.out 1).trans rfl; have hfz25_0 := blk_frozen BK172.out 0; have hfz25_1 := blk_frozen BK172.out 1; obtain ⟨i026, hi026, _, hsz26, _⟩ := info_parts info5; obtain ⟨A26, hcut26, hA26, hC26⟩ := print_mid_of (P := Try.prog) (Value.int .u8) 0 22 5 .i64 .i64 Try.underlying22 hi026 hsz26 A0_0 c0_0 l0_0 (ji18) (wrap64 ((wrap64 (a1 + 1)) * 64)) (of_decide_eq_true (by first | (with_reducible assumption) | assumption)) (by first | omega | exact of_decide_eq_true (by first | (with_reducible assumption) | assumption)) (of_decide_eq_true (by first | (with_reducible assumption) | assumption)) HC0_0.out; have HR182 := Ak (Kd.C_of_reads (h1 := fun _ => rfl) (hA26 _ (Kd.reads_of_C HR0_0.out))); have HC182 := Ak hC26; clear hA26 hC26 hi026 hsz26) | ((with_reducible refine gate_builtin (b := .append) (xs := #[.tmp 20, .tmp 28]) rfl ?_); at_builtin; refine Kd.R_append_rows (Kd.int .u8) (w0 := w) w.heap.size rfl (.tmp 20) (.tmp 28) 22 5 (.int .u8 0) 1 rfl Try.underlying22 info5 rfl (by decide) (by omega) v180 y179 ((l0_0.take ((wrap64 ((wrap64 (a1 + 1)) * 64)) : Int).toNat).drop ((ji18) : Int).toNat) _ _ _ (fun _ => True) (fun _ => False) rfl rfl ?aO ?aR (fun _ _ h => h) (fun _ h => h.elim) ?aF ?aB ?aS ?aL ?_; (case aR => first | (rw [← show ((l0_0.take ((wrap64 ((wrap64 (a1 + 1)) * 64)) : Int).toNat).drop ((ji18) : Int).toNat).length = ((wrap64 ((wrap64 (a1 + 1)) * 64)).toNat - (ji18).toNat) from (by rw [List.length_drop, List.length_take]; have h_ : ((wrap64 ((wrap64 (a1 + 1)) * 64)) : Int) ≤ (l0_0.length : Int) := of_decide_eq_true (by first | (with_reducible assumption) | assumption); omega)]; repeat (first | exact (Kd.C_below HR182.out HB.out) | (with_reducible refine Kd.C_alloc ?_ _) | (with_reducible refine Kd.C_drewN ?_ _) | (with_reducible refine Kd.C_drew ?_))) | (repeat (first | exact (Kd.C_below HR182.out HB.out) | (with_reducible refine Kd.C_alloc ?_ _) | (with_reducible refine Kd.C_drewN ?_ _) | (with_reducible refine Kd.C_drew ?_)))); (case aB => exact (bw1 HB.out GE172.out)); (case aF => exact (fun _ _ => trivial)); (case aO => exact (rq HO181.out)); (case aS => exact (below_size (bw1 HB.out GE172.out))); (case aL => have := LMc22.out; have hlx_ := (show ((l0_0.take ((wrap64 ((wrap64 (a1 + 1)) * 64)) : Int).toNat).drop ((ji18) : Int).toNat).length = ((wrap64 ((wrap64 (a1 + 1)) * 64)).toNat - (ji18).toNat) from (by rw [List.length_drop, List.length_take]; have h_ : ((wrap64 ((wrap64 (a1 + 1)) * 64)) : Int) ≤ (l0_0.length : Int) := of_decide_eq_true (by first | (with_reducible assumption) | assumption); omega)); omega); intro v184 w27 ho hb hg hat; rw [← Ny183.out] at ho; have n0_ := Ak (blk_grown (g := gb172) (o := .cells #[.slice A0_0 l0_0.length c0_0, .slice A0_1 l0_1.length c0_1] 31 (0, 0)) (bq BK172.out) hg (Kd.R_ne HO181.out BK172.out (by decide))); have n1_ := Ak (hb); have n2_ := Ak (ho); clear BK172; clear HB; clear HO181; have BK172 := n0_; have HB := n1_; have HO185 := n2_; clear n0_ n1_ n2_; clear ho hb hg hat))
        go_loopg [6, 7] kj2 (fun kq v6 v7 w' => ∃ (x6_2 : List Int) (x7_2 : Int), v7 = .int .i64 x7_2 ∧ Aside0 (spec_ReadSector.l0 kq a1 x6_2 x7_2 l0_0 l0_1 = some (r1, r2)) ∧ Aside0 (kq ≤ kj2) ∧ Aside0 (Kd.R (Kd.int .u8) 5 w' w.heap.size (fun _ => True) v6 x6_2) ∧ Aside0 (w'.heap[gb172]? = some (.cells #[(.slice A0_0 l0_0.length c0_0), (.slice A0_1 l0_1.length c0_1)] 31 (0, 0))) ∧ Aside0 (Below w.heap.size w w'))
        case atStart => exact ⟨(y183), (0), (by first | rfl | (simp; done) | (simp [*]; done)), H', ⟨Nat.le_refl _⟩, ⟨rq HO185.out⟩, ⟨bq BK172.out⟩, ⟨bw1 HB.out GE172.out⟩⟩
        case round =>
         clear H'
         try clear c19b0
         try clear c19b1
         try clear c20b0
         try clear c20b1
         try clear c21b0
         try clear c21b1
         obtain ⟨x6_2, x7_2, rfl, HA, HK2, HO_6, BK172, HB⟩ := hrel
         cases gk with
         | zero => exact absurd HA.out (by simp [spec_ReadSector.l0])
         | succ k2 =>
          have H := HA.out
          clear HA
          simp only [spec_ReadSector.l0] at H
          by_cases c28 : x7_2 < (l0_1.length : Int)
          ·rw [if_pos c28] at H
           have c28b0 : decide (x7_2 < (l0_1.length : Int)) = true := decide_eq_true c28
           clear c28
           by_cases c29 : 0 ≤ x7_2
           ·rw [if_pos c29] at H
            have c29b0 : decide (0 ≤ x7_2) = true := decide_eq_true c29
            clear c29
            by_cases c30 : ((rd_T96 l0_1 x7_2).f0) = a1
            ·rw [if_pos c30] at H
             have c30b0 : (((rd_T96 l0_1 x7_2).f0) == a1) = true := beq_iff_eq.mpr c30
             have c30b1 : (((rd_T96 l0_1 x7_2).f0) != a1) = false := bne_eq_false_iff_eq.mpr c30
             clear c30
             obtain ⟨y187, hy187⟩ : ∃ y_ : List Int, y_ = (([] : List Int)) := ⟨_, rfl⟩
             replace H : (if y187.length + ((rd_T96 l0_1 x7_2).f1).length < 140737488355328 then (spec_ReadSector.l0 k2 a1 (y187 ++ ((rd_T96 l0_1 x7_2).f1)) (wrap64 (x7_2 + 1)) l0_0 l0_1) else (none)) = some (r1, r2) := by first | (rw [hy187]; with_reducible exact H) | (have H2_ := (Option.bind_some _ _).symm.trans H; rw [hy187]; with_reducible exact H2_) | (have H2_ := (Option.bind_some _ _).symm.trans H; with_reducible exact H2_) | with_reducible exact H | (rw [hy187]; exact H) | exact H
             have Ny187 := Ak hy187
             clear hy187
             by_cases c31 : y187.length + ((rd_T96 l0_1 x7_2).f1).length < 140737488355328
             ·rw [if_pos c31] at H
              have LMc31 := Ak c31
              clear c31
              obtain ⟨y191, hy191⟩ : ∃ y_ : List Int, y_ = (y187 ++ ((rd_T96 l0_1 x7_2).f1)) := ⟨_, rfl⟩
              replace H : (spec_ReadSector.l0 k2 a1 y191 (wrap64 (x7_2 + 1)) l0_0 l0_1) = some (r1, r2) := by first | (rw [hy191]; with_reducible exact H) | (have H2_ := (Option.bind_some _ _).symm.trans H; rw [hy191]; with_reducible exact H2_) | (have H2_ := (Option.bind_some _ _).symm.trans H; with_reducible exact H2_) | with_reducible exact H | (rw [hy191]; exact H) | exact H
              have Ny191 := Ak hy191
              clear hy191
              have H' := Ak H
              clear H
              have hcz32_0 : wr.cell? ⟨gb172, 0, none⟩ = some (.slice A0_0 l0_0.length c0_0) := (blk_cell BK172.out 0).trans rfl
              have hcz32_1 : wr.cell? ⟨gb172, 1, none⟩ = some (.slice A0_1 l0_1.length c0_1) := (blk_cell BK172.out 1).trans rfl
              have hfz32_0 := blk_frozen BK172.out 0
              have hfz32_1 := blk_frozen BK172.out 1
              have p186 : 0 ≤ (x7_2 : Int) := of_decide_eq_true (by first | (with_reducible assumption) | assumption)
              have q186 : x7_2 < (l0_1.length : Int) := of_decide_eq_true (by first | (with_reducible assumption) | assumption)
              obtain ⟨ad186, A186_1, c186_1, e186, hx186_0, hx186_1, hl186_1, hi186_1⟩ := at_T96 HR0_1.out x7_2 p186 q186
              cases e186
              replace hx186_0 := (HB.out.cell (World.block_lt_of_cell? w _ hx186_0)).trans hx186_0
              replace hx186_1 := (HB.out.cell (World.block_lt_of_cell? w _ hx186_1)).trans hx186_1
              have HR186_1 := Ak hi186_1
              have HC186_1 := Ak hl186_1
              clear hi186_1 hl186_1
              replace p186 := eq_true p186
              replace q186 := eq_true q186
              go_wp2_with (first | ((with_reducible refine gate_dst (N := 45) rfl ?_); refine Kd.R_lit (Kd.int .u8) _ 5 ?hg (N := 45) ?hd (xs := ([] : List Int)) (inner := []) (ok := fun _ => True) (okp := fun _ => True) ?hr ?hp (fun _ hk => hk) trivial (Below.refl _ _) (Nat.le_refl _) (by simp) ?_; (case hd => rfl); (case hg => rfl); (case hr => first | (go_simp; done) | (go_simp; rfl)); (case hp => exact (Reps.none _ _)); intro v188 w33 ho34 hb hg_ hnew_; clear hg_ hnew_; (first | rw [← Ny187.out] at ho34 | (simp only [Int.reduceToNat] at ho34; rw [← Ny187.out] at ho34)); have n0_ := Ak (Kd.R_elder' (rq HO_6.out) (Kd.R_base ho34) hb); have n1_ := Ak (Kd.R_lower (Kd.R_new' ho34 (Kd.R_lt (rq HO_6.out))) (below_size (bw1 HB.out GE172.out))); have n2_ := Ak (blk_below (g := gb172) (o := .cells #[.slice A0_0 l0_0.length c0_0, .slice (some ad186) l0_1.length c0_1] 31 (0, 0)) (bq BK172.out) hb); have n3_ := Ak (below_step (bw1 HB.out GE172.out) hb); clear HO_6; clear BK172; clear HB; have HO_6 := n0_; have HO189 := n1_; have BK172 := n2_; have HB := n3_; clear n0_ n1_ n2_ n3_; clear hb ho34; have hcz35_0 : w33.cell? ⟨gb172, 0, none⟩ = some (.slice A0_0 l0_0.length c0_0) := (blk_cell BK172.out 0).trans rfl; have hcz35_1 : w33.cell? ⟨gb172, 1, none⟩ = some (.slice (some ad186) l0_1.length c0_1) := (blk_cell BK172.out 1).trans rfl; have hfz35_0 := blk_frozen BK172.out 0; have hfz35_1 := blk_frozen BK172.out 1; have p190 : 0 ≤ (x7_2 : Int) := of_decide_eq_true (by first | (with_reducible assumption) | assumption); have q190 : x7_2 < (l0_1.length : Int) := of_decide_eq_true (by first | (with_reducible assumption) | assumption); obtain ⟨ad190, A190_1, c190_1, e190, hx190_0, hx190_1, hl190_1, hi190_1⟩ := at_T96 HR0_1.out x7_2 p190 q190; obtain rfl : ad186 = ad190 := (by injection e190); replace hx190_0 := (HB.out.cell (World.block_lt_of_cell? w _ hx190_0)).trans hx190_0; replace hx190_1 := (HB.out.cell (World.block_lt_of_cell? w _ hx190_1)).trans hx190_1; have HR190_1 := Ak hi190_1; have HC190_1 := Ak hl190_1; clear hi190_1 hl190_1; replace p190 := eq_true p190; replace q190 := eq_true q190) | ((with_reducible refine gate_builtin (b := .append) (xs := #[.tmp 45, .tmp 51]) rfl ?_); at_builtin; refine Kd.R_append_rows (Kd.int .u8) (w0 := w) w.heap.size rfl (.tmp 45) (.tmp 51) 22 5 (.int .u8 0) 1 rfl Try.underlying22 info5 rfl (by decide) (by omega) v188 y187 ((rd_T96 l0_1 x7_2).f1) _ _ _ (fun k_ => some k_ ≠ (u6 : Value).ownBlock) (fun _ => False) rfl rfl ?aO ?aR (fun _ _ h => h) (fun _ h => h.elim) ?aF ?aB ?aS ?aL ?_; (case aR => repeat (first | exact (Kd.C_below HR190_1.out HB.out) | (with_reducible refine Kd.C_alloc ?_ _) | (with_reducible refine Kd.C_drewN ?_ _) | (with_reducible refine Kd.C_drew ?_))); (case aB => exact (bw1 HB.out GE172.out)); (case aF => exact (fun k_ hk => Kd.fresh' (Kd.R_lt (rq HO_6.out)) k_ hk)); (case aO => exact (by (with_reducible repeat (first | apply Kd.R_alloc | apply Kd.R_drewN | apply Kd.R_drew)); exact Kd.R_mono HO189.out (fun _ hk => hk.2))); (case aS => exact (below_size (bw1 HB.out GE172.out))); (case aL => have := LMc31.out; omega); intro v192 w36 ho hb hg hat; rw [← Ny191.out] at ho; have n0_ := Ak (Kd.R_after (ok := (fun _ => True)) (rq HO_6.out) hg hat); have n1_ := Ak (blk_grown (g := gb172) (o := .cells #[.slice A0_0 l0_0.length c0_0, .slice (some ad186) l0_1.length c0_1] 31 (0, 0)) (bq BK172.out) hg (Kd.R_ne HO189.out BK172.out (by decide))); have n2_ := Ak (hb); have n3_ := Ak (ho); clear HO_6; clear BK172; clear HB; clear HO189; have HO_6 := n0_; have BK172 := n1_; have HB := n2_; have HO193 := n3_; clear n0_ n1_ n2_ n3_; clear ho hb hg hat))
              go_roundg k2
              case measure => have := HJ2.out; have := HK2.out; omega
              case rel => exact ⟨(y191), (wrap64 (x7_2 + 1)), (by first | rfl | (simp; done) | (simp [*]; done)), H', ⟨by have := HJ2.out; have := HK2.out; omega⟩, ⟨by (with_reducible repeat (first | apply Kd.R_alloc | apply Kd.R_drewN | apply Kd.R_drew)); exact Kd.R_mono HO193.out (fun _ hk => trivial)⟩, ⟨bq BK172.out⟩, ⟨bw1 HB.out GE172.out⟩⟩
             ·rw [if_neg c31] at H
              exact absurd H (by simp)
            ·rw [if_neg c30] at H
             have c30b0 : (((rd_T96 l0_1 x7_2).f0) == a1) = false := beq_eq_false_iff_ne.mpr c30
             have c30b1 : (((rd_T96 l0_1 x7_2).f0) != a1) = true := bne_iff_ne.mpr c30
             have H' := Ak H
             clear H
             have hcz37_0 : wr.cell? ⟨gb172, 0, none⟩ = some (.slice A0_0 l0_0.length c0_0) := (blk_cell BK172.out 0).trans rfl
             have hcz37_1 : wr.cell? ⟨gb172, 1, none⟩ = some (.slice A0_1 l0_1.length c0_1) := (blk_cell BK172.out 1).trans rfl
             have hfz37_0 := blk_frozen BK172.out 0
             have hfz37_1 := blk_frozen BK172.out 1
             have p186 : 0 ≤ (x7_2 : Int) := of_decide_eq_true (by first | (with_reducible assumption) | assumption)
             have q186 : x7_2 < (l0_1.length : Int) := of_decide_eq_true (by first | (with_reducible assumption) | assumption)
             obtain ⟨ad186, A186_1, c186_1, e186, hx186_0, hx186_1, hl186_1, hi186_1⟩ := at_T96 HR0_1.out x7_2 p186 q186
             cases e186
             replace hx186_0 := (HB.out.cell (World.block_lt_of_cell? w _ hx186_0)).trans hx186_0
             replace hx186_1 := (HB.out.cell (World.block_lt_of_cell? w _ hx186_1)).trans hx186_1
             have HR186_1 := Ak hi186_1
             have HC186_1 := Ak hl186_1
             clear hi186_1 hl186_1
             replace p186 := eq_true p186
             replace q186 := eq_true q186
             go_wp2
             go_roundg k2
             case measure => have := HJ2.out; have := HK2.out; omega
             case rel => exact ⟨(x6_2), (wrap64 (x7_2 + 1)), (by first | rfl | (simp; done) | (simp [*]; done)), H', ⟨by have := HJ2.out; have := HK2.out; omega⟩, ⟨rq HO_6.out⟩, ⟨bq BK172.out⟩, ⟨bw1 HB.out GE172.out⟩⟩
           ·rw [if_neg c29] at H
            exact absurd H (by simp)
          ·rw [if_neg c28] at H
           have c28b0 : decide (x7_2 < (l0_1.length : Int)) = false := decide_eq_false c28
           clear c28
           simp only [Option.some.injEq, Prod.mk.injEq] at H
           obtain ⟨rfl, rfl⟩ := H
           have hcz38_0 : wr.cell? ⟨gb172, 0, none⟩ = some (.slice A0_0 l0_0.length c0_0) := (blk_cell BK172.out 0).trans rfl
           have hcz38_1 : wr.cell? ⟨gb172, 1, none⟩ = some (.slice A0_1 l0_1.length c0_1) := (blk_cell BK172.out 1).trans rfl
           have hfz38_0 := blk_frozen BK172.out 0
           have hfz38_1 := blk_frozen BK172.out 1
           go_wp2
           go_ret2
           exact ⟨_, by first | rfl | (simp [errW_none, errW_some] <;> rfl) | (simp only [← hji18]; first | rfl | (simp [errW_none, errW_some] <;> rfl)) | (simp [*, errW_none, errW_some] <;> rfl), rq HO_6.out, bw1 HB.out GE172.out⟩
       ·rw [if_neg c22] at H
        exact absurd H (by simp)
      ·rw [if_neg c21] at H
       exact absurd H (by simp)
     ·rw [if_neg c20] at H
      exact absurd H (by simp)
    ·rw [if_neg c19] at H
     exact absurd H (by simp)

end Go.Proofs.Ytgmnphckgicadaa.PFnExactLogOpen

