/- The functions that the law FnSorted reaches, each with what it computes and its contract. -/
import Derived.Test.YtinilabmffjnaaaQFnSortedx0
import Derived.Test.YtinilabmffjnaaaQFnSortedx10
import Derived.Test.YtinilabmffjnaaaQFnSortedx17
namespace Go.Proofs.Ytinilabmffjnaaa.PFnSorted
open Go.RowKit Go.Proofs.YtinilabmffjnaaaW.PrintWords Go.Proofs.YtinilabmffjnaaaW.PrintLast Go.Proofs.YtinilabmffjnaaaW.PrintMore
attribute [local go_sem] max2_int min2_int max_two min_two max_three min_three max_four min_four
set_option linter.unusedVariables false
set_option linter.unusedSimpArgs false

def impl_CurveSort.l0 : Nat → List Int → List (S75) → Int → Int → List Int → Option (List Int)
 | 0, _, _, _, _, _ => none
 | k + 1, x4, x16, x17, x18, x291000 => if x18 < x17 then (if 0 ≤ x18 then (if x18 < (x16.length : Int) then ((impl_CurveKey.f k ((rd_T75 x16 x18).f0.f0) ((rd_T75 x16 x18).f0.f1) ((rd_T75 x16 x18).f1.f0) ((rd_T75 x16 x18).f1.f1)).bind fun t296 => (if x18 < (x291000.length : Int) then (if x18 < (x4.length : Int) then (impl_CurveSort.l0 k (x4.set (x18 : Int).toNat x18) x16 x17 (wrap64 (x18 + 1)) (x291000.set (x18 : Int).toNat t296)) else (none)) else (none))) else (none)) else (none)) else ((slices_SortStableFunc_int_int.f k x4 x291000).bind fun t299 => (some t299))
def impl_CurveSort.f (k : Nat) (l0 : List (S75)) : Option (List Int) := if (l0.length : Int) > 500 then (some ([] : List Int)) else (if 0 ≤ (l0.length : Int) then (if ((l0.length : Int) : Int).toNat ≤ 35184372088832 then (impl_CurveSort.l0 k (List.replicate ((l0.length : Int) : Int).toNat 0) l0 (l0.length : Int) 0 (List.replicate ((l0.length : Int) : Int).toNat 0)) else (none)) else (none))
def impl_CurveSort.T8 : Bool × List (List Nat × List Nat) := (true, [([], []), ([], []), ([], []), ([], []), ([], []), ([4], [4]), ([], []), ([0, 1, 0, 1, 4, 5], [0, 1]), ([7, 5, 5, 0, 1, 4, 5], [5, 7]), ([2, 3, 0, 1, 2, 3, 4, 5, 6, 7, 8], [2, 3]), ([9, 6, 8, 0, 1, 2, 3, 4, 5, 6, 7, 8], [6, 9])])
def impl_CurveSort.B8 : List Nat := [0, 0, 0, 0, 0, 16, 0, 51, 179, 511, 1023]
theorem impl_CurveSort.tab8 : rtab .any (opsOf Try.f43 8) = impl_CurveSort.T8 := by kernel_rfl
theorem impl_CurveSort.bits8 : waitsOk impl_CurveSort.T8.2 impl_CurveSort.B8 = true := by kernel_rfl
set_option maxHeartbeats 8000000 in
set_option maxRecDepth 100000 in
theorem impl_CurveSort.calls (k : Nat) (A0 : Option Addr) (c0 : Nat) (l0 : List (S75)) (r : List Int) (w : World) (hr0 : Kd.C k75 w A0 l0.length l0) (hc0 : l0.length ≤ c0) (h : impl_CurveSort.f k l0 = some r) :
  Calls Try.prog 43 #[.slice A0 l0.length c0] w fun e w' => ∃ v0_ : Value, e = .returned (v0_) ∧ Kd.R (Kd.int .i64) 3 w' w.heap.size (fun _ => True) v0_ r ∧ Below w.heap.size w w' := by
 have hu75 := Try.underlying75
 have HR0 := Ak hr0
 have HC0 := Ak hc0
 clear hr0 hc0
 have HB := Ak (Below.refl w.heap.size w)
 have H : (if (l0.length : Int) > 500 then (some ([] : List Int)) else (if 0 ≤ (l0.length : Int) then (if ((l0.length : Int) : Int).toNat ≤ 35184372088832 then (impl_CurveSort.l0 k (List.replicate ((l0.length : Int) : Int).toNat 0) l0 (l0.length : Int) 0 (List.replicate ((l0.length : Int) : Int).toNat 0)) else (none)) else (none))) = some r := h
 clear h
 by_cases c2 : (l0.length : Int) > 500
 ·rw [if_pos c2] at H
  have c2b0 : decide (500 < (l0.length : Int)) = true := decide_eq_true c2
  have c2b1 : decide (500 < l0.length) = true := decide_eq_true (by omega)
  clear c2
  obtain rfl := Option.some.inj H
  go_enter Try.func43, Try.ntmps43
  go_wp2
  go_ret
  exact ⟨_, by first | rfl | (simp [errW_none, errW_some] <;> rfl) | (simp [*, errW_none, errW_some] <;> rfl), by first | exact Kd.R_nil _ _ _ _ _ | exact Kd.N_nil _ _ _ _ _ | exact Kd.V_nil _ _ _ _ _ | exact Kd.Q_nil _ _ _ _ _ | exact Kd.S_nil _ _ _ _ _, bw HB.out⟩
 ·rw [if_neg c2] at H
  have c2b0 : decide (500 < (l0.length : Int)) = false := decide_eq_false c2
  have c2b1 : decide (500 < l0.length) = false := decide_eq_false (by omega)
  clear c2
  by_cases c3 : 0 ≤ (l0.length : Int)
  ·rw [if_pos c3] at H
   have c3b0 := eq_true c3
   have c3b1 : decide (0 ≤ (l0.length : Int)) = true := decide_eq_true c3
   clear c3
   by_cases c4 : ((l0.length : Int) : Int).toNat ≤ 35184372088832
   ·rw [if_pos c4] at H
    have c4b0 := eq_true c4
    have c4b1 : decide (((l0.length : Int) : Int).toNat ≤ 35184372088832) = true := decide_eq_true c4
    clear c4
    obtain ⟨y287, hy287⟩ : ∃ y_ : List Int, y_ = (List.replicate ((l0.length : Int) : Int).toNat 0) := ⟨_, rfl⟩
    replace H : (impl_CurveSort.l0 k (List.replicate ((l0.length : Int) : Int).toNat 0) l0 (l0.length : Int) 0 y287) = some r := by first | (rw [hy287]; with_reducible exact H) | (have H2_ := (Option.bind_some _ _).symm.trans H; rw [hy287]; with_reducible exact H2_) | (have H2_ := (Option.bind_some _ _).symm.trans H; with_reducible exact H2_) | with_reducible exact H | (rw [hy287]; exact H) | exact H
    have Ny287 := Ak hy287
    clear hy287
    obtain ⟨y291, hy291⟩ : ∃ y_ : List Int, y_ = (List.replicate ((l0.length : Int) : Int).toNat 0) := ⟨_, rfl⟩
    replace H : (impl_CurveSort.l0 k y291 l0 (l0.length : Int) 0 y287) = some r := by first | (rw [hy291]; with_reducible exact H) | (have H2_ := (Option.bind_some _ _).symm.trans H; rw [hy291]; with_reducible exact H2_) | (have H2_ := (Option.bind_some _ _).symm.trans H; with_reducible exact H2_) | with_reducible exact H | (rw [hy291]; exact H) | exact H
    have Ny291 := Ak hy291
    clear hy291
    have H' := Ak H
    clear H
    go_enter Try.func43, Try.ntmps43
    go_wp2_with (first | ((with_reducible refine gate_dst (N := 12) rfl ?_); refine Kd.R_make (Kd.int .i64) _ 3 rfl (N := 12) rfl 68 _ _ rfl (l0.length : Int) rfl rfl Try.underlying68 (.int .i64 0) 8 info3 rfl (by decide) (by omega) 0 (ok := fun _ => True) (okp := fun _ => True) rfl (fun _ hk => hk) trivial (of_decide_eq_true (by first | (with_reducible assumption) | assumption)) (Nat.le_trans (Nat.mul_le_mul_right _ (of_decide_eq_true (by first | (with_reducible assumption) | assumption) : (l0.length : Int).toNat ≤ 35184372088832)) (by omega)) (Below.refl _ _) (Nat.le_refl _) ?_; intro v288 w5 ho6 hb hg_ hnew_; clear hg_ hnew_; (first | rw [← Ny287.out] at ho6 | (simp only [Int.reduceToNat] at ho6; rw [← Ny287.out] at ho6)); have n0_ := Ak (Kd.R_lower ho6 (below_size (bw HB.out))); have n1_ := Ak (below_step (bw HB.out) hb); clear HB; have HO289 := n0_; have HB := n1_; clear n0_ n1_; clear hb ho6) | ((with_reducible refine gate_dst (N := 3) rfl ?_); refine box_event ?hg (N := 3) ?hd (cs := #[.slice none 0 0]) (t := 68) ?hr ?_; (case hd => rfl); (case hg => rfl); (case hr => first | (go_simp; done) | (go_simp; rfl)); intro gb290 hg w7 hbox hb; have n0_ := Ak (Kd.R_below (rq HO289.out) hb); have n1_ := Ak (below_step (bw HB.out) hb); have n2_ := Ak (hbox); have n3_ := Ak ((by rw [hg]; exact (below_size (bw HB.out)) : w.heap.size ≤ gb290)); have n4_ := Ak ((by rw [hg]; exact (below_size (bw HB.out)) : w.heap.size ≤ gb290)); clear HO289; clear HB; have HO289 := n0_; have HB := n1_; have BK290 := n2_; have GW290 := n3_; have GE290 := n4_; clear n0_ n1_ n2_ n3_ n4_; clear hb hbox hg; obtain ⟨Ao8, co8, eo8⟩ := Kd.R_slice HO289.out; subst eo8; have hcz9_0 : w7.cell? ⟨gb290, 0, none⟩ = some (.slice none 0 0) := (blk_cell BK290.out 0).trans rfl; have hfz9_0 := blk_frozen BK290.out 0) | ((with_reducible refine gate_dst (N := 15) rfl ?_); refine Kd.R_make (Kd.int .i64) _ 3 rfl (N := 15) rfl 68 _ _ rfl (l0.length : Int) rfl rfl Try.underlying68 (.int .i64 0) 8 info3 rfl (by decide) (by omega) 0 (ok := fun _ => True) (okp := fun _ => True) rfl (fun _ hk => hk) trivial (of_decide_eq_true (by first | (with_reducible assumption) | assumption)) (Nat.le_trans (Nat.mul_le_mul_right _ (of_decide_eq_true (by first | (with_reducible assumption) | assumption) : (l0.length : Int).toNat ≤ 35184372088832)) (by omega)) (Below.refl _ _) (Nat.le_refl _) ?_; intro v292 w10 ho11 hb hg_ hnew_; clear hg_ hnew_; (first | rw [← Ny291.out] at ho11 | (simp only [Int.reduceToNat] at ho11; rw [← Ny291.out] at ho11)); have n0_ := Ak (Kd.R_elder' (by (with_reducible repeat (first | apply Kd.R_alloc | apply Kd.R_drewN | apply Kd.R_drew)); exact (Kd.R_mono (Kd.R_far (p := ⟨gb290, 0, none⟩) (Kd.R_types HO289.out BK290.out (by decide)) (fun _ hk => hk.2) (.slice Ao8 y287.length co8)) (fun _ h_ => h_.1))) (Kd.R_base ho11) hb); have n1_ := Ak (Kd.R_lower (Kd.R_new' ho11 (Kd.R_lt (by (with_reducible repeat (first | apply Kd.R_alloc | apply Kd.R_drewN | apply Kd.R_drew)); exact (Kd.R_mono (Kd.R_far (p := ⟨gb290, 0, none⟩) (Kd.R_types HO289.out BK290.out (by decide)) (fun _ hk => hk.2) (.slice Ao8 y287.length co8)) (fun _ h_ => h_.1))))) (below_size (bw1 HB.out GE290.out))); have n2_ := Ak (blk_below (g := gb290) (o := .cells #[.slice Ao8 y287.length co8] 68 (0, 0)) (by (with_reducible repeat (first | refine blk_drewN ?_ _ | refine blk_drew ?_ | refine blk_alloc ?_ _)); refine blk_put (cs := #[.slice none 0 0]) ?_ 0 _ rfl; (with_reducible repeat (first | refine blk_drewN ?_ _ | refine blk_drew ?_ | refine blk_alloc ?_ _)); exact BK290.out) hb); have n3_ := Ak (below_step (bw1 HB.out GE290.out) hb); clear HO289; clear BK290; clear HB; have HO289 := n0_; have HO293 := n1_; have BK290 := n2_; have HB := n3_; clear n0_ n1_ n2_ n3_; clear hb ho11))
    go_loopg [18] k (fun kq v18 w' => ∃ (x4_1 : List Int) (x18_1 : Int) (x291000_1 : List Int) (u291000 : Value), v18 = .int .i64 x18_1 ∧ Aside0 (impl_CurveSort.l0 kq x4_1 l0 (l0.length : Int) x18_1 x291000_1 = some r) ∧ Aside0 (kq ≤ k) ∧ Aside0 (Kd.R (Kd.int .i64) 3 w' w.heap.size (fun k_ => some k_ ≠ (u291000 : Value).ownBlock) v292 x4_1) ∧ Aside0 (Kd.R (Kd.int .i64) 3 w' w.heap.size (fun k_ => some k_ ≠ (v292 : Value).ownBlock) u291000 x291000_1) ∧ Aside0 (w'.heap[gb290]? = some (.cells #[u291000] 68 (0, 0))) ∧ Aside0 (Below w.heap.size w w'))
    case atStart => exact ⟨(y291), (0), (y287), (.slice Ao8 y287.length co8), (by first | rfl | (simp; done) | (simp [*]; done)), H', ⟨Nat.le_refl _⟩, ⟨by (with_reducible repeat (first | apply Kd.R_alloc | apply Kd.R_drewN | apply Kd.R_drew)); exact Kd.R_mono HO293.out (fun _ hk => hk.2)⟩, ⟨by (with_reducible repeat (first | apply Kd.R_alloc | apply Kd.R_drewN | apply Kd.R_drew)); exact Kd.R_mono HO289.out (fun _ hk => hk.2)⟩, ⟨bq BK290.out⟩, ⟨bw1 HB.out GE290.out⟩⟩
    case round =>
     clear H'
     try clear c2b0
     try clear c2b1
     try clear c3b0
     try clear c3b1
     try clear c4b0
     try clear c4b1
     obtain ⟨x4_1, x18_1, x291000_1, u291000, rfl, HA, HK1, HO_4, HO_291000, BK290, HB⟩ := hrel
     cases gk with
     | zero => exact absurd HA.out (by simp [impl_CurveSort.l0])
     | succ k1 =>
      have H := HA.out
      clear HA
      simp only [impl_CurveSort.l0] at H
      by_cases c12 : x18_1 < (l0.length : Int)
      ·rw [if_pos c12] at H
       have c12b0 : decide (x18_1 < (l0.length : Int)) = true := decide_eq_true c12
       clear c12
       by_cases c13 : 0 ≤ x18_1
       ·rw [if_pos c13] at H
        have c13b0 : decide (0 ≤ x18_1) = true := decide_eq_true c13
        clear c13
        by_cases c14 : x18_1 < (l0.length : Int)
        ·rw [if_pos c14] at H
         have c14b0 : decide (x18_1 < (l0.length : Int)) = true := decide_eq_true c14
         clear c14
         replace H := Option.bind_eq_some_iff.mp H
         obtain ⟨t296, A150, H⟩ := H
         replace H : (if x18_1 < (x291000_1.length : Int) then (if x18_1 < (x4_1.length : Int) then (impl_CurveSort.l0 k1 (x4_1.set (x18_1 : Int).toNat x18_1) l0 (l0.length : Int) (wrap64 (x18_1 + 1)) (x291000_1.set (x18_1 : Int).toNat t296)) else (none)) else (none)) = some r := H
         have A15 := Ak A150
         clear A150
         by_cases c16 : x18_1 < (x291000_1.length : Int)
         ·rw [if_pos c16] at H
          have c16b0 : decide (x18_1 < (x291000_1.length : Int)) = true := decide_eq_true c16
          clear c16
          obtain ⟨y297, hy297⟩ : ∃ y_ : List Int, y_ = (x291000_1.set (x18_1 : Int).toNat t296) := ⟨_, rfl⟩
          replace H : (if x18_1 < (x4_1.length : Int) then (impl_CurveSort.l0 k1 (x4_1.set (x18_1 : Int).toNat x18_1) l0 (l0.length : Int) (wrap64 (x18_1 + 1)) y297) else (none)) = some r := by first | (rw [hy297]; with_reducible exact H) | (have H2_ := (Option.bind_some _ _).symm.trans H; rw [hy297]; with_reducible exact H2_) | (have H2_ := (Option.bind_some _ _).symm.trans H; with_reducible exact H2_) | with_reducible exact H | (rw [hy297]; exact H) | exact H
          have Ny297 := Ak hy297
          clear hy297
          by_cases c18 : x18_1 < (x4_1.length : Int)
          ·rw [if_pos c18] at H
           have c18b0 : decide (x18_1 < (x4_1.length : Int)) = true := decide_eq_true c18
           clear c18
           obtain ⟨y298, hy298⟩ : ∃ y_ : List Int, y_ = (x4_1.set (x18_1 : Int).toNat x18_1) := ⟨_, rfl⟩
           replace H : (impl_CurveSort.l0 k1 y298 l0 (l0.length : Int) (wrap64 (x18_1 + 1)) y297) = some r := by first | (rw [hy298]; with_reducible exact H) | (have H2_ := (Option.bind_some _ _).symm.trans H; rw [hy298]; with_reducible exact H2_) | (have H2_ := (Option.bind_some _ _).symm.trans H; with_reducible exact H2_) | with_reducible exact H | (rw [hy298]; exact H) | exact H
           have Ny298 := Ak hy298
           clear hy298
           have H' := Ak H
           clear H
           have p294 : 0 ≤ (x18_1 : Int) := of_decide_eq_true (by first | (with_reducible assumption) | assumption)
           have q294 : x18_1 < (l0.length : Int) := of_decide_eq_true (by first | (with_reducible assumption) | assumption)
           obtain ⟨ad294, e294, hx294_0, hx294_1, hx294_2, hx294_3⟩ := at_T75 HR0.out x18_1 p294 q294
           cases e294
           replace hx294_0 := (HB.out.cell (World.block_lt_of_cell? w _ hx294_0)).trans hx294_0
           replace hx294_1 := (HB.out.cell (World.block_lt_of_cell? w _ hx294_1)).trans hx294_1
           replace hx294_2 := (HB.out.cell (World.block_lt_of_cell? w _ hx294_2)).trans hx294_2
           replace hx294_3 := (HB.out.cell (World.block_lt_of_cell? w _ hx294_3)).trans hx294_3
           replace p294 := eq_true p294
           replace q294 := eq_true q294
           try go_wp2_with (first | ((with_reducible refine gate_dst (N := 6) rfl ?_); refine box_event ?hg (N := 6) ?hd (cs := #[.int .i64 0, .int .i64 0, .int .i64 0, .int .i64 0]) (t := 75) ?hr ?_; (case hd => rfl); (case hg => rfl); (case hr => first | (go_simp; done) | (go_simp; rfl)); intro gb295 hg w20 hbox hb; have n0_ := Ak (Kd.R_below (rq HO_4.out) hb); have n1_ := Ak (Kd.R_below (rq HO_291000.out) hb); have n2_ := Ak (blk_below (g := gb290) (o := .cells #[u291000] 68 (0, 0)) (bq BK290.out) hb); have n3_ := Ak (below_step (bw1 HB.out GE290.out) hb); have n4_ := Ak (hbox); have n5_ := Ak ((by rw [hg]; exact (below_size (bw1 HB.out GE290.out)) : w.heap.size ≤ gb295)); have n6_ := Ak ((by rw [hg]; exact (below_size (bw1 HB.out GE290.out)) : w.heap.size ≤ gb295)); have n7_ := Ak ((by rw [hg]; exact Nat.ne_of_lt (blk_lt (g := gb290) (o := .cells #[u291000] 68 (0, 0)) (bq BK290.out)) : gb290 ≠ gb295)); have n8_ := Ak ((by rw [hg]; exact Nat.ne_of_gt (blk_lt (g := gb290) (o := .cells #[u291000] 68 (0, 0)) (bq BK290.out)) : gb295 ≠ gb290)); clear HO_4; clear HO_291000; clear BK290; clear HB; have HO_4 := n0_; have HO_291000 := n1_; have BK290 := n2_; have HB := n3_; have BK295 := n4_; have GW295 := n5_; have GE295 := n6_; have NB290_295 := n7_; have NB295_290 := n8_; clear n0_ n1_ n2_ n3_ n4_ n5_ n6_ n7_ n8_; clear hb hbox hg; have hnb21 := NB295_290.out; have hnc21 := NB290_295.out; have hcz22_0 : w20.cell? ⟨gb295, 0, none⟩ = some (.int .i64 0) := (blk_cell BK295.out 0).trans rfl; have hcz22_1 : w20.cell? ⟨gb295, 1, none⟩ = some (.int .i64 0) := (blk_cell BK295.out 1).trans rfl; have hcz22_2 : w20.cell? ⟨gb295, 2, none⟩ = some (.int .i64 0) := (blk_cell BK295.out 2).trans rfl; have hcz22_3 : w20.cell? ⟨gb295, 3, none⟩ = some (.int .i64 0) := (blk_cell BK295.out 3).trans rfl; have hfz22_0 := blk_frozen BK295.out 0; have hfz22_1 := blk_frozen BK295.out 1; have hfz22_2 := blk_frozen BK295.out 2; have hfz22_3 := blk_frozen BK295.out 3; have hcz23_0 : w20.cell? ⟨gb290, 0, none⟩ = some (u291000) := (blk_cell BK290.out 0).trans rfl; have hfz23_0 := blk_frozen BK290.out 0))
           have n0_ : Aside0 (Kd.R (Kd.int .i64) 3 ((((w20.setCell ⟨gb295, 0, none⟩ (.int .i64 ((rd_T75 l0 x18_1).f0.f0))).setCell ⟨gb295, 1, none⟩ (.int .i64 ((rd_T75 l0 x18_1).f0.f1))).setCell ⟨gb295, 2, none⟩ (.int .i64 ((rd_T75 l0 x18_1).f1.f0))).setCell ⟨gb295, 3, none⟩ (.int .i64 ((rd_T75 l0 x18_1).f1.f1))) w.heap.size (fun k_ => some k_ ≠ (u291000 : Value).ownBlock) v292 x4_1) := ⟨by (with_reducible repeat (first | apply Kd.R_alloc | apply Kd.R_drewN | apply Kd.R_drew)); exact Kd.R_mono (Kd.R_far (p := ⟨gb295, 3, none⟩) (Kd.R_far (p := ⟨gb295, 2, none⟩) (Kd.R_far (p := ⟨gb295, 1, none⟩) (Kd.R_far (p := ⟨gb295, 0, none⟩) (Kd.R_types HO_4.out BK295.out (by decide)) (fun _ hk => hk.2) (.int .i64 ((rd_T75 l0 x18_1).f0.f0))) (fun _ hk => hk.2) (.int .i64 ((rd_T75 l0 x18_1).f0.f1))) (fun _ hk => hk.2) (.int .i64 ((rd_T75 l0 x18_1).f1.f0))) (fun _ hk => hk.2) (.int .i64 ((rd_T75 l0 x18_1).f1.f1))) (fun _ hk => hk.1)⟩
           have n1_ : Aside0 (Kd.R (Kd.int .i64) 3 ((((w20.setCell ⟨gb295, 0, none⟩ (.int .i64 ((rd_T75 l0 x18_1).f0.f0))).setCell ⟨gb295, 1, none⟩ (.int .i64 ((rd_T75 l0 x18_1).f0.f1))).setCell ⟨gb295, 2, none⟩ (.int .i64 ((rd_T75 l0 x18_1).f1.f0))).setCell ⟨gb295, 3, none⟩ (.int .i64 ((rd_T75 l0 x18_1).f1.f1))) w.heap.size (fun k_ => some k_ ≠ (v292 : Value).ownBlock) u291000 x291000_1) := ⟨by (with_reducible repeat (first | apply Kd.R_alloc | apply Kd.R_drewN | apply Kd.R_drew)); exact Kd.R_mono (Kd.R_far (p := ⟨gb295, 3, none⟩) (Kd.R_far (p := ⟨gb295, 2, none⟩) (Kd.R_far (p := ⟨gb295, 1, none⟩) (Kd.R_far (p := ⟨gb295, 0, none⟩) (Kd.R_types HO_291000.out BK295.out (by decide)) (fun _ hk => hk.2) (.int .i64 ((rd_T75 l0 x18_1).f0.f0))) (fun _ hk => hk.2) (.int .i64 ((rd_T75 l0 x18_1).f0.f1))) (fun _ hk => hk.2) (.int .i64 ((rd_T75 l0 x18_1).f1.f0))) (fun _ hk => hk.2) (.int .i64 ((rd_T75 l0 x18_1).f1.f1))) (fun _ hk => hk.1)⟩
           have n2_ : Aside0 (((((w20.setCell ⟨gb295, 0, none⟩ (.int .i64 ((rd_T75 l0 x18_1).f0.f0))).setCell ⟨gb295, 1, none⟩ (.int .i64 ((rd_T75 l0 x18_1).f0.f1))).setCell ⟨gb295, 2, none⟩ (.int .i64 ((rd_T75 l0 x18_1).f1.f0))).setCell ⟨gb295, 3, none⟩ (.int .i64 ((rd_T75 l0 x18_1).f1.f1))).heap[gb290]? = some (.cells #[u291000] 68 (0, 0))) := ⟨by (with_reducible repeat (first | refine blk_drewN ?_ _ | refine blk_drew ?_ | refine blk_alloc ?_ _)); refine blk_far ?_ NB290_295.out _; (with_reducible repeat (first | refine blk_drewN ?_ _ | refine blk_drew ?_ | refine blk_alloc ?_ _)); refine blk_far ?_ NB290_295.out _; (with_reducible repeat (first | refine blk_drewN ?_ _ | refine blk_drew ?_ | refine blk_alloc ?_ _)); refine blk_far ?_ NB290_295.out _; (with_reducible repeat (first | refine blk_drewN ?_ _ | refine blk_drew ?_ | refine blk_alloc ?_ _)); refine blk_far ?_ NB290_295.out _; (with_reducible repeat (first | refine blk_drewN ?_ _ | refine blk_drew ?_ | refine blk_alloc ?_ _)); exact BK290.out⟩
           have n3_ : Aside0 (((((w20.setCell ⟨gb295, 0, none⟩ (.int .i64 ((rd_T75 l0 x18_1).f0.f0))).setCell ⟨gb295, 1, none⟩ (.int .i64 ((rd_T75 l0 x18_1).f0.f1))).setCell ⟨gb295, 2, none⟩ (.int .i64 ((rd_T75 l0 x18_1).f1.f0))).setCell ⟨gb295, 3, none⟩ (.int .i64 ((rd_T75 l0 x18_1).f1.f1))).heap[gb295]? = some (.cells #[.int .i64 ((rd_T75 l0 x18_1).f0.f0), .int .i64 ((rd_T75 l0 x18_1).f0.f1), .int .i64 ((rd_T75 l0 x18_1).f1.f0), .int .i64 ((rd_T75 l0 x18_1).f1.f1)] 75 (0, 0))) := ⟨by (with_reducible repeat (first | refine blk_drewN ?_ _ | refine blk_drew ?_ | refine blk_alloc ?_ _)); refine blk_put (cs := #[.int .i64 ((rd_T75 l0 x18_1).f0.f0), .int .i64 ((rd_T75 l0 x18_1).f0.f1), .int .i64 ((rd_T75 l0 x18_1).f1.f0), .int .i64 0]) ?_ 3 _ rfl; (with_reducible repeat (first | refine blk_drewN ?_ _ | refine blk_drew ?_ | refine blk_alloc ?_ _)); refine blk_put (cs := #[.int .i64 ((rd_T75 l0 x18_1).f0.f0), .int .i64 ((rd_T75 l0 x18_1).f0.f1), .int .i64 0, .int .i64 0]) ?_ 2 _ rfl; (with_reducible repeat (first | refine blk_drewN ?_ _ | refine blk_drew ?_ | refine blk_alloc ?_ _)); refine blk_put (cs := #[.int .i64 ((rd_T75 l0 x18_1).f0.f0), .int .i64 0, .int .i64 0, .int .i64 0]) ?_ 1 _ rfl; (with_reducible repeat (first | refine blk_drewN ?_ _ | refine blk_drew ?_ | refine blk_alloc ?_ _)); refine blk_put (cs := #[.int .i64 0, .int .i64 0, .int .i64 0, .int .i64 0]) ?_ 0 _ rfl; (with_reducible repeat (first | refine blk_drewN ?_ _ | refine blk_drew ?_ | refine blk_alloc ?_ _)); exact BK295.out⟩
           have n4_ : Aside0 (Below w.heap.size w ((((w20.setCell ⟨gb295, 0, none⟩ (.int .i64 ((rd_T75 l0 x18_1).f0.f0))).setCell ⟨gb295, 1, none⟩ (.int .i64 ((rd_T75 l0 x18_1).f0.f1))).setCell ⟨gb295, 2, none⟩ (.int .i64 ((rd_T75 l0 x18_1).f1.f0))).setCell ⟨gb295, 3, none⟩ (.int .i64 ((rd_T75 l0 x18_1).f1.f1)))) := ⟨bw2 HB.out GE290.out GE295.out⟩
           (try clear HO_4)
           (try clear HO_291000)
           (try clear BK290)
           (try clear BK295)
           (try clear HB)
           generalize ((((w20.setCell ⟨gb295, 0, none⟩ (.int .i64 ((rd_T75 l0 x18_1).f0.f0))).setCell ⟨gb295, 1, none⟩ (.int .i64 ((rd_T75 l0 x18_1).f0.f1))).setCell ⟨gb295, 2, none⟩ (.int .i64 ((rd_T75 l0 x18_1).f1.f0))).setCell ⟨gb295, 3, none⟩ (.int .i64 ((rd_T75 l0 x18_1).f1.f1))) = w24 at n0_ n1_ n2_ n3_ n4_ ⊢
           have HO_4 := n0_
           have HO_291000 := n1_
           have BK290 := n2_
           have BK295 := n3_
           have HB := n4_
           clear n0_ n1_ n2_ n3_ n4_
           have n0_ := Ak (Kd.R_drew HO_4.out)
           have n1_ := Ak (Kd.R_drew HO_291000.out)
           have n2_ := Ak (blk_drew BK290.out)
           have n3_ := Ak (blk_drew BK295.out)
           have n4_ := Ak (below_drew1 HB.out)
           clear HO_4
           clear HO_291000
           clear BK290
           clear BK295
           clear HB
           have HO_4 := n0_
           have HO_291000 := n1_
           have BK290 := n2_
           have BK295 := n3_
           have HB := n4_
           clear n0_ n1_ n2_ n3_ n4_
           refine start_ (n := 11) (S := fun w' => w'.cell? ⟨gb295, 0, none⟩ = some (.int .i64 ((rd_T75 l0 x18_1).f0.f0)) ∧ w'.cell? ⟨gb295, 1, none⟩ = some (.int .i64 ((rd_T75 l0 x18_1).f0.f1)) ∧ w'.cell? ⟨gb295, 2, none⟩ = some (.int .i64 ((rd_T75 l0 x18_1).f1.f0)) ∧ w'.cell? ⟨gb295, 3, none⟩ = some (.int .i64 ((rd_T75 l0 x18_1).f1.f1)) ∧ w'.cell? ⟨gb290, 0, none⟩ = some u291000) (ds := [8, 10]) #[false, false, false, false, false, false, false, false, false, false, false] (by kernel_rfl) rfl rfl ⟨(blk_cell BK295.out 0).trans rfl, (blk_cell BK295.out 1).trans rfl, (blk_cell BK295.out 2).trans rfl, (blk_cell BK295.out 3).trans rfl, (blk_cell BK290.out 0).trans rfl⟩ (fun hHeld => ?_); refine with_tabW impl_CurveSort.tab8 impl_CurveSort.bits8 (fun HT_ HW_ => ?_)
           generalize w24.drew = w25 at HO_4 HO_291000 BK290 BK295 HB hHeld ⊢
           refine take_ (i := 0) (N := some 23) (v := ?_) (a' := ?_) #[true, false, false, false, false, false, false, false, false, false, false] rfl rfl (take_ofW HT_.out HW_.out (by kernel_rfl)) (fun _ _ _ h => h) (Or.inl ⟨by rfl, ?_⟩) hHeld ?_ ?_
           rotate_left
           ·rintro w' ⟨s0, s1, s2, s3, s4⟩
            go_simp
            with_reducible rfl
           rotate_left
           ·simp only [Act.put, sT, sZ, sS, i64_w, i32_w]
            rfl
           refine pure_ (i := 1) (N := some 24) (v := ?_) (a' := ?_) #[true, true, false, false, false, false, false, false, false, false, false] rfl rfl (any_of HT_.out (by kernel_rfl)) (fun _ _ _ h => h) (Or.inl ⟨by rfl, ?_⟩) ?_ ?_
           rotate_left
           ·intro w'
            go_simp
            with_reducible rfl
           rotate_left
           ·simp only [Act.put, sT, sZ, sS, i64_w, i32_w]
            rfl
           refine pure_ (i := 2) (N := some 25) (v := ?_) (a' := ?_) #[true, true, true, false, false, false, false, false, false, false, false] rfl rfl (any_of HT_.out (by kernel_rfl)) (fun _ _ _ h => h) (Or.inl ⟨by rfl, ?_⟩) ?_ ?_
           rotate_left
           ·intro w'
            go_simp
            with_reducible rfl
           rotate_left
           ·simp only [Act.put, sT, sZ, sS, i64_w, i32_w]
            rfl
           refine pure_ (i := 3) (N := some 26) (v := ?_) (a' := ?_) #[true, true, true, true, false, false, false, false, false, false, false] rfl rfl (any_of HT_.out (by kernel_rfl)) (fun _ _ _ h => h) (Or.inl ⟨by rfl, ?_⟩) ?_ ?_
           rotate_left
           ·intro w'
            go_simp
            with_reducible rfl
           rotate_left
           ·simp only [Act.put, sT, sZ, sS, i64_w, i32_w]
            rfl
           refine pure_ (i := 6) (N := some 29) (v := ?_) (a' := ?_) #[true, true, true, true, false, false, true, false, false, false, false] rfl rfl (any_of HT_.out (by kernel_rfl)) (fun _ _ _ h => h) (Or.inl ⟨by rfl, ?_⟩) ?_ ?_
           rotate_left
           ·intro w'
            go_simp
            with_reducible rfl
           rotate_left
           ·simp only [Act.put, sT, sZ, sS, i64_w, i32_w]
            rfl
           refine take_ (i := 4) (N := some 27) (v := ?_) (a' := ?_) #[true, true, true, true, true, false, true, false, false, false, false] rfl rfl (take_ofW HT_.out HW_.out (by kernel_rfl)) (fun _ _ _ h => h) (Or.inl ⟨by rfl, ?_⟩) hHeld ?_ ?_
           rotate_left
           ·rintro w' ⟨s0, s1, s2, s3, s4⟩
            go_simp
            with_reducible rfl
           rotate_left
           ·simp only [Act.put, sT, sZ, sS, i64_w, i32_w]
            rfl
           refine one_ (i := 5) (N := some 28) #[true, true, true, true, true, true, true, false, false, false, false] rfl rfl (one_of HT_.out (by kernel_rfl)) (by decide) (fun K hK => ?_)
           refine goes_ Try.func44 (by kernel_rfl) rfl #[.agg #[.int .i64 ((rd_T75 l0 x18_1).f0.f0), .int .i64 ((rd_T75 l0 x18_1).f0.f1), .int .i64 ((rd_T75 l0 x18_1).f1.f0), .int .i64 ((rd_T75 l0 x18_1).f1.f1)]] (by rfl) rfl rfl gm ?_
           with_reducible refine (impl_CurveKey.calls k1 ((rd_T75 l0 x18_1).f0.f0) ((rd_T75 l0 x18_1).f0.f1) ((rd_T75 l0 x18_1).f1.f0) ((rd_T75 l0 x18_1).f1.f1) t296 _ A15.out).mono ?_
           rintro e w26 ⟨rfl, hb⟩
           refine ⟨_, rfl, ?_⟩
           have n0_ := Ak (Kd.R_below (rq HO_4.out) hb)
           have n1_ := Ak (Kd.R_below (rq HO_291000.out) hb)
           have n2_ := Ak (blk_below (g := gb290) (o := .cells #[u291000] 68 (0, 0)) (bq BK290.out) hb)
           have n3_ := Ak (blk_below (g := gb295) (o := .cells #[.int .i64 ((rd_T75 l0 x18_1).f0.f0), .int .i64 ((rd_T75 l0 x18_1).f0.f1), .int .i64 ((rd_T75 l0 x18_1).f1.f0), .int .i64 ((rd_T75 l0 x18_1).f1.f1)] 75 (0, 0)) (bq BK295.out) hb)
           have n4_ := Ak (below_step (bw2 HB.out GE290.out GE295.out) hb)
           clear HO_4
           clear HO_291000
           clear BK290
           clear BK295
           clear HB
           have HO_4 := n0_
           have HO_291000 := n1_
           have BK290 := n2_
           have BK295 := n3_
           have HB := n4_
           clear n0_ n1_ n2_ n3_ n4_
           have p17 : 0 ≤ (x18_1 : Int) := of_decide_eq_true (by first | (with_reducible assumption) | assumption)
           have q17 : (x18_1 : Int) < ((x291000_1.length : Int) : Int) := of_decide_eq_true (by first | (with_reducible assumption) | assumption)
           obtain ⟨go17, co17, eo17, gb17, gl17, cl17, HG17⟩ := Kd.R_form HO_291000.out (by omega)
           (first | cases eo17 | (injection eo17 with ea_ en_ ec_; (first | subst ea_ | (injection ea_ with ea_; subst ea_)); subst ec_; clear en_))
           have GB17 := Ak gb17
           have GG17 := Ak HG17
           clear gb17 gl17 HG17
           obtain ⟨hx17_0, hf17_0⟩ := Kd.R_celln 0 HO_291000.out (x18_1 : Int) p17 q17
           replace p17 := eq_true p17
           replace q17 := eq_true q17
           have HP27 := Kd.R_putn HO_291000.out (x18_1 : Int) t296
           rw [← Ny297.out] at HP27
           have HQ27 := Ak HP27
           clear HP27
           have p19 : 0 ≤ (x18_1 : Int) := of_decide_eq_true (by first | (with_reducible assumption) | assumption)
           have q19 : (x18_1 : Int) < ((x4_1.length : Int) : Int) := of_decide_eq_true (by first | (with_reducible assumption) | assumption)
           obtain ⟨go19, co19, eo19, gb19, gl19, cl19, HG19⟩ := Kd.R_form HO_4.out (by omega)
           (first | cases eo19 | (injection eo19 with ea_ en_ ec_; (first | subst ea_ | (injection ea_ with ea_; subst ea_)); subst ec_; clear en_))
           have GB19 := Ak gb19
           have GG19 := Ak HG19
           clear gb19 gl19 HG19
           obtain ⟨hx19_0, hf19_0⟩ := Kd.R_celln 0 (Kd.R_far (p := ⟨go17, (x18_1 : Int).toNat, none⟩) (Kd.R_mono HO_4.out (fun k_ hk => (⟨hk, fun e_ => hk (by rw [e_]; rfl)⟩ : _ ∧ k_ ≠ go17))) (fun _ hk => hk.2) (.int .i64 t296)) (x18_1 : Int) p19 q19
           replace p19 := eq_true p19
           replace q19 := eq_true q19
           have HP28 := Kd.R_putn (Kd.R_far (p := ⟨go17, (x18_1 : Int).toNat, none⟩) (Kd.R_mono HO_4.out (fun k_ hk => (⟨hk, fun e_ => hk (by rw [e_]; rfl)⟩ : _ ∧ k_ ≠ go17))) (fun _ hk => hk.2) (.int .i64 t296)) (x18_1 : Int) x18_1
           rw [← Ny298.out] at HP28
           have HQ28 := Ak HP28
           clear HP28
           refine hK.out _ _ ⟨(blk_cell BK295.out 0).trans rfl, (blk_cell BK295.out 1).trans rfl, (blk_cell BK295.out 2).trans rfl, (blk_cell BK295.out 3).trans rfl, (blk_cell BK290.out 0).trans rfl⟩ (fun hHeld => ?_)
           clear hK K
           refine norm_ (a' := ?_) ?_ ?_
           rotate_left
           ·show Act.put _ (some 28) _ = _
            simp only [Act.put, sT, sZ, sS, i64_w, i32_w]
            rfl
           refine pure_ (i := 7) (N := some 30) (v := ?_) (a' := ?_) #[true, true, true, true, true, true, true, true, false, false, false] rfl rfl (any_of HT_.out (by kernel_rfl)) (fun _ _ _ h => h) (Or.inl ⟨by rfl, ?_⟩) ?_ ?_
           rotate_left
           ·intro w'
            go_simp
            with_reducible rfl
           rotate_left
           ·simp only [Act.put, sT, sZ, sS, i64_w, i32_w]
            rfl
           refine last_ (i := 8) (N := none) #[true, true, true, true, true, true, true, true, true, false, false] rfl rfl (one_of HT_.out (by kernel_rfl)) (by decide) (fun K hK => ?_)
           refine skip_ (w1 := ?_) (by rfl) rfl ?_ ?_
           rotate_left
           ·go_simp
            rfl
           refine hK.out _ _ ?_
           clear hK K
           refine pure_ (i := 9) (N := some 31) (v := ?_) (a' := ?_) #[true, true, true, true, true, true, true, true, true, true, false] rfl rfl (any_of HT_.out (by kernel_rfl)) (fun _ _ _ h => h) (Or.inl ⟨by rfl, ?_⟩) ?_ ?_
           rotate_left
           ·intro w'
            go_simp
            with_reducible rfl
           rotate_left
           ·simp only [Act.put, sT, sZ, sS, i64_w, i32_w]
            rfl
           refine last_ (i := 10) (N := none) #[true, true, true, true, true, true, true, true, true, true, true] rfl rfl (one_of HT_.out (by kernel_rfl)) (by decide) (fun K hK => ?_)
           refine skip_ (w1 := ?_) (by rfl) rfl ?_ ?_
           rotate_left
           ·go_simp
            rfl
           refine hK.out _ _ ?_
           clear hK K
           refine done_ (done_of HT_.out (by kernel_rfl)) ?_
           try go_wp2
           go_roundg k1
           case measure => have := HK1.out; omega
           case rel => exact ⟨(y298), (wrap64 (x18_1 + 1)), (y297), (.slice (some ⟨go17, 0, none⟩) x291000_1.length co17), (by first | rfl | (simp; done) | (simp [*]; done)), H', ⟨by have := HK1.out; omega⟩, ⟨by (with_reducible repeat (first | apply Kd.R_alloc | apply Kd.R_drewN | apply Kd.R_drew)); exact Kd.R_mono HQ28.out (fun _ hk => hk.1)⟩, ⟨by (with_reducible repeat (first | apply Kd.R_alloc | apply Kd.R_drewN | apply Kd.R_drew)); exact Kd.R_mono (Kd.R_far (p := ⟨go19, (x18_1 : Int).toNat, none⟩) (Kd.R_mono HQ27.out (fun k_ hk => (⟨hk, fun e_ => hk (by rw [e_]; rfl)⟩ : _ ∧ k_ ≠ go19))) (fun _ hk => hk.2) (.int .i64 x18_1)) (fun _ hk => hk.1)⟩, ⟨by (with_reducible repeat (first | refine blk_drewN ?_ _ | refine blk_drew ?_ | refine blk_alloc ?_ _)); refine blk_far ?_ (by have h_ := Kd.R_ne HO_4.out BK290.out (by decide); intro e_; exact h_ (by rw [e_]; rfl)) _; (with_reducible repeat (first | refine blk_drewN ?_ _ | refine blk_drew ?_ | refine blk_alloc ?_ _)); refine blk_far ?_ (by have h_ := Kd.R_ne HO_291000.out BK290.out (by decide); intro e_; exact h_ (by rw [e_]; rfl)) _; (with_reducible repeat (first | refine blk_drewN ?_ _ | refine blk_drew ?_ | refine blk_alloc ?_ _)); exact BK290.out⟩, ⟨bw4 HB.out GB17.out GB19.out GE290.out GE295.out⟩⟩
          ·rw [if_neg c18] at H
           exact absurd H (by simp)
         ·rw [if_neg c16] at H
          exact absurd H (by simp)
        ·rw [if_neg c14] at H
         exact absurd H (by simp)
       ·rw [if_neg c13] at H
        exact absurd H (by simp)
      ·rw [if_neg c12] at H
       have c12b0 : decide (x18_1 < (l0.length : Int)) = false := decide_eq_false c12
       clear c12
       replace H := Option.bind_eq_some_iff.mp H
       obtain ⟨t299, A290, H⟩ := H
       replace H : (some t299) = some r := H
       have A29 := Ak A290
       clear A290
       obtain rfl := Option.some.inj H
       have hcz30_0 : wr.cell? ⟨gb290, 0, none⟩ = some (u291000) := (blk_cell BK290.out 0).trans rfl
       have hfz30_0 := blk_frozen BK290.out 0
       obtain ⟨Ao31, co31, eo31⟩ := Kd.R_slice HO_4.out
       subst eo31
       obtain ⟨Ao32, co32, eo32⟩ := Kd.R_slice HO_291000.out
       subst eo32
       go_wp2_with (first | ((with_reducible refine gate_callee (f := 86) rfl ?_); refine goesL_ (some 35) rfl rfl Try.func86 (by kernel_rfl) rfl #[.slice Ao31 x4_1.length co31, .func (.func 87) #[] #[.pointer (some ⟨gb290, 0, none⟩)]] rfl gm ?_; (with_reducible refine (slices_SortStableFunc_int_int.calls k1 (fun k_ => some k_ = (.slice Ao31 x4_1.length co31 : Value).ownBlock) (.slice Ao31 x4_1.length co31) x4_1 Ao32 co32 x291000_1 gb290 t299 w _ ?side1 ?side2 ?side3 ?side4 ?hpx A29.out).mono ?_); (case side1 => repeat (first | (with_reducible first | exact HB.out | apply below_alloc | apply pw_below_drewN | apply below_drew1 | refine below_set ?_ GE290.out) | exact HB.out)); (case side2 => exact Kd.R_tight rfl HO_4.out); (case side3 => exact Kd.C_kept_own (HO_291000.out) (fun k_ hk_ hs_ => (hk_) hs_)); (case hpx => exact fun W_ hk_ => (blk_cell (blk_kept (bq BK290.out) hk_ (fun hs_ => (Kd.R_ne HO_4.out BK290.out (by decide)) hs_)) 0).trans rfl); (case side4 => exact (Kd.R_reads' HO_291000.out).2.1); rintro e w33 ⟨rfl, hy0, hb, hkp⟩; refine ⟨_, rfl, ?_⟩; have n0_ := Ak (Kd.R_reok rfl hy0 (fun k_ e_ => HO_4.out.1 k_ e_)); have n1_ := Ak (Kd.R_mono (ok' := fun k_ => some k_ ≠ (.slice Ao31 x4_1.length co31 : Value).ownBlock) (Kd.R_keptB (HO_291000.out) hkp (fun k_ hk_ hs_ => (hk_) hs_)) (fun k_ hk_ => hk_.1)); have n2_ := Ak (blk_kept (bq BK290.out) hkp (fun hs_ => (fun e_ => (Kd.R_ne HO_4.out BK290.out (by decide)) e_) hs_)); have n3_ := Ak (hb); clear HO_4; clear HO_291000; clear BK290; clear HB; have HO_4 := n0_; have HO_291000 := n1_; have BK290 := n2_; have HB := n3_; clear n0_ n1_ n2_ n3_))
       go_ret
       exact ⟨_, by first | rfl | (simp [errW_none, errW_some] <;> rfl) | (simp [*, errW_none, errW_some] <;> rfl), by (with_reducible repeat (first | apply Kd.R_alloc | apply Kd.R_drewN | apply Kd.R_drew)); exact Kd.R_mono HO_4.out (fun _ hk => trivial), bw1 HB.out GE290.out⟩
   ·rw [if_neg c4] at H
    exact absurd H (by simp)
  ·rw [if_neg c3] at H
   exact absurd H (by simp)

end Go.Proofs.Ytinilabmffjnaaa.PFnSorted
