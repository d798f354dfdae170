/- The functions that the law FnDisk reaches, each with what it computes and its contract. -/
import Derived.Test.YtinilabmffjnaaaQFnDiskx0
import Derived.Test.YtinilabmffjnaaaQFnDiskx12
namespace Go.Proofs.Ytinilabmffjnaaa.PFnDisk
open Go.RowKit Go.Proofs.YtinilabmffjnaaaW.PrintWords Go.Proofs.YtinilabmffjnaaaW.PrintLast Go.Proofs.YtinilabmffjnaaaW.PrintMore
attribute [local go_sem] max2_int min2_int max_two min_two max_three min_three max_four min_four
set_option linter.unusedVariables false
set_option linter.unusedSimpArgs false

def impl_copyDisk.l0 : Nat → List (S34) → Int → Int → List Int → List (S34) → Option (List Int × (List (S34)))
 | 0, _, _, _, _, _ => none
 | k + 1, x11, x12, x13, x331000, x331001 => if x13 < x12 then (if 0 ≤ x13 then (if x13 < (x11.length : Int) then ((slices_Clone_byte_byte.f ((rd_T34 x11 x13).f1)).bind fun t333 => (if x331001.length < 4398046511104 then (impl_copyDisk.l0 k x11 x12 (wrap64 (x13 + 1)) x331000 (x331001 ++ [(⟨(rd_T34 x11 x13).f0, t333⟩ : S34)])) else (none))) else (none)) else (none)) else (some (x331000, x331001))
def impl_copyDisk.f (k : Nat) (l0_0 : List Int) (l0_1 : List (S34)) : Option (List Int × (List (S34))) := (slices_Clone_byte_byte.f l0_0).bind fun t327 => (impl_copyDisk.l0 k l0_1 (l0_1.length : Int) 0 t327 ([] : List (S34)))
def impl_copyDisk.T5 : Bool × List (List Nat × List Nat) := (true, [([], []), ([0], [0]), ([], []), ([2], [2]), ([], []), ([4], [4]), ([5], [5]), ([3, 6], [3, 6]), ([7], [7]), ([1, 8, 6], [1, 8]), ([0, 1, 2, 3, 4, 5, 6, 7, 8, 9], []), ([10, 9, 9, 0, 1, 2, 3, 4, 5, 6, 7, 8, 9], [9, 10])])
def impl_copyDisk.B5 : List Nat := [0, 1, 0, 4, 0, 16, 48, 124, 252, 511, 1023, 2047]
theorem impl_copyDisk.tab5 : rtab .any (opsOf Try.f62 5) = impl_copyDisk.T5 := by kernel_rfl
theorem impl_copyDisk.bits5 : waitsOk impl_copyDisk.T5.2 impl_copyDisk.B5 = true := by kernel_rfl
set_option maxHeartbeats 8000000 in
set_option maxRecDepth 100000 in
theorem impl_copyDisk.calls (k : Nat) (A0_0 : Option Addr) (c0_0 : Nat) (l0_0 : List Int) (A0_1 : Option Addr) (c0_1 : Nat) (l0_1 : List (S34)) (r1 : List Int) (r2 : List (S34)) (w : World) (hr0_0 : Kd.C (Kd.int .u8) w A0_0 l0_0.length l0_0) (hc0_0 : l0_0.length ≤ c0_0) (hr0_1 : Kd.C k34 w A0_1 l0_1.length l0_1) (hc0_1 : l0_1.length ≤ c0_1) (h : impl_copyDisk.f k l0_0 l0_1 = some (r1, r2)) :
  Calls Try.prog 62 #[.agg #[.slice A0_0 l0_0.length c0_0, .slice A0_1 l0_1.length c0_1]] w fun e w' => ∃ v0_ v1_ : Value, e = .returned (.agg #[v0_, v1_]) ∧ Kd.R (Kd.int .u8) 5 w' w.heap.size (fun _ => True) v0_ r1 ∧ Kd.S k34 34 w' w.heap.size (fun k_ => some k_ ≠ (v0_ : Value).ownBlock) v1_ r2 ∧ Below w.heap.size w w' := by
 have hu26 := Try.underlying26
 have hu34 := Try.underlying34
 have HR0_0 := Ak hr0_0
 have HC0_0 := Ak hc0_0
 clear hr0_0 hc0_0
 have HR0_1 := Ak hr0_1
 have HC0_1 := Ak hc0_1
 clear hr0_1 hc0_1
 have HB := Ak (Below.refl w.heap.size w)
 have H : ((slices_Clone_byte_byte.f l0_0).bind fun t327 => (impl_copyDisk.l0 k l0_1 (l0_1.length : Int) 0 t327 ([] : List (S34)))) = some (r1, r2) := h
 clear h
 replace H := Option.bind_eq_some_iff.mp H
 obtain ⟨t327, A20, H⟩ := H
 replace H : (impl_copyDisk.l0 k l0_1 (l0_1.length : Int) 0 t327 ([] : List (S34))) = some (r1, r2) := H
 have A2 := Ak A20
 clear A20
 have H' := Ak H
 clear H
 go_enter Try.func62, Try.ntmps62
 go_wp2_with (first | ((with_reducible refine gate_dst (N := 1) rfl ?_); refine box_event ?hg (N := 1) ?hd (cs := #[.slice A0_0 l0_0.length c0_0, .slice A0_1 l0_1.length c0_1]) (t := 26) ?hr ?_; (case hd => rfl); (case hg => rfl); (case hr => first | (go_simp; done) | (go_simp; rfl)); intro gb325 hg w3 hbox hb; have n0_ := Ak (below_step (bw HB.out) hb); have n1_ := Ak (hbox); have n2_ := Ak ((by rw [hg]; exact (below_size (bw HB.out)) : w.heap.size ≤ gb325)); have n3_ := Ak ((by rw [hg]; exact (below_size (bw HB.out)) : w.heap.size ≤ gb325)); clear HB; have HB := n0_; have BK325 := n1_; have GW325 := n2_; have GE325 := n3_; clear n0_ n1_ n2_ n3_; clear hb hbox hg) | ((with_reducible refine gate_dst (N := 2) rfl ?_); refine box_event ?hg (N := 2) ?hd (cs := #[.slice none 0 0, .slice none 0 0]) (t := 26) ?hr ?_; (case hd => rfl); (case hg => rfl); (case hr => first | (go_simp; done) | (go_simp; rfl)); intro gb326 hg w4 hbox hb; have n0_ := Ak (blk_below (g := gb325) (o := .cells #[.slice A0_0 l0_0.length c0_0, .slice A0_1 l0_1.length c0_1] 26 (0, 0)) (bq BK325.out) hb); have n1_ := Ak (below_step (bw1 HB.out GE325.out) hb); have n2_ := Ak (hbox); have n3_ := Ak ((by rw [hg]; exact (below_size (bw1 HB.out GE325.out)) : w.heap.size ≤ gb326)); have n4_ := Ak ((by rw [hg]; exact (below_size (bw1 HB.out GE325.out)) : w.heap.size ≤ gb326)); have n5_ := Ak ((by rw [hg]; exact Nat.ne_of_lt (blk_lt (g := gb325) (o := .cells #[.slice A0_0 l0_0.length c0_0, .slice A0_1 l0_1.length c0_1] 26 (0, 0)) (bq BK325.out)) : gb325 ≠ gb326)); have n6_ := Ak ((by rw [hg]; exact Nat.ne_of_gt (blk_lt (g := gb325) (o := .cells #[.slice A0_0 l0_0.length c0_0, .slice A0_1 l0_1.length c0_1] 26 (0, 0)) (bq BK325.out)) : gb326 ≠ gb325)); clear BK325; clear HB; have BK325 := n0_; have HB := n1_; have BK326 := n2_; have GW326 := n3_; have GE326 := n4_; have NB325_326 := n5_; have NB326_325 := n6_; clear n0_ n1_ n2_ n3_ n4_ n5_ n6_; clear hb hbox hg; have hnb5 := NB325_326.out; have hnc5 := NB326_325.out; have hcz6_0 : w4.cell? ⟨gb325, 0, none⟩ = some (.slice A0_0 l0_0.length c0_0) := (blk_cell BK325.out 0).trans rfl; have hcz6_1 : w4.cell? ⟨gb325, 1, none⟩ = some (.slice A0_1 l0_1.length c0_1) := (blk_cell BK325.out 1).trans rfl; have hfz6_0 := blk_frozen BK325.out 0; have hfz6_1 := blk_frozen BK325.out 1) | ((with_reducible refine gate_callee (f := 66) rfl ?_); refine goesL_ (some 8) rfl rfl Try.func66 (by kernel_rfl) rfl #[.slice A0_0 l0_0.length c0_0] rfl gm ?_; (with_reducible refine (slices_Clone_byte_byte.calls _ _ l0_0 t327 _ ?side1 ?side2 A2.out).mono ?_); (case side1 => repeat (first | exact (Kd.C_below HR0_0.out HB.out) | (with_reducible refine Kd.C_alloc ?_ _) | (with_reducible refine Kd.C_drewN ?_ _) | (with_reducible refine Kd.C_drew ?_))); (case side2 => exact HC0_0.out); rintro e w7 ⟨v328, rfl, ho0, hb⟩; refine ⟨_, rfl, ?_⟩; have n0_ := Ak (Kd.R_lower ho0 (below_size (bw2 HB.out GE325.out GE326.out))); have n1_ := Ak (blk_below (g := gb325) (o := .cells #[.slice A0_0 l0_0.length c0_0, .slice A0_1 l0_1.length c0_1] 26 (0, 0)) (bq BK325.out) hb); have n2_ := Ak (blk_below (g := gb326) (o := .cells #[.slice none 0 0, .slice none 0 0] 26 (0, 0)) (bq BK326.out) hb); have n3_ := Ak (below_step (bw2 HB.out GE325.out GE326.out) hb); clear BK325; clear BK326; clear HB; have HO329 := n0_; have BK325 := n1_; have BK326 := n2_; have HB := n3_; clear n0_ n1_ n2_ n3_; obtain ⟨Ao8, co8, eo8⟩ := Kd.R_slice HO329.out; subst eo8) | ((with_reducible refine gate_dst (N := 3) rfl ?_); refine box_event ?hg (N := 3) ?hd (cs := #[.slice none 0 0, .slice none 0 0]) (t := 26) ?hr ?_; (case hd => rfl); (case hg => rfl); (case hr => first | (go_simp; done) | (go_simp; rfl)); intro gb330 hg w9 hbox hb; have n0_ := Ak (Kd.R_below (rq HO329.out) hb); have n1_ := Ak (blk_below (g := gb325) (o := .cells #[.slice A0_0 l0_0.length c0_0, .slice A0_1 l0_1.length c0_1] 26 (0, 0)) (bq BK325.out) hb); have n2_ := Ak (blk_below (g := gb326) (o := .cells #[.slice none 0 0, .slice none 0 0] 26 (0, 0)) (bq BK326.out) hb); have n3_ := Ak (below_step (bw2 HB.out GE325.out GE326.out) hb); have n4_ := Ak (hbox); have n5_ := Ak ((by rw [hg]; exact (below_size (bw2 HB.out GE325.out GE326.out)) : w.heap.size ≤ gb330)); have n6_ := Ak ((by rw [hg]; exact (below_size (bw2 HB.out GE325.out GE326.out)) : w.heap.size ≤ gb330)); have n7_ := Ak ((by rw [hg]; exact Nat.ne_of_lt (blk_lt (g := gb325) (o := .cells #[.slice A0_0 l0_0.length c0_0, .slice A0_1 l0_1.length c0_1] 26 (0, 0)) (bq BK325.out)) : gb325 ≠ gb330)); have n8_ := Ak ((by rw [hg]; exact Nat.ne_of_gt (blk_lt (g := gb325) (o := .cells #[.slice A0_0 l0_0.length c0_0, .slice A0_1 l0_1.length c0_1] 26 (0, 0)) (bq BK325.out)) : gb330 ≠ gb325)); have n9_ := Ak ((by rw [hg]; exact Nat.ne_of_lt (blk_lt (g := gb326) (o := .cells #[.slice none 0 0, .slice none 0 0] 26 (0, 0)) (bq BK326.out)) : gb326 ≠ gb330)); have n10_ := Ak ((by rw [hg]; exact Nat.ne_of_gt (blk_lt (g := gb326) (o := .cells #[.slice none 0 0, .slice none 0 0] 26 (0, 0)) (bq BK326.out)) : gb330 ≠ gb326)); clear HO329; clear BK325; clear BK326; clear HB; have HO329 := n0_; have BK325 := n1_; have BK326 := n2_; have HB := n3_; have BK330 := n4_; have GW330 := n5_; have GE330 := n6_; have NB325_330 := n7_; have NB330_325 := n8_; have NB326_330 := n9_; have NB330_326 := n10_; clear n0_ n1_ n2_ n3_ n4_ n5_ n6_ n7_ n8_ n9_ n10_; clear hb hbox hg; have hnb10 := NB330_325.out; have hnc10 := NB325_330.out; have hnb11 := NB330_326.out; have hnc11 := NB326_330.out; have hcz12_0 : w9.cell? ⟨gb330, 0, none⟩ = some (.slice none 0 0) := (blk_cell BK330.out 0).trans rfl; have hcz12_1 : w9.cell? ⟨gb330, 1, none⟩ = some (.slice none 0 0) := (blk_cell BK330.out 1).trans rfl; have hfz12_0 := blk_frozen BK330.out 0; have hfz12_1 := blk_frozen BK330.out 1; have hcz13_0 : w9.cell? ⟨gb325, 0, none⟩ = some (.slice A0_0 l0_0.length c0_0) := (blk_cell BK325.out 0).trans rfl; have hcz13_1 : w9.cell? ⟨gb325, 1, none⟩ = some (.slice A0_1 l0_1.length c0_1) := (blk_cell BK325.out 1).trans rfl; have hfz13_0 := blk_frozen BK325.out 0; have hfz13_1 := blk_frozen BK325.out 1))
 go_loopg [13] k (fun kq v13 w' => ∃ (x13_1 : Int) (x331001_1 : List (S34)) (u331001 : Value), v13 = .int .i64 x13_1 ∧ Aside0 (impl_copyDisk.l0 kq l0_1 (l0_1.length : Int) x13_1 t327 x331001_1 = some (r1, r2)) ∧ Aside0 (kq ≤ k) ∧ Aside0 (Kd.R (Kd.int .u8) 5 w' w.heap.size (fun _ => True) (.slice Ao8 t327.length co8) t327) ∧ Aside0 (Kd.S k34 34 w' w.heap.size (fun k_ => some k_ ≠ ((.slice Ao8 t327.length co8) : Value).ownBlock) u331001 x331001_1) ∧ Aside0 (w'.heap[gb325]? = some (.cells #[(.slice A0_0 l0_0.length c0_0), (.slice A0_1 l0_1.length c0_1)] 26 (0, 0))) ∧ Aside0 (w'.heap[gb326]? = some (.cells #[(.slice none 0 0), (.slice none 0 0)] 26 (0, 0))) ∧ Aside0 (w'.heap[gb330]? = some (.cells #[(.slice Ao8 t327.length co8), u331001] 26 (0, 0))) ∧ Aside0 (Below w.heap.size w w'))
 case atStart => exact ⟨(0), (([] : List (S34))), (.slice none 0 0), (by first | rfl | (simp; done) | (simp [*]; done)), H', ⟨Nat.le_refl _⟩, ⟨by (with_reducible repeat (first | apply Kd.R_alloc | apply Kd.R_drewN | apply Kd.R_drew)); exact Kd.R_mono (Kd.R_far (p := ⟨gb330, 1, none⟩) (Kd.R_far (p := ⟨gb330, 0, none⟩) (Kd.R_types HO329.out BK330.out (by decide)) (fun _ hk => hk.2) (.slice Ao8 t327.length co8)) (fun _ hk => hk.2) (.slice none 0 0)) (fun _ hk => trivial)⟩, ⟨by first | exact Kd.S_nil _ _ _ _ _ | exact Kd.N_nil _ _ _ _ _ | exact Kd.V_nil _ _ _ _ _ | exact Kd.Q_nil _ _ _ _ _ | exact Kd.R_nil _ _ _ _ _⟩, ⟨by (with_reducible repeat (first | refine blk_drewN ?_ _ | refine blk_drew ?_ | refine blk_alloc ?_ _)); refine blk_far ?_ NB325_330.out _; (with_reducible repeat (first | refine blk_drewN ?_ _ | refine blk_drew ?_ | refine blk_alloc ?_ _)); refine blk_far ?_ NB325_330.out _; (with_reducible repeat (first | refine blk_drewN ?_ _ | refine blk_drew ?_ | refine blk_alloc ?_ _)); exact BK325.out⟩, ⟨by (with_reducible repeat (first | refine blk_drewN ?_ _ | refine blk_drew ?_ | refine blk_alloc ?_ _)); refine blk_far ?_ NB326_330.out _; (with_reducible repeat (first | refine blk_drewN ?_ _ | refine blk_drew ?_ | refine blk_alloc ?_ _)); refine blk_far ?_ NB326_330.out _; (with_reducible repeat (first | refine blk_drewN ?_ _ | refine blk_drew ?_ | refine blk_alloc ?_ _)); exact BK326.out⟩, ⟨by (with_reducible repeat (first | refine blk_drewN ?_ _ | refine blk_drew ?_ | refine blk_alloc ?_ _)); refine blk_put (cs := #[.slice Ao8 t327.length co8, .slice none 0 0]) ?_ 1 _ rfl; (with_reducible repeat (first | refine blk_drewN ?_ _ | refine blk_drew ?_ | refine blk_alloc ?_ _)); refine blk_put (cs := #[.slice none 0 0, .slice none 0 0]) ?_ 0 _ rfl; (with_reducible repeat (first | refine blk_drewN ?_ _ | refine blk_drew ?_ | refine blk_alloc ?_ _)); exact BK330.out⟩, ⟨bw3 HB.out GE325.out GE326.out GE330.out⟩⟩
 case round =>
  clear H'
  obtain ⟨x13_1, x331001_1, u331001, rfl, HA, HK1, HO_331000, HO_331001, BK325, BK326, BK330, HB⟩ := hrel
  cases gk with
  | zero => exact absurd HA.out (by simp [impl_copyDisk.l0])
  | succ k1 =>
   have H := HA.out
   clear HA
   simp only [impl_copyDisk.l0] at H
   by_cases c14 : x13_1 < (l0_1.length : Int)
   ·rw [if_pos c14] at H
    have c14b0 : decide (x13_1 < (l0_1.length : Int)) = true := decide_eq_true c14
    clear c14
    by_cases c15 : 0 ≤ x13_1
    ·rw [if_pos c15] at H
     have c15b0 : decide (0 ≤ x13_1) = true := decide_eq_true c15
     clear c15
     by_cases c16 : x13_1 < (l0_1.length : Int)
     ·rw [if_pos c16] at H
      have c16b0 : decide (x13_1 < (l0_1.length : Int)) = true := decide_eq_true c16
      clear c16
      replace H := Option.bind_eq_some_iff.mp H
      obtain ⟨t333, A170, H⟩ := H
      replace H : (if x331001_1.length < 4398046511104 then (impl_copyDisk.l0 k1 l0_1 (l0_1.length : Int) (wrap64 (x13_1 + 1)) t327 (x331001_1 ++ [(⟨(rd_T34 l0_1 x13_1).f0, t333⟩ : S34)])) else (none)) = some (r1, r2) := H
      have A17 := Ak A170
      clear A170
      by_cases c18 : x331001_1.length < 4398046511104
      ·rw [if_pos c18] at H
       have LMc18 := Ak c18
       clear c18
       obtain ⟨y336, hy336⟩ : ∃ y_ : List (S34), y_ = (x331001_1 ++ [(⟨(rd_T34 l0_1 x13_1).f0, t333⟩ : S34)]) := ⟨_, rfl⟩
       replace H : (impl_copyDisk.l0 k1 l0_1 (l0_1.length : Int) (wrap64 (x13_1 + 1)) t327 y336) = some (r1, r2) := by first | (rw [hy336]; with_reducible exact H) | (have H2_ := (Option.bind_some _ _).symm.trans H; rw [hy336]; with_reducible exact H2_) | (have H2_ := (Option.bind_some _ _).symm.trans H; with_reducible exact H2_) | with_reducible exact H | (rw [hy336]; exact H) | exact H
       have Ny336 := Ak hy336
       clear hy336
       have H' := Ak H
       clear H
       have p331 : 0 ≤ (x13_1 : Int) := of_decide_eq_true (by first | (with_reducible assumption) | assumption)
       have q331 : x13_1 < (l0_1.length : Int) := of_decide_eq_true (by first | (with_reducible assumption) | assumption)
       obtain ⟨ad331, A331_1, c331_1, e331, hx331_0, hx331_1, hl331_1, hi331_1⟩ := at_T34 HR0_1.out x13_1 p331 q331
       cases e331
       replace hx331_0 := (HB.out.cell (World.block_lt_of_cell? w _ hx331_0)).trans hx331_0
       replace hx331_1 := (HB.out.cell (World.block_lt_of_cell? w _ hx331_1)).trans hx331_1
       have HR331_1 := Ak hi331_1
       have HC331_1 := Ak hl331_1
       clear hi331_1 hl331_1
       replace p331 := eq_true p331
       replace q331 := eq_true q331
       try go_wp2_with (first | ((with_reducible refine gate_dst (N := 5) rfl ?_); refine box_event ?hg (N := 5) ?hd (cs := #[.int .i64 0, .slice none 0 0]) (t := 34) ?hr ?_; (case hd => rfl); (case hg => rfl); (case hr => first | (go_simp; done) | (go_simp; rfl)); intro gb332 hg w19 hbox hb; have n0_ := Ak (Kd.R_below (rq HO_331000.out) hb); have n1_ := Ak (Kd.S_below (Kd.S_elderB (sq HO_331001.out) gb332 (Nat.le_of_eq hg.symm)) hb); have n2_ := Ak (blk_below (g := gb325) (o := .cells #[.slice A0_0 l0_0.length c0_0, .slice (some ad331) l0_1.length c0_1] 26 (0, 0)) (bq BK325.out) hb); have n3_ := Ak (blk_below (g := gb326) (o := .cells #[.slice none 0 0, .slice none 0 0] 26 (0, 0)) (bq BK326.out) hb); have n4_ := Ak (blk_below (g := gb330) (o := .cells #[.slice Ao8 t327.length co8, u331001] 26 (0, 0)) (bq BK330.out) hb); have n5_ := Ak (below_step (bw3 HB.out GE325.out GE326.out GE330.out) hb); have n6_ := Ak (hbox); have n7_ := Ak ((by rw [hg]; exact (below_size (bw3 HB.out GE325.out GE326.out GE330.out)) : w.heap.size ≤ gb332)); have n8_ := Ak ((by rw [hg]; exact (below_size (bw3 HB.out GE325.out GE326.out GE330.out)) : w.heap.size ≤ gb332)); have n9_ := Ak ((by rw [hg]; exact Nat.ne_of_lt (blk_lt (g := gb325) (o := .cells #[.slice A0_0 l0_0.length c0_0, .slice (some ad331) l0_1.length c0_1] 26 (0, 0)) (bq BK325.out)) : gb325 ≠ gb332)); have n10_ := Ak ((by rw [hg]; exact Nat.ne_of_gt (blk_lt (g := gb325) (o := .cells #[.slice A0_0 l0_0.length c0_0, .slice (some ad331) l0_1.length c0_1] 26 (0, 0)) (bq BK325.out)) : gb332 ≠ gb325)); have n11_ := Ak ((by rw [hg]; exact Nat.ne_of_lt (blk_lt (g := gb326) (o := .cells #[.slice none 0 0, .slice none 0 0] 26 (0, 0)) (bq BK326.out)) : gb326 ≠ gb332)); have n12_ := Ak ((by rw [hg]; exact Nat.ne_of_gt (blk_lt (g := gb326) (o := .cells #[.slice none 0 0, .slice none 0 0] 26 (0, 0)) (bq BK326.out)) : gb332 ≠ gb326)); have n13_ := Ak ((by rw [hg]; exact Nat.ne_of_lt (blk_lt (g := gb330) (o := .cells #[.slice Ao8 t327.length co8, u331001] 26 (0, 0)) (bq BK330.out)) : gb330 ≠ gb332)); have n14_ := Ak ((by rw [hg]; exact Nat.ne_of_gt (blk_lt (g := gb330) (o := .cells #[.slice Ao8 t327.length co8, u331001] 26 (0, 0)) (bq BK330.out)) : gb332 ≠ gb330)); clear HO_331000; clear HO_331001; clear BK325; clear BK326; clear BK330; clear HB; have HO_331000 := n0_; have HO_331001 := n1_; have BK325 := n2_; have BK326 := n3_; have BK330 := n4_; have HB := n5_; have BK332 := n6_; have GW332 := n7_; have GE332 := n8_; have NB325_332 := n9_; have NB332_325 := n10_; have NB326_332 := n11_; have NB332_326 := n12_; have NB330_332 := n13_; have NB332_330 := n14_; clear n0_ n1_ n2_ n3_ n4_ n5_ n6_ n7_ n8_ n9_ n10_ n11_ n12_ n13_ n14_; clear hb hbox hg; have hnb20 := NB332_325.out; have hnc20 := NB325_332.out; have hnb21 := NB332_326.out; have hnc21 := NB326_332.out; have hnb22 := NB332_330.out; have hnc22 := NB330_332.out; have hcz23_0 : w19.cell? ⟨gb332, 0, none⟩ = some (.int .i64 0) := (blk_cell BK332.out 0).trans rfl; have hcz23_1 : w19.cell? ⟨gb332, 1, none⟩ = some (.slice none 0 0) := (blk_cell BK332.out 1).trans rfl; have hfz23_0 := blk_frozen BK332.out 0; have hfz23_1 := blk_frozen BK332.out 1))
       have n0_ : Aside0 (Kd.R (Kd.int .u8) 5 ((w19.setCell ⟨gb332, 0, none⟩ (.int .i64 ((rd_T34 l0_1 x13_1).f0))).setCell ⟨gb332, 1, none⟩ (.slice A331_1 ((rd_T34 l0_1 x13_1).f1).length c331_1)) w.heap.size (fun _ => True) (.slice Ao8 t327.length co8) t327) := ⟨by (with_reducible repeat (first | apply Kd.R_alloc | apply Kd.R_drewN | apply Kd.R_drew)); exact Kd.R_mono (Kd.R_far (p := ⟨gb332, 1, none⟩) (Kd.R_far (p := ⟨gb332, 0, none⟩) (Kd.R_types HO_331000.out BK332.out (by decide)) (fun _ hk => hk.2) (.int .i64 ((rd_T34 l0_1 x13_1).f0))) (fun _ hk => hk.2) (.slice A331_1 ((rd_T34 l0_1 x13_1).f1).length c331_1)) (fun _ hk => trivial)⟩
       have n1_ : Aside0 (Kd.S k34 34 ((w19.setCell ⟨gb332, 0, none⟩ (.int .i64 ((rd_T34 l0_1 x13_1).f0))).setCell ⟨gb332, 1, none⟩ (.slice A331_1 ((rd_T34 l0_1 x13_1).f1).length c331_1)) w.heap.size (fun k_ => some k_ ≠ (.slice Ao8 t327.length co8 : Value).ownBlock ∧ k_ ≠ gb332) u331001 x331001_1) := ⟨by (with_reducible repeat (first | apply Kd.S_alloc | apply Kd.S_drewN | apply Kd.S_drew)); exact Kd.S_mono (Kd.S_far (p := ⟨gb332, 1, none⟩) (Kd.S_far (p := ⟨gb332, 0, none⟩) (Kd.S_mono HO_331001.out (fun k_ hk => (⟨hk, hk.2⟩ : _ ∧ k_ ≠ gb332))) (fun _ hk => hk.2) (.int .i64 ((rd_T34 l0_1 x13_1).f0))) (fun _ hk => hk.2) (.slice A331_1 ((rd_T34 l0_1 x13_1).f1).length c331_1)) (fun _ hk => ⟨hk.1.1, hk.1.2⟩)⟩
       have n2_ : Aside0 (((w19.setCell ⟨gb332, 0, none⟩ (.int .i64 ((rd_T34 l0_1 x13_1).f0))).setCell ⟨gb332, 1, none⟩ (.slice A331_1 ((rd_T34 l0_1 x13_1).f1).length c331_1)).heap[gb325]? = some (.cells #[.slice A0_0 l0_0.length c0_0, .slice (some ad331) l0_1.length c0_1] 26 (0, 0))) := ⟨by (with_reducible repeat (first | refine blk_drewN ?_ _ | refine blk_drew ?_ | refine blk_alloc ?_ _)); refine blk_far ?_ NB325_332.out _; (with_reducible repeat (first | refine blk_drewN ?_ _ | refine blk_drew ?_ | refine blk_alloc ?_ _)); refine blk_far ?_ NB325_332.out _; (with_reducible repeat (first | refine blk_drewN ?_ _ | refine blk_drew ?_ | refine blk_alloc ?_ _)); exact BK325.out⟩
       have n3_ : Aside0 (((w19.setCell ⟨gb332, 0, none⟩ (.int .i64 ((rd_T34 l0_1 x13_1).f0))).setCell ⟨gb332, 1, none⟩ (.slice A331_1 ((rd_T34 l0_1 x13_1).f1).length c331_1)).heap[gb326]? = some (.cells #[.slice none 0 0, .slice none 0 0] 26 (0, 0))) := ⟨by (with_reducible repeat (first | refine blk_drewN ?_ _ | refine blk_drew ?_ | refine blk_alloc ?_ _)); refine blk_far ?_ NB326_332.out _; (with_reducible repeat (first | refine blk_drewN ?_ _ | refine blk_drew ?_ | refine blk_alloc ?_ _)); refine blk_far ?_ NB326_332.out _; (with_reducible repeat (first | refine blk_drewN ?_ _ | refine blk_drew ?_ | refine blk_alloc ?_ _)); exact BK326.out⟩
       have n4_ : Aside0 (((w19.setCell ⟨gb332, 0, none⟩ (.int .i64 ((rd_T34 l0_1 x13_1).f0))).setCell ⟨gb332, 1, none⟩ (.slice A331_1 ((rd_T34 l0_1 x13_1).f1).length c331_1)).heap[gb330]? = some (.cells #[.slice Ao8 t327.length co8, u331001] 26 (0, 0))) := ⟨by (with_reducible repeat (first | refine blk_drewN ?_ _ | refine blk_drew ?_ | refine blk_alloc ?_ _)); refine blk_far ?_ NB330_332.out _; (with_reducible repeat (first | refine blk_drewN ?_ _ | refine blk_drew ?_ | refine blk_alloc ?_ _)); refine blk_far ?_ NB330_332.out _; (with_reducible repeat (first | refine blk_drewN ?_ _ | refine blk_drew ?_ | refine blk_alloc ?_ _)); exact BK330.out⟩
       have n5_ : Aside0 (((w19.setCell ⟨gb332, 0, none⟩ (.int .i64 ((rd_T34 l0_1 x13_1).f0))).setCell ⟨gb332, 1, none⟩ (.slice A331_1 ((rd_T34 l0_1 x13_1).f1).length c331_1)).heap[gb332]? = some (.cells #[.int .i64 ((rd_T34 l0_1 x13_1).f0), .slice A331_1 ((rd_T34 l0_1 x13_1).f1).length c331_1] 34 (0, 0))) := ⟨by (with_reducible repeat (first | refine blk_drewN ?_ _ | refine blk_drew ?_ | refine blk_alloc ?_ _)); refine blk_put (cs := #[.int .i64 ((rd_T34 l0_1 x13_1).f0), .slice none 0 0]) ?_ 1 _ rfl; (with_reducible repeat (first | refine blk_drewN ?_ _ | refine blk_drew ?_ | refine blk_alloc ?_ _)); refine blk_put (cs := #[.int .i64 0, .slice none 0 0]) ?_ 0 _ rfl; (with_reducible repeat (first | refine blk_drewN ?_ _ | refine blk_drew ?_ | refine blk_alloc ?_ _)); exact BK332.out⟩
       have n6_ : Aside0 (Below w.heap.size w ((w19.setCell ⟨gb332, 0, none⟩ (.int .i64 ((rd_T34 l0_1 x13_1).f0))).setCell ⟨gb332, 1, none⟩ (.slice A331_1 ((rd_T34 l0_1 x13_1).f1).length c331_1))) := ⟨bw4 HB.out GE325.out GE326.out GE330.out GE332.out⟩
       (try clear HO_331000)
       (try clear HO_331001)
       (try clear BK325)
       (try clear BK326)
       (try clear BK330)
       (try clear BK332)
       (try clear HB)
       generalize ((w19.setCell ⟨gb332, 0, none⟩ (.int .i64 ((rd_T34 l0_1 x13_1).f0))).setCell ⟨gb332, 1, none⟩ (.slice A331_1 ((rd_T34 l0_1 x13_1).f1).length c331_1)) = w24 at n0_ n1_ n2_ n3_ n4_ n5_ n6_ ⊢
       have HO_331000 := n0_
       have HO_331001 := n1_
       have BK325 := n2_
       have BK326 := n3_
       have BK330 := n4_
       have BK332 := n5_
       have HB := n6_
       clear n0_ n1_ n2_ n3_ n4_ n5_ n6_
       have n0_ := Ak (Kd.R_drew HO_331000.out)
       have n1_ := Ak (Kd.S_drew HO_331001.out)
       have n2_ := Ak (blk_drew BK325.out)
       have n3_ := Ak (blk_drew BK326.out)
       have n4_ := Ak (blk_drew BK330.out)
       have n5_ := Ak (blk_drew BK332.out)
       have n6_ := Ak (below_drew1 HB.out)
       clear HO_331000
       clear HO_331001
       clear BK325
       clear BK326
       clear BK330
       clear BK332
       clear HB
       have HO_331000 := n0_
       have HO_331001 := n1_
       have BK325 := n2_
       have BK326 := n3_
       have BK330 := n4_
       have BK332 := n5_
       have HB := n6_
       clear n0_ n1_ n2_ n3_ n4_ n5_ n6_
       refine start_ (n := 12) (S := fun w' => w'.cell? ⟨gb330, 0, none⟩ = some (.slice Ao8 t327.length co8) ∧ w'.cell? ⟨gb330, 1, none⟩ = some (u331001) ∧ w'.cell? ⟨gb332, 0, none⟩ = some (.int .i64 ((rd_T34 l0_1 x13_1).f0)) ∧ w'.cell? ⟨gb332, 1, none⟩ = some (.slice A331_1 ((rd_T34 l0_1 x13_1).f1).length c331_1)) (ds := [11]) #[false, false, false, false, false, false, false, false, false, false, false, false] (by kernel_rfl) rfl rfl ⟨(blk_cell BK330.out 0).trans rfl, (blk_cell BK330.out 1).trans rfl, (blk_cell BK332.out 0).trans rfl, (blk_cell BK332.out 1).trans rfl⟩ (fun hHeld => ?_); refine with_tabW impl_copyDisk.tab5 impl_copyDisk.bits5 (fun HT_ HW_ => ?_)
       generalize w24.drew = w25 at HO_331000 HO_331001 BK325 BK326 BK330 BK332 HB hHeld ⊢
       refine pure_ (i := 0) (N := some 17) (v := ?_) (a' := ?_) #[true, false, false, false, false, false, false, false, false, false, false, false] rfl rfl (any_of HT_.out (by kernel_rfl)) (fun _ _ _ h => h) (Or.inl ⟨by rfl, ?_⟩) ?_ ?_
       rotate_left
       ·intro w'
        go_simp
        with_reducible rfl
       rotate_left
       ·simp only [Act.put, sT, sZ, sS, i64_w, i32_w]
        rfl
       refine pure_ (i := 2) (N := some 19) (v := ?_) (a' := ?_) #[true, false, true, false, false, false, false, false, false, false, false, false] rfl rfl (any_of HT_.out (by kernel_rfl)) (fun _ _ _ h => h) (Or.inl ⟨by rfl, ?_⟩) ?_ ?_
       rotate_left
       ·intro w'
        go_simp
        with_reducible rfl
       rotate_left
       ·simp only [Act.put, sT, sZ, sS, i64_w, i32_w]
        rfl
       refine pure_ (i := 4) (N := some 21) (v := ?_) (a' := ?_) #[true, false, true, false, true, false, false, false, false, false, false, false] rfl rfl (any_of HT_.out (by kernel_rfl)) (fun _ _ _ h => h) (Or.inl ⟨by rfl, ?_⟩) ?_ ?_
       rotate_left
       ·intro w'
        go_simp
        with_reducible rfl
       rotate_left
       ·simp only [Act.put, sT, sZ, sS, i64_w, i32_w]
        rfl
       refine take_ (i := 1) (N := some 18) (v := ?_) (a' := ?_) #[true, true, true, false, true, false, false, false, false, false, false, false] rfl rfl (take_ofW HT_.out HW_.out (by kernel_rfl)) (fun _ _ _ h => h) (Or.inl ⟨by rfl, ?_⟩) hHeld ?_ ?_
       rotate_left
       ·rintro w' ⟨s0, s1, s2, s3⟩
        go_simp
        with_reducible rfl
       rotate_left
       ·simp only [Act.put, sT, sZ, sS, i64_w, i32_w]
        rfl
       refine take_ (i := 3) (N := some 20) (v := ?_) (a' := ?_) #[true, true, true, true, true, false, false, false, false, false, false, false] rfl rfl (take_ofW HT_.out HW_.out (by kernel_rfl)) (fun _ _ _ h => h) (Or.inl ⟨by rfl, ?_⟩) hHeld ?_ ?_
       rotate_left
       ·rintro w' ⟨s0, s1, s2, s3⟩
        go_simp
        with_reducible rfl
       rotate_left
       ·simp only [Act.put, sT, sZ, sS, i64_w, i32_w]
        rfl
       refine take_ (i := 5) (N := some 22) (v := ?_) (a' := ?_) #[true, true, true, true, true, true, false, false, false, false, false, false] rfl rfl (take_ofW HT_.out HW_.out (by kernel_rfl)) (fun _ _ _ h => h) (Or.inl ⟨by rfl, ?_⟩) hHeld ?_ ?_
       rotate_left
       ·rintro w' ⟨s0, s1, s2, s3⟩
        go_simp
        with_reducible rfl
       rotate_left
       ·simp only [Act.put, sT, sZ, sS, i64_w, i32_w]
        rfl
       refine one_ (i := 6) (N := some 23) #[true, true, true, true, true, true, true, false, false, false, false, false] rfl rfl (one_of HT_.out (by kernel_rfl)) (by decide) (fun K hK => ?_)
       refine goes_ Try.func66 (by kernel_rfl) rfl #[.slice A331_1 ((rd_T34 l0_1 x13_1).f1).length c331_1] (by rfl) rfl rfl gm ?_
       with_reducible refine (slices_Clone_byte_byte.calls _ _ ((rd_T34 l0_1 x13_1).f1) t333 _ ?side1 ?side2 A17.out).mono ?_
       (case side1 => repeat (first | exact (Kd.C_below HR331_1.out HB.out) | (with_reducible refine Kd.C_alloc ?_ _) | (with_reducible refine Kd.C_drewN ?_ _) | (with_reducible refine Kd.C_drew ?_)))
       (case side2 => exact HC331_1.out)
       rintro e w26 ⟨v334, rfl, ho0, hb⟩
       refine ⟨_, rfl, ?_⟩
       have n0_ := Ak (Kd.R_elder' (rq HO_331000.out) (Kd.R_base ho0) hb)
       have n1_ := Ak (Kd.S_elder' (sq HO_331001.out) (Kd.R_base ho0) hb)
       have n2_ := Ak (Kd.R_lower (Kd.R_new' ho0 (Kd.R_lt (rq HO_331000.out))) (below_size (bw4 HB.out GE325.out GE326.out GE330.out GE332.out)))
       have n3_ := Ak (blk_below (g := gb325) (o := .cells #[.slice A0_0 l0_0.length c0_0, .slice (some ad331) l0_1.length c0_1] 26 (0, 0)) (bq BK325.out) hb)
       have n4_ := Ak (blk_below (g := gb326) (o := .cells #[.slice none 0 0, .slice none 0 0] 26 (0, 0)) (bq BK326.out) hb)
       have n5_ := Ak (blk_below (g := gb330) (o := .cells #[.slice Ao8 t327.length co8, u331001] 26 (0, 0)) (bq BK330.out) hb)
       have n6_ := Ak (blk_below (g := gb332) (o := .cells #[.int .i64 ((rd_T34 l0_1 x13_1).f0), .slice A331_1 ((rd_T34 l0_1 x13_1).f1).length c331_1] 34 (0, 0)) (bq BK332.out) hb)
       have n7_ := Ak (below_step (bw4 HB.out GE325.out GE326.out GE330.out GE332.out) hb)
       clear HO_331000
       clear HO_331001
       clear BK325
       clear BK326
       clear BK330
       clear BK332
       clear HB
       have HO_331000 := n0_
       have HO_331001 := n1_
       have HO335 := n2_
       have BK325 := n3_
       have BK326 := n4_
       have BK330 := n5_
       have BK332 := n6_
       have HB := n7_
       clear n0_ n1_ n2_ n3_ n4_ n5_ n6_ n7_
       obtain ⟨Ao27, co27, eo27⟩ := Kd.R_slice HO335.out
       (first | subst eo27 | (injection eo27 with f1_ f2_ f3_; have f4_ := f1_.symm; have f5_ := f3_.symm; clear f1_ f2_ f3_; subst f4_; subst f5_))
       refine hK.out _ _ ⟨(blk_cell BK330.out 0).trans rfl, (blk_cell BK330.out 1).trans rfl, (blk_cell BK332.out 0).trans rfl, (blk_cell BK332.out 1).trans rfl⟩ (fun hHeld => ?_)
       clear hK K
       refine norm_ (a' := ?_) ?_ ?_
       rotate_left
       ·show Act.put _ (some 23) _ = _
        simp only [Act.put, sT, sZ, sS, i64_w, i32_w]
        rfl
       refine pure_ (i := 7) (N := some 24) (v := ?_) (a' := ?_) #[true, true, true, true, true, true, true, true, false, false, false, false] rfl rfl (any_of HT_.out (by kernel_rfl)) (fun _ _ _ h => h) (Or.inl ⟨by rfl, ?_⟩) ?_ ?_
       rotate_left
       ·intro w'
        go_simp
        with_reducible rfl
       rotate_left
       ·simp only [Act.put, sT, sZ, sS, i64_w, i32_w]
        rfl
       refine one_ (i := 8) (N := some 25) #[true, true, true, true, true, true, true, true, true, false, false, false] rfl rfl (one_of HT_.out (by kernel_rfl)) (by decide) (fun K hK => ?_)
       refine value_ (w1 := ?_) (v := ?_) (by rfl) rfl ?_ ?_
       rotate_left 2
       ·go_simp
        constructor
        ·rfl
        ·rfl
       refine hK.out _ _ ⟨(blk_cell (blk_alloc BK330.out _) 0).trans rfl, (blk_cell (blk_alloc BK330.out _) 1).trans rfl, (blk_cell (blk_alloc BK332.out _) 0).trans rfl, (blk_cell (blk_alloc BK332.out _) 1).trans rfl⟩ (fun hHeld => ?_)
       clear hK K
       refine norm_ (a' := ?_) ?_ ?_
       rotate_left
       ·show Act.put _ (some 25) _ = _
        simp only [Act.put, sT, sZ, sS, i64_w, i32_w]
        rfl
       refine one_ (i := 9) (N := some 26) #[true, true, true, true, true, true, true, true, true, true, false, false] rfl rfl (one_of HT_.out (by kernel_rfl)) (by decide) (fun K hK => ?_)
       refine Kd.S_append_step k34 (w0 := w) w.heap.size (by rfl) (.tmp 18) (.tmp 25) 24 34 (.agg #[(.int .i64 0), (.slice none 0 0)]) 32 rfl Try.underlying24 info34 rfl (by decide) (by omega) u331001 x331001_1 (⟨(rd_T34 l0_1 x13_1).f0, t333⟩ : S34) [.int .i64 ((rd_T34 l0_1 x13_1).f0), .slice Ao27 t333.length co27] (fun k_ => some k_ ≠ (.slice Ao8 t327.length co8 : Value).ownBlock ∧ k_ ≠ gb332) (fun k_ => some k_ = (.slice Ao27 t333.length co27 : Value).ownBlock) rfl rfl ?aP (fun k_ hk_ => ((Kd.R_mono (ok' := fun k_ => ((fun k_ => some k_ ≠ (.slice Ao8 t327.length co8 : Value).ownBlock ∧ k_ ≠ gb332)) k_ ∧ some k_ ≠ (u331001 : Value).ownBlock) (Kd.R_types (Kd.R_apart' (HO335.out) (Kd.S_typed HO_331001.out) (by decide)) BK332.out (by decide)) (fun k_ hk => ⟨⟨hk.1.1.2, hk.2⟩, hk.1.2⟩))).1 k_ hk_.symm) ?aF ?aO ?aB ?aS ?aL ?_
       (case aP => exact k34_mkM _ _ _ (⟨(rd_T34 l0_1 x13_1).f0, t333⟩ : S34) (Kd.R_mono (Kd.R_tight rfl (Kd.R_mono (ok' := fun k_ => ((fun k_ => some k_ ≠ (.slice Ao8 t327.length co8 : Value).ownBlock ∧ k_ ≠ gb332)) k_ ∧ some k_ ≠ (u331001 : Value).ownBlock) (Kd.R_types (Kd.R_apart' (HO335.out) (Kd.S_typed HO_331001.out) (by decide)) BK332.out (by decide)) (fun k_ hk => ⟨⟨hk.1.1.2, hk.2⟩, hk.1.2⟩))) (fun _ h_ => h_)))
       (case aB => exact (bw4 HB.out GE325.out GE326.out GE330.out GE332.out))
       (case aF => exact (fun k_ hk => ⟨Kd.fresh' (Kd.R_lt (rq HO_331000.out)) k_ hk, Kd.freshB (g := gb332) (o := .cells #[.int .i64 ((rd_T34 l0_1 x13_1).f0), .slice A331_1 ((rd_T34 l0_1 x13_1).f1).length c331_1] 34 (0, 0)) (bq BK332.out) k_ hk⟩))
       (case aO => exact (by (with_reducible repeat (first | apply Kd.S_alloc | apply Kd.S_drewN | apply Kd.S_drew)); exact Kd.S_mono HO_331001.out (fun k_ hk => ⟨⟨hk.1.1, hk.1.2⟩, fun e_ => hk.2 e_⟩)))
       (case aS => exact (below_size (bw4 HB.out GE325.out GE326.out GE330.out GE332.out)))
       (case aL => have := LMc18.out; omega)
       intro v337 w28 ho hb hg hat
       rw [← Ny336.out] at ho
       have n0_ := Ak (Kd.R_over' (rq HO_331000.out) (Kd.S_typed (sq HO_331001.out)) (by decide) hg)
       have n1_ := Ak (blk_grown (g := gb325) (o := .cells #[.slice A0_0 l0_0.length c0_0, .slice (some ad331) l0_1.length c0_1] 26 (0, 0)) (bq BK325.out) hg (Kd.S_ne HO_331001.out BK325.out (by decide)))
       have n2_ := Ak (blk_grown (g := gb326) (o := .cells #[.slice none 0 0, .slice none 0 0] 26 (0, 0)) (bq BK326.out) hg (Kd.S_ne HO_331001.out BK326.out (by decide)))
       have n3_ := Ak (blk_grown (g := gb330) (o := .cells #[.slice Ao8 t327.length co8, u331001] 26 (0, 0)) (bq BK330.out) hg (Kd.S_ne HO_331001.out BK330.out (by decide)))
       have n4_ := Ak (blk_grown (g := gb332) (o := .cells #[.int .i64 ((rd_T34 l0_1 x13_1).f0), .slice A331_1 ((rd_T34 l0_1 x13_1).f1).length c331_1] 34 (0, 0)) (bq BK332.out) hg (Kd.S_away HO_331001.out (fun _ hk => hk.1.2)))
       have n5_ := Ak (hb)
       have n6_ := Ak (ho)
       clear HO_331000
       clear BK325
       clear BK326
       clear BK330
       clear BK332
       clear HB
       clear HO_331001
       clear HO335
       have HO_331000 := n0_
       have BK325 := n1_
       have BK326 := n2_
       have BK330 := n3_
       have BK332 := n4_
       have HB := n5_
       have HO338 := n6_
       clear n0_ n1_ n2_ n3_ n4_ n5_ n6_
       clear ho hb hg hat
       obtain ⟨Ao29, co29, eo29⟩ := Kd.S_slice HO338.out
       (first | subst eo29 | (injection eo29 with f1_ f2_ f3_; have f4_ := f1_.symm; have f5_ := f3_.symm; clear f1_ f2_ f3_; subst f4_; subst f5_))
       refine hK.out _ _ ⟨(blk_cell BK330.out 0).trans rfl, (blk_cell BK330.out 1).trans rfl, (blk_cell BK332.out 0).trans rfl, (blk_cell BK332.out 1).trans rfl⟩ (fun hHeld => ?_)
       clear hK K
       refine norm_ (a' := ?_) ?_ ?_
       rotate_left
       ·show Act.put _ (some 26) _ = _
        simp only [Act.put, sT, sZ, sS, i64_w, i32_w]
        rfl
       refine pure_ (i := 10) (N := some 27) (v := ?_) (a' := ?_) #[true, true, true, true, true, true, true, true, true, true, true, false] rfl rfl (any_of HT_.out (by kernel_rfl)) (fun _ _ _ h => h) (Or.inl ⟨by rfl, ?_⟩) ?_ ?_
       rotate_left
       ·intro w'
        go_simp
        with_reducible rfl
       rotate_left
       ·simp only [Act.put, sT, sZ, sS, i64_w, i32_w]
        rfl
       refine last_ (i := 11) (N := none) #[true, true, true, true, true, true, true, true, true, true, true, true] rfl rfl (one_of HT_.out (by kernel_rfl)) (by decide) (fun K hK => ?_)
       have hs30 : w28.cell? ⟨gb330, 1, none⟩ = some (u331001) := (blk_cell BK330.out 1).trans rfl
       have hfs30 := blk_frozen BK330.out 1
       have hns30_0 := NB325_330.out
       have hns30_1 := NB326_330.out
       have hns30_3 := NB332_330.out
       have hms30_0 := NB330_325.out
       have hms30_1 := NB330_326.out
       have hms30_3 := NB330_332.out
       refine skip_ (w1 := ?_) (by rfl) rfl ?_ ?_
       rotate_left
       ·go_simp
        rfl
       refine hK.out _ _ ?_
       clear hK K
       refine done_ (done_of HT_.out (by kernel_rfl)) ?_
       try go_wp2
       go_roundg k1
       case measure => have := HK1.out; omega
       case rel => exact ⟨(wrap64 (x13_1 + 1)), (y336), (.slice Ao29 y336.length co29), (by first | rfl | (simp; done) | (simp [*]; done)), H', ⟨by have := HK1.out; omega⟩, ⟨by (with_reducible repeat (first | apply Kd.R_alloc | apply Kd.R_drewN | apply Kd.R_drew)); exact Kd.R_mono (Kd.R_far (p := ⟨gb330, 1, none⟩) (Kd.R_types HO_331000.out BK330.out (by decide)) (fun _ hk => hk.2) (.slice Ao29 y336.length co29)) (fun _ hk => trivial)⟩, ⟨by (with_reducible repeat (first | apply Kd.S_alloc | apply Kd.S_drewN | apply Kd.S_drew)); exact Kd.S_mono (Kd.S_far (p := ⟨gb330, 1, none⟩) (Kd.S_types HO338.out BK330.out (by decide)) (fun _ hk => hk.2) (.slice Ao29 y336.length co29)) (fun _ hk => hk.1.1)⟩, ⟨by (with_reducible repeat (first | refine blk_drewN ?_ _ | refine blk_drew ?_ | refine blk_alloc ?_ _)); refine blk_far ?_ NB325_330.out _; (with_reducible repeat (first | refine blk_drewN ?_ _ | refine blk_drew ?_ | refine blk_alloc ?_ _)); exact BK325.out⟩, ⟨by (with_reducible repeat (first | refine blk_drewN ?_ _ | refine blk_drew ?_ | refine blk_alloc ?_ _)); refine blk_far ?_ NB326_330.out _; (with_reducible repeat (first | refine blk_drewN ?_ _ | refine blk_drew ?_ | refine blk_alloc ?_ _)); exact BK326.out⟩, ⟨by (with_reducible repeat (first | refine blk_drewN ?_ _ | refine blk_drew ?_ | refine blk_alloc ?_ _)); refine blk_put (cs := #[.slice Ao8 t327.length co8, u331001]) ?_ 1 _ rfl; (with_reducible repeat (first | refine blk_drewN ?_ _ | refine blk_drew ?_ | refine blk_alloc ?_ _)); exact BK330.out⟩, ⟨bw4 HB.out GE325.out GE326.out GE330.out GE332.out⟩⟩
      ·rw [if_neg c18] at H
       exact absurd H (by simp)
     ·rw [if_neg c16] at H
      exact absurd H (by simp)
    ·rw [if_neg c15] at H
     exact absurd H (by simp)
   ·rw [if_neg c14] at H
    have c14b0 : decide (x13_1 < (l0_1.length : Int)) = false := decide_eq_false c14
    clear c14
    simp only [Option.some.injEq, Prod.mk.injEq] at H
    obtain ⟨rfl, rfl⟩ := H
    have hnb31 := NB330_325.out
    have hnc31 := NB325_330.out
    have hnb32 := NB330_326.out
    have hnc32 := NB326_330.out
    have hcz33_0 : wr.cell? ⟨gb330, 0, none⟩ = some (.slice Ao8 t327.length co8) := (blk_cell BK330.out 0).trans rfl
    have hcz33_1 : wr.cell? ⟨gb330, 1, none⟩ = some (u331001) := (blk_cell BK330.out 1).trans rfl
    have hfz33_0 := blk_frozen BK330.out 0
    have hfz33_1 := blk_frozen BK330.out 1
    have hnb34 := NB326_325.out
    have hnc34 := NB325_326.out
    have hcz35_0 : wr.cell? ⟨gb326, 0, none⟩ = some (.slice none 0 0) := (blk_cell BK326.out 0).trans rfl
    have hcz35_1 : wr.cell? ⟨gb326, 1, none⟩ = some (.slice none 0 0) := (blk_cell BK326.out 1).trans rfl
    have hfz35_0 := blk_frozen BK326.out 0
    have hfz35_1 := blk_frozen BK326.out 1
    obtain ⟨Ao36, co36, eo36⟩ := Kd.S_slice HO_331001.out
    subst eo36
    go_wp2
    refine bodyPost_ret (results_cell_row rfl _ _ gb326 26 #[.slice Ao8 t327.length co8, .slice Ao36 x331001_1.length co36] (0, 0) _ rfl (by (with_reducible repeat (first | refine blk_drewN ?_ _ | refine blk_drew ?_ | refine blk_alloc ?_ _)); refine blk_put (cs := #[.slice Ao8 t327.length co8, .slice none 0 0]) ?_ 1 _ rfl; (with_reducible repeat (first | refine blk_drewN ?_ _ | refine blk_drew ?_ | refine blk_alloc ?_ _)); refine blk_put (cs := #[.slice none 0 0, .slice none 0 0]) ?_ 0 _ rfl; (with_reducible repeat (first | refine blk_drewN ?_ _ | refine blk_drew ?_ | refine blk_alloc ?_ _)); exact BK326.out) Try.underlying26 rfl (by kernel_rfl)) rfl ?_
    exact ⟨_, _, by first | rfl | (simp [errW_none, errW_some] <;> rfl) | (simp [*, errW_none, errW_some] <;> rfl), by (with_reducible repeat (first | apply Kd.R_alloc | apply Kd.R_drewN | apply Kd.R_drew)); exact Kd.R_mono (Kd.R_far (p := ⟨gb326, 1, none⟩) (Kd.R_far (p := ⟨gb326, 0, none⟩) (Kd.R_types HO_331000.out BK326.out (by decide)) (fun _ hk => hk.2) (.slice Ao8 t327.length co8)) (fun _ hk => hk.2) (.slice Ao36 x331001_1.length co36)) (fun _ hk => trivial), by (with_reducible repeat (first | apply Kd.S_alloc | apply Kd.S_drewN | apply Kd.S_drew)); exact Kd.S_mono (Kd.S_far (p := ⟨gb326, 1, none⟩) (Kd.S_far (p := ⟨gb326, 0, none⟩) (Kd.S_types HO_331001.out BK326.out (by decide)) (fun _ hk => hk.2) (.slice Ao8 t327.length co8)) (fun _ hk => hk.2) (.slice Ao36 x331001_1.length co36)) (fun _ hk => hk.1), bw3 HB.out GE325.out GE326.out GE330.out⟩

end Go.Proofs.Ytinilabmffjnaaa.PFnDisk
