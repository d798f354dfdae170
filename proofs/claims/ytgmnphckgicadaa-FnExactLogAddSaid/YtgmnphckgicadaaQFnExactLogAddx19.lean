/- Functions that the law reaches, with their contracts. -/
import Derived.Test.YtgmnphckgicadaaQFnExactLogAddx18
namespace Go.Proofs.Ytgmnphckgicadaa.PFnExactLogAdd
open Go.RowKit Go.Proofs.YtgmnphckgicadaaW.PrintWords Go.Proofs.YtgmnphckgicadaaW.PrintLast Go.Proofs.YtgmnphckgicadaaW.PrintMore
attribute [local go_sem] max2_int min2_int max_two min_two max_three min_three max_four min_four
set_option linter.unusedVariables false
set_option linter.unusedSimpArgs false

def impl_copyDisk.l0 : Nat → List (S96) → Int → Int → List Int → List (S96) → Option (List Int × (List (S96)))
 | 0, _, _, _, _, _ => none
 | k + 1, x11, x12, x13, x355000, x355001 => if x13 < x12 then (if 0 ≤ x13 then (if x13 < (x11.length : Int) then ((slices_Clone_byte_byte.f ((rd_T96 x11 x13).f1)).bind fun t357 => (if x355001.length < 4398046511104 then (impl_copyDisk.l0 k x11 x12 (wrap64 (x13 + 1)) x355000 (x355001 ++ [(⟨(rd_T96 x11 x13).f0, t357⟩ : S96)])) else (none))) else (none)) else (none)) else (some (x355000, x355001))
def impl_copyDisk.f (k : Nat) (l0_0 : List Int) (l0_1 : List (S96)) : Option (List Int × (List (S96))) := (slices_Clone_byte_byte.f l0_0).bind fun t351 => (impl_copyDisk.l0 k l0_1 (l0_1.length : Int) 0 t351 ([] : List (S96)))
def impl_copyDisk.T5 : Bool × List (List Nat × List Nat) := (true, [([], []), ([0], [0]), ([], []), ([2], [2]), ([], []), ([4], [4]), ([5], [5]), ([3, 6], [3, 6]), ([7], [7]), ([1, 8, 6], [1, 8]), ([0, 1, 2, 3, 4, 5, 6, 7, 8, 9], []), ([10, 9, 9, 0, 1, 2, 3, 4, 5, 6, 7, 8, 9], [9, 10])])
def impl_copyDisk.B5 : List Nat := [0, 1, 0, 4, 0, 16, 48, 124, 252, 511, 1023, 2047]
theorem impl_copyDisk.tab5 : rtab .any (opsOf Try.f49 5) = impl_copyDisk.T5 := by kernel_rfl
theorem impl_copyDisk.bits5 : waitsOk impl_copyDisk.T5.2 impl_copyDisk.B5 = true := by kernel_rfl
set_option maxHeartbeats 8000000 in
set_option maxRecDepth 100000 in
theorem impl_copyDisk.calls (k : Nat) (A0_0 : Option Addr) (c0_0 : Nat) (l0_0 : List Int) (A0_1 : Option Addr) (c0_1 : Nat) (l0_1 : List (S96)) (r1 : List Int) (r2 : List (S96)) (w : World) (hr0_0 : Kd.C (Kd.int .u8) w A0_0 l0_0.length l0_0) (hc0_0 : l0_0.length ≤ c0_0) (hr0_1 : Kd.C k96 w A0_1 l0_1.length l0_1) (hc0_1 : l0_1.length ≤ c0_1) (h : impl_copyDisk.f k l0_0 l0_1 = some (r1, r2)) :
  Calls Try.prog 49 #[.agg #[.slice A0_0 l0_0.length c0_0, .slice A0_1 l0_1.length c0_1]] w fun e w' => ∃ v0_ v1_ : Value, e = .returned (.agg #[v0_, v1_]) ∧ Kd.R (Kd.int .u8) 5 w' w.heap.size (fun _ => True) v0_ r1 ∧ Kd.S k96 96 w' w.heap.size (fun k_ => some k_ ≠ (v0_ : Value).ownBlock) v1_ r2 ∧ Below w.heap.size w w' := by
 have hu31 := Try.underlying31
 have hu96 := Try.underlying96
 have HR0_0 := Ak hr0_0
 have HC0_0 := Ak hc0_0
 clear hr0_0 hc0_0
 have HR0_1 := Ak hr0_1
 have HC0_1 := Ak hc0_1
 clear hr0_1 hc0_1
 have HB := Ak (Below.refl w.heap.size w)
 have H : ((slices_Clone_byte_byte.f l0_0).bind fun t351 => (impl_copyDisk.l0 k l0_1 (l0_1.length : Int) 0 t351 ([] : List (S96)))) = some (r1, r2) := h
 clear h
 replace H := Option.bind_eq_some_iff.mp H
 obtain ⟨t351, A20, H⟩ := H
 have A2 := Ak A20
 clear A20
 have H' := Ak H
 clear H
 go_enter Try.func49, Try.ntmps49
 go_wp2_with (first | ((with_reducible refine gate_dst (N := 1) rfl ?_); refine box_event ?hg (N := 1) ?hd (cs := #[.slice A0_0 l0_0.length c0_0, .slice A0_1 l0_1.length c0_1]) (t := 31) ?hr ?_; (case hd => rfl); (case hg => rfl); (case hr => first | (go_simp; done) | (go_simp; rfl)); intro gb349 hg w3 hbox hb; have BK349 := Ak (hbox); have GW349 := Ak (zb hg (bw HB.out)); have GE349 := Ak (zb hg (bw HB.out)); replace HB := Ak (below_step (bw HB.out) hb); clear hb hbox hg) | ((with_reducible refine gate_dst (N := 2) rfl ?_); refine box_event ?hg (N := 2) ?hd (cs := #[.slice none 0 0, .slice none 0 0]) (t := 31) ?hr ?_; (case hd => rfl); (case hg => rfl); (case hr => first | (go_simp; done) | (go_simp; rfl)); intro gb350 hg w4 hbox hb; have BK350 := Ak (hbox); have GW350 := Ak (zb hg (bw1 HB.out GE349.out)); have GE350 := Ak (zb hg (bw1 HB.out GE349.out)); replace HB := Ak (below_step (bw1 HB.out GE349.out) hb); have NB349_350 := Ak (zl hg (bq BK349.out)); have NB350_349 := Ak (zm hg (bq BK349.out)); replace BK349 := Ak (blk_below (bq BK349.out) hb); clear hb hbox hg; have hnb5 := NB349_350.out; have hnc5 := NB350_349.out; have hcz6_0 := zk0 BK349.out; have hcz6_1 := zk1 BK349.out; have hfz6_0 := blk_frozen BK349.out 0; have hfz6_1 := blk_frozen BK349.out 1) | ((with_reducible refine gate_callee (f := 100) rfl ?_); refine goesL_ (some 8) rfl rfl Try.func100 (by kernel_rfl) rfl #[.slice A0_0 l0_0.length c0_0] rfl gm ?_; (with_reducible refine (slices_Clone_byte_byte.calls _ _ l0_0 t351 _ ?side1 ?side2 A2.out).mono ?_); (case side1 => exact zq (Kd.C_below HR0_0.out HB.out)); (case side2 => exact HC0_0.out); rintro e w7 ⟨v352, rfl, ho0, hb⟩; refine ⟨_, rfl, ?_⟩; have HO353 := Ak (Kd.R_lower ho0 (below_size (bw2 HB.out GE349.out GE350.out))); replace BK349 := Ak (blk_below (bq BK349.out) hb); replace BK350 := Ak (blk_below (bq BK350.out) hb); replace HB := Ak (below_step (bw2 HB.out GE349.out GE350.out) hb); obtain ⟨Ao8, co8, eo8⟩ := Kd.R_slice HO353.out; subst eo8) | ((with_reducible refine gate_dst (N := 3) rfl ?_); refine box_event ?hg (N := 3) ?hd (cs := #[.slice none 0 0, .slice none 0 0]) (t := 31) ?hr ?_; (case hd => rfl); (case hg => rfl); (case hr => first | (go_simp; done) | (go_simp; rfl)); intro gb354 hg w9 hbox hb; replace HO353 := Ak (Kd.R_below (rq HO353.out) hb); have BK354 := Ak (hbox); have GW354 := Ak (zb hg (bw2 HB.out GE349.out GE350.out)); have GE354 := Ak (zb hg (bw2 HB.out GE349.out GE350.out)); replace HB := Ak (below_step (bw2 HB.out GE349.out GE350.out) hb); have NB349_354 := Ak (zl hg (bq BK349.out)); have NB354_349 := Ak (zm hg (bq BK349.out)); replace BK349 := Ak (blk_below (bq BK349.out) hb); have NB350_354 := Ak (zl hg (bq BK350.out)); have NB354_350 := Ak (zm hg (bq BK350.out)); replace BK350 := Ak (blk_below (bq BK350.out) hb); clear hb hbox hg; have hnb10 := NB354_349.out; have hnc10 := NB349_354.out; have hnb11 := NB354_350.out; have hnc11 := NB350_354.out; have hcz12_0 := zk0 BK354.out; have hcz12_1 := zk1 BK354.out; have hfz12_0 := blk_frozen BK354.out 0; have hfz12_1 := blk_frozen BK354.out 1; have hcz13_0 := zk0 BK349.out; have hcz13_1 := zk1 BK349.out; have hfz13_0 := blk_frozen BK349.out 0; have hfz13_1 := blk_frozen BK349.out 1))
 go_loopg [13] k (fun kq v13 w' => ∃ (x13_1 : Int) (x355001_1 : List (S96)) (u355001 : Value), v13 = .int .i64 x13_1 ∧ Aside0 (impl_copyDisk.l0 kq l0_1 (l0_1.length : Int) x13_1 t351 x355001_1 = some (r1, r2)) ∧ Aside0 (kq ≤ k) ∧ Aside0 (Kd.R (Kd.int .u8) 5 w' w.heap.size (fun _ => True) (.slice Ao8 t351.length co8) t351) ∧ Aside0 (Kd.S k96 96 w' w.heap.size (fun k_ => some k_ ≠ ((.slice Ao8 t351.length co8) : Value).ownBlock) u355001 x355001_1) ∧ Aside0 (w'.heap[gb349]? = some (.cells #[(.slice A0_0 l0_0.length c0_0), (.slice A0_1 l0_1.length c0_1)] 31 (0, 0))) ∧ Aside0 (w'.heap[gb350]? = some (.cells #[(.slice none 0 0), (.slice none 0 0)] 31 (0, 0))) ∧ Aside0 (w'.heap[gb354]? = some (.cells #[(.slice Ao8 t351.length co8), u355001] 31 (0, 0))) ∧ Aside0 (Below w.heap.size w w'))
 case atStart => exact ⟨(0), (([] : List (S96))), (.slice none 0 0), (by first | rfl | (simp; done) | (simp [*]; done)), H', ⟨Nat.le_refl _⟩, ⟨by refine rq ?_; exact Kd.R_mono (Kd.R_far (p := ⟨gb354, 1, none⟩) (Kd.R_far (p := ⟨gb354, 0, none⟩) (Kd.R_types HO353.out BK354.out (by decide)) (fun _ hk => hk.2) (.slice Ao8 t351.length co8)) (fun _ hk => hk.2) (.slice none 0 0)) (fun _ hk => trivial)⟩, ⟨by first | exact Kd.S_nil _ _ _ _ _ | exact Kd.N_nil _ _ _ _ _ | exact Kd.V_nil _ _ _ _ _ | exact Kd.Q_nil _ _ _ _ _ | exact Kd.R_nil _ _ _ _ _⟩, ⟨by refine bq ?_; refine blk_far ?_ NB349_354.out _; refine bq ?_; refine blk_far ?_ NB349_354.out _; exact bq BK349.out⟩, ⟨by refine bq ?_; refine blk_far ?_ NB350_354.out _; refine bq ?_; refine blk_far ?_ NB350_354.out _; exact bq BK350.out⟩, ⟨by refine bq ?_; refine blk_put (cs := #[.slice Ao8 t351.length co8, .slice none 0 0]) ?_ 1 _ rfl; refine bq ?_; refine blk_put (cs := #[.slice none 0 0, .slice none 0 0]) ?_ 0 _ rfl; exact bq BK354.out⟩, ⟨bw3 HB.out GE349.out GE350.out GE354.out⟩⟩
 case round =>
  clear H'
  obtain ⟨x13_1, x355001_1, u355001, rfl, HA, HK1, HO_355000, HO_355001, BK349, BK350, BK354, HB⟩ := hrel
  cases gk with
  | zero => exact absurd HA.out (by simp [impl_copyDisk.l0])
  | succ k1 =>
   have H := HA.out
   clear HA
   simp only [impl_copyDisk.l0] at H
   by_cases c14 : x13_1 < (l0_1.length : Int)
   ·rw [if_pos c14] at H
    have c14b0 : decide (x13_1 < (l0_1.length : Int)) = true := decide_eq_true c14
    clear c14
    by_cases c15 : 0 ≤ x13_1
    ·rw [if_pos c15] at H
     have c15b0 : decide (0 ≤ x13_1) = true := decide_eq_true c15
     clear c15
     by_cases c16 : x13_1 < (l0_1.length : Int)
     ·rw [if_pos c16] at H
      have c16b0 : decide (x13_1 < (l0_1.length : Int)) = true := decide_eq_true c16
      clear c16
      replace H := Option.bind_eq_some_iff.mp H
      obtain ⟨t357, A170, H⟩ := H
      have A17 := Ak A170
      clear A170
      by_cases c18 : x355001_1.length < 4398046511104
      ·rw [if_pos c18] at H
       have LMc18 := Ak c18
       clear c18
       obtain ⟨y360, hy360⟩ : ∃ y_ : List (S96), y_ = (x355001_1 ++ [(⟨(rd_T96 l0_1 x13_1).f0, t357⟩ : S96)]) := ⟨_, rfl⟩
       replace H : (impl_copyDisk.l0 k1 l0_1 (l0_1.length : Int) (wrap64 (x13_1 + 1)) t351 y360) = some (r1, r2) := by first | (rw [hy360]; with_reducible exact H) | (have H2_ := (Option.bind_some _ _).symm.trans H; rw [hy360]; with_reducible exact H2_) | (have H2_ := (Option.bind_some _ _).symm.trans H; with_reducible exact H2_) | with_reducible exact H | (rw [hy360]; exact H) | exact H
       have Ny360 := Ak hy360
       clear hy360
       have H' := Ak H
       clear H
       have p355 : 0 ≤ (x13_1 : Int) := of_decide_eq_true (by first | (with_reducible assumption) | assumption)
       have q355 : x13_1 < (l0_1.length : Int) := of_decide_eq_true (by first | (with_reducible assumption) | assumption)
       obtain ⟨ad355, A355_1, c355_1, e355, hx355_0, hx355_1, hl355_1, hi355_1⟩ := at_T96 HR0_1.out x13_1 p355 q355
       cases e355
       replace hx355_0 := (HB.out.cell (World.block_lt_of_cell? w _ hx355_0)).trans hx355_0
       replace hx355_1 := (HB.out.cell (World.block_lt_of_cell? w _ hx355_1)).trans hx355_1
       have HR355_1 := Ak hi355_1
       have HC355_1 := Ak hl355_1
       clear hi355_1 hl355_1
       replace p355 := eq_true p355
       replace q355 := eq_true q355
       try go_wp2_with (first | ((with_reducible refine gate_dst (N := 5) rfl ?_); refine box_event ?hg (N := 5) ?hd (cs := #[.int .i64 0, .slice none 0 0]) (t := 96) ?hr ?_; (case hd => rfl); (case hg => rfl); (case hr => first | (go_simp; done) | (go_simp; rfl)); intro gb356 hg w19 hbox hb; replace HO_355000 := Ak (Kd.R_below (rq HO_355000.out) hb); replace HO_355001 := Ak (Kd.S_below (Kd.S_elderB (sq HO_355001.out) gb356 (Nat.le_of_eq hg.symm)) hb); have BK356 := Ak (hbox); have GW356 := Ak (zb hg (bw3 HB.out GE349.out GE350.out GE354.out)); have GE356 := Ak (zb hg (bw3 HB.out GE349.out GE350.out GE354.out)); replace HB := Ak (below_step (bw3 HB.out GE349.out GE350.out GE354.out) hb); have NB349_356 := Ak (zl hg (bq BK349.out)); have NB356_349 := Ak (zm hg (bq BK349.out)); replace BK349 := Ak (blk_below (bq BK349.out) hb); have NB350_356 := Ak (zl hg (bq BK350.out)); have NB356_350 := Ak (zm hg (bq BK350.out)); replace BK350 := Ak (blk_below (bq BK350.out) hb); have NB354_356 := Ak (zl hg (bq BK354.out)); have NB356_354 := Ak (zm hg (bq BK354.out)); replace BK354 := Ak (blk_below (bq BK354.out) hb); clear hb hbox hg; have hnb20 := NB356_349.out; have hnc20 := NB349_356.out; have hnb21 := NB356_350.out; have hnc21 := NB350_356.out; have hnb22 := NB356_354.out; have hnc22 := NB354_356.out; have hcz23_0 := zk0 BK356.out; have hcz23_1 := zk1 BK356.out; have hfz23_0 := blk_frozen BK356.out 0; have hfz23_1 := blk_frozen BK356.out 1))
       have n0_ : Aside0 (Kd.R (Kd.int .u8) 5 ((w19.setCell ⟨gb356, 0, none⟩ (.int .i64 ((rd_T96 l0_1 x13_1).f0))).setCell ⟨gb356, 1, none⟩ (.slice A355_1 ((rd_T96 l0_1 x13_1).f1).length c355_1)) w.heap.size (fun _ => True) (.slice Ao8 t351.length co8) t351) := ⟨by refine rq ?_; exact Kd.R_mono (Kd.R_far (p := ⟨gb356, 1, none⟩) (Kd.R_far (p := ⟨gb356, 0, none⟩) (Kd.R_types HO_355000.out BK356.out (by decide)) (fun _ hk => hk.2) (.int .i64 ((rd_T96 l0_1 x13_1).f0))) (fun _ hk => hk.2) (.slice A355_1 ((rd_T96 l0_1 x13_1).f1).length c355_1)) (fun _ hk => trivial)⟩
       have n1_ : Aside0 (Kd.S k96 96 ((w19.setCell ⟨gb356, 0, none⟩ (.int .i64 ((rd_T96 l0_1 x13_1).f0))).setCell ⟨gb356, 1, none⟩ (.slice A355_1 ((rd_T96 l0_1 x13_1).f1).length c355_1)) w.heap.size (fun k_ => Nb k_ (.slice Ao8 t351.length co8) ∧ k_ ≠ gb356) u355001 x355001_1) := ⟨by refine sq ?_; exact Kd.S_mono (Kd.S_far (p := ⟨gb356, 1, none⟩) (Kd.S_far (p := ⟨gb356, 0, none⟩) (Kd.S_mono HO_355001.out (fun k_ hk => (⟨hk, hk.2⟩ : _ ∧ k_ ≠ gb356))) (fun _ hk => hk.2) (.int .i64 ((rd_T96 l0_1 x13_1).f0))) (fun _ hk => hk.2) (.slice A355_1 ((rd_T96 l0_1 x13_1).f1).length c355_1)) (fun _ hk => ⟨hk.1.1, hk.1.2⟩)⟩
       have n2_ : Aside0 (((w19.setCell ⟨gb356, 0, none⟩ (.int .i64 ((rd_T96 l0_1 x13_1).f0))).setCell ⟨gb356, 1, none⟩ (.slice A355_1 ((rd_T96 l0_1 x13_1).f1).length c355_1)).heap[gb349]? = some (.cells #[.slice A0_0 l0_0.length c0_0, .slice (some ad355) l0_1.length c0_1] 31 (0, 0))) := ⟨by refine bq ?_; refine blk_far ?_ NB349_356.out _; refine bq ?_; refine blk_far ?_ NB349_356.out _; exact bq BK349.out⟩
       have n3_ : Aside0 (((w19.setCell ⟨gb356, 0, none⟩ (.int .i64 ((rd_T96 l0_1 x13_1).f0))).setCell ⟨gb356, 1, none⟩ (.slice A355_1 ((rd_T96 l0_1 x13_1).f1).length c355_1)).heap[gb350]? = some (.cells #[.slice none 0 0, .slice none 0 0] 31 (0, 0))) := ⟨by refine bq ?_; refine blk_far ?_ NB350_356.out _; refine bq ?_; refine blk_far ?_ NB350_356.out _; exact bq BK350.out⟩
       have n4_ : Aside0 (((w19.setCell ⟨gb356, 0, none⟩ (.int .i64 ((rd_T96 l0_1 x13_1).f0))).setCell ⟨gb356, 1, none⟩ (.slice A355_1 ((rd_T96 l0_1 x13_1).f1).length c355_1)).heap[gb354]? = some (.cells #[.slice Ao8 t351.length co8, u355001] 31 (0, 0))) := ⟨by refine bq ?_; refine blk_far ?_ NB354_356.out _; refine bq ?_; refine blk_far ?_ NB354_356.out _; exact bq BK354.out⟩
       have n5_ : Aside0 (((w19.setCell ⟨gb356, 0, none⟩ (.int .i64 ((rd_T96 l0_1 x13_1).f0))).setCell ⟨gb356, 1, none⟩ (.slice A355_1 ((rd_T96 l0_1 x13_1).f1).length c355_1)).heap[gb356]? = some (.cells #[.int .i64 ((rd_T96 l0_1 x13_1).f0), .slice A355_1 ((rd_T96 l0_1 x13_1).f1).length c355_1] 96 (0, 0))) := ⟨by refine bq ?_; refine blk_put (cs := #[.int .i64 ((rd_T96 l0_1 x13_1).f0), .slice none 0 0]) ?_ 1 _ rfl; refine bq ?_; refine blk_put (cs := #[.int .i64 0, .slice none 0 0]) ?_ 0 _ rfl; exact bq BK356.out⟩
       have n6_ : Aside0 (Below w.heap.size w ((w19.setCell ⟨gb356, 0, none⟩ (.int .i64 ((rd_T96 l0_1 x13_1).f0))).setCell ⟨gb356, 1, none⟩ (.slice A355_1 ((rd_T96 l0_1 x13_1).f1).length c355_1))) := ⟨bw4 HB.out GE349.out GE350.out GE354.out GE356.out⟩
       (try clear HO_355000)
       (try clear HO_355001)
       (try clear BK349)
       (try clear BK350)
       (try clear BK354)
       (try clear BK356)
       (try clear HB)
       generalize ((w19.setCell ⟨gb356, 0, none⟩ (.int .i64 ((rd_T96 l0_1 x13_1).f0))).setCell ⟨gb356, 1, none⟩ (.slice A355_1 ((rd_T96 l0_1 x13_1).f1).length c355_1)) = w24 at n0_ n1_ n2_ n3_ n4_ n5_ n6_ ⊢
       have HO_355000 := n0_
       have HO_355001 := n1_
       have BK349 := n2_
       have BK350 := n3_
       have BK354 := n4_
       have BK356 := n5_
       have HB := n6_
       clear n0_ n1_ n2_ n3_ n4_ n5_ n6_
       replace HO_355000 := Ak (Kd.R_drew HO_355000.out)
       replace HO_355001 := Ak (Kd.S_drew HO_355001.out)
       replace BK349 := Ak (blk_drew BK349.out)
       replace BK350 := Ak (blk_drew BK350.out)
       replace BK354 := Ak (blk_drew BK354.out)
       replace BK356 := Ak (blk_drew BK356.out)
       replace HB := Ak (below_drew1 HB.out)
       refine start_ (n := 12) (S := fun w' => w'.cell? ⟨gb354, 0, none⟩ = some (.slice Ao8 t351.length co8) ∧ w'.cell? ⟨gb354, 1, none⟩ = some (u355001) ∧ w'.cell? ⟨gb356, 0, none⟩ = some (.int .i64 ((rd_T96 l0_1 x13_1).f0)) ∧ w'.cell? ⟨gb356, 1, none⟩ = some (.slice A355_1 ((rd_T96 l0_1 x13_1).f1).length c355_1)) (ds := [11]) #[false, false, false, false, false, false, false, false, false, false, false, false] (by kernel_rfl) rfl rfl ⟨zk0 BK354.out, zk1 BK354.out, zk0 BK356.out, zk1 BK356.out⟩ (fun hHeld => ?_); refine with_tabW impl_copyDisk.tab5 impl_copyDisk.bits5 (fun HT_ HW_ => ?_)
       generalize w24.drew = w25 at HO_355000 HO_355001 BK349 BK350 BK354 BK356 HB hHeld ⊢
       refine pure_ (i := 0) (N := some 17) (v := ?_) (a' := ?_) #[true, false, false, false, false, false, false, false, false, false, false, false] rfl rfl (any_of HT_.out (by kernel_rfl)) (fun _ _ _ h => h) (Or.inl ⟨by rfl, ?_⟩) ?_ ?_
       rotate_left
       ·intro w'
        go_simp
        with_reducible rfl
       rotate_left
       ·simp only [Act.put, sT, sZ, sS, i64_w, i32_w]
        rfl
       refine pure_ (i := 2) (N := some 19) (v := ?_) (a' := ?_) #[true, false, true, false, false, false, false, false, false, false, false, false] rfl rfl (any_of HT_.out (by kernel_rfl)) (fun _ _ _ h => h) (Or.inl ⟨by rfl, ?_⟩) ?_ ?_
       rotate_left
       ·intro w'
        go_simp
        with_reducible rfl
       rotate_left
       ·simp only [Act.put, sT, sZ, sS, i64_w, i32_w]
        rfl
       refine pure_ (i := 4) (N := some 21) (v := ?_) (a' := ?_) #[true, false, true, false, true, false, false, false, false, false, false, false] rfl rfl (any_of HT_.out (by kernel_rfl)) (fun _ _ _ h => h) (Or.inl ⟨by rfl, ?_⟩) ?_ ?_
       rotate_left
       ·intro w'
        go_simp
        with_reducible rfl
       rotate_left
       ·simp only [Act.put, sT, sZ, sS, i64_w, i32_w]
        rfl
       refine take_ (i := 1) (N := some 18) (v := ?_) (a' := ?_) #[true, true, true, false, true, false, false, false, false, false, false, false] rfl rfl (take_ofW HT_.out HW_.out (by kernel_rfl)) (fun _ _ _ h => h) (Or.inl ⟨by rfl, ?_⟩) hHeld ?_ ?_
       rotate_left
       ·rintro w' ⟨s0, s1, s2, s3⟩
        go_simp
        with_reducible rfl
       rotate_left
       ·simp only [Act.put, sT, sZ, sS, i64_w, i32_w]
        rfl
       refine take_ (i := 3) (N := some 20) (v := ?_) (a' := ?_) #[true, true, true, true, true, false, false, false, false, false, false, false] rfl rfl (take_ofW HT_.out HW_.out (by kernel_rfl)) (fun _ _ _ h => h) (Or.inl ⟨by rfl, ?_⟩) hHeld ?_ ?_
       rotate_left
       ·rintro w' ⟨s0, s1, s2, s3⟩
        go_simp
        with_reducible rfl
       rotate_left
       ·simp only [Act.put, sT, sZ, sS, i64_w, i32_w]
        rfl
       refine take_ (i := 5) (N := some 22) (v := ?_) (a' := ?_) #[true, true, true, true, true, true, false, false, false, false, false, false] rfl rfl (take_ofW HT_.out HW_.out (by kernel_rfl)) (fun _ _ _ h => h) (Or.inl ⟨by rfl, ?_⟩) hHeld ?_ ?_
       rotate_left
       ·rintro w' ⟨s0, s1, s2, s3⟩
        go_simp
        with_reducible rfl
       rotate_left
       ·simp only [Act.put, sT, sZ, sS, i64_w, i32_w]
        rfl
       refine one_ (i := 6) (N := some 23) #[true, true, true, true, true, true, true, false, false, false, false, false] rfl rfl (one_of HT_.out (by kernel_rfl)) (by decide) (fun K hK => ?_)
       refine goes_ Try.func100 (by kernel_rfl) rfl #[.slice A355_1 ((rd_T96 l0_1 x13_1).f1).length c355_1] (by rfl) rfl rfl gm ?_
       with_reducible refine (slices_Clone_byte_byte.calls _ _ ((rd_T96 l0_1 x13_1).f1) t357 _ ?side1 ?side2 A17.out).mono ?_
       (case side1 => exact zq (Kd.C_below HR355_1.out HB.out))
       (case side2 => exact HC355_1.out)
       rintro e w26 ⟨v358, rfl, ho0, hb⟩
       refine ⟨_, rfl, ?_⟩
       replace HO_355001 := Ak (Kd.S_elder' (sq HO_355001.out) (Kd.R_base ho0) hb)
       have HO359 := Ak (Kd.R_lower (Kd.R_new' ho0 (Kd.R_lt (rq HO_355000.out))) (below_size (bw4 HB.out GE349.out GE350.out GE354.out GE356.out)))
       replace HO_355000 := Ak (Kd.R_elder' (rq HO_355000.out) (Kd.R_base ho0) hb)
       replace BK349 := Ak (blk_below (bq BK349.out) hb)
       replace BK350 := Ak (blk_below (bq BK350.out) hb)
       replace BK354 := Ak (blk_below (bq BK354.out) hb)
       replace BK356 := Ak (blk_below (bq BK356.out) hb)
       replace HB := Ak (below_step (bw4 HB.out GE349.out GE350.out GE354.out GE356.out) hb)
       obtain ⟨Ao27, co27, eo27⟩ := Kd.R_slice HO359.out
       (first | subst eo27 | (injection eo27 with f1_ f2_ f3_; have f4_ := f1_.symm; have f5_ := f3_.symm; clear f1_ f2_ f3_; subst f4_; subst f5_))
       refine hK.out _ _ ⟨zk0 BK354.out, zk1 BK354.out, zk0 BK356.out, zk1 BK356.out⟩ (fun hHeld => ?_)
       clear hK K
       refine norm_ (a' := ?_) ?_ ?_
       rotate_left
       ·show Act.put _ (some 23) _ = _
        simp only [Act.put, sT, sZ, sS, i64_w, i32_w]
        rfl
       refine pure_ (i := 7) (N := some 24) (v := ?_) (a' := ?_) #[true, true, true, true, true, true, true, true, false, false, false, false] rfl rfl (any_of HT_.out (by kernel_rfl)) (fun _ _ _ h => h) (Or.inl ⟨by rfl, ?_⟩) ?_ ?_
       rotate_left
       ·intro w'
        go_simp
        with_reducible rfl
       rotate_left
       ·simp only [Act.put, sT, sZ, sS, i64_w, i32_w]
        rfl
       refine one_ (i := 8) (N := some 25) #[true, true, true, true, true, true, true, true, true, false, false, false] rfl rfl (one_of HT_.out (by kernel_rfl)) (by decide) (fun K hK => ?_)
       refine value_ (w1 := ?_) (v := ?_) (by rfl) rfl ?_ ?_
       rotate_left 2
       ·go_simp
        constructor
        ·rfl
        ·rfl
       refine hK.out _ _ ⟨(blk_cell (blk_alloc BK354.out _) 0).trans rfl, (blk_cell (blk_alloc BK354.out _) 1).trans rfl, (blk_cell (blk_alloc BK356.out _) 0).trans rfl, (blk_cell (blk_alloc BK356.out _) 1).trans rfl⟩ (fun hHeld => ?_)
       clear hK K
       refine norm_ (a' := ?_) ?_ ?_
       rotate_left
       ·show Act.put _ (some 25) _ = _
        simp only [Act.put, sT, sZ, sS, i64_w, i32_w]
        rfl
       refine one_ (i := 9) (N := some 26) #[true, true, true, true, true, true, true, true, true, true, false, false] rfl rfl (one_of HT_.out (by kernel_rfl)) (by decide) (fun K hK => ?_)
       refine Kd.S_append_step k96 (w0 := w) w.heap.size (by rfl) (.tmp 18) (.tmp 25) 29 96 (.agg #[(.int .i64 0), (.slice none 0 0)]) 32 rfl Try.underlying29 info96 rfl (by decide) (by omega) u355001 x355001_1 (⟨(rd_T96 l0_1 x13_1).f0, t357⟩ : S96) [.int .i64 ((rd_T96 l0_1 x13_1).f0), .slice Ao27 t357.length co27] (fun k_ => Nb k_ (.slice Ao8 t351.length co8) ∧ k_ ≠ gb356) (fun k_ => some k_ = (.slice Ao27 t357.length co27 : Value).ownBlock) rfl rfl ?aP (fun k_ hk_ => ((Kd.R_mono (ok' := fun k_ => ((fun k_ => Nb k_ (.slice Ao8 t351.length co8) ∧ k_ ≠ gb356)) k_ ∧ some k_ ≠ (u355001 : Value).ownBlock) (Kd.R_types (Kd.R_apart' (HO359.out) (Kd.S_typed HO_355001.out) (by decide)) BK356.out (by decide)) (fun k_ hk => ⟨⟨hk.1.1.2, hk.2⟩, hk.1.2⟩))).1 k_ hk_.symm) ?aF ?aO ?aB ?aS ?aL ?_
       (case aP => exact k96_mkM _ _ _ (⟨(rd_T96 l0_1 x13_1).f0, t357⟩ : S96) (Kd.R_mono (Kd.R_tight rfl (Kd.R_mono (ok' := fun k_ => ((fun k_ => Nb k_ (.slice Ao8 t351.length co8) ∧ k_ ≠ gb356)) k_ ∧ some k_ ≠ (u355001 : Value).ownBlock) (Kd.R_types (Kd.R_apart' (HO359.out) (Kd.S_typed HO_355001.out) (by decide)) BK356.out (by decide)) (fun k_ hk => ⟨⟨hk.1.1.2, hk.2⟩, hk.1.2⟩))) (fun _ h_ => h_)))
       (case aB => exact (bw4 HB.out GE349.out GE350.out GE354.out GE356.out))
       (case aF => exact (fun k_ hk => ⟨Kd.fresh' (Kd.R_lt (rq HO_355000.out)) k_ hk, Kd.freshB (g := gb356) (o := .cells #[.int .i64 ((rd_T96 l0_1 x13_1).f0), .slice A355_1 ((rd_T96 l0_1 x13_1).f1).length c355_1] 96 (0, 0)) (bq BK356.out) k_ hk⟩))
       (case aO => exact (by refine sq ?_; exact Kd.S_mono HO_355001.out (fun k_ hk => ⟨⟨hk.1.1, hk.1.2⟩, fun e_ => hk.2 e_⟩)))
       (case aS => exact (below_size (bw4 HB.out GE349.out GE350.out GE354.out GE356.out)))
       (case aL => have := LMc18.out; omega)
       intro v361 w28 ho hb hg hat
       rw [← Ny360.out] at ho
       replace HO_355000 := Ak (Kd.R_over' (rq HO_355000.out) (Kd.S_typed (sq HO_355001.out)) (by decide) hg)
       replace BK349 := Ak (blk_grown (g := gb349) (o := .cells #[.slice A0_0 l0_0.length c0_0, .slice (some ad355) l0_1.length c0_1] 31 (0, 0)) (bq BK349.out) hg (Kd.S_ne HO_355001.out BK349.out (by decide)))
       replace BK350 := Ak (blk_grown (g := gb350) (o := .cells #[.slice none 0 0, .slice none 0 0] 31 (0, 0)) (bq BK350.out) hg (Kd.S_ne HO_355001.out BK350.out (by decide)))
       replace BK354 := Ak (blk_grown (g := gb354) (o := .cells #[.slice Ao8 t351.length co8, u355001] 31 (0, 0)) (bq BK354.out) hg (Kd.S_ne HO_355001.out BK354.out (by decide)))
       replace BK356 := Ak (blk_grown (g := gb356) (o := .cells #[.int .i64 ((rd_T96 l0_1 x13_1).f0), .slice A355_1 ((rd_T96 l0_1 x13_1).f1).length c355_1] 96 (0, 0)) (bq BK356.out) hg (Kd.S_away HO_355001.out (fun _ hk => hk.1.2)))
       replace HB := Ak (hb)
       have HO362 := Ak (ho)
       clear HO_355001 HO359
       clear ho hb hg hat
       obtain ⟨Ao29, co29, eo29⟩ := Kd.S_slice HO362.out
       (first | subst eo29 | (injection eo29 with f1_ f2_ f3_; have f4_ := f1_.symm; have f5_ := f3_.symm; clear f1_ f2_ f3_; subst f4_; subst f5_))
       refine hK.out _ _ ⟨zk0 BK354.out, zk1 BK354.out, zk0 BK356.out, zk1 BK356.out⟩ (fun hHeld => ?_)
       clear hK K
       refine norm_ (a' := ?_) ?_ ?_
       rotate_left
       ·show Act.put _ (some 26) _ = _
        simp only [Act.put, sT, sZ, sS, i64_w, i32_w]
        rfl
       refine pure_ (i := 10) (N := some 27) (v := ?_) (a' := ?_) #[true, true, true, true, true, true, true, true, true, true, true, false] rfl rfl (any_of HT_.out (by kernel_rfl)) (fun _ _ _ h => h) (Or.inl ⟨by rfl, ?_⟩) ?_ ?_
       rotate_left
       ·intro w'
        go_simp
        with_reducible rfl
       rotate_left
       ·simp only [Act.put, sT, sZ, sS, i64_w, i32_w]
        rfl
       refine last_ (i := 11) (N := none) #[true, true, true, true, true, true, true, true, true, true, true, true] rfl rfl (one_of HT_.out (by kernel_rfl)) (by decide) (fun K hK => ?_)
       have hs30 := zk1 BK354.out
       have hfs30 := blk_frozen BK354.out 1
       have hns30_0 := NB349_354.out
       have hns30_1 := NB350_354.out
       have hns30_3 := NB356_354.out
       have hms30_0 := NB354_349.out
       have hms30_1 := NB354_350.out
       have hms30_3 := NB354_356.out
       refine skip_ (w1 := ?_) (by rfl) rfl ?_ ?_
       rotate_left
       ·go_simp
        rfl
       refine hK.out _ _ ?_
       clear hK K
       refine done_ (done_of HT_.out (by kernel_rfl)) ?_
       try go_wp2
       go_roundg k1
       case measure => have := HK1.out; omega
       case rel => exact ⟨(wrap64 (x13_1 + 1)), (y360), (.slice Ao29 y360.length co29), (by first | rfl | (simp; done) | (simp [*]; done)), H', ⟨by have := HK1.out; omega⟩, ⟨by refine rq ?_; exact Kd.R_mono (Kd.R_far (p := ⟨gb354, 1, none⟩) (Kd.R_types HO_355000.out BK354.out (by decide)) (fun _ hk => hk.2) (.slice Ao29 y360.length co29)) (fun _ hk => trivial)⟩, ⟨by refine sq ?_; exact Kd.S_mono (Kd.S_far (p := ⟨gb354, 1, none⟩) (Kd.S_types HO362.out BK354.out (by decide)) (fun _ hk => hk.2) (.slice Ao29 y360.length co29)) (fun _ hk => hk.1.1)⟩, ⟨by refine bq ?_; refine blk_far ?_ NB349_354.out _; exact bq BK349.out⟩, ⟨by refine bq ?_; refine blk_far ?_ NB350_354.out _; exact bq BK350.out⟩, ⟨by refine bq ?_; refine blk_put (cs := #[.slice Ao8 t351.length co8, u355001]) ?_ 1 _ rfl; exact bq BK354.out⟩, ⟨bw4 HB.out GE349.out GE350.out GE354.out GE356.out⟩⟩
      ·rw [if_neg c18] at H
       exact absurd H (by simp)
     ·rw [if_neg c16] at H
      exact absurd H (by simp)
    ·rw [if_neg c15] at H
     exact absurd H (by simp)
   ·rw [if_neg c14] at H
    have c14b0 : decide (x13_1 < (l0_1.length : Int)) = false := decide_eq_false c14
    clear c14
    simp only [Option.some.injEq, Prod.mk.injEq] at H
    obtain ⟨rfl, rfl⟩ := H
    have hnb31 := NB354_349.out
    have hnc31 := NB349_354.out
    have hnb32 := NB354_350.out
    have hnc32 := NB350_354.out
    have hcz33_0 : wr.cell? ⟨gb354, 0, none⟩ = some (.slice Ao8 t351.length co8) := zk0 BK354.out
    have hcz33_1 : wr.cell? ⟨gb354, 1, none⟩ = some (u355001) := zk1 BK354.out
    have hfz33_0 := blk_frozen BK354.out 0
    have hfz33_1 := blk_frozen BK354.out 1
    have hnb34 := NB350_349.out
    have hnc34 := NB349_350.out
    have hcz35_0 : wr.cell? ⟨gb350, 0, none⟩ = some (.slice none 0 0) := zk0 BK350.out
    have hcz35_1 : wr.cell? ⟨gb350, 1, none⟩ = some (.slice none 0 0) := zk1 BK350.out
    have hfz35_0 := blk_frozen BK350.out 0
    have hfz35_1 := blk_frozen BK350.out 1
    obtain ⟨Ao36, co36, eo36⟩ := Kd.S_slice HO_355001.out
    subst eo36
    go_wp2
    refine bodyPost_ret (results_cell_row rfl _ _ gb350 31 #[.slice Ao8 t351.length co8, .slice Ao36 x355001_1.length co36] (0, 0) _ rfl (by refine bq ?_; refine blk_put (cs := #[.slice Ao8 t351.length co8, .slice none 0 0]) ?_ 1 _ rfl; refine bq ?_; refine blk_put (cs := #[.slice none 0 0, .slice none 0 0]) ?_ 0 _ rfl; exact bq BK350.out) Try.underlying31 rfl (by kernel_rfl)) rfl ?_
    exact ⟨_, _, zw, by refine rq ?_; exact Kd.R_mono (Kd.R_far (p := ⟨gb350, 1, none⟩) (Kd.R_far (p := ⟨gb350, 0, none⟩) (Kd.R_types HO_355000.out BK350.out (by decide)) (fun _ hk => hk.2) (.slice Ao8 t351.length co8)) (fun _ hk => hk.2) (.slice Ao36 x355001_1.length co36)) (fun _ hk => trivial), by refine sq ?_; exact Kd.S_mono (Kd.S_far (p := ⟨gb350, 1, none⟩) (Kd.S_far (p := ⟨gb350, 0, none⟩) (Kd.S_types HO_355001.out BK350.out (by decide)) (fun _ hk => hk.2) (.slice Ao8 t351.length co8)) (fun _ hk => hk.2) (.slice Ao36 x355001_1.length co36)) (fun _ hk => hk.1), bw3 HB.out GE349.out GE350.out GE354.out⟩

end Go.Proofs.Ytgmnphckgicadaa.PFnExactLogAdd

