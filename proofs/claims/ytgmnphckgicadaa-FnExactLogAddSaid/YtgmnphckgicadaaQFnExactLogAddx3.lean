/- Functions that the law reaches, with their contracts. -/
import Derived.Test.YtgmnphckgicadaaQFnExactLogAddx0
namespace Go.Proofs.Ytgmnphckgicadaa.PFnExactLogAdd
open Go.RowKit Go.Proofs.YtgmnphckgicadaaW.PrintWords Go.Proofs.YtgmnphckgicadaaW.PrintLast Go.Proofs.YtgmnphckgicadaaW.PrintMore
attribute [local go_sem] max2_int min2_int max_two min_two max_three min_three max_four min_four
set_option linter.unusedVariables false
set_option linter.unusedSimpArgs false

def spec_l11Copy.l0 : Nat → Int → List Int → List (S96) → List Int → List (S96) → Option (List Int × (List (S96)))
 | 0, _, _, _, _, _ => none
 | k + 1, x4, x109000, x109001, x117000, x117001 => if x4 < (x109001.length : Int) then (if 0 ≤ x4 then ((some (([] : List Int) : List Int)).bind fun y118 => (if y118.length + ((rd_T96 x109001 x4).f1).length < 140737488355328 then (if x117001.length < 4398046511104 then (spec_l11Copy.l0 k (wrap64 (x4 + 1)) x109000 x109001 x117000 (x117001 ++ [(⟨(rd_T96 x109001 x4).f0, (y118 ++ ((rd_T96 x109001 x4).f1))⟩ : S96)])) else (none)) else (none))) else (none)) else (some (x117000, x117001))
def spec_l11Copy.f (k : Nat) (l0_0 : List Int) (l0_1 : List (S96)) : Option (List Int × (List (S96))) := (some (([] : List Int) : List Int)).bind fun y110 => (if y110.length + l0_0.length < 140737488355328 then (spec_l11Copy.l0 k 0 l0_0 l0_1 (y110 ++ l0_0) ([] : List (S96))) else (none))
def spec_l11Copy.T5 : Bool × List (List Nat × List Nat) := (true, [([], []), ([0], [0]), ([], []), ([2], [2]), ([], []), ([3, 4], [3, 4]), ([5], [5]), ([6], [6]), ([], []), ([], []), ([9], [9]), ([], []), ([10, 11], [10, 11]), ([12], [12]), ([13], [13]), ([8, 14], [8, 14]), ([7, 15], [7, 15]), ([16], [16]), ([1, 17, 15], [1, 17]), ([0, 1, 2, 3, 4, 5, 6, 7, 8, 9, 10, 11, 12, 13, 14, 15, 16, 17, 18], []), ([19, 18, 18, 0, 1, 2, 3, 4, 5, 6, 7, 8, 9, 10, 11, 12, 13, 14, 15, 16, 17, 18], [18, 19])])
def spec_l11Copy.B5 : List Nat := [0, 1, 0, 4, 0, 28, 60, 124, 0, 0, 512, 0, 3584, 7680, 15872, 32512, 65532, 131068, 262143, 524287, 1048575]
theorem spec_l11Copy.tab5 : rtab .any (opsOf Try.f44 5) = spec_l11Copy.T5 := by kernel_rfl
theorem spec_l11Copy.bits5 : waitsOk spec_l11Copy.T5.2 spec_l11Copy.B5 = true := by kernel_rfl
set_option maxHeartbeats 8000000 in
set_option maxRecDepth 100000 in
theorem spec_l11Copy.calls (k : Nat) (A0_0 : Option Addr) (c0_0 : Nat) (l0_0 : List Int) (A0_1 : Option Addr) (c0_1 : Nat) (l0_1 : List (S96)) (r1 : List Int) (r2 : List (S96)) (w : World) (hr0_0 : Kd.C (Kd.int .u8) w A0_0 l0_0.length l0_0) (hc0_0 : l0_0.length ≤ c0_0) (hr0_1 : Kd.C k96 w A0_1 l0_1.length l0_1) (hc0_1 : l0_1.length ≤ c0_1) (h : spec_l11Copy.f k l0_0 l0_1 = some (r1, r2)) :
  Calls Try.prog 44 #[.agg #[.slice A0_0 l0_0.length c0_0, .slice A0_1 l0_1.length c0_1]] w fun e w' => ∃ v0_ v1_ : Value, e = .returned (.agg #[v0_, v1_]) ∧ Kd.R (Kd.int .u8) 5 w' w.heap.size (fun _ => True) v0_ r1 ∧ Kd.S k96 96 w' w.heap.size (fun k_ => some k_ ≠ (v0_ : Value).ownBlock) v1_ r2 ∧ Below w.heap.size w w' := by
 have hu31 := Try.underlying31
 have hu96 := Try.underlying96
 have HR0_0 := Ak hr0_0
 have HC0_0 := Ak hc0_0
 clear hr0_0 hc0_0
 have HR0_1 := Ak hr0_1
 have HC0_1 := Ak hc0_1
 clear hr0_1 hc0_1
 have HB := Ak (Below.refl w.heap.size w)
 have H : ((some (([] : List Int) : List Int)).bind fun y110 => (if y110.length + l0_0.length < 140737488355328 then (spec_l11Copy.l0 k 0 l0_0 l0_1 (y110 ++ l0_0) ([] : List (S96))) else (none))) = some (r1, r2) := h
 clear h
 obtain ⟨y110, hy110⟩ : ∃ y_ : List Int, y_ = (([] : List Int)) := ⟨_, rfl⟩
 replace H : (if y110.length + l0_0.length < 140737488355328 then (spec_l11Copy.l0 k 0 l0_0 l0_1 (y110 ++ l0_0) ([] : List (S96))) else (none)) = some (r1, r2) := by first | (rw [hy110]; with_reducible exact H) | (have H2_ := (Option.bind_some _ _).symm.trans H; rw [hy110]; with_reducible exact H2_) | (have H2_ := (Option.bind_some _ _).symm.trans H; with_reducible exact H2_) | with_reducible exact H | (rw [hy110]; exact H) | exact H
 have Ny110 := Ak hy110
 clear hy110
 by_cases c2 : y110.length + l0_0.length < 140737488355328
 ·rw [if_pos c2] at H
  have LMc2 := Ak c2
  clear c2
  obtain ⟨y113, hy113⟩ : ∃ y_ : List Int, y_ = (y110 ++ l0_0) := ⟨_, rfl⟩
  replace H : (spec_l11Copy.l0 k 0 l0_0 l0_1 y113 ([] : List (S96))) = some (r1, r2) := by first | (rw [hy113]; with_reducible exact H) | (have H2_ := (Option.bind_some _ _).symm.trans H; rw [hy113]; with_reducible exact H2_) | (have H2_ := (Option.bind_some _ _).symm.trans H; with_reducible exact H2_) | with_reducible exact H | (rw [hy113]; exact H) | exact H
  have Ny113 := Ak hy113
  clear hy113
  have H' := Ak H
  clear H
  go_enter Try.func44, Try.ntmps44
  go_wp2_with (first | ((with_reducible refine gate_dst (N := 1) rfl ?_); refine box_event ?hg (N := 1) ?hd (cs := #[.slice A0_0 l0_0.length c0_0, .slice A0_1 l0_1.length c0_1]) (t := 31) ?hr ?_; (case hd => rfl); (case hg => rfl); (case hr => first | (go_simp; done) | (go_simp; rfl)); intro gb108 hg w3 hbox hb; have BK108 := Ak (hbox); have GW108 := Ak (zb hg (bw HB.out)); have GE108 := Ak (zb hg (bw HB.out)); replace HB := Ak (below_step (bw HB.out) hb); clear hb hbox hg) | ((with_reducible refine gate_dst (N := 2) rfl ?_); refine box_event ?hg (N := 2) ?hd (cs := #[.slice none 0 0, .slice none 0 0]) (t := 31) ?hr ?_; (case hd => rfl); (case hg => rfl); (case hr => first | (go_simp; done) | (go_simp; rfl)); intro gb109 hg w4 hbox hb; have BK109 := Ak (hbox); have GW109 := Ak (zb hg (bw1 HB.out GE108.out)); have GE109 := Ak (zb hg (bw1 HB.out GE108.out)); replace HB := Ak (below_step (bw1 HB.out GE108.out) hb); have NB108_109 := Ak (zl hg (bq BK108.out)); have NB109_108 := Ak (zm hg (bq BK108.out)); replace BK108 := Ak (blk_below (bq BK108.out) hb); clear hb hbox hg) | ((with_reducible refine gate_dst (N := 5) rfl ?_); refine Kd.R_lit (Kd.int .u8) _ 5 ?hg (N := 5) ?hd (xs := ([] : List Int)) (inner := []) (ok := fun _ => True) (okp := fun _ => True) ?hr ?hp (fun _ hk => hk) trivial (Below.refl _ _) (Nat.le_refl _) (by simp) ?_; (case hd => rfl); (case hg => rfl); (case hr => first | (go_simp; done) | (go_simp; rfl)); (case hp => exact (Reps.none _ _)); intro v111 w5 ho6 hb hg_ hnew_; clear hg_ hnew_; (first | rw [← Ny110.out] at ho6 | (simp only [Int.reduceToNat] at ho6; rw [← Ny110.out] at ho6)); have HO112 := Ak (Kd.R_lower ho6 (below_size (bw2 HB.out GE108.out GE109.out))); replace BK108 := Ak (blk_below (bq BK108.out) hb); replace BK109 := Ak (blk_below (bq BK109.out) hb); replace HB := Ak (below_step (bw2 HB.out GE108.out GE109.out) hb); clear hb ho6; have hnb7 := NB108_109.out; have hnc7 := NB109_108.out; have hcz8_0 := zk0 BK108.out; have hcz8_1 := zk1 BK108.out; have hfz8_0 := blk_frozen BK108.out 0; have hfz8_1 := blk_frozen BK108.out 1) | ((with_reducible refine gate_builtin (b := .append) (xs := #[.tmp 5, .tmp 7]) rfl ?_); at_builtin; refine Kd.R_append_rows (Kd.int .u8) (w0 := w) w.heap.size rfl (.tmp 5) (.tmp 7) 22 5 (.int .u8 0) 1 rfl Try.underlying22 info5 rfl (by decide) (by omega) v111 y110 l0_0 _ _ _ (fun _ => True) (fun _ => False) rfl rfl ?aO ?aR (fun _ _ h => h) (fun _ h => h.elim) ?aF ?aB ?aS ?aL ?_; (case aR => exact zq (Kd.C_below HR0_0.out HB.out)); (case aB => exact (bw2 HB.out GE108.out GE109.out)); (case aF => exact (fun _ _ => trivial)); (case aO => exact (rq HO112.out)); (case aS => exact (below_size (bw2 HB.out GE108.out GE109.out))); (case aL => have := LMc2.out; omega); intro v114 w9 ho hb hg hat; rw [← Ny113.out] at ho; replace BK108 := Ak (blk_grown (g := gb108) (o := .cells #[.slice A0_0 l0_0.length c0_0, .slice A0_1 l0_1.length c0_1] 31 (0, 0)) (bq BK108.out) hg (Kd.R_ne HO112.out BK108.out (by decide))); replace BK109 := Ak (blk_grown (g := gb109) (o := .cells #[.slice none 0 0, .slice none 0 0] 31 (0, 0)) (bq BK109.out) hg (Kd.R_ne HO112.out BK109.out (by decide))); replace HB := Ak (hb); have HO115 := Ak (ho); clear HO112; clear ho hb hg hat; obtain ⟨Ao10, co10, eo10⟩ := Kd.R_slice HO115.out; subst eo10) | ((with_reducible refine gate_dst (N := 3) rfl ?_); refine box_event ?hg (N := 3) ?hd (cs := #[.slice none 0 0, .slice none 0 0]) (t := 31) ?hr ?_; (case hd => rfl); (case hg => rfl); (case hr => first | (go_simp; done) | (go_simp; rfl)); intro gb116 hg w11 hbox hb; replace HO115 := Ak (Kd.R_below (rq HO115.out) hb); have BK116 := Ak (hbox); have GW116 := Ak (zb hg (bw2 HB.out GE108.out GE109.out)); have GE116 := Ak (zb hg (bw2 HB.out GE108.out GE109.out)); replace HB := Ak (below_step (bw2 HB.out GE108.out GE109.out) hb); have NB108_116 := Ak (zl hg (bq BK108.out)); have NB116_108 := Ak (zm hg (bq BK108.out)); replace BK108 := Ak (blk_below (bq BK108.out) hb); have NB109_116 := Ak (zl hg (bq BK109.out)); have NB116_109 := Ak (zm hg (bq BK109.out)); replace BK109 := Ak (blk_below (bq BK109.out) hb); clear hb hbox hg; have hnb12 := NB116_108.out; have hnc12 := NB108_116.out; have hnb13 := NB116_109.out; have hnc13 := NB109_116.out; have hcz14_0 := zk0 BK116.out; have hcz14_1 := zk1 BK116.out; have hfz14_0 := blk_frozen BK116.out 0; have hfz14_1 := blk_frozen BK116.out 1))
  go_loopg [4] k (fun kq v4 w' => ∃ (x4_1 : Int) (x117001_1 : List (S96)) (u117001 : Value), v4 = .int .i64 x4_1 ∧ Aside0 (spec_l11Copy.l0 kq x4_1 l0_0 l0_1 y113 x117001_1 = some (r1, r2)) ∧ Aside0 (kq ≤ k) ∧ Aside0 (Kd.R (Kd.int .u8) 5 w' w.heap.size (fun _ => True) (.slice Ao10 y113.length co10) y113) ∧ Aside0 (Kd.S k96 96 w' w.heap.size (fun k_ => some k_ ≠ ((.slice Ao10 y113.length co10) : Value).ownBlock) u117001 x117001_1) ∧ Aside0 (w'.heap[gb108]? = some (.cells #[(.slice A0_0 l0_0.length c0_0), (.slice A0_1 l0_1.length c0_1)] 31 (0, 0))) ∧ Aside0 (w'.heap[gb109]? = some (.cells #[(.slice none 0 0), (.slice none 0 0)] 31 (0, 0))) ∧ Aside0 (w'.heap[gb116]? = some (.cells #[(.slice Ao10 y113.length co10), u117001] 31 (0, 0))) ∧ Aside0 (Below w.heap.size w w'))
  case atStart => exact ⟨(0), (([] : List (S96))), (.slice none 0 0), (by first | rfl | (simp; done) | (simp [*]; done)), H', ⟨Nat.le_refl _⟩, ⟨by refine rq ?_; exact Kd.R_mono (Kd.R_far (p := ⟨gb116, 1, none⟩) (Kd.R_far (p := ⟨gb116, 0, none⟩) (Kd.R_types HO115.out BK116.out (by decide)) (fun _ hk => hk.2) (.slice Ao10 y113.length co10)) (fun _ hk => hk.2) (.slice none 0 0)) (fun _ hk => trivial)⟩, ⟨by first | exact Kd.S_nil _ _ _ _ _ | exact Kd.N_nil _ _ _ _ _ | exact Kd.V_nil _ _ _ _ _ | exact Kd.Q_nil _ _ _ _ _ | exact Kd.R_nil _ _ _ _ _⟩, ⟨by refine bq ?_; refine blk_far ?_ NB108_116.out _; refine bq ?_; refine blk_far ?_ NB108_116.out _; exact bq BK108.out⟩, ⟨by refine bq ?_; refine blk_far ?_ NB109_116.out _; refine bq ?_; refine blk_far ?_ NB109_116.out _; exact bq BK109.out⟩, ⟨by refine bq ?_; refine blk_put (cs := #[.slice Ao10 y113.length co10, .slice none 0 0]) ?_ 1 _ rfl; refine bq ?_; refine blk_put (cs := #[.slice none 0 0, .slice none 0 0]) ?_ 0 _ rfl; exact bq BK116.out⟩, ⟨bw3 HB.out GE108.out GE109.out GE116.out⟩⟩
  case round =>
   clear H'
   obtain ⟨x4_1, x117001_1, u117001, rfl, HA, HK1, HO_117000, HO_117001, BK108, BK109, BK116, HB⟩ := hrel
   cases gk with
   | zero => exact absurd HA.out (by simp [spec_l11Copy.l0])
   | succ k1 =>
    have H := HA.out
    clear HA
    simp only [spec_l11Copy.l0] at H
    by_cases c15 : x4_1 < (l0_1.length : Int)
    ·rw [if_pos c15] at H
     have c15b0 : decide (x4_1 < (l0_1.length : Int)) = true := decide_eq_true c15
     clear c15
     by_cases c16 : 0 ≤ x4_1
     ·rw [if_pos c16] at H
      have c16b0 : decide (0 ≤ x4_1) = true := decide_eq_true c16
      clear c16
      obtain ⟨y118, hy118⟩ : ∃ y_ : List Int, y_ = (([] : List Int)) := ⟨_, rfl⟩
      replace H : (if y118.length + ((rd_T96 l0_1 x4_1).f1).length < 140737488355328 then (if x117001_1.length < 4398046511104 then (spec_l11Copy.l0 k1 (wrap64 (x4_1 + 1)) l0_0 l0_1 y113 (x117001_1 ++ [(⟨(rd_T96 l0_1 x4_1).f0, (y118 ++ ((rd_T96 l0_1 x4_1).f1))⟩ : S96)])) else (none)) else (none)) = some (r1, r2) := by first | (rw [hy118]; with_reducible exact H) | (have H2_ := (Option.bind_some _ _).symm.trans H; rw [hy118]; with_reducible exact H2_) | (have H2_ := (Option.bind_some _ _).symm.trans H; with_reducible exact H2_) | with_reducible exact H | (rw [hy118]; exact H) | exact H
      have Ny118 := Ak hy118
      clear hy118
      by_cases c17 : y118.length + ((rd_T96 l0_1 x4_1).f1).length < 140737488355328
      ·rw [if_pos c17] at H
       have LMc17 := Ak c17
       clear c17
       obtain ⟨y122, hy122⟩ : ∃ y_ : List Int, y_ = (y118 ++ ((rd_T96 l0_1 x4_1).f1)) := ⟨_, rfl⟩
       replace H : (if x117001_1.length < 4398046511104 then (spec_l11Copy.l0 k1 (wrap64 (x4_1 + 1)) l0_0 l0_1 y113 (x117001_1 ++ [(⟨(rd_T96 l0_1 x4_1).f0, y122⟩ : S96)])) else (none)) = some (r1, r2) := by first | (rw [hy122]; with_reducible exact H) | (have H2_ := (Option.bind_some _ _).symm.trans H; rw [hy122]; with_reducible exact H2_) | (have H2_ := (Option.bind_some _ _).symm.trans H; with_reducible exact H2_) | with_reducible exact H | (rw [hy122]; exact H) | exact H
       have Ny122 := Ak hy122
       clear hy122
       by_cases c18 : x117001_1.length < 4398046511104
       ·rw [if_pos c18] at H
        have LMc18 := Ak c18
        clear c18
        obtain ⟨y125, hy125⟩ : ∃ y_ : List (S96), y_ = (x117001_1 ++ [(⟨(rd_T96 l0_1 x4_1).f0, y122⟩ : S96)]) := ⟨_, rfl⟩
        replace H : (spec_l11Copy.l0 k1 (wrap64 (x4_1 + 1)) l0_0 l0_1 y113 y125) = some (r1, r2) := by first | (rw [hy125]; with_reducible exact H) | (have H2_ := (Option.bind_some _ _).symm.trans H; rw [hy125]; with_reducible exact H2_) | (have H2_ := (Option.bind_some _ _).symm.trans H; with_reducible exact H2_) | with_reducible exact H | (rw [hy125]; exact H) | exact H
        have Ny125 := Ak hy125
        clear hy125
        have H' := Ak H
        clear H
        have hnb19 := NB108_109.out
        have hnc19 := NB109_108.out
        have hnb20 := NB108_116.out
        have hnc20 := NB116_108.out
        have hcz21_0 : wr.cell? ⟨gb108, 0, none⟩ = some (.slice A0_0 l0_0.length c0_0) := zk0 BK108.out
        have hcz21_1 : wr.cell? ⟨gb108, 1, none⟩ = some (.slice A0_1 l0_1.length c0_1) := zk1 BK108.out
        have hfz21_0 := blk_frozen BK108.out 0
        have hfz21_1 := blk_frozen BK108.out 1
        try go_wp2
        replace HO_117000 := Ak (Kd.R_drew HO_117000.out)
        replace HO_117001 := Ak (Kd.S_drew HO_117001.out)
        replace BK108 := Ak (blk_drew BK108.out)
        replace BK109 := Ak (blk_drew BK109.out)
        replace BK116 := Ak (blk_drew BK116.out)
        replace HB := Ak (below_drew1 HB.out)
        have p117 : 0 ≤ (x4_1 : Int) := of_decide_eq_true (by first | (with_reducible assumption) | assumption)
        have q117 : x4_1 < (l0_1.length : Int) := of_decide_eq_true (by first | (with_reducible assumption) | assumption)
        obtain ⟨ad117, A117_1, c117_1, e117, hx117_0, hx117_1, hl117_1, hi117_1⟩ := at_T96 HR0_1.out x4_1 p117 q117
        have hw117_1 := hx117_1
        have hw117_0 := hx117_0
        cases e117
        replace hx117_0 := (HB.out.cell (World.block_lt_of_cell? w _ hx117_0)).trans hx117_0
        replace hx117_1 := (HB.out.cell (World.block_lt_of_cell? w _ hx117_1)).trans hx117_1
        have HR117_1 := Ak hi117_1
        have HC117_1 := Ak hl117_1
        clear hi117_1 hl117_1
        replace p117 := eq_true p117
        replace q117 := eq_true q117
        have p121 : 0 ≤ (x4_1 : Int) := of_decide_eq_true (by first | (with_reducible assumption) | assumption)
        have q121 : x4_1 < (l0_1.length : Int) := of_decide_eq_true (by first | (with_reducible assumption) | assumption)
        obtain ⟨ad121, A121_1, c121_1, e121, hx121_0, hx121_1, hl121_1, hi121_1⟩ := at_T96 HR0_1.out x4_1 p121 q121
        have hw121_1 := hx121_1
        have hw121_0 := hx121_0
        obtain rfl : ad117 = ad121 := (by injection e121)
        replace hx121_0 := (HB.out.cell (World.block_lt_of_cell? w _ hx121_0)).trans hx121_0
        replace hx121_1 := (HB.out.cell (World.block_lt_of_cell? w _ hx121_1)).trans hx121_1
        have HR121_1 := Ak hi121_1
        have HC121_1 := Ak hl121_1
        clear hi121_1 hl121_1
        replace p121 := eq_true p121
        replace q121 := eq_true q121
        have ea_ := Option.some.inj (hx117_1.symm.trans hx121_1)
        injection ea_ with ea_ en_ ec_
        subst ea_
        subst ec_
        clear en_
        refine start_ (n := 21) (S := fun w' => w'.cell? ⟨gb116, 0, none⟩ = some (.slice Ao10 y113.length co10) ∧ w'.cell? ⟨gb116, 1, none⟩ = some (u117001) ∧ w'.cell? ⟨gb108, 0, none⟩ = some (.slice A0_0 l0_0.length c0_0) ∧ w'.cell? ⟨gb108, 1, none⟩ = some (.slice (some ad117) l0_1.length c0_1) ∧ w'.cell? (ad117.add ((x4_1).toNat * 2)) = some (.int .i64 ((rd_T96 l0_1 x4_1).f0)) ∧ w'.cell? ⟨(ad117.add ((x4_1).toNat * 2)).block, (ad117.add ((x4_1).toNat * 2)).off + 1, none⟩ = some (.slice A117_1 ((rd_T96 l0_1 x4_1).f1).length c117_1) ∧ w'.cell? (ad117.add ((x4_1).toNat * 2)) = some (.int .i64 ((rd_T96 l0_1 x4_1).f0)) ∧ w'.cell? ⟨(ad117.add ((x4_1).toNat * 2)).block, (ad117.add ((x4_1).toNat * 2)).off + 1, none⟩ = some (.slice A117_1 ((rd_T96 l0_1 x4_1).f1).length c117_1)) (ds := [20]) #[false, false, false, false, false, false, false, false, false, false, false, false, false, false, false, false, false, false, false, false, false] (by kernel_rfl) rfl rfl ⟨zk0 BK116.out, zk1 BK116.out, zk0 BK108.out, zk1 BK108.out, ((HB.out.cell (World.block_lt_of_cell? w _ hw117_0)).trans hw117_0), ((HB.out.cell (World.block_lt_of_cell? w _ hw117_1)).trans hw117_1), ((HB.out.cell (World.block_lt_of_cell? w _ hw121_0)).trans hw121_0), ((HB.out.cell (World.block_lt_of_cell? w _ hw121_1)).trans hw121_1)⟩ (fun hHeld => ?_); refine with_tabW spec_l11Copy.tab5 spec_l11Copy.bits5 (fun HT_ HW_ => ?_)
        generalize wr.drew = w22 at HO_117000 HO_117001 BK108 BK109 BK116 HB HR117_1 HR121_1 hx117_0 hx117_1 hx121_0 hx121_1 hHeld ⊢
        refine pure_ (i := 0) (N := some 17) (v := ?_) (a' := ?_) #[true, false, false, false, false, false, false, false, false, false, false, false, false, false, false, false, false, false, false, false, false] rfl rfl (any_of HT_.out (by kernel_rfl)) (fun _ _ _ h => h) (Or.inl ⟨by rfl, ?_⟩) ?_ ?_
        rotate_left
        ·intro w'
         go_simp
         with_reducible rfl
        rotate_left
        ·simp only [Act.put, sT, sZ, sS, i64_w, i32_w]
         rfl
        refine pure_ (i := 2) (N := some 19) (v := ?_) (a' := ?_) #[true, false, true, false, false, false, false, false, false, false, false, false, false, false, false, false, false, false, false, false, false] rfl rfl (any_of HT_.out (by kernel_rfl)) (fun _ _ _ h => h) (Or.inl ⟨by rfl, ?_⟩) ?_ ?_
        rotate_left
        ·intro w'
         go_simp
         with_reducible rfl
        rotate_left
        ·simp only [Act.put, sT, sZ, sS, i64_w, i32_w]
         rfl
        refine pure_ (i := 4) (N := some 21) (v := ?_) (a' := ?_) #[true, false, true, false, true, false, false, false, false, false, false, false, false, false, false, false, false, false, false, false, false] rfl rfl (any_of HT_.out (by kernel_rfl)) (fun _ _ _ h => h) (Or.inl ⟨by rfl, ?_⟩) ?_ ?_
        rotate_left
        ·intro w'
         go_simp
         with_reducible rfl
        rotate_left
        ·simp only [Act.put, sT, sZ, sS, i64_w, i32_w]
         rfl
        refine pure_ (i := 9) (N := some 26) (v := ?_) (a' := ?_) #[true, false, true, false, true, false, false, false, false, true, false, false, false, false, false, false, false, false, false, false, false] rfl rfl (any_of HT_.out (by kernel_rfl)) (fun _ _ _ h => h) (Or.inl ⟨by rfl, ?_⟩) ?_ ?_
        rotate_left
        ·intro w'
         go_simp
         with_reducible rfl
        rotate_left
        ·simp only [Act.put, sT, sZ, sS, i64_w, i32_w]
         rfl
        refine pure_ (i := 11) (N := some 28) (v := ?_) (a' := ?_) #[true, false, true, false, true, false, false, false, false, true, false, true, false, false, false, false, false, false, false, false, false] rfl rfl (any_of HT_.out (by kernel_rfl)) (fun _ _ _ h => h) (Or.inl ⟨by rfl, ?_⟩) ?_ ?_
        rotate_left
        ·intro w'
         go_simp
         with_reducible rfl
        rotate_left
        ·simp only [Act.put, sT, sZ, sS, i64_w, i32_w]
         rfl
        refine take_ (i := 1) (N := some 18) (v := ?_) (a' := ?_) #[true, true, true, false, true, false, false, false, false, true, false, true, false, false, false, false, false, false, false, false, false] rfl rfl (take_ofW HT_.out HW_.out (by kernel_rfl)) (fun _ _ _ h => h) (Or.inl ⟨by rfl, ?_⟩) hHeld ?_ ?_
        rotate_left
        ·rintro w' ⟨s0, s1, s2, s3, s4, s5, s6, s7⟩
         go_simp
         with_reducible rfl
        rotate_left
        ·simp only [Act.put, sT, sZ, sS, i64_w, i32_w]
         rfl
        refine take_ (i := 3) (N := some 20) (v := ?_) (a' := ?_) #[true, true, true, true, true, false, false, false, false, true, false, true, false, false, false, false, false, false, false, false, false] rfl rfl (take_ofW HT_.out HW_.out (by kernel_rfl)) (fun _ _ _ h => h) (Or.inl ⟨by rfl, ?_⟩) hHeld ?_ ?_
        rotate_left
        ·rintro w' ⟨s0, s1, s2, s3, s4, s5, s6, s7⟩
         go_simp
         with_reducible rfl
        rotate_left
        ·simp only [Act.put, sT, sZ, sS, i64_w, i32_w]
         rfl
        refine pure_ (i := 5) (N := some 22) (v := ?_) (a' := ?_) #[true, true, true, true, true, true, false, false, false, true, false, true, false, false, false, false, false, false, false, false, false] rfl rfl (any_of HT_.out (by kernel_rfl)) (fun _ _ _ h => h) (Or.inl ⟨by rfl, ?_⟩) ?_ ?_
        rotate_left
        ·intro w'
         go_simp
         with_reducible rfl
        rotate_left
        ·simp only [Act.put, sT, sZ, sS, i64_w, i32_w]
         rfl
        refine pure_ (i := 6) (N := some 23) (v := ?_) (a' := ?_) #[true, true, true, true, true, true, true, false, false, true, false, true, false, false, false, false, false, false, false, false, false] rfl rfl (any_of HT_.out (by kernel_rfl)) (fun _ _ _ h => h) (Or.inl ⟨by rfl, ?_⟩) ?_ ?_
        rotate_left
        ·intro w'
         go_simp
         with_reducible rfl
        rotate_left
        ·simp only [Act.put, sT, sZ, sS, i64_w, i32_w]
         rfl
        refine take_ (i := 7) (N := some 24) (v := ?_) (a' := ?_) #[true, true, true, true, true, true, true, true, false, true, false, true, false, false, false, false, false, false, false, false, false] rfl rfl (take_ofW HT_.out HW_.out (by kernel_rfl)) (fun _ _ _ h => h) (Or.inl ⟨by rfl, ?_⟩) hHeld ?_ ?_
        rotate_left
        ·rintro w' ⟨s0, s1, s2, s3, s4, s5, s6, s7⟩
         go_simp
         with_reducible rfl
        rotate_left
        ·simp only [Act.put, sT, sZ, sS, i64_w, i32_w]
         rfl
        refine take_ (i := 10) (N := some 27) (v := ?_) (a' := ?_) #[true, true, true, true, true, true, true, true, false, true, true, true, false, false, false, false, false, false, false, false, false] rfl rfl (take_ofW HT_.out HW_.out (by kernel_rfl)) (fun _ _ _ h => h) (Or.inl ⟨by rfl, ?_⟩) hHeld ?_ ?_
        rotate_left
        ·rintro w' ⟨s0, s1, s2, s3, s4, s5, s6, s7⟩
         go_simp
         with_reducible rfl
        rotate_left
        ·simp only [Act.put, sT, sZ, sS, i64_w, i32_w]
         rfl
        refine pure_ (i := 12) (N := some 29) (v := ?_) (a' := ?_) #[true, true, true, true, true, true, true, true, false, true, true, true, true, false, false, false, false, false, false, false, false] rfl rfl (any_of HT_.out (by kernel_rfl)) (fun _ _ _ h => h) (Or.inl ⟨by rfl, ?_⟩) ?_ ?_
        rotate_left
        ·intro w'
         go_simp
         with_reducible rfl
        rotate_left
        ·simp only [Act.put, sT, sZ, sS, i64_w, i32_w]
         rfl
        refine pure_ (i := 13) (N := some 30) (v := ?_) (a' := ?_) #[true, true, true, true, true, true, true, true, false, true, true, true, true, true, false, false, false, false, false, false, false] rfl rfl (any_of HT_.out (by kernel_rfl)) (fun _ _ _ h => h) (Or.inl ⟨by rfl, ?_⟩) ?_ ?_
        rotate_left
        ·intro w'
         go_simp
         with_reducible rfl
        rotate_left
        ·simp only [Act.put, sT, sZ, sS, i64_w, i32_w]
         rfl
        refine take_ (i := 14) (N := some 31) (v := ?_) (a' := ?_) #[true, true, true, true, true, true, true, true, false, true, true, true, true, true, true, false, false, false, false, false, false] rfl rfl (take_ofW HT_.out HW_.out (by kernel_rfl)) (fun _ _ _ h => h) (Or.inl ⟨by rfl, ?_⟩) hHeld ?_ ?_
        rotate_left
        ·rintro w' ⟨s0, s1, s2, s3, s4, s5, s6, s7⟩
         go_simp
         with_reducible rfl
        rotate_left
        ·simp only [Act.put, sT, sZ, sS, i64_w, i32_w]
         rfl
        refine one_ (i := 8) (N := some 25) #[true, true, true, true, true, true, true, true, true, true, true, true, true, true, true, false, false, false, false, false, false] rfl rfl (one_of HT_.out (by kernel_rfl)) (by decide) (fun K hK => ?_)
        refine Kd.R_lit_step (Kd.int .u8) _ 5 ?hg (N := 25) ?hd (xs := ([] : List Int)) (inner := []) (ok := fun _ => True) (okp := fun _ => True) ?hr ?hp (fun _ hk => hk) trivial (Below.refl _ _) (Nat.le_refl _) (by simp) ?_; (case hd => rfl); (case hg => rfl); (case hr => first | (go_simp; done) | (go_simp; rfl)); (case hp => exact (Reps.none _ _))
        intro v119 w23 ho24 hb hg_ hnew_
        clear hg_ hnew_
        (first | rw [← Ny118.out] at ho24 | (simp only [Int.reduceToNat] at ho24; rw [← Ny118.out] at ho24))
        replace HO_117001 := Ak (Kd.S_elder' (sq HO_117001.out) (Kd.R_base ho24) hb)
        have HO120 := Ak (Kd.R_lower (Kd.R_new' ho24 (Kd.R_lt (rq HO_117000.out))) (below_size (bw3 HB.out GE108.out GE109.out GE116.out)))
        replace HO_117000 := Ak (Kd.R_elder' (rq HO_117000.out) (Kd.R_base ho24) hb)
        replace BK108 := Ak (blk_below (bq BK108.out) hb)
        replace BK109 := Ak (blk_below (bq BK109.out) hb)
        replace BK116 := Ak (blk_below (bq BK116.out) hb)
        replace HB := Ak (below_step (bw3 HB.out GE108.out GE109.out GE116.out) hb)
        clear hb ho24
        refine hK.out _ _ ⟨zk0 BK116.out, zk1 BK116.out, zk0 BK108.out, zk1 BK108.out, ((HB.out.cell (World.block_lt_of_cell? w _ hw117_0)).trans hw117_0), ((HB.out.cell (World.block_lt_of_cell? w _ hw117_1)).trans hw117_1), ((HB.out.cell (World.block_lt_of_cell? w _ hw121_0)).trans hw121_0), ((HB.out.cell (World.block_lt_of_cell? w _ hw121_1)).trans hw121_1)⟩ (fun hHeld => ?_)
        clear hK K
        refine norm_ (a' := ?_) ?_ ?_
        rotate_left
        ·show Act.put _ (some 25) _ = _
         simp only [Act.put, sT, sZ, sS, i64_w, i32_w]
         rfl
        refine one_ (i := 15) (N := some 32) #[true, true, true, true, true, true, true, true, true, true, true, true, true, true, true, true, false, false, false, false, false] rfl rfl (one_of HT_.out (by kernel_rfl)) (by decide) (fun K hK => ?_)
        refine Kd.R_append_rows_step (Kd.int .u8) (w0 := w) w.heap.size (by rfl) (.tmp 25) (.tmp 31) 22 5 (.int .u8 0) 1 rfl Try.underlying22 info5 rfl (by decide) (by omega) v119 y118 ((rd_T96 l0_1 x4_1).f1) _ _ _ (fun k_ => Nb k_ (.slice Ao10 y113.length co10)) (fun _ => False) rfl rfl ?aO ?aR (fun _ _ h => h) (fun _ h => h.elim) ?aF ?aB ?aS ?aL ?_
        (case aR => exact zq (Kd.C_below HR121_1.out HB.out))
        (case aB => exact (bw3 HB.out GE108.out GE109.out GE116.out))
        (case aF => exact (fun k_ hk => Kd.fresh' (Kd.R_lt (rq HO_117000.out)) k_ hk))
        (case aO => exact (by refine rq ?_; exact Kd.R_mono HO120.out (fun _ hk => hk.2)))
        (case aS => exact (below_size (bw3 HB.out GE108.out GE109.out GE116.out)))
        (case aL => have := LMc17.out; omega)
        intro v123 w25 ho hb hg hat
        rw [← Ny122.out] at ho
        replace HO_117000 := Ak (Kd.R_after (ok := (fun _ => True)) (rq HO_117000.out) hg hat)
        replace HO_117001 := Ak (Kd.S_after (ok := (fun k_ => Nb k_ (.slice Ao10 y113.length co10))) (sq HO_117001.out) hg hat)
        replace BK108 := Ak (blk_grown (g := gb108) (o := .cells #[.slice A0_0 l0_0.length c0_0, .slice (some ad117) l0_1.length c0_1] 31 (0, 0)) (bq BK108.out) hg (Kd.R_ne HO120.out BK108.out (by decide)))
        replace BK109 := Ak (blk_grown (g := gb109) (o := .cells #[.slice none 0 0, .slice none 0 0] 31 (0, 0)) (bq BK109.out) hg (Kd.R_ne HO120.out BK109.out (by decide)))
        replace BK116 := Ak (blk_grown (g := gb116) (o := .cells #[.slice Ao10 y113.length co10, u117001] 31 (0, 0)) (bq BK116.out) hg (Kd.R_ne HO120.out BK116.out (by decide)))
        replace HB := Ak (hb)
        have HO124 := Ak (ho)
        clear HO120
        clear ho hb hg hat
        obtain ⟨Ao26, co26, eo26⟩ := Kd.R_slice HO124.out
        (first | subst eo26 | (injection eo26 with f1_ f2_ f3_; have f4_ := f1_.symm; have f5_ := f3_.symm; clear f1_ f2_ f3_; subst f4_; subst f5_))
        refine hK.out _ _ ⟨zk0 BK116.out, zk1 BK116.out, zk0 BK108.out, zk1 BK108.out, ((HB.out.cell (World.block_lt_of_cell? w _ hw117_0)).trans hw117_0), ((HB.out.cell (World.block_lt_of_cell? w _ hw117_1)).trans hw117_1), ((HB.out.cell (World.block_lt_of_cell? w _ hw121_0)).trans hw121_0), ((HB.out.cell (World.block_lt_of_cell? w _ hw121_1)).trans hw121_1)⟩ (fun hHeld => ?_)
        clear hK K
        refine norm_ (a' := ?_) ?_ ?_
        rotate_left
        ·show Act.put _ (some 32) _ = _
         simp only [Act.put, sT, sZ, sS, i64_w, i32_w]
         rfl
        refine pure_ (i := 16) (N := some 33) (v := ?_) (a' := ?_) #[true, true, true, true, true, true, true, true, true, true, true, true, true, true, true, true, true, false, false, false, false] rfl rfl (any_of HT_.out (by kernel_rfl)) (fun _ _ _ h => h) (Or.inl ⟨by rfl, ?_⟩) ?_ ?_
        rotate_left
        ·intro w'
         go_simp
         with_reducible rfl
        rotate_left
        ·simp only [Act.put, sT, sZ, sS, i64_w, i32_w]
         rfl
        refine one_ (i := 17) (N := some 34) #[true, true, true, true, true, true, true, true, true, true, true, true, true, true, true, true, true, true, false, false, false] rfl rfl (one_of HT_.out (by kernel_rfl)) (by decide) (fun K hK => ?_)
        refine value_ (w1 := ?_) (v := ?_) (by rfl) rfl ?_ ?_
        rotate_left 2
        ·go_simp
         constructor
         ·rfl
         ·rfl
        refine hK.out _ _ ⟨(blk_cell (blk_alloc BK116.out _) 0).trans rfl, (blk_cell (blk_alloc BK116.out _) 1).trans rfl, (blk_cell (blk_alloc BK108.out _) 0).trans rfl, (blk_cell (blk_alloc BK108.out _) 1).trans rfl, (World.cell?_alloc_lt _ _ _ (World.block_lt_of_cell? _ _ (((HB.out.cell (World.block_lt_of_cell? w _ hw117_0)).trans hw117_0)))).trans (((HB.out.cell (World.block_lt_of_cell? w _ hw117_0)).trans hw117_0)), (World.cell?_alloc_lt _ _ _ (World.block_lt_of_cell? _ _ (((HB.out.cell (World.block_lt_of_cell? w _ hw117_1)).trans hw117_1)))).trans (((HB.out.cell (World.block_lt_of_cell? w _ hw117_1)).trans hw117_1)), (World.cell?_alloc_lt _ _ _ (World.block_lt_of_cell? _ _ (((HB.out.cell (World.block_lt_of_cell? w _ hw121_0)).trans hw121_0)))).trans (((HB.out.cell (World.block_lt_of_cell? w _ hw121_0)).trans hw121_0)), (World.cell?_alloc_lt _ _ _ (World.block_lt_of_cell? _ _ (((HB.out.cell (World.block_lt_of_cell? w _ hw121_1)).trans hw121_1)))).trans (((HB.out.cell (World.block_lt_of_cell? w _ hw121_1)).trans hw121_1))⟩ (fun hHeld => ?_)
        clear hK K
        refine norm_ (a' := ?_) ?_ ?_
        rotate_left
        ·show Act.put _ (some 34) _ = _
         simp only [Act.put, sT, sZ, sS, i64_w, i32_w]
         rfl
        refine one_ (i := 18) (N := some 35) #[true, true, true, true, true, true, true, true, true, true, true, true, true, true, true, true, true, true, true, false, false] rfl rfl (one_of HT_.out (by kernel_rfl)) (by decide) (fun K hK => ?_)
        refine Kd.S_append_step k96 (w0 := w) w.heap.size (by rfl) (.tmp 18) (.tmp 34) 29 96 (.agg #[(.int .i64 0), (.slice none 0 0)]) 32 rfl Try.underlying29 info96 rfl (by decide) (by omega) u117001 x117001_1 (⟨(rd_T96 l0_1 x4_1).f0, y122⟩ : S96) [.int .i64 ((rd_T96 l0_1 x4_1).f0), .slice Ao26 y122.length co26] (fun k_ => Nb k_ (.slice Ao10 y113.length co10)) (fun k_ => some k_ = (.slice Ao26 y122.length co26 : Value).ownBlock) rfl rfl ?aP (fun k_ hk_ => ((Kd.R_mono (ok' := fun k_ => ((fun k_ => Nb k_ (.slice Ao10 y113.length co10))) k_ ∧ some k_ ≠ (u117001 : Value).ownBlock) (Kd.R_apart' (HO124.out) (Kd.S_typed HO_117001.out) (by decide)) (fun k_ hk => ⟨hk.1, hk.2⟩))).1 k_ hk_.symm) ?aF ?aO ?aB ?aS ?aL ?_
        (case aP => exact k96_mkM _ _ _ (⟨(rd_T96 l0_1 x4_1).f0, y122⟩ : S96) (Kd.R_mono (Kd.R_tight rfl (Kd.R_mono (ok' := fun k_ => ((fun k_ => Nb k_ (.slice Ao10 y113.length co10))) k_ ∧ some k_ ≠ (u117001 : Value).ownBlock) (Kd.R_apart' (HO124.out) (Kd.S_typed HO_117001.out) (by decide)) (fun k_ hk => ⟨hk.1, hk.2⟩))) (fun _ h_ => h_)))
        (case aB => exact (bw3 HB.out GE108.out GE109.out GE116.out))
        (case aF => exact (fun k_ hk => Kd.fresh' (Kd.R_lt (rq HO_117000.out)) k_ hk))
        (case aO => exact (by refine sq ?_; exact Kd.S_mono HO_117001.out (fun k_ hk => ⟨hk.1, fun e_ => hk.2 e_⟩)))
        (case aS => exact (below_size (bw3 HB.out GE108.out GE109.out GE116.out)))
        (case aL => have := LMc18.out; omega)
        intro v126 w27 ho hb hg hat
        rw [← Ny125.out] at ho
        replace HO_117000 := Ak (Kd.R_over' (rq HO_117000.out) (Kd.S_typed (sq HO_117001.out)) (by decide) hg)
        replace BK108 := Ak (blk_grown (g := gb108) (o := .cells #[.slice A0_0 l0_0.length c0_0, .slice (some ad117) l0_1.length c0_1] 31 (0, 0)) (bq BK108.out) hg (Kd.S_ne HO_117001.out BK108.out (by decide)))
        replace BK109 := Ak (blk_grown (g := gb109) (o := .cells #[.slice none 0 0, .slice none 0 0] 31 (0, 0)) (bq BK109.out) hg (Kd.S_ne HO_117001.out BK109.out (by decide)))
        replace BK116 := Ak (blk_grown (g := gb116) (o := .cells #[.slice Ao10 y113.length co10, u117001] 31 (0, 0)) (bq BK116.out) hg (Kd.S_ne HO_117001.out BK116.out (by decide)))
        replace HB := Ak (hb)
        have HO127 := Ak (ho)
        clear HO_117001 HO124
        clear ho hb hg hat
        obtain ⟨Ao28, co28, eo28⟩ := Kd.S_slice HO127.out
        (first | subst eo28 | (injection eo28 with f1_ f2_ f3_; have f4_ := f1_.symm; have f5_ := f3_.symm; clear f1_ f2_ f3_; subst f4_; subst f5_))
        refine hK.out _ _ ⟨zk0 BK116.out, zk1 BK116.out, zk0 BK108.out, zk1 BK108.out, ((HB.out.cell (World.block_lt_of_cell? w _ hw117_0)).trans hw117_0), ((HB.out.cell (World.block_lt_of_cell? w _ hw117_1)).trans hw117_1), ((HB.out.cell (World.block_lt_of_cell? w _ hw121_0)).trans hw121_0), ((HB.out.cell (World.block_lt_of_cell? w _ hw121_1)).trans hw121_1)⟩ (fun hHeld => ?_)
        clear hK K
        refine norm_ (a' := ?_) ?_ ?_
        rotate_left
        ·show Act.put _ (some 35) _ = _
         simp only [Act.put, sT, sZ, sS, i64_w, i32_w]
         rfl
        refine pure_ (i := 19) (N := some 36) (v := ?_) (a' := ?_) #[true, true, true, true, true, true, true, true, true, true, true, true, true, true, true, true, true, true, true, true, false] rfl rfl (any_of HT_.out (by kernel_rfl)) (fun _ _ _ h => h) (Or.inl ⟨by rfl, ?_⟩) ?_ ?_
        rotate_left
        ·intro w'
         go_simp
         with_reducible rfl
        rotate_left
        ·simp only [Act.put, sT, sZ, sS, i64_w, i32_w]
         rfl
        refine last_ (i := 20) (N := none) #[true, true, true, true, true, true, true, true, true, true, true, true, true, true, true, true, true, true, true, true, true] rfl rfl (one_of HT_.out (by kernel_rfl)) (by decide) (fun K hK => ?_)
        have hs29 := zk1 BK116.out
        have hfs29 := blk_frozen BK116.out 1
        have hns29_0 := NB108_116.out
        have hns29_1 := NB109_116.out
        have hms29_0 := NB116_108.out
        have hms29_1 := NB116_109.out
        refine skip_ (w1 := ?_) (by rfl) rfl ?_ ?_
        rotate_left
        ·go_simp
         rfl
        refine hK.out _ _ ?_
        clear hK K
        refine done_ (done_of HT_.out (by kernel_rfl)) ?_
        try go_wp2
        go_roundg k1
        case measure => have := HK1.out; omega
        case rel => exact ⟨(wrap64 (x4_1 + 1)), (y125), (.slice Ao28 y125.length co28), (by first | rfl | (simp; done) | (simp [*]; done)), H', ⟨by have := HK1.out; omega⟩, ⟨by refine rq ?_; exact Kd.R_mono (Kd.R_far (p := ⟨gb116, 1, none⟩) (Kd.R_types HO_117000.out BK116.out (by decide)) (fun _ hk => hk.2) (.slice Ao28 y125.length co28)) (fun _ hk => trivial)⟩, ⟨by refine sq ?_; exact Kd.S_mono (Kd.S_far (p := ⟨gb116, 1, none⟩) (Kd.S_types HO127.out BK116.out (by decide)) (fun _ hk => hk.2) (.slice Ao28 y125.length co28)) (fun _ hk => hk.1)⟩, ⟨by refine bq ?_; refine blk_far ?_ NB108_116.out _; exact bq BK108.out⟩, ⟨by refine bq ?_; refine blk_far ?_ NB109_116.out _; exact bq BK109.out⟩, ⟨by refine bq ?_; refine blk_put (cs := #[.slice Ao10 y113.length co10, u117001]) ?_ 1 _ rfl; exact bq BK116.out⟩, ⟨bw3 HB.out GE108.out GE109.out GE116.out⟩⟩
       ·rw [if_neg c18] at H
        exact absurd H (by simp)
      ·rw [if_neg c17] at H
       exact absurd H (by simp)
     ·rw [if_neg c16] at H
      exact absurd H (by simp)
    ·rw [if_neg c15] at H
     have c15b0 : decide (x4_1 < (l0_1.length : Int)) = false := decide_eq_false c15
     clear c15
     simp only [Option.some.injEq, Prod.mk.injEq] at H
     obtain ⟨rfl, rfl⟩ := H
     have hnb30 := NB108_109.out
     have hnc30 := NB109_108.out
     have hnb31 := NB108_116.out
     have hnc31 := NB116_108.out
     have hcz32_0 : wr.cell? ⟨gb108, 0, none⟩ = some (.slice A0_0 l0_0.length c0_0) := zk0 BK108.out
     have hcz32_1 : wr.cell? ⟨gb108, 1, none⟩ = some (.slice A0_1 l0_1.length c0_1) := zk1 BK108.out
     have hfz32_0 := blk_frozen BK108.out 0
     have hfz32_1 := blk_frozen BK108.out 1
     have hnb33 := NB116_109.out
     have hnc33 := NB109_116.out
     have hcz34_0 : wr.cell? ⟨gb116, 0, none⟩ = some (.slice Ao10 y113.length co10) := zk0 BK116.out
     have hcz34_1 : wr.cell? ⟨gb116, 1, none⟩ = some (u117001) := zk1 BK116.out
     have hfz34_0 := blk_frozen BK116.out 0
     have hfz34_1 := blk_frozen BK116.out 1
     have hcz35_0 : wr.cell? ⟨gb109, 0, none⟩ = some (.slice none 0 0) := zk0 BK109.out
     have hcz35_1 : wr.cell? ⟨gb109, 1, none⟩ = some (.slice none 0 0) := zk1 BK109.out
     have hfz35_0 := blk_frozen BK109.out 0
     have hfz35_1 := blk_frozen BK109.out 1
     obtain ⟨Ao36, co36, eo36⟩ := Kd.S_slice HO_117001.out
     subst eo36
     go_wp2
     refine bodyPost_ret (results_cell_row rfl _ _ gb109 31 #[.slice Ao10 y113.length co10, .slice Ao36 x117001_1.length co36] (0, 0) _ rfl (by refine bq ?_; refine blk_put (cs := #[.slice Ao10 y113.length co10, .slice none 0 0]) ?_ 1 _ rfl; refine bq ?_; refine blk_put (cs := #[.slice none 0 0, .slice none 0 0]) ?_ 0 _ rfl; exact bq BK109.out) Try.underlying31 rfl (by kernel_rfl)) rfl ?_
     exact ⟨_, _, zw, by refine rq ?_; exact Kd.R_mono (Kd.R_far (p := ⟨gb109, 1, none⟩) (Kd.R_far (p := ⟨gb109, 0, none⟩) (Kd.R_types HO_117000.out BK109.out (by decide)) (fun _ hk => hk.2) (.slice Ao10 y113.length co10)) (fun _ hk => hk.2) (.slice Ao36 x117001_1.length co36)) (fun _ hk => trivial), by refine sq ?_; exact Kd.S_mono (Kd.S_far (p := ⟨gb109, 1, none⟩) (Kd.S_far (p := ⟨gb109, 0, none⟩) (Kd.S_types HO_117001.out BK109.out (by decide)) (fun _ hk => hk.2) (.slice Ao10 y113.length co10)) (fun _ hk => hk.2) (.slice Ao36 x117001_1.length co36)) (fun _ hk => hk.1), bw3 HB.out GE108.out GE109.out GE116.out⟩
 ·rw [if_neg c2] at H
  exact absurd H (by simp)

end Go.Proofs.Ytgmnphckgicadaa.PFnExactLogAdd

