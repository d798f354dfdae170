/- Functions that the law reaches, with their contracts. -/
import Derived.Test.YtgmnphckgicadaaMFnLogxa
import Derived.Test.YtgmnphckgicadaaReg
namespace Go.Proofs.Ytgmnphckgicadaa.PFnLog
open Go.RowKit Go.Proofs.YtgmnphckgicadaaW.PrintWords Go.Proofs.YtgmnphckgicadaaW.PrintLast Go.Proofs.YtgmnphckgicadaaW.PrintMore
attribute [local go_sem] max2_int min2_int max_two min_two max_three min_three max_four min_four
set_option linter.unusedVariables false
set_option linter.unusedSimpArgs false

def spec_l11Copy.l0 : Nat → Int → List Int → List (S96) → List Int → List (S96) → Option (List Int × (List (S96)))
 | 0, _, _, _, _, _ => none
 | k + 1, x4, x306000, x306001, x314000, x314001 => if x4 < (x306001.length : Int) then (if 0 ≤ x4 then ((some (([] : List Int) : List Int)).bind fun y315 => (if y315.length + ((rd_T96 x306001 x4).f1).length < 140737488355328 then (if x314001.length < 4398046511104 then (spec_l11Copy.l0 k (wrap64 (x4 + 1)) x306000 x306001 x314000 (x314001 ++ [(⟨(rd_T96 x306001 x4).f0, (y315 ++ ((rd_T96 x306001 x4).f1))⟩ : S96)])) else (none)) else (none))) else (none)) else (some (x314000, x314001))
def spec_l11Copy.f (k : Nat) (l0_0 : List Int) (l0_1 : List (S96)) : Option (List Int × (List (S96))) := (some (([] : List Int) : List Int)).bind fun y307 => (if y307.length + l0_0.length < 140737488355328 then (spec_l11Copy.l0 k 0 l0_0 l0_1 (y307 ++ l0_0) ([] : List (S96))) else (none))
def spec_l11Copy.T5 : Bool × List (List Nat × List Nat) := (true, [([], []), ([0], [0]), ([], []), ([2], [2]), ([], []), ([3, 4], [3, 4]), ([5], [5]), ([6], [6]), ([], []), ([], []), ([9], [9]), ([], []), ([10, 11], [10, 11]), ([12], [12]), ([13], [13]), ([8, 14], [8, 14]), ([7, 15], [7, 15]), ([16], [16]), ([1, 17, 15], [1, 17]), ([0, 1, 2, 3, 4, 5, 6, 7, 8, 9, 10, 11, 12, 13, 14, 15, 16, 17, 18], []), ([19, 18, 18, 0, 1, 2, 3, 4, 5, 6, 7, 8, 9, 10, 11, 12, 13, 14, 15, 16, 17, 18], [18, 19])])
def spec_l11Copy.B5 : List Nat := [0, 1, 0, 4, 0, 28, 60, 124, 0, 0, 512, 0, 3584, 7680, 15872, 32512, 65532, 131068, 262143, 524287, 1048575]
theorem spec_l11Copy.tab5 : rtab .any (opsOf Try.f44 5) = spec_l11Copy.T5 := by kernel_rfl
theorem spec_l11Copy.bits5 : waitsOk spec_l11Copy.T5.2 spec_l11Copy.B5 = true := by kernel_rfl
set_option maxHeartbeats 8000000 in
set_option maxRecDepth 100000 in
theorem spec_l11Copy.calls (k : Nat) (A0_0 : Option Addr) (c0_0 : Nat) (l0_0 : List Int) (A0_1 : Option Addr) (c0_1 : Nat) (l0_1 : List (S96)) (r1 : List Int) (r2 : List (S96)) (w : World) (hr0_0 : Kd.C (Kd.int .u8) w A0_0 l0_0.length l0_0) (hc0_0 : l0_0.length ≤ c0_0) (hr0_1 : Kd.C k96 w A0_1 l0_1.length l0_1) (hc0_1 : l0_1.length ≤ c0_1) (h : spec_l11Copy.f k l0_0 l0_1 = some (r1, r2)) :
  Calls Try.prog 44 #[.agg #[.slice A0_0 l0_0.length c0_0, .slice A0_1 l0_1.length c0_1]] w fun e w' => ∃ v0_ v1_ : Value, e = .returned (.agg #[v0_, v1_]) ∧ Kd.R (Kd.int .u8) 5 w' w.heap.size (fun _ => True) v0_ r1 ∧ Kd.S k96 96 w' w.heap.size (fun k_ => some k_ ≠ (v0_ : Value).ownBlock) v1_ r2 ∧ Below w.heap.size w w' := by
 have hu31 := Try.underlying31
 have hu96 := Try.underlying96
 have HR0_0 := Ak hr0_0
 have HC0_0 := Ak hc0_0
 clear hr0_0 hc0_0
 have HR0_1 := Ak hr0_1
 have HC0_1 := Ak hc0_1
 clear hr0_1 hc0_1
 have HB := Ak (Below.refl w.heap.size w)
 have H := h
 unfold spec_l11Copy.f at H
 clear h
 obtain ⟨y307, hy307⟩ : ∃ y_ : List Int, y_ = (([] : List Int)) := ⟨_, rfl⟩
 replace H : (if y307.length + l0_0.length < 140737488355328 then (spec_l11Copy.l0 k 0 l0_0 l0_1 (y307 ++ l0_0) ([] : List (S96))) else (none)) = some (r1, r2) := by first | (rw [hy307]; with_reducible exact H) | (have H2_ := (Option.bind_some _ _).symm.trans H; rw [hy307]; with_reducible exact H2_) | (have H2_ := (Option.bind_some _ _).symm.trans H; with_reducible exact H2_) | with_reducible exact H | (rw [hy307]; exact H) | exact H
 have Ny307 := Ak hy307
 clear hy307
 by_cases c2 : y307.length + l0_0.length < 140737488355328
 ·rw [if_pos c2] at H
  have LMc2 := Ak c2
  clear c2
  generalize hy310 : (y307 ++ l0_0 : List Int) = y310 at H
  try rw [Option.bind_some] at H
  have Ny310 := Ak hy310.symm
  clear hy310
  have H' := Ak H
  clear H
  go_enter Try.func44, Try.ntmps44
  go_wp2_with (first | ((with_reducible refine gate_dst (N := 1) rfl ?_); refine box_event ?hg (N := 1) ?hd (cs := #[.slice A0_0 l0_0.length c0_0, .slice A0_1 l0_1.length c0_1]) (t := 31) ?hr ?_; (case hd => rfl); (case hg => rfl); (case hr => first | (go_simp; done) | (go_simp; rfl)); intro gb305 hg w3 hbox hb; have BK305 := Ak (hbox); have GW305 := Ak ((zb hg (bw HB.out))); have GE305 := Ak ((zb hg (bw HB.out))); replace HB := Ak (below_step (bw HB.out) hb); clear hb hbox hg) | ((with_reducible refine gate_dst (N := 2) rfl ?_); refine box_event ?hg (N := 2) ?hd (cs := #[.slice none 0 0, .slice none 0 0]) (t := 31) ?hr ?_; (case hd => rfl); (case hg => rfl); (case hr => first | (go_simp; done) | (go_simp; rfl)); intro gb306 hg w4 hbox hb; have BK306 := Ak (hbox); have GW306 := Ak ((zb hg (bw1 HB.out GE305.out))); have GE306 := Ak ((zb hg (bw1 HB.out GE305.out))); replace HB := Ak (below_step (bw1 HB.out GE305.out) hb); have NB305_306 := Ak ((zl hg (bq BK305.out))); have NB306_305 := Ak ((zm hg (bq BK305.out))); replace BK305 := Ak (blk_below (bq BK305.out) hb); clear hb hbox hg) | ((with_reducible refine gate_dst (N := 5) rfl ?_); refine Kd.R_lit (Kd.int .u8) _ 5 ?hg (N := 5) ?hd (xs := ([] : List Int)) (inner := []) (ok := fun _ => True) (okp := fun _ => True) ?hr ?hp (fun _ hk => hk) trivial (Below.refl _ _) (Nat.le_refl _) (by simp) ?_; (case hd => rfl); (case hg => rfl); (case hr => first | (go_simp; done) | (go_simp; rfl)); (case hp => exact (Reps.none _ _)); intro v308 w5 ho6 hb hg_ hnew_; clear hg_ hnew_; (first | rw [← Ny307.out] at ho6 | (simp only [Int.reduceToNat] at ho6; rw [← Ny307.out] at ho6)); have HO309 := Ak (Kd.R_lower ho6 (below_size (bw2 HB.out GE305.out GE306.out))); replace BK305 := Ak (blk_below (bq BK305.out) hb); replace BK306 := Ak (blk_below (bq BK306.out) hb); replace HB := Ak (below_step (bw2 HB.out GE305.out GE306.out) hb); clear hb ho6; have hnb7 := NB305_306.out; have hnc7 := NB306_305.out; have hcz8_0 := zk0 BK305.out; have hcz8_1 := zk1 BK305.out; have hfz8_0 := blk_frozen BK305.out 0; have hfz8_1 := blk_frozen BK305.out 1) | ((with_reducible refine gate_builtin (b := .append) (xs := #[.tmp 5, .tmp 7]) rfl ?_); at_builtin; refine Kd.R_append_rows (Kd.int .u8) (w0 := w) w.heap.size rfl (.tmp 5) (.tmp 7) 22 5 (.int .u8 0) 1 rfl Try.underlying22 info5 rfl (by decide) (by omega) v308 y307 l0_0 _ _ _ (fun _ => True) (fun _ => False) rfl rfl ?aO ?aR (fun _ _ h => h) (fun _ h => h.elim) ?aF ?aB ?aS ?aL ?_; (case aR => exact zq (Kd.C_below HR0_0.out HB.out)); (case aB => exact (bw2 HB.out GE305.out GE306.out)); (case aF => exact (fun _ _ => trivial)); (case aO => exact (rq HO309.out)); (case aS => exact (below_size (bw2 HB.out GE305.out GE306.out))); (case aL => have := LMc2.out; omega); intro v311 w9 ho hb hg hat; rw [← Ny310.out] at ho; replace BK305 := Ak (blk_grown (g := gb305) (o := .cells #[.slice A0_0 l0_0.length c0_0, .slice A0_1 l0_1.length c0_1] 31 (0, 0)) (bq BK305.out) hg (Kd.R_ne HO309.out BK305.out (by decide))); replace BK306 := Ak (blk_grown (g := gb306) (o := .cells #[.slice none 0 0, .slice none 0 0] 31 (0, 0)) (bq BK306.out) hg (Kd.R_ne HO309.out BK306.out (by decide))); replace HB := Ak (hb); have HO312 := Ak (ho); clear HO309; clear ho hb hg hat; obtain ⟨Ao10, co10, eo10⟩ := Kd.R_slice HO312.out; subst eo10) | ((with_reducible refine gate_dst (N := 3) rfl ?_); refine box_event ?hg (N := 3) ?hd (cs := #[.slice none 0 0, .slice none 0 0]) (t := 31) ?hr ?_; (case hd => rfl); (case hg => rfl); (case hr => first | (go_simp; done) | (go_simp; rfl)); intro gb313 hg w11 hbox hb; replace HO312 := Ak (Kd.R_below (rq HO312.out) hb); have BK313 := Ak (hbox); have GW313 := Ak ((zb hg (bw2 HB.out GE305.out GE306.out))); have GE313 := Ak ((zb hg (bw2 HB.out GE305.out GE306.out))); replace HB := Ak (below_step (bw2 HB.out GE305.out GE306.out) hb); have NB305_313 := Ak ((zl hg (bq BK305.out))); have NB313_305 := Ak ((zm hg (bq BK305.out))); replace BK305 := Ak (blk_below (bq BK305.out) hb); have NB306_313 := Ak ((zl hg (bq BK306.out))); have NB313_306 := Ak ((zm hg (bq BK306.out))); replace BK306 := Ak (blk_below (bq BK306.out) hb); clear hb hbox hg; have hnb12 := NB313_305.out; have hnc12 := NB305_313.out; have hnb13 := NB313_306.out; have hnc13 := NB306_313.out; have hcz14_0 := zk0 BK313.out; have hcz14_1 := zk1 BK313.out; have hfz14_0 := blk_frozen BK313.out 0; have hfz14_1 := blk_frozen BK313.out 1))
  go_loopg [4] k (fun kq v4 w' => ∃ (x4_1 : Int) (x314001_1 : List (S96)) (u314001 : Value), v4 = .int .i64 x4_1 ∧ Aside0 (spec_l11Copy.l0 kq x4_1 l0_0 l0_1 y310 x314001_1 = some (r1, r2)) ∧ Aside0 (kq ≤ k) ∧ Aside0 (Kd.R (Kd.int .u8) 5 w' w.heap.size (fun _ => True) (.slice Ao10 y310.length co10) y310) ∧ Aside0 (Kd.S k96 96 w' w.heap.size (fun k_ => some k_ ≠ ((.slice Ao10 y310.length co10) : Value).ownBlock) u314001 x314001_1) ∧ Aside0 (w'.heap[gb305]? = some (.cells #[(.slice A0_0 l0_0.length c0_0), (.slice A0_1 l0_1.length c0_1)] 31 (0, 0))) ∧ Aside0 (w'.heap[gb306]? = some (.cells #[(.slice none 0 0), (.slice none 0 0)] 31 (0, 0))) ∧ Aside0 (w'.heap[gb313]? = some (.cells #[(.slice Ao10 y310.length co10), u314001] 31 (0, 0))) ∧ Aside0 (Below w.heap.size w w'))
  case atStart => exact ⟨(0), (([] : List (S96))), (.slice none 0 0), (by first | rfl | (simp; done) | (simp [*]; done)), H', ⟨Nat.le_refl _⟩, ⟨by refine rq ?_; exact Kd.R_mono (Kd.R_far (p := ⟨gb313, 1, none⟩) (Kd.R_far (p := ⟨gb313, 0, none⟩) (Kd.R_types HO312.out BK313.out (by decide)) (fun _ hk => hk.2) (.slice Ao10 y310.length co10)) (fun _ hk => hk.2) (.slice none 0 0)) (fun _ hk => trivial)⟩, ⟨by first | exact Kd.S_nil _ _ _ _ _ | exact Kd.N_nil _ _ _ _ _ | exact Kd.V_nil _ _ _ _ _ | exact Kd.Q_nil _ _ _ _ _ | exact Kd.R_nil _ _ _ _ _⟩, ⟨by refine bq ?_; refine blk_far ?_ NB305_313.out _; refine bq ?_; refine blk_far ?_ NB305_313.out _; exact bq BK305.out⟩, ⟨by refine bq ?_; refine blk_far ?_ NB306_313.out _; refine bq ?_; refine blk_far ?_ NB306_313.out _; exact bq BK306.out⟩, ⟨by refine bq ?_; refine blk_put (cs := #[.slice Ao10 y310.length co10, .slice none 0 0]) ?_ 1 _ rfl; refine bq ?_; refine blk_put (cs := #[.slice none 0 0, .slice none 0 0]) ?_ 0 _ rfl; exact bq BK313.out⟩, ⟨bw3 HB.out GE305.out GE306.out GE313.out⟩⟩
  case round =>
   clear H'
   obtain ⟨x4_1, x314001_1, u314001, rfl, HA, HK1, HO_314000, HO_314001, BK305, BK306, BK313, HB⟩ := hrel
   cases gk with
   | zero => exact absurd HA.out (by simp [spec_l11Copy.l0])
   | succ k1 =>
    have H := HA.out
    clear HA
    simp only [spec_l11Copy.l0] at H
    by_cases c15 : x4_1 < (l0_1.length : Int)
    ·rw [if_pos c15] at H
     have c15b0 := decide_eq_true c15
     clear c15
     by_cases c16 : 0 ≤ x4_1
     ·rw [if_pos c16] at H
      have c16b0 := decide_eq_true c16
      clear c16
      obtain ⟨y315, hy315⟩ : ∃ y_ : List Int, y_ = (([] : List Int)) := ⟨_, rfl⟩
      replace H : (if y315.length + ((rd_T96 l0_1 x4_1).f1).length < 140737488355328 then (if x314001_1.length < 4398046511104 then (spec_l11Copy.l0 k1 (wrap64 (x4_1 + 1)) l0_0 l0_1 y310 (x314001_1 ++ [(⟨(rd_T96 l0_1 x4_1).f0, (y315 ++ ((rd_T96 l0_1 x4_1).f1))⟩ : S96)])) else (none)) else (none)) = some (r1, r2) := by first | (rw [hy315]; with_reducible exact H) | (have H2_ := (Option.bind_some _ _).symm.trans H; rw [hy315]; with_reducible exact H2_) | (have H2_ := (Option.bind_some _ _).symm.trans H; with_reducible exact H2_) | with_reducible exact H | (rw [hy315]; exact H) | exact H
      have Ny315 := Ak hy315
      clear hy315
      by_cases c17 : y315.length + ((rd_T96 l0_1 x4_1).f1).length < 140737488355328
      ·rw [if_pos c17] at H
       have LMc17 := Ak c17
       clear c17
       generalize hy319 : (y315 ++ ((rd_T96 l0_1 x4_1).f1) : List Int) = y319 at H
       try rw [Option.bind_some] at H
       have Ny319 := Ak hy319.symm
       clear hy319
       by_cases c18 : x314001_1.length < 4398046511104
       ·rw [if_pos c18] at H
        have LMc18 := Ak c18
        clear c18
        generalize hy322 : (x314001_1 ++ [(⟨(rd_T96 l0_1 x4_1).f0, y319⟩ : S96)] : List (S96)) = y322 at H
        try rw [Option.bind_some] at H
        have Ny322 := Ak hy322.symm
        clear hy322
        have H' := Ak H
        clear H
        have hnb19 := NB305_306.out
        have hnc19 := NB306_305.out
        have hnb20 := NB305_313.out
        have hnc20 := NB313_305.out
        have hcz21_0 : wr.cell? ⟨gb305, 0, none⟩ = some (.slice A0_0 l0_0.length c0_0) := zk0 BK305.out
        have hcz21_1 : wr.cell? ⟨gb305, 1, none⟩ = some (.slice A0_1 l0_1.length c0_1) := zk1 BK305.out
        have hfz21_0 := blk_frozen BK305.out 0
        have hfz21_1 := blk_frozen BK305.out 1
        try go_wp2
        replace HO_314000 := Ak (Kd.R_drew HO_314000.out)
        replace HO_314001 := Ak (Kd.S_drew HO_314001.out)
        replace BK305 := Ak (blk_drew BK305.out)
        replace BK306 := Ak (blk_drew BK306.out)
        replace BK313 := Ak (blk_drew BK313.out)
        replace HB := Ak (below_drew1 HB.out)
        have p314 : 0 ≤ (x4_1 : Int) := of_decide_eq_true (by first | (with_reducible assumption) | assumption)
        have q314 : x4_1 < (l0_1.length : Int) := of_decide_eq_true (by first | (with_reducible assumption) | assumption)
        obtain ⟨ad314, A314_1, c314_1, e314, hx314_0, hx314_1, hl314_1, hi314_1⟩ := at_T96 HR0_1.out x4_1 p314 q314
        have hw314_1 := hx314_1
        have hw314_0 := hx314_0
        cases e314
        replace hx314_0 := (HB.out.cell (World.block_lt_of_cell? w _ hx314_0)).trans hx314_0
        replace hx314_1 := (HB.out.cell (World.block_lt_of_cell? w _ hx314_1)).trans hx314_1
        have HR314_1 := Ak hi314_1
        have HC314_1 := Ak hl314_1
        clear hi314_1 hl314_1
        replace p314 := eq_true p314
        replace q314 := eq_true q314
        have p318 : 0 ≤ (x4_1 : Int) := of_decide_eq_true (by first | (with_reducible assumption) | assumption)
        have q318 : x4_1 < (l0_1.length : Int) := of_decide_eq_true (by first | (with_reducible assumption) | assumption)
        obtain ⟨ad318, A318_1, c318_1, e318, hx318_0, hx318_1, hl318_1, hi318_1⟩ := at_T96 HR0_1.out x4_1 p318 q318
        have hw318_1 := hx318_1
        have hw318_0 := hx318_0
        obtain rfl : ad314 = ad318 := (by injection e318)
        replace hx318_0 := (HB.out.cell (World.block_lt_of_cell? w _ hx318_0)).trans hx318_0
        replace hx318_1 := (HB.out.cell (World.block_lt_of_cell? w _ hx318_1)).trans hx318_1
        have HR318_1 := Ak hi318_1
        have HC318_1 := Ak hl318_1
        clear hi318_1 hl318_1
        replace p318 := eq_true p318
        replace q318 := eq_true q318
        have ea_ := Option.some.inj (hx314_1.symm.trans hx318_1)
        injection ea_ with ea_ en_ ec_
        subst ea_
        subst ec_
        clear en_
        refine start_ (n := 21) (S := fun w' => w'.cell? ⟨gb313, 0, none⟩ = some (.slice Ao10 y310.length co10) ∧ w'.cell? ⟨gb313, 1, none⟩ = some (u314001) ∧ w'.cell? ⟨gb305, 0, none⟩ = some (.slice A0_0 l0_0.length c0_0) ∧ w'.cell? ⟨gb305, 1, none⟩ = some (.slice (some ad314) l0_1.length c0_1) ∧ w'.cell? (ad314.add ((x4_1).toNat * 2)) = some (.int .i64 ((rd_T96 l0_1 x4_1).f0)) ∧ w'.cell? ⟨(ad314.add ((x4_1).toNat * 2)).block, (ad314.add ((x4_1).toNat * 2)).off + 1, none⟩ = some (.slice A314_1 ((rd_T96 l0_1 x4_1).f1).length c314_1) ∧ w'.cell? (ad314.add ((x4_1).toNat * 2)) = some (.int .i64 ((rd_T96 l0_1 x4_1).f0)) ∧ w'.cell? ⟨(ad314.add ((x4_1).toNat * 2)).block, (ad314.add ((x4_1).toNat * 2)).off + 1, none⟩ = some (.slice A314_1 ((rd_T96 l0_1 x4_1).f1).length c314_1)) (ds := [20]) #[false, false, false, false, false, false, false, false, false, false, false, false, false, false, false, false, false, false, false, false, false] (by kernel_rfl) rfl rfl ⟨zk0 BK313.out, zk1 BK313.out, zk0 BK305.out, zk1 BK305.out, ((HB.out.cell (World.block_lt_of_cell? w _ hw314_0)).trans hw314_0), ((HB.out.cell (World.block_lt_of_cell? w _ hw314_1)).trans hw314_1), ((HB.out.cell (World.block_lt_of_cell? w _ hw318_0)).trans hw318_0), ((HB.out.cell (World.block_lt_of_cell? w _ hw318_1)).trans hw318_1)⟩ (fun hHeld => ?_); refine with_tabW spec_l11Copy.tab5 spec_l11Copy.bits5 (fun HT_ HW_ => ?_)
        generalize wr.drew = w22 at HO_314000 HO_314001 BK305 BK306 BK313 HB HR314_1 HR318_1 hx314_0 hx314_1 hx318_0 hx318_1 hHeld ⊢
        refine puT 0 17 HT_ (h := ?_)
        refine puT 2 19 HT_ (h := ?_)
        refine puT 4 21 HT_ (h := ?_)
        refine puT 9 26 HT_ (h := ?_)
        refine puT 11 28 HT_ (h := ?_)
        refine taT 1 18 HT_ HW_ hHeld (h := ?_)
        refine taT 3 20 HT_ HW_ hHeld (h := ?_)
        refine puT 5 22 HT_ (h := ?_)
        refine puT 6 23 HT_ (h := ?_)
        refine taT 7 24 HT_ HW_ hHeld (h := ?_)
        refine taT 10 27 HT_ HW_ hHeld (h := ?_)
        refine puT 12 29 HT_ (h := ?_)
        refine puT 13 30 HT_ (h := ?_)
        refine taT 14 31 HT_ HW_ hHeld (h := ?_)
        refine onT 8 (some 25) HT_ (h := fun K hK => ?_)
        refine Kd.R_lit_step (Kd.int .u8) _ 5 ?hg (N := 25) ?hd (xs := ([] : List Int)) (inner := []) (ok := fun _ => True) (okp := fun _ => True) ?hr ?hp (fun _ hk => hk) trivial (Below.refl _ _) (Nat.le_refl _) (by simp) ?_; (case hd => rfl); (case hg => rfl); (case hr => first | (go_simp; done) | (go_simp; rfl)); (case hp => exact (Reps.none _ _))
        intro v316 w23 ho24 hb hg_ hnew_
        clear hg_ hnew_
        (first | rw [← Ny315.out] at ho24 | (simp only [Int.reduceToNat] at ho24; rw [← Ny315.out] at ho24))
        replace HO_314001 := Ak (Kd.S_elder' (sq HO_314001.out) (Kd.R_base ho24) hb)
        have HO317 := Ak (Kd.R_lower (Kd.R_new' ho24 (Kd.R_lt (rq HO_314000.out))) (below_size (bw3 HB.out GE305.out GE306.out GE313.out)))
        replace HO_314000 := Ak (Kd.R_elder' (rq HO_314000.out) (Kd.R_base ho24) hb)
        replace BK305 := Ak (blk_below (bq BK305.out) hb)
        replace BK306 := Ak (blk_below (bq BK306.out) hb)
        replace BK313 := Ak (blk_below (bq BK313.out) hb)
        replace HB := Ak (below_step (bw3 HB.out GE305.out GE306.out GE313.out) hb)
        clear hb ho24
        refine hK.out _ _ ⟨zk0 BK313.out, zk1 BK313.out, zk0 BK305.out, zk1 BK305.out, ((HB.out.cell (World.block_lt_of_cell? w _ hw314_0)).trans hw314_0), ((HB.out.cell (World.block_lt_of_cell? w _ hw314_1)).trans hw314_1), ((HB.out.cell (World.block_lt_of_cell? w _ hw318_0)).trans hw318_0), ((HB.out.cell (World.block_lt_of_cell? w _ hw318_1)).trans hw318_1)⟩ (fun hHeld => ?_)
        clear hK K
        refine norm_ (a' := ?_) ?_ ?_
        rotate_left
        ·show Act.put _ (some 25) _ = _
         simp only [Act.put, sT, sZ, sS, i64_w, i32_w]
         rfl
        refine onT 15 (some 32) HT_ (h := fun K hK => ?_)
        refine Kd.R_append_rows_step (Kd.int .u8) (w0 := w) w.heap.size (by rfl) (.tmp 25) (.tmp 31) 22 5 (.int .u8 0) 1 rfl Try.underlying22 info5 rfl (by decide) (by omega) v316 y315 ((rd_T96 l0_1 x4_1).f1) _ _ _ (fun k_ => Nb k_ (.slice Ao10 y310.length co10)) (fun _ => False) rfl rfl ?aO ?aR (fun _ _ h => h) (fun _ h => h.elim) ?aF ?aB ?aS ?aL ?_
        (case aR => exact zq (Kd.C_below HR318_1.out HB.out))
        (case aB => exact (bw3 HB.out GE305.out GE306.out GE313.out))
        (case aF => exact (fun k_ hk => Kd.fresh' (Kd.R_lt (rq HO_314000.out)) k_ hk))
        (case aO => exact (by refine rq ?_; exact Kd.R_mono HO317.out (fun _ hk => hk.2)))
        (case aS => exact (below_size (bw3 HB.out GE305.out GE306.out GE313.out)))
        (case aL => have := LMc17.out; omega)
        intro v320 w25 ho hb hg hat
        rw [← Ny319.out] at ho
        replace HO_314000 := Ak (Kd.R_after (ok := (fun _ => True)) (rq HO_314000.out) hg hat)
        replace HO_314001 := Ak (Kd.S_after (ok := (fun k_ => Nb k_ (.slice Ao10 y310.length co10))) (sq HO_314001.out) hg hat)
        replace BK305 := Ak (blk_grown (g := gb305) (o := .cells #[.slice A0_0 l0_0.length c0_0, .slice (some ad314) l0_1.length c0_1] 31 (0, 0)) (bq BK305.out) hg (Kd.R_ne HO317.out BK305.out (by decide)))
        replace BK306 := Ak (blk_grown (g := gb306) (o := .cells #[.slice none 0 0, .slice none 0 0] 31 (0, 0)) (bq BK306.out) hg (Kd.R_ne HO317.out BK306.out (by decide)))
        replace BK313 := Ak (blk_grown (g := gb313) (o := .cells #[.slice Ao10 y310.length co10, u314001] 31 (0, 0)) (bq BK313.out) hg (Kd.R_ne HO317.out BK313.out (by decide)))
        replace HB := Ak (hb)
        have HO321 := Ak (ho)
        clear HO317
        clear ho hb hg hat
        obtain ⟨Ao26, co26, eo26⟩ := Kd.R_slice HO321.out
        (first | subst eo26 | (injection eo26 with f1_ f2_ f3_; have f4_ := f1_.symm; have f5_ := f3_.symm; clear f1_ f2_ f3_; subst f4_; subst f5_))
        refine hK.out _ _ ⟨zk0 BK313.out, zk1 BK313.out, zk0 BK305.out, zk1 BK305.out, ((HB.out.cell (World.block_lt_of_cell? w _ hw314_0)).trans hw314_0), ((HB.out.cell (World.block_lt_of_cell? w _ hw314_1)).trans hw314_1), ((HB.out.cell (World.block_lt_of_cell? w _ hw318_0)).trans hw318_0), ((HB.out.cell (World.block_lt_of_cell? w _ hw318_1)).trans hw318_1)⟩ (fun hHeld => ?_)
        clear hK K
        refine norm_ (a' := ?_) ?_ ?_
        rotate_left
        ·show Act.put _ (some 32) _ = _
         simp only [Act.put, sT, sZ, sS, i64_w, i32_w]
         rfl
        refine puT 16 33 HT_ (h := ?_)
        refine onT 17 (some 34) HT_ (h := fun K hK => ?_)
        refine value_ (w1 := ?_) (v := ?_) (by rfl) rfl ?_ ?_
        rotate_left 2
        ·go_simp
         constructor
         ·rfl
         ·rfl
        refine hK.out _ _ ⟨(blk_cell (blk_alloc BK313.out _) 0).trans rfl, (blk_cell (blk_alloc BK313.out _) 1).trans rfl, (blk_cell (blk_alloc BK305.out _) 0).trans rfl, (blk_cell (blk_alloc BK305.out _) 1).trans rfl, (World.cell?_alloc_lt _ _ _ (World.block_lt_of_cell? _ _ (((HB.out.cell (World.block_lt_of_cell? w _ hw314_0)).trans hw314_0)))).trans (((HB.out.cell (World.block_lt_of_cell? w _ hw314_0)).trans hw314_0)), (World.cell?_alloc_lt _ _ _ (World.block_lt_of_cell? _ _ (((HB.out.cell (World.block_lt_of_cell? w _ hw314_1)).trans hw314_1)))).trans (((HB.out.cell (World.block_lt_of_cell? w _ hw314_1)).trans hw314_1)), (World.cell?_alloc_lt _ _ _ (World.block_lt_of_cell? _ _ (((HB.out.cell (World.block_lt_of_cell? w _ hw318_0)).trans hw318_0)))).trans (((HB.out.cell (World.block_lt_of_cell? w _ hw318_0)).trans hw318_0)), (World.cell?_alloc_lt _ _ _ (World.block_lt_of_cell? _ _ (((HB.out.cell (World.block_lt_of_cell? w _ hw318_1)).trans hw318_1)))).trans (((HB.out.cell (World.block_lt_of_cell? w _ hw318_1)).trans hw318_1))⟩ (fun hHeld => ?_)
        clear hK K
        refine norm_ (a' := ?_) ?_ ?_
        rotate_left
        ·show Act.put _ (some 34) _ = _
         simp only [Act.put, sT, sZ, sS, i64_w, i32_w]
         rfl
        refine onT 18 (some 35) HT_ (h := fun K hK => ?_)
        refine Kd.S_append_step k96 (w0 := w) w.heap.size (by rfl) (.tmp 18) (.tmp 34) 29 96 (.agg #[(.int .i64 0), (.slice none 0 0)]) 32 rfl Try.underlying29 info96 rfl (by decide) (by omega) u314001 x314001_1 (⟨(rd_T96 l0_1 x4_1).f0, y319⟩ : S96) [.int .i64 ((rd_T96 l0_1 x4_1).f0), .slice Ao26 y319.length co26] (fun k_ => Nb k_ (.slice Ao10 y310.length co10)) (fun k_ => some k_ = (.slice Ao26 y319.length co26 : Value).ownBlock) rfl rfl ?aP (fun k_ hk_ => ((Kd.R_mono (ok' := fun k_ => ((fun k_ => Nb k_ (.slice Ao10 y310.length co10))) k_ ∧ some k_ ≠ (u314001 : Value).ownBlock) (Kd.R_apart' (HO321.out) (Kd.S_typed HO_314001.out) (by decide)) (fun k_ hk => ⟨hk.1, hk.2⟩))).1 k_ hk_.symm) ?aF ?aO ?aB ?aS ?aL ?_
        (case aP => exact k96_mkM _ _ _ (⟨(rd_T96 l0_1 x4_1).f0, y319⟩ : S96) (Kd.R_mono (Kd.R_tight rfl (Kd.R_mono (ok' := fun k_ => ((fun k_ => Nb k_ (.slice Ao10 y310.length co10))) k_ ∧ some k_ ≠ (u314001 : Value).ownBlock) (Kd.R_apart' (HO321.out) (Kd.S_typed HO_314001.out) (by decide)) (fun k_ hk => ⟨hk.1, hk.2⟩))) (fun _ h_ => h_)))
        (case aB => exact (bw3 HB.out GE305.out GE306.out GE313.out))
        (case aF => exact (fun k_ hk => Kd.fresh' (Kd.R_lt (rq HO_314000.out)) k_ hk))
        (case aO => exact (by refine sq ?_; exact Kd.S_mono HO_314001.out (fun k_ hk => ⟨hk.1, fun e_ => hk.2 e_⟩)))
        (case aS => exact (below_size (bw3 HB.out GE305.out GE306.out GE313.out)))
        (case aL => have := LMc18.out; omega)
        intro v323 w27 ho hb hg hat
        rw [← Ny322.out] at ho
        replace HO_314000 := Ak (Kd.R_over' (rq HO_314000.out) (Kd.S_typed (sq HO_314001.out)) (by decide) hg)
        replace BK305 := Ak (blk_grown (g := gb305) (o := .cells #[.slice A0_0 l0_0.length c0_0, .slice (some ad314) l0_1.length c0_1] 31 (0, 0)) (bq BK305.out) hg (Kd.S_ne HO_314001.out BK305.out (by decide)))
        replace BK306 := Ak (blk_grown (g := gb306) (o := .cells #[.slice none 0 0, .slice none 0 0] 31 (0, 0)) (bq BK306.out) hg (Kd.S_ne HO_314001.out BK306.out (by decide)))
        replace BK313 := Ak (blk_grown (g := gb313) (o := .cells #[.slice Ao10 y310.length co10, u314001] 31 (0, 0)) (bq BK313.out) hg (Kd.S_ne HO_314001.out BK313.out (by decide)))
        replace HB := Ak (hb)
        have HO324 := Ak (ho)
        clear HO_314001 HO321
        clear ho hb hg hat
        obtain ⟨Ao28, co28, eo28⟩ := Kd.S_slice HO324.out
        (first | subst eo28 | (injection eo28 with f1_ f2_ f3_; have f4_ := f1_.symm; have f5_ := f3_.symm; clear f1_ f2_ f3_; subst f4_; subst f5_))
        refine hK.out _ _ ⟨zk0 BK313.out, zk1 BK313.out, zk0 BK305.out, zk1 BK305.out, ((HB.out.cell (World.block_lt_of_cell? w _ hw314_0)).trans hw314_0), ((HB.out.cell (World.block_lt_of_cell? w _ hw314_1)).trans hw314_1), ((HB.out.cell (World.block_lt_of_cell? w _ hw318_0)).trans hw318_0), ((HB.out.cell (World.block_lt_of_cell? w _ hw318_1)).trans hw318_1)⟩ (fun hHeld => ?_)
        clear hK K
        refine norm_ (a' := ?_) ?_ ?_
        rotate_left
        ·show Act.put _ (some 35) _ = _
         simp only [Act.put, sT, sZ, sS, i64_w, i32_w]
         rfl
        refine puT 19 36 HT_ (h := ?_)
        refine laT 20 none HT_ (h := fun K hK => ?_)
        have hs29 := zk1 BK313.out
        have hfs29 := blk_frozen BK313.out 1
        have hns29_0 := NB305_313.out
        have hns29_1 := NB306_313.out
        have hms29_0 := NB313_305.out
        have hms29_1 := NB313_306.out
        refine skip_ (w1 := ?_) (by rfl) rfl ?_ ?_
        rotate_left
        ·go_simp
         rfl
        refine hK.out _ _ ?_
        clear hK K
        refine done_ (done_of HT_.out (by kernel_rfl)) ?_
        try go_wp2
        go_roundg k1
        case measure => have := HK1.out; omega
        case rel => exact ⟨(wrap64 (x4_1 + 1)), (y322), (.slice Ao28 y322.length co28), (by first | rfl | (simp; done) | (simp [*]; done)), H', ⟨by have := HK1.out; omega⟩, ⟨by refine rq ?_; exact Kd.R_mono (Kd.R_far (p := ⟨gb313, 1, none⟩) (Kd.R_types HO_314000.out BK313.out (by decide)) (fun _ hk => hk.2) (.slice Ao28 y322.length co28)) (fun _ hk => trivial)⟩, ⟨by refine sq ?_; exact Kd.S_mono (Kd.S_far (p := ⟨gb313, 1, none⟩) (Kd.S_types HO324.out BK313.out (by decide)) (fun _ hk => hk.2) (.slice Ao28 y322.length co28)) (fun _ hk => hk.1)⟩, ⟨by refine bq ?_; refine blk_far ?_ NB305_313.out _; exact bq BK305.out⟩, ⟨by refine bq ?_; refine blk_far ?_ NB306_313.out _; exact bq BK306.out⟩, ⟨by refine bq ?_; refine blk_put (cs := #[.slice Ao10 y310.length co10, u314001]) ?_ 1 _ rfl; exact bq BK313.out⟩, ⟨bw3 HB.out GE305.out GE306.out GE313.out⟩⟩
       ·rw [if_neg c18] at H
        exact absurd H (by simp)
      ·rw [if_neg c17] at H
       exact absurd H (by simp)
     ·rw [if_neg c16] at H
      exact absurd H (by simp)
    ·rw [if_neg c15] at H
     have c15b0 := decide_eq_false c15
     clear c15
     simp only [Option.some.injEq, Prod.mk.injEq] at H
     obtain ⟨rfl, rfl⟩ := H
     have hnb30 := NB305_306.out
     have hnc30 := NB306_305.out
     have hnb31 := NB305_313.out
     have hnc31 := NB313_305.out
     have hcz32_0 : wr.cell? ⟨gb305, 0, none⟩ = some (.slice A0_0 l0_0.length c0_0) := zk0 BK305.out
     have hcz32_1 : wr.cell? ⟨gb305, 1, none⟩ = some (.slice A0_1 l0_1.length c0_1) := zk1 BK305.out
     have hfz32_0 := blk_frozen BK305.out 0
     have hfz32_1 := blk_frozen BK305.out 1
     have hnb33 := NB313_306.out
     have hnc33 := NB306_313.out
     have hcz34_0 : wr.cell? ⟨gb313, 0, none⟩ = some (.slice Ao10 y310.length co10) := zk0 BK313.out
     have hcz34_1 : wr.cell? ⟨gb313, 1, none⟩ = some (u314001) := zk1 BK313.out
     have hfz34_0 := blk_frozen BK313.out 0
     have hfz34_1 := blk_frozen BK313.out 1
     have hcz35_0 : wr.cell? ⟨gb306, 0, none⟩ = some (.slice none 0 0) := zk0 BK306.out
     have hcz35_1 : wr.cell? ⟨gb306, 1, none⟩ = some (.slice none 0 0) := zk1 BK306.out
     have hfz35_0 := blk_frozen BK306.out 0
     have hfz35_1 := blk_frozen BK306.out 1
     obtain ⟨Ao36, co36, eo36⟩ := Kd.S_slice HO_314001.out
     subst eo36
     go_wp2
     refine bodyPost_ret (results_cell_row rfl _ _ gb306 31 #[.slice Ao10 y310.length co10, .slice Ao36 x314001_1.length co36] (0, 0) _ rfl (by refine bq ?_; refine blk_put (cs := #[.slice Ao10 y310.length co10, .slice none 0 0]) ?_ 1 _ rfl; refine bq ?_; refine blk_put (cs := #[.slice none 0 0, .slice none 0 0]) ?_ 0 _ rfl; exact bq BK306.out) Try.underlying31 rfl (by kernel_rfl)) rfl ?_
     exact ⟨_, _, zw, by refine rq ?_; exact Kd.R_mono (Kd.R_far (p := ⟨gb306, 1, none⟩) (Kd.R_far (p := ⟨gb306, 0, none⟩) (Kd.R_types HO_314000.out BK306.out (by decide)) (fun _ hk => hk.2) (.slice Ao10 y310.length co10)) (fun _ hk => hk.2) (.slice Ao36 x314001_1.length co36)) (fun _ hk => trivial), by refine sq ?_; exact Kd.S_mono (Kd.S_far (p := ⟨gb306, 1, none⟩) (Kd.S_far (p := ⟨gb306, 0, none⟩) (Kd.S_types HO_314001.out BK306.out (by decide)) (fun _ hk => hk.2) (.slice Ao10 y310.length co10)) (fun _ hk => hk.2) (.slice Ao36 x314001_1.length co36)) (fun _ hk => hk.1), bw3 HB.out GE305.out GE306.out GE313.out⟩
 ·rw [if_neg c2] at H
  exact absurd H (by simp)

def spec_l12Fine.f (a0_0 : Int) (a0_1 : Int) (a0_2 : Int) (a0_3 : Int) : Option (Bool) := (spec_l1In.f a0_0 0 a0_1).bind fun t326 => (if t326 = true then (if a0_1 < 400 then ((spec_l1In.f a0_2 0 (wrap64 ((wrap64 (a0_1 - a0_0)) + 1))).bind fun t327 => (if t327 = true then ((spec_l1In.f a0_3 1 1000000).bind fun t328 => (some t328)) else (some false))) else (some false)) else (some false))
set_option maxHeartbeats 8000000 in
set_option maxRecDepth 100000 in
theorem spec_l12Fine.calls (a0_0 : Int) (a0_1 : Int) (a0_2 : Int) (a0_3 : Int) (r : Bool) (w : World) (h : spec_l12Fine.f a0_0 a0_1 a0_2 a0_3 = some r) :
  Calls Try.prog 93 #[.agg #[.int .i64 a0_0, .int .i64 a0_1, .int .i64 a0_2, .int .i64 a0_3]] w fun e w' => e = .returned (.bool r) ∧ Below w.heap.size w w' := by
 have hu32 := Try.underlying32
 have HB := Ak (Below.refl w.heap.size w)
 have H := h
 unfold spec_l12Fine.f at H
 clear h
 replace H := Option.bind_eq_some_iff.mp H
 obtain ⟨t326, A20, H⟩ := H
 have A2 := Ak A20
 clear A20
 by_cases c3 : t326 = true
 ·subst c3
  rw [if_pos rfl] at H
  by_cases c4 : a0_1 < 400
  ·rw [if_pos c4] at H
   have c4b0 := decide_eq_true c4
   clear c4
   replace H := Option.bind_eq_some_iff.mp H
   obtain ⟨t327, A50, H⟩ := H
   have A5 := Ak A50
   clear A50
   by_cases c6 : t327 = true
   ·subst c6
    rw [if_pos rfl] at H
    replace H := Option.bind_eq_some_iff.mp H
    obtain ⟨t328, A70, H⟩ := H
    have A7 := Ak A70
    clear A70
    obtain rfl := Option.some.inj H
    go_enter Try.func93, Try.ntmps93
    go_wp2_with (first | ((with_reducible refine gate_dst (N := 1) rfl ?_); refine box_event ?hg (N := 1) ?hd (cs := #[.int .i64 a0_0, .int .i64 a0_1, .int .i64 a0_2, .int .i64 a0_3]) (t := 32) ?hr ?_; (case hd => rfl); (case hg => rfl); (case hr => first | (go_simp; done) | (go_simp; rfl)); intro gb325 hg w8 hbox hb; have BK325 := Ak (hbox); have GW325 := Ak ((zb hg (bw HB.out))); have GE325 := Ak ((zb hg (bw HB.out))); replace HB := Ak (below_step (bw HB.out) hb); clear hb hbox hg; have hcz9_0 := zk0 BK325.out; have hcz9_1 := zk1 BK325.out; have hcz9_2 := zk2 BK325.out; have hcz9_3 := zk3 BK325.out; have hfz9_0 := blk_frozen BK325.out 0; have hfz9_1 := blk_frozen BK325.out 1; have hfz9_2 := blk_frozen BK325.out 2; have hfz9_3 := blk_frozen BK325.out 3) | ((with_reducible refine gate_callee (f := 97) rfl ?_); refine goesL_ (some 7) rfl rfl Try.func97 (by kernel_rfl) rfl #[.int .i64 a0_0, .int .i64 0, .int .i64 a0_1] rfl gm ?_; (with_reducible refine (spec_l1In.calls a0_0 0 a0_1 true _ A2.out).mono ?_); rintro e w' ⟨rfl, ⟨nd, rfl⟩⟩; refine ⟨_, rfl, ?_⟩) | (go_at_call 97; (with_reducible refine (spec_l1In.calls a0_2 0 (wrap64 ((wrap64 (a0_1 - a0_0)) + 1)) true _ A5.out).mono ?_); rintro e w' ⟨rfl, ⟨nd, rfl⟩⟩) | (go_at_call 97; (with_reducible refine (spec_l1In.calls a0_3 1 1000000 t328 _ A7.out).mono ?_); rintro e w' ⟨rfl, ⟨nd, rfl⟩⟩))
    go_ret
    exact ⟨zw, bw1 HB.out GE325.out⟩
   ·replace c6 := Bool.eq_false_iff.mpr c6
    subst c6
    rw [if_neg (show ¬ (false = true) by decide)] at H
    obtain rfl := Option.some.inj H
    go_enter Try.func93, Try.ntmps93
    go_wp2_with (first | ((with_reducible refine gate_dst (N := 1) rfl ?_); refine box_event ?hg (N := 1) ?hd (cs := #[.int .i64 a0_0, .int .i64 a0_1, .int .i64 a0_2, .int .i64 a0_3]) (t := 32) ?hr ?_; (case hd => rfl); (case hg => rfl); (case hr => first | (go_simp; done) | (go_simp; rfl)); intro gb325 hg w10 hbox hb; have BK325 := Ak (hbox); have GW325 := Ak ((zb hg (bw HB.out))); have GE325 := Ak ((zb hg (bw HB.out))); replace HB := Ak (below_step (bw HB.out) hb); clear hb hbox hg; have hcz11_0 := zk0 BK325.out; have hcz11_1 := zk1 BK325.out; have hcz11_2 := zk2 BK325.out; have hcz11_3 := zk3 BK325.out; have hfz11_0 := blk_frozen BK325.out 0; have hfz11_1 := blk_frozen BK325.out 1; have hfz11_2 := blk_frozen BK325.out 2; have hfz11_3 := blk_frozen BK325.out 3) | ((with_reducible refine gate_callee (f := 97) rfl ?_); refine goesL_ (some 7) rfl rfl Try.func97 (by kernel_rfl) rfl #[.int .i64 a0_0, .int .i64 0, .int .i64 a0_1] rfl gm ?_; (with_reducible refine (spec_l1In.calls a0_0 0 a0_1 true _ A2.out).mono ?_); rintro e w' ⟨rfl, ⟨nd, rfl⟩⟩; refine ⟨_, rfl, ?_⟩) | (go_at_call 97; (with_reducible refine (spec_l1In.calls a0_2 0 (wrap64 ((wrap64 (a0_1 - a0_0)) + 1)) false _ A5.out).mono ?_); rintro e w' ⟨rfl, ⟨nd, rfl⟩⟩))
    go_ret
    exact ⟨zw, bw1 HB.out GE325.out⟩
  ·rw [if_neg c4] at H
   have c4b0 := decide_eq_false c4
   clear c4
   obtain rfl := Option.some.inj H
   go_enter Try.func93, Try.ntmps93
   go_wp2_with (first | ((with_reducible refine gate_dst (N := 1) rfl ?_); refine box_event ?hg (N := 1) ?hd (cs := #[.int .i64 a0_0, .int .i64 a0_1, .int .i64 a0_2, .int .i64 a0_3]) (t := 32) ?hr ?_; (case hd => rfl); (case hg => rfl); (case hr => first | (go_simp; done) | (go_simp; rfl)); intro gb325 hg w12 hbox hb; have BK325 := Ak (hbox); have GW325 := Ak ((zb hg (bw HB.out))); have GE325 := Ak ((zb hg (bw HB.out))); replace HB := Ak (below_step (bw HB.out) hb); clear hb hbox hg; have hcz13_0 := zk0 BK325.out; have hcz13_1 := zk1 BK325.out; have hcz13_2 := zk2 BK325.out; have hcz13_3 := zk3 BK325.out; have hfz13_0 := blk_frozen BK325.out 0; have hfz13_1 := blk_frozen BK325.out 1; have hfz13_2 := blk_frozen BK325.out 2; have hfz13_3 := blk_frozen BK325.out 3) | ((with_reducible refine gate_callee (f := 97) rfl ?_); refine goesL_ (some 7) rfl rfl Try.func97 (by kernel_rfl) rfl #[.int .i64 a0_0, .int .i64 0, .int .i64 a0_1] rfl gm ?_; (with_reducible refine (spec_l1In.calls a0_0 0 a0_1 true _ A2.out).mono ?_); rintro e w' ⟨rfl, ⟨nd, rfl⟩⟩; refine ⟨_, rfl, ?_⟩))
   go_ret
   exact ⟨zw, bw1 HB.out GE325.out⟩
 ·replace c3 := Bool.eq_false_iff.mpr c3
  subst c3
  rw [if_neg (show ¬ (false = true) by decide)] at H
  obtain rfl := Option.some.inj H
  go_enter Try.func93, Try.ntmps93
  go_wp2_with (first | ((with_reducible refine gate_dst (N := 1) rfl ?_); refine box_event ?hg (N := 1) ?hd (cs := #[.int .i64 a0_0, .int .i64 a0_1, .int .i64 a0_2, .int .i64 a0_3]) (t := 32) ?hr ?_; (case hd => rfl); (case hg => rfl); (case hr => first | (go_simp; done) | (go_simp; rfl)); intro gb325 hg w14 hbox hb; have BK325 := Ak (hbox); have GW325 := Ak ((zb hg (bw HB.out))); have GE325 := Ak ((zb hg (bw HB.out))); replace HB := Ak (below_step (bw HB.out) hb); clear hb hbox hg; have hcz15_0 := zk0 BK325.out; have hcz15_1 := zk1 BK325.out; have hcz15_2 := zk2 BK325.out; have hcz15_3 := zk3 BK325.out; have hfz15_0 := blk_frozen BK325.out 0; have hfz15_1 := blk_frozen BK325.out 1; have hfz15_2 := blk_frozen BK325.out 2; have hfz15_3 := blk_frozen BK325.out 3) | ((with_reducible refine gate_callee (f := 97) rfl ?_); refine goesL_ (some 7) rfl rfl Try.func97 (by kernel_rfl) rfl #[.int .i64 a0_0, .int .i64 0, .int .i64 a0_1] rfl gm ?_; (with_reducible refine (spec_l1In.calls a0_0 0 a0_1 false _ A2.out).mono ?_); rintro e w' ⟨rfl, ⟨nd, rfl⟩⟩; refine ⟨_, rfl, ?_⟩))
  go_ret
  exact ⟨zw, bw1 HB.out GE325.out⟩

def spec_LogRoom.f (a0_0 : Int) (a0_1 : Int) (a0_2 : Int) (a0_3 : Int) : Option (Int) := if (wrap64 ((wrap64 ((wrap64 (a0_1 - a0_0)) + 1)) - a0_2)) < 0 then (some 0) else (some (wrap64 ((wrap64 ((wrap64 (a0_1 - a0_0)) + 1)) - a0_2)))
set_option maxHeartbeats 8000000 in
set_option maxRecDepth 100000 in
theorem spec_LogRoom.calls (a0_0 : Int) (a0_1 : Int) (a0_2 : Int) (a0_3 : Int) (r : Int) (w : World) (h : spec_LogRoom.f a0_0 a0_1 a0_2 a0_3 = some r) :
  Calls Try.prog 94 #[.agg #[.int .i64 a0_0, .int .i64 a0_1, .int .i64 a0_2, .int .i64 a0_3]] w fun e w' => e = .returned (.int .i64 r) ∧ Below w.heap.size w w' := by
 have hu32 := Try.underlying32
 have HB := Ak (Below.refl w.heap.size w)
 have H := h
 unfold spec_LogRoom.f at H
 clear h
 by_cases c2 : (wrap64 ((wrap64 ((wrap64 (a0_1 - a0_0)) + 1)) - a0_2)) < 0
 ·rw [if_pos c2] at H
  have c2b0 := decide_eq_true c2
  clear c2
  obtain rfl := Option.some.inj H
  go_enter Try.func94, Try.ntmps94
  go_wp2_with (first | ((with_reducible refine gate_dst (N := 1) rfl ?_); refine box_event ?hg (N := 1) ?hd (cs := #[.int .i64 a0_0, .int .i64 a0_1, .int .i64 a0_2, .int .i64 a0_3]) (t := 32) ?hr ?_; (case hd => rfl); (case hg => rfl); (case hr => first | (go_simp; done) | (go_simp; rfl)); intro gb329 hg w3 hbox hb; have BK329 := Ak (hbox); have GW329 := Ak ((zb hg (bw HB.out))); have GE329 := Ak ((zb hg (bw HB.out))); replace HB := Ak (below_step (bw HB.out) hb); clear hb hbox hg; have hcz4_0 := zk0 BK329.out; have hcz4_1 := zk1 BK329.out; have hcz4_2 := zk2 BK329.out; have hcz4_3 := zk3 BK329.out; have hfz4_0 := blk_frozen BK329.out 0; have hfz4_1 := blk_frozen BK329.out 1; have hfz4_2 := blk_frozen BK329.out 2; have hfz4_3 := blk_frozen BK329.out 3))
  go_ret
  exact ⟨zw, bw1 HB.out GE329.out⟩
 ·rw [if_neg c2] at H
  have c2b0 := decide_eq_false c2
  clear c2
  obtain rfl := Option.some.inj H
  go_enter Try.func94, Try.ntmps94
  go_wp2_with (first | ((with_reducible refine gate_dst (N := 1) rfl ?_); refine box_event ?hg (N := 1) ?hd (cs := #[.int .i64 a0_0, .int .i64 a0_1, .int .i64 a0_2, .int .i64 a0_3]) (t := 32) ?hr ?_; (case hd => rfl); (case hg => rfl); (case hr => first | (go_simp; done) | (go_simp; rfl)); intro gb329 hg w5 hbox hb; have BK329 := Ak (hbox); have GW329 := Ak ((zb hg (bw HB.out))); have GE329 := Ak ((zb hg (bw HB.out))); replace HB := Ak (below_step (bw HB.out) hb); clear hb hbox hg; have hcz6_0 := zk0 BK329.out; have hcz6_1 := zk1 BK329.out; have hcz6_2 := zk2 BK329.out; have hcz6_3 := zk3 BK329.out; have hfz6_0 := blk_frozen BK329.out 0; have hfz6_1 := blk_frozen BK329.out 1; have hfz6_2 := blk_frozen BK329.out 2; have hfz6_3 := blk_frozen BK329.out 3))
  go_ret
  exact ⟨zw, bw1 HB.out GE329.out⟩

def spec_l4Min.f (a0 : Int) (a1 : Int) : Option (Int) := if a0 < a1 then (some a0) else (some a1)
set_option maxHeartbeats 8000000 in
set_option maxRecDepth 100000 in
theorem spec_l4Min.calls (a0 : Int) (a1 : Int) (r : Int) (w : World) (h : spec_l4Min.f a0 a1 = some r) :
  Calls Try.prog 95 #[.int .i64 a0, .int .i64 a1] w fun e w' => e = .returned (.int .i64 r) ∧ Drawn0 w w' := by
 have H := h
 unfold spec_l4Min.f at H
 clear h
 by_cases c3 : a0 < a1
 ·rw [if_pos c3] at H
  have c3b0 := decide_eq_true c3
  clear c3
  obtain rfl := Option.some.inj H
  go_enter Try.func95, Try.ntmps95
  go_wp2
  go_ret
  exact ⟨by first | rfl | (simp; done) | (simp [*]; done), by repeat (first | exact Drawn0.refl _ | apply Drawn0.step)⟩
 ·rw [if_neg c3] at H
  have c3b0 := decide_eq_false c3
  clear c3
  obtain rfl := Option.some.inj H
  go_enter Try.func95, Try.ntmps95
  go_wp2
  go_ret
  exact ⟨by first | rfl | (simp; done) | (simp [*]; done), by repeat (first | exact Drawn0.refl _ | apply Drawn0.step)⟩

def spec_l8Bytes.l0 : Nat → Int → List Int → Int → Int → Option (List Int)
 | 0, _, _, _, _ => none
 | k + 1, x1, x5, x6, x7 => if x7 < x1 then (if x5.length < 140737488355328 then (spec_l8Bytes.l0 k x1 (x5 ++ [(x6) % 256]) (x6 / 256) (wrap64 (x7 + 1))) else (none)) else (some x5)
def spec_l8Bytes.f (k : Nat) (a0 : Int) (a1 : Int) : Option (List Int) := spec_l8Bytes.l0 k a1 (([] : List Int)) (IntKind.u64.wrap (a0)) 0
set_option maxHeartbeats 8000000 in
set_option maxRecDepth 100000 in
theorem spec_l8Bytes.calls (k : Nat) (a0 : Int) (a1 : Int) (r : List Int) (w : World) (h : spec_l8Bytes.f k a0 a1 = some r) :
  Calls Try.prog 128 #[.int .i64 a0, .int .i64 a1] w fun e w' => ∃ v0_ : Value, e = .returned (v0_) ∧ Kd.R (Kd.int .u8) 5 w' w.heap.size (fun _ => True) v0_ r ∧ Below w.heap.size w w' := by
 have HB := Ak (Below.refl w.heap.size w)
 have H := h
 unfold spec_l8Bytes.f at H
 clear h
 obtain ⟨y330, hy330⟩ : ∃ y_ : List Int, y_ = (([] : List Int)) := ⟨_, rfl⟩
 replace H : (spec_l8Bytes.l0 k a1 y330 (IntKind.u64.wrap (a0)) 0) = some r := by first | (rw [hy330]; with_reducible exact H) | (have H2_ := (Option.bind_some _ _).symm.trans H; rw [hy330]; with_reducible exact H2_) | (have H2_ := (Option.bind_some _ _).symm.trans H; with_reducible exact H2_) | with_reducible exact H | (rw [hy330]; exact H) | exact H
 have Ny330 := Ak hy330
 clear hy330
 have H' := Ak H
 clear H
 go_enter Try.func128, Try.ntmps128
 go_wp2_with (first | ((with_reducible refine gate_dst (N := 8) rfl ?_); refine Kd.R_lit (Kd.int .u8) _ 5 ?hg (N := 8) ?hd (xs := ([] : List Int)) (inner := []) (ok := fun _ => True) (okp := fun _ => True) ?hr ?hp (fun _ hk => hk) trivial (Below.refl _ _) (Nat.le_refl _) (by simp) ?_; (case hd => rfl); (case hg => rfl); (case hr => first | (go_simp; done) | (go_simp; rfl)); (case hp => exact (Reps.none _ _)); intro v331 w3 ho4 hb hg_ hnew_; clear hg_ hnew_; (first | rw [← Ny330.out] at ho4 | (simp only [Int.reduceToNat] at ho4; rw [← Ny330.out] at ho4)); have HO332 := Ak (Kd.R_lower ho4 (below_size (bw HB.out))); replace HB := Ak (below_step (bw HB.out) hb); clear hb ho4))
 go_loopg [5, 6, 7] k (fun kq v5 v6 v7 w' => ∃ (x5_1 : List Int) (x6_1 : Int) (x7_1 : Int), v6 = .int .u64 x6_1 ∧ v7 = .int .i64 x7_1 ∧ Aside0 (spec_l8Bytes.l0 kq a1 x5_1 x6_1 x7_1 = some r) ∧ Aside0 (kq ≤ k) ∧ Aside0 (Kd.R (Kd.int .u8) 5 w' w.heap.size (fun _ => True) v5 x5_1) ∧ Aside0 (Below w.heap.size w w'))
 case atStart => exact ⟨(y330), (IntKind.u64.wrap (a0)), (0), (by first | rfl | (simp; done) | (simp [*]; done)), (by first | rfl | (simp; done) | (simp [*]; done)), H', ⟨Nat.le_refl _⟩, ⟨rq HO332.out⟩, ⟨bw HB.out⟩⟩
 case round =>
  clear H'
  obtain ⟨x5_1, x6_1, x7_1, rfl, rfl, HA, HK1, HO_5, HB⟩ := hrel
  cases gk with
  | zero => exact absurd HA.out (by simp [spec_l8Bytes.l0])
  | succ k1 =>
   have H := HA.out
   clear HA
   simp only [spec_l8Bytes.l0] at H
   by_cases c5 : x7_1 < a1
   ·rw [if_pos c5] at H
    have c5b0 := decide_eq_true c5
    clear c5
    by_cases c6 : x5_1.length < 140737488355328
    ·rw [if_pos c6] at H
     have LMc6 := Ak c6
     clear c6
     generalize hy333 : (x5_1 ++ [(x6_1) % 256] : List Int) = y333 at H
     try rw [Option.bind_some] at H
     have Ny333 := Ak hy333.symm
     clear hy333
     have H' := Ak H
     clear H
     go_wp2_with (first | ((with_reducible refine gate_builtin (b := .append) (xs := #[.tmp 16, .tmp 19]) rfl ?_); at_builtin; refine Kd.R_append (Kd.int .u8) (w0 := w) w.heap.size rfl (.tmp 16) (.tmp 19) 22 5 (.int .u8 0) 1 rfl Try.underlying22 info5 rfl (by decide) (by omega) u5 x5_1 ((x6_1) % 256) [.int .u8 ((x6_1) % 256)] (fun _ => True) (fun _ => False) rfl rfl ?aP (fun _ hk => hk.elim) ?aF ?aO ?aB ?aS ?aL ?_; (case aP => exact rfl); (case aB => exact (bw HB.out)); (case aF => exact (fun _ _ => trivial)); (case aO => exact (rq HO_5.out)); (case aS => exact (below_size (bw HB.out))); (case aL => have := LMc6.out; omega); intro v334 w7 ho hb hg hat; rw [← Ny333.out] at ho; replace HB := Ak (hb); have HO335 := Ak (ho); clear HO_5; clear ho hb hg hat))
     go_roundg k1
     case measure => have := HK1.out; omega
     case rel => exact ⟨(y333), (x6_1 / 256), (wrap64 (x7_1 + 1)), (by first | rfl | (simp; done) | (simp [*]; done)), (by first | rfl | (simp; done) | (simp [*]; done)), H', ⟨by have := HK1.out; omega⟩, ⟨rq HO335.out⟩, ⟨bw HB.out⟩⟩
    ·rw [if_neg c6] at H
     exact absurd H (by simp)
   ·rw [if_neg c5] at H
    have c5b0 := decide_eq_false c5
    clear c5
    obtain rfl := Option.some.inj H
    go_wp2
    go_ret
    exact ⟨_, zw, rq HO_5.out, bw HB.out⟩

def spec_l12Sum.l0 : Nat → List Int → Int → Int → Option (Int)
 | 0, _, _, _ => none
 | k + 1, x0, x3, x4 => if x4 < (x0.length : Int) then (if 0 ≤ x4 then (spec_l12Sum.l0 k x0 (Int.tmod (IntKind.u64.wrap ((Go.bits .xor .u64 x3 (IntKind.u64.wrap (rd x0 x4))) * 16777619)) 4294967296) (wrap64 (x4 + 1))) else (none)) else (some (wrap64 (x3)))
def spec_l12Sum.f (k : Nat) (l0 : List Int) : Option (Int) := spec_l12Sum.l0 k l0 2166136261 0
set_option maxHeartbeats 8000000 in
set_option maxRecDepth 100000 in
theorem spec_l12Sum.calls (k : Nat) (A0 : Option Addr) (c0 : Nat) (l0 : List Int) (r : Int) (w : World) (hr0 : Kd.C (Kd.int .u8) w A0 l0.length l0) (hc0 : l0.length ≤ c0) (h : spec_l12Sum.f k l0 = some r) :
  Calls Try.prog 129 #[.slice A0 l0.length c0] w fun e w' => e = .returned (.int .i64 r) ∧ Drawn0 w w' := by
 have HR0 := Ak hr0
 have HC0 := Ak hc0
 clear hr0 hc0
 have H := h
 unfold spec_l12Sum.f at H
 clear h
 have H' := Ak H
 clear H
 go_enter Try.func129, Try.ntmps129
 go_wp2
 go_loopg [3, 4] k (fun kq v3 v4 w' => ∃ (x3_1 : Int) (x4_1 : Int), v3 = .int .u64 x3_1 ∧ v4 = .int .i64 x4_1 ∧ Aside0 (spec_l12Sum.l0 kq l0 x3_1 x4_1 = some r) ∧ Aside0 (kq ≤ k) ∧ Drawn0 w w')
 case atStart => exact ⟨(2166136261), (0), (by first | rfl | (simp; done) | (simp [*]; done)), (by first | rfl | (simp; done) | (simp [*]; done)), H', ⟨Nat.le_refl _⟩, by repeat (first | exact Drawn0.refl _ | apply Drawn0.step)⟩
 case round =>
  clear H'
  obtain ⟨x3_1, x4_1, rfl, rfl, HA, HK1, ⟨m1, rfl⟩⟩ := hrel
  cases gk with
  | zero => exact absurd HA.out (by simp [spec_l12Sum.l0])
  | succ k1 =>
   have H := HA.out
   clear HA
   simp only [spec_l12Sum.l0] at H
   by_cases c2 : x4_1 < (l0.length : Int)
   ·rw [if_pos c2] at H
    have c2b0 := decide_eq_true c2
    clear c2
    by_cases c3 : 0 ≤ x4_1
    ·rw [if_pos c3] at H
     have c3b0 := decide_eq_true c3
     clear c3
     have H' := Ak H
     clear H
     have p336 : 0 ≤ (x4_1 : Int) := of_decide_eq_true (by first | (with_reducible assumption) | assumption)
     have q336 : x4_1 < (l0.length : Int) := of_decide_eq_true (by first | (with_reducible assumption) | assumption)
     obtain ⟨ad336, e336, hx336_0⟩ := Kd.at_int HR0.out x4_1 p336 q336
     cases e336
     replace p336 := eq_true p336
     replace q336 := eq_true q336
     go_wp2
     go_roundg k1
     case measure => have := HK1.out; omega
     case rel => exact ⟨(Int.tmod (IntKind.u64.wrap ((Go.bits .xor .u64 x3_1 (IntKind.u64.wrap (rd l0 x4_1))) * 16777619)) 4294967296), (wrap64 (x4_1 + 1)), (by first | rfl | (simp; done) | (simp [*]; done)), (by first | rfl | (simp; done) | (simp [*]; done)), H', ⟨by have := HK1.out; omega⟩, by repeat (first | exact Drawn0.refl _ | apply Drawn0.step)⟩
    ·rw [if_neg c3] at H
     exact absurd H (by simp)
   ·rw [if_neg c2] at H
    have c2b0 := decide_eq_false c2
    clear c2
    obtain rfl := Option.some.inj H
    go_wp2
    go_ret
    exact ⟨by first | rfl | (simp; done) | (simp [*]; done), by repeat (first | exact Drawn0.refl _ | apply Drawn0.step)⟩

def spec_l12Sector.f (k : Nat) (a0 : Int) (a1 : Int) (a2 : Bool) (l3 : List Int) : Option (List Int) := (spec_l8Bytes.f k a0 4).bind fun t337 => ((spec_l8Bytes.f k a1 4).bind fun t340 => (if t337.length + t340.length < 140737488355328 then ((some (t337 ++ t340 : List Int)).bind fun y343 => (if a2 = true then ((some (([1, ((l3.length : Int)) % 256] : List Int) : List Int)).bind fun y346 => (if y343.length + y346.length < 140737488355328 then ((some (y343 ++ y346 : List Int)).bind fun y349 => (if y349.length + 6 < 140737488355328 then ((some (y349 ++ List.replicate 6 0 : List Int)).bind fun y352 => (if y352.length + l3.length < 140737488355328 then ((some (y352 ++ l3 : List Int)).bind fun y355 => (if 0 ≤ (wrap64 (44 - (l3.length : Int))) then (if y355.length + (wrap64 (44 - (l3.length : Int)) : Int).toNat < 140737488355328 then ((some (y355 ++ List.replicate (wrap64 (44 - (l3.length : Int)) : Int).toNat 0 : List Int)).bind fun y358 => ((spec_l12Sum.f k y358).bind fun t361 => ((spec_l8Bytes.f k t361 4).bind fun t362 => (if y358.length + t362.length < 140737488355328 then (some (y358 ++ t362)) else (none))))) else (none)) else (none))) else (none))) else (none))) else (none))) else ((some (([2, ((l3.length : Int)) % 256] : List Int) : List Int)).bind fun y368 => (if y343.length + y368.length < 140737488355328 then ((some (y343 ++ y368 : List Int)).bind fun y371 => (if y371.length + 6 < 140737488355328 then ((some (y371 ++ List.replicate 6 0 : List Int)).bind fun y374 => (if y374.length + l3.length < 140737488355328 then ((some (y374 ++ l3 : List Int)).bind fun y377 => (if 0 ≤ (wrap64 (44 - (l3.length : Int))) then (if y377.length + (wrap64 (44 - (l3.length : Int)) : Int).toNat < 140737488355328 then ((some (y377 ++ List.replicate (wrap64 (44 - (l3.length : Int)) : Int).toNat 0 : List Int)).bind fun y380 => ((spec_l12Sum.f k y380).bind fun t383 => ((spec_l8Bytes.f k t383 4).bind fun t384 => (if y380.length + t384.length < 140737488355328 then (some (y380 ++ t384)) else (none))))) else (none)) else (none))) else (none))) else (none))) else (none))))) else (none)))
set_option maxHeartbeats 8000000 in
set_option maxRecDepth 100000 in
theorem spec_l12Sector.calls (k : Nat) (a0 : Int) (a1 : Int) (a2 : Bool) (A3 : Option Addr) (c3 : Nat) (l3 : List Int) (r : List Int) (w : World) (hr3 : Kd.C (Kd.int .u8) w A3 l3.length l3) (hc3 : l3.length ≤ c3) (h : spec_l12Sector.f k a0 a1 a2 l3 = some r) :
  Calls Try.prog 96 #[.int .i64 a0, .int .i64 a1, .bool a2, .slice A3 l3.length c3] w fun e w' => ∃ v0_ : Value, e = .returned (v0_) ∧ Kd.R (Kd.int .u8) 5 w' w.heap.size (fun _ => True) v0_ r ∧ Below w.heap.size w w' := by
 have HR3 := Ak hr3
 have HC3 := Ak hc3
 clear hr3 hc3
 have HB := Ak (Below.refl w.heap.size w)
 have H := h
 unfold spec_l12Sector.f at H
 clear h
 replace H := Option.bind_eq_some_iff.mp H
 obtain ⟨t337, A50, H⟩ := H
 have A5 := Ak A50
 clear A50
 replace H := Option.bind_eq_some_iff.mp H
 obtain ⟨t340, A60, H⟩ := H
 have A6 := Ak A60
 clear A60
 by_cases c7 : t337.length + t340.length < 140737488355328
 ·rw [if_pos c7] at H
  have LMc7 := Ak c7
  clear c7
  generalize hy343 : (t337 ++ t340 : List Int) = y343 at H
  try rw [Option.bind_some] at H
  have Ny343 := Ak hy343.symm
  clear hy343
  by_cases c8 : a2 = true
  ·subst c8
   rw [if_pos rfl] at H
   generalize hy346 : (([1, ((l3.length : Int)) % 256] : List Int) : List Int) = y346 at H
   try rw [Option.bind_some] at H
   have Ny346 := Ak hy346.symm
   clear hy346
   by_cases c9 : y343.length + y346.length < 140737488355328
   ·rw [if_pos c9] at H
    have LMc9 := Ak c9
    clear c9
    generalize hy349 : (y343 ++ y346 : List Int) = y349 at H
    try rw [Option.bind_some] at H
    have Ny349 := Ak hy349.symm
    clear hy349
    by_cases c10 : y349.length + 6 < 140737488355328
    ·rw [if_pos c10] at H
     have LMc10 := Ak c10
     clear c10
     generalize hy352 : (y349 ++ List.replicate 6 0 : List Int) = y352 at H
     try rw [Option.bind_some] at H
     have Ny352 := Ak hy352.symm
     clear hy352
     by_cases c11 : y352.length + l3.length < 140737488355328
     ·rw [if_pos c11] at H
      have LMc11 := Ak c11
      clear c11
      generalize hy355 : (y352 ++ l3 : List Int) = y355 at H
      try rw [Option.bind_some] at H
      have Ny355 := Ak hy355.symm
      clear hy355
      obtain ⟨ji12, hji12⟩ : ∃ j_ : Int, (wrap64 (44 - (l3.length : Int))) = j_ := ⟨_, rfl⟩
      replace H : (if 0 ≤ (ji12) then (if y355.length + (ji12 : Int).toNat < 140737488355328 then ((some (y355 ++ List.replicate (ji12 : Int).toNat 0 : List Int)).bind fun y358 => ((spec_l12Sum.f k y358).bind fun t361 => ((spec_l8Bytes.f k t361 4).bind fun t362 => (if y358.length + t362.length < 140737488355328 then (some (y358 ++ t362)) else (none))))) else (none)) else (none)) = some r := by first | (rw [hji12] at H; exact H) | (simp only [hji12] at H ⊢; exact H)
      (try rw [hji12] at A5)
      (try rw [hji12] at A6)
      have hji12w : (IntKind.i64.wrap (44 - (l3.length : Int))) = ji12 := (i64_w _).trans hji12
      by_cases c13 : 0 ≤ (ji12)
      ·rw [if_pos c13] at H
       have c13b0 := eq_true c13
       have c13b1 := decide_eq_true c13
       clear c13
       by_cases c14 : y355.length + (ji12 : Int).toNat < 140737488355328
       ·rw [if_pos c14] at H
        have LMc14 := Ak c14
        clear c14
        generalize hy358 : (y355 ++ List.replicate (ji12 : Int).toNat 0 : List Int) = y358 at H
        try rw [Option.bind_some] at H
        have Ny358 := Ak hy358.symm
        clear hy358
        replace H := Option.bind_eq_some_iff.mp H
        obtain ⟨t361, A150, H⟩ := H
        have A15 := Ak A150
        clear A150
        replace H := Option.bind_eq_some_iff.mp H
        obtain ⟨t362, A160, H⟩ := H
        have A16 := Ak A160
        clear A160
        by_cases c17 : y358.length + t362.length < 140737488355328
        ·rw [if_pos c17] at H
         have LMc17 := Ak c17
         clear c17
         generalize hy365 : (y358 ++ t362 : List Int) = y365 at H
         try rw [Option.bind_some] at H
         have Ny365 := Ak hy365.symm
         clear hy365
         obtain rfl := Option.some.inj H
         go_enter Try.func96, Try.ntmps96
         go_wp2_with (first | ((with_reducible refine gate_callee (f := 128) rfl ?_); refine goesL_ (some 12) rfl rfl Try.func128 (by kernel_rfl) rfl #[.int .i64 a0, .int .i64 4] rfl gm ?_; (with_reducible refine (spec_l8Bytes.calls k a0 4 t337 _ A5.out).mono ?_); rintro e w18 ⟨v338, rfl, ho0, hb⟩; refine ⟨_, rfl, ?_⟩; have HO339 := Ak (Kd.R_lower ho0 (below_size (bw HB.out))); replace HB := Ak (below_step (bw HB.out) hb)) | ((with_reducible refine gate_callee (f := 128) rfl ?_); refine goesL_ (some 14) rfl rfl Try.func128 (by kernel_rfl) rfl #[.int .i64 a1, .int .i64 4] rfl gm ?_; (with_reducible refine (spec_l8Bytes.calls k a1 4 t340 _ A6.out).mono ?_); rintro e w19 ⟨v341, rfl, ho0, hb⟩; refine ⟨_, rfl, ?_⟩; have HO342 := Ak (Kd.R_lower (Kd.R_new' ho0 (Kd.R_lt (rq HO339.out))) (below_size (bw HB.out))); replace HO339 := Ak (Kd.R_elder' (rq HO339.out) (Kd.R_base ho0) hb); replace HB := Ak (below_step (bw HB.out) hb); obtain ⟨Ao21, co21, eo21⟩ := Kd.R_slice HO342.out; subst eo21) | ((with_reducible refine gate_builtin (b := .append) (xs := #[.tmp 12, .tmp 14]) rfl ?_); at_builtin; refine Kd.R_append_rows (Kd.int .u8) (w0 := w) w.heap.size rfl (.tmp 12) (.tmp 14) 22 5 (.int .u8 0) 1 rfl Try.underlying22 info5 rfl (by decide) (by omega) v338 t337 t340 _ _ _ (fun k_ => Nb k_ (.slice Ao21 t340.length co21)) (fun _ => False) rfl rfl ?aO ?aR (fun _ _ h => h) (fun _ h => h.elim) ?aF ?aB ?aS ?aL ?_; (case aR => repeat (first | exact (Kd.R_reads' HO342.out).2.2 | (with_reducible refine Kd.C_alloc ?_ _) | (with_reducible refine Kd.C_drewN ?_ _) | (with_reducible refine Kd.C_drew ?_))); (case aB => exact (bw HB.out)); (case aF => exact (fun k_ hk => Kd.fresh' (Kd.R_lt (rq HO342.out)) k_ hk)); (case aO => exact (by refine rq ?_; exact Kd.R_mono HO339.out (fun _ hk => hk.2))); (case aS => exact (below_size (bw HB.out))); (case aL => have := LMc7.out; omega); intro v344 w20 ho hb hg hat; rw [← Ny343.out] at ho; replace HO342 := Ak (Kd.R_after (ok := (fun _ => True)) (rq HO342.out) hg hat); replace HB := Ak (hb); have HO345 := Ak (ho); clear HO339; clear ho hb hg hat) | ((with_reducible refine gate_dst (N := 22) rfl ?_); refine Kd.R_lit (Kd.int .u8) _ 5 ?hg (N := 22) ?hd (xs := ([1, ((l3.length : Int)) % 256] : List Int)) (inner := [.int .u8 1, .int .u8 (((l3.length : Int)) % 256)]) (ok := fun _ => True) (okp := fun _ => True) ?hr ?hp (fun _ hk => hk) trivial (Below.refl _ _) (Nat.le_refl _) (by simp) ?_; (case hd => rfl); (case hg => rfl); (case hr => first | (go_simp; done) | (go_simp; rfl)); (case hp => exact (Reps.one (show Kd.M (Kd.int .u8) _ _ _ 1 [.int .u8 1] from rfl) (Reps.one (show Kd.M (Kd.int .u8) _ _ _ (((l3.length : Int)) % 256) [.int .u8 (((l3.length : Int)) % 256)] from rfl) (Reps.none _ _)))); intro v347 w22 ho23 hb hg_ hnew_; clear hg_ hnew_; (first | rw [← Ny346.out] at ho23 | (simp only [Int.reduceToNat] at ho23; rw [← Ny346.out] at ho23)); have HO348 := Ak (Kd.R_lower (Kd.R_new' (Kd.R_new' ho23 (Kd.R_lt (rq HO342.out))) (Kd.R_lt (rq HO345.out))) (below_size (bw HB.out))); replace HO342 := Ak (Kd.R_elder' (rq HO342.out) (Kd.R_base ho23) hb); replace HO345 := Ak (Kd.R_elder' (rq HO345.out) (Kd.R_base ho23) hb); replace HB := Ak (below_step (bw HB.out) hb); clear hb ho23; obtain ⟨Ao25, co25, eo25⟩ := Kd.R_slice HO348.out; subst eo25) | ((with_reducible refine gate_builtin (b := .append) (xs := #[.tmp 17, .tmp 22]) rfl ?_); at_builtin; refine Kd.R_append_rows (Kd.int .u8) (w0 := w) w.heap.size rfl (.tmp 17) (.tmp 22) 22 5 (.int .u8 0) 1 rfl Try.underlying22 info5 rfl (by decide) (by omega) v344 y343 y346 _ _ _ (fun k_ => Nb k_ (.slice Ao21 t340.length co21) ∧ Nb k_ (.slice Ao25 y346.length co25)) (fun _ => False) rfl rfl ?aO ?aR (fun _ _ h => h) (fun _ h => h.elim) ?aF ?aB ?aS ?aL ?_; (case aR => repeat (first | exact (Kd.R_reads' HO348.out).2.2 | (with_reducible refine Kd.C_alloc ?_ _) | (with_reducible refine Kd.C_drewN ?_ _) | (with_reducible refine Kd.C_drew ?_))); (case aB => exact (bw HB.out)); (case aF => exact (fun k_ hk => ⟨Kd.fresh' (Kd.R_lt (rq HO342.out)) k_ hk, Kd.fresh' (Kd.R_lt (rq HO348.out)) k_ hk⟩)); (case aO => exact (rq HO345.out)); (case aS => exact (below_size (bw HB.out))); (case aL => have := LMc9.out; omega); intro v350 w24 ho hb hg hat; rw [← Ny349.out] at ho; replace HO342 := Ak (Kd.R_after (ok := (fun k_ => Nb k_ (.slice Ao25 y346.length co25))) (by (with_reducible repeat (first | apply Kd.R_alloc | apply Kd.R_drewN | apply Kd.R_drew)); exact Kd.R_mono HO342.out (fun _ hk => ⟨hk.2, hk.1.2⟩)) hg hat); replace HO348 := Ak (Kd.R_after (ok := (fun k_ => Nb k_ (.slice Ao21 t340.length co21))) (by (with_reducible repeat (first | apply Kd.R_alloc | apply Kd.R_drewN | apply Kd.R_drew)); exact Kd.R_mono HO348.out (fun _ hk => ⟨hk.1.2, hk.2⟩)) hg hat); replace HB := Ak (hb); have HO351 := Ak (ho); clear HO345; clear ho hb hg hat) | (at_builtin; refine Kd.R_append_zeros (Kd.int .u8) (w0 := w) w.heap.size rfl (.tmp 23) (.const (.int .i64 6)) 22 3 5 (.int .u8 0) 1 rfl Try.underlying22 Try.underlying3 info5 rfl (by decide) (by omega) v350 y349 0 (6 : Int) (fun k_ => Nb k_ (.slice Ao21 t340.length co21) ∧ Nb k_ (.slice Ao25 y346.length co25)) rfl rfl rfl ?aF ?aO (by omega) ?aB ?aS ?aL ?_; (case aB => exact (bw HB.out)); (case aF => exact (fun k_ hk => ⟨Kd.fresh' (Kd.R_lt (rq HO342.out)) k_ hk, Kd.fresh' (Kd.R_lt (rq HO348.out)) k_ hk⟩)); (case aO => exact (rq HO351.out)); (case aS => exact (below_size (bw HB.out))); (case aL => have := LMc10.out; omega); intro v353 w26 ho hb hg hat; (first | rw [← Ny352.out] at ho | (simp only [Int.reduceToNat] at ho; rw [← Ny352.out] at ho)); replace HO342 := Ak (Kd.R_after (ok := (fun k_ => Nb k_ (.slice Ao25 y346.length co25))) (rq HO342.out) hg hat); replace HO348 := Ak (Kd.R_after (ok := (fun k_ => Nb k_ (.slice Ao21 t340.length co21))) (rq HO348.out) hg hat); replace HB := Ak (hb); have HO354 := Ak (ho); clear HO351; clear ho hb hg hat) | ((with_reducible refine gate_builtin (b := .append) (xs := #[.tmp 25, .tmp 26]) rfl ?_); at_builtin; refine Kd.R_append_rows (Kd.int .u8) (w0 := w) w.heap.size rfl (.tmp 25) (.tmp 26) 22 5 (.int .u8 0) 1 rfl Try.underlying22 info5 rfl (by decide) (by omega) v353 y352 l3 _ _ _ (fun k_ => Nb k_ (.slice Ao21 t340.length co21) ∧ Nb k_ (.slice Ao25 y346.length co25)) (fun _ => False) rfl rfl ?aO ?aR (fun _ _ h => h) (fun _ h => h.elim) ?aF ?aB ?aS ?aL ?_; (case aR => exact zq (Kd.C_below HR3.out HB.out)); (case aB => exact (bw HB.out)); (case aF => exact (fun k_ hk => ⟨Kd.fresh' (Kd.R_lt (rq HO342.out)) k_ hk, Kd.fresh' (Kd.R_lt (rq HO348.out)) k_ hk⟩)); (case aO => exact (rq HO354.out)); (case aS => exact (below_size (bw HB.out))); (case aL => have := LMc11.out; omega); intro v356 w27 ho hb hg hat; rw [← Ny355.out] at ho; replace HO342 := Ak (Kd.R_after (ok := (fun k_ => Nb k_ (.slice Ao25 y346.length co25))) (rq HO342.out) hg hat); replace HO348 := Ak (Kd.R_after (ok := (fun k_ => Nb k_ (.slice Ao21 t340.length co21))) (rq HO348.out) hg hat); replace HB := Ak (hb); have HO357 := Ak (ho); clear HO354; clear ho hb hg hat) | (at_builtin; refine Kd.R_append_zeros (Kd.int .u8) (w0 := w) w.heap.size rfl (.tmp 27) (.tmp 30) 22 3 5 (.int .u8 0) 1 rfl Try.underlying22 Try.underlying3 info5 rfl (by decide) (by omega) v356 y355 0 (ji12 : Int) (fun k_ => Nb k_ (.slice Ao21 t340.length co21) ∧ Nb k_ (.slice Ao25 y346.length co25)) rfl rfl rfl ?aF ?aO (of_decide_eq_true (by first | (with_reducible assumption) | assumption)) ?aB ?aS ?aL ?_; (case aB => exact (bw HB.out)); (case aF => exact (fun k_ hk => ⟨Kd.fresh' (Kd.R_lt (rq HO342.out)) k_ hk, Kd.fresh' (Kd.R_lt (rq HO348.out)) k_ hk⟩)); (case aO => exact (rq HO357.out)); (case aS => exact (below_size (bw HB.out))); (case aL => have := LMc14.out; omega); intro v359 w28 ho hb hg hat; rw [← Ny358.out] at ho; replace HO342 := Ak (Kd.R_after (ok := (fun k_ => Nb k_ (.slice Ao25 y346.length co25))) (rq HO342.out) hg hat); replace HO348 := Ak (Kd.R_after (ok := (fun k_ => Nb k_ (.slice Ao21 t340.length co21))) (rq HO348.out) hg hat); replace HB := Ak (hb); have HO360 := Ak (ho); clear HO357; clear ho hb hg hat; obtain ⟨Ao29, co29, eo29⟩ := Kd.R_slice HO360.out; subst eo29) | ((with_reducible refine gate_callee (f := 129) rfl ?_); refine goesL_ (some 34) rfl rfl Try.func129 (by kernel_rfl) rfl #[.slice Ao29 y358.length co29] rfl gm ?_; (with_reducible refine (spec_l12Sum.calls k _ _ y358 t361 _ ?side1 ?side2 A15.out).mono ?_); (case side1 => repeat (first | exact (Kd.R_reads' HO360.out).2.2 | (with_reducible refine Kd.C_alloc ?_ _) | (with_reducible refine Kd.C_drewN ?_ _) | (with_reducible refine Kd.C_drew ?_))); (case side2 => exact (Kd.R_reads' HO360.out).2.1); rintro e w' ⟨rfl, ⟨nd, rfl⟩⟩; refine ⟨_, rfl, ?_⟩) | ((with_reducible refine gate_callee (f := 128) rfl ?_); refine goesL_ (some 35) rfl rfl Try.func128 (by kernel_rfl) rfl #[.int .i64 t361, .int .i64 4] rfl gm ?_; (with_reducible refine (spec_l8Bytes.calls k t361 4 t362 _ A16.out).mono ?_); rintro e w30 ⟨v363, rfl, ho0, hb⟩; refine ⟨_, rfl, ?_⟩; have HO364 := Ak (Kd.R_lower (Kd.R_new' (Kd.R_new' (Kd.R_new' ho0 (Kd.R_lt (rq HO342.out))) (Kd.R_lt (rq HO348.out))) (Kd.R_lt (rq HO360.out))) (below_size (bw HB.out))); replace HO342 := Ak (Kd.R_elder' (rq HO342.out) (Kd.R_base ho0) hb); replace HO348 := Ak (Kd.R_elder' (rq HO348.out) (Kd.R_base ho0) hb); replace HO360 := Ak (Kd.R_elder' (rq HO360.out) (Kd.R_base ho0) hb); replace HB := Ak (below_step (bw HB.out) hb); obtain ⟨Ao32, co32, eo32⟩ := Kd.R_slice HO364.out; subst eo32) | ((with_reducible refine gate_builtin (b := .append) (xs := #[.tmp 32, .tmp 35]) rfl ?_); at_builtin; refine Kd.R_append_rows (Kd.int .u8) (w0 := w) w.heap.size rfl (.tmp 32) (.tmp 35) 22 5 (.int .u8 0) 1 rfl Try.underlying22 info5 rfl (by decide) (by omega) (.slice Ao29 y358.length co29) y358 t362 _ _ _ (fun k_ => Nb k_ (.slice Ao21 t340.length co21) ∧ Nb k_ (.slice Ao25 y346.length co25) ∧ Nb k_ (.slice Ao32 t362.length co32)) (fun _ => False) rfl rfl ?aO ?aR (fun _ _ h => h) (fun _ h => h.elim) ?aF ?aB ?aS ?aL ?_; (case aR => repeat (first | exact (Kd.R_reads' HO364.out).2.2 | (with_reducible refine Kd.C_alloc ?_ _) | (with_reducible refine Kd.C_drewN ?_ _) | (with_reducible refine Kd.C_drew ?_))); (case aB => exact (bw HB.out)); (case aF => exact (fun k_ hk => ⟨Kd.fresh' (Kd.R_lt (rq HO342.out)) k_ hk, Kd.fresh' (Kd.R_lt (rq HO348.out)) k_ hk, Kd.fresh' (Kd.R_lt (rq HO364.out)) k_ hk⟩)); (case aO => exact (by refine rq ?_; exact Kd.R_mono HO360.out (fun _ hk => ⟨hk.1.1, ⟨hk.1.2, hk.2⟩⟩))); (case aS => exact (below_size (bw HB.out))); (case aL => have := LMc17.out; omega); intro v366 w31 ho hb hg hat; rw [← Ny365.out] at ho; replace HO342 := Ak (Kd.R_after (ok := (fun k_ => Nb k_ (.slice Ao25 y346.length co25) ∧ Nb k_ (.slice Ao32 t362.length co32))) (by (with_reducible repeat (first | apply Kd.R_alloc | apply Kd.R_drewN | apply Kd.R_drew)); exact Kd.R_mono HO342.out (fun _ hk => ⟨⟨hk.1.1, hk.2⟩, hk.1.2⟩)) hg hat); replace HO348 := Ak (Kd.R_after (ok := (fun k_ => Nb k_ (.slice Ao21 t340.length co21) ∧ Nb k_ (.slice Ao32 t362.length co32))) (by (with_reducible repeat (first | apply Kd.R_alloc | apply Kd.R_drewN | apply Kd.R_drew)); exact Kd.R_mono HO348.out (fun _ hk => ⟨⟨hk.1.1, hk.2⟩, hk.1.2⟩)) hg hat); replace HO364 := Ak (Kd.R_after (ok := (fun k_ => Nb k_ (.slice Ao21 t340.length co21) ∧ Nb k_ (.slice Ao25 y346.length co25))) (by (with_reducible repeat (first | apply Kd.R_alloc | apply Kd.R_drewN | apply Kd.R_drew)); exact Kd.R_mono HO364.out (fun _ hk => ⟨⟨hk.1.1.2, hk.1.2⟩, hk.2⟩)) hg hat); replace HB := Ak (hb); have HO367 := Ak (ho); clear HO360; clear ho hb hg hat))
         go_ret
         exact ⟨_, by first | rfl | (simp [errW_none, errW_some] <;> rfl) | (simp only [← hji12]; first | rfl | (simp [errW_none, errW_some] <;> rfl)) | (simp [*, errW_none, errW_some] <;> rfl), by refine rq ?_; exact Kd.R_mono HO367.out (fun _ hk => trivial), bw HB.out⟩
        ·rw [if_neg c17] at H
         exact absurd H (by simp)
       ·rw [if_neg c14] at H
        exact absurd H (by simp)
      ·rw [if_neg c13] at H
       exact absurd H (by simp)
     ·rw [if_neg c11] at H
      exact absurd H (by simp)
    ·rw [if_neg c10] at H
     exact absurd H (by simp)
   ·rw [if_neg c9] at H
    exact absurd H (by simp)
  ·replace c8 := Bool.eq_false_iff.mpr c8
   subst c8
   rw [if_neg (show ¬ (false = true) by decide)] at H
   generalize hy368 : (([2, ((l3.length : Int)) % 256] : List Int) : List Int) = y368 at H
   try rw [Option.bind_some] at H
   have Ny368 := Ak hy368.symm
   clear hy368
   by_cases c33 : y343.length + y368.length < 140737488355328
   ·rw [if_pos c33] at H
    have LMc33 := Ak c33
    clear c33
    generalize hy371 : (y343 ++ y368 : List Int) = y371 at H
    try rw [Option.bind_some] at H
    have Ny371 := Ak hy371.symm
    clear hy371
    by_cases c34 : y371.length + 6 < 140737488355328
    ·rw [if_pos c34] at H
     have LMc34 := Ak c34
     clear c34
     generalize hy374 : (y371 ++ List.replicate 6 0 : List Int) = y374 at H
     try rw [Option.bind_some] at H
     have Ny374 := Ak hy374.symm
     clear hy374
     by_cases c35 : y374.length + l3.length < 140737488355328
     ·rw [if_pos c35] at H
      have LMc35 := Ak c35
      clear c35
      generalize hy377 : (y374 ++ l3 : List Int) = y377 at H
      try rw [Option.bind_some] at H
      have Ny377 := Ak hy377.symm
      clear hy377
      obtain ⟨ji36, hji36⟩ : ∃ j_ : Int, (wrap64 (44 - (l3.length : Int))) = j_ := ⟨_, rfl⟩
      replace H : (if 0 ≤ (ji36) then (if y377.length + (ji36 : Int).toNat < 140737488355328 then ((some (y377 ++ List.replicate (ji36 : Int).toNat 0 : List Int)).bind fun y380 => ((spec_l12Sum.f k y380).bind fun t383 => ((spec_l8Bytes.f k t383 4).bind fun t384 => (if y380.length + t384.length < 140737488355328 then (some (y380 ++ t384)) else (none))))) else (none)) else (none)) = some r := by first | (rw [hji36] at H; exact H) | (simp only [hji36] at H ⊢; exact H)
      (try rw [hji36] at A5)
      (try rw [hji36] at A6)
      have hji36w : (IntKind.i64.wrap (44 - (l3.length : Int))) = ji36 := (i64_w _).trans hji36
      by_cases c37 : 0 ≤ (ji36)
      ·rw [if_pos c37] at H
       have c37b0 := eq_true c37
       have c37b1 := decide_eq_true c37
       clear c37
       by_cases c38 : y377.length + (ji36 : Int).toNat < 140737488355328
       ·rw [if_pos c38] at H
        have LMc38 := Ak c38
        clear c38
        generalize hy380 : (y377 ++ List.replicate (ji36 : Int).toNat 0 : List Int) = y380 at H
        try rw [Option.bind_some] at H
        have Ny380 := Ak hy380.symm
        clear hy380
        replace H := Option.bind_eq_some_iff.mp H
        obtain ⟨t383, A390, H⟩ := H
        have A39 := Ak A390
        clear A390
        replace H := Option.bind_eq_some_iff.mp H
        obtain ⟨t384, A400, H⟩ := H
        have A40 := Ak A400
        clear A400
        by_cases c41 : y380.length + t384.length < 140737488355328
        ·rw [if_pos c41] at H
         have LMc41 := Ak c41
         clear c41
         generalize hy387 : (y380 ++ t384 : List Int) = y387 at H
         try rw [Option.bind_some] at H
         have Ny387 := Ak hy387.symm
         clear hy387
         obtain rfl := Option.some.inj H
         go_enter Try.func96, Try.ntmps96
         go_wp2_with (first | ((with_reducible refine gate_callee (f := 128) rfl ?_); refine goesL_ (some 12) rfl rfl Try.func128 (by kernel_rfl) rfl #[.int .i64 a0, .int .i64 4] rfl gm ?_; (with_reducible refine (spec_l8Bytes.calls k a0 4 t337 _ A5.out).mono ?_); rintro e w42 ⟨v338, rfl, ho0, hb⟩; refine ⟨_, rfl, ?_⟩; have HO339 := Ak (Kd.R_lower ho0 (below_size (bw HB.out))); replace HB := Ak (below_step (bw HB.out) hb)) | ((with_reducible refine gate_callee (f := 128) rfl ?_); refine goesL_ (some 14) rfl rfl Try.func128 (by kernel_rfl) rfl #[.int .i64 a1, .int .i64 4] rfl gm ?_; (with_reducible refine (spec_l8Bytes.calls k a1 4 t340 _ A6.out).mono ?_); rintro e w43 ⟨v341, rfl, ho0, hb⟩; refine ⟨_, rfl, ?_⟩; have HO342 := Ak (Kd.R_lower (Kd.R_new' ho0 (Kd.R_lt (rq HO339.out))) (below_size (bw HB.out))); replace HO339 := Ak (Kd.R_elder' (rq HO339.out) (Kd.R_base ho0) hb); replace HB := Ak (below_step (bw HB.out) hb); obtain ⟨Ao45, co45, eo45⟩ := Kd.R_slice HO342.out; subst eo45) | ((with_reducible refine gate_builtin (b := .append) (xs := #[.tmp 12, .tmp 14]) rfl ?_); at_builtin; refine Kd.R_append_rows (Kd.int .u8) (w0 := w) w.heap.size rfl (.tmp 12) (.tmp 14) 22 5 (.int .u8 0) 1 rfl Try.underlying22 info5 rfl (by decide) (by omega) v338 t337 t340 _ _ _ (fun k_ => Nb k_ (.slice Ao45 t340.length co45)) (fun _ => False) rfl rfl ?aO ?aR (fun _ _ h => h) (fun _ h => h.elim) ?aF ?aB ?aS ?aL ?_; (case aR => repeat (first | exact (Kd.R_reads' HO342.out).2.2 | (with_reducible refine Kd.C_alloc ?_ _) | (with_reducible refine Kd.C_drewN ?_ _) | (with_reducible refine Kd.C_drew ?_))); (case aB => exact (bw HB.out)); (case aF => exact (fun k_ hk => Kd.fresh' (Kd.R_lt (rq HO342.out)) k_ hk)); (case aO => exact (by refine rq ?_; exact Kd.R_mono HO339.out (fun _ hk => hk.2))); (case aS => exact (below_size (bw HB.out))); (case aL => have := LMc7.out; omega); intro v344 w44 ho hb hg hat; rw [← Ny343.out] at ho; replace HO342 := Ak (Kd.R_after (ok := (fun _ => True)) (rq HO342.out) hg hat); replace HB := Ak (hb); have HO345 := Ak (ho); clear HO339; clear ho hb hg hat) | ((with_reducible refine gate_dst (N := 22) rfl ?_); refine Kd.R_lit (Kd.int .u8) _ 5 ?hg (N := 22) ?hd (xs := ([2, ((l3.length : Int)) % 256] : List Int)) (inner := [.int .u8 2, .int .u8 (((l3.length : Int)) % 256)]) (ok := fun _ => True) (okp := fun _ => True) ?hr ?hp (fun _ hk => hk) trivial (Below.refl _ _) (Nat.le_refl _) (by simp) ?_; (case hd => rfl); (case hg => rfl); (case hr => first | (go_simp; done) | (go_simp; rfl)); (case hp => exact (Reps.one (show Kd.M (Kd.int .u8) _ _ _ 2 [.int .u8 2] from rfl) (Reps.one (show Kd.M (Kd.int .u8) _ _ _ (((l3.length : Int)) % 256) [.int .u8 (((l3.length : Int)) % 256)] from rfl) (Reps.none _ _)))); intro v369 w46 ho47 hb hg_ hnew_; clear hg_ hnew_; (first | rw [← Ny368.out] at ho47 | (simp only [Int.reduceToNat] at ho47; rw [← Ny368.out] at ho47)); have HO370 := Ak (Kd.R_lower (Kd.R_new' (Kd.R_new' ho47 (Kd.R_lt (rq HO342.out))) (Kd.R_lt (rq HO345.out))) (below_size (bw HB.out))); replace HO342 := Ak (Kd.R_elder' (rq HO342.out) (Kd.R_base ho47) hb); replace HO345 := Ak (Kd.R_elder' (rq HO345.out) (Kd.R_base ho47) hb); replace HB := Ak (below_step (bw HB.out) hb); clear hb ho47; obtain ⟨Ao49, co49, eo49⟩ := Kd.R_slice HO370.out; subst eo49) | ((with_reducible refine gate_builtin (b := .append) (xs := #[.tmp 17, .tmp 22]) rfl ?_); at_builtin; refine Kd.R_append_rows (Kd.int .u8) (w0 := w) w.heap.size rfl (.tmp 17) (.tmp 22) 22 5 (.int .u8 0) 1 rfl Try.underlying22 info5 rfl (by decide) (by omega) v344 y343 y368 _ _ _ (fun k_ => Nb k_ (.slice Ao45 t340.length co45) ∧ Nb k_ (.slice Ao49 y368.length co49)) (fun _ => False) rfl rfl ?aO ?aR (fun _ _ h => h) (fun _ h => h.elim) ?aF ?aB ?aS ?aL ?_; (case aR => repeat (first | exact (Kd.R_reads' HO370.out).2.2 | (with_reducible refine Kd.C_alloc ?_ _) | (with_reducible refine Kd.C_drewN ?_ _) | (with_reducible refine Kd.C_drew ?_))); (case aB => exact (bw HB.out)); (case aF => exact (fun k_ hk => ⟨Kd.fresh' (Kd.R_lt (rq HO342.out)) k_ hk, Kd.fresh' (Kd.R_lt (rq HO370.out)) k_ hk⟩)); (case aO => exact (rq HO345.out)); (case aS => exact (below_size (bw HB.out))); (case aL => have := LMc33.out; omega); intro v372 w48 ho hb hg hat; rw [← Ny371.out] at ho; replace HO342 := Ak (Kd.R_after (ok := (fun k_ => Nb k_ (.slice Ao49 y368.length co49))) (by (with_reducible repeat (first | apply Kd.R_alloc | apply Kd.R_drewN | apply Kd.R_drew)); exact Kd.R_mono HO342.out (fun _ hk => ⟨hk.2, hk.1.2⟩)) hg hat); replace HO370 := Ak (Kd.R_after (ok := (fun k_ => Nb k_ (.slice Ao45 t340.length co45))) (by (with_reducible repeat (first | apply Kd.R_alloc | apply Kd.R_drewN | apply Kd.R_drew)); exact Kd.R_mono HO370.out (fun _ hk => ⟨hk.1.2, hk.2⟩)) hg hat); replace HB := Ak (hb); have HO373 := Ak (ho); clear HO345; clear ho hb hg hat) | (at_builtin; refine Kd.R_append_zeros (Kd.int .u8) (w0 := w) w.heap.size rfl (.tmp 23) (.const (.int .i64 6)) 22 3 5 (.int .u8 0) 1 rfl Try.underlying22 Try.underlying3 info5 rfl (by decide) (by omega) v372 y371 0 (6 : Int) (fun k_ => Nb k_ (.slice Ao45 t340.length co45) ∧ Nb k_ (.slice Ao49 y368.length co49)) rfl rfl rfl ?aF ?aO (by omega) ?aB ?aS ?aL ?_; (case aB => exact (bw HB.out)); (case aF => exact (fun k_ hk => ⟨Kd.fresh' (Kd.R_lt (rq HO342.out)) k_ hk, Kd.fresh' (Kd.R_lt (rq HO370.out)) k_ hk⟩)); (case aO => exact (rq HO373.out)); (case aS => exact (below_size (bw HB.out))); (case aL => have := LMc34.out; omega); intro v375 w50 ho hb hg hat; (first | rw [← Ny374.out] at ho | (simp only [Int.reduceToNat] at ho; rw [← Ny374.out] at ho)); replace HO342 := Ak (Kd.R_after (ok := (fun k_ => Nb k_ (.slice Ao49 y368.length co49))) (rq HO342.out) hg hat); replace HO370 := Ak (Kd.R_after (ok := (fun k_ => Nb k_ (.slice Ao45 t340.length co45))) (rq HO370.out) hg hat); replace HB := Ak (hb); have HO376 := Ak (ho); clear HO373; clear ho hb hg hat) | ((with_reducible refine gate_builtin (b := .append) (xs := #[.tmp 25, .tmp 26]) rfl ?_); at_builtin; refine Kd.R_append_rows (Kd.int .u8) (w0 := w) w.heap.size rfl (.tmp 25) (.tmp 26) 22 5 (.int .u8 0) 1 rfl Try.underlying22 info5 rfl (by decide) (by omega) v375 y374 l3 _ _ _ (fun k_ => Nb k_ (.slice Ao45 t340.length co45) ∧ Nb k_ (.slice Ao49 y368.length co49)) (fun _ => False) rfl rfl ?aO ?aR (fun _ _ h => h) (fun _ h => h.elim) ?aF ?aB ?aS ?aL ?_; (case aR => exact zq (Kd.C_below HR3.out HB.out)); (case aB => exact (bw HB.out)); (case aF => exact (fun k_ hk => ⟨Kd.fresh' (Kd.R_lt (rq HO342.out)) k_ hk, Kd.fresh' (Kd.R_lt (rq HO370.out)) k_ hk⟩)); (case aO => exact (rq HO376.out)); (case aS => exact (below_size (bw HB.out))); (case aL => have := LMc35.out; omega); intro v378 w51 ho hb hg hat; rw [← Ny377.out] at ho; replace HO342 := Ak (Kd.R_after (ok := (fun k_ => Nb k_ (.slice Ao49 y368.length co49))) (rq HO342.out) hg hat); replace HO370 := Ak (Kd.R_after (ok := (fun k_ => Nb k_ (.slice Ao45 t340.length co45))) (rq HO370.out) hg hat); replace HB := Ak (hb); have HO379 := Ak (ho); clear HO376; clear ho hb hg hat) | (at_builtin; refine Kd.R_append_zeros (Kd.int .u8) (w0 := w) w.heap.size rfl (.tmp 27) (.tmp 30) 22 3 5 (.int .u8 0) 1 rfl Try.underlying22 Try.underlying3 info5 rfl (by decide) (by omega) v378 y377 0 (ji36 : Int) (fun k_ => Nb k_ (.slice Ao45 t340.length co45) ∧ Nb k_ (.slice Ao49 y368.length co49)) rfl rfl rfl ?aF ?aO (of_decide_eq_true (by first | (with_reducible assumption) | assumption)) ?aB ?aS ?aL ?_; (case aB => exact (bw HB.out)); (case aF => exact (fun k_ hk => ⟨Kd.fresh' (Kd.R_lt (rq HO342.out)) k_ hk, Kd.fresh' (Kd.R_lt (rq HO370.out)) k_ hk⟩)); (case aO => exact (rq HO379.out)); (case aS => exact (below_size (bw HB.out))); (case aL => have := LMc38.out; omega); intro v381 w52 ho hb hg hat; rw [← Ny380.out] at ho; replace HO342 := Ak (Kd.R_after (ok := (fun k_ => Nb k_ (.slice Ao49 y368.length co49))) (rq HO342.out) hg hat); replace HO370 := Ak (Kd.R_after (ok := (fun k_ => Nb k_ (.slice Ao45 t340.length co45))) (rq HO370.out) hg hat); replace HB := Ak (hb); have HO382 := Ak (ho); clear HO379; clear ho hb hg hat; obtain ⟨Ao53, co53, eo53⟩ := Kd.R_slice HO382.out; subst eo53) | ((with_reducible refine gate_callee (f := 129) rfl ?_); refine goesL_ (some 34) rfl rfl Try.func129 (by kernel_rfl) rfl #[.slice Ao53 y380.length co53] rfl gm ?_; (with_reducible refine (spec_l12Sum.calls k _ _ y380 t383 _ ?side1 ?side2 A39.out).mono ?_); (case side1 => repeat (first | exact (Kd.R_reads' HO382.out).2.2 | (with_reducible refine Kd.C_alloc ?_ _) | (with_reducible refine Kd.C_drewN ?_ _) | (with_reducible refine Kd.C_drew ?_))); (case side2 => exact (Kd.R_reads' HO382.out).2.1); rintro e w' ⟨rfl, ⟨nd, rfl⟩⟩; refine ⟨_, rfl, ?_⟩) | ((with_reducible refine gate_callee (f := 128) rfl ?_); refine goesL_ (some 35) rfl rfl Try.func128 (by kernel_rfl) rfl #[.int .i64 t383, .int .i64 4] rfl gm ?_; (with_reducible refine (spec_l8Bytes.calls k t383 4 t384 _ A40.out).mono ?_); rintro e w54 ⟨v385, rfl, ho0, hb⟩; refine ⟨_, rfl, ?_⟩; have HO386 := Ak (Kd.R_lower (Kd.R_new' (Kd.R_new' (Kd.R_new' ho0 (Kd.R_lt (rq HO342.out))) (Kd.R_lt (rq HO370.out))) (Kd.R_lt (rq HO382.out))) (below_size (bw HB.out))); replace HO342 := Ak (Kd.R_elder' (rq HO342.out) (Kd.R_base ho0) hb); replace HO370 := Ak (Kd.R_elder' (rq HO370.out) (Kd.R_base ho0) hb); replace HO382 := Ak (Kd.R_elder' (rq HO382.out) (Kd.R_base ho0) hb); replace HB := Ak (below_step (bw HB.out) hb); obtain ⟨Ao56, co56, eo56⟩ := Kd.R_slice HO386.out; subst eo56) | ((with_reducible refine gate_builtin (b := .append) (xs := #[.tmp 32, .tmp 35]) rfl ?_); at_builtin; refine Kd.R_append_rows (Kd.int .u8) (w0 := w) w.heap.size rfl (.tmp 32) (.tmp 35) 22 5 (.int .u8 0) 1 rfl Try.underlying22 info5 rfl (by decide) (by omega) (.slice Ao53 y380.length co53) y380 t384 _ _ _ (fun k_ => Nb k_ (.slice Ao45 t340.length co45) ∧ Nb k_ (.slice Ao49 y368.length co49) ∧ Nb k_ (.slice Ao56 t384.length co56)) (fun _ => False) rfl rfl ?aO ?aR (fun _ _ h => h) (fun _ h => h.elim) ?aF ?aB ?aS ?aL ?_; (case aR => repeat (first | exact (Kd.R_reads' HO386.out).2.2 | (with_reducible refine Kd.C_alloc ?_ _) | (with_reducible refine Kd.C_drewN ?_ _) | (with_reducible refine Kd.C_drew ?_))); (case aB => exact (bw HB.out)); (case aF => exact (fun k_ hk => ⟨Kd.fresh' (Kd.R_lt (rq HO342.out)) k_ hk, Kd.fresh' (Kd.R_lt (rq HO370.out)) k_ hk, Kd.fresh' (Kd.R_lt (rq HO386.out)) k_ hk⟩)); (case aO => exact (by refine rq ?_; exact Kd.R_mono HO382.out (fun _ hk => ⟨hk.1.1, ⟨hk.1.2, hk.2⟩⟩))); (case aS => exact (below_size (bw HB.out))); (case aL => have := LMc41.out; omega); intro v388 w55 ho hb hg hat; rw [← Ny387.out] at ho; replace HO342 := Ak (Kd.R_after (ok := (fun k_ => Nb k_ (.slice Ao49 y368.length co49) ∧ Nb k_ (.slice Ao56 t384.length co56))) (by (with_reducible repeat (first | apply Kd.R_alloc | apply Kd.R_drewN | apply Kd.R_drew)); exact Kd.R_mono HO342.out (fun _ hk => ⟨⟨hk.1.1, hk.2⟩, hk.1.2⟩)) hg hat); replace HO370 := Ak (Kd.R_after (ok := (fun k_ => Nb k_ (.slice Ao45 t340.length co45) ∧ Nb k_ (.slice Ao56 t384.length co56))) (by (with_reducible repeat (first | apply Kd.R_alloc | apply Kd.R_drewN | apply Kd.R_drew)); exact Kd.R_mono HO370.out (fun _ hk => ⟨⟨hk.1.1, hk.2⟩, hk.1.2⟩)) hg hat); replace HO386 := Ak (Kd.R_after (ok := (fun k_ => Nb k_ (.slice Ao45 t340.length co45) ∧ Nb k_ (.slice Ao49 y368.length co49))) (by (with_reducible repeat (first | apply Kd.R_alloc | apply Kd.R_drewN | apply Kd.R_drew)); exact Kd.R_mono HO386.out (fun _ hk => ⟨⟨hk.1.1.2, hk.1.2⟩, hk.2⟩)) hg hat); replace HB := Ak (hb); have HO389 := Ak (ho); clear HO382; clear ho hb hg hat))
         go_ret
         exact ⟨_, by first | rfl | (simp [errW_none, errW_some] <;> rfl) | (simp only [← hji36]; first | rfl | (simp [errW_none, errW_some] <;> rfl)) | (simp [*, errW_none, errW_some] <;> rfl), by refine rq ?_; exact Kd.R_mono HO389.out (fun _ hk => trivial), bw HB.out⟩
        ·rw [if_neg c41] at H
         exact absurd H (by simp)
       ·rw [if_neg c38] at H
        exact absurd H (by simp)
      ·rw [if_neg c37] at H
       exact absurd H (by simp)
     ·rw [if_neg c35] at H
      exact absurd H (by simp)
    ·rw [if_neg c34] at H
     exact absurd H (by simp)
   ·rw [if_neg c33] at H
    exact absurd H (by simp)
 ·rw [if_neg c7] at H
  exact absurd H (by simp)

mutual
def spec_LogWrites.j0 : Nat → List Int → List (S96) → Int → Int → Int → Int → Int → Option ((List (S96)))
 | 0, _, _, _, _, _, _, _ => none
 | k + 1, x1, x5, x6, x391000, x391001, x391002, x391003 => (spec_l12Fine.f x391000 x391001 x391002 x391003).bind fun t394 => (if t394 = true then (if (x1.length : Int) > 4000 then (spec_LogWrites.j1 k x1 x5 x6 true x391000 x391001 x391002 x391003) else ((spec_LogRoom.f x391000 x391001 x391002 x391003).bind fun t395 => (spec_LogWrites.j1 k x1 x5 x6 (decide (x6 > t395)) x391000 x391001 x391002 x391003))) else (spec_LogWrites.j1 k x1 x5 x6 true x391000 x391001 x391002 x391003))
def spec_LogWrites.j1 : Nat → List Int → List (S96) → Int → Bool → Int → Int → Int → Int → Option ((List (S96)))
 | 0, _, _, _, _, _, _, _, _ => none
 | k + 1, x1, x5, x6, x31, x391000, x391001, x391002, x391003 => if x31 = true then (some x5) else (spec_LogWrites.l0 k x1 x5 x6 0 x391000 x391001 x391002 x391003)
def spec_LogWrites.l0 : Nat → List Int → List (S96) → Int → Int → Int → Int → Int → Int → Option ((List (S96)))
 | 0, _, _, _, _, _, _, _, _ => none
 | k + 1, x1, x5, x6, x7, x391000, x391001, x391002, x391003 => if x7 < x6 then ((spec_l4Min.f (wrap64 ((wrap64 (x7 + 1)) * 44)) (x1.length : Int)).bind fun t396 => (if 0 ≤ (wrap64 (x7 * 44)) then (if (wrap64 (x7 * 44)) ≤ t396 then (if t396 ≤ (x1.length : Int) then ((spec_l12Sector.f k x391003 (wrap64 (x391002 + x7)) (decide ((wrap64 (x7 + 1)) < x6)) ((x1.take (t396 : Int).toNat).drop ((wrap64 (x7 * 44)) : Int).toNat)).bind fun t398 => (if x5.length < 4398046511104 then (spec_LogWrites.l0 k x1 (x5 ++ [(⟨wrap64 ((wrap64 (x391000 + x391002)) + x7), t398⟩ : S96)]) x6 (wrap64 (x7 + 1)) x391000 x391001 x391002 x391003) else (none))) else (none)) else (none)) else (none))) else (some x5)
end
def spec_LogWrites.f (k : Nat) (a0_0 : Int) (a0_1 : Int) (a0_2 : Int) (a0_3 : Int) (l1 : List Int) : Option ((List (S96))) := (some (([] : List (S96)) : List (S96))).bind fun y391 => (if (wrap64 (Int.tdiv (wrap64 ((wrap64 ((l1.length : Int) + 44)) - 1)) 44)) = 0 then (spec_LogWrites.j0 k l1 y391 1 a0_0 a0_1 a0_2 a0_3) else (spec_LogWrites.j0 k l1 y391 (wrap64 (Int.tdiv (wrap64 ((wrap64 ((l1.length : Int) + 44)) - 1)) 44)) a0_0 a0_1 a0_2 a0_3))
def spec_LogWrites.T11 : Bool × List (List Nat × List Nat) := (true, [([], []), ([0], [0]), ([], []), ([2], [2]), ([], []), ([3, 4], [3, 4]), ([], []), ([6], [6]), ([], []), ([7, 8], [7, 8]), ([], []), ([], []), ([11], [11]), ([], []), ([10, 12, 13], [10, 12, 13]), ([1, 5, 9, 14], [1, 5, 9, 14]), ([15, 15, 0, 1, 2, 3, 4, 5, 6, 7, 8, 9, 10, 11, 12, 13, 14, 15], [15])])
def spec_LogWrites.B11 : List Nat := [0, 1, 0, 4, 0, 28, 0, 64, 0, 448, 0, 0, 2048, 0, 15360, 32767, 65535]
theorem spec_LogWrites.tab11 : rtab .any (opsOf Try.f45 11) = spec_LogWrites.T11 := by kernel_rfl
theorem spec_LogWrites.bits11 : waitsOk spec_LogWrites.T11.2 spec_LogWrites.B11 = true := by kernel_rfl
set_option maxHeartbeats 8000000 in
set_option maxRecDepth 100000 in
theorem spec_LogWrites.calls (k : Nat) (a0_0 : Int) (a0_1 : Int) (a0_2 : Int) (a0_3 : Int) (A1 : Option Addr) (c1 : Nat) (l1 : List Int) (r : List (S96)) (w : World) (hr1 : Kd.C (Kd.int .u8) w A1 l1.length l1) (hc1 : l1.length ≤ c1) (h : spec_LogWrites.f k a0_0 a0_1 a0_2 a0_3 l1 = some r) :
  Calls Try.prog 45 #[.agg #[.int .i64 a0_0, .int .i64 a0_1, .int .i64 a0_2, .int .i64 a0_3], .slice A1 l1.length c1] w fun e w' => ∃ v0_ : Value, e = .returned (v0_) ∧ Kd.S k96 96 w' w.heap.size (fun _ => True) v0_ r ∧ Below w.heap.size w w' := by
 have hu32 := Try.underlying32
 have hu96 := Try.underlying96
 have HR1 := Ak hr1
 have HC1 := Ak hc1
 clear hr1 hc1
 have HB := Ak (Below.refl w.heap.size w)
 have H := h
 unfold spec_LogWrites.f at H
 clear h
 obtain ⟨y391, hy391⟩ : ∃ y_ : List (S96), y_ = (([] : List (S96))) := ⟨_, rfl⟩
 replace H : (if (wrap64 (Int.tdiv (wrap64 ((wrap64 ((l1.length : Int) + 44)) - 1)) 44)) = 0 then (spec_LogWrites.j0 k l1 y391 1 a0_0 a0_1 a0_2 a0_3) else (spec_LogWrites.j0 k l1 y391 (wrap64 (Int.tdiv (wrap64 ((wrap64 ((l1.length : Int) + 44)) - 1)) 44)) a0_0 a0_1 a0_2 a0_3)) = some r := by first | (rw [hy391]; with_reducible exact H) | (have H2_ := (Option.bind_some _ _).symm.trans H; rw [hy391]; with_reducible exact H2_) | (have H2_ := (Option.bind_some _ _).symm.trans H; with_reducible exact H2_) | with_reducible exact H | (rw [hy391]; exact H) | exact H
 have Ny391 := Ak hy391
 clear hy391
 have HC3 := Ak H
 clear H
 go_enter Try.func45, Try.ntmps45
 go_upto_if 17 with (first | ((with_reducible refine gate_dst (N := 2) rfl ?_); (try (refine gate_guard (by rfl) ?_; dsimp only)); refine box_event ?hg (N := 2) ?hd (cs := #[.int .i64 a0_0, .int .i64 a0_1, .int .i64 a0_2, .int .i64 a0_3]) (t := 32) ?hr ?_; (case hd => rfl); (case hg => rfl); (case hr => first | (go_simp; done) | (go_simp; rfl)); intro gb390 hg w4 hbox hb; have BK390 := Ak (hbox); have GW390 := Ak ((zb hg (bw HB.out))); have GE390 := Ak ((zb hg (bw HB.out))); replace HB := Ak (below_step (bw HB.out) hb); clear hb hbox hg) | ((with_reducible refine gate_dst (N := 10) rfl ?_); (try (refine gate_guard (by rfl) ?_; dsimp only)); refine Kd.S_lit k96 _ 96 ?hg (N := 10) ?hd (xs := ([] : List (S96))) (inner := []) (ok := fun _ => True) (okp := fun _ => True) ?hr ?hp (fun _ hk => hk) trivial (Below.refl _ _) (Nat.le_refl _) (by simp) ?_; (case hd => rfl); (case hg => rfl); (case hr => first | (go_simp; done) | (go_simp; rfl)); (case hp => exact (Reps.none _ _)); intro v392 w5 ho6 hb hg_ hnew_; clear hg_ hnew_; (first | rw [← Ny391.out] at ho6 | (simp only [Int.reduceToNat] at ho6; rw [← Ny391.out] at ho6)); have HO393 := Ak (Kd.S_lower ho6 (below_size (bw1 HB.out GE390.out))); replace BK390 := Ak (blk_below (bq BK390.out) hb); replace HB := Ak (below_step (bw1 HB.out GE390.out) hb); clear hb ho6))
 (try simp only [Act.put, sT, sZ, sS])
 go_cut [6] (fun v6 wc => ∃ (kq : Nat) (x6_2 : Int), v6 = .int .i64 x6_2 ∧ Aside0 (spec_LogWrites.j0 kq l1 y391 x6_2 a0_0 a0_1 a0_2 a0_3 = some r) ∧ Aside0 (kq ≤ k) ∧ Aside0 (Kd.S k96 96 wc w.heap.size (fun _ => True) v392 y391) ∧ Aside0 (wc.heap[gb390]? = some (.cells #[.int .i64 a0_0, .int .i64 a0_1, .int .i64 a0_2, .int .i64 a0_3] 32 (0, 0))) ∧ Aside0 (Below w.heap.size w wc))
 case first =>
  have H := HC3.out
  clear HC3
  by_cases c7 : (wrap64 (Int.tdiv (wrap64 ((wrap64 ((l1.length : Int) + 44)) - 1)) 44)) = 0
  ·rw [if_pos c7] at H
   have c7b0 : ((wrap64 (Int.tdiv (wrap64 ((wrap64 ((l1.length : Int) + 44)) - 1)) 44)) == 0) = true := beq_iff_eq.mpr c7
   have c7b1 : ((wrap64 (Int.tdiv (wrap64 ((wrap64 ((l1.length : Int) + 44)) - 1)) 44)) != 0) = false := bne_eq_false_iff_eq.mpr c7
   clear c7
   (first | rw [c7b0] | (simp only [i64_w, i32_w]; rw [c7b0]) | skip)
   have H' := Ak H
   clear H
   go_wp2
   go_meet
   case rel => exact ⟨_, (1), (by first | rfl | (simp; done) | (simp [*]; done)), H', ⟨by first | omega | exact Nat.le_refl _⟩, ⟨sq HO393.out⟩, ⟨bq BK390.out⟩, ⟨bw1 HB.out GE390.out⟩⟩
  ·rw [if_neg c7] at H
   have c7b0 : ((wrap64 (Int.tdiv (wrap64 ((wrap64 ((l1.length : Int) + 44)) - 1)) 44)) == 0) = false := beq_eq_false_iff_ne.mpr c7
   have c7b1 : ((wrap64 (Int.tdiv (wrap64 ((wrap64 ((l1.length : Int) + 44)) - 1)) 44)) != 0) = true := bne_iff_ne.mpr c7
   (first | rw [c7b0] | (simp only [i64_w, i32_w]; rw [c7b0]) | skip)
   have H' := Ak H
   clear H
   go_wp2
   go_meet
   case rel => exact ⟨_, (wrap64 (Int.tdiv (wrap64 ((wrap64 ((l1.length : Int) + 44)) - 1)) 44)), (by first | rfl | (simp; done) | (simp [*]; done)), H', ⟨by first | omega | exact Nat.le_refl _⟩, ⟨sq HO393.out⟩, ⟨bq BK390.out⟩, ⟨bw1 HB.out GE390.out⟩⟩
 case rest =>
  clear HC3
  try clear c7b0
  try clear c7b1
  obtain ⟨kq, x6_2, rfl, HA, HJ2, HO_5, BK390, HB⟩ := hcut
  cases kq with
  | zero => exact absurd HA.out (by simp [spec_LogWrites.j0])
  | succ kj2 =>
   have H := HA.out
   clear HA
   simp only [spec_LogWrites.j0] at H
   have HC8 := Ak H
   clear H
   go_upto_region 5 with (fail)
   go_cut [31] (fun v31 wc => ∃ (kq : Nat) (x31_7 : Bool), v31 = .bool x31_7 ∧ Aside0 (spec_LogWrites.j1 kq l1 y391 x6_2 x31_7 a0_0 a0_1 a0_2 a0_3 = some r) ∧ Aside0 (kq ≤ kj2) ∧ Aside0 (Kd.S k96 96 wc w.heap.size (fun _ => True) v392 y391) ∧ Aside0 (wc.heap[gb390]? = some (.cells #[.int .i64 a0_0, .int .i64 a0_1, .int .i64 a0_2, .int .i64 a0_3] 32 (0, 0))) ∧ Aside0 (Below w.heap.size w wc))
   case first =>
    have H := HC8.out
    clear HC8
    replace H := Option.bind_eq_some_iff.mp H
    obtain ⟨t394, A90, H⟩ := H
    have A9 := Ak A90
    clear A90
    by_cases c10 : t394 = true
    ·subst c10
     rw [if_pos rfl] at H
     by_cases c11 : (l1.length : Int) > 4000
     ·rw [if_pos c11] at H
      have c11b0 : decide (4000 < (l1.length : Int)) = true := decide_eq_true c11
      have c11b1 : decide (4000 < l1.length) = true := decide_eq_true (by omega)
      clear c11
      (first | rw [c11b0] | (simp only [i64_w, i32_w]; rw [c11b0]) | skip)
      have H' := Ak H
      clear H
      have hcz12_0 : wc.cell? ⟨gb390, 0, none⟩ = some (.int .i64 a0_0) := zk0 BK390.out
      have hcz12_1 : wc.cell? ⟨gb390, 1, none⟩ = some (.int .i64 a0_1) := zk1 BK390.out
      have hcz12_2 : wc.cell? ⟨gb390, 2, none⟩ = some (.int .i64 a0_2) := zk2 BK390.out
      have hcz12_3 : wc.cell? ⟨gb390, 3, none⟩ = some (.int .i64 a0_3) := zk3 BK390.out
      have hfz12_0 := blk_frozen BK390.out 0
      have hfz12_1 := blk_frozen BK390.out 1
      have hfz12_2 := blk_frozen BK390.out 2
      have hfz12_3 := blk_frozen BK390.out 3
      go_wp2_with (first | ((with_reducible refine gate_callee (f := 93) rfl ?_); refine goesL_ (some 19) rfl rfl Try.func93 (by kernel_rfl) rfl #[.agg #[.int .i64 a0_0, .int .i64 a0_1, .int .i64 a0_2, .int .i64 a0_3]] rfl gm ?_; (with_reducible refine (spec_l12Fine.calls a0_0 a0_1 a0_2 a0_3 true _ A9.out).mono ?_); rintro e w13 ⟨rfl, hb⟩; refine ⟨_, rfl, ?_⟩; replace HO_5 := Ak (Kd.S_below (sq HO_5.out) hb); replace BK390 := Ak (blk_below (bq BK390.out) hb); replace HB := Ak (below_step (bw1 HB.out GE390.out) hb)))
      go_meet
      case rel => exact ⟨_, (true), (by first | rfl | (simp; done) | (simp [*]; done)), H', ⟨by have := HJ2.out; first | omega | exact Nat.le_refl _⟩, ⟨sq HO_5.out⟩, ⟨bq BK390.out⟩, ⟨bw1 HB.out GE390.out⟩⟩
     ·rw [if_neg c11] at H
      have c11b0 : decide (4000 < (l1.length : Int)) = false := decide_eq_false c11
      have c11b1 : decide (4000 < l1.length) = false := decide_eq_false (by omega)
      clear c11
      (first | rw [c11b0] | (simp only [i64_w, i32_w]; rw [c11b0]) | skip)
      replace H := Option.bind_eq_some_iff.mp H
      obtain ⟨t395, A140, H⟩ := H
      have A14 := Ak A140
      clear A140
      have H' := Ak H
      clear H
      have hcz15_0 : wc.cell? ⟨gb390, 0, none⟩ = some (.int .i64 a0_0) := zk0 BK390.out
      have hcz15_1 : wc.cell? ⟨gb390, 1, none⟩ = some (.int .i64 a0_1) := zk1 BK390.out
      have hcz15_2 : wc.cell? ⟨gb390, 2, none⟩ = some (.int .i64 a0_2) := zk2 BK390.out
      have hcz15_3 : wc.cell? ⟨gb390, 3, none⟩ = some (.int .i64 a0_3) := zk3 BK390.out
      have hfz15_0 := blk_frozen BK390.out 0
      have hfz15_1 := blk_frozen BK390.out 1
      have hfz15_2 := blk_frozen BK390.out 2
      have hfz15_3 := blk_frozen BK390.out 3
      go_wp2_with (first | ((with_reducible refine gate_callee (f := 93) rfl ?_); refine goesL_ (some 19) rfl rfl Try.func93 (by kernel_rfl) rfl #[.agg #[.int .i64 a0_0, .int .i64 a0_1, .int .i64 a0_2, .int .i64 a0_3]] rfl gm ?_; (with_reducible refine (spec_l12Fine.calls a0_0 a0_1 a0_2 a0_3 true _ A9.out).mono ?_); rintro e w16 ⟨rfl, hb⟩; refine ⟨_, rfl, ?_⟩; replace HO_5 := Ak (Kd.S_below (sq HO_5.out) hb); replace BK390 := Ak (blk_below (bq BK390.out) hb); replace HB := Ak (below_step (bw1 HB.out GE390.out) hb); have hcz17_0 := zk0 BK390.out; have hcz17_1 := zk1 BK390.out; have hcz17_2 := zk2 BK390.out; have hcz17_3 := zk3 BK390.out; have hfz17_0 := blk_frozen BK390.out 0; have hfz17_1 := blk_frozen BK390.out 1; have hfz17_2 := blk_frozen BK390.out 2; have hfz17_3 := blk_frozen BK390.out 3) | (go_at_call 94; (with_reducible refine (spec_LogRoom.calls a0_0 a0_1 a0_2 a0_3 t395 _ A14.out).mono ?_); rintro e w18 ⟨rfl, hb⟩; replace HO_5 := Ak (Kd.S_below (sq HO_5.out) hb); replace BK390 := Ak (blk_below (bq BK390.out) hb); replace HB := Ak (below_step (bw1 HB.out GE390.out) hb)))
      go_meet
      case rel => exact ⟨_, (decide (x6_2 > t395)), (by first | rfl | (simp; done) | (simp [*]; done)), H', ⟨by have := HJ2.out; first | omega | exact Nat.le_refl _⟩, ⟨sq HO_5.out⟩, ⟨bq BK390.out⟩, ⟨bw1 HB.out GE390.out⟩⟩
    ·replace c10 := Bool.eq_false_iff.mpr c10
     subst c10
     rw [if_neg (show ¬ (false = true) by decide)] at H
     have H' := Ak H
     clear H
     have hcz19_0 : wc.cell? ⟨gb390, 0, none⟩ = some (.int .i64 a0_0) := zk0 BK390.out
     have hcz19_1 : wc.cell? ⟨gb390, 1, none⟩ = some (.int .i64 a0_1) := zk1 BK390.out
     have hcz19_2 : wc.cell? ⟨gb390, 2, none⟩ = some (.int .i64 a0_2) := zk2 BK390.out
     have hcz19_3 : wc.cell? ⟨gb390, 3, none⟩ = some (.int .i64 a0_3) := zk3 BK390.out
     have hfz19_0 := blk_frozen BK390.out 0
     have hfz19_1 := blk_frozen BK390.out 1
     have hfz19_2 := blk_frozen BK390.out 2
     have hfz19_3 := blk_frozen BK390.out 3
     go_wp2_with (first | ((with_reducible refine gate_callee (f := 93) rfl ?_); refine goesL_ (some 19) rfl rfl Try.func93 (by kernel_rfl) rfl #[.agg #[.int .i64 a0_0, .int .i64 a0_1, .int .i64 a0_2, .int .i64 a0_3]] rfl gm ?_; (with_reducible refine (spec_l12Fine.calls a0_0 a0_1 a0_2 a0_3 false _ A9.out).mono ?_); rintro e w20 ⟨rfl, hb⟩; refine ⟨_, rfl, ?_⟩; replace HO_5 := Ak (Kd.S_below (sq HO_5.out) hb); replace BK390 := Ak (blk_below (bq BK390.out) hb); replace HB := Ak (below_step (bw1 HB.out GE390.out) hb)))
     go_meet
     case rel => exact ⟨_, (true), (by first | rfl | (simp; done) | (simp [*]; done)), H', ⟨by have := HJ2.out; first | omega | exact Nat.le_refl _⟩, ⟨sq HO_5.out⟩, ⟨bq BK390.out⟩, ⟨bw1 HB.out GE390.out⟩⟩
   case rest =>
    clear HC8
    try clear c7b0
    try clear c7b1
    try clear c11b0
    try clear c11b1
    obtain ⟨kq, x31_7, rfl, HA, HJ7, HO_5, BK390, HB⟩ := hcut
    cases kq with
    | zero => exact absurd HA.out (by simp [spec_LogWrites.j1])
    | succ kj7 =>
     have H := HA.out
     clear HA
     simp only [spec_LogWrites.j1] at H
     by_cases c21 : x31_7 = true
     ·subst c21
      rw [if_pos rfl] at H
      obtain rfl := Option.some.inj H
      go_wp2
      go_ret
      exact ⟨_, zw, sq HO_5.out, bw1 HB.out GE390.out⟩
     ·replace c21 := Bool.eq_false_iff.mpr c21
      subst c21
      rw [if_neg (show ¬ (false = true) by decide)] at H
      have H' := Ak H
      clear H
      go_wp2
      go_loopg [5, 7] kj7 (fun kq v5 v7 w' => ∃ (x5_3 : List (S96)) (x7_3 : Int), v7 = .int .i64 x7_3 ∧ Aside0 (spec_LogWrites.l0 kq l1 x5_3 x6_2 x7_3 a0_0 a0_1 a0_2 a0_3 = some r) ∧ Aside0 (kq ≤ kj7) ∧ Aside0 (Kd.S k96 96 w' w.heap.size (fun _ => True) v5 x5_3) ∧ Aside0 (w'.heap[gb390]? = some (.cells #[.int .i64 a0_0, .int .i64 a0_1, .int .i64 a0_2, .int .i64 a0_3] 32 (0, 0))) ∧ Aside0 (Below w.heap.size w w'))
      case atStart => exact ⟨(y391), (0), (by first | rfl | (simp; done) | (simp [*]; done)), H', ⟨Nat.le_refl _⟩, ⟨sq HO_5.out⟩, ⟨bq BK390.out⟩, ⟨bw1 HB.out GE390.out⟩⟩
      case round =>
       clear H'
       try clear c7b0
       try clear c7b1
       try clear c11b0
       try clear c11b1
       obtain ⟨x5_3, x7_3, rfl, HA, HK3, HO_5, BK390, HB⟩ := hrel
       cases gk with
       | zero => exact absurd HA.out (by simp [spec_LogWrites.l0])
       | succ k3 =>
        have H := HA.out
        clear HA
        simp only [spec_LogWrites.l0] at H
        by_cases c22 : x7_3 < x6_2
        ·rw [if_pos c22] at H
         have c22b0 := decide_eq_true c22
         clear c22
         replace H := Option.bind_eq_some_iff.mp H
         obtain ⟨t396, A230, H⟩ := H
         have A23 := Ak A230
         clear A230
         obtain ⟨ji24, hji24⟩ : ∃ j_ : Int, (wrap64 (x7_3 * 44)) = j_ := ⟨_, rfl⟩
         replace H : (if 0 ≤ (ji24) then (if (ji24) ≤ t396 then (if t396 ≤ (l1.length : Int) then ((spec_l12Sector.f k3 a0_3 (wrap64 (a0_2 + x7_3)) (decide ((wrap64 (x7_3 + 1)) < x6_2)) ((l1.take (t396 : Int).toNat).drop ((ji24) : Int).toNat)).bind fun t398 => (if x5_3.length < 4398046511104 then (spec_LogWrites.l0 k3 l1 (x5_3 ++ [(⟨wrap64 ((wrap64 (a0_0 + a0_2)) + x7_3), t398⟩ : S96)]) x6_2 (wrap64 (x7_3 + 1)) a0_0 a0_1 a0_2 a0_3) else (none))) else (none)) else (none)) else (none)) = some r := by first | (rw [hji24] at H; exact H) | (simp only [hji24] at H ⊢; exact H)
         (try rw [hji24] at A23)
         have hji24w : (IntKind.i64.wrap (x7_3 * 44)) = ji24 := (i64_w _).trans hji24
         by_cases c25 : 0 ≤ (ji24)
         ·rw [if_pos c25] at H
          have c25b0 := eq_true c25
          have c25b1 := decide_eq_true c25
          clear c25
          by_cases c26 : (ji24) ≤ t396
          ·rw [if_pos c26] at H
           have c26b0 := eq_true c26
           have c26b1 := decide_eq_true c26
           clear c26
           by_cases c27 : t396 ≤ (l1.length : Int)
           ·rw [if_pos c27] at H
            have c27b0 := eq_true c27
            have c27b1 := decide_eq_true c27
            clear c27
            replace H := Option.bind_eq_some_iff.mp H
            obtain ⟨t398, A280, H⟩ := H
            have A28 := Ak A280
            clear A280
            by_cases c29 : x5_3.length < 4398046511104
            ·rw [if_pos c29] at H
             have LMc29 := Ak c29
             clear c29
             generalize hy401 : (x5_3 ++ [(⟨wrap64 ((wrap64 (a0_0 + a0_2)) + x7_3), t398⟩ : S96)] : List (S96)) = y401 at H
             try rw [Option.bind_some] at H
             have Ny401 := Ak hy401.symm
             clear hy401
             have H' := Ak H
             clear H
             try go_wp2_with (first | ((with_reducible refine gate_callee (f := 95) rfl ?_); refine goesL_ (some 43) rfl rfl Try.func95 (by kernel_rfl) rfl #[.int .i64 (wrap64 ((wrap64 (x7_3 + 1)) * 44)), .int .i64 (l1.length : Int)] rfl gm ?_; (with_reducible refine (spec_l4Min.calls (wrap64 ((wrap64 (x7_3 + 1)) * 44)) (l1.length : Int) t396 _ A23.out).mono ?_); rintro e w' ⟨rfl, ⟨nd, rfl⟩⟩; refine ⟨_, rfl, ?_⟩))
             (try (rw [drewN_self wr]; generalize hq_ : World.drewN wr _ = wr; replace HO_5 : Aside0 (Kd.S k96 96 wr w.heap.size (fun _ => True) u5 x5_3) := ⟨by rw [← hq_]; exact (sq HO_5.out)⟩; replace BK390 : Aside0 (wr.heap[gb390]? = some (.cells #[.int .i64 a0_0, .int .i64 a0_1, .int .i64 a0_2, .int .i64 a0_3] 32 (0, 0))) := ⟨by rw [← hq_]; exact (bq BK390.out)⟩; replace HB : Aside0 (Below w.heap.size w wr) := ⟨by rw [← hq_]; exact (bw1 HB.out GE390.out)⟩; clear hq_))
             replace HO_5 := Ak (Kd.S_drew HO_5.out)
             replace BK390 := Ak (blk_drew BK390.out)
             replace HB := Ak (below_drew1 HB.out)
             obtain ⟨i031, hi031, _, hsz31, _⟩ := info_parts info5
             obtain ⟨A31, hcut31, hA31, hC31⟩ := print_mid_of (P := Try.prog) (Value.int .u8) 0 22 5 .i64 .i64 Try.underlying22 hi031 hsz31 A1 c1 l1 (ji24) t396 (of_decide_eq_true (by first | (with_reducible assumption) | assumption)) (by first | omega | exact of_decide_eq_true (by first | (with_reducible assumption) | assumption)) (of_decide_eq_true (by first | (with_reducible assumption) | assumption)) HC1.out
             have HR397 := Ak (Kd.C_of_reads (h1 := fun _ => rfl) (hA31 _ (Kd.reads_of_C HR1.out)))
             have HC397 := Ak hC31
             clear hA31 hC31 hi031 hsz31
             refine start_ (n := 17) (S := fun w' => w'.cell? ⟨gb390, 0, none⟩ = some (.int .i64 a0_0) ∧ w'.cell? ⟨gb390, 1, none⟩ = some (.int .i64 a0_1) ∧ w'.cell? ⟨gb390, 2, none⟩ = some (.int .i64 a0_2) ∧ w'.cell? ⟨gb390, 3, none⟩ = some (.int .i64 a0_3)) (ds := []) #[false, false, false, false, false, false, false, false, false, false, false, false, false, false, false, false, false] (by kernel_rfl) rfl rfl ⟨zk0 BK390.out, zk1 BK390.out, zk2 BK390.out, zk3 BK390.out⟩ (fun hHeld => ?_); refine with_tabW spec_LogWrites.tab11 spec_LogWrites.bits11 (fun HT_ HW_ => ?_)
             generalize wr.drew = w30 at HO_5 BK390 HB HR397 hHeld ⊢
             refine puT 0 44 HT_ (h := ?_)
             refine puT 2 46 HT_ (h := ?_)
             refine puT 4 48 HT_ (h := ?_)
             refine puT 6 50 HT_ (h := ?_)
             refine puT 7 51 HT_ (h := ?_)
             refine puT 8 52 HT_ (h := ?_)
             refine puT 9 53 HT_ (h := ?_)
             refine puT 10 54 HT_ (h := ?_)
             refine puT 11 55 HT_ (h := ?_)
             refine puT 12 56 HT_ (h := ?_)
             refine puT 13 57 HT_ (h := ?_)
             refine puT 14 58 HT_ (h := ?_)
             refine taT 1 45 HT_ HW_ hHeld (h := ?_)
             refine taT 3 47 HT_ HW_ hHeld (h := ?_)
             refine puT 5 49 HT_ (h := ?_)
             refine onT 15 (some 59) HT_ (h := fun K hK => ?_)
             refine goes_ Try.func96 (by kernel_rfl) rfl #[.int .i64 a0_3, .int .i64 (wrap64 (a0_2 + x7_3)), .bool (decide ((wrap64 (x7_3 + 1)) < x6_2)), .slice A31 ((l1.take (t396 : Int).toNat).drop ((ji24) : Int).toNat).length (c1 - (ji24).toNat)] (by rfl) rfl rfl (by (try simp only [List.map_toArray, List.map_cons, List.map_nil]); first | done | (rw [show ((l1.take (t396 : Int).toNat).drop ((ji24) : Int).toNat).length = (t396.toNat - (ji24).toNat) from (by rw [List.length_drop, List.length_take]; have h_ : (t396 : Int) ≤ (l1.length : Int) := of_decide_eq_true (by first | (with_reducible assumption) | assumption); omega)] <;> rfl) | (simp only [hji24]; rfl) | rfl | (simp only [List.length_drop, List.length_take]; rfl)) ?_
             with_reducible refine (spec_l12Sector.calls k3 a0_3 (wrap64 (a0_2 + x7_3)) (decide ((wrap64 (x7_3 + 1)) < x6_2)) _ _ ((l1.take (t396 : Int).toNat).drop ((ji24) : Int).toNat) t398 _ ?side1 ?side2 A28.out).mono ?_
             (case side1 => exact zq (Kd.C_below HR397.out HB.out))
             (case side2 => exact HC397.out)
             rintro e w32 ⟨v399, rfl, ho0, hb⟩
             refine ⟨_, rfl, ?_⟩
             replace HO_5 := Ak (Kd.S_elder' (sq HO_5.out) (Kd.R_base ho0) hb)
             have HO400 := Ak (Kd.R_lower ho0 (below_size (bw1 HB.out GE390.out)))
             replace BK390 := Ak (blk_below (bq BK390.out) hb)
             replace HB := Ak (below_step (bw1 HB.out GE390.out) hb)
             refine hK.out _ _ ⟨zk0 BK390.out, zk1 BK390.out, zk2 BK390.out, zk3 BK390.out⟩ (fun hHeld => ?_)
             clear hK K
             refine norm_ (a' := ?_) ?_ ?_
             rotate_left
             ·show Act.put _ (some 59) _ = _
              simp only [Act.put, sT, sZ, sS, i64_w, i32_w]
              rfl
             refine puT 16 9 HT_ (h := ?_)
             refine done_ (done_of HT_.out (by kernel_rfl)) ?_
             have hcz33_0 := zk0 BK390.out
             have hcz33_1 := zk1 BK390.out
             have hcz33_2 := zk2 BK390.out
             have hcz33_3 := zk3 BK390.out
             have hfz33_0 := blk_frozen BK390.out 0
             have hfz33_1 := blk_frozen BK390.out 1
             have hfz33_2 := blk_frozen BK390.out 2
             have hfz33_3 := blk_frozen BK390.out 3
             obtain ⟨Ao34, co34, eo34⟩ := Kd.R_slice HO400.out
             subst eo34
             try go_wp2_with (first | ((with_reducible refine gate_builtin (b := .append) (xs := #[.tmp 60, .tmp 70]) rfl ?_); (try (refine gate_guard (by rfl) ?_; dsimp only)); at_builtin; refine Kd.S_append k96 (w0 := w) w.heap.size rfl (.tmp 60) (.tmp 70) 29 96 (.agg #[(.int .i64 0), (.slice none 0 0)]) 32 rfl Try.underlying29 info96 rfl (by decide) (by omega) u5 x5_3 (⟨wrap64 ((wrap64 (a0_0 + a0_2)) + x7_3), t398⟩ : S96) [.int .i64 (wrap64 ((wrap64 (a0_0 + a0_2)) + x7_3)), .slice Ao34 t398.length co34] (fun _ => True) (fun k_ => some k_ = (.slice Ao34 t398.length co34 : Value).ownBlock) rfl rfl ?aP (fun k_ hk_ => ((Kd.R_mono (ok' := fun k_ => ((fun _ => True)) k_ ∧ some k_ ≠ (u5 : Value).ownBlock) (Kd.R_apart' (HO400.out) (Kd.S_typed HO_5.out) (by decide)) (fun k_ hk => ⟨trivial, hk.2⟩))).1 k_ hk_.symm) ?aF ?aO ?aB ?aS ?aL ?_; (case aP => exact k96_mkM _ _ _ (⟨wrap64 ((wrap64 (a0_0 + a0_2)) + x7_3), t398⟩ : S96) (Kd.R_mono (Kd.R_tight rfl (Kd.R_mono (ok' := fun k_ => ((fun _ => True)) k_ ∧ some k_ ≠ (u5 : Value).ownBlock) (Kd.R_apart' (HO400.out) (Kd.S_typed HO_5.out) (by decide)) (fun k_ hk => ⟨trivial, hk.2⟩))) (fun _ h_ => h_))); (case aB => exact (bw1 HB.out GE390.out)); (case aF => exact (fun _ _ => trivial)); (case aO => exact (by refine sq ?_; exact Kd.S_mono HO_5.out (fun k_ hk => ⟨trivial, fun e_ => hk.2 e_⟩))); (case aS => exact (below_size (bw1 HB.out GE390.out))); (case aL => have := LMc29.out; omega); intro v402 w35 ho hb hg hat; rw [← Ny401.out] at ho; replace BK390 := Ak (blk_grown (g := gb390) (o := .cells #[.int .i64 a0_0, .int .i64 a0_1, .int .i64 a0_2, .int .i64 a0_3] 32 (0, 0)) (bq BK390.out) hg (Kd.S_ne HO_5.out BK390.out (by decide))); replace HB := Ak (hb); have HO403 := Ak (ho); clear HO_5 HO400; clear ho hb hg hat))
             go_roundg k3
             case measure => have := HJ2.out; have := HJ7.out; have := HK3.out; omega
             case rel => exact ⟨(y401), (wrap64 (x7_3 + 1)), (by first | rfl | (simp; done) | (simp [*]; done)), H', ⟨by have := HJ2.out; have := HJ7.out; have := HK3.out; omega⟩, ⟨sq HO403.out⟩, ⟨bq BK390.out⟩, ⟨bw1 HB.out GE390.out⟩⟩
            ·rw [if_neg c29] at H
             exact absurd H (by simp)
           ·rw [if_neg c27] at H
            exact absurd H (by simp)
          ·rw [if_neg c26] at H
           exact absurd H (by simp)
         ·rw [if_neg c25] at H
          exact absurd H (by simp)
        ·rw [if_neg c22] at H
         have c22b0 := decide_eq_false c22
         clear c22
         obtain rfl := Option.some.inj H
         go_wp2
         go_ret
         exact ⟨_, zw, sq HO_5.out, bw1 HB.out GE390.out⟩

mutual
def spec_DiskOk.j0 : Nat → Bool → List Int → List (S96) → Option (Bool)
 | 0, _, _, _ => none
 | k + 1, x14, x405000, x405001 => if x14 = true then (some false) else (spec_DiskOk.l0 k 0 x405000 x405001)
def spec_DiskOk.l0 : Nat → Int → List Int → List (S96) → Option (Bool)
 | 0, _, _, _ => none
 | k + 1, x3, x405000, x405001 => if x3 < (x405001.length : Int) then (if 0 ≤ x3 then ((spec_l11Many.f x405000 x405001).bind fun t408 => ((spec_l1In.f ((rd_T96 x405001 x3).f0) 0 (wrap64 (t408 - 1))).bind fun t409 => (if t409 = true then (if (((rd_T96 x405001 x3).f1).length : Int) = 64 then (spec_DiskOk.l0 k (wrap64 (x3 + 1)) x405000 x405001) else (some false)) else (some false)))) else (none)) else (some true)
end
def spec_DiskOk.f (k : Nat) (l0_0 : List Int) (l0_1 : List (S96)) : Option (Bool) := if ((l0_0.length : Int) % 64) = 0 then ((spec_l11Many.f l0_0 l0_1).bind fun t405 => ((spec_l1In.f t405 1 400).bind fun t406 => (spec_DiskOk.j0 k (!t406) l0_0 l0_1))) else (spec_DiskOk.j0 k true l0_0 l0_1)
def spec_DiskOk.T6 : Bool × List (List Nat × List Nat) := (true, [([], []), ([0], [0]), ([], []), ([1, 2], [1, 2]), ([3], [3]), ([4], [4]), ([], []), ([6], [6]), ([7], [7]), ([5, 8, 7], [5, 8]), ([9], [9]), ([10, 9], [10]), ([11], [11]), ([12, 11], [11, 12]), ([11], [11]), ([13, 14, 11], [11, 13, 14]), ([15, 11], [11, 15]), ([16, 11], [11, 16]), ([17, 11], [11, 17]), ([18, 11], [11, 18]), ([11, 19], [11, 19])])
def spec_DiskOk.B6 : List Nat := [0, 1, 0, 7, 15, 31, 0, 64, 192, 511, 1023, 2047, 4095, 8191, 4095, 32767, 65535, 131071, 262143, 524287, 1048575]
theorem spec_DiskOk.tab6 : rtab .any (opsOf Try.f98 6) = spec_DiskOk.T6 := by kernel_rfl
theorem spec_DiskOk.bits6 : waitsOk spec_DiskOk.T6.2 spec_DiskOk.B6 = true := by kernel_rfl
set_option maxHeartbeats 8000000 in
set_option maxRecDepth 100000 in
theorem spec_DiskOk.calls (k : Nat) (A0_0 : Option Addr) (c0_0 : Nat) (l0_0 : List Int) (A0_1 : Option Addr) (c0_1 : Nat) (l0_1 : List (S96)) (r : Bool) (w : World) (hr0_0 : Kd.C (Kd.int .u8) w A0_0 l0_0.length l0_0) (hc0_0 : l0_0.length ≤ c0_0) (hr0_1 : Kd.C k96 w A0_1 l0_1.length l0_1) (hc0_1 : l0_1.length ≤ c0_1) (h : spec_DiskOk.f k l0_0 l0_1 = some r) :
  Calls Try.prog 98 #[.agg #[.slice A0_0 l0_0.length c0_0, .slice A0_1 l0_1.length c0_1]] w fun e w' => e = .returned (.bool r) ∧ Below w.heap.size w w' := by
 have hu31 := Try.underlying31
 have HR0_0 := Ak hr0_0
 have HC0_0 := Ak hc0_0
 clear hr0_0 hc0_0
 have HR0_1 := Ak hr0_1
 have HC0_1 := Ak hc0_1
 clear hr0_1 hc0_1
 have HB := Ak (Below.refl w.heap.size w)
 have H := h
 unfold spec_DiskOk.f at H
 clear h
 have HC2 := Ak H
 clear H
 go_enter Try.func98, Try.ntmps98
 go_upto_region 1 with (first | ((with_reducible refine gate_dst (N := 1) rfl ?_); (try (refine gate_guard (by rfl) ?_; dsimp only)); refine box_event ?hg (N := 1) ?hd (cs := #[.slice A0_0 l0_0.length c0_0, .slice A0_1 l0_1.length c0_1]) (t := 31) ?hr ?_; (case hd => rfl); (case hg => rfl); (case hr => first | (go_simp; done) | (go_simp; rfl)); intro gb404 hg w3 hbox hb; have BK404 := Ak (hbox); have GW404 := Ak ((zb hg (bw HB.out))); have GE404 := Ak ((zb hg (bw HB.out))); replace HB := Ak (below_step (bw HB.out) hb); clear hb hbox hg))
 (try simp only [Act.put, sT, sZ, sS])
 go_cut [14] (fun v14 wc => ∃ (kq : Nat) (x14_1 : Bool), v14 = .bool x14_1 ∧ Aside0 (spec_DiskOk.j0 kq x14_1 l0_0 l0_1 = some r) ∧ Aside0 (kq ≤ k) ∧ Aside0 (wc.heap[gb404]? = some (.cells #[(.slice A0_0 l0_0.length c0_0), (.slice A0_1 l0_1.length c0_1)] 31 (0, 0))) ∧ Aside0 (Below w.heap.size w wc))
 case first =>
  have H := HC2.out
  clear HC2
  by_cases c4 : ((l0_0.length : Int) % 64) = 0
  ·rw [if_pos c4] at H
   have c4b0 : (((l0_0.length : Int) % 64) == 0) = true := beq_iff_eq.mpr c4
   have c4b1 : (((l0_0.length : Int) % 64) != 0) = false := bne_eq_false_iff_eq.mpr c4
   clear c4
   (first | rw [c4b0] | (simp only [i64_w, i32_w]; rw [c4b0]) | skip)
   replace H := Option.bind_eq_some_iff.mp H
   obtain ⟨t405, A50, H⟩ := H
   have A5 := Ak A50
   clear A50
   replace H := Option.bind_eq_some_iff.mp H
   obtain ⟨t406, A60, H⟩ := H
   have A6 := Ak A60
   clear A60
   have H' := Ak H
   clear H
   have hcz7_0 := zk0 BK404.out
   have hcz7_1 := zk1 BK404.out
   have hfz7_0 := blk_frozen BK404.out 0
   have hfz7_1 := blk_frozen BK404.out 1
   go_wp2_with (first | (go_at_call 104; (with_reducible refine (spec_l11Many.calls _ _ l0_0 _ _ l0_1 t405 _ ?side1 ?side2 ?side3 ?side4 A5.out).mono ?_); (case side1 => exact zq (Kd.C_below HR0_0.out HB.out)); (case side2 => exact HC0_0.out); (case side3 => exact zq (Kd.C_below HR0_1.out HB.out)); (case side4 => exact HC0_1.out); rintro e w8 ⟨rfl, hb⟩; replace BK404 := Ak (blk_below (bq BK404.out) hb); replace HB := Ak (below_step (bw1 HB.out GE404.out) hb)) | (go_at_call 97; (with_reducible refine (spec_l1In.calls t405 1 400 t406 _ A6.out).mono ?_); rintro e w' ⟨rfl, ⟨nd, rfl⟩⟩))
   go_meet
   case rel => exact ⟨_, (!t406), (by first | rfl | (simp; done) | (simp [*]; done)), H', ⟨by first | omega | exact Nat.le_refl _⟩, ⟨bq BK404.out⟩, ⟨bw1 HB.out GE404.out⟩⟩
  ·rw [if_neg c4] at H
   have c4b0 : (((l0_0.length : Int) % 64) == 0) = false := beq_eq_false_iff_ne.mpr c4
   have c4b1 : (((l0_0.length : Int) % 64) != 0) = true := bne_iff_ne.mpr c4
   (first | rw [c4b0] | (simp only [i64_w, i32_w]; rw [c4b0]) | skip)
   have H' := Ak H
   clear H
   have hcz9_0 := zk0 BK404.out
   have hcz9_1 := zk1 BK404.out
   have hfz9_0 := blk_frozen BK404.out 0
   have hfz9_1 := blk_frozen BK404.out 1
   go_wp2
   go_meet
   case rel => exact ⟨_, (true), (by first | rfl | (simp; done) | (simp [*]; done)), H', ⟨by first | omega | exact Nat.le_refl _⟩, ⟨bq BK404.out⟩, ⟨bw1 HB.out GE404.out⟩⟩
 case rest =>
  clear HC2
  try clear c4b0
  try clear c4b1
  obtain ⟨kq, x14_1, rfl, HA, HJ1, BK404, HB⟩ := hcut
  cases kq with
  | zero => exact absurd HA.out (by simp [spec_DiskOk.j0])
  | succ kj1 =>
   have H := HA.out
   clear HA
   simp only [spec_DiskOk.j0] at H
   by_cases c10 : x14_1 = true
   ·subst c10
    rw [if_pos rfl] at H
    obtain rfl := Option.some.inj H
    go_wp2
    go_ret
    exact ⟨zw, bw1 HB.out GE404.out⟩
   ·replace c10 := Bool.eq_false_iff.mpr c10
    subst c10
    rw [if_neg (show ¬ (false = true) by decide)] at H
    have H' := Ak H
    clear H
    go_wp2
    go_loopg [3] kj1 (fun kq v3 w' => ∃ (x3_2 : Int), v3 = .int .i64 x3_2 ∧ Aside0 (spec_DiskOk.l0 kq x3_2 l0_0 l0_1 = some r) ∧ Aside0 (kq ≤ kj1) ∧ Aside0 (w'.heap[gb404]? = some (.cells #[(.slice A0_0 l0_0.length c0_0), (.slice A0_1 l0_1.length c0_1)] 31 (0, 0))) ∧ Aside0 (Below w.heap.size w w'))
    case atStart => exact ⟨(0), (by first | rfl | (simp; done) | (simp [*]; done)), H', ⟨Nat.le_refl _⟩, ⟨bq BK404.out⟩, ⟨bw1 HB.out GE404.out⟩⟩
    case round =>
     clear H'
     try clear c4b0
     try clear c4b1
     obtain ⟨x3_2, rfl, HA, HK2, BK404, HB⟩ := hrel
     cases gk with
     | zero => exact absurd HA.out (by simp [spec_DiskOk.l0])
     | succ k2 =>
      have H := HA.out
      clear HA
      simp only [spec_DiskOk.l0] at H
      by_cases c11 : x3_2 < (l0_1.length : Int)
      ·rw [if_pos c11] at H
       have c11b0 := decide_eq_true c11
       clear c11
       by_cases c12 : 0 ≤ x3_2
       ·rw [if_pos c12] at H
        have c12b0 := decide_eq_true c12
        clear c12
        replace H := Option.bind_eq_some_iff.mp H
        obtain ⟨t408, A130, H⟩ := H
        have A13 := Ak A130
        clear A130
        replace H := Option.bind_eq_some_iff.mp H
        obtain ⟨t409, A140, H⟩ := H
        have A14 := Ak A140
        clear A140
        by_cases c15 : t409 = true
        ·subst c15
         rw [if_pos rfl] at H
         by_cases c16 : (((rd_T96 l0_1 x3_2).f1).length : Int) = 64
         ·rw [if_pos c16] at H
          have c16b0 : ((((rd_T96 l0_1 x3_2).f1).length : Int) == 64) = true := beq_iff_eq.mpr c16
          have c16b1 : ((((rd_T96 l0_1 x3_2).f1).length : Int) != 64) = false := bne_eq_false_iff_eq.mpr c16
          clear c16
          have H' := Ak H
          clear H
          have hcz17_0 : wr.cell? ⟨gb404, 0, none⟩ = some (.slice A0_0 l0_0.length c0_0) := zk0 BK404.out
          have hcz17_1 : wr.cell? ⟨gb404, 1, none⟩ = some (.slice A0_1 l0_1.length c0_1) := zk1 BK404.out
          have hfz17_0 := blk_frozen BK404.out 0
          have hfz17_1 := blk_frozen BK404.out 1
          try go_wp2
          replace BK404 := Ak (blk_drew BK404.out)
          replace HB := Ak (below_drew1 HB.out)
          have p407 : 0 ≤ (x3_2 : Int) := of_decide_eq_true (by first | (with_reducible assumption) | assumption)
          have q407 : x3_2 < (l0_1.length : Int) := of_decide_eq_true (by first | (with_reducible assumption) | assumption)
          obtain ⟨ad407, A407_1, c407_1, e407, hx407_0, hx407_1, hl407_1, hi407_1⟩ := at_T96 HR0_1.out x3_2 p407 q407
          have hw407_1 := hx407_1
          have hw407_0 := hx407_0
          cases e407
          replace hx407_0 := (HB.out.cell (World.block_lt_of_cell? w _ hx407_0)).trans hx407_0
          replace hx407_1 := (HB.out.cell (World.block_lt_of_cell? w _ hx407_1)).trans hx407_1
          have HR407_1 := Ak hi407_1
          have HC407_1 := Ak hl407_1
          clear hi407_1 hl407_1
          replace p407 := eq_true p407
          replace q407 := eq_true q407
          have p410 : 0 ≤ (x3_2 : Int) := of_decide_eq_true (by first | (with_reducible assumption) | assumption)
          have q410 : x3_2 < (l0_1.length : Int) := of_decide_eq_true (by first | (with_reducible assumption) | assumption)
          obtain ⟨ad410, A410_1, c410_1, e410, hx410_0, hx410_1, hl410_1, hi410_1⟩ := at_T96 HR0_1.out x3_2 p410 q410
          have hw410_1 := hx410_1
          have hw410_0 := hx410_0
          obtain rfl : ad407 = ad410 := (by injection e410)
          replace hx410_0 := (HB.out.cell (World.block_lt_of_cell? w _ hx410_0)).trans hx410_0
          replace hx410_1 := (HB.out.cell (World.block_lt_of_cell? w _ hx410_1)).trans hx410_1
          have HR410_1 := Ak hi410_1
          have HC410_1 := Ak hl410_1
          clear hi410_1 hl410_1
          replace p410 := eq_true p410
          replace q410 := eq_true q410
          refine start_ (n := 21) (S := fun w' => w'.cell? ⟨gb404, 0, none⟩ = some (.slice A0_0 l0_0.length c0_0) ∧ w'.cell? ⟨gb404, 1, none⟩ = some (.slice (some ad407) l0_1.length c0_1) ∧ w'.cell? (ad407.add ((x3_2).toNat * 2)) = some (.int .i64 ((rd_T96 l0_1 x3_2).f0)) ∧ w'.cell? ⟨(ad407.add ((x3_2).toNat * 2)).block, (ad407.add ((x3_2).toNat * 2)).off + 1, none⟩ = some (.slice A407_1 ((rd_T96 l0_1 x3_2).f1).length c407_1) ∧ w'.cell? (ad407.add ((x3_2).toNat * 2)) = some (.int .i64 ((rd_T96 l0_1 x3_2).f0)) ∧ w'.cell? ⟨(ad407.add ((x3_2).toNat * 2)).block, (ad407.add ((x3_2).toNat * 2)).off + 1, none⟩ = some (.slice A410_1 ((rd_T96 l0_1 x3_2).f1).length c410_1)) (ds := []) #[false, false, false, false, false, false, false, false, false, false, false, false, false, false, false, false, false, false, false, false, false] (by kernel_rfl) rfl rfl ⟨zk0 BK404.out, zk1 BK404.out, ((HB.out.cell (World.block_lt_of_cell? w _ hw407_0)).trans hw407_0), ((HB.out.cell (World.block_lt_of_cell? w _ hw407_1)).trans hw407_1), ((HB.out.cell (World.block_lt_of_cell? w _ hw410_0)).trans hw410_0), ((HB.out.cell (World.block_lt_of_cell? w _ hw410_1)).trans hw410_1)⟩ (fun hHeld => ?_); refine with_tabW spec_DiskOk.tab6 spec_DiskOk.bits6 (fun HT_ HW_ => ?_)
          generalize wr.drew = w18 at BK404 HB HR407_1 HR410_1 hx407_0 hx407_1 hx410_0 hx410_1 hHeld ⊢
          refine puT 0 22 HT_ (h := ?_)
          refine puT 2 24 HT_ (h := ?_)
          refine taT 1 23 HT_ HW_ hHeld (h := ?_)
          refine puT 3 25 HT_ (h := ?_)
          refine puT 4 26 HT_ (h := ?_)
          refine taT 5 27 HT_ HW_ hHeld (h := ?_)
          refine taT 6 28 HT_ HW_ hHeld (h := ?_)
          refine onT 7 (some 29) HT_ (h := fun K hK => ?_)
          refine goes_ Try.func104 (by kernel_rfl) rfl #[.agg #[.slice A0_0 l0_0.length c0_0, .slice (some ad407) l0_1.length c0_1]] (by rfl) rfl rfl gm ?_
          with_reducible refine (spec_l11Many.calls _ _ l0_0 _ _ l0_1 t408 _ ?side1 ?side2 ?side3 ?side4 A13.out).mono ?_
          (case side1 => exact zq (Kd.C_below HR0_0.out HB.out))
          (case side2 => exact HC0_0.out)
          (case side3 => exact zq (Kd.C_below HR0_1.out HB.out))
          (case side4 => exact HC0_1.out)
          rintro e w19 ⟨rfl, hb⟩
          refine ⟨_, rfl, ?_⟩
          replace BK404 := Ak (blk_below (bq BK404.out) hb)
          replace HB := Ak (below_step (bw1 HB.out GE404.out) hb)
          refine hK.out _ _ ⟨zk0 BK404.out, zk1 BK404.out, ((HB.out.cell (World.block_lt_of_cell? w _ hw407_0)).trans hw407_0), ((HB.out.cell (World.block_lt_of_cell? w _ hw407_1)).trans hw407_1), ((HB.out.cell (World.block_lt_of_cell? w _ hw410_0)).trans hw410_0), ((HB.out.cell (World.block_lt_of_cell? w _ hw410_1)).trans hw410_1)⟩ (fun hHeld => ?_)
          clear hK K
          refine norm_ (a' := ?_) ?_ ?_
          rotate_left
          ·show Act.put _ (some 29) _ = _
           simp only [Act.put, sT, sZ, sS, i64_w, i32_w]
           rfl
          refine puT 8 30 HT_ (h := ?_)
          refine onT 9 (some 31) HT_ (h := fun K hK => ?_)
          refine goes_ Try.func97 (by kernel_rfl) rfl #[.int .i64 ((rd_T96 l0_1 x3_2).f0), .int .i64 0, .int .i64 (wrap64 (t408 - 1))] (by rfl) rfl rfl gm ?_
          with_reducible refine (spec_l1In.calls ((rd_T96 l0_1 x3_2).f0) 0 (wrap64 (t408 - 1)) true _ A14.out).mono ?_
          rintro e w' ⟨rfl, ⟨nd, rfl⟩⟩
          refine ⟨_, rfl, ?_⟩
          refine hK.out _ _ ⟨zk0 BK404.out, zk1 BK404.out, ((HB.out.cell (World.block_lt_of_cell? w _ hw407_0)).trans hw407_0), ((HB.out.cell (World.block_lt_of_cell? w _ hw407_1)).trans hw407_1), ((HB.out.cell (World.block_lt_of_cell? w _ hw410_0)).trans hw410_0), ((HB.out.cell (World.block_lt_of_cell? w _ hw410_1)).trans hw410_1)⟩ (fun hHeld => ?_)
          clear hK K
          refine norm_ (a' := ?_) ?_ ?_
          rotate_left
          ·show Act.put _ (some 31) _ = _
           simp only [Act.put, sT, sZ, sS, i64_w, i32_w]
           rfl
          refine puT 10 32 HT_ (h := ?_)
          refine puT 11 33 HT_ (h := ?_)
          refine puT 12 34 HT_ (h := ?_)
          refine puT 14 36 HT_ (h := ?_)
          refine taT 13 35 HT_ HW_ hHeld (h := ?_)
          refine puT 15 37 HT_ (h := ?_)
          refine puT 16 38 HT_ (h := ?_)
          refine taT 17 39 HT_ HW_ hHeld (h := ?_)
          refine puT 18 40 HT_ (h := ?_)
          refine puT 19 41 HT_ (h := ?_)
          refine puT 20 42 HT_ (h := ?_)
          refine done_ (done_of HT_.out (by kernel_rfl)) ?_
          try go_wp2
          go_roundg k2
          case measure => have := HJ1.out; have := HK2.out; omega
          case rel => exact ⟨(wrap64 (x3_2 + 1)), (by first | rfl | (simp; done) | (simp [*]; done)), H', ⟨by have := HJ1.out; have := HK2.out; omega⟩, ⟨bq BK404.out⟩, ⟨bw1 HB.out GE404.out⟩⟩
         ·rw [if_neg c16] at H
          have c16b0 : ((((rd_T96 l0_1 x3_2).f1).length : Int) == 64) = false := beq_eq_false_iff_ne.mpr c16
          have c16b1 : ((((rd_T96 l0_1 x3_2).f1).length : Int) != 64) = true := bne_iff_ne.mpr c16
          obtain rfl := Option.some.inj H
          have hcz20_0 : wr.cell? ⟨gb404, 0, none⟩ = some (.slice A0_0 l0_0.length c0_0) := zk0 BK404.out
          have hcz20_1 : wr.cell? ⟨gb404, 1, none⟩ = some (.slice A0_1 l0_1.length c0_1) := zk1 BK404.out
          have hfz20_0 := blk_frozen BK404.out 0
          have hfz20_1 := blk_frozen BK404.out 1
          try go_wp2
          replace BK404 := Ak (blk_drew BK404.out)
          replace HB := Ak (below_drew1 HB.out)
          have p407 : 0 ≤ (x3_2 : Int) := of_decide_eq_true (by first | (with_reducible assumption) | assumption)
          have q407 : x3_2 < (l0_1.length : Int) := of_decide_eq_true (by first | (with_reducible assumption) | assumption)
          obtain ⟨ad407, A407_1, c407_1, e407, hx407_0, hx407_1, hl407_1, hi407_1⟩ := at_T96 HR0_1.out x3_2 p407 q407
          have hw407_1 := hx407_1
          have hw407_0 := hx407_0
          cases e407
          replace hx407_0 := (HB.out.cell (World.block_lt_of_cell? w _ hx407_0)).trans hx407_0
          replace hx407_1 := (HB.out.cell (World.block_lt_of_cell? w _ hx407_1)).trans hx407_1
          have HR407_1 := Ak hi407_1
          have HC407_1 := Ak hl407_1
          clear hi407_1 hl407_1
          replace p407 := eq_true p407
          replace q407 := eq_true q407
          have p410 : 0 ≤ (x3_2 : Int) := of_decide_eq_true (by first | (with_reducible assumption) | assumption)
          have q410 : x3_2 < (l0_1.length : Int) := of_decide_eq_true (by first | (with_reducible assumption) | assumption)
          obtain ⟨ad410, A410_1, c410_1, e410, hx410_0, hx410_1, hl410_1, hi410_1⟩ := at_T96 HR0_1.out x3_2 p410 q410
          have hw410_1 := hx410_1
          have hw410_0 := hx410_0
          obtain rfl : ad407 = ad410 := (by injection e410)
          replace hx410_0 := (HB.out.cell (World.block_lt_of_cell? w _ hx410_0)).trans hx410_0
          replace hx410_1 := (HB.out.cell (World.block_lt_of_cell? w _ hx410_1)).trans hx410_1
          have HR410_1 := Ak hi410_1
          have HC410_1 := Ak hl410_1
          clear hi410_1 hl410_1
          replace p410 := eq_true p410
          replace q410 := eq_true q410
          refine start_ (n := 21) (S := fun w' => w'.cell? ⟨gb404, 0, none⟩ = some (.slice A0_0 l0_0.length c0_0) ∧ w'.cell? ⟨gb404, 1, none⟩ = some (.slice (some ad407) l0_1.length c0_1) ∧ w'.cell? (ad407.add ((x3_2).toNat * 2)) = some (.int .i64 ((rd_T96 l0_1 x3_2).f0)) ∧ w'.cell? ⟨(ad407.add ((x3_2).toNat * 2)).block, (ad407.add ((x3_2).toNat * 2)).off + 1, none⟩ = some (.slice A407_1 ((rd_T96 l0_1 x3_2).f1).length c407_1) ∧ w'.cell? (ad407.add ((x3_2).toNat * 2)) = some (.int .i64 ((rd_T96 l0_1 x3_2).f0)) ∧ w'.cell? ⟨(ad407.add ((x3_2).toNat * 2)).block, (ad407.add ((x3_2).toNat * 2)).off + 1, none⟩ = some (.slice A410_1 ((rd_T96 l0_1 x3_2).f1).length c410_1)) (ds := []) #[false, false, false, false, false, false, false, false, false, false, false, false, false, false, false, false, false, false, false, false, false] (by kernel_rfl) rfl rfl ⟨zk0 BK404.out, zk1 BK404.out, ((HB.out.cell (World.block_lt_of_cell? w _ hw407_0)).trans hw407_0), ((HB.out.cell (World.block_lt_of_cell? w _ hw407_1)).trans hw407_1), ((HB.out.cell (World.block_lt_of_cell? w _ hw410_0)).trans hw410_0), ((HB.out.cell (World.block_lt_of_cell? w _ hw410_1)).trans hw410_1)⟩ (fun hHeld => ?_); refine with_tabW spec_DiskOk.tab6 spec_DiskOk.bits6 (fun HT_ HW_ => ?_)
          generalize wr.drew = w21 at BK404 HB HR407_1 HR410_1 hx407_0 hx407_1 hx410_0 hx410_1 hHeld ⊢
          refine puT 0 22 HT_ (h := ?_)
          refine puT 2 24 HT_ (h := ?_)
          refine taT 1 23 HT_ HW_ hHeld (h := ?_)
          refine puT 3 25 HT_ (h := ?_)
          refine puT 4 26 HT_ (h := ?_)
          refine taT 5 27 HT_ HW_ hHeld (h := ?_)
          refine taT 6 28 HT_ HW_ hHeld (h := ?_)
          refine onT 7 (some 29) HT_ (h := fun K hK => ?_)
          refine goes_ Try.func104 (by kernel_rfl) rfl #[.agg #[.slice A0_0 l0_0.length c0_0, .slice (some ad407) l0_1.length c0_1]] (by rfl) rfl rfl gm ?_
          with_reducible refine (spec_l11Many.calls _ _ l0_0 _ _ l0_1 t408 _ ?side1 ?side2 ?side3 ?side4 A13.out).mono ?_
          (case side1 => exact zq (Kd.C_below HR0_0.out HB.out))
          (case side2 => exact HC0_0.out)
          (case side3 => exact zq (Kd.C_below HR0_1.out HB.out))
          (case side4 => exact HC0_1.out)
          rintro e w22 ⟨rfl, hb⟩
          refine ⟨_, rfl, ?_⟩
          replace BK404 := Ak (blk_below (bq BK404.out) hb)
          replace HB := Ak (below_step (bw1 HB.out GE404.out) hb)
          refine hK.out _ _ ⟨zk0 BK404.out, zk1 BK404.out, ((HB.out.cell (World.block_lt_of_cell? w _ hw407_0)).trans hw407_0), ((HB.out.cell (World.block_lt_of_cell? w _ hw407_1)).trans hw407_1), ((HB.out.cell (World.block_lt_of_cell? w _ hw410_0)).trans hw410_0), ((HB.out.cell (World.block_lt_of_cell? w _ hw410_1)).trans hw410_1)⟩ (fun hHeld => ?_)
          clear hK K
          refine norm_ (a' := ?_) ?_ ?_
          rotate_left
          ·show Act.put _ (some 29) _ = _
           simp only [Act.put, sT, sZ, sS, i64_w, i32_w]
           rfl
          refine puT 8 30 HT_ (h := ?_)
          refine onT 9 (some 31) HT_ (h := fun K hK => ?_)
          refine goes_ Try.func97 (by kernel_rfl) rfl #[.int .i64 ((rd_T96 l0_1 x3_2).f0), .int .i64 0, .int .i64 (wrap64 (t408 - 1))] (by rfl) rfl rfl gm ?_
          with_reducible refine (spec_l1In.calls ((rd_T96 l0_1 x3_2).f0) 0 (wrap64 (t408 - 1)) true _ A14.out).mono ?_
          rintro e w' ⟨rfl, ⟨nd, rfl⟩⟩
          refine ⟨_, rfl, ?_⟩
          refine hK.out _ _ ⟨zk0 BK404.out, zk1 BK404.out, ((HB.out.cell (World.block_lt_of_cell? w _ hw407_0)).trans hw407_0), ((HB.out.cell (World.block_lt_of_cell? w _ hw407_1)).trans hw407_1), ((HB.out.cell (World.block_lt_of_cell? w _ hw410_0)).trans hw410_0), ((HB.out.cell (World.block_lt_of_cell? w _ hw410_1)).trans hw410_1)⟩ (fun hHeld => ?_)
          clear hK K
          refine norm_ (a' := ?_) ?_ ?_
          rotate_left
          ·show Act.put _ (some 31) _ = _
           simp only [Act.put, sT, sZ, sS, i64_w, i32_w]
           rfl
          refine puT 10 32 HT_ (h := ?_)
          refine puT 11 33 HT_ (h := ?_)
          refine puT 12 34 HT_ (h := ?_)
          refine puT 14 36 HT_ (h := ?_)
          refine taT 13 35 HT_ HW_ hHeld (h := ?_)
          refine puT 15 37 HT_ (h := ?_)
          refine puT 16 38 HT_ (h := ?_)
          refine taT 17 39 HT_ HW_ hHeld (h := ?_)
          refine puT 18 40 HT_ (h := ?_)
          refine puT 19 41 HT_ (h := ?_)
          refine puT 20 42 HT_ (h := ?_)
          refine done_ (done_of HT_.out (by kernel_rfl)) ?_
          try go_wp2
          go_ret
          exact ⟨zw, bw1 HB.out GE404.out⟩
        ·replace c15 := Bool.eq_false_iff.mpr c15
         subst c15
         rw [if_neg (show ¬ (false = true) by decide)] at H
         obtain rfl := Option.some.inj H
         have hcz23_0 : wr.cell? ⟨gb404, 0, none⟩ = some (.slice A0_0 l0_0.length c0_0) := zk0 BK404.out
         have hcz23_1 : wr.cell? ⟨gb404, 1, none⟩ = some (.slice A0_1 l0_1.length c0_1) := zk1 BK404.out
         have hfz23_0 := blk_frozen BK404.out 0
         have hfz23_1 := blk_frozen BK404.out 1
         try go_wp2
         replace BK404 := Ak (blk_drew BK404.out)
         replace HB := Ak (below_drew1 HB.out)
         have p407 : 0 ≤ (x3_2 : Int) := of_decide_eq_true (by first | (with_reducible assumption) | assumption)
         have q407 : x3_2 < (l0_1.length : Int) := of_decide_eq_true (by first | (with_reducible assumption) | assumption)
         obtain ⟨ad407, A407_1, c407_1, e407, hx407_0, hx407_1, hl407_1, hi407_1⟩ := at_T96 HR0_1.out x3_2 p407 q407
         have hw407_1 := hx407_1
         have hw407_0 := hx407_0
         cases e407
         replace hx407_0 := (HB.out.cell (World.block_lt_of_cell? w _ hx407_0)).trans hx407_0
         replace hx407_1 := (HB.out.cell (World.block_lt_of_cell? w _ hx407_1)).trans hx407_1
         have HR407_1 := Ak hi407_1
         have HC407_1 := Ak hl407_1
         clear hi407_1 hl407_1
         replace p407 := eq_true p407
         replace q407 := eq_true q407
         refine start_ (n := 21) (S := fun w' => w'.cell? ⟨gb404, 0, none⟩ = some (.slice A0_0 l0_0.length c0_0) ∧ w'.cell? ⟨gb404, 1, none⟩ = some (.slice (some ad407) l0_1.length c0_1) ∧ w'.cell? (ad407.add ((x3_2).toNat * 2)) = some (.int .i64 ((rd_T96 l0_1 x3_2).f0)) ∧ w'.cell? ⟨(ad407.add ((x3_2).toNat * 2)).block, (ad407.add ((x3_2).toNat * 2)).off + 1, none⟩ = some (.slice A407_1 ((rd_T96 l0_1 x3_2).f1).length c407_1)) (ds := []) #[false, false, false, false, false, false, false, false, false, false, false, false, false, false, false, false, false, false, false, false, false] (by kernel_rfl) rfl rfl ⟨zk0 BK404.out, zk1 BK404.out, ((HB.out.cell (World.block_lt_of_cell? w _ hw407_0)).trans hw407_0), ((HB.out.cell (World.block_lt_of_cell? w _ hw407_1)).trans hw407_1)⟩ (fun hHeld => ?_); refine with_tabW spec_DiskOk.tab6 spec_DiskOk.bits6 (fun HT_ HW_ => ?_)
         generalize wr.drew = w24 at BK404 HB HR407_1 hx407_0 hx407_1 hHeld ⊢
         refine puT 0 22 HT_ (h := ?_)
         refine puT 2 24 HT_ (h := ?_)
         refine taT 1 23 HT_ HW_ hHeld (h := ?_)
         refine puT 3 25 HT_ (h := ?_)
         refine puT 4 26 HT_ (h := ?_)
         refine taT 5 27 HT_ HW_ hHeld (h := ?_)
         refine taT 6 28 HT_ HW_ hHeld (h := ?_)
         refine onT 7 (some 29) HT_ (h := fun K hK => ?_)
         refine goes_ Try.func104 (by kernel_rfl) rfl #[.agg #[.slice A0_0 l0_0.length c0_0, .slice (some ad407) l0_1.length c0_1]] (by rfl) rfl rfl gm ?_
         with_reducible refine (spec_l11Many.calls _ _ l0_0 _ _ l0_1 t408 _ ?side1 ?side2 ?side3 ?side4 A13.out).mono ?_
         (case side1 => exact zq (Kd.C_below HR0_0.out HB.out))
         (case side2 => exact HC0_0.out)
         (case side3 => exact zq (Kd.C_below HR0_1.out HB.out))
         (case side4 => exact HC0_1.out)
         rintro e w25 ⟨rfl, hb⟩
         refine ⟨_, rfl, ?_⟩
         replace BK404 := Ak (blk_below (bq BK404.out) hb)
         replace HB := Ak (below_step (bw1 HB.out GE404.out) hb)
         refine hK.out _ _ ⟨zk0 BK404.out, zk1 BK404.out, ((HB.out.cell (World.block_lt_of_cell? w _ hw407_0)).trans hw407_0), ((HB.out.cell (World.block_lt_of_cell? w _ hw407_1)).trans hw407_1)⟩ (fun hHeld => ?_)
         clear hK K
         refine norm_ (a' := ?_) ?_ ?_
         rotate_left
         ·show Act.put _ (some 29) _ = _
          simp only [Act.put, sT, sZ, sS, i64_w, i32_w]
          rfl
         refine puT 8 30 HT_ (h := ?_)
         refine onT 9 (some 31) HT_ (h := fun K hK => ?_)
         refine goes_ Try.func97 (by kernel_rfl) rfl #[.int .i64 ((rd_T96 l0_1 x3_2).f0), .int .i64 0, .int .i64 (wrap64 (t408 - 1))] (by rfl) rfl rfl gm ?_
         with_reducible refine (spec_l1In.calls ((rd_T96 l0_1 x3_2).f0) 0 (wrap64 (t408 - 1)) false _ A14.out).mono ?_
         rintro e w' ⟨rfl, ⟨nd, rfl⟩⟩
         refine ⟨_, rfl, ?_⟩
         refine hK.out _ _ ⟨zk0 BK404.out, zk1 BK404.out, ((HB.out.cell (World.block_lt_of_cell? w _ hw407_0)).trans hw407_0), ((HB.out.cell (World.block_lt_of_cell? w _ hw407_1)).trans hw407_1)⟩ (fun hHeld => ?_)
         clear hK K
         refine norm_ (a' := ?_) ?_ ?_
         rotate_left
         ·show Act.put _ (some 31) _ = _
          simp only [Act.put, sT, sZ, sS, i64_w, i32_w]
          rfl
         refine puT 10 32 HT_ (h := ?_)
         refine puT 11 33 HT_ (h := ?_)
         refine pnT 12 34 HT_ (h := ?_)
         refine pnT 13 35 HT_ (h := ?_)
         refine pnT 14 36 HT_ (h := ?_)
         refine pnT 15 37 HT_ (h := ?_)
         refine pnT 16 38 HT_ (h := ?_)
         refine pnT 17 39 HT_ (h := ?_)
         refine pnT 18 40 HT_ (h := ?_)
         refine pnT 19 41 HT_ (h := ?_)
         refine puT 20 42 HT_ (h := ?_)
         refine done_ (done_of HT_.out (by kernel_rfl)) ?_
         try go_wp2
         go_ret
         exact ⟨zw, bw1 HB.out GE404.out⟩
       ·rw [if_neg c12] at H
        exact absurd H (by simp)
      ·rw [if_neg c11] at H
       have c11b0 := decide_eq_false c11
       clear c11
       obtain rfl := Option.some.inj H
       have hcz26_0 : wr.cell? ⟨gb404, 0, none⟩ = some (.slice A0_0 l0_0.length c0_0) := zk0 BK404.out
       have hcz26_1 : wr.cell? ⟨gb404, 1, none⟩ = some (.slice A0_1 l0_1.length c0_1) := zk1 BK404.out
       have hfz26_0 := blk_frozen BK404.out 0
       have hfz26_1 := blk_frozen BK404.out 1
       go_wp2
       go_ret
       exact ⟨zw, bw1 HB.out GE404.out⟩

def spec_l12Region.f (k : Nat) (l0_0 : List Int) (l0_1 : List (S96)) (a1 : Int) (a2 : Int) : Option (Bool) := (spec_DiskOk.f k l0_0 l0_1).bind fun t412 => (if t412 = true then ((spec_l1In.f a1 0 a2).bind fun t413 => (if t413 = true then ((spec_l11Many.f l0_0 l0_1).bind fun t414 => (some (decide (a2 < t414)))) else (some false))) else (some false))
set_option maxHeartbeats 8000000 in
set_option maxRecDepth 100000 in
theorem spec_l12Region.calls (k : Nat) (A0_0 : Option Addr) (c0_0 : Nat) (l0_0 : List Int) (A0_1 : Option Addr) (c0_1 : Nat) (l0_1 : List (S96)) (a1 : Int) (a2 : Int) (r : Bool) (w : World) (hr0_0 : Kd.C (Kd.int .u8) w A0_0 l0_0.length l0_0) (hc0_0 : l0_0.length ≤ c0_0) (hr0_1 : Kd.C k96 w A0_1 l0_1.length l0_1) (hc0_1 : l0_1.length ≤ c0_1) (h : spec_l12Region.f k l0_0 l0_1 a1 a2 = some r) :
  Calls Try.prog 56 #[.agg #[.slice A0_0 l0_0.length c0_0, .slice A0_1 l0_1.length c0_1], .int .i64 a1, .int .i64 a2] w fun e w' => e = .returned (.bool r) ∧ Below w.heap.size w w' := by
 have hu31 := Try.underlying31
 have HR0_0 := Ak hr0_0
 have HC0_0 := Ak hc0_0
 clear hr0_0 hc0_0
 have HR0_1 := Ak hr0_1
 have HC0_1 := Ak hc0_1
 clear hr0_1 hc0_1
 have HB := Ak (Below.refl w.heap.size w)
 have H := h
 unfold spec_l12Region.f at H
 clear h
 replace H := Option.bind_eq_some_iff.mp H
 obtain ⟨t412, A40, H⟩ := H
 have A4 := Ak A40
 clear A40
 by_cases c5 : t412 = true
 ·subst c5
  rw [if_pos rfl] at H
  replace H := Option.bind_eq_some_iff.mp H
  obtain ⟨t413, A60, H⟩ := H
  have A6 := Ak A60
  clear A60
  by_cases c7 : t413 = true
  ·subst c7
   rw [if_pos rfl] at H
   replace H := Option.bind_eq_some_iff.mp H
   obtain ⟨t414, A80, H⟩ := H
   have A8 := Ak A80
   clear A80
   obtain rfl := Option.some.inj H
   go_enter Try.func56, Try.ntmps56
   go_wp2_with (first | ((with_reducible refine gate_dst (N := 3) rfl ?_); refine box_event ?hg (N := 3) ?hd (cs := #[.slice A0_0 l0_0.length c0_0, .slice A0_1 l0_1.length c0_1]) (t := 31) ?hr ?_; (case hd => rfl); (case hg => rfl); (case hr => first | (go_simp; done) | (go_simp; rfl)); intro gb411 hg w9 hbox hb; have BK411 := Ak (hbox); have GW411 := Ak ((zb hg (bw HB.out))); have GE411 := Ak ((zb hg (bw HB.out))); replace HB := Ak (below_step (bw HB.out) hb); clear hb hbox hg; have hcz10_0 := zk0 BK411.out; have hcz10_1 := zk1 BK411.out; have hfz10_0 := blk_frozen BK411.out 0; have hfz10_1 := blk_frozen BK411.out 1) | ((with_reducible refine gate_callee (f := 98) rfl ?_); refine goesL_ (some 8) rfl rfl Try.func98 (by kernel_rfl) rfl #[.agg #[.slice A0_0 l0_0.length c0_0, .slice A0_1 l0_1.length c0_1]] rfl gm ?_; (with_reducible refine (spec_DiskOk.calls k _ _ l0_0 _ _ l0_1 true _ ?side1 ?side2 ?side3 ?side4 A4.out).mono ?_); (case side1 => exact zq (Kd.C_below HR0_0.out HB.out)); (case side2 => exact HC0_0.out); (case side3 => exact zq (Kd.C_below HR0_1.out HB.out)); (case side4 => exact HC0_1.out); rintro e w11 ⟨rfl, hb⟩; refine ⟨_, rfl, ?_⟩; replace BK411 := Ak (blk_below (bq BK411.out) hb); replace HB := Ak (below_step (bw1 HB.out GE411.out) hb)) | (go_at_call 97; (with_reducible refine (spec_l1In.calls a1 0 a2 true _ A6.out).mono ?_); rintro e w' ⟨rfl, ⟨nd, rfl⟩⟩; have hcz12_0 := zk0 BK411.out; have hcz12_1 := zk1 BK411.out; have hfz12_0 := blk_frozen BK411.out 0; have hfz12_1 := blk_frozen BK411.out 1) | (go_at_call 104; (with_reducible refine (spec_l11Many.calls _ _ l0_0 _ _ l0_1 t414 _ ?side1 ?side2 ?side3 ?side4 A8.out).mono ?_); (case side1 => exact zq (Kd.C_below HR0_0.out (bw1 HB.out GE411.out))); (case side2 => exact HC0_0.out); (case side3 => exact zq (Kd.C_below HR0_1.out (bw1 HB.out GE411.out))); (case side4 => exact HC0_1.out); rintro e w13 ⟨rfl, hb⟩; replace BK411 := Ak (blk_below (bq BK411.out) hb); replace HB := Ak (below_step (bw1 HB.out GE411.out) hb)))
   go_ret
   exact ⟨zw, bw1 HB.out GE411.out⟩
  ·replace c7 := Bool.eq_false_iff.mpr c7
   subst c7
   rw [if_neg (show ¬ (false = true) by decide)] at H
   obtain rfl := Option.some.inj H
   go_enter Try.func56, Try.ntmps56
   go_wp2_with (first | ((with_reducible refine gate_dst (N := 3) rfl ?_); refine box_event ?hg (N := 3) ?hd (cs := #[.slice A0_0 l0_0.length c0_0, .slice A0_1 l0_1.length c0_1]) (t := 31) ?hr ?_; (case hd => rfl); (case hg => rfl); (case hr => first | (go_simp; done) | (go_simp; rfl)); intro gb411 hg w14 hbox hb; have BK411 := Ak (hbox); have GW411 := Ak ((zb hg (bw HB.out))); have GE411 := Ak ((zb hg (bw HB.out))); replace HB := Ak (below_step (bw HB.out) hb); clear hb hbox hg; have hcz15_0 := zk0 BK411.out; have hcz15_1 := zk1 BK411.out; have hfz15_0 := blk_frozen BK411.out 0; have hfz15_1 := blk_frozen BK411.out 1) | ((with_reducible refine gate_callee (f := 98) rfl ?_); refine goesL_ (some 8) rfl rfl Try.func98 (by kernel_rfl) rfl #[.agg #[.slice A0_0 l0_0.length c0_0, .slice A0_1 l0_1.length c0_1]] rfl gm ?_; (with_reducible refine (spec_DiskOk.calls k _ _ l0_0 _ _ l0_1 true _ ?side1 ?side2 ?side3 ?side4 A4.out).mono ?_); (case side1 => exact zq (Kd.C_below HR0_0.out HB.out)); (case side2 => exact HC0_0.out); (case side3 => exact zq (Kd.C_below HR0_1.out HB.out)); (case side4 => exact HC0_1.out); rintro e w16 ⟨rfl, hb⟩; refine ⟨_, rfl, ?_⟩; replace BK411 := Ak (blk_below (bq BK411.out) hb); replace HB := Ak (below_step (bw1 HB.out GE411.out) hb)) | (go_at_call 97; (with_reducible refine (spec_l1In.calls a1 0 a2 false _ A6.out).mono ?_); rintro e w' ⟨rfl, ⟨nd, rfl⟩⟩))
   go_ret
   exact ⟨zw, bw1 HB.out GE411.out⟩
 ·replace c5 := Bool.eq_false_iff.mpr c5
  subst c5
  rw [if_neg (show ¬ (false = true) by decide)] at H
  obtain rfl := Option.some.inj H
  go_enter Try.func56, Try.ntmps56
  go_wp2_with (first | ((with_reducible refine gate_dst (N := 3) rfl ?_); refine box_event ?hg (N := 3) ?hd (cs := #[.slice A0_0 l0_0.length c0_0, .slice A0_1 l0_1.length c0_1]) (t := 31) ?hr ?_; (case hd => rfl); (case hg => rfl); (case hr => first | (go_simp; done) | (go_simp; rfl)); intro gb411 hg w17 hbox hb; have BK411 := Ak (hbox); have GW411 := Ak ((zb hg (bw HB.out))); have GE411 := Ak ((zb hg (bw HB.out))); replace HB := Ak (below_step (bw HB.out) hb); clear hb hbox hg; have hcz18_0 := zk0 BK411.out; have hcz18_1 := zk1 BK411.out; have hfz18_0 := blk_frozen BK411.out 0; have hfz18_1 := blk_frozen BK411.out 1) | ((with_reducible refine gate_callee (f := 98) rfl ?_); refine goesL_ (some 8) rfl rfl Try.func98 (by kernel_rfl) rfl #[.agg #[.slice A0_0 l0_0.length c0_0, .slice A0_1 l0_1.length c0_1]] rfl gm ?_; (with_reducible refine (spec_DiskOk.calls k _ _ l0_0 _ _ l0_1 false _ ?side1 ?side2 ?side3 ?side4 A4.out).mono ?_); (case side1 => exact zq (Kd.C_below HR0_0.out HB.out)); (case side2 => exact HC0_0.out); (case side3 => exact zq (Kd.C_below HR0_1.out HB.out)); (case side4 => exact HC0_1.out); rintro e w19 ⟨rfl, hb⟩; refine ⟨_, rfl, ?_⟩; replace BK411 := Ak (blk_below (bq BK411.out) hb); replace HB := Ak (below_step (bw1 HB.out GE411.out) hb)))
  go_ret
  exact ⟨zw, bw1 HB.out GE411.out⟩

def spec_l12Log.f (k : Nat) (l0_0 : List Int) (l0_1 : List (S96)) (a1_0 : Int) (a1_1 : Int) (a1_2 : Int) (a1_3 : Int) : Option (Bool) := (spec_l12Region.f k l0_0 l0_1 a1_0 a1_1).bind fun t417 => (if t417 = true then ((spec_l1In.f a1_2 0 (wrap64 ((wrap64 (a1_1 - a1_0)) + 1))).bind fun t418 => (if t418 = true then ((spec_l1In.f a1_3 1 1000000).bind fun t419 => (some t419)) else (some false))) else (some false))
set_option maxHeartbeats 8000000 in
set_option maxRecDepth 100000 in
theorem spec_l12Log.calls (k : Nat) (A0_0 : Option Addr) (c0_0 : Nat) (l0_0 : List Int) (A0_1 : Option Addr) (c0_1 : Nat) (l0_1 : List (S96)) (a1_0 : Int) (a1_1 : Int) (a1_2 : Int) (a1_3 : Int) (r : Bool) (w : World) (hr0_0 : Kd.C (Kd.int .u8) w A0_0 l0_0.length l0_0) (hc0_0 : l0_0.length ≤ c0_0) (hr0_1 : Kd.C k96 w A0_1 l0_1.length l0_1) (hc0_1 : l0_1.length ≤ c0_1) (h : spec_l12Log.f k l0_0 l0_1 a1_0 a1_1 a1_2 a1_3 = some r) :
  Calls Try.prog 46 #[.agg #[.slice A0_0 l0_0.length c0_0, .slice A0_1 l0_1.length c0_1], .agg #[.int .i64 a1_0, .int .i64 a1_1, .int .i64 a1_2, .int .i64 a1_3]] w fun e w' => e = .returned (.bool r) ∧ Below w.heap.size w w' := by
 have hu31 := Try.underlying31
 have hu32 := Try.underlying32
 have HR0_0 := Ak hr0_0
 have HC0_0 := Ak hc0_0
 clear hr0_0 hc0_0
 have HR0_1 := Ak hr0_1
 have HC0_1 := Ak hc0_1
 clear hr0_1 hc0_1
 have HB := Ak (Below.refl w.heap.size w)
 have H := h
 unfold spec_l12Log.f at H
 clear h
 replace H := Option.bind_eq_some_iff.mp H
 obtain ⟨t417, A30, H⟩ := H
 have A3 := Ak A30
 clear A30
 by_cases c4 : t417 = true
 ·subst c4
  rw [if_pos rfl] at H
  replace H := Option.bind_eq_some_iff.mp H
  obtain ⟨t418, A50, H⟩ := H
  have A5 := Ak A50
  clear A50
  by_cases c6 : t418 = true
  ·subst c6
   rw [if_pos rfl] at H
   replace H := Option.bind_eq_some_iff.mp H
   obtain ⟨t419, A70, H⟩ := H
   have A7 := Ak A70
   clear A70
   obtain rfl := Option.some.inj H
   go_enter Try.func46, Try.ntmps46
   go_wp2_with (first | ((with_reducible refine gate_dst (N := 2) rfl ?_); refine box_event ?hg (N := 2) ?hd (cs := #[.slice A0_0 l0_0.length c0_0, .slice A0_1 l0_1.length c0_1]) (t := 31) ?hr ?_; (case hd => rfl); (case hg => rfl); (case hr => first | (go_simp; done) | (go_simp; rfl)); intro gb415 hg w8 hbox hb; have BK415 := Ak (hbox); have GW415 := Ak ((zb hg (bw HB.out))); have GE415 := Ak ((zb hg (bw HB.out))); replace HB := Ak (below_step (bw HB.out) hb); clear hb hbox hg) | ((with_reducible refine gate_dst (N := 3) rfl ?_); refine box_event ?hg (N := 3) ?hd (cs := #[.int .i64 a1_0, .int .i64 a1_1, .int .i64 a1_2, .int .i64 a1_3]) (t := 32) ?hr ?_; (case hd => rfl); (case hg => rfl); (case hr => first | (go_simp; done) | (go_simp; rfl)); intro gb416 hg w9 hbox hb; have BK416 := Ak (hbox); have GW416 := Ak ((zb hg (bw1 HB.out GE415.out))); have GE416 := Ak ((zb hg (bw1 HB.out GE415.out))); replace HB := Ak (below_step (bw1 HB.out GE415.out) hb); have NB415_416 := Ak ((zl hg (bq BK415.out))); have NB416_415 := Ak ((zm hg (bq BK415.out))); replace BK415 := Ak (blk_below (bq BK415.out) hb); clear hb hbox hg; have hnb10 := NB415_416.out; have hnc10 := NB416_415.out; have hcz11_0 := zk0 BK415.out; have hcz11_1 := zk1 BK415.out; have hfz11_0 := blk_frozen BK415.out 0; have hfz11_1 := blk_frozen BK415.out 1; have hcz12_0 := zk0 BK416.out; have hcz12_1 := zk1 BK416.out; have hcz12_2 := zk2 BK416.out; have hcz12_3 := zk3 BK416.out; have hfz12_0 := blk_frozen BK416.out 0; have hfz12_1 := blk_frozen BK416.out 1; have hfz12_2 := blk_frozen BK416.out 2; have hfz12_3 := blk_frozen BK416.out 3) | ((with_reducible refine gate_callee (f := 56) rfl ?_); refine goesL_ (some 10) rfl rfl Try.func56 (by kernel_rfl) rfl #[.agg #[.slice A0_0 l0_0.length c0_0, .slice A0_1 l0_1.length c0_1], .int .i64 a1_0, .int .i64 a1_1] rfl gm ?_; (with_reducible refine (spec_l12Region.calls k _ _ l0_0 _ _ l0_1 a1_0 a1_1 true _ ?side1 ?side2 ?side3 ?side4 A3.out).mono ?_); (case side1 => exact zq (Kd.C_below HR0_0.out HB.out)); (case side2 => exact HC0_0.out); (case side3 => exact zq (Kd.C_below HR0_1.out HB.out)); (case side4 => exact HC0_1.out); rintro e w13 ⟨rfl, hb⟩; refine ⟨_, rfl, ?_⟩; replace BK415 := Ak (blk_below (bq BK415.out) hb); replace BK416 := Ak (blk_below (bq BK416.out) hb); replace HB := Ak (below_step (bw2 HB.out GE415.out GE416.out) hb); have hcz14_0 := zk0 BK416.out; have hcz14_1 := zk1 BK416.out; have hcz14_2 := zk2 BK416.out; have hcz14_3 := zk3 BK416.out; have hfz14_0 := blk_frozen BK416.out 0; have hfz14_1 := blk_frozen BK416.out 1; have hfz14_2 := blk_frozen BK416.out 2; have hfz14_3 := blk_frozen BK416.out 3) | (go_at_call 97; (with_reducible refine (spec_l1In.calls a1_2 0 (wrap64 ((wrap64 (a1_1 - a1_0)) + 1)) true _ A5.out).mono ?_); rintro e w' ⟨rfl, ⟨nd, rfl⟩⟩) | (go_at_call 97; (with_reducible refine (spec_l1In.calls a1_3 1 1000000 t419 _ A7.out).mono ?_); rintro e w' ⟨rfl, ⟨nd, rfl⟩⟩))
   go_ret
   exact ⟨zw, bw2 HB.out GE415.out GE416.out⟩
  ·replace c6 := Bool.eq_false_iff.mpr c6
   subst c6
   rw [if_neg (show ¬ (false = true) by decide)] at H
   obtain rfl := Option.some.inj H
   go_enter Try.func46, Try.ntmps46
   go_wp2_with (first | ((with_reducible refine gate_dst (N := 2) rfl ?_); refine box_event ?hg (N := 2) ?hd (cs := #[.slice A0_0 l0_0.length c0_0, .slice A0_1 l0_1.length c0_1]) (t := 31) ?hr ?_; (case hd => rfl); (case hg => rfl); (case hr => first | (go_simp; done) | (go_simp; rfl)); intro gb415 hg w15 hbox hb; have BK415 := Ak (hbox); have GW415 := Ak ((zb hg (bw HB.out))); have GE415 := Ak ((zb hg (bw HB.out))); replace HB := Ak (below_step (bw HB.out) hb); clear hb hbox hg) | ((with_reducible refine gate_dst (N := 3) rfl ?_); refine box_event ?hg (N := 3) ?hd (cs := #[.int .i64 a1_0, .int .i64 a1_1, .int .i64 a1_2, .int .i64 a1_3]) (t := 32) ?hr ?_; (case hd => rfl); (case hg => rfl); (case hr => first | (go_simp; done) | (go_simp; rfl)); intro gb416 hg w16 hbox hb; have BK416 := Ak (hbox); have GW416 := Ak ((zb hg (bw1 HB.out GE415.out))); have GE416 := Ak ((zb hg (bw1 HB.out GE415.out))); replace HB := Ak (below_step (bw1 HB.out GE415.out) hb); have NB415_416 := Ak ((zl hg (bq BK415.out))); have NB416_415 := Ak ((zm hg (bq BK415.out))); replace BK415 := Ak (blk_below (bq BK415.out) hb); clear hb hbox hg; have hnb17 := NB415_416.out; have hnc17 := NB416_415.out; have hcz18_0 := zk0 BK415.out; have hcz18_1 := zk1 BK415.out; have hfz18_0 := blk_frozen BK415.out 0; have hfz18_1 := blk_frozen BK415.out 1; have hcz19_0 := zk0 BK416.out; have hcz19_1 := zk1 BK416.out; have hcz19_2 := zk2 BK416.out; have hcz19_3 := zk3 BK416.out; have hfz19_0 := blk_frozen BK416.out 0; have hfz19_1 := blk_frozen BK416.out 1; have hfz19_2 := blk_frozen BK416.out 2; have hfz19_3 := blk_frozen BK416.out 3) | ((with_reducible refine gate_callee (f := 56) rfl ?_); refine goesL_ (some 10) rfl rfl Try.func56 (by kernel_rfl) rfl #[.agg #[.slice A0_0 l0_0.length c0_0, .slice A0_1 l0_1.length c0_1], .int .i64 a1_0, .int .i64 a1_1] rfl gm ?_; (with_reducible refine (spec_l12Region.calls k _ _ l0_0 _ _ l0_1 a1_0 a1_1 true _ ?side1 ?side2 ?side3 ?side4 A3.out).mono ?_); (case side1 => exact zq (Kd.C_below HR0_0.out HB.out)); (case side2 => exact HC0_0.out); (case side3 => exact zq (Kd.C_below HR0_1.out HB.out)); (case side4 => exact HC0_1.out); rintro e w20 ⟨rfl, hb⟩; refine ⟨_, rfl, ?_⟩; replace BK415 := Ak (blk_below (bq BK415.out) hb); replace BK416 := Ak (blk_below (bq BK416.out) hb); replace HB := Ak (below_step (bw2 HB.out GE415.out GE416.out) hb); have hcz21_0 := zk0 BK416.out; have hcz21_1 := zk1 BK416.out; have hcz21_2 := zk2 BK416.out; have hcz21_3 := zk3 BK416.out; have hfz21_0 := blk_frozen BK416.out 0; have hfz21_1 := blk_frozen BK416.out 1; have hfz21_2 := blk_frozen BK416.out 2; have hfz21_3 := blk_frozen BK416.out 3) | (go_at_call 97; (with_reducible refine (spec_l1In.calls a1_2 0 (wrap64 ((wrap64 (a1_1 - a1_0)) + 1)) false _ A5.out).mono ?_); rintro e w' ⟨rfl, ⟨nd, rfl⟩⟩))
   go_ret
   exact ⟨zw, bw2 HB.out GE415.out GE416.out⟩
 ·replace c4 := Bool.eq_false_iff.mpr c4
  subst c4
  rw [if_neg (show ¬ (false = true) by decide)] at H
  obtain rfl := Option.some.inj H
  go_enter Try.func46, Try.ntmps46
  go_wp2_with (first | ((with_reducible refine gate_dst (N := 2) rfl ?_); refine box_event ?hg (N := 2) ?hd (cs := #[.slice A0_0 l0_0.length c0_0, .slice A0_1 l0_1.length c0_1]) (t := 31) ?hr ?_; (case hd => rfl); (case hg => rfl); (case hr => first | (go_simp; done) | (go_simp; rfl)); intro gb415 hg w22 hbox hb; have BK415 := Ak (hbox); have GW415 := Ak ((zb hg (bw HB.out))); have GE415 := Ak ((zb hg (bw HB.out))); replace HB := Ak (below_step (bw HB.out) hb); clear hb hbox hg) | ((with_reducible refine gate_dst (N := 3) rfl ?_); refine box_event ?hg (N := 3) ?hd (cs := #[.int .i64 a1_0, .int .i64 a1_1, .int .i64 a1_2, .int .i64 a1_3]) (t := 32) ?hr ?_; (case hd => rfl); (case hg => rfl); (case hr => first | (go_simp; done) | (go_simp; rfl)); intro gb416 hg w23 hbox hb; have BK416 := Ak (hbox); have GW416 := Ak ((zb hg (bw1 HB.out GE415.out))); have GE416 := Ak ((zb hg (bw1 HB.out GE415.out))); replace HB := Ak (below_step (bw1 HB.out GE415.out) hb); have NB415_416 := Ak ((zl hg (bq BK415.out))); have NB416_415 := Ak ((zm hg (bq BK415.out))); replace BK415 := Ak (blk_below (bq BK415.out) hb); clear hb hbox hg; have hnb24 := NB415_416.out; have hnc24 := NB416_415.out; have hcz25_0 := zk0 BK415.out; have hcz25_1 := zk1 BK415.out; have hfz25_0 := blk_frozen BK415.out 0; have hfz25_1 := blk_frozen BK415.out 1; have hcz26_0 := zk0 BK416.out; have hcz26_1 := zk1 BK416.out; have hcz26_2 := zk2 BK416.out; have hcz26_3 := zk3 BK416.out; have hfz26_0 := blk_frozen BK416.out 0; have hfz26_1 := blk_frozen BK416.out 1; have hfz26_2 := blk_frozen BK416.out 2; have hfz26_3 := blk_frozen BK416.out 3) | ((with_reducible refine gate_callee (f := 56) rfl ?_); refine goesL_ (some 10) rfl rfl Try.func56 (by kernel_rfl) rfl #[.agg #[.slice A0_0 l0_0.length c0_0, .slice A0_1 l0_1.length c0_1], .int .i64 a1_0, .int .i64 a1_1] rfl gm ?_; (with_reducible refine (spec_l12Region.calls k _ _ l0_0 _ _ l0_1 a1_0 a1_1 false _ ?side1 ?side2 ?side3 ?side4 A3.out).mono ?_); (case side1 => exact zq (Kd.C_below HR0_0.out HB.out)); (case side2 => exact HC0_0.out); (case side3 => exact zq (Kd.C_below HR0_1.out HB.out)); (case side4 => exact HC0_1.out); rintro e w27 ⟨rfl, hb⟩; refine ⟨_, rfl, ?_⟩; replace BK415 := Ak (blk_below (bq BK415.out) hb); replace BK416 := Ak (blk_below (bq BK416.out) hb); replace HB := Ak (below_step (bw2 HB.out GE415.out GE416.out) hb)))
  go_ret
  exact ⟨zw, bw2 HB.out GE415.out GE416.out⟩

def spec_Sync.l0 : Nat → Int → List Int → List (S96) → List Int → List (S96) → Option (List Int × (List (S96)))
 | 0, _, _, _, _, _ => none
 | k + 1, x4, x421000, x421001, x429000, x429001 => if x4 < (x421001.length : Int) then (if 0 ≤ x4 then (if 0 ≤ (wrap64 (((rd_T96 x421001 x4).f0) * 64)) then (if (0 < ((rd_T96 x421001 x4).f1).length ∧ ((wrap64 (((rd_T96 x421001 x4).f0) * 64)) : Int).toNat + ((rd_T96 x421001 x4).f1).length ≤ x429000.length) then (spec_Sync.l0 k (wrap64 (x4 + 1)) x421000 x421001 (spl x429000 ((wrap64 (((rd_T96 x421001 x4).f0) * 64)) : Int).toNat ((rd_T96 x421001 x4).f1)) x429001) else (none)) else (none)) else (none)) else (some (x429000, (([] : List (S96)))))
def spec_Sync.f (k : Nat) (l0_0 : List Int) (l0_1 : List (S96)) : Option (List Int × (List (S96))) := (spec_l11Copy.f k l0_0 l0_1).bind fun bt422 => ((spec_DiskOk.f k l0_0 l0_1).bind fun t429 => (if t429 = true then (spec_Sync.l0 k 0 l0_0 l0_1 bt422.1 bt422.2) else (some (bt422.1, bt422.2))))
def spec_Sync.T7 : Bool × List (List Nat × List Nat) := (true, [([], []), ([0], [0]), ([], []), ([2], [2]), ([], []), ([3, 4], [3, 4]), ([5], [5]), ([6], [6]), ([7], [7]), ([1, 8], [1, 8]), ([], []), ([10], [10]), ([], []), ([11, 12], [11, 12]), ([13], [13]), ([14], [14]), ([9, 15], [9, 15])])
def spec_Sync.B7 : List Nat := [0, 1, 0, 4, 0, 28, 60, 124, 252, 511, 0, 1024, 0, 7168, 15360, 31744, 65535]
theorem spec_Sync.tab7 : rtab .any (opsOf Try.f47 7) = spec_Sync.T7 := by kernel_rfl
theorem spec_Sync.bits7 : waitsOk spec_Sync.T7.2 spec_Sync.B7 = true := by kernel_rfl
set_option maxHeartbeats 8000000 in
set_option maxRecDepth 100000 in
theorem spec_Sync.calls (k : Nat) (A0_0 : Option Addr) (c0_0 : Nat) (l0_0 : List Int) (A0_1 : Option Addr) (c0_1 : Nat) (l0_1 : List (S96)) (r1 : List Int) (r2 : List (S96)) (w : World) (hr0_0 : Kd.C (Kd.int .u8) w A0_0 l0_0.length l0_0) (hc0_0 : l0_0.length ≤ c0_0) (hr0_1 : Kd.C k96 w A0_1 l0_1.length l0_1) (hc0_1 : l0_1.length ≤ c0_1) (h : spec_Sync.f k l0_0 l0_1 = some (r1, r2)) :
  Calls Try.prog 47 #[.agg #[.slice A0_0 l0_0.length c0_0, .slice A0_1 l0_1.length c0_1]] w fun e w' => ∃ v0_ v1_ : Value, e = .returned (.agg #[v0_, v1_]) ∧ Kd.R (Kd.int .u8) 5 w' w.heap.size (fun _ => True) v0_ r1 ∧ Kd.S k96 96 w' w.heap.size (fun k_ => some k_ ≠ (v0_ : Value).ownBlock) v1_ r2 ∧ Below w.heap.size w w' := by
 have hu31 := Try.underlying31
 have HR0_0 := Ak hr0_0
 have HC0_0 := Ak hc0_0
 clear hr0_0 hc0_0
 have HR0_1 := Ak hr0_1
 have HC0_1 := Ak hc0_1
 clear hr0_1 hc0_1
 have HB := Ak (Below.refl w.heap.size w)
 have H := h
 unfold spec_Sync.f at H
 clear h
 replace H := Option.bind_eq_some_iff.mp H
 obtain ⟨⟨t422, t425⟩, A20, H⟩ := H
 (try dsimp only at H)
 have A2 := Ak A20
 clear A20
 replace H := Option.bind_eq_some_iff.mp H
 obtain ⟨t429, A30, H⟩ := H
 have A3 := Ak A30
 clear A30
 by_cases c4 : t429 = true
 ·subst c4
  rw [if_pos rfl] at H
  have H' := Ak H
  clear H
  go_enter Try.func47, Try.ntmps47
  go_wp2_with (first | ((with_reducible refine gate_dst (N := 1) rfl ?_); refine box_event ?hg (N := 1) ?hd (cs := #[.slice A0_0 l0_0.length c0_0, .slice A0_1 l0_1.length c0_1]) (t := 31) ?hr ?_; (case hd => rfl); (case hg => rfl); (case hr => first | (go_simp; done) | (go_simp; rfl)); intro gb420 hg w5 hbox hb; have BK420 := Ak (hbox); have GW420 := Ak ((zb hg (bw HB.out))); have GE420 := Ak ((zb hg (bw HB.out))); replace HB := Ak (below_step (bw HB.out) hb); clear hb hbox hg) | ((with_reducible refine gate_dst (N := 2) rfl ?_); refine box_event ?hg (N := 2) ?hd (cs := #[.slice none 0 0, .slice none 0 0]) (t := 31) ?hr ?_; (case hd => rfl); (case hg => rfl); (case hr => first | (go_simp; done) | (go_simp; rfl)); intro gb421 hg w6 hbox hb; have BK421 := Ak (hbox); have GW421 := Ak ((zb hg (bw1 HB.out GE420.out))); have GE421 := Ak ((zb hg (bw1 HB.out GE420.out))); replace HB := Ak (below_step (bw1 HB.out GE420.out) hb); have NB420_421 := Ak ((zl hg (bq BK420.out))); have NB421_420 := Ak ((zm hg (bq BK420.out))); replace BK420 := Ak (blk_below (bq BK420.out) hb); clear hb hbox hg; have hnb7 := NB420_421.out; have hnc7 := NB421_420.out; have hcz8_0 := zk0 BK420.out; have hcz8_1 := zk1 BK420.out; have hfz8_0 := blk_frozen BK420.out 0; have hfz8_1 := blk_frozen BK420.out 1) | ((with_reducible refine gate_callee (f := 44) rfl ?_); refine goesL_ (some 6) rfl rfl Try.func44 (by kernel_rfl) rfl #[.agg #[.slice A0_0 l0_0.length c0_0, .slice A0_1 l0_1.length c0_1]] rfl gm ?_; (with_reducible refine (spec_l11Copy.calls k _ _ l0_0 _ _ l0_1 t422 t425 _ ?side1 ?side2 ?side3 ?side4 A2.out).mono ?_); (case side1 => exact zq (Kd.C_below HR0_0.out HB.out)); (case side2 => exact HC0_0.out); (case side3 => exact zq (Kd.C_below HR0_1.out HB.out)); (case side4 => exact HC0_1.out); rintro e w9 ⟨v423, v426, rfl, ho0, ho1, hb⟩; refine ⟨_, rfl, ?_⟩; have HO424 := Ak (Kd.R_lower ho0 (below_size (bw2 HB.out GE420.out GE421.out))); have HO427 := Ak (Kd.S_lower ho1 (below_size (bw2 HB.out GE420.out GE421.out))); replace BK420 := Ak (blk_below (bq BK420.out) hb); replace BK421 := Ak (blk_below (bq BK421.out) hb); replace HB := Ak (below_step (bw2 HB.out GE420.out GE421.out) hb)) | ((with_reducible refine gate_dst (N := 3) rfl ?_); refine box_event ?hg (N := 3) ?hd (cs := #[.slice none 0 0, .slice none 0 0]) (t := 31) ?hr ?_; (case hd => rfl); (case hg => rfl); (case hr => first | (go_simp; done) | (go_simp; rfl)); intro gb428 hg w10 hbox hb; replace HO424 := Ak (Kd.R_below (rq HO424.out) hb); replace HO427 := Ak (Kd.S_below (sq HO427.out) hb); have BK428 := Ak (hbox); have GW428 := Ak ((zb hg (bw2 HB.out GE420.out GE421.out))); have GE428 := Ak ((zb hg (bw2 HB.out GE420.out GE421.out))); replace HB := Ak (below_step (bw2 HB.out GE420.out GE421.out) hb); have NB420_428 := Ak ((zl hg (bq BK420.out))); have NB428_420 := Ak ((zm hg (bq BK420.out))); replace BK420 := Ak (blk_below (bq BK420.out) hb); have NB421_428 := Ak ((zl hg (bq BK421.out))); have NB428_421 := Ak ((zm hg (bq BK421.out))); replace BK421 := Ak (blk_below (bq BK421.out) hb); clear hb hbox hg; obtain ⟨Ao11, co11, eo11⟩ := Kd.R_slice HO424.out; subst eo11; have hnb12 := NB428_420.out; have hnc12 := NB420_428.out; have hnb13 := NB428_421.out; have hnc13 := NB421_428.out; have hcz14_0 := zk0 BK428.out; have hcz14_1 := zk1 BK428.out; have hfz14_0 := blk_frozen BK428.out 0; have hfz14_1 := blk_frozen BK428.out 1; obtain ⟨Ao15, co15, eo15⟩ := Kd.S_slice HO427.out; subst eo15; have hcz16_0 := zk0 BK420.out; have hcz16_1 := zk1 BK420.out; have hfz16_0 := blk_frozen BK420.out 0; have hfz16_1 := blk_frozen BK420.out 1) | ((with_reducible refine gate_callee (f := 98) rfl ?_); refine goesL_ (some 8) rfl rfl Try.func98 (by kernel_rfl) rfl #[.agg #[.slice A0_0 l0_0.length c0_0, .slice A0_1 l0_1.length c0_1]] rfl gm ?_; (with_reducible refine (spec_DiskOk.calls k _ _ l0_0 _ _ l0_1 true _ ?side1 ?side2 ?side3 ?side4 A3.out).mono ?_); (case side1 => exact Kd.C_below HR0_0.out (bw3 HB.out GE420.out GE421.out GE428.out)); (case side2 => exact HC0_0.out); (case side3 => exact Kd.C_below HR0_1.out (bw3 HB.out GE420.out GE421.out GE428.out)); (case side4 => exact HC0_1.out); rintro e w17 ⟨rfl, hb⟩; refine ⟨_, rfl, ?_⟩; replace HO424 := Ak (Kd.R_below (by (with_reducible repeat (first | apply Kd.R_alloc | apply Kd.R_drewN | apply Kd.R_drew)); exact (Kd.R_mono (Kd.R_far (p := ⟨gb428, 1, none⟩) (Kd.R_far (p := ⟨gb428, 0, none⟩) (Kd.R_types HO424.out BK428.out (by decide)) (fun _ hk => hk.2) (.slice Ao11 t422.length co11)) (fun _ hk => hk.2) (.slice Ao15 t425.length co15)) (fun _ h_ => h_.1))) hb); replace HO427 := Ak (Kd.S_below (by (with_reducible repeat (first | apply Kd.S_alloc | apply Kd.S_drewN | apply Kd.S_drew)); exact (Kd.S_mono (Kd.S_far (p := ⟨gb428, 1, none⟩) (Kd.S_far (p := ⟨gb428, 0, none⟩) (Kd.S_types HO427.out BK428.out (by decide)) (fun _ hk => hk.2) (.slice Ao11 t422.length co11)) (fun _ hk => hk.2) (.slice Ao15 t425.length co15)) (fun _ h_ => h_.1))) hb); replace BK420 := Ak (blk_below (g := gb420) (o := .cells #[.slice A0_0 l0_0.length c0_0, .slice A0_1 l0_1.length c0_1] 31 (0, 0)) (by refine bq ?_; refine blk_far ?_ NB420_428.out _; refine bq ?_; refine blk_far ?_ NB420_428.out _; exact bq BK420.out) hb); replace BK421 := Ak (blk_below (g := gb421) (o := .cells #[.slice none 0 0, .slice none 0 0] 31 (0, 0)) (by refine bq ?_; refine blk_far ?_ NB421_428.out _; refine bq ?_; refine blk_far ?_ NB421_428.out _; exact bq BK421.out) hb); replace BK428 := Ak (blk_below (g := gb428) (o := .cells #[.slice Ao11 t422.length co11, .slice Ao15 t425.length co15] 31 (0, 0)) (by refine bq ?_; refine blk_put (cs := #[.slice Ao11 t422.length co11, .slice none 0 0]) ?_ 1 _ rfl; refine bq ?_; refine blk_put (cs := #[.slice none 0 0, .slice none 0 0]) ?_ 0 _ rfl; exact bq BK428.out) hb); replace HB := Ak (below_step (bw3 HB.out GE420.out GE421.out GE428.out) hb)))
  go_loopg [4] k (fun kq v4 w' => ∃ (x4_1 : Int) (x429000_1 : List Int) (u429000 : Value), v4 = .int .i64 x4_1 ∧ Aside0 (spec_Sync.l0 kq x4_1 l0_0 l0_1 x429000_1 t425 = some (r1, r2)) ∧ Aside0 (kq ≤ k) ∧ Aside0 (Kd.R (Kd.int .u8) 5 w' w.heap.size (fun _ => True) u429000 x429000_1) ∧ Aside0 (Kd.S k96 96 w' w.heap.size (fun k_ => some k_ ≠ (u429000 : Value).ownBlock) (.slice Ao15 t425.length co15) t425) ∧ Aside0 (w'.heap[gb420]? = some (.cells #[(.slice A0_0 l0_0.length c0_0), (.slice A0_1 l0_1.length c0_1)] 31 (0, 0))) ∧ Aside0 (w'.heap[gb421]? = some (.cells #[(.slice none 0 0), (.slice none 0 0)] 31 (0, 0))) ∧ Aside0 (w'.heap[gb428]? = some (.cells #[u429000, (.slice Ao15 t425.length co15)] 31 (0, 0))) ∧ Aside0 (Below w.heap.size w w'))
  case atStart => exact ⟨(0), (t422), (.slice Ao11 t422.length co11), (by first | rfl | (simp; done) | (simp [*]; done)), H', ⟨Nat.le_refl _⟩, ⟨rq HO424.out⟩, ⟨sq HO427.out⟩, ⟨bq BK420.out⟩, ⟨bq BK421.out⟩, ⟨bq BK428.out⟩, ⟨bw3 HB.out GE420.out GE421.out GE428.out⟩⟩
  case round =>
   clear H'
   obtain ⟨x4_1, x429000_1, u429000, rfl, HA, HK1, HO_429000, HO_429001, BK420, BK421, BK428, HB⟩ := hrel
   cases gk with
   | zero => exact absurd HA.out (by simp [spec_Sync.l0])
   | succ k1 =>
    have H := HA.out
    clear HA
    simp only [spec_Sync.l0] at H
    by_cases c18 : x4_1 < (l0_1.length : Int)
    ·rw [if_pos c18] at H
     have c18b0 := decide_eq_true c18
     clear c18
     by_cases c19 : 0 ≤ x4_1
     ·rw [if_pos c19] at H
      have c19b0 := decide_eq_true c19
      clear c19
      obtain ⟨ji20, hji20⟩ : ∃ j_ : Int, (wrap64 (((rd_T96 l0_1 x4_1).f0) * 64)) = j_ := ⟨_, rfl⟩
      replace H : (if 0 ≤ (ji20) then (if (0 < ((rd_T96 l0_1 x4_1).f1).length ∧ ((ji20) : Int).toNat + ((rd_T96 l0_1 x4_1).f1).length ≤ x429000_1.length) then (spec_Sync.l0 k1 (wrap64 (x4_1 + 1)) l0_0 l0_1 (spl x429000_1 ((ji20) : Int).toNat ((rd_T96 l0_1 x4_1).f1)) t425) else (none)) else (none)) = some (r1, r2) := by first | (rw [hji20] at H; exact H) | (simp only [hji20] at H ⊢; exact H)
      have hji20w : (IntKind.i64.wrap (((rd_T96 l0_1 x4_1).f0) * 64)) = ji20 := (i64_w _).trans hji20
      by_cases c21 : 0 ≤ (ji20)
      ·rw [if_pos c21] at H
       have c21b0 := decide_eq_true c21
       clear c21
       by_cases c22 : (0 < ((rd_T96 l0_1 x4_1).f1).length ∧ ((ji20) : Int).toNat + ((rd_T96 l0_1 x4_1).f1).length ≤ x429000_1.length)
       ·rw [if_pos c22] at H
        have LC_ := Ak c22
        have p0_ : 0 ≤ (ji20) := of_decide_eq_true c21b0
        have c22b0 : decide ((ji20) < (x429000_1.length : Int)) = true := decide_eq_true (by have := LC_.out; omega)
        have cle_ : decide ((ji20) ≤ (x429000_1.length : Int)) = true := decide_eq_true (by have := LC_.out; omega)
        clear c22
        generalize hy432 : (spl x429000_1 ((ji20) : Int).toNat ((rd_T96 l0_1 x4_1).f1) : List Int) = y432 at H
        try rw [Option.bind_some] at H
        have Ny432 := Ak hy432.symm
        clear hy432
        have H' := Ak H
        clear H
        have hnb24 := NB420_421.out
        have hnc24 := NB421_420.out
        have hnb25 := NB420_428.out
        have hnc25 := NB428_420.out
        have hcz26_0 : wr.cell? ⟨gb420, 0, none⟩ = some (.slice A0_0 l0_0.length c0_0) := zk0 BK420.out
        have hcz26_1 : wr.cell? ⟨gb420, 1, none⟩ = some (.slice A0_1 l0_1.length c0_1) := zk1 BK420.out
        have hfz26_0 := blk_frozen BK420.out 0
        have hfz26_1 := blk_frozen BK420.out 1
        try go_wp2
        replace HO_429000 := Ak (Kd.R_drew HO_429000.out)
        replace HO_429001 := Ak (Kd.S_drew HO_429001.out)
        replace BK420 := Ak (blk_drew BK420.out)
        replace BK421 := Ak (blk_drew BK421.out)
        replace BK428 := Ak (blk_drew BK428.out)
        replace HB := Ak (below_drew1 HB.out)
        have p430 : 0 ≤ (x4_1 : Int) := of_decide_eq_true (by first | (with_reducible assumption) | assumption)
        have q430 : x4_1 < (l0_1.length : Int) := of_decide_eq_true (by first | (with_reducible assumption) | assumption)
        obtain ⟨ad430, A430_1, c430_1, e430, hx430_0, hx430_1, hl430_1, hi430_1⟩ := at_T96 HR0_1.out x4_1 p430 q430
        have hw430_1 := hx430_1
        have hw430_0 := hx430_0
        cases e430
        replace hx430_0 := (HB.out.cell (World.block_lt_of_cell? w _ hx430_0)).trans hx430_0
        replace hx430_1 := (HB.out.cell (World.block_lt_of_cell? w _ hx430_1)).trans hx430_1
        have HR430_1 := Ak hi430_1
        have HC430_1 := Ak hl430_1
        clear hi430_1 hl430_1
        replace p430 := eq_true p430
        replace q430 := eq_true q430
        have p23 : 0 ≤ ((ji20) : Int) := of_decide_eq_true (by first | (with_reducible assumption) | assumption)
        have q23 : ((ji20) : Int) < ((x429000_1.length : Int) : Int) := of_decide_eq_true (by first | (with_reducible assumption) | assumption)
        obtain ⟨go23, co23, eo23, gb23, gl23, cl23, HG23⟩ := Kd.R_form HO_429000.out (by omega)
        (first | cases eo23 | (injection eo23 with ea_ en_ ec_; (first | subst ea_ | (injection ea_ with ea_; subst ea_)); subst ec_; clear en_))
        have GB23 := Ak gb23
        have GG23 := Ak HG23
        clear gb23 gl23 HG23
        obtain ⟨hx23_0, hf23_0⟩ := Kd.R_celln 0 HO_429000.out ((ji20) : Int) p23 q23
        replace p23 := eq_true p23
        replace q23 := eq_true q23
        have p431 : 0 ≤ (x4_1 : Int) := of_decide_eq_true (by first | (with_reducible assumption) | assumption)
        have q431 : x4_1 < (l0_1.length : Int) := of_decide_eq_true (by first | (with_reducible assumption) | assumption)
        obtain ⟨ad431, A431_1, c431_1, e431, hx431_0, hx431_1, hl431_1, hi431_1⟩ := at_T96 HR0_1.out x4_1 p431 q431
        have hw431_1 := hx431_1
        have hw431_0 := hx431_0
        obtain rfl : ad430 = ad431 := (by injection e431)
        replace hx431_0 := (HB.out.cell (World.block_lt_of_cell? w _ hx431_0)).trans hx431_0
        replace hx431_1 := (HB.out.cell (World.block_lt_of_cell? w _ hx431_1)).trans hx431_1
        have HR431_1 := Ak hi431_1
        have HC431_1 := Ak hl431_1
        clear hi431_1 hl431_1
        replace p431 := eq_true p431
        replace q431 := eq_true q431
        have ea_ := Option.some.inj (hx430_1.symm.trans hx431_1)
        injection ea_ with ea_ en_ ec_
        subst ea_
        subst ec_
        clear en_
        obtain ⟨w1_, hcp_, hr_, hgr_⟩ := copy_at (P := Try.prog) wr.drew w.heap.size (fun _ => True) 22 22 3 5 Try.underlying22 (by kernel_rfl) go23 co23 ((ji20) : Int).toNat c430_1 A430_1 x429000_1 ((rd_T96 l0_1 x4_1).f1) HO_429000.out (Kd.C_below HR430_1.out HB.out) LC_.out.1 LC_.out.2
        have HQ28 := Ak (show Kd.R (Kd.int .u8) 5 w1_ w.heap.size (fun _ => True) (.slice (some ⟨go23, 0, none⟩) x429000_1.length co23) y432 from by rw [Ny432.out]; exact hr_)
        have HP28 := trivial
        clear hr_
        have hne_ : ¬ (co23 = ((ji20) : Int).toNat) := by have h1_ := (Kd.R_reads' HO_429000.out).2.1; have h2_ := LC_.out; omega
        clear HP28
        refine start_ (n := 17) (S := fun w' => w'.cell? ⟨gb428, 0, none⟩ = some (.slice (some ⟨go23, 0, none⟩) x429000_1.length co23) ∧ w'.cell? ⟨gb428, 1, none⟩ = some (.slice Ao15 t425.length co15) ∧ w'.cell? ⟨gb420, 0, none⟩ = some (.slice A0_0 l0_0.length c0_0) ∧ w'.cell? ⟨gb420, 1, none⟩ = some (.slice (some ad430) l0_1.length c0_1) ∧ w'.cell? (ad430.add ((x4_1).toNat * 2)) = some (.int .i64 ((rd_T96 l0_1 x4_1).f0)) ∧ w'.cell? ⟨(ad430.add ((x4_1).toNat * 2)).block, (ad430.add ((x4_1).toNat * 2)).off + 1, none⟩ = some (.slice A430_1 ((rd_T96 l0_1 x4_1).f1).length c430_1) ∧ w'.cell? (ad430.add ((x4_1).toNat * 2)) = some (.int .i64 ((rd_T96 l0_1 x4_1).f0)) ∧ w'.cell? ⟨(ad430.add ((x4_1).toNat * 2)).block, (ad430.add ((x4_1).toNat * 2)).off + 1, none⟩ = some (.slice A430_1 ((rd_T96 l0_1 x4_1).f1).length c430_1)) (ds := [16]) #[false, false, false, false, false, false, false, false, false, false, false, false, false, false, false, false, false] (by kernel_rfl) rfl rfl ⟨zk0 BK428.out, zk1 BK428.out, zk0 BK420.out, zk1 BK420.out, ((HB.out.cell (World.block_lt_of_cell? w _ hw430_0)).trans hw430_0), ((HB.out.cell (World.block_lt_of_cell? w _ hw430_1)).trans hw430_1), ((HB.out.cell (World.block_lt_of_cell? w _ hw431_0)).trans hw431_0), ((HB.out.cell (World.block_lt_of_cell? w _ hw431_1)).trans hw431_1)⟩ (fun hHeld => ?_); refine with_tabW spec_Sync.tab7 spec_Sync.bits7 (fun HT_ HW_ => ?_)
        generalize wr.drew = w27 at HO_429000 HO_429001 BK420 BK421 BK428 HB GG23 HQ28 HR430_1 HR431_1 hf23_0 hx23_0 hx430_0 hx430_1 hx431_0 hx431_1 hcp_ hgr_ hHeld ⊢
        refine puT 0 18 HT_ (h := ?_)
        refine puT 2 20 HT_ (h := ?_)
        refine puT 4 22 HT_ (h := ?_)
        refine puT 10 28 HT_ (h := ?_)
        refine puT 12 30 HT_ (h := ?_)
        refine taT 1 19 HT_ HW_ hHeld (h := ?_)
        refine taT 3 21 HT_ HW_ hHeld (h := ?_)
        refine puT 5 23 HT_ (h := ?_)
        refine puT 6 24 HT_ (h := ?_)
        refine taT 7 25 HT_ HW_ hHeld (h := ?_)
        refine puT 8 26 HT_ (h := ?_)
        refine pure_ (i := 9) (N := some 27) (v := ?_) (a' := ?_) #[true, true, true, true, true, true, true, true, true, true, true, false, true, false, false, false, false] rfl rfl (any_of HT_.out (by kernel_rfl)) (fun _ _ _ h => h) (Or.inl ⟨by rfl, ?_⟩) ?_ ?_
        rotate_left
        ·intro w'
         go_simp
         first | (with_reducible rfl) | (rw [if_pos (of_decide_eq_true cle_)])
        rotate_left
        ·simp only [Act.put, sT, sZ, sS, i64_w, i32_w]
         rfl
        refine taT 11 29 HT_ HW_ hHeld (h := ?_)
        refine puT 13 31 HT_ (h := ?_)
        refine puT 14 32 HT_ (h := ?_)
        refine taT 15 33 HT_ HW_ hHeld (h := ?_)
        refine laT 16 (some 34) HT_ (h := fun K hK => ?_)
        refine value_ (w1 := w1_) (v := goInt ((((rd_T96 l0_1 x4_1).f1).length : Nat) : Int)) (by rfl) rfl ?_ ?_
        ·show Sem.run _ (execOp _ { dst := some 34, op := Go.Op.call _, type := 3, pos := _, after := _, guard := none }) _ = _
         unfold execOp
         first | (simp only [resolve, invoke, builtin, Sem.run_bind, Sem.run_pure, Result.andThen_ok, List.map_toArray, List.map_cons, List.map_nil]; erw [hcp_]; rfl) | (erw [hcp_]; rfl)
        refine hK.out _ _ ?_
        clear hK K
        refine done_ (done_of HT_.out (by kernel_rfl)) ?_
        try go_wp2
        go_roundg k1
        case measure => have := HK1.out; omega
        case rel => exact ⟨(wrap64 (x4_1 + 1)), (y432), (.slice (some ⟨go23, 0, none⟩) x429000_1.length co23), (by first | rfl | (simp; done) | (simp [*]; done)), H', ⟨by have := HK1.out; omega⟩, ⟨rq HQ28.out⟩, ⟨by refine sq ?_; exact Kd.S_grown HO_429001.out hgr_ (fun k_ hk e_ => hk e_)⟩, ⟨by refine bq ?_; exact blk_grown BK420.out hgr_ (fun e_ => (Kd.R_ne HO_429000.out BK420.out (by decide)) e_)⟩, ⟨by refine bq ?_; exact blk_grown BK421.out hgr_ (fun e_ => (Kd.R_ne HO_429000.out BK421.out (by decide)) e_)⟩, ⟨by refine bq ?_; exact blk_grown BK428.out hgr_ (fun e_ => (Kd.R_ne HO_429000.out BK428.out (by decide)) e_)⟩, ⟨by (with_reducible repeat (first | apply below_alloc | apply pw_below_drewN | apply below_drew1)); exact HB.out.grown hgr_ HB.out.size (fun k_ e_ => by injection e_ with e_; subst e_; exact GB23.out)⟩⟩
       ·rw [if_neg c22] at H
        exact absurd H (by simp)
      ·rw [if_neg c21] at H
       exact absurd H (by simp)
     ·rw [if_neg c19] at H
      exact absurd H (by simp)
    ·rw [if_neg c18] at H
     have c18b0 := decide_eq_false c18
     clear c18
     obtain ⟨y433, hy433⟩ : ∃ y_ : List (S96), y_ = (([] : List (S96))) := ⟨_, rfl⟩
     replace H : (some (x429000_1, y433)) = some (r1, r2) := by first | (rw [hy433]; with_reducible exact H) | (have H2_ := (Option.bind_some _ _).symm.trans H; rw [hy433]; with_reducible exact H2_) | (have H2_ := (Option.bind_some _ _).symm.trans H; with_reducible exact H2_) | with_reducible exact H | (rw [hy433]; exact H) | exact H
     have Ny433 := Ak hy433
     clear hy433
     simp only [Option.some.injEq, Prod.mk.injEq] at H
     obtain ⟨rfl, rfl⟩ := H
     have hnb29 := NB420_421.out
     have hnc29 := NB421_420.out
     have hnb30 := NB420_428.out
     have hnc30 := NB428_420.out
     have hcz31_0 : wr.cell? ⟨gb420, 0, none⟩ = some (.slice A0_0 l0_0.length c0_0) := zk0 BK420.out
     have hcz31_1 : wr.cell? ⟨gb420, 1, none⟩ = some (.slice A0_1 l0_1.length c0_1) := zk1 BK420.out
     have hfz31_0 := blk_frozen BK420.out 0
     have hfz31_1 := blk_frozen BK420.out 1
     go_wp2_with (first | ((with_reducible refine gate_dst (N := 35) rfl ?_); refine Kd.S_lit k96 _ 96 ?hg (N := 35) ?hd (xs := ([] : List (S96))) (inner := []) (ok := fun _ => True) (okp := fun _ => True) ?hr ?hp (fun _ hk => hk) trivial (Below.refl _ _) (Nat.le_refl _) (by simp) ?_; (case hd => rfl); (case hg => rfl); (case hr => first | (go_simp; done) | (go_simp; rfl)); (case hp => exact (Reps.none _ _)); intro v434 w32 ho33 hb hg_ hnew_; clear hg_ hnew_; (first | rw [← Ny433.out] at ho33 | (simp only [Int.reduceToNat] at ho33; rw [← Ny433.out] at ho33)); have HO435 := Ak (Kd.S_lower (Kd.S_new' (Kd.S_new' ho33 (Kd.R_lt (rq HO_429000.out))) (Kd.S_lt (sq HO_429001.out))) (below_size (bw3 HB.out GE420.out GE421.out GE428.out))); replace HO_429000 := Ak (Kd.R_below (rq HO_429000.out) hb); replace HO_429001 := Ak (Kd.S_elder' (sq HO_429001.out) (Kd.S_base ho33) hb); replace BK420 := Ak (blk_below (bq BK420.out) hb); replace BK421 := Ak (blk_below (bq BK421.out) hb); replace BK428 := Ak (blk_below (bq BK428.out) hb); replace HB := Ak (below_step (bw3 HB.out GE420.out GE421.out GE428.out) hb); clear hb ho33; obtain ⟨Ao34, co34, eo34⟩ := Kd.S_slice HO435.out; subst eo34; have hnb35 := NB428_421.out; have hnc35 := NB421_428.out; have hcz36_0 := zk0 BK428.out; have hcz36_1 := zk1 BK428.out; have hfz36_0 := blk_frozen BK428.out 0; have hfz36_1 := blk_frozen BK428.out 1; obtain ⟨Ao37, co37, eo37⟩ := Kd.R_slice HO_429000.out; subst eo37; have hcz38_0 := zk0 BK421.out; have hcz38_1 := zk1 BK421.out; have hfz38_0 := blk_frozen BK421.out 0; have hfz38_1 := blk_frozen BK421.out 1))
     refine bodyPost_ret (results_cell_row rfl _ _ gb421 31 #[.slice Ao37 x429000_1.length co37, .slice Ao34 y433.length co34] (0, 0) _ rfl (by refine bq ?_; refine blk_put (cs := #[.slice Ao37 x429000_1.length co37, .slice none 0 0]) ?_ 1 _ rfl; refine bq ?_; refine blk_put (cs := #[.slice none 0 0, .slice none 0 0]) ?_ 0 _ rfl; refine bq ?_; refine blk_far ?_ NB421_428.out _; exact bq BK421.out) Try.underlying31 rfl (by kernel_rfl)) rfl ?_
     exact ⟨_, _, zw, by refine rq ?_; exact Kd.R_mono (Kd.R_far (p := ⟨gb421, 1, none⟩) (Kd.R_far (p := ⟨gb421, 0, none⟩) (Kd.R_far (p := ⟨gb428, 1, none⟩) (Kd.R_types (Kd.R_types HO_429000.out BK428.out (by decide)) BK421.out (by decide)) (fun _ hk => hk.1.2) (.slice Ao34 y433.length co34)) (fun _ hk => hk.2) (.slice Ao37 x429000_1.length co37)) (fun _ hk => hk.2) (.slice Ao34 y433.length co34)) (fun _ hk => trivial), by refine sq ?_; exact Kd.S_mono (Kd.S_far (p := ⟨gb421, 1, none⟩) (Kd.S_far (p := ⟨gb421, 0, none⟩) (Kd.S_far (p := ⟨gb428, 1, none⟩) (Kd.S_types (Kd.S_types HO435.out BK428.out (by decide)) BK421.out (by decide)) (fun _ hk => hk.1.2) (.slice Ao34 y433.length co34)) (fun _ hk => hk.2) (.slice Ao37 x429000_1.length co37)) (fun _ hk => hk.2) (.slice Ao34 y433.length co34)) (fun _ hk => hk.1.1.1.2), bw3 HB.out GE420.out GE421.out GE428.out⟩
 ·replace c4 := Bool.eq_false_iff.mpr c4
  subst c4
  rw [if_neg (show ¬ (false = true) by decide)] at H
  simp only [Option.some.injEq, Prod.mk.injEq] at H
  obtain ⟨rfl, rfl⟩ := H
  go_enter Try.func47, Try.ntmps47
  go_wp2_with (first | ((with_reducible refine gate_dst (N := 1) rfl ?_); refine box_event ?hg (N := 1) ?hd (cs := #[.slice A0_0 l0_0.length c0_0, .slice A0_1 l0_1.length c0_1]) (t := 31) ?hr ?_; (case hd => rfl); (case hg => rfl); (case hr => first | (go_simp; done) | (go_simp; rfl)); intro gb420 hg w39 hbox hb; have BK420 := Ak (hbox); have GW420 := Ak ((zb hg (bw HB.out))); have GE420 := Ak ((zb hg (bw HB.out))); replace HB := Ak (below_step (bw HB.out) hb); clear hb hbox hg) | ((with_reducible refine gate_dst (N := 2) rfl ?_); refine box_event ?hg (N := 2) ?hd (cs := #[.slice none 0 0, .slice none 0 0]) (t := 31) ?hr ?_; (case hd => rfl); (case hg => rfl); (case hr => first | (go_simp; done) | (go_simp; rfl)); intro gb421 hg w40 hbox hb; have BK421 := Ak (hbox); have GW421 := Ak ((zb hg (bw1 HB.out GE420.out))); have GE421 := Ak ((zb hg (bw1 HB.out GE420.out))); replace HB := Ak (below_step (bw1 HB.out GE420.out) hb); have NB420_421 := Ak ((zl hg (bq BK420.out))); have NB421_420 := Ak ((zm hg (bq BK420.out))); replace BK420 := Ak (blk_below (bq BK420.out) hb); clear hb hbox hg; have hnb41 := NB420_421.out; have hnc41 := NB421_420.out; have hcz42_0 := zk0 BK420.out; have hcz42_1 := zk1 BK420.out; have hfz42_0 := blk_frozen BK420.out 0; have hfz42_1 := blk_frozen BK420.out 1) | ((with_reducible refine gate_callee (f := 44) rfl ?_); refine goesL_ (some 6) rfl rfl Try.func44 (by kernel_rfl) rfl #[.agg #[.slice A0_0 l0_0.length c0_0, .slice A0_1 l0_1.length c0_1]] rfl gm ?_; (with_reducible refine (spec_l11Copy.calls k _ _ l0_0 _ _ l0_1 t422 t425 _ ?side1 ?side2 ?side3 ?side4 A2.out).mono ?_); (case side1 => exact zq (Kd.C_below HR0_0.out HB.out)); (case side2 => exact HC0_0.out); (case side3 => exact zq (Kd.C_below HR0_1.out HB.out)); (case side4 => exact HC0_1.out); rintro e w43 ⟨v423, v426, rfl, ho0, ho1, hb⟩; refine ⟨_, rfl, ?_⟩; have HO424 := Ak (Kd.R_lower ho0 (below_size (bw2 HB.out GE420.out GE421.out))); have HO427 := Ak (Kd.S_lower ho1 (below_size (bw2 HB.out GE420.out GE421.out))); replace BK420 := Ak (blk_below (bq BK420.out) hb); replace BK421 := Ak (blk_below (bq BK421.out) hb); replace HB := Ak (below_step (bw2 HB.out GE420.out GE421.out) hb)) | ((with_reducible refine gate_dst (N := 3) rfl ?_); refine box_event ?hg (N := 3) ?hd (cs := #[.slice none 0 0, .slice none 0 0]) (t := 31) ?hr ?_; (case hd => rfl); (case hg => rfl); (case hr => first | (go_simp; done) | (go_simp; rfl)); intro gb428 hg w44 hbox hb; replace HO424 := Ak (Kd.R_below (rq HO424.out) hb); replace HO427 := Ak (Kd.S_below (sq HO427.out) hb); have BK428 := Ak (hbox); have GW428 := Ak ((zb hg (bw2 HB.out GE420.out GE421.out))); have GE428 := Ak ((zb hg (bw2 HB.out GE420.out GE421.out))); replace HB := Ak (below_step (bw2 HB.out GE420.out GE421.out) hb); have NB420_428 := Ak ((zl hg (bq BK420.out))); have NB428_420 := Ak ((zm hg (bq BK420.out))); replace BK420 := Ak (blk_below (bq BK420.out) hb); have NB421_428 := Ak ((zl hg (bq BK421.out))); have NB428_421 := Ak ((zm hg (bq BK421.out))); replace BK421 := Ak (blk_below (bq BK421.out) hb); clear hb hbox hg; obtain ⟨Ao45, co45, eo45⟩ := Kd.R_slice HO424.out; subst eo45; have hnb46 := NB428_420.out; have hnc46 := NB420_428.out; have hnb47 := NB428_421.out; have hnc47 := NB421_428.out; have hcz48_0 := zk0 BK428.out; have hcz48_1 := zk1 BK428.out; have hfz48_0 := blk_frozen BK428.out 0; have hfz48_1 := blk_frozen BK428.out 1; obtain ⟨Ao49, co49, eo49⟩ := Kd.S_slice HO427.out; subst eo49; have hcz50_0 := zk0 BK420.out; have hcz50_1 := zk1 BK420.out; have hfz50_0 := blk_frozen BK420.out 0; have hfz50_1 := blk_frozen BK420.out 1) | ((with_reducible refine gate_callee (f := 98) rfl ?_); refine goesL_ (some 8) rfl rfl Try.func98 (by kernel_rfl) rfl #[.agg #[.slice A0_0 l0_0.length c0_0, .slice A0_1 l0_1.length c0_1]] rfl gm ?_; (with_reducible refine (spec_DiskOk.calls k _ _ l0_0 _ _ l0_1 false _ ?side1 ?side2 ?side3 ?side4 A3.out).mono ?_); (case side1 => exact Kd.C_below HR0_0.out (bw3 HB.out GE420.out GE421.out GE428.out)); (case side2 => exact HC0_0.out); (case side3 => exact Kd.C_below HR0_1.out (bw3 HB.out GE420.out GE421.out GE428.out)); (case side4 => exact HC0_1.out); rintro e w51 ⟨rfl, hb⟩; refine ⟨_, rfl, ?_⟩; replace HO424 := Ak (Kd.R_below (by (with_reducible repeat (first | apply Kd.R_alloc | apply Kd.R_drewN | apply Kd.R_drew)); exact (Kd.R_mono (Kd.R_far (p := ⟨gb428, 1, none⟩) (Kd.R_far (p := ⟨gb428, 0, none⟩) (Kd.R_types HO424.out BK428.out (by decide)) (fun _ hk => hk.2) (.slice Ao45 t422.length co45)) (fun _ hk => hk.2) (.slice Ao49 t425.length co49)) (fun _ h_ => h_.1))) hb); replace HO427 := Ak (Kd.S_below (by (with_reducible repeat (first | apply Kd.S_alloc | apply Kd.S_drewN | apply Kd.S_drew)); exact (Kd.S_mono (Kd.S_far (p := ⟨gb428, 1, none⟩) (Kd.S_far (p := ⟨gb428, 0, none⟩) (Kd.S_types HO427.out BK428.out (by decide)) (fun _ hk => hk.2) (.slice Ao45 t422.length co45)) (fun _ hk => hk.2) (.slice Ao49 t425.length co49)) (fun _ h_ => h_.1))) hb); replace BK420 := Ak (blk_below (g := gb420) (o := .cells #[.slice A0_0 l0_0.length c0_0, .slice A0_1 l0_1.length c0_1] 31 (0, 0)) (by refine bq ?_; refine blk_far ?_ NB420_428.out _; refine bq ?_; refine blk_far ?_ NB420_428.out _; exact bq BK420.out) hb); replace BK421 := Ak (blk_below (g := gb421) (o := .cells #[.slice none 0 0, .slice none 0 0] 31 (0, 0)) (by refine bq ?_; refine blk_far ?_ NB421_428.out _; refine bq ?_; refine blk_far ?_ NB421_428.out _; exact bq BK421.out) hb); replace BK428 := Ak (blk_below (g := gb428) (o := .cells #[.slice Ao45 t422.length co45, .slice Ao49 t425.length co49] 31 (0, 0)) (by refine bq ?_; refine blk_put (cs := #[.slice Ao45 t422.length co45, .slice none 0 0]) ?_ 1 _ rfl; refine bq ?_; refine blk_put (cs := #[.slice none 0 0, .slice none 0 0]) ?_ 0 _ rfl; exact bq BK428.out) hb); replace HB := Ak (below_step (bw3 HB.out GE420.out GE421.out GE428.out) hb); have hcz52_0 := zk0 BK428.out; have hcz52_1 := zk1 BK428.out; have hfz52_0 := blk_frozen BK428.out 0; have hfz52_1 := blk_frozen BK428.out 1; have hcz53_0 := zk0 BK421.out; have hcz53_1 := zk1 BK421.out; have hfz53_0 := blk_frozen BK421.out 0; have hfz53_1 := blk_frozen BK421.out 1))
  refine bodyPost_ret (results_cell_row rfl _ _ gb421 31 #[.slice Ao45 t422.length co45, .slice Ao49 t425.length co49] (0, 0) _ rfl (by refine bq ?_; refine blk_put (cs := #[.slice Ao45 t422.length co45, .slice none 0 0]) ?_ 1 _ rfl; refine bq ?_; refine blk_put (cs := #[.slice none 0 0, .slice none 0 0]) ?_ 0 _ rfl; exact bq BK421.out) Try.underlying31 rfl (by kernel_rfl)) rfl ?_
  exact ⟨_, _, zw, by refine rq ?_; exact Kd.R_mono (Kd.R_far (p := ⟨gb421, 1, none⟩) (Kd.R_far (p := ⟨gb421, 0, none⟩) (Kd.R_types HO424.out BK421.out (by decide)) (fun _ hk => hk.2) (.slice Ao45 t422.length co45)) (fun _ hk => hk.2) (.slice Ao49 t425.length co49)) (fun _ hk => trivial), by refine sq ?_; exact Kd.S_mono (Kd.S_far (p := ⟨gb421, 1, none⟩) (Kd.S_far (p := ⟨gb421, 0, none⟩) (Kd.S_types HO427.out BK421.out (by decide)) (fun _ hk => hk.2) (.slice Ao45 t422.length co45)) (fun _ hk => hk.2) (.slice Ao49 t425.length co49)) (fun _ hk => hk.1), bw3 HB.out GE420.out GE421.out GE428.out⟩

def spec_LogAdd.f (k : Nat) (l0_0 : List Int) (l0_1 : List (S96)) (a1_0 : Int) (a1_1 : Int) (a1_2 : Int) (a1_3 : Int) (l2 : List Int) : Option (List Int × (List (S96)) × Int × Int × Int × Int × Bool) := (spec_l11Copy.f k l0_0 l0_1).bind fun bt399 => ((spec_LogWrites.f k a1_0 a1_1 a1_2 a1_3 l2).bind fun t406 => ((spec_l12Log.f k l0_0 l0_1 a1_0 a1_1 a1_2 a1_3).bind fun t409 => (if t409 = true then (if (t406.length : Int) = 0 then (some (bt399.1, bt399.2, a1_0, a1_1, a1_2, a1_3, false)) else (if bt399.2.length + t406.length < 4398046511104 then ((spec_Sync.f k bt399.1 (bt399.2 ++ t406)).bind fun bt414 => (some (bt414.1, bt414.2, a1_0, a1_1, wrap64 (a1_2 + (t406.length : Int)), a1_3, true))) else (none))) else (some (bt399.1, bt399.2, a1_0, a1_1, a1_2, a1_3, false)))))
set_option maxHeartbeats 8000000 in
set_option maxRecDepth 100000 in
theorem spec_LogAdd.calls (k : Nat) (A0_0 : Option Addr) (c0_0 : Nat) (l0_0 : List Int) (A0_1 : Option Addr) (c0_1 : Nat) (l0_1 : List (S96)) (a1_0 : Int) (a1_1 : Int) (a1_2 : Int) (a1_3 : Int) (A2 : Option Addr) (c2 : Nat) (l2 : List Int) (r1 : List Int) (r2 : List (S96)) (r3 : Int) (r4 : Int) (r5 : Int) (r6 : Int) (r7 : Bool) (w : World) (hr0_0 : Kd.C (Kd.int .u8) w A0_0 l0_0.length l0_0) (hc0_0 : l0_0.length ≤ c0_0) (hr0_1 : Kd.C k96 w A0_1 l0_1.length l0_1) (hc0_1 : l0_1.length ≤ c0_1) (hr2 : Kd.C (Kd.int .u8) w A2 l2.length l2) (hc2 : l2.length ≤ c2) (h : spec_LogAdd.f k l0_0 l0_1 a1_0 a1_1 a1_2 a1_3 l2 = some (r1, r2, r3, r4, r5, r6, r7)) :
  Calls Try.prog 9 #[.agg #[.slice A0_0 l0_0.length c0_0, .slice A0_1 l0_1.length c0_1], .agg #[.int .i64 a1_0, .int .i64 a1_1, .int .i64 a1_2, .int .i64 a1_3], .slice A2 l2.length c2] w fun e w' => ∃ v0_ v1_ : Value, e = .returned (.tuple #[.agg #[v0_, v1_], .agg #[.int .i64 r3, .int .i64 r4, .int .i64 r5, .int .i64 r6], .bool r7]) ∧ Kd.V (Kd.int .u8) 5 w' 0 (fun k_ => w.heap.size ≤ k_) v0_ r1 ∧ Kd.V k96 96 w' 0 (fun k_ => w.heap.size ≤ k_) v1_ r2 ∧ Below w.heap.size w w' := by
 have hu31 := Try.underlying31
 have hu32 := Try.underlying32
 have HR0_0 := Ak hr0_0; have HC0_0 := Ak hc0_0; have HR0_1 := Ak hr0_1; have HC0_1 := Ak hc0_1; have HR2 := Ak hr2; have HC2 := Ak hc2
 clear hr0_0 hc0_0 hr0_1 hc0_1 hr2 hc2
 have M := Mem.Mem.start w
 have H := h
 unfold spec_LogAdd.f at H
 clear h
 replace H := Option.bind_eq_some_iff.mp H
 obtain ⟨⟨t217, t220⟩, A40, H⟩ := H
 have A4 := Ak A40; clear A40; (try dsimp only at H)
 replace H := Option.bind_eq_some_iff.mp H
 obtain ⟨t225, A50, H⟩ := H
 have A5 := Ak A50; clear A50
 replace H := Option.bind_eq_some_iff.mp H
 obtain ⟨t224, A70, H⟩ := H
 have A7 := Ak A70; clear A70
 have HC := Ak H
 clear H
 go_enter Try.func9, Try.ntmps9
 go_upto_region 3 with ((with_reducible refine Mem.gateW ?_); first | (refine Mem.Mem.boxE 3 31 [.slice A0_0 l0_0.length c0_0, .slice A0_1 l0_1.length c0_1] (M := M) (h := fun gb3 w9 M => ?_)) | (refine Mem.Mem.boxE 4 32 [.int .i64 a1_0, .int .i64 a1_1, .int .i64 a1_2, .int .i64 a1_3] (M := M) (h := fun gb4 w10 M => ?_)) | (refine Mem.Mem.boxE 6 31 [.slice none 0 0, .slice none 0 0] (M := M) (h := fun gb6 w11 M => ?_)) | (refine Mem.Mem.boxE 7 32 [.int .i64 0, .int .i64 0, .int .i64 0, .int .i64 0] (M := M) (h := fun gb7 w12 M => ?_)) | (refine Mem.Mem.ldE 3 31 (.tmp 3) hu31 (M := M) (h := fun M => ?_)) | (refine Mem.Mem.callE (some 13) Try.func44 #[.agg #[.slice A0_0 l0_0.length c0_0, .slice A0_1 l0_1.length c0_1]] (M := M) (h := fun M => (spec_l11Copy.calls k _ _ l0_0 _ _ l0_1 t217 t220 _ (Kd.C_below HR0_0.out M.below) HC0_0.out (Kd.C_below HR0_1.out M.below) HC0_1.out A4.out).mono ?_); rintro e w17 ⟨v218, v221, rfl, ho0, ho1, hb⟩; refine ⟨_, rfl, ?_⟩; have M := M.RS hb rfl ho0 ho1; clear hb ho0 ho1; obtain ⟨Aa, ca, ea⟩ := M.row_form 0 rfl; subst ea; obtain ⟨Ab, cb, eb⟩ := M.formN 1 rfl; subst eb) | (refine Mem.Mem.boxE 9 31 [.slice none 0 0, .slice none 0 0] (M := M) (h := fun gb9 w18 M => ?_)) | (refine Mem.Mem.stoE 0 31 (.tmp 9) (.tmp 13) [.slice Aa t217.length ca, .slice Ab t220.length cb] (M := M) (h := fun w19 M => ?_)) | (refine Mem.Mem.ldE 5 32 (.tmp 4) hu32 (M := M) (h := fun M => ?_)) | (refine Mem.Mem.callE (some 16) Try.func45 #[.agg #[.int .i64 a1_0, .int .i64 a1_1, .int .i64 a1_2, .int .i64 a1_3], .slice A2 l2.length c2] (M := M) (h := fun M => (spec_LogWrites.calls k a1_0 a1_1 a1_2 a1_3 _ _ l2 t225 _ (Kd.C_below HR2.out M.below) HC2.out A5.out).mono ?_); rintro e w21 ⟨v226, rfl, ho0, hb⟩; refine ⟨_, rfl, ?_⟩; have M := M.V hb (Mem.frS ho0); clear hb ho0; obtain ⟨Ac, cc, ec⟩ := M.row_form 0 rfl; subst ec))
 have H := HC.out
 clear HC
 by_cases c6 : t224 = true
 case neg =>
  replace c6 := Bool.eq_false_iff.mpr c6
  subst c6
  rw [if_neg (show ¬ (false = true) by decide)] at H
  simp only [Option.some.injEq, Prod.mk.injEq] at H
  obtain ⟨rfl, rfl, rfl, rfl, rfl, rfl, rfl⟩ := H
  go_upto_region 4 with ((with_reducible refine Mem.gateW ?_); first | (refine Mem.Mem.ldE 7 31 (.tmp 3) hu31 (M := M) (h := fun M => ?_)) | (refine Mem.Mem.ldE 6 32 (.tmp 4) hu32 (M := M) (h := fun M => ?_)) | (refine Mem.Mem.callE (some 19) Try.func46 #[.agg #[.slice A0_0 l0_0.length c0_0, .slice A0_1 l0_1.length c0_1], .agg #[.int .i64 a1_0, .int .i64 a1_1, .int .i64 a1_2, .int .i64 a1_3]] (M := M) (h := fun M => (spec_l12Log.calls k _ _ l0_0 _ _ l0_1 a1_0 a1_1 a1_2 a1_3 false _ (Kd.C_below HR0_0.out M.below) HC0_0.out (Kd.C_below HR0_1.out M.below) HC0_1.out A7.out).mono ?_); rintro e w20 ⟨rfl, hb⟩; refine ⟨_, rfl, ?_⟩; have M := M.call hb; clear hb))
  have M := M.drew
  refine start_ (n := 5) (S := fun w' => (w'.cell? ⟨gb9, 0, none⟩ = some (.slice Aa t217.length ca) ∧ w'.cell? ⟨gb9, 1, none⟩ = some (.slice Ab t220.length cb)) ∧ w'.cell? ⟨gb4, 0, none⟩ = some (.int .i64 a1_0) ∧ w'.cell? ⟨gb4, 1, none⟩ = some (.int .i64 a1_1) ∧ w'.cell? ⟨gb4, 2, none⟩ = some (.int .i64 a1_2) ∧ w'.cell? ⟨gb4, 3, none⟩ = some (.int .i64 a1_3)) (ds := [3]) #[false, false, false, false, false] (by kernel_rfl) rfl rfl ⟨M.two 1, M.four 6⟩ (fun hHeld => ?_)
  generalize World.drew _ = wd at M hHeld ⊢
  refine ta 0 26 hHeld (h := ?_)
  refine ta 1 27 hHeld (h := ?_)
  refine on 2 none (h := fun K hK => ?_)
  refine Mem.Mem.stoR 5 31 (.tmp 6) (.tmp 26) [.slice Aa t217.length ca, .slice Ab t220.length cb] (M := M) (h := fun w30 M => hK.out _ _ ⟨M.two 1, M.four 6⟩ (fun hHeld => ?_)); clear hK K
  refine la 3 none (h := fun K hK => ?_)
  refine Mem.Mem.stoR 4 32 (.tmp 7) (.tmp 27) [.int .i64 a1_0, .int .i64 a1_1, .int .i64 a1_2, .int .i64 a1_3] (M := M) (h := fun w31 M => hK.out _ _ ?_); clear hK K
  refine pu 4 8 (h := ?_)
  refine done_ (by kernel_rfl) ?_
  go_wp2
  refine bodyPost_ret (results_list (rs := [.cell 6 31, .cell 7 32, .tmp 8]) rfl (by simp) (.cell gb6 31 #[.slice Aa t217.length ca, .slice Ab t220.length cb] (0, 0) _ rfl (M.at_blk 5 rfl) Try.underlying31 rfl (by kernel_rfl) (.cell gb7 32 #[.int .i64 a1_0, .int .i64 a1_1, .int .i64 a1_2, .int .i64 a1_3] (0, 0) _ rfl (M.at_blk 4 rfl) Try.underlying32 rfl (by kernel_rfl) (.tmp .nil)))) rfl ?_
  exact ⟨_, _, zw, M.at_row 2 rfl, M.at_N 3 rfl, M.below⟩
 subst c6
 rw [if_pos rfl] at H
 by_cases c8 : (t225.length : Int) = 0
 case pos =>
  rw [if_pos c8] at H
  have c8b := beq_iff_eq.mpr c8
  clear c8
  simp only [Option.some.injEq, Prod.mk.injEq] at H
  obtain ⟨rfl, rfl, rfl, rfl, rfl, rfl, rfl⟩ := H
  go_upto_region 4 with ((with_reducible refine Mem.gateW ?_); first | (refine Mem.Mem.ldE 7 31 (.tmp 3) hu31 (M := M) (h := fun M => ?_)) | (refine Mem.Mem.ldE 6 32 (.tmp 4) hu32 (M := M) (h := fun M => ?_)) | (refine Mem.Mem.callE (some 19) Try.func46 #[.agg #[.slice A0_0 l0_0.length c0_0, .slice A0_1 l0_1.length c0_1], .agg #[.int .i64 a1_0, .int .i64 a1_1, .int .i64 a1_2, .int .i64 a1_3]] (M := M) (h := fun M => (spec_l12Log.calls k _ _ l0_0 _ _ l0_1 a1_0 a1_1 a1_2 a1_3 true _ (Kd.C_below HR0_0.out M.below) HC0_0.out (Kd.C_below HR0_1.out M.below) HC0_1.out A7.out).mono ?_); rintro e w20 ⟨rfl, hb⟩; refine ⟨_, rfl, ?_⟩; have M := M.call hb; clear hb))
  have M := M.drew
  refine start_ (n := 5) (S := fun w' => (w'.cell? ⟨gb9, 0, none⟩ = some (.slice Aa t217.length ca) ∧ w'.cell? ⟨gb9, 1, none⟩ = some (.slice Ab t220.length cb)) ∧ w'.cell? ⟨gb4, 0, none⟩ = some (.int .i64 a1_0) ∧ w'.cell? ⟨gb4, 1, none⟩ = some (.int .i64 a1_1) ∧ w'.cell? ⟨gb4, 2, none⟩ = some (.int .i64 a1_2) ∧ w'.cell? ⟨gb4, 3, none⟩ = some (.int .i64 a1_3)) (ds := [3]) #[false, false, false, false, false] (by kernel_rfl) rfl rfl ⟨M.two 1, M.four 6⟩ (fun hHeld => ?_)
  generalize World.drew _ = wd at M hHeld ⊢
  refine ta 0 26 hHeld (h := ?_)
  refine ta 1 27 hHeld (h := ?_)
  refine on 2 none (h := fun K hK => ?_)
  refine Mem.Mem.stoR 5 31 (.tmp 6) (.tmp 26) [.slice Aa t217.length ca, .slice Ab t220.length cb] (M := M) (h := fun w30 M => hK.out _ _ ⟨M.two 1, M.four 6⟩ (fun hHeld => ?_)); clear hK K
  refine la 3 none (h := fun K hK => ?_)
  refine Mem.Mem.stoR 4 32 (.tmp 7) (.tmp 27) [.int .i64 a1_0, .int .i64 a1_1, .int .i64 a1_2, .int .i64 a1_3] (M := M) (h := fun w31 M => hK.out _ _ ?_); clear hK K
  refine pu 4 8 (h := ?_)
  refine done_ (by kernel_rfl) ?_
  go_wp2
  refine bodyPost_ret (results_list (rs := [.cell 6 31, .cell 7 32, .tmp 8]) rfl (by simp) (.cell gb6 31 #[.slice Aa t217.length ca, .slice Ab t220.length cb] (0, 0) _ rfl (M.at_blk 5 rfl) Try.underlying31 rfl (by kernel_rfl) (.cell gb7 32 #[.int .i64 a1_0, .int .i64 a1_1, .int .i64 a1_2, .int .i64 a1_3] (0, 0) _ rfl (M.at_blk 4 rfl) Try.underlying32 rfl (by kernel_rfl) (.tmp .nil)))) rfl ?_
  exact ⟨_, _, zw, M.at_row 2 rfl, M.at_N 3 rfl, M.below⟩
 rw [if_neg c8] at H
 have c8b0 : ((t225.length : Int) == 0) = false := beq_eq_false_iff_ne.mpr c8
 have c8b2 : ¬ (t225 = []) := fun h_ => c8 (by rw [h_]; rfl)
 clear c8
 by_cases c41 : t220.length + t225.length < 4398046511104
 case neg =>
  rw [if_neg c41] at H
  exact absurd H (by simp)
 rw [if_pos c41] at H
 have LMc41 := Ak c41; clear c41
 generalize hy228 : t220 ++ t225 = y228 at H
 have Ny228 := Ak hy228; clear hy228
 replace H := Option.bind_eq_some_iff.mp H
 obtain ⟨⟨t231, t234⟩, A420, H⟩ := H
 have A42 := Ak A420; clear A420; (try dsimp only at H)
 simp only [Option.some.injEq, Prod.mk.injEq] at H
 obtain ⟨rfl, rfl, rfl, rfl, rfl, rfl, rfl⟩ := H
 go_upto_region 5 with ((with_reducible refine Mem.gateW ?_); first | (refine Mem.Mem.ldE 7 31 (.tmp 3) hu31 (M := M) (h := fun M => ?_)) | (refine Mem.Mem.ldE 6 32 (.tmp 4) hu32 (M := M) (h := fun M => ?_)) | (refine Mem.Mem.callE (some 19) Try.func46 #[.agg #[.slice A0_0 l0_0.length c0_0, .slice A0_1 l0_1.length c0_1], .agg #[.int .i64 a1_0, .int .i64 a1_1, .int .i64 a1_2, .int .i64 a1_3]] (M := M) (h := fun M => (spec_l12Log.calls k _ _ l0_0 _ _ l0_1 a1_0 a1_1 a1_2 a1_3 true _ (Kd.C_below HR0_0.out M.below) HC0_0.out (Kd.C_below HR0_1.out M.below) HC0_1.out A7.out).mono ?_); rintro e w20 ⟨rfl, hb⟩; refine ⟨_, rfl, ?_⟩; have M := M.call hb; clear hb))
 have hz := M.look 1
 go_upto_region 6 with ((with_reducible refine Mem.gateW ?_); first | (refine Mem.Mem.appE 3 0 k96 (.tmp 29) (.tmp 30) 29 96 (.agg #[(.int .i64 0), (.slice none 0 0)]) 32 Try.underlying29 info96 (hl := by have := LMc41.out; omega) (M := M) (h := fun v229 w22 M => ?_); rw [Ny228.out] at M; clear hz; obtain ⟨Ad, cd, ed⟩ := M.formN 3 rfl; subst ed; have hz := M.look 1))
 have M := M.set 1 1 (.slice Ad y228.length cd) rfl
 clear hz
 generalize World.setCell _ _ _ = w23 at M ⊢
 go_upto_region 7 with ((with_reducible refine Mem.gateW ?_); first | (refine Mem.Mem.ldE 6 32 (.tmp 4) hu32 (M := M) (h := fun M => ?_)) | (refine Mem.Mem.boxE 11 32 [.int .i64 0, .int .i64 0, .int .i64 0, .int .i64 0] (M := M) (h := fun gb11 w24 M => ?_)) | (refine Mem.Mem.stoE 0 32 (.tmp 11) (.tmp 33) [.int .i64 a1_0, .int .i64 a1_1, .int .i64 a1_2, .int .i64 a1_3] (M := M) (h := fun w25 M => ?_)))
 have hz := M.look 7
 have hz1 := M.look 0
 go_upto_region 8 with fail
 have M := (M.set 0 2 (.int .i64 (wrap64 (a1_2 + (t225.length : Int)))) rfl).drew
 clear hz hz1
 refine start_ (n := 6) (S := fun w' => (w'.cell? ⟨gb9, 0, none⟩ = some (.slice Aa t217.length ca) ∧ w'.cell? ⟨gb9, 1, none⟩ = some (.slice Ad y228.length cd)) ∧ w'.cell? ⟨gb11, 0, none⟩ = some (.int .i64 a1_0) ∧ w'.cell? ⟨gb11, 1, none⟩ = some (.int .i64 a1_1) ∧ w'.cell? ⟨gb11, 2, none⟩ = some (.int .i64 (wrap64 (a1_2 + (t225.length : Int)))) ∧ w'.cell? ⟨gb11, 3, none⟩ = some (.int .i64 a1_3)) (ds := [4]) #[false, false, false, false, false, false] (by kernel_rfl) rfl rfl ⟨M.two 2, M.four 0⟩ (fun hHeld => ?_)
 generalize World.drew _ = wd at M hHeld ⊢
 refine ta 0 40 hHeld (h := ?_)
 refine ta 2 42 hHeld (h := ?_)
 refine on 1 (some 41) (h := fun K hK => ?_)
 refine Mem.Mem.callS Try.func47 #[.agg #[.slice Aa t217.length ca, .slice Ad y228.length cd]] (M := M) (h := fun M => (spec_Sync.calls k _ _ t217 _ _ y228 t231 t234 _ (M.C 3 rfl) (M.cap 3 rfl) (M.CN 4 rfl) (M.capN 4 rfl) A42.out).mono ?_)
 rintro e w26 ⟨v232, v235, rfl, ho0, ho1, hb⟩
 have M := M.V2 hb (Mem.frR ho0) (Mem.frS ho1)
 clear hb ho0 ho1
 obtain ⟨Ae, ce, ee⟩ := M.row_form 0 rfl
 subst ee
 obtain ⟨Af, cf, ef⟩ := M.row_form 1 rfl
 subst ef
 refine ⟨_, rfl, Mem.nx (some 41) hK ⟨M.two 4, M.four 2⟩ (fun hHeld => ?_)⟩; clear hK K
 refine on 3 none (h := fun K hK => ?_)
 refine Mem.Mem.stoR 8 31 (.tmp 6) (.tmp 41) [.slice Ae t231.length ce, .slice Af t234.length cf] (M := M) (h := fun w30 M => hK.out _ _ ⟨M.two 4, M.four 2⟩ (fun hHeld => ?_)); clear hK K
 refine la 4 none (h := fun K hK => ?_)
 refine Mem.Mem.stoR 7 32 (.tmp 7) (.tmp 42) [.int .i64 a1_0, .int .i64 a1_1, .int .i64 (wrap64 (a1_2 + (t225.length : Int))), .int .i64 a1_3] (M := M) (h := fun w31 M => hK.out _ _ ?_); clear hK K
 refine pu 5 8 (h := ?_)
 refine done_ (by kernel_rfl) ?_
 go_wp2
 refine bodyPost_ret (results_list (rs := [.cell 6 31, .cell 7 32, .tmp 8]) rfl (by simp) (.cell gb6 31 #[.slice Ae t231.length ce, .slice Af t234.length cf] (0, 0) _ rfl (M.at_blk 8 rfl) Try.underlying31 rfl (by kernel_rfl) (.cell gb7 32 #[.int .i64 a1_0, .int .i64 a1_1, .int .i64 (wrap64 (a1_2 + (t225.length : Int))), .int .i64 a1_3] (0, 0) _ rfl (M.at_blk 7 rfl) Try.underlying32 rfl (by kernel_rfl) (.tmp .nil)))) rfl ?_
 exact ⟨_, _, zw, M.at_row 0 rfl, M.at_row 1 rfl, M.below⟩

mutual
def spec_ReadSector.j0 : Nat → Int → Bool → List Int → List (S96) → Option (List Int × Bool)
 | 0, _, _, _, _ => none
 | k + 1, x1, x18, x459000, x459001 => if x18 = true then (some ((([] : List Int)), false)) else ((some (([] : List Int) : List Int)).bind fun y465 => (if 0 ≤ (wrap64 (x1 * 64)) then (if (wrap64 (x1 * 64)) ≤ (wrap64 ((wrap64 (x1 + 1)) * 64)) then (if (wrap64 ((wrap64 (x1 + 1)) * 64)) ≤ (x459000.length : Int) then (if y465.length + ((x459000.take ((wrap64 ((wrap64 (x1 + 1)) * 64)) : Int).toNat).drop ((wrap64 (x1 * 64)) : Int).toNat).length < 140737488355328 then (spec_ReadSector.l0 k x1 (y465 ++ ((x459000.take ((wrap64 ((wrap64 (x1 + 1)) * 64)) : Int).toNat).drop ((wrap64 (x1 * 64)) : Int).toNat)) 0 x459000 x459001) else (none)) else (none)) else (none)) else (none)))
def spec_ReadSector.l0 : Nat → Int → List Int → Int → List Int → List (S96) → Option (List Int × Bool)
 | 0, _, _, _, _, _ => none
 | k + 1, x1, x6, x7, x459000, x459001 => if x7 < (x459001.length : Int) then (if 0 ≤ x7 then (if ((rd_T96 x459001 x7).f0) = x1 then ((some (([] : List Int) : List Int)).bind fun y473 => (if y473.length + ((rd_T96 x459001 x7).f1).length < 140737488355328 then (spec_ReadSector.l0 k x1 (y473 ++ ((rd_T96 x459001 x7).f1)) (wrap64 (x7 + 1)) x459000 x459001) else (none))) else (spec_ReadSector.l0 k x1 x6 (wrap64 (x7 + 1)) x459000 x459001)) else (none)) else (some (x6, true))
end
def spec_ReadSector.f (k : Nat) (l0_0 : List Int) (l0_1 : List (S96)) (a1 : Int) : Option (List Int × Bool) := (spec_DiskOk.f k l0_0 l0_1).bind fun t459 => (if t459 = true then ((spec_l11Many.f l0_0 l0_1).bind fun t460 => ((spec_l1In.f a1 0 (wrap64 (t460 - 1))).bind fun t461 => (spec_ReadSector.j0 k a1 (!t461) l0_0 l0_1))) else (spec_ReadSector.j0 k a1 true l0_0 l0_1))
set_option maxHeartbeats 8000000 in
set_option maxRecDepth 100000 in
theorem spec_ReadSector.calls (k : Nat) (A0_0 : Option Addr) (c0_0 : Nat) (l0_0 : List Int) (A0_1 : Option Addr) (c0_1 : Nat) (l0_1 : List (S96)) (a1 : Int) (r1 : List Int) (r2 : Bool) (w : World) (hr0_0 : Kd.C (Kd.int .u8) w A0_0 l0_0.length l0_0) (hc0_0 : l0_0.length ≤ c0_0) (hr0_1 : Kd.C k96 w A0_1 l0_1.length l0_1) (hc0_1 : l0_1.length ≤ c0_1) (h : spec_ReadSector.f k l0_0 l0_1 a1 = some (r1, r2)) :
  Calls Try.prog 57 #[.agg #[.slice A0_0 l0_0.length c0_0, .slice A0_1 l0_1.length c0_1], .int .i64 a1] w fun e w' => ∃ v0_ : Value, e = .returned (.tuple #[v0_, .bool r2]) ∧ Kd.R (Kd.int .u8) 5 w' w.heap.size (fun _ => True) v0_ r1 ∧ Below w.heap.size w w' := by
 have hu31 := Try.underlying31
 have HR0_0 := Ak hr0_0
 have HC0_0 := Ak hc0_0
 clear hr0_0 hc0_0
 have HR0_1 := Ak hr0_1
 have HC0_1 := Ak hc0_1
 clear hr0_1 hc0_1
 have HB := Ak (Below.refl w.heap.size w)
 have H := h
 unfold spec_ReadSector.f at H
 clear h
 have HC3 := Ak H
 clear H
 go_enter Try.func57, Try.ntmps57
 go_upto_region 1 with (first | ((with_reducible refine gate_dst (N := 2) rfl ?_); refine box_event ?hg (N := 2) ?hd (cs := #[.slice A0_0 l0_0.length c0_0, .slice A0_1 l0_1.length c0_1]) (t := 31) ?hr ?_; (case hd => rfl); (case hg => rfl); (case hr => first | (go_simp; done) | (go_simp; rfl)); intro gb458 hg w4 hbox hb; have BK458 := Ak (hbox); have GW458 := Ak ((zb hg (bw HB.out))); have GE458 := Ak ((zb hg (bw HB.out))); replace HB := Ak (below_step (bw HB.out) hb); clear hb hbox hg))
 (try simp only [Act.put, sT, sZ, sS])
 go_cut [18] (fun v18 wc => ∃ (kq : Nat) (x18_2 : Bool), v18 = .bool x18_2 ∧ Aside0 (spec_ReadSector.j0 kq a1 x18_2 l0_0 l0_1 = some (r1, r2)) ∧ Aside0 (kq ≤ k) ∧ Aside0 (wc.heap[gb458]? = some (.cells #[(.slice A0_0 l0_0.length c0_0), (.slice A0_1 l0_1.length c0_1)] 31 (0, 0))) ∧ Aside0 (Below w.heap.size w wc))
 case first =>
  have H := HC3.out
  clear HC3
  replace H := Option.bind_eq_some_iff.mp H
  obtain ⟨t459, A50, H⟩ := H
  have A5 := Ak A50
  clear A50
  by_cases c6 : t459 = true
  ·subst c6
   rw [if_pos rfl] at H
   replace H := Option.bind_eq_some_iff.mp H
   obtain ⟨t460, A70, H⟩ := H
   have A7 := Ak A70
   clear A70
   replace H := Option.bind_eq_some_iff.mp H
   obtain ⟨t461, A80, H⟩ := H
   have A8 := Ak A80
   clear A80
   have H' := Ak H
   clear H
   have hcz9_0 := zk0 BK458.out
   have hcz9_1 := zk1 BK458.out
   have hfz9_0 := blk_frozen BK458.out 0
   have hfz9_1 := blk_frozen BK458.out 1
   go_wp2_with (first | ((with_reducible refine gate_callee (f := 98) rfl ?_); refine goesL_ (some 9) rfl rfl Try.func98 (by kernel_rfl) rfl #[.agg #[.slice A0_0 l0_0.length c0_0, .slice A0_1 l0_1.length c0_1]] rfl gm ?_; (with_reducible refine (spec_DiskOk.calls k _ _ l0_0 _ _ l0_1 true _ ?side1 ?side2 ?side3 ?side4 A5.out).mono ?_); (case side1 => exact zq (Kd.C_below HR0_0.out HB.out)); (case side2 => exact HC0_0.out); (case side3 => exact zq (Kd.C_below HR0_1.out HB.out)); (case side4 => exact HC0_1.out); rintro e w10 ⟨rfl, hb⟩; refine ⟨_, rfl, ?_⟩; replace BK458 := Ak (blk_below (bq BK458.out) hb); replace HB := Ak (below_step (bw1 HB.out GE458.out) hb); have hcz11_0 := zk0 BK458.out; have hcz11_1 := zk1 BK458.out; have hfz11_0 := blk_frozen BK458.out 0; have hfz11_1 := blk_frozen BK458.out 1) | (go_at_call 104; (with_reducible refine (spec_l11Many.calls _ _ l0_0 _ _ l0_1 t460 _ ?side1 ?side2 ?side3 ?side4 A7.out).mono ?_); (case side1 => exact zq (Kd.C_below HR0_0.out HB.out)); (case side2 => exact HC0_0.out); (case side3 => exact zq (Kd.C_below HR0_1.out HB.out)); (case side4 => exact HC0_1.out); rintro e w12 ⟨rfl, hb⟩; replace BK458 := Ak (blk_below (bq BK458.out) hb); replace HB := Ak (below_step (bw1 HB.out GE458.out) hb)) | (go_at_call 97; (with_reducible refine (spec_l1In.calls a1 0 (wrap64 (t460 - 1)) t461 _ A8.out).mono ?_); rintro e w' ⟨rfl, ⟨nd, rfl⟩⟩))
   go_meet
   case rel => exact ⟨_, (!t461), (by first | rfl | (simp; done) | (simp [*]; done)), H', ⟨by first | omega | exact Nat.le_refl _⟩, ⟨bq BK458.out⟩, ⟨bw1 HB.out GE458.out⟩⟩
  ·replace c6 := Bool.eq_false_iff.mpr c6
   subst c6
   rw [if_neg (show ¬ (false = true) by decide)] at H
   have H' := Ak H
   clear H
   have hcz13_0 := zk0 BK458.out
   have hcz13_1 := zk1 BK458.out
   have hfz13_0 := blk_frozen BK458.out 0
   have hfz13_1 := blk_frozen BK458.out 1
   go_wp2_with (first | ((with_reducible refine gate_callee (f := 98) rfl ?_); refine goesL_ (some 9) rfl rfl Try.func98 (by kernel_rfl) rfl #[.agg #[.slice A0_0 l0_0.length c0_0, .slice A0_1 l0_1.length c0_1]] rfl gm ?_; (with_reducible refine (spec_DiskOk.calls k _ _ l0_0 _ _ l0_1 false _ ?side1 ?side2 ?side3 ?side4 A5.out).mono ?_); (case side1 => exact zq (Kd.C_below HR0_0.out HB.out)); (case side2 => exact HC0_0.out); (case side3 => exact zq (Kd.C_below HR0_1.out HB.out)); (case side4 => exact HC0_1.out); rintro e w14 ⟨rfl, hb⟩; refine ⟨_, rfl, ?_⟩; replace BK458 := Ak (blk_below (bq BK458.out) hb); replace HB := Ak (below_step (bw1 HB.out GE458.out) hb)))
   go_meet
   case rel => exact ⟨_, (true), (by first | rfl | (simp; done) | (simp [*]; done)), H', ⟨by first | omega | exact Nat.le_refl _⟩, ⟨bq BK458.out⟩, ⟨bw1 HB.out GE458.out⟩⟩
 case rest =>
  clear HC3
  obtain ⟨kq, x18_2, rfl, HA, HJ2, BK458, HB⟩ := hcut
  cases kq with
  | zero => exact absurd HA.out (by simp [spec_ReadSector.j0])
  | succ kj2 =>
   have H := HA.out
   clear HA
   simp only [spec_ReadSector.j0] at H
   by_cases c15 : x18_2 = true
   ·subst c15
    rw [if_pos rfl] at H
    obtain ⟨y462, hy462⟩ : ∃ y_ : List Int, y_ = (([] : List Int)) := ⟨_, rfl⟩
    replace H : (some (y462, false)) = some (r1, r2) := by first | (rw [hy462]; with_reducible exact H) | (have H2_ := (Option.bind_some _ _).symm.trans H; rw [hy462]; with_reducible exact H2_) | (have H2_ := (Option.bind_some _ _).symm.trans H; with_reducible exact H2_) | with_reducible exact H | (rw [hy462]; exact H) | exact H
    have Ny462 := Ak hy462
    clear hy462
    simp only [Option.some.injEq, Prod.mk.injEq] at H
    obtain ⟨rfl, rfl⟩ := H
    go_wp2_with (first | ((with_reducible refine gate_dst (N := 19) rfl ?_); refine Kd.R_lit (Kd.int .u8) _ 5 ?hg (N := 19) ?hd (xs := ([] : List Int)) (inner := []) (ok := fun _ => True) (okp := fun _ => True) ?hr ?hp (fun _ hk => hk) trivial (Below.refl _ _) (Nat.le_refl _) (by simp) ?_; (case hd => rfl); (case hg => rfl); (case hr => first | (go_simp; done) | (go_simp; rfl)); (case hp => exact (Reps.none _ _)); intro v463 w16 ho17 hb hg_ hnew_; clear hg_ hnew_; (first | rw [← Ny462.out] at ho17 | (simp only [Int.reduceToNat] at ho17; rw [← Ny462.out] at ho17)); have HO464 := Ak (Kd.R_lower ho17 (below_size (bw1 HB.out GE458.out))); replace BK458 := Ak (blk_below (bq BK458.out) hb); replace HB := Ak (below_step (bw1 HB.out GE458.out) hb); clear hb ho17))
    go_ret2
    exact ⟨_, zw, rq HO464.out, bw1 HB.out GE458.out⟩
   ·replace c15 := Bool.eq_false_iff.mpr c15
    subst c15
    rw [if_neg (show ¬ (false = true) by decide)] at H
    obtain ⟨y465, hy465⟩ : ∃ y_ : List Int, y_ = (([] : List Int)) := ⟨_, rfl⟩
    replace H : (if 0 ≤ (wrap64 (a1 * 64)) then (if (wrap64 (a1 * 64)) ≤ (wrap64 ((wrap64 (a1 + 1)) * 64)) then (if (wrap64 ((wrap64 (a1 + 1)) * 64)) ≤ (l0_0.length : Int) then (if y465.length + ((l0_0.take ((wrap64 ((wrap64 (a1 + 1)) * 64)) : Int).toNat).drop ((wrap64 (a1 * 64)) : Int).toNat).length < 140737488355328 then (spec_ReadSector.l0 kj2 a1 (y465 ++ ((l0_0.take ((wrap64 ((wrap64 (a1 + 1)) * 64)) : Int).toNat).drop ((wrap64 (a1 * 64)) : Int).toNat)) 0 l0_0 l0_1) else (none)) else (none)) else (none)) else (none)) = some (r1, r2) := by first | (rw [hy465]; with_reducible exact H) | (have H2_ := (Option.bind_some _ _).symm.trans H; rw [hy465]; with_reducible exact H2_) | (have H2_ := (Option.bind_some _ _).symm.trans H; with_reducible exact H2_) | with_reducible exact H | (rw [hy465]; exact H) | exact H
    have Ny465 := Ak hy465
    clear hy465
    obtain ⟨ji18, hji18⟩ : ∃ j_ : Int, (wrap64 (a1 * 64)) = j_ := ⟨_, rfl⟩
    replace H : (if 0 ≤ (ji18) then (if (ji18) ≤ (wrap64 ((wrap64 (a1 + 1)) * 64)) then (if (wrap64 ((wrap64 (a1 + 1)) * 64)) ≤ (l0_0.length : Int) then (if y465.length + ((l0_0.take ((wrap64 ((wrap64 (a1 + 1)) * 64)) : Int).toNat).drop ((ji18) : Int).toNat).length < 140737488355328 then (spec_ReadSector.l0 kj2 a1 (y465 ++ ((l0_0.take ((wrap64 ((wrap64 (a1 + 1)) * 64)) : Int).toNat).drop ((ji18) : Int).toNat)) 0 l0_0 l0_1) else (none)) else (none)) else (none)) else (none)) = some (r1, r2) := by first | (rw [hji18] at H; exact H) | (simp only [hji18] at H ⊢; exact H)
    have hji18w : (IntKind.i64.wrap (a1 * 64)) = ji18 := (i64_w _).trans hji18
    by_cases c19 : 0 ≤ (ji18)
    ·rw [if_pos c19] at H
     have c19b0 := eq_true c19
     have c19b1 := decide_eq_true c19
     clear c19
     by_cases c20 : (ji18) ≤ (wrap64 ((wrap64 (a1 + 1)) * 64))
     ·rw [if_pos c20] at H
      have c20b0 := eq_true c20
      have c20b1 := decide_eq_true c20
      by_cases c21 : (wrap64 ((wrap64 (a1 + 1)) * 64)) ≤ (l0_0.length : Int)
      ·rw [if_pos c21] at H
       have c21b0 := eq_true c21
       have c21b1 := decide_eq_true c21
       by_cases c22 : y465.length + ((l0_0.take ((wrap64 ((wrap64 (a1 + 1)) * 64)) : Int).toNat).drop ((ji18) : Int).toNat).length < 140737488355328
       ·rw [if_pos c22] at H
        have LMc22 := Ak c22
        clear c22
        generalize hy469 : (y465 ++ ((l0_0.take ((wrap64 ((wrap64 (a1 + 1)) * 64)) : Int).toNat).drop ((ji18) : Int).toNat) : List Int) = y469 at H
        try rw [Option.bind_some] at H
        have Ny469 := Ak hy469.symm
        clear hy469
        have H' := Ak H
        clear H
        go_wp2_with (first | ((with_reducible refine gate_dst (N := 20) rfl ?_); refine Kd.R_lit (Kd.int .u8) _ 5 ?hg (N := 20) ?hd (xs := ([] : List Int)) (inner := []) (ok := fun _ => True) (okp := fun _ => True) ?hr ?hp (fun _ hk => hk) trivial (Below.refl _ _) (Nat.le_refl _) (by simp) ?_; (case hd => rfl); (case hg => rfl); (case hr => first | (go_simp; done) | (go_simp; rfl)); (case hp => exact (Reps.none _ _)); intro v466 w23 ho24 hb hg_ hnew_; clear hg_ hnew_; (first | rw [← Ny465.out] at ho24 | (simp only [Int.reduceToNat] at ho24; rw [← Ny465.out] at ho24)); have HO467 := Ak (Kd.R_lower ho24 (below_size (bw1 HB.out GE458.out))); replace BK458 := Ak (blk_below (bq BK458.out) hb); replace HB := Ak (below_step (bw1 HB.out GE458.out) hb); clear hb ho24; have hcz25_0 := zk0 BK458.out; have hcz25_1 := zk1 BK458.out; have hfz25_0 := blk_frozen BK458.out 0; have hfz25_1 := blk_frozen BK458.out 1; obtain ⟨i026, hi026, _, hsz26, _⟩ := info_parts info5; obtain ⟨A26, hcut26, hA26, hC26⟩ := print_mid_of (P := Try.prog) (Value.int .u8) 0 22 5 .i64 .i64 Try.underlying22 hi026 hsz26 A0_0 c0_0 l0_0 (ji18) (wrap64 ((wrap64 (a1 + 1)) * 64)) (of_decide_eq_true (by first | (with_reducible assumption) | assumption)) (by first | omega | exact of_decide_eq_true (by first | (with_reducible assumption) | assumption)) (of_decide_eq_true (by first | (with_reducible assumption) | assumption)) HC0_0.out; have HR468 := Ak (Kd.C_of_reads (h1 := fun _ => rfl) (hA26 _ (Kd.reads_of_C HR0_0.out))); have HC468 := Ak hC26; clear hA26 hC26 hi026 hsz26) | ((with_reducible refine gate_builtin (b := .append) (xs := #[.tmp 20, .tmp 28]) rfl ?_); at_builtin; refine Kd.R_append_rows (Kd.int .u8) (w0 := w) w.heap.size rfl (.tmp 20) (.tmp 28) 22 5 (.int .u8 0) 1 rfl Try.underlying22 info5 rfl (by decide) (by omega) v466 y465 ((l0_0.take ((wrap64 ((wrap64 (a1 + 1)) * 64)) : Int).toNat).drop ((ji18) : Int).toNat) _ _ _ (fun _ => True) (fun _ => False) rfl rfl ?aO ?aR (fun _ _ h => h) (fun _ h => h.elim) ?aF ?aB ?aS ?aL ?_; (case aR => first | (rw [← show ((l0_0.take ((wrap64 ((wrap64 (a1 + 1)) * 64)) : Int).toNat).drop ((ji18) : Int).toNat).length = ((wrap64 ((wrap64 (a1 + 1)) * 64)).toNat - (ji18).toNat) from (by rw [List.length_drop, List.length_take]; have h_ : ((wrap64 ((wrap64 (a1 + 1)) * 64)) : Int) ≤ (l0_0.length : Int) := of_decide_eq_true (by first | (with_reducible assumption) | assumption); omega)]; exact zq (Kd.C_below HR468.out HB.out)) | (exact zq (Kd.C_below HR468.out HB.out))); (case aB => exact (bw1 HB.out GE458.out)); (case aF => exact (fun _ _ => trivial)); (case aO => exact (rq HO467.out)); (case aS => exact (below_size (bw1 HB.out GE458.out))); (case aL => have := LMc22.out; have hlx_ := (show ((l0_0.take ((wrap64 ((wrap64 (a1 + 1)) * 64)) : Int).toNat).drop ((ji18) : Int).toNat).length = ((wrap64 ((wrap64 (a1 + 1)) * 64)).toNat - (ji18).toNat) from (by rw [List.length_drop, List.length_take]; have h_ : ((wrap64 ((wrap64 (a1 + 1)) * 64)) : Int) ≤ (l0_0.length : Int) := of_decide_eq_true (by first | (with_reducible assumption) | assumption); omega)); omega); intro v470 w27 ho hb hg hat; rw [← Ny469.out] at ho; replace BK458 := Ak (blk_grown (g := gb458) (o := .cells #[.slice A0_0 l0_0.length c0_0, .slice A0_1 l0_1.length c0_1] 31 (0, 0)) (bq BK458.out) hg (Kd.R_ne HO467.out BK458.out (by decide))); replace HB := Ak (hb); have HO471 := Ak (ho); clear HO467; clear ho hb hg hat))
        go_loopg [6, 7] kj2 (fun kq v6 v7 w' => ∃ (x6_2 : List Int) (x7_2 : Int), v7 = .int .i64 x7_2 ∧ Aside0 (spec_ReadSector.l0 kq a1 x6_2 x7_2 l0_0 l0_1 = some (r1, r2)) ∧ Aside0 (kq ≤ kj2) ∧ Aside0 (Kd.R (Kd.int .u8) 5 w' w.heap.size (fun _ => True) v6 x6_2) ∧ Aside0 (w'.heap[gb458]? = some (.cells #[(.slice A0_0 l0_0.length c0_0), (.slice A0_1 l0_1.length c0_1)] 31 (0, 0))) ∧ Aside0 (Below w.heap.size w w'))
        case atStart => exact ⟨(y469), (0), (by first | rfl | (simp; done) | (simp [*]; done)), H', ⟨Nat.le_refl _⟩, ⟨rq HO471.out⟩, ⟨bq BK458.out⟩, ⟨bw1 HB.out GE458.out⟩⟩
        case round =>
         clear H'
         try clear c19b0
         try clear c19b1
         try clear c20b0
         try clear c20b1
         try clear c21b0
         try clear c21b1
         obtain ⟨x6_2, x7_2, rfl, HA, HK2, HO_6, BK458, HB⟩ := hrel
         cases gk with
         | zero => exact absurd HA.out (by simp [spec_ReadSector.l0])
         | succ k2 =>
          have H := HA.out
          clear HA
          simp only [spec_ReadSector.l0] at H
          by_cases c28 : x7_2 < (l0_1.length : Int)
          ·rw [if_pos c28] at H
           have c28b0 := decide_eq_true c28
           clear c28
           by_cases c29 : 0 ≤ x7_2
           ·rw [if_pos c29] at H
            have c29b0 := decide_eq_true c29
            clear c29
            by_cases c30 : ((rd_T96 l0_1 x7_2).f0) = a1
            ·rw [if_pos c30] at H
             have c30b0 : (((rd_T96 l0_1 x7_2).f0) == a1) = true := beq_iff_eq.mpr c30
             have c30b1 : (((rd_T96 l0_1 x7_2).f0) != a1) = false := bne_eq_false_iff_eq.mpr c30
             clear c30
             obtain ⟨y473, hy473⟩ : ∃ y_ : List Int, y_ = (([] : List Int)) := ⟨_, rfl⟩
             replace H : (if y473.length + ((rd_T96 l0_1 x7_2).f1).length < 140737488355328 then (spec_ReadSector.l0 k2 a1 (y473 ++ ((rd_T96 l0_1 x7_2).f1)) (wrap64 (x7_2 + 1)) l0_0 l0_1) else (none)) = some (r1, r2) := by first | (rw [hy473]; with_reducible exact H) | (have H2_ := (Option.bind_some _ _).symm.trans H; rw [hy473]; with_reducible exact H2_) | (have H2_ := (Option.bind_some _ _).symm.trans H; with_reducible exact H2_) | with_reducible exact H | (rw [hy473]; exact H) | exact H
             have Ny473 := Ak hy473
             clear hy473
             by_cases c31 : y473.length + ((rd_T96 l0_1 x7_2).f1).length < 140737488355328
             ·rw [if_pos c31] at H
              have LMc31 := Ak c31
              clear c31
              generalize hy477 : (y473 ++ ((rd_T96 l0_1 x7_2).f1) : List Int) = y477 at H
              try rw [Option.bind_some] at H
              have Ny477 := Ak hy477.symm
              clear hy477
              have H' := Ak H
              clear H
              have hcz32_0 : wr.cell? ⟨gb458, 0, none⟩ = some (.slice A0_0 l0_0.length c0_0) := zk0 BK458.out
              have hcz32_1 : wr.cell? ⟨gb458, 1, none⟩ = some (.slice A0_1 l0_1.length c0_1) := zk1 BK458.out
              have hfz32_0 := blk_frozen BK458.out 0
              have hfz32_1 := blk_frozen BK458.out 1
              have p472 : 0 ≤ (x7_2 : Int) := of_decide_eq_true (by first | (with_reducible assumption) | assumption)
              have q472 : x7_2 < (l0_1.length : Int) := of_decide_eq_true (by first | (with_reducible assumption) | assumption)
              obtain ⟨ad472, A472_1, c472_1, e472, hx472_0, hx472_1, hl472_1, hi472_1⟩ := at_T96 HR0_1.out x7_2 p472 q472
              cases e472
              replace hx472_0 := (HB.out.cell (World.block_lt_of_cell? w _ hx472_0)).trans hx472_0
              replace hx472_1 := (HB.out.cell (World.block_lt_of_cell? w _ hx472_1)).trans hx472_1
              have HR472_1 := Ak hi472_1
              have HC472_1 := Ak hl472_1
              clear hi472_1 hl472_1
              replace p472 := eq_true p472
              replace q472 := eq_true q472
              go_wp2_with (first | ((with_reducible refine gate_dst (N := 45) rfl ?_); refine Kd.R_lit (Kd.int .u8) _ 5 ?hg (N := 45) ?hd (xs := ([] : List Int)) (inner := []) (ok := fun _ => True) (okp := fun _ => True) ?hr ?hp (fun _ hk => hk) trivial (Below.refl _ _) (Nat.le_refl _) (by simp) ?_; (case hd => rfl); (case hg => rfl); (case hr => first | (go_simp; done) | (go_simp; rfl)); (case hp => exact (Reps.none _ _)); intro v474 w33 ho34 hb hg_ hnew_; clear hg_ hnew_; (first | rw [← Ny473.out] at ho34 | (simp only [Int.reduceToNat] at ho34; rw [← Ny473.out] at ho34)); have HO475 := Ak (Kd.R_lower (Kd.R_new' ho34 (Kd.R_lt (rq HO_6.out))) (below_size (bw1 HB.out GE458.out))); replace HO_6 := Ak (Kd.R_elder' (rq HO_6.out) (Kd.R_base ho34) hb); replace BK458 := Ak (blk_below (bq BK458.out) hb); replace HB := Ak (below_step (bw1 HB.out GE458.out) hb); clear hb ho34; have hcz35_0 := zk0 BK458.out; have hcz35_1 := zk1 BK458.out; have hfz35_0 := blk_frozen BK458.out 0; have hfz35_1 := blk_frozen BK458.out 1; have p476 : 0 ≤ (x7_2 : Int) := of_decide_eq_true (by first | (with_reducible assumption) | assumption); have q476 : x7_2 < (l0_1.length : Int) := of_decide_eq_true (by first | (with_reducible assumption) | assumption); obtain ⟨ad476, A476_1, c476_1, e476, hx476_0, hx476_1, hl476_1, hi476_1⟩ := at_T96 HR0_1.out x7_2 p476 q476; obtain rfl : ad472 = ad476 := (by injection e476); replace hx476_0 := (HB.out.cell (World.block_lt_of_cell? w _ hx476_0)).trans hx476_0; replace hx476_1 := (HB.out.cell (World.block_lt_of_cell? w _ hx476_1)).trans hx476_1; have HR476_1 := Ak hi476_1; have HC476_1 := Ak hl476_1; clear hi476_1 hl476_1; replace p476 := eq_true p476; replace q476 := eq_true q476) | ((with_reducible refine gate_builtin (b := .append) (xs := #[.tmp 45, .tmp 51]) rfl ?_); at_builtin; refine Kd.R_append_rows (Kd.int .u8) (w0 := w) w.heap.size rfl (.tmp 45) (.tmp 51) 22 5 (.int .u8 0) 1 rfl Try.underlying22 info5 rfl (by decide) (by omega) v474 y473 ((rd_T96 l0_1 x7_2).f1) _ _ _ (fun k_ => some k_ ≠ (u6 : Value).ownBlock) (fun _ => False) rfl rfl ?aO ?aR (fun _ _ h => h) (fun _ h => h.elim) ?aF ?aB ?aS ?aL ?_; (case aR => exact zq (Kd.C_below HR476_1.out HB.out)); (case aB => exact (bw1 HB.out GE458.out)); (case aF => exact (fun k_ hk => Kd.fresh' (Kd.R_lt (rq HO_6.out)) k_ hk)); (case aO => exact (by refine rq ?_; exact Kd.R_mono HO475.out (fun _ hk => hk.2))); (case aS => exact (below_size (bw1 HB.out GE458.out))); (case aL => have := LMc31.out; omega); intro v478 w36 ho hb hg hat; rw [← Ny477.out] at ho; replace HO_6 := Ak (Kd.R_after (ok := (fun _ => True)) (rq HO_6.out) hg hat); replace BK458 := Ak (blk_grown (g := gb458) (o := .cells #[.slice A0_0 l0_0.length c0_0, .slice (some ad472) l0_1.length c0_1] 31 (0, 0)) (bq BK458.out) hg (Kd.R_ne HO475.out BK458.out (by decide))); replace HB := Ak (hb); have HO479 := Ak (ho); clear HO475; clear ho hb hg hat))
              go_roundg k2
              case measure => have := HJ2.out; have := HK2.out; omega
              case rel => exact ⟨(y477), (wrap64 (x7_2 + 1)), (by first | rfl | (simp; done) | (simp [*]; done)), H', ⟨by have := HJ2.out; have := HK2.out; omega⟩, ⟨by refine rq ?_; exact Kd.R_mono HO479.out (fun _ hk => trivial)⟩, ⟨bq BK458.out⟩, ⟨bw1 HB.out GE458.out⟩⟩
             ·rw [if_neg c31] at H
              exact absurd H (by simp)
            ·rw [if_neg c30] at H
             have c30b0 : (((rd_T96 l0_1 x7_2).f0) == a1) = false := beq_eq_false_iff_ne.mpr c30
             have c30b1 : (((rd_T96 l0_1 x7_2).f0) != a1) = true := bne_iff_ne.mpr c30
             have H' := Ak H
             clear H
             have hcz37_0 : wr.cell? ⟨gb458, 0, none⟩ = some (.slice A0_0 l0_0.length c0_0) := zk0 BK458.out
             have hcz37_1 : wr.cell? ⟨gb458, 1, none⟩ = some (.slice A0_1 l0_1.length c0_1) := zk1 BK458.out
             have hfz37_0 := blk_frozen BK458.out 0
             have hfz37_1 := blk_frozen BK458.out 1
             have p472 : 0 ≤ (x7_2 : Int) := of_decide_eq_true (by first | (with_reducible assumption) | assumption)
             have q472 : x7_2 < (l0_1.length : Int) := of_decide_eq_true (by first | (with_reducible assumption) | assumption)
             obtain ⟨ad472, A472_1, c472_1, e472, hx472_0, hx472_1, hl472_1, hi472_1⟩ := at_T96 HR0_1.out x7_2 p472 q472
             cases e472
             replace hx472_0 := (HB.out.cell (World.block_lt_of_cell? w _ hx472_0)).trans hx472_0
             replace hx472_1 := (HB.out.cell (World.block_lt_of_cell? w _ hx472_1)).trans hx472_1
             have HR472_1 := Ak hi472_1
             have HC472_1 := Ak hl472_1
             clear hi472_1 hl472_1
             replace p472 := eq_true p472
             replace q472 := eq_true q472
             go_wp2
             go_roundg k2
             case measure => have := HJ2.out; have := HK2.out; omega
             case rel => exact ⟨(x6_2), (wrap64 (x7_2 + 1)), (by first | rfl | (simp; done) | (simp [*]; done)), H', ⟨by have := HJ2.out; have := HK2.out; omega⟩, ⟨rq HO_6.out⟩, ⟨bq BK458.out⟩, ⟨bw1 HB.out GE458.out⟩⟩
           ·rw [if_neg c29] at H
            exact absurd H (by simp)
          ·rw [if_neg c28] at H
           have c28b0 := decide_eq_false c28
           clear c28
           simp only [Option.some.injEq, Prod.mk.injEq] at H
           obtain ⟨rfl, rfl⟩ := H
           have hcz38_0 : wr.cell? ⟨gb458, 0, none⟩ = some (.slice A0_0 l0_0.length c0_0) := zk0 BK458.out
           have hcz38_1 : wr.cell? ⟨gb458, 1, none⟩ = some (.slice A0_1 l0_1.length c0_1) := zk1 BK458.out
           have hfz38_0 := blk_frozen BK458.out 0
           have hfz38_1 := blk_frozen BK458.out 1
           go_wp2
           go_ret2
           exact ⟨_, by first | rfl | (simp [errW_none, errW_some] <;> rfl) | (simp only [← hji18]; first | rfl | (simp [errW_none, errW_some] <;> rfl)) | (simp [*, errW_none, errW_some] <;> rfl), rq HO_6.out, bw1 HB.out GE458.out⟩
       ·rw [if_neg c22] at H
        exact absurd H (by simp)
      ·rw [if_neg c21] at H
       exact absurd H (by simp)
     ·rw [if_neg c20] at H
      exact absurd H (by simp)
    ·rw [if_neg c19] at H
     exact absurd H (by simp)

def spec_l12Get.f (l0 : List Int) (a1 : Int) : Option (Int) := if 0 ≤ a1 then (if a1 < (l0.length : Int) then (if 0 ≤ (wrap64 (a1 + 1)) then (if (wrap64 (a1 + 1)) < (l0.length : Int) then (if 0 ≤ (wrap64 (a1 + 2)) then (if (wrap64 (a1 + 2)) < (l0.length : Int) then (if 0 ≤ (wrap64 (a1 + 3)) then (if (wrap64 (a1 + 3)) < (l0.length : Int) then (some (wrap64 ((wrap64 ((wrap64 ((wrap64 (rd l0 a1)) + (wrap64 ((wrap64 (rd l0 (wrap64 (a1 + 1)))) * 256)))) + (wrap64 ((wrap64 (rd l0 (wrap64 (a1 + 2)))) * 65536)))) + (wrap64 ((wrap64 (rd l0 (wrap64 (a1 + 3)))) * 16777216))))) else (none)) else (none)) else (none)) else (none)) else (none)) else (none)) else (none)) else (none)
set_option maxHeartbeats 8000000 in
set_option maxRecDepth 100000 in
theorem spec_l12Get.calls (A0 : Option Addr) (c0 : Nat) (l0 : List Int) (a1 : Int) (r : Int) (w : World) (hr0 : Kd.C (Kd.int .u8) w A0 l0.length l0) (hc0 : l0.length ≤ c0) (h : spec_l12Get.f l0 a1 = some r) :
  Calls Try.prog 105 #[.slice A0 l0.length c0, .int .i64 a1] w fun e w' => e = .returned (.int .i64 r) ∧ Drawn0 w w' := by
 have HR0 := Ak hr0
 have HC0 := Ak hc0
 clear hr0 hc0
 have H := h
 unfold spec_l12Get.f at H
 clear h
 by_cases c3 : 0 ≤ a1
 ·rw [if_pos c3] at H
  have c3b0 := decide_eq_true c3
  clear c3
  by_cases c4 : a1 < (l0.length : Int)
  ·rw [if_pos c4] at H
   have c4b0 := decide_eq_true c4
   clear c4
   obtain ⟨ji5, hji5⟩ : ∃ j_ : Int, (wrap64 (a1 + 1)) = j_ := ⟨_, rfl⟩
   replace H : (if 0 ≤ (ji5) then (if (ji5) < (l0.length : Int) then (if 0 ≤ (wrap64 (a1 + 2)) then (if (wrap64 (a1 + 2)) < (l0.length : Int) then (if 0 ≤ (wrap64 (a1 + 3)) then (if (wrap64 (a1 + 3)) < (l0.length : Int) then (some (wrap64 ((wrap64 ((wrap64 ((wrap64 (rd l0 a1)) + (wrap64 ((wrap64 (rd l0 (ji5))) * 256)))) + (wrap64 ((wrap64 (rd l0 (wrap64 (a1 + 2)))) * 65536)))) + (wrap64 ((wrap64 (rd l0 (wrap64 (a1 + 3)))) * 16777216))))) else (none)) else (none)) else (none)) else (none)) else (none)) else (none)) = some r := by first | (rw [hji5] at H; exact H) | (simp only [hji5] at H ⊢; exact H)
   have hji5w : (IntKind.i64.wrap (a1 + 1)) = ji5 := (i64_w _).trans hji5
   by_cases c6 : 0 ≤ (ji5)
   ·rw [if_pos c6] at H
    have c6b0 := decide_eq_true c6
    clear c6
    by_cases c7 : (ji5) < (l0.length : Int)
    ·rw [if_pos c7] at H
     have c7b0 := decide_eq_true c7
     clear c7
     obtain ⟨ji8, hji8⟩ : ∃ j_ : Int, (wrap64 (a1 + 2)) = j_ := ⟨_, rfl⟩
     replace H : (if 0 ≤ (ji8) then (if (ji8) < (l0.length : Int) then (if 0 ≤ (wrap64 (a1 + 3)) then (if (wrap64 (a1 + 3)) < (l0.length : Int) then (some (wrap64 ((wrap64 ((wrap64 ((wrap64 (rd l0 a1)) + (wrap64 ((wrap64 (rd l0 (ji5))) * 256)))) + (wrap64 ((wrap64 (rd l0 (ji8))) * 65536)))) + (wrap64 ((wrap64 (rd l0 (wrap64 (a1 + 3)))) * 16777216))))) else (none)) else (none)) else (none)) else (none)) = some r := by first | (rw [hji8] at H; exact H) | (simp only [hji8] at H ⊢; exact H)
     have hji8w : (IntKind.i64.wrap (a1 + 2)) = ji8 := (i64_w _).trans hji8
     by_cases c9 : 0 ≤ (ji8)
     ·rw [if_pos c9] at H
      have c9b0 := decide_eq_true c9
      clear c9
      by_cases c10 : (ji8) < (l0.length : Int)
      ·rw [if_pos c10] at H
       have c10b0 := decide_eq_true c10
       clear c10
       obtain ⟨ji11, hji11⟩ : ∃ j_ : Int, (wrap64 (a1 + 3)) = j_ := ⟨_, rfl⟩
       replace H : (if 0 ≤ (ji11) then (if (ji11) < (l0.length : Int) then (some (wrap64 ((wrap64 ((wrap64 ((wrap64 (rd l0 a1)) + (wrap64 ((wrap64 (rd l0 (ji5))) * 256)))) + (wrap64 ((wrap64 (rd l0 (ji8))) * 65536)))) + (wrap64 ((wrap64 (rd l0 (ji11))) * 16777216))))) else (none)) else (none)) = some r := by first | (rw [hji11] at H; exact H) | (simp only [hji11] at H ⊢; exact H)
       have hji11w : (IntKind.i64.wrap (a1 + 3)) = ji11 := (i64_w _).trans hji11
       by_cases c12 : 0 ≤ (ji11)
       ·rw [if_pos c12] at H
        have c12b0 := decide_eq_true c12
        clear c12
        by_cases c13 : (ji11) < (l0.length : Int)
        ·rw [if_pos c13] at H
         have c13b0 := decide_eq_true c13
         clear c13
         obtain rfl := Option.some.inj H
         have p480 : 0 ≤ (a1 : Int) := of_decide_eq_true (by first | (with_reducible assumption) | assumption)
         have q480 : a1 < (l0.length : Int) := of_decide_eq_true (by first | (with_reducible assumption) | assumption)
         obtain ⟨ad480, e480, hx480_0⟩ := Kd.at_int HR0.out a1 p480 q480
         cases e480
         replace p480 := eq_true p480
         replace q480 := eq_true q480
         have p481 : 0 ≤ ((ji5) : Int) := of_decide_eq_true (by first | (with_reducible assumption) | assumption)
         have q481 : (ji5) < (l0.length : Int) := of_decide_eq_true (by first | (with_reducible assumption) | assumption)
         obtain ⟨ad481, e481, hx481_0⟩ := Kd.at_int HR0.out (ji5) p481 q481
         obtain rfl : ad480 = ad481 := (by injection e481)
         replace p481 := eq_true p481
         replace q481 := eq_true q481
         have p482 : 0 ≤ ((ji8) : Int) := of_decide_eq_true (by first | (with_reducible assumption) | assumption)
         have q482 : (ji8) < (l0.length : Int) := of_decide_eq_true (by first | (with_reducible assumption) | assumption)
         obtain ⟨ad482, e482, hx482_0⟩ := Kd.at_int HR0.out (ji8) p482 q482
         obtain rfl : ad480 = ad482 := (by injection e482)
         replace p482 := eq_true p482
         replace q482 := eq_true q482
         have p483 : 0 ≤ ((ji11) : Int) := of_decide_eq_true (by first | (with_reducible assumption) | assumption)
         have q483 : (ji11) < (l0.length : Int) := of_decide_eq_true (by first | (with_reducible assumption) | assumption)
         obtain ⟨ad483, e483, hx483_0⟩ := Kd.at_int HR0.out (ji11) p483 q483
         obtain rfl : ad480 = ad483 := (by injection e483)
         replace p483 := eq_true p483
         replace q483 := eq_true q483
         go_enter Try.func105, Try.ntmps105
         go_wp2
         repeat (go_quiet (fail); try go_wp2)
         go_ret
         exact ⟨by first | rfl | (simp; done) | (simp only [← hji5, ← hji8, ← hji11] <;> (first | rfl | simp)) | (simp [*]; done), by repeat (first | exact Drawn0.refl _ | apply Drawn0.step)⟩
        ·rw [if_neg c13] at H
         exact absurd H (by simp)
       ·rw [if_neg c12] at H
        exact absurd H (by simp)
      ·rw [if_neg c10] at H
       exact absurd H (by simp)
     ·rw [if_neg c9] at H
      exact absurd H (by simp)
    ·rw [if_neg c7] at H
     exact absurd H (by simp)
   ·rw [if_neg c6] at H
    exact absurd H (by simp)
  ·rw [if_neg c4] at H
   exact absurd H (by simp)
 ·rw [if_neg c3] at H
  exact absurd H (by simp)

end Go.Proofs.Ytgmnphckgicadaa.PFnLog
