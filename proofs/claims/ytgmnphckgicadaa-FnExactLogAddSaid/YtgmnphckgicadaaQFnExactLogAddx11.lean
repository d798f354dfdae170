/- Functions that the law reaches, with their contracts. -/
import Derived.Test.YtgmnphckgicadaaQFnExactLogAddx3
import Derived.Test.YtgmnphckgicadaaQFnExactLogAddx9
import Derived.Test.YtgmnphckgicadaaQFnExactLogAddx23
namespace Go.Proofs.Ytgmnphckgicadaa.PFnExactLogAdd
open Go.RowKit Go.Proofs.YtgmnphckgicadaaW.PrintWords Go.Proofs.YtgmnphckgicadaaW.PrintLast Go.Proofs.YtgmnphckgicadaaW.PrintMore
attribute [local go_sem] max2_int min2_int max_two min_two max_three min_three max_four min_four
set_option linter.unusedVariables false
set_option linter.unusedSimpArgs false

def spec_Sync.l0 : Nat → Int → List Int → List (S96) → List Int → List (S96) → Option (List Int × (List (S96)))
 | 0, _, _, _, _, _ => none
 | k + 1, x4, x225000, x225001, x233000, x233001 => if x4 < (x225001.length : Int) then (if 0 ≤ x4 then (if 0 ≤ (wrap64 (((rd_T96 x225001 x4).f0) * 64)) then (if (0 < ((rd_T96 x225001 x4).f1).length ∧ ((wrap64 (((rd_T96 x225001 x4).f0) * 64)) : Int).toNat + ((rd_T96 x225001 x4).f1).length ≤ x233000.length) then (spec_Sync.l0 k (wrap64 (x4 + 1)) x225000 x225001 (spl x233000 ((wrap64 (((rd_T96 x225001 x4).f0) * 64)) : Int).toNat ((rd_T96 x225001 x4).f1)) x233001) else (none)) else (none)) else (none)) else (some (x233000, (([] : List (S96)))))
def spec_Sync.f (k : Nat) (l0_0 : List Int) (l0_1 : List (S96)) : Option (List Int × (List (S96))) := (spec_l11Copy.f k l0_0 l0_1).bind fun bt226 => ((spec_DiskOk.f k l0_0 l0_1).bind fun t233 => (if t233 = true then (spec_Sync.l0 k 0 l0_0 l0_1 bt226.1 bt226.2) else (some (bt226.1, bt226.2))))
def spec_Sync.T7 : Bool × List (List Nat × List Nat) := (true, [([], []), ([0], [0]), ([], []), ([2], [2]), ([], []), ([3, 4], [3, 4]), ([5], [5]), ([6], [6]), ([7], [7]), ([1, 8], [1, 8]), ([], []), ([10], [10]), ([], []), ([11, 12], [11, 12]), ([13], [13]), ([14], [14]), ([9, 15], [9, 15])])
def spec_Sync.B7 : List Nat := [0, 1, 0, 4, 0, 28, 60, 124, 252, 511, 0, 1024, 0, 7168, 15360, 31744, 65535]
theorem spec_Sync.tab7 : rtab .any (opsOf Try.f47 7) = spec_Sync.T7 := by kernel_rfl
theorem spec_Sync.bits7 : waitsOk spec_Sync.T7.2 spec_Sync.B7 = true := by kernel_rfl
set_option maxHeartbeats 8000000 in
set_option maxRecDepth 100000 in
theorem spec_Sync.calls (k : Nat) (A0_0 : Option Addr) (c0_0 : Nat) (l0_0 : List Int) (A0_1 : Option Addr) (c0_1 : Nat) (l0_1 : List (S96)) (r1 : List Int) (r2 : List (S96)) (w : World) (hr0_0 : Kd.C (Kd.int .u8) w A0_0 l0_0.length l0_0) (hc0_0 : l0_0.length ≤ c0_0) (hr0_1 : Kd.C k96 w A0_1 l0_1.length l0_1) (hc0_1 : l0_1.length ≤ c0_1) (h : spec_Sync.f k l0_0 l0_1 = some (r1, r2)) :
  Calls Try.prog 47 #[.agg #[.slice A0_0 l0_0.length c0_0, .slice A0_1 l0_1.length c0_1]] w fun e w' => ∃ v0_ v1_ : Value, e = .returned (.agg #[v0_, v1_]) ∧ Kd.R (Kd.int .u8) 5 w' w.heap.size (fun _ => True) v0_ r1 ∧ Kd.S k96 96 w' w.heap.size (fun k_ => some k_ ≠ (v0_ : Value).ownBlock) v1_ r2 ∧ Below w.heap.size w w' := by
 have hu31 := Try.underlying31
 have HR0_0 := Ak hr0_0
 have HC0_0 := Ak hc0_0
 clear hr0_0 hc0_0
 have HR0_1 := Ak hr0_1
 have HC0_1 := Ak hc0_1
 clear hr0_1 hc0_1
 have HB := Ak (Below.refl w.heap.size w)
 have H : ((spec_l11Copy.f k l0_0 l0_1).bind fun bt226 => ((spec_DiskOk.f k l0_0 l0_1).bind fun t233 => (if t233 = true then (spec_Sync.l0 k 0 l0_0 l0_1 bt226.1 bt226.2) else (some (bt226.1, bt226.2))))) = some (r1, r2) := h
 clear h
 replace H := Option.bind_eq_some_iff.mp H
 obtain ⟨⟨t226, t229⟩, A20, H⟩ := H
 (try dsimp only at H)
 have A2 := Ak A20
 clear A20
 replace H := Option.bind_eq_some_iff.mp H
 obtain ⟨t233, A30, H⟩ := H
 have A3 := Ak A30
 clear A30
 by_cases c4 : t233 = true
 ·subst c4
  have H1 : (spec_Sync.l0 k 0 l0_0 l0_1 t226 t229) = some (r1, r2) := by rw [if_pos rfl] at H; exact H
  clear H
  have H := H1
  clear H1
  have H' := Ak H
  clear H
  go_enter Try.func47, Try.ntmps47
  go_wp2_with (first | ((with_reducible refine gate_dst (N := 1) rfl ?_); refine box_event ?hg (N := 1) ?hd (cs := #[.slice A0_0 l0_0.length c0_0, .slice A0_1 l0_1.length c0_1]) (t := 31) ?hr ?_; (case hd => rfl); (case hg => rfl); (case hr => first | (go_simp; done) | (go_simp; rfl)); intro gb224 hg w5 hbox hb; have BK224 := Ak (hbox); have GW224 := Ak (zb hg (bw HB.out)); have GE224 := Ak (zb hg (bw HB.out)); replace HB := Ak (below_step (bw HB.out) hb); clear hb hbox hg) | ((with_reducible refine gate_dst (N := 2) rfl ?_); refine box_event ?hg (N := 2) ?hd (cs := #[.slice none 0 0, .slice none 0 0]) (t := 31) ?hr ?_; (case hd => rfl); (case hg => rfl); (case hr => first | (go_simp; done) | (go_simp; rfl)); intro gb225 hg w6 hbox hb; have BK225 := Ak (hbox); have GW225 := Ak (zb hg (bw1 HB.out GE224.out)); have GE225 := Ak (zb hg (bw1 HB.out GE224.out)); replace HB := Ak (below_step (bw1 HB.out GE224.out) hb); have NB224_225 := Ak (zl hg (bq BK224.out)); have NB225_224 := Ak (zm hg (bq BK224.out)); replace BK224 := Ak (blk_below (bq BK224.out) hb); clear hb hbox hg; have hnb7 := NB224_225.out; have hnc7 := NB225_224.out; have hcz8_0 := zk0 BK224.out; have hcz8_1 := zk1 BK224.out; have hfz8_0 := blk_frozen BK224.out 0; have hfz8_1 := blk_frozen BK224.out 1) | ((with_reducible refine gate_callee (f := 44) rfl ?_); refine goesL_ (some 6) rfl rfl Try.func44 (by kernel_rfl) rfl #[.agg #[.slice A0_0 l0_0.length c0_0, .slice A0_1 l0_1.length c0_1]] rfl gm ?_; (with_reducible refine (spec_l11Copy.calls k _ _ l0_0 _ _ l0_1 t226 t229 _ ?side1 ?side2 ?side3 ?side4 A2.out).mono ?_); (case side1 => exact zq (Kd.C_below HR0_0.out HB.out)); (case side2 => exact HC0_0.out); (case side3 => exact zq (Kd.C_below HR0_1.out HB.out)); (case side4 => exact HC0_1.out); rintro e w9 ⟨v227, v230, rfl, ho0, ho1, hb⟩; refine ⟨_, rfl, ?_⟩; have HO228 := Ak (Kd.R_lower ho0 (below_size (bw2 HB.out GE224.out GE225.out))); have HO231 := Ak (Kd.S_lower ho1 (below_size (bw2 HB.out GE224.out GE225.out))); replace BK224 := Ak (blk_below (bq BK224.out) hb); replace BK225 := Ak (blk_below (bq BK225.out) hb); replace HB := Ak (below_step (bw2 HB.out GE224.out GE225.out) hb)) | ((with_reducible refine gate_dst (N := 3) rfl ?_); refine box_event ?hg (N := 3) ?hd (cs := #[.slice none 0 0, .slice none 0 0]) (t := 31) ?hr ?_; (case hd => rfl); (case hg => rfl); (case hr => first | (go_simp; done) | (go_simp; rfl)); intro gb232 hg w10 hbox hb; replace HO228 := Ak (Kd.R_below (rq HO228.out) hb); replace HO231 := Ak (Kd.S_below (sq HO231.out) hb); have BK232 := Ak (hbox); have GW232 := Ak (zb hg (bw2 HB.out GE224.out GE225.out)); have GE232 := Ak (zb hg (bw2 HB.out GE224.out GE225.out)); replace HB := Ak (below_step (bw2 HB.out GE224.out GE225.out) hb); have NB224_232 := Ak (zl hg (bq BK224.out)); have NB232_224 := Ak (zm hg (bq BK224.out)); replace BK224 := Ak (blk_below (bq BK224.out) hb); have NB225_232 := Ak (zl hg (bq BK225.out)); have NB232_225 := Ak (zm hg (bq BK225.out)); replace BK225 := Ak (blk_below (bq BK225.out) hb); clear hb hbox hg; obtain ⟨Ao11, co11, eo11⟩ := Kd.R_slice HO228.out; subst eo11; have hnb12 := NB232_224.out; have hnc12 := NB224_232.out; have hnb13 := NB232_225.out; have hnc13 := NB225_232.out; have hcz14_0 := zk0 BK232.out; have hcz14_1 := zk1 BK232.out; have hfz14_0 := blk_frozen BK232.out 0; have hfz14_1 := blk_frozen BK232.out 1; obtain ⟨Ao15, co15, eo15⟩ := Kd.S_slice HO231.out; subst eo15; have hcz16_0 := zk0 BK224.out; have hcz16_1 := zk1 BK224.out; have hfz16_0 := blk_frozen BK224.out 0; have hfz16_1 := blk_frozen BK224.out 1) | ((with_reducible refine gate_callee (f := 98) rfl ?_); refine goesL_ (some 8) rfl rfl Try.func98 (by kernel_rfl) rfl #[.agg #[.slice A0_0 l0_0.length c0_0, .slice A0_1 l0_1.length c0_1]] rfl gm ?_; (with_reducible refine (spec_DiskOk.calls k _ _ l0_0 _ _ l0_1 true _ ?side1 ?side2 ?side3 ?side4 A3.out).mono ?_); (case side1 => exact Kd.C_below HR0_0.out (bw3 HB.out GE224.out GE225.out GE232.out)); (case side2 => exact HC0_0.out); (case side3 => exact Kd.C_below HR0_1.out (bw3 HB.out GE224.out GE225.out GE232.out)); (case side4 => exact HC0_1.out); rintro e w17 ⟨rfl, hb⟩; refine ⟨_, rfl, ?_⟩; replace HO228 := Ak (Kd.R_below (by (with_reducible repeat (first | apply Kd.R_alloc | apply Kd.R_drewN | apply Kd.R_drew)); exact (Kd.R_mono (Kd.R_far (p := ⟨gb232, 1, none⟩) (Kd.R_far (p := ⟨gb232, 0, none⟩) (Kd.R_types HO228.out BK232.out (by decide)) (fun _ hk => hk.2) (.slice Ao11 t226.length co11)) (fun _ hk => hk.2) (.slice Ao15 t229.length co15)) (fun _ h_ => h_.1))) hb); replace HO231 := Ak (Kd.S_below (by (with_reducible repeat (first | apply Kd.S_alloc | apply Kd.S_drewN | apply Kd.S_drew)); exact (Kd.S_mono (Kd.S_far (p := ⟨gb232, 1, none⟩) (Kd.S_far (p := ⟨gb232, 0, none⟩) (Kd.S_types HO231.out BK232.out (by decide)) (fun _ hk => hk.2) (.slice Ao11 t226.length co11)) (fun _ hk => hk.2) (.slice Ao15 t229.length co15)) (fun _ h_ => h_.1))) hb); replace BK224 := Ak (blk_below (g := gb224) (o := .cells #[.slice A0_0 l0_0.length c0_0, .slice A0_1 l0_1.length c0_1] 31 (0, 0)) (by refine bq ?_; refine blk_far ?_ NB224_232.out _; refine bq ?_; refine blk_far ?_ NB224_232.out _; exact bq BK224.out) hb); replace BK225 := Ak (blk_below (g := gb225) (o := .cells #[.slice none 0 0, .slice none 0 0] 31 (0, 0)) (by refine bq ?_; refine blk_far ?_ NB225_232.out _; refine bq ?_; refine blk_far ?_ NB225_232.out _; exact bq BK225.out) hb); replace BK232 := Ak (blk_below (g := gb232) (o := .cells #[.slice Ao11 t226.length co11, .slice Ao15 t229.length co15] 31 (0, 0)) (by refine bq ?_; refine blk_put (cs := #[.slice Ao11 t226.length co11, .slice none 0 0]) ?_ 1 _ rfl; refine bq ?_; refine blk_put (cs := #[.slice none 0 0, .slice none 0 0]) ?_ 0 _ rfl; exact bq BK232.out) hb); replace HB := Ak (below_step (bw3 HB.out GE224.out GE225.out GE232.out) hb)))
  go_loopg [4] k (fun kq v4 w' => ∃ (x4_1 : Int) (x233000_1 : List Int) (u233000 : Value), v4 = .int .i64 x4_1 ∧ Aside0 (spec_Sync.l0 kq x4_1 l0_0 l0_1 x233000_1 t229 = some (r1, r2)) ∧ Aside0 (kq ≤ k) ∧ Aside0 (Kd.R (Kd.int .u8) 5 w' w.heap.size (fun _ => True) u233000 x233000_1) ∧ Aside0 (Kd.S k96 96 w' w.heap.size (fun k_ => some k_ ≠ (u233000 : Value).ownBlock) (.slice Ao15 t229.length co15) t229) ∧ Aside0 (w'.heap[gb224]? = some (.cells #[(.slice A0_0 l0_0.length c0_0), (.slice A0_1 l0_1.length c0_1)] 31 (0, 0))) ∧ Aside0 (w'.heap[gb225]? = some (.cells #[(.slice none 0 0), (.slice none 0 0)] 31 (0, 0))) ∧ Aside0 (w'.heap[gb232]? = some (.cells #[u233000, (.slice Ao15 t229.length co15)] 31 (0, 0))) ∧ Aside0 (Below w.heap.size w w'))
  case atStart => exact ⟨(0), (t226), (.slice Ao11 t226.length co11), (by first | rfl | (simp; done) | (simp [*]; done)), H', ⟨Nat.le_refl _⟩, ⟨rq HO228.out⟩, ⟨sq HO231.out⟩, ⟨bq BK224.out⟩, ⟨bq BK225.out⟩, ⟨bq BK232.out⟩, ⟨bw3 HB.out GE224.out GE225.out GE232.out⟩⟩
  case round =>
   clear H'
   obtain ⟨x4_1, x233000_1, u233000, rfl, HA, HK1, HO_233000, HO_233001, BK224, BK225, BK232, HB⟩ := hrel
   cases gk with
   | zero => exact absurd HA.out (by simp [spec_Sync.l0])
   | succ k1 =>
    have H := HA.out
    clear HA
    simp only [spec_Sync.l0] at H
    by_cases c18 : x4_1 < (l0_1.length : Int)
    ·rw [if_pos c18] at H
     have c18b0 : decide (x4_1 < (l0_1.length : Int)) = true := decide_eq_true c18
     clear c18
     by_cases c19 : 0 ≤ x4_1
     ·rw [if_pos c19] at H
      have c19b0 : decide (0 ≤ x4_1) = true := decide_eq_true c19
      clear c19
      obtain ⟨ji20, hji20⟩ : ∃ j_ : Int, (wrap64 (((rd_T96 l0_1 x4_1).f0) * 64)) = j_ := ⟨_, rfl⟩
      replace H : (if 0 ≤ (ji20) then (if (0 < ((rd_T96 l0_1 x4_1).f1).length ∧ ((ji20) : Int).toNat + ((rd_T96 l0_1 x4_1).f1).length ≤ x233000_1.length) then (spec_Sync.l0 k1 (wrap64 (x4_1 + 1)) l0_0 l0_1 (spl x233000_1 ((ji20) : Int).toNat ((rd_T96 l0_1 x4_1).f1)) t229) else (none)) else (none)) = some (r1, r2) := by first | (rw [hji20] at H; exact H) | (simp only [hji20] at H ⊢; exact H)
      have hji20w : (IntKind.i64.wrap (((rd_T96 l0_1 x4_1).f0) * 64)) = ji20 := (i64_w _).trans hji20
      by_cases c21 : 0 ≤ (ji20)
      ·rw [if_pos c21] at H
       have c21b0 : decide (0 ≤ (ji20)) = true := decide_eq_true c21
       clear c21
       by_cases c22 : (0 < ((rd_T96 l0_1 x4_1).f1).length ∧ ((ji20) : Int).toNat + ((rd_T96 l0_1 x4_1).f1).length ≤ x233000_1.length)
       ·rw [if_pos c22] at H
        have LC_ := Ak c22
        have p0_ : 0 ≤ (ji20) := of_decide_eq_true c21b0
        have c22b0 : decide ((ji20) < (x233000_1.length : Int)) = true := decide_eq_true (by have := LC_.out; omega)
        have cle_ : decide ((ji20) ≤ (x233000_1.length : Int)) = true := decide_eq_true (by have := LC_.out; omega)
        clear c22
        obtain ⟨y236, hy236⟩ : ∃ y_ : List Int, y_ = (spl x233000_1 ((ji20) : Int).toNat ((rd_T96 l0_1 x4_1).f1)) := ⟨_, rfl⟩
        replace H : (spec_Sync.l0 k1 (wrap64 (x4_1 + 1)) l0_0 l0_1 y236 t229) = some (r1, r2) := by first | (rw [hy236]; with_reducible exact H) | (have H2_ := (Option.bind_some _ _).symm.trans H; rw [hy236]; with_reducible exact H2_) | (have H2_ := (Option.bind_some _ _).symm.trans H; with_reducible exact H2_) | with_reducible exact H | (rw [hy236]; exact H) | exact H
        have Ny236 := Ak hy236
        clear hy236
        have H' := Ak H
        clear H
        have hnb24 := NB224_225.out
        have hnc24 := NB225_224.out
        have hnb25 := NB224_232.out
        have hnc25 := NB232_224.out
        have hcz26_0 : wr.cell? ⟨gb224, 0, none⟩ = some (.slice A0_0 l0_0.length c0_0) := zk0 BK224.out
        have hcz26_1 : wr.cell? ⟨gb224, 1, none⟩ = some (.slice A0_1 l0_1.length c0_1) := zk1 BK224.out
        have hfz26_0 := blk_frozen BK224.out 0
        have hfz26_1 := blk_frozen BK224.out 1
        try go_wp2
        replace HO_233000 := Ak (Kd.R_drew HO_233000.out)
        replace HO_233001 := Ak (Kd.S_drew HO_233001.out)
        replace BK224 := Ak (blk_drew BK224.out)
        replace BK225 := Ak (blk_drew BK225.out)
        replace BK232 := Ak (blk_drew BK232.out)
        replace HB := Ak (below_drew1 HB.out)
        have p234 : 0 ≤ (x4_1 : Int) := of_decide_eq_true (by first | (with_reducible assumption) | assumption)
        have q234 : x4_1 < (l0_1.length : Int) := of_decide_eq_true (by first | (with_reducible assumption) | assumption)
        obtain ⟨ad234, A234_1, c234_1, e234, hx234_0, hx234_1, hl234_1, hi234_1⟩ := at_T96 HR0_1.out x4_1 p234 q234
        have hw234_1 := hx234_1
        have hw234_0 := hx234_0
        cases e234
        replace hx234_0 := (HB.out.cell (World.block_lt_of_cell? w _ hx234_0)).trans hx234_0
        replace hx234_1 := (HB.out.cell (World.block_lt_of_cell? w _ hx234_1)).trans hx234_1
        have HR234_1 := Ak hi234_1
        have HC234_1 := Ak hl234_1
        clear hi234_1 hl234_1
        replace p234 := eq_true p234
        replace q234 := eq_true q234
        have p23 : 0 ≤ ((ji20) : Int) := of_decide_eq_true (by first | (with_reducible assumption) | assumption)
        have q23 : ((ji20) : Int) < ((x233000_1.length : Int) : Int) := of_decide_eq_true (by first | (with_reducible assumption) | assumption)
        obtain ⟨go23, co23, eo23, gb23, gl23, cl23, HG23⟩ := Kd.R_form HO_233000.out (by omega)
        (first | cases eo23 | (injection eo23 with ea_ en_ ec_; (first | subst ea_ | (injection ea_ with ea_; subst ea_)); subst ec_; clear en_))
        have GB23 := Ak gb23
        have GG23 := Ak HG23
        clear gb23 gl23 HG23
        obtain ⟨hx23_0, hf23_0⟩ := Kd.R_celln 0 HO_233000.out ((ji20) : Int) p23 q23
        replace p23 := eq_true p23
        replace q23 := eq_true q23
        have p235 : 0 ≤ (x4_1 : Int) := of_decide_eq_true (by first | (with_reducible assumption) | assumption)
        have q235 : x4_1 < (l0_1.length : Int) := of_decide_eq_true (by first | (with_reducible assumption) | assumption)
        obtain ⟨ad235, A235_1, c235_1, e235, hx235_0, hx235_1, hl235_1, hi235_1⟩ := at_T96 HR0_1.out x4_1 p235 q235
        have hw235_1 := hx235_1
        have hw235_0 := hx235_0
        obtain rfl : ad234 = ad235 := (by injection e235)
        replace hx235_0 := (HB.out.cell (World.block_lt_of_cell? w _ hx235_0)).trans hx235_0
        replace hx235_1 := (HB.out.cell (World.block_lt_of_cell? w _ hx235_1)).trans hx235_1
        have HR235_1 := Ak hi235_1
        have HC235_1 := Ak hl235_1
        clear hi235_1 hl235_1
        replace p235 := eq_true p235
        replace q235 := eq_true q235
        have ea_ := Option.some.inj (hx234_1.symm.trans hx235_1)
        injection ea_ with ea_ en_ ec_
        subst ea_
        subst ec_
        clear en_
        obtain ⟨w1_, hcp_, hr_, hgr_⟩ := copy_at (P := Try.prog) wr.drew w.heap.size (fun _ => True) 22 22 3 5 Try.underlying22 (by kernel_rfl) go23 co23 ((ji20) : Int).toNat c234_1 A234_1 x233000_1 ((rd_T96 l0_1 x4_1).f1) HO_233000.out (Kd.C_below HR234_1.out HB.out) LC_.out.1 LC_.out.2
        have HQ28 := Ak (show Kd.R (Kd.int .u8) 5 w1_ w.heap.size (fun _ => True) (.slice (some ⟨go23, 0, none⟩) x233000_1.length co23) y236 from by rw [Ny236.out]; exact hr_)
        have HP28 := trivial
        clear hr_
        have hne_ : ¬ (co23 = ((ji20) : Int).toNat) := by have h1_ := (Kd.R_reads' HO_233000.out).2.1; have h2_ := LC_.out; omega
        clear HP28
        refine start_ (n := 17) (S := fun w' => w'.cell? ⟨gb232, 0, none⟩ = some (.slice (some ⟨go23, 0, none⟩) x233000_1.length co23) ∧ w'.cell? ⟨gb232, 1, none⟩ = some (.slice Ao15 t229.length co15) ∧ w'.cell? ⟨gb224, 0, none⟩ = some (.slice A0_0 l0_0.length c0_0) ∧ w'.cell? ⟨gb224, 1, none⟩ = some (.slice (some ad234) l0_1.length c0_1) ∧ w'.cell? (ad234.add ((x4_1).toNat * 2)) = some (.int .i64 ((rd_T96 l0_1 x4_1).f0)) ∧ w'.cell? ⟨(ad234.add ((x4_1).toNat * 2)).block, (ad234.add ((x4_1).toNat * 2)).off + 1, none⟩ = some (.slice A234_1 ((rd_T96 l0_1 x4_1).f1).length c234_1) ∧ w'.cell? (ad234.add ((x4_1).toNat * 2)) = some (.int .i64 ((rd_T96 l0_1 x4_1).f0)) ∧ w'.cell? ⟨(ad234.add ((x4_1).toNat * 2)).block, (ad234.add ((x4_1).toNat * 2)).off + 1, none⟩ = some (.slice A234_1 ((rd_T96 l0_1 x4_1).f1).length c234_1)) (ds := [16]) #[false, false, false, false, false, false, false, false, false, false, false, false, false, false, false, false, false] (by kernel_rfl) rfl rfl ⟨zk0 BK232.out, zk1 BK232.out, zk0 BK224.out, zk1 BK224.out, ((HB.out.cell (World.block_lt_of_cell? w _ hw234_0)).trans hw234_0), ((HB.out.cell (World.block_lt_of_cell? w _ hw234_1)).trans hw234_1), ((HB.out.cell (World.block_lt_of_cell? w _ hw235_0)).trans hw235_0), ((HB.out.cell (World.block_lt_of_cell? w _ hw235_1)).trans hw235_1)⟩ (fun hHeld => ?_); refine with_tabW spec_Sync.tab7 spec_Sync.bits7 (fun HT_ HW_ => ?_)
        generalize wr.drew = w27 at HO_233000 HO_233001 BK224 BK225 BK232 HB GG23 HQ28 HR234_1 HR235_1 hf23_0 hx234_0 hx234_1 hx235_0 hx235_1 hx23_0 hcp_ hgr_ hHeld ⊢
        refine pure_ (i := 0) (N := some 18) (v := ?_) (a' := ?_) #[true, false, false, false, false, false, false, false, false, false, false, false, false, false, false, false, false] rfl rfl (any_of HT_.out (by kernel_rfl)) (fun _ _ _ h => h) (Or.inl ⟨by rfl, ?_⟩) ?_ ?_
        rotate_left
        ·intro w'
         go_simp
         with_reducible rfl
        rotate_left
        ·simp only [Act.put, sT, sZ, sS, i64_w, i32_w]
         rfl
        refine pure_ (i := 2) (N := some 20) (v := ?_) (a' := ?_) #[true, false, true, false, false, false, false, false, false, false, false, false, false, false, false, false, false] rfl rfl (any_of HT_.out (by kernel_rfl)) (fun _ _ _ h => h) (Or.inl ⟨by rfl, ?_⟩) ?_ ?_
        rotate_left
        ·intro w'
         go_simp
         with_reducible rfl
        rotate_left
        ·simp only [Act.put, sT, sZ, sS, i64_w, i32_w]
         rfl
        refine pure_ (i := 4) (N := some 22) (v := ?_) (a' := ?_) #[true, false, true, false, true, false, false, false, false, false, false, false, false, false, false, false, false] rfl rfl (any_of HT_.out (by kernel_rfl)) (fun _ _ _ h => h) (Or.inl ⟨by rfl, ?_⟩) ?_ ?_
        rotate_left
        ·intro w'
         go_simp
         with_reducible rfl
        rotate_left
        ·simp only [Act.put, sT, sZ, sS, i64_w, i32_w]
         rfl
        refine pure_ (i := 10) (N := some 28) (v := ?_) (a' := ?_) #[true, false, true, false, true, false, false, false, false, false, true, false, false, false, false, false, false] rfl rfl (any_of HT_.out (by kernel_rfl)) (fun _ _ _ h => h) (Or.inl ⟨by rfl, ?_⟩) ?_ ?_
        rotate_left
        ·intro w'
         go_simp
         with_reducible rfl
        rotate_left
        ·simp only [Act.put, sT, sZ, sS, i64_w, i32_w]
         rfl
        refine pure_ (i := 12) (N := some 30) (v := ?_) (a' := ?_) #[true, false, true, false, true, false, false, false, false, false, true, false, true, false, false, false, false] rfl rfl (any_of HT_.out (by kernel_rfl)) (fun _ _ _ h => h) (Or.inl ⟨by rfl, ?_⟩) ?_ ?_
        rotate_left
        ·intro w'
         go_simp
         with_reducible rfl
        rotate_left
        ·simp only [Act.put, sT, sZ, sS, i64_w, i32_w]
         rfl
        refine take_ (i := 1) (N := some 19) (v := ?_) (a' := ?_) #[true, true, true, false, true, false, false, false, false, false, true, false, true, false, false, false, false] rfl rfl (take_ofW HT_.out HW_.out (by kernel_rfl)) (fun _ _ _ h => h) (Or.inl ⟨by rfl, ?_⟩) hHeld ?_ ?_
        rotate_left
        ·rintro w' ⟨s0, s1, s2, s3, s4, s5, s6, s7⟩
         go_simp
         with_reducible rfl
        rotate_left
        ·simp only [Act.put, sT, sZ, sS, i64_w, i32_w]
         rfl
        refine take_ (i := 3) (N := some 21) (v := ?_) (a' := ?_) #[true, true, true, true, true, false, false, false, false, false, true, false, true, false, false, false, false] rfl rfl (take_ofW HT_.out HW_.out (by kernel_rfl)) (fun _ _ _ h => h) (Or.inl ⟨by rfl, ?_⟩) hHeld ?_ ?_
        rotate_left
        ·rintro w' ⟨s0, s1, s2, s3, s4, s5, s6, s7⟩
         go_simp
         with_reducible rfl
        rotate_left
        ·simp only [Act.put, sT, sZ, sS, i64_w, i32_w]
         rfl
        refine pure_ (i := 5) (N := some 23) (v := ?_) (a' := ?_) #[true, true, true, true, true, true, false, false, false, false, true, false, true, false, false, false, false] rfl rfl (any_of HT_.out (by kernel_rfl)) (fun _ _ _ h => h) (Or.inl ⟨by rfl, ?_⟩) ?_ ?_
        rotate_left
        ·intro w'
         go_simp
         with_reducible rfl
        rotate_left
        ·simp only [Act.put, sT, sZ, sS, i64_w, i32_w]
         rfl
        refine pure_ (i := 6) (N := some 24) (v := ?_) (a' := ?_) #[true, true, true, true, true, true, true, false, false, false, true, false, true, false, false, false, false] rfl rfl (any_of HT_.out (by kernel_rfl)) (fun _ _ _ h => h) (Or.inl ⟨by rfl, ?_⟩) ?_ ?_
        rotate_left
        ·intro w'
         go_simp
         with_reducible rfl
        rotate_left
        ·simp only [Act.put, sT, sZ, sS, i64_w, i32_w]
         rfl
        refine take_ (i := 7) (N := some 25) (v := ?_) (a' := ?_) #[true, true, true, true, true, true, true, true, false, false, true, false, true, false, false, false, false] rfl rfl (take_ofW HT_.out HW_.out (by kernel_rfl)) (fun _ _ _ h => h) (Or.inl ⟨by rfl, ?_⟩) hHeld ?_ ?_
        rotate_left
        ·rintro w' ⟨s0, s1, s2, s3, s4, s5, s6, s7⟩
         go_simp
         with_reducible rfl
        rotate_left
        ·simp only [Act.put, sT, sZ, sS, i64_w, i32_w]
         rfl
        refine pure_ (i := 8) (N := some 26) (v := ?_) (a' := ?_) #[true, true, true, true, true, true, true, true, true, false, true, false, true, false, false, false, false] rfl rfl (any_of HT_.out (by kernel_rfl)) (fun _ _ _ h => h) (Or.inl ⟨by rfl, ?_⟩) ?_ ?_
        rotate_left
        ·intro w'
         go_simp
         with_reducible rfl
        rotate_left
        ·simp only [Act.put, sT, sZ, sS, i64_w, i32_w]
         rfl
        refine pure_ (i := 9) (N := some 27) (v := ?_) (a' := ?_) #[true, true, true, true, true, true, true, true, true, true, true, false, true, false, false, false, false] rfl rfl (any_of HT_.out (by kernel_rfl)) (fun _ _ _ h => h) (Or.inl ⟨by rfl, ?_⟩) ?_ ?_
        rotate_left
        ·intro w'
         go_simp
         first | (with_reducible rfl) | (rw [if_pos (of_decide_eq_true cle_)])
        rotate_left
        ·simp only [Act.put, sT, sZ, sS, i64_w, i32_w]
         rfl
        refine take_ (i := 11) (N := some 29) (v := ?_) (a' := ?_) #[true, true, true, true, true, true, true, true, true, true, true, true, true, false, false, false, false] rfl rfl (take_ofW HT_.out HW_.out (by kernel_rfl)) (fun _ _ _ h => h) (Or.inl ⟨by rfl, ?_⟩) hHeld ?_ ?_
        rotate_left
        ·rintro w' ⟨s0, s1, s2, s3, s4, s5, s6, s7⟩
         go_simp
         with_reducible rfl
        rotate_left
        ·simp only [Act.put, sT, sZ, sS, i64_w, i32_w]
         rfl
        refine pure_ (i := 13) (N := some 31) (v := ?_) (a' := ?_) #[true, true, true, true, true, true, true, true, true, true, true, true, true, true, false, false, false] rfl rfl (any_of HT_.out (by kernel_rfl)) (fun _ _ _ h => h) (Or.inl ⟨by rfl, ?_⟩) ?_ ?_
        rotate_left
        ·intro w'
         go_simp
         with_reducible rfl
        rotate_left
        ·simp only [Act.put, sT, sZ, sS, i64_w, i32_w]
         rfl
        refine pure_ (i := 14) (N := some 32) (v := ?_) (a' := ?_) #[true, true, true, true, true, true, true, true, true, true, true, true, true, true, true, false, false] rfl rfl (any_of HT_.out (by kernel_rfl)) (fun _ _ _ h => h) (Or.inl ⟨by rfl, ?_⟩) ?_ ?_
        rotate_left
        ·intro w'
         go_simp
         with_reducible rfl
        rotate_left
        ·simp only [Act.put, sT, sZ, sS, i64_w, i32_w]
         rfl
        refine take_ (i := 15) (N := some 33) (v := ?_) (a' := ?_) #[true, true, true, true, true, true, true, true, true, true, true, true, true, true, true, true, false] rfl rfl (take_ofW HT_.out HW_.out (by kernel_rfl)) (fun _ _ _ h => h) (Or.inl ⟨by rfl, ?_⟩) hHeld ?_ ?_
        rotate_left
        ·rintro w' ⟨s0, s1, s2, s3, s4, s5, s6, s7⟩
         go_simp
         with_reducible rfl
        rotate_left
        ·simp only [Act.put, sT, sZ, sS, i64_w, i32_w]
         rfl
        refine last_ (i := 16) (N := some 34) #[true, true, true, true, true, true, true, true, true, true, true, true, true, true, true, true, true] rfl rfl (one_of HT_.out (by kernel_rfl)) (by decide) (fun K hK => ?_)
        refine value_ (w1 := w1_) (v := goInt ((((rd_T96 l0_1 x4_1).f1).length : Nat) : Int)) (by rfl) rfl ?_ ?_
        ·show Sem.run _ (execOp _ { dst := some 34, op := Go.Op.call _, type := 3, pos := _, after := _, guard := none }) _ = _
         unfold execOp
         first | (simp only [resolve, invoke, builtin, Sem.run_bind, Sem.run_pure, Result.andThen_ok, List.map_toArray, List.map_cons, List.map_nil]; erw [hcp_]; rfl) | (erw [hcp_]; rfl)
        refine hK.out _ _ ?_
        clear hK K
        refine done_ (done_of HT_.out (by kernel_rfl)) ?_
        try go_wp2
        go_roundg k1
        case measure => have := HK1.out; omega
        case rel => exact ⟨(wrap64 (x4_1 + 1)), (y236), (.slice (some ⟨go23, 0, none⟩) x233000_1.length co23), (by first | rfl | (simp; done) | (simp [*]; done)), H', ⟨by have := HK1.out; omega⟩, ⟨rq HQ28.out⟩, ⟨by refine sq ?_; exact Kd.S_grown HO_233001.out hgr_ (fun k_ hk e_ => hk e_)⟩, ⟨by refine bq ?_; exact blk_grown BK224.out hgr_ (fun e_ => (Kd.R_ne HO_233000.out BK224.out (by decide)) e_)⟩, ⟨by refine bq ?_; exact blk_grown BK225.out hgr_ (fun e_ => (Kd.R_ne HO_233000.out BK225.out (by decide)) e_)⟩, ⟨by refine bq ?_; exact blk_grown BK232.out hgr_ (fun e_ => (Kd.R_ne HO_233000.out BK232.out (by decide)) e_)⟩, ⟨by (with_reducible repeat (first | apply below_alloc | apply pw_below_drewN | apply below_drew1)); exact HB.out.grown hgr_ HB.out.size (fun k_ e_ => by injection e_ with e_; subst e_; exact GB23.out)⟩⟩
       ·rw [if_neg c22] at H
        exact absurd H (by simp)
      ·rw [if_neg c21] at H
       exact absurd H (by simp)
     ·rw [if_neg c19] at H
      exact absurd H (by simp)
    ·rw [if_neg c18] at H
     have c18b0 : decide (x4_1 < (l0_1.length : Int)) = false := decide_eq_false c18
     clear c18
     obtain ⟨y237, hy237⟩ : ∃ y_ : List (S96), y_ = (([] : List (S96))) := ⟨_, rfl⟩
     replace H : (some (x233000_1, y237)) = some (r1, r2) := by first | (rw [hy237]; with_reducible exact H) | (have H2_ := (Option.bind_some _ _).symm.trans H; rw [hy237]; with_reducible exact H2_) | (have H2_ := (Option.bind_some _ _).symm.trans H; with_reducible exact H2_) | with_reducible exact H | (rw [hy237]; exact H) | exact H
     have Ny237 := Ak hy237
     clear hy237
     simp only [Option.some.injEq, Prod.mk.injEq] at H
     obtain ⟨rfl, rfl⟩ := H
     have hnb29 := NB224_225.out
     have hnc29 := NB225_224.out
     have hnb30 := NB224_232.out
     have hnc30 := NB232_224.out
     have hcz31_0 : wr.cell? ⟨gb224, 0, none⟩ = some (.slice A0_0 l0_0.length c0_0) := zk0 BK224.out
     have hcz31_1 : wr.cell? ⟨gb224, 1, none⟩ = some (.slice A0_1 l0_1.length c0_1) := zk1 BK224.out
     have hfz31_0 := blk_frozen BK224.out 0
     have hfz31_1 := blk_frozen BK224.out 1
     go_wp2_with (first | ((with_reducible refine gate_dst (N := 35) rfl ?_); refine Kd.S_lit k96 _ 96 ?hg (N := 35) ?hd (xs := ([] : List (S96))) (inner := []) (ok := fun _ => True) (okp := fun _ => True) ?hr ?hp (fun _ hk => hk) trivial (Below.refl _ _) (Nat.le_refl _) (by simp) ?_; (case hd => rfl); (case hg => rfl); (case hr => first | (go_simp; done) | (go_simp; rfl)); (case hp => exact (Reps.none _ _)); intro v238 w32 ho33 hb hg_ hnew_; clear hg_ hnew_; (first | rw [← Ny237.out] at ho33 | (simp only [Int.reduceToNat] at ho33; rw [← Ny237.out] at ho33)); have HO239 := Ak (Kd.S_lower (Kd.S_new' (Kd.S_new' ho33 (Kd.R_lt (rq HO_233000.out))) (Kd.S_lt (sq HO_233001.out))) (below_size (bw3 HB.out GE224.out GE225.out GE232.out))); replace HO_233000 := Ak (Kd.R_below (rq HO_233000.out) hb); replace HO_233001 := Ak (Kd.S_elder' (sq HO_233001.out) (Kd.S_base ho33) hb); replace BK224 := Ak (blk_below (bq BK224.out) hb); replace BK225 := Ak (blk_below (bq BK225.out) hb); replace BK232 := Ak (blk_below (bq BK232.out) hb); replace HB := Ak (below_step (bw3 HB.out GE224.out GE225.out GE232.out) hb); clear hb ho33; obtain ⟨Ao34, co34, eo34⟩ := Kd.S_slice HO239.out; subst eo34; have hnb35 := NB232_225.out; have hnc35 := NB225_232.out; have hcz36_0 := zk0 BK232.out; have hcz36_1 := zk1 BK232.out; have hfz36_0 := blk_frozen BK232.out 0; have hfz36_1 := blk_frozen BK232.out 1; obtain ⟨Ao37, co37, eo37⟩ := Kd.R_slice HO_233000.out; subst eo37; have hcz38_0 := zk0 BK225.out; have hcz38_1 := zk1 BK225.out; have hfz38_0 := blk_frozen BK225.out 0; have hfz38_1 := blk_frozen BK225.out 1))
     refine bodyPost_ret (results_cell_row rfl _ _ gb225 31 #[.slice Ao37 x233000_1.length co37, .slice Ao34 y237.length co34] (0, 0) _ rfl (by refine bq ?_; refine blk_put (cs := #[.slice Ao37 x233000_1.length co37, .slice none 0 0]) ?_ 1 _ rfl; refine bq ?_; refine blk_put (cs := #[.slice none 0 0, .slice none 0 0]) ?_ 0 _ rfl; refine bq ?_; refine blk_far ?_ NB225_232.out _; exact bq BK225.out) Try.underlying31 rfl (by kernel_rfl)) rfl ?_
     exact ⟨_, _, zw, by refine rq ?_; exact Kd.R_mono (Kd.R_far (p := ⟨gb225, 1, none⟩) (Kd.R_far (p := ⟨gb225, 0, none⟩) (Kd.R_far (p := ⟨gb232, 1, none⟩) (Kd.R_types (Kd.R_types HO_233000.out BK232.out (by decide)) BK225.out (by decide)) (fun _ hk => hk.1.2) (.slice Ao34 y237.length co34)) (fun _ hk => hk.2) (.slice Ao37 x233000_1.length co37)) (fun _ hk => hk.2) (.slice Ao34 y237.length co34)) (fun _ hk => trivial), by refine sq ?_; exact Kd.S_mono (Kd.S_far (p := ⟨gb225, 1, none⟩) (Kd.S_far (p := ⟨gb225, 0, none⟩) (Kd.S_far (p := ⟨gb232, 1, none⟩) (Kd.S_types (Kd.S_types HO239.out BK232.out (by decide)) BK225.out (by decide)) (fun _ hk => hk.1.2) (.slice Ao34 y237.length co34)) (fun _ hk => hk.2) (.slice Ao37 x233000_1.length co37)) (fun _ hk => hk.2) (.slice Ao34 y237.length co34)) (fun _ hk => hk.1.1.1.2), bw3 HB.out GE224.out GE225.out GE232.out⟩
 ·replace c4 := Bool.eq_false_iff.mpr c4
  subst c4
  have H1 : (some (t226, t229)) = some (r1, r2) := by rw [if_neg (show ¬ (false = true) by decide)] at H; exact H
  clear H
  have H := H1
  clear H1
  simp only [Option.some.injEq, Prod.mk.injEq] at H
  obtain ⟨rfl, rfl⟩ := H
  go_enter Try.func47, Try.ntmps47
  go_wp2_with (first | ((with_reducible refine gate_dst (N := 1) rfl ?_); refine box_event ?hg (N := 1) ?hd (cs := #[.slice A0_0 l0_0.length c0_0, .slice A0_1 l0_1.length c0_1]) (t := 31) ?hr ?_; (case hd => rfl); (case hg => rfl); (case hr => first | (go_simp; done) | (go_simp; rfl)); intro gb224 hg w39 hbox hb; have BK224 := Ak (hbox); have GW224 := Ak (zb hg (bw HB.out)); have GE224 := Ak (zb hg (bw HB.out)); replace HB := Ak (below_step (bw HB.out) hb); clear hb hbox hg) | ((with_reducible refine gate_dst (N := 2) rfl ?_); refine box_event ?hg (N := 2) ?hd (cs := #[.slice none 0 0, .slice none 0 0]) (t := 31) ?hr ?_; (case hd => rfl); (case hg => rfl); (case hr => first | (go_simp; done) | (go_simp; rfl)); intro gb225 hg w40 hbox hb; have BK225 := Ak (hbox); have GW225 := Ak (zb hg (bw1 HB.out GE224.out)); have GE225 := Ak (zb hg (bw1 HB.out GE224.out)); replace HB := Ak (below_step (bw1 HB.out GE224.out) hb); have NB224_225 := Ak (zl hg (bq BK224.out)); have NB225_224 := Ak (zm hg (bq BK224.out)); replace BK224 := Ak (blk_below (bq BK224.out) hb); clear hb hbox hg; have hnb41 := NB224_225.out; have hnc41 := NB225_224.out; have hcz42_0 := zk0 BK224.out; have hcz42_1 := zk1 BK224.out; have hfz42_0 := blk_frozen BK224.out 0; have hfz42_1 := blk_frozen BK224.out 1) | ((with_reducible refine gate_callee (f := 44) rfl ?_); refine goesL_ (some 6) rfl rfl Try.func44 (by kernel_rfl) rfl #[.agg #[.slice A0_0 l0_0.length c0_0, .slice A0_1 l0_1.length c0_1]] rfl gm ?_; (with_reducible refine (spec_l11Copy.calls k _ _ l0_0 _ _ l0_1 t226 t229 _ ?side1 ?side2 ?side3 ?side4 A2.out).mono ?_); (case side1 => exact zq (Kd.C_below HR0_0.out HB.out)); (case side2 => exact HC0_0.out); (case side3 => exact zq (Kd.C_below HR0_1.out HB.out)); (case side4 => exact HC0_1.out); rintro e w43 ⟨v227, v230, rfl, ho0, ho1, hb⟩; refine ⟨_, rfl, ?_⟩; have HO228 := Ak (Kd.R_lower ho0 (below_size (bw2 HB.out GE224.out GE225.out))); have HO231 := Ak (Kd.S_lower ho1 (below_size (bw2 HB.out GE224.out GE225.out))); replace BK224 := Ak (blk_below (bq BK224.out) hb); replace BK225 := Ak (blk_below (bq BK225.out) hb); replace HB := Ak (below_step (bw2 HB.out GE224.out GE225.out) hb)) | ((with_reducible refine gate_dst (N := 3) rfl ?_); refine box_event ?hg (N := 3) ?hd (cs := #[.slice none 0 0, .slice none 0 0]) (t := 31) ?hr ?_; (case hd => rfl); (case hg => rfl); (case hr => first | (go_simp; done) | (go_simp; rfl)); intro gb232 hg w44 hbox hb; replace HO228 := Ak (Kd.R_below (rq HO228.out) hb); replace HO231 := Ak (Kd.S_below (sq HO231.out) hb); have BK232 := Ak (hbox); have GW232 := Ak (zb hg (bw2 HB.out GE224.out GE225.out)); have GE232 := Ak (zb hg (bw2 HB.out GE224.out GE225.out)); replace HB := Ak (below_step (bw2 HB.out GE224.out GE225.out) hb); have NB224_232 := Ak (zl hg (bq BK224.out)); have NB232_224 := Ak (zm hg (bq BK224.out)); replace BK224 := Ak (blk_below (bq BK224.out) hb); have NB225_232 := Ak (zl hg (bq BK225.out)); have NB232_225 := Ak (zm hg (bq BK225.out)); replace BK225 := Ak (blk_below (bq BK225.out) hb); clear hb hbox hg; obtain ⟨Ao45, co45, eo45⟩ := Kd.R_slice HO228.out; subst eo45; have hnb46 := NB232_224.out; have hnc46 := NB224_232.out; have hnb47 := NB232_225.out; have hnc47 := NB225_232.out; have hcz48_0 := zk0 BK232.out; have hcz48_1 := zk1 BK232.out; have hfz48_0 := blk_frozen BK232.out 0; have hfz48_1 := blk_frozen BK232.out 1; obtain ⟨Ao49, co49, eo49⟩ := Kd.S_slice HO231.out; subst eo49; have hcz50_0 := zk0 BK224.out; have hcz50_1 := zk1 BK224.out; have hfz50_0 := blk_frozen BK224.out 0; have hfz50_1 := blk_frozen BK224.out 1) | ((with_reducible refine gate_callee (f := 98) rfl ?_); refine goesL_ (some 8) rfl rfl Try.func98 (by kernel_rfl) rfl #[.agg #[.slice A0_0 l0_0.length c0_0, .slice A0_1 l0_1.length c0_1]] rfl gm ?_; (with_reducible refine (spec_DiskOk.calls k _ _ l0_0 _ _ l0_1 false _ ?side1 ?side2 ?side3 ?side4 A3.out).mono ?_); (case side1 => exact Kd.C_below HR0_0.out (bw3 HB.out GE224.out GE225.out GE232.out)); (case side2 => exact HC0_0.out); (case side3 => exact Kd.C_below HR0_1.out (bw3 HB.out GE224.out GE225.out GE232.out)); (case side4 => exact HC0_1.out); rintro e w51 ⟨rfl, hb⟩; refine ⟨_, rfl, ?_⟩; replace HO228 := Ak (Kd.R_below (by (with_reducible repeat (first | apply Kd.R_alloc | apply Kd.R_drewN | apply Kd.R_drew)); exact (Kd.R_mono (Kd.R_far (p := ⟨gb232, 1, none⟩) (Kd.R_far (p := ⟨gb232, 0, none⟩) (Kd.R_types HO228.out BK232.out (by decide)) (fun _ hk => hk.2) (.slice Ao45 t226.length co45)) (fun _ hk => hk.2) (.slice Ao49 t229.length co49)) (fun _ h_ => h_.1))) hb); replace HO231 := Ak (Kd.S_below (by (with_reducible repeat (first | apply Kd.S_alloc | apply Kd.S_drewN | apply Kd.S_drew)); exact (Kd.S_mono (Kd.S_far (p := ⟨gb232, 1, none⟩) (Kd.S_far (p := ⟨gb232, 0, none⟩) (Kd.S_types HO231.out BK232.out (by decide)) (fun _ hk => hk.2) (.slice Ao45 t226.length co45)) (fun _ hk => hk.2) (.slice Ao49 t229.length co49)) (fun _ h_ => h_.1))) hb); replace BK224 := Ak (blk_below (g := gb224) (o := .cells #[.slice A0_0 l0_0.length c0_0, .slice A0_1 l0_1.length c0_1] 31 (0, 0)) (by refine bq ?_; refine blk_far ?_ NB224_232.out _; refine bq ?_; refine blk_far ?_ NB224_232.out _; exact bq BK224.out) hb); replace BK225 := Ak (blk_below (g := gb225) (o := .cells #[.slice none 0 0, .slice none 0 0] 31 (0, 0)) (by refine bq ?_; refine blk_far ?_ NB225_232.out _; refine bq ?_; refine blk_far ?_ NB225_232.out _; exact bq BK225.out) hb); replace BK232 := Ak (blk_below (g := gb232) (o := .cells #[.slice Ao45 t226.length co45, .slice Ao49 t229.length co49] 31 (0, 0)) (by refine bq ?_; refine blk_put (cs := #[.slice Ao45 t226.length co45, .slice none 0 0]) ?_ 1 _ rfl; refine bq ?_; refine blk_put (cs := #[.slice none 0 0, .slice none 0 0]) ?_ 0 _ rfl; exact bq BK232.out) hb); replace HB := Ak (below_step (bw3 HB.out GE224.out GE225.out GE232.out) hb); have hcz52_0 := zk0 BK232.out; have hcz52_1 := zk1 BK232.out; have hfz52_0 := blk_frozen BK232.out 0; have hfz52_1 := blk_frozen BK232.out 1; have hcz53_0 := zk0 BK225.out; have hcz53_1 := zk1 BK225.out; have hfz53_0 := blk_frozen BK225.out 0; have hfz53_1 := blk_frozen BK225.out 1))
  refine bodyPost_ret (results_cell_row rfl _ _ gb225 31 #[.slice Ao45 t226.length co45, .slice Ao49 t229.length co49] (0, 0) _ rfl (by refine bq ?_; refine blk_put (cs := #[.slice Ao45 t226.length co45, .slice none 0 0]) ?_ 1 _ rfl; refine bq ?_; refine blk_put (cs := #[.slice none 0 0, .slice none 0 0]) ?_ 0 _ rfl; exact bq BK225.out) Try.underlying31 rfl (by kernel_rfl)) rfl ?_
  exact ⟨_, _, zw, by refine rq ?_; exact Kd.R_mono (Kd.R_far (p := ⟨gb225, 1, none⟩) (Kd.R_far (p := ⟨gb225, 0, none⟩) (Kd.R_types HO228.out BK225.out (by decide)) (fun _ hk => hk.2) (.slice Ao45 t226.length co45)) (fun _ hk => hk.2) (.slice Ao49 t229.length co49)) (fun _ hk => trivial), by refine sq ?_; exact Kd.S_mono (Kd.S_far (p := ⟨gb225, 1, none⟩) (Kd.S_far (p := ⟨gb225, 0, none⟩) (Kd.S_types HO231.out BK225.out (by decide)) (fun _ hk => hk.2) (.slice Ao45 t226.length co45)) (fun _ hk => hk.2) (.slice Ao49 t229.length co49)) (fun _ hk => hk.1), bw3 HB.out GE224.out GE225.out GE232.out⟩

end Go.Proofs.Ytgmnphckgicadaa.PFnExactLogAdd

