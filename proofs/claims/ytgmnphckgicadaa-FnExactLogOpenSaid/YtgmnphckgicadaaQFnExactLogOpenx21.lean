/- Functions that the law reaches, with their contracts. -/
import Derived.Test.YtgmnphckgicadaaQFnExactLogOpenx19
import Derived.Test.YtgmnphckgicadaaQFnExactLogOpenx20
namespace Go.Proofs.Ytgmnphckgicadaa.PFnExactLogOpen
open Go.RowKit Go.Proofs.YtgmnphckgicadaaW.PrintWords Go.Proofs.YtgmnphckgicadaaW.PrintLast Go.Proofs.YtgmnphckgicadaaW.PrintMore
attribute [local go_sem] max2_int min2_int max_two min_two max_three min_three max_four min_four
set_option linter.unusedVariables false
set_option linter.unusedSimpArgs false

mutual
def impl_ReadSector.j0 : Nat → Int → Bool → List Int → List (S96) → Option (List Int × Bool)
 | 0, _, _, _, _ => none
 | k + 1, x1, x14, x338000, x338001 => if x14 = true then (some (([] : List Int), false)) else (impl_ReadSector.l0 k x1 (wrap64 ((x338001.length : Int) - 1)) x338000 x338001)
def impl_ReadSector.l0 : Nat → Int → Int → List Int → List (S96) → Option (List Int × Bool)
 | 0, _, _, _, _ => none
 | k + 1, x1, x6, x338000, x338001 => if x6 ≥ 0 then (if 0 ≤ x6 then (if x6 < (x338001.length : Int) then (if ((rd_T96 x338001 x6).f0) = x1 then ((slices_Clone_byte_byte.f ((rd_T96 x338001 x6).f1)).bind fun t342 => (some (t342, true))) else (impl_ReadSector.l0 k x1 (wrap64 (x6 - 1)) x338000 x338001)) else (none)) else (none)) else (if 0 ≤ (wrap64 (x1 * 64)) then (if (wrap64 (x1 * 64)) ≤ (wrap64 ((wrap64 (x1 + 1)) * 64)) then (if (wrap64 ((wrap64 (x1 + 1)) * 64)) ≤ (x338000.length : Int) then ((slices_Clone_byte_byte.f ((x338000.take ((wrap64 ((wrap64 (x1 + 1)) * 64)) : Int).toNat).drop ((wrap64 (x1 * 64)) : Int).toNat)).bind fun t346 => (some (t346, true))) else (none)) else (none)) else (none))
end
def impl_ReadSector.f (k : Nat) (l0_0 : List Int) (l0_1 : List (S96)) (a1 : Int) : Option (List Int × Bool) := (impl_Disk_isSector.f l0_0 a1).bind fun t338 => (if t338 = true then ((impl_DiskOk.f k l0_0 l0_1).bind fun t339 => (impl_ReadSector.j0 k a1 (!t339) l0_0 l0_1)) else (impl_ReadSector.j0 k a1 true l0_0 l0_1))
set_option maxHeartbeats 8000000 in
set_option maxRecDepth 100000 in
theorem impl_ReadSector.calls (k : Nat) (A0_0 : Option Addr) (c0_0 : Nat) (l0_0 : List Int) (A0_1 : Option Addr) (c0_1 : Nat) (l0_1 : List (S96)) (a1 : Int) (r1 : List Int) (r2 : Bool) (w : World) (hr0_0 : Kd.C (Kd.int .u8) w A0_0 l0_0.length l0_0) (hc0_0 : l0_0.length ≤ c0_0) (hr0_1 : Kd.C k96 w A0_1 l0_1.length l0_1) (hc0_1 : l0_1.length ≤ c0_1) (h : impl_ReadSector.f k l0_0 l0_1 a1 = some (r1, r2)) :
  Calls Try.prog 107 #[.agg #[.slice A0_0 l0_0.length c0_0, .slice A0_1 l0_1.length c0_1], .int .i64 a1] w fun e w' => ∃ v0_ : Value, e = .returned (.tuple #[v0_, .bool r2]) ∧ Kd.R (Kd.int .u8) 5 w' w.heap.size (fun _ => True) v0_ r1 ∧ Below w.heap.size w w' := by
 have hu31 := Try.underlying31
 have HR0_0 := Ak hr0_0
 have HC0_0 := Ak hc0_0
 clear hr0_0 hc0_0
 have HR0_1 := Ak hr0_1
 have HC0_1 := Ak hc0_1
 clear hr0_1 hc0_1
 have HB := Ak (Below.refl w.heap.size w)
 have H : ((impl_Disk_isSector.f l0_0 a1).bind fun t338 => (if t338 = true then ((impl_DiskOk.f k l0_0 l0_1).bind fun t339 => (impl_ReadSector.j0 k a1 (!t339) l0_0 l0_1)) else (impl_ReadSector.j0 k a1 true l0_0 l0_1))) = some (r1, r2) := h
 clear h
 have HC3 := Ak H
 clear H
 go_enter Try.func107, Try.ntmps107
 go_upto_region 1 with (first | ((with_reducible refine gate_dst (N := 2) rfl ?_); refine box_event ?hg (N := 2) ?hd (cs := #[.slice A0_0 l0_0.length c0_0, .slice A0_1 l0_1.length c0_1]) (t := 31) ?hr ?_; (case hd => rfl); (case hg => rfl); (case hr => first | (go_simp; done) | (go_simp; rfl)); intro gb337 hg w4 hbox hb; have n0_ := Ak (below_step (bw HB.out) hb); have n1_ := Ak (hbox); have n2_ := Ak ((by rw [hg]; exact (below_size (bw HB.out)) : w.heap.size ≤ gb337)); have n3_ := Ak ((by rw [hg]; exact (below_size (bw HB.out)) : w.heap.size ≤ gb337)); clear HB; have HB := n0_; have BK337 := n1_; have GW337 := n2_; have GE337 := n3_; clear n0_ n1_ n2_ n3_; clear hb hbox hg))
 (try simp only [Act.put, sT, sZ, sS])
 go_cut [14] (fun v14 wc => ∃ (kq : Nat) (x14_2 : Bool), v14 = .bool x14_2 ∧ Aside0 (impl_ReadSector.j0 kq a1 x14_2 l0_0 l0_1 = some (r1, r2)) ∧ Aside0 (kq ≤ k) ∧ Aside0 (wc.heap[gb337]? = some (.cells #[(.slice A0_0 l0_0.length c0_0), (.slice A0_1 l0_1.length c0_1)] 31 (0, 0))) ∧ Aside0 (Below w.heap.size w wc))
 case first =>
  have H := HC3.out
  clear HC3
  replace H := Option.bind_eq_some_iff.mp H
  obtain ⟨t338, A50, H⟩ := H
  replace H : (if t338 = true then ((impl_DiskOk.f k l0_0 l0_1).bind fun t339 => (impl_ReadSector.j0 k a1 (!t339) l0_0 l0_1)) else (impl_ReadSector.j0 k a1 true l0_0 l0_1)) = some (r1, r2) := H
  have A5 := Ak A50
  clear A50
  by_cases c6 : t338 = true
  ·subst c6
   have H1 : ((impl_DiskOk.f k l0_0 l0_1).bind fun t339 => (impl_ReadSector.j0 k a1 (!t339) l0_0 l0_1)) = some (r1, r2) := by rw [if_pos rfl] at H; exact H
   clear H
   have H := H1
   clear H1
   replace H := Option.bind_eq_some_iff.mp H
   obtain ⟨t339, A70, H⟩ := H
   replace H : (impl_ReadSector.j0 k a1 (!t339) l0_0 l0_1) = some (r1, r2) := H
   have A7 := Ak A70
   clear A70
   have H' := Ak H
   clear H
   go_wp2_with (first | ((with_reducible refine gate_callee (f := 106) rfl ?_); refine goesL_ (some 8) rfl rfl Try.func106 (by kernel_rfl) rfl #[.pointer (some ⟨gb337, 0, none⟩), .int .i64 a1] rfl gm ?_; (with_reducible refine (impl_Disk_isSector.callsB gb337 A0_0 c0_0 l0_0 a1 true _ ?side1 A5.out).mono ?_); (case side1 => first | (go_simp; done) | exact (blk_cell (bq BK337.out) 0).trans rfl | (unfold World.cell?; skip; rw [BK337.out]; rfl)); rintro e w8 ⟨rfl, hb⟩; refine ⟨_, rfl, ?_⟩; have n0_ := Ak (blk_below (g := gb337) (o := .cells #[.slice A0_0 l0_0.length c0_0, .slice A0_1 l0_1.length c0_1] 31 (0, 0)) (bq BK337.out) hb); have n1_ := Ak (below_step (bw1 HB.out GE337.out) hb); clear BK337; clear HB; have BK337 := n0_; have HB := n1_; clear n0_ n1_; have hcz9_0 : w8.cell? ⟨gb337, 0, none⟩ = some (.slice A0_0 l0_0.length c0_0) := (blk_cell BK337.out 0).trans rfl; have hcz9_1 : w8.cell? ⟨gb337, 1, none⟩ = some (.slice A0_1 l0_1.length c0_1) := (blk_cell BK337.out 1).trans rfl; have hfz9_0 := blk_frozen BK337.out 0; have hfz9_1 := blk_frozen BK337.out 1) | (go_at_call 67; (with_reducible refine (impl_DiskOk.calls k _ _ l0_0 _ _ l0_1 t339 _ ?side1 ?side2 ?side3 ?side4 A7.out).mono ?_); (case side1 => repeat (first | exact (Kd.C_below HR0_0.out HB.out) | (with_reducible refine Kd.C_alloc ?_ _) | (with_reducible refine Kd.C_drewN ?_ _) | (with_reducible refine Kd.C_drew ?_))); (case side2 => exact HC0_0.out); (case side3 => repeat (first | exact (Kd.C_below HR0_1.out HB.out) | (with_reducible refine Kd.C_alloc ?_ _) | (with_reducible refine Kd.C_drewN ?_ _) | (with_reducible refine Kd.C_drew ?_))); (case side4 => exact HC0_1.out); rintro e w10 ⟨rfl, hb⟩; have n0_ := Ak (blk_below (g := gb337) (o := .cells #[.slice A0_0 l0_0.length c0_0, .slice A0_1 l0_1.length c0_1] 31 (0, 0)) (bq BK337.out) hb); have n1_ := Ak (below_step (bw1 HB.out GE337.out) hb); clear BK337; clear HB; have BK337 := n0_; have HB := n1_; clear n0_ n1_))
   go_meet
   case rel => exact ⟨_, (!t339), (by first | rfl | (simp; done) | (simp [*]; done)), H', ⟨by first | omega | exact Nat.le_refl _⟩, ⟨bq BK337.out⟩, ⟨bw1 HB.out GE337.out⟩⟩
  ·replace c6 := Bool.eq_false_iff.mpr c6
   subst c6
   have H1 : (impl_ReadSector.j0 k a1 true l0_0 l0_1) = some (r1, r2) := by rw [if_neg (show ¬ (false = true) by decide)] at H; exact H
   clear H
   have H := H1
   clear H1
   have H' := Ak H
   clear H
   go_wp2_with (first | ((with_reducible refine gate_callee (f := 106) rfl ?_); refine goesL_ (some 8) rfl rfl Try.func106 (by kernel_rfl) rfl #[.pointer (some ⟨gb337, 0, none⟩), .int .i64 a1] rfl gm ?_; (with_reducible refine (impl_Disk_isSector.callsB gb337 A0_0 c0_0 l0_0 a1 false _ ?side1 A5.out).mono ?_); (case side1 => first | (go_simp; done) | exact (blk_cell (bq BK337.out) 0).trans rfl | (unfold World.cell?; skip; rw [BK337.out]; rfl)); rintro e w11 ⟨rfl, hb⟩; refine ⟨_, rfl, ?_⟩; have n0_ := Ak (blk_below (g := gb337) (o := .cells #[.slice A0_0 l0_0.length c0_0, .slice A0_1 l0_1.length c0_1] 31 (0, 0)) (bq BK337.out) hb); have n1_ := Ak (below_step (bw1 HB.out GE337.out) hb); clear BK337; clear HB; have BK337 := n0_; have HB := n1_; clear n0_ n1_))
   go_meet
   case rel => exact ⟨_, (true), (by first | rfl | (simp; done) | (simp [*]; done)), H', ⟨by first | omega | exact Nat.le_refl _⟩, ⟨bq BK337.out⟩, ⟨bw1 HB.out GE337.out⟩⟩
 case rest =>
  clear HC3
  obtain ⟨kq, x14_2, rfl, HA, HJ2, BK337, HB⟩ := hcut
  cases kq with
  | zero => exact absurd HA.out (by simp [impl_ReadSector.j0])
  | succ kj2 =>
   have H := HA.out
   clear HA
   simp only [impl_ReadSector.j0] at H
   by_cases c12 : x14_2 = true
   ·subst c12
    have H1 : (some (([] : List Int), false)) = some (r1, r2) := by rw [if_pos rfl] at H; exact H
    clear H
    have H := H1
    clear H1
    simp only [Option.some.injEq, Prod.mk.injEq] at H
    obtain ⟨rfl, rfl⟩ := H
    go_wp2
    go_ret2
    exact ⟨_, by first | rfl | (simp [errW_none, errW_some] <;> rfl) | (simp [*, errW_none, errW_some] <;> rfl), by first | exact Kd.R_nil _ _ _ _ _ | exact Kd.N_nil _ _ _ _ _ | exact Kd.V_nil _ _ _ _ _ | exact Kd.Q_nil _ _ _ _ _ | exact Kd.S_nil _ _ _ _ _, bw1 HB.out GE337.out⟩
   ·replace c12 := Bool.eq_false_iff.mpr c12
    subst c12
    have H1 : (impl_ReadSector.l0 kj2 a1 (wrap64 ((l0_1.length : Int) - 1)) l0_0 l0_1) = some (r1, r2) := by rw [if_neg (show ¬ (false = true) by decide)] at H; exact H
    clear H
    have H := H1
    clear H1
    have H' := Ak H
    clear H
    have hcz13_0 : wc.cell? ⟨gb337, 0, none⟩ = some (.slice A0_0 l0_0.length c0_0) := (blk_cell BK337.out 0).trans rfl
    have hcz13_1 : wc.cell? ⟨gb337, 1, none⟩ = some (.slice A0_1 l0_1.length c0_1) := (blk_cell BK337.out 1).trans rfl
    have hfz13_0 := blk_frozen BK337.out 0
    have hfz13_1 := blk_frozen BK337.out 1
    go_wp2
    go_loopg [6] kj2 (fun kq v6 w' => ∃ (x6_2 : Int), v6 = .int .i64 x6_2 ∧ Aside0 (impl_ReadSector.l0 kq a1 x6_2 l0_0 l0_1 = some (r1, r2)) ∧ Aside0 (kq ≤ kj2) ∧ Aside0 (w'.heap[gb337]? = some (.cells #[(.slice A0_0 l0_0.length c0_0), (.slice A0_1 l0_1.length c0_1)] 31 (0, 0))) ∧ Aside0 (Below w.heap.size w w'))
    case atStart => exact ⟨(wrap64 ((l0_1.length : Int) - 1)), (by first | rfl | (simp; done) | (simp [*]; done)), H', ⟨Nat.le_refl _⟩, ⟨bq BK337.out⟩, ⟨bw1 HB.out GE337.out⟩⟩
    case round =>
     clear H'
     obtain ⟨x6_2, rfl, HA, HK2, BK337, HB⟩ := hrel
     cases gk with
     | zero => exact absurd HA.out (by simp [impl_ReadSector.l0])
     | succ k2 =>
      have H := HA.out
      clear HA
      simp only [impl_ReadSector.l0] at H
      by_cases c14 : x6_2 ≥ 0
      ·rw [if_pos c14] at H
       have c14b0 : decide (0 ≤ x6_2) = true := decide_eq_true c14
       clear c14
       by_cases c15 : 0 ≤ x6_2
       ·rw [if_pos c15] at H
        have c15b0 : decide (0 ≤ x6_2) = true := decide_eq_true c15
        clear c15
        by_cases c16 : x6_2 < (l0_1.length : Int)
        ·rw [if_pos c16] at H
         have c16b0 : decide (x6_2 < (l0_1.length : Int)) = true := decide_eq_true c16
         clear c16
         by_cases c17 : ((rd_T96 l0_1 x6_2).f0) = a1
         ·rw [if_pos c17] at H
          have c17b0 : (((rd_T96 l0_1 x6_2).f0) == a1) = true := beq_iff_eq.mpr c17
          have c17b1 : (((rd_T96 l0_1 x6_2).f0) != a1) = false := bne_eq_false_iff_eq.mpr c17
          clear c17
          replace H := Option.bind_eq_some_iff.mp H
          obtain ⟨t342, A180, H⟩ := H
          replace H : (some (t342, true)) = some (r1, r2) := H
          have A18 := Ak A180
          clear A180
          simp only [Option.some.injEq, Prod.mk.injEq] at H
          obtain ⟨rfl, rfl⟩ := H
          have hcz19_0 : wr.cell? ⟨gb337, 0, none⟩ = some (.slice A0_0 l0_0.length c0_0) := (blk_cell BK337.out 0).trans rfl
          have hcz19_1 : wr.cell? ⟨gb337, 1, none⟩ = some (.slice A0_1 l0_1.length c0_1) := (blk_cell BK337.out 1).trans rfl
          have hfz19_0 := blk_frozen BK337.out 0
          have hfz19_1 := blk_frozen BK337.out 1
          have p340 : 0 ≤ (x6_2 : Int) := of_decide_eq_true (by first | (with_reducible assumption) | assumption)
          have q340 : x6_2 < (l0_1.length : Int) := of_decide_eq_true (by first | (with_reducible assumption) | assumption)
          obtain ⟨ad340, A340_1, c340_1, e340, hx340_0, hx340_1, hl340_1, hi340_1⟩ := at_T96 HR0_1.out x6_2 p340 q340
          cases e340
          replace hx340_0 := (HB.out.cell (World.block_lt_of_cell? w _ hx340_0)).trans hx340_0
          replace hx340_1 := (HB.out.cell (World.block_lt_of_cell? w _ hx340_1)).trans hx340_1
          have HR340_1 := Ak hi340_1
          have HC340_1 := Ak hl340_1
          clear hi340_1 hl340_1
          replace p340 := eq_true p340
          replace q340 := eq_true q340
          have p341 : 0 ≤ (x6_2 : Int) := of_decide_eq_true (by first | (with_reducible assumption) | assumption)
          have q341 : x6_2 < (l0_1.length : Int) := of_decide_eq_true (by first | (with_reducible assumption) | assumption)
          obtain ⟨ad341, A341_1, c341_1, e341, hx341_0, hx341_1, hl341_1, hi341_1⟩ := at_T96 HR0_1.out x6_2 p341 q341
          obtain rfl : ad340 = ad341 := (by injection e341)
          replace hx341_0 := (HB.out.cell (World.block_lt_of_cell? w _ hx341_0)).trans hx341_0
          replace hx341_1 := (HB.out.cell (World.block_lt_of_cell? w _ hx341_1)).trans hx341_1
          have HR341_1 := Ak hi341_1
          have HC341_1 := Ak hl341_1
          clear hi341_1 hl341_1
          replace p341 := eq_true p341
          replace q341 := eq_true q341
          have ea_ := Option.some.inj (hx340_1.symm.trans hx341_1)
          injection ea_ with ea_ en_ ec_
          subst ea_
          subst ec_
          clear en_
          go_wp2_with (first | ((with_reducible refine gate_callee (f := 100) rfl ?_); refine goesL_ (some 37) rfl rfl Try.func100 (by kernel_rfl) rfl #[.slice A340_1 ((rd_T96 l0_1 x6_2).f1).length c340_1] rfl gm ?_; (with_reducible refine (slices_Clone_byte_byte.calls _ _ ((rd_T96 l0_1 x6_2).f1) t342 _ ?side1 ?side2 A18.out).mono ?_); (case side1 => repeat (first | exact (Kd.C_below HR341_1.out HB.out) | (with_reducible refine Kd.C_alloc ?_ _) | (with_reducible refine Kd.C_drewN ?_ _) | (with_reducible refine Kd.C_drew ?_))); (case side2 => exact HC341_1.out); rintro e w20 ⟨v343, rfl, ho0, hb⟩; refine ⟨_, rfl, ?_⟩; have n0_ := Ak (Kd.R_lower ho0 (below_size (bw1 HB.out GE337.out))); have n1_ := Ak (blk_below (g := gb337) (o := .cells #[.slice A0_0 l0_0.length c0_0, .slice (some ad340) l0_1.length c0_1] 31 (0, 0)) (bq BK337.out) hb); have n2_ := Ak (below_step (bw1 HB.out GE337.out) hb); clear BK337; clear HB; have HO344 := n0_; have BK337 := n1_; have HB := n2_; clear n0_ n1_ n2_))
          go_ret2
          exact ⟨_, by first | rfl | (simp [errW_none, errW_some] <;> rfl) | (simp [*, errW_none, errW_some] <;> rfl), rq HO344.out, bw1 HB.out GE337.out⟩
         ·rw [if_neg c17] at H
          have c17b0 : (((rd_T96 l0_1 x6_2).f0) == a1) = false := beq_eq_false_iff_ne.mpr c17
          have c17b1 : (((rd_T96 l0_1 x6_2).f0) != a1) = true := bne_iff_ne.mpr c17
          have H' := Ak H
          clear H
          have hcz21_0 : wr.cell? ⟨gb337, 0, none⟩ = some (.slice A0_0 l0_0.length c0_0) := (blk_cell BK337.out 0).trans rfl
          have hcz21_1 : wr.cell? ⟨gb337, 1, none⟩ = some (.slice A0_1 l0_1.length c0_1) := (blk_cell BK337.out 1).trans rfl
          have hfz21_0 := blk_frozen BK337.out 0
          have hfz21_1 := blk_frozen BK337.out 1
          have p340 : 0 ≤ (x6_2 : Int) := of_decide_eq_true (by first | (with_reducible assumption) | assumption)
          have q340 : x6_2 < (l0_1.length : Int) := of_decide_eq_true (by first | (with_reducible assumption) | assumption)
          obtain ⟨ad340, A340_1, c340_1, e340, hx340_0, hx340_1, hl340_1, hi340_1⟩ := at_T96 HR0_1.out x6_2 p340 q340
          cases e340
          replace hx340_0 := (HB.out.cell (World.block_lt_of_cell? w _ hx340_0)).trans hx340_0
          replace hx340_1 := (HB.out.cell (World.block_lt_of_cell? w _ hx340_1)).trans hx340_1
          have HR340_1 := Ak hi340_1
          have HC340_1 := Ak hl340_1
          clear hi340_1 hl340_1
          replace p340 := eq_true p340
          replace q340 := eq_true q340
          go_wp2
          go_roundg k2
          case measure => have := HJ2.out; have := HK2.out; omega
          case rel => exact ⟨(wrap64 (x6_2 - 1)), (by first | rfl | (simp; done) | (simp [*]; done)), H', ⟨by have := HJ2.out; have := HK2.out; omega⟩, ⟨bq BK337.out⟩, ⟨bw1 HB.out GE337.out⟩⟩
        ·rw [if_neg c16] at H
         exact absurd H (by simp)
       ·rw [if_neg c15] at H
        exact absurd H (by simp)
      ·rw [if_neg c14] at H
       have c14b0 : decide (0 ≤ x6_2) = false := decide_eq_false c14
       clear c14
       obtain ⟨ji22, hji22⟩ : ∃ j_ : Int, (wrap64 (a1 * 64)) = j_ := ⟨_, rfl⟩
       replace H : (if 0 ≤ (ji22) then (if (ji22) ≤ (wrap64 ((wrap64 (a1 + 1)) * 64)) then (if (wrap64 ((wrap64 (a1 + 1)) * 64)) ≤ (l0_0.length : Int) then ((slices_Clone_byte_byte.f ((l0_0.take ((wrap64 ((wrap64 (a1 + 1)) * 64)) : Int).toNat).drop ((ji22) : Int).toNat)).bind fun t346 => (some (t346, true))) else (none)) else (none)) else (none)) = some (r1, r2) := by first | (rw [hji22] at H; exact H) | (simp only [hji22] at H ⊢; exact H)
       have hji22w : (IntKind.i64.wrap (a1 * 64)) = ji22 := (i64_w _).trans hji22
       by_cases c23 : 0 ≤ (ji22)
       ·rw [if_pos c23] at H
        have c23b0 := eq_true c23
        have c23b1 : decide (0 ≤ (ji22)) = true := decide_eq_true c23
        clear c23
        by_cases c24 : (ji22) ≤ (wrap64 ((wrap64 (a1 + 1)) * 64))
        ·rw [if_pos c24] at H
         have c24b0 := eq_true c24
         have c24b1 : decide ((ji22) ≤ (wrap64 ((wrap64 (a1 + 1)) * 64))) = true := decide_eq_true c24
         by_cases c25 : (wrap64 ((wrap64 (a1 + 1)) * 64)) ≤ (l0_0.length : Int)
         ·rw [if_pos c25] at H
          have c25b0 := eq_true c25
          have c25b1 : decide ((wrap64 ((wrap64 (a1 + 1)) * 64)) ≤ (l0_0.length : Int)) = true := decide_eq_true c25
          replace H := Option.bind_eq_some_iff.mp H
          obtain ⟨t346, A260, H⟩ := H
          replace H : (some (t346, true)) = some (r1, r2) := H
          have A26 := Ak A260
          clear A260
          simp only [Option.some.injEq, Prod.mk.injEq] at H
          obtain ⟨rfl, rfl⟩ := H
          have hcz27_0 : wr.cell? ⟨gb337, 0, none⟩ = some (.slice A0_0 l0_0.length c0_0) := (blk_cell BK337.out 0).trans rfl
          have hcz27_1 : wr.cell? ⟨gb337, 1, none⟩ = some (.slice A0_1 l0_1.length c0_1) := (blk_cell BK337.out 1).trans rfl
          have hfz27_0 := blk_frozen BK337.out 0
          have hfz27_1 := blk_frozen BK337.out 1
          obtain ⟨i028, hi028, _, hsz28, _⟩ := info_parts info5
          obtain ⟨A28, hcut28, hA28, hC28⟩ := print_mid_of (P := Try.prog) (Value.int .u8) 0 22 5 .i64 .i64 Try.underlying22 hi028 hsz28 A0_0 c0_0 l0_0 (ji22) (wrap64 ((wrap64 (a1 + 1)) * 64)) (of_decide_eq_true (by first | (with_reducible assumption) | assumption)) (by first | omega | exact of_decide_eq_true (by first | (with_reducible assumption) | assumption)) (of_decide_eq_true (by first | (with_reducible assumption) | assumption)) HC0_0.out
          have HR345 := Ak (Kd.C_of_reads (h1 := fun _ => rfl) (hA28 _ (Kd.reads_of_C HR0_0.out)))
          have HC345 := Ak hC28
          clear hA28 hC28 hi028 hsz28
          go_wp2_with (first | ((with_reducible refine gate_callee (f := 100) rfl ?_); refine goesL_ (some 46) rfl rfl Try.func100 (by kernel_rfl) rfl #[.slice A28 ((l0_0.take ((wrap64 ((wrap64 (a1 + 1)) * 64)) : Int).toNat).drop ((ji22) : Int).toNat).length (c0_0 - (ji22).toNat)] rfl (by (try simp only [List.map_toArray, List.map_cons, List.map_nil]); first | done | (rw [show ((l0_0.take ((wrap64 ((wrap64 (a1 + 1)) * 64)) : Int).toNat).drop ((ji22) : Int).toNat).length = ((wrap64 ((wrap64 (a1 + 1)) * 64)).toNat - (ji22).toNat) from (by rw [List.length_drop, List.length_take]; have h_ : ((wrap64 ((wrap64 (a1 + 1)) * 64)) : Int) ≤ (l0_0.length : Int) := of_decide_eq_true (by first | (with_reducible assumption) | assumption); omega)] <;> rfl) | (simp only [hji22]; rfl) | rfl | (simp only [List.length_drop, List.length_take]; rfl)) ?_; (with_reducible refine (slices_Clone_byte_byte.calls _ _ ((l0_0.take ((wrap64 ((wrap64 (a1 + 1)) * 64)) : Int).toNat).drop ((ji22) : Int).toNat) t346 _ ?side1 ?side2 A26.out).mono ?_); (case side1 => repeat (first | exact (Kd.C_below HR345.out HB.out) | (with_reducible refine Kd.C_alloc ?_ _) | (with_reducible refine Kd.C_drewN ?_ _) | (with_reducible refine Kd.C_drew ?_))); (case side2 => exact HC345.out); rintro e w29 ⟨v347, rfl, ho0, hb⟩; refine ⟨_, rfl, ?_⟩; have n0_ := Ak (Kd.R_lower ho0 (below_size (bw1 HB.out GE337.out))); have n1_ := Ak (blk_below (g := gb337) (o := .cells #[.slice A0_0 l0_0.length c0_0, .slice A0_1 l0_1.length c0_1] 31 (0, 0)) (bq BK337.out) hb); have n2_ := Ak (below_step (bw1 HB.out GE337.out) hb); clear BK337; clear HB; have HO348 := n0_; have BK337 := n1_; have HB := n2_; clear n0_ n1_ n2_))
          go_ret2
          exact ⟨_, by first | rfl | (simp [errW_none, errW_some] <;> rfl) | (simp only [← hji22]; first | rfl | (simp [errW_none, errW_some] <;> rfl)) | (simp [*, errW_none, errW_some] <;> rfl), rq HO348.out, bw1 HB.out GE337.out⟩
         ·rw [if_neg c25] at H
          exact absurd H (by simp)
        ·rw [if_neg c24] at H
         exact absurd H (by simp)
       ·rw [if_neg c23] at H
        exact absurd H (by simp)

end Go.Proofs.Ytgmnphckgicadaa.PFnExactLogOpen

