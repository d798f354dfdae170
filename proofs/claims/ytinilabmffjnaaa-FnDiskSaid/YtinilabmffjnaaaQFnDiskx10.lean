/- The functions that the law FnDisk reaches, each with what it computes and its contract. -/
import Derived.Test.YtinilabmffjnaaaQFnDiskx0
import Derived.Test.YtinilabmffjnaaaQFnDiskx1
namespace Go.Proofs.Ytinilabmffjnaaa.PFnDisk
open Go.RowKit Go.Proofs.YtinilabmffjnaaaW.PrintWords Go.Proofs.YtinilabmffjnaaaW.PrintLast Go.Proofs.YtinilabmffjnaaaW.PrintMore
attribute [local go_sem] max2_int min2_int max_two min_two max_three min_three max_four min_four
set_option linter.unusedVariables false
set_option linter.unusedSimpArgs false

def impl_inRange.f (a0 : Int) (a1 : Int) (a2 : Int) : Option (Bool) := if a0 ≥ a1 then (some (decide (a0 ≤ a2))) else (some false)
set_option maxHeartbeats 8000000 in
set_option maxRecDepth 100000 in
theorem impl_inRange.calls (a0 : Int) (a1 : Int) (a2 : Int) (r : Bool) (w : World) (h : impl_inRange.f a0 a1 a2 = some r) :
  Calls Try.prog 59 #[.int .i64 a0, .int .i64 a1, .int .i64 a2] w fun e w' => e = .returned (.bool r) ∧ Drawn0 w w' := by
 have H : (if a0 ≥ a1 then (some (decide (a0 ≤ a2))) else (some false)) = some r := h
 clear h
 by_cases c4 : a0 ≥ a1
 ·rw [if_pos c4] at H
  have c4b0 : decide (a1 ≤ a0) = true := decide_eq_true c4
  clear c4
  obtain rfl := Option.some.inj H
  go_enter Try.func59, Try.ntmps59
  go_wp2
  go_ret
  exact ⟨by first | rfl | (simp; done) | (simp [*]; done), by repeat (first | exact Drawn0.refl _ | apply Drawn0.step)⟩
 ·rw [if_neg c4] at H
  have c4b0 : decide (a1 ≤ a0) = false := decide_eq_false c4
  clear c4
  obtain rfl := Option.some.inj H
  go_enter Try.func59, Try.ntmps59
  go_wp2
  go_ret
  exact ⟨by first | rfl | (simp; done) | (simp [*]; done), by repeat (first | exact Drawn0.refl _ | apply Drawn0.step)⟩

def impl_Disk_sectors.f (l0 : List Int) : Option (Int) := some (wrap64 ((l0.length : Int) / 64))
set_option maxHeartbeats 8000000 in
set_option maxRecDepth 100000 in
theorem impl_Disk_sectors.calls (g : Nat) (A0 : Option Addr) (c0 : Nat) (l0 : List Int) (r : Int) (w : World) (hp : w.cell? ⟨g, 0, none⟩ = some (.slice A0 l0.length c0)) (h : impl_Disk_sectors.f l0 = some r) :
  Calls Try.prog 60 #[.pointer (some ⟨g, 0, none⟩)] w fun e w' => e = .returned (.int .i64 r) ∧ Drawn0 w w' := by
 have H : (some (wrap64 ((l0.length : Int) / 64))) = some r := h
 clear h
 obtain rfl := Option.some.inj H
 go_enter Try.func60, Try.ntmps60
 go_wp2
 go_ret
 exact ⟨by first | rfl | (simp; done) | (simp [*]; done), by repeat (first | exact Drawn0.refl _ | apply Drawn0.step)⟩

def impl_Disk_isSector.f (l0 : List Int) (a1 : Int) : Option (Bool) := (impl_Disk_sectors.f l0).bind fun t294 => ((impl_inRange.f a1 0 (wrap64 (t294 - 1))).bind fun t295 => (some t295))
set_option maxHeartbeats 8000000 in
set_option maxRecDepth 100000 in
theorem impl_Disk_isSector.calls (g : Nat) (A0 : Option Addr) (c0 : Nat) (l0 : List Int) (a1 : Int) (r : Bool) (w : World) (hp : w.cell? ⟨g, 0, none⟩ = some (.slice A0 l0.length c0)) (h : impl_Disk_isSector.f l0 a1 = some r) :
  Calls Try.prog 61 #[.pointer (some ⟨g, 0, none⟩), .int .i64 a1] w fun e w' => e = .returned (.bool r) ∧ Drawn0 w w' := by
 have H : ((impl_Disk_sectors.f l0).bind fun t294 => ((impl_inRange.f a1 0 (wrap64 (t294 - 1))).bind fun t295 => (some t295))) = some r := h
 clear h
 replace H := Option.bind_eq_some_iff.mp H
 obtain ⟨t294, A30, H⟩ := H
 replace H : ((impl_inRange.f a1 0 (wrap64 (t294 - 1))).bind fun t295 => (some t295)) = some r := H
 have A3 := Ak A30
 clear A30
 replace H := Option.bind_eq_some_iff.mp H
 obtain ⟨t295, A40, H⟩ := H
 replace H : (some t295) = some r := H
 have A4 := Ak A40
 clear A40
 obtain rfl := Option.some.inj H
 go_enter Try.func61, Try.ntmps61
 go_wp2_with (first | ((with_reducible refine gate_callee (f := 60) rfl ?_); refine goesL_ (some 7) rfl rfl Try.func60 (by kernel_rfl) rfl #[.pointer (some ⟨g, 0, none⟩)] rfl gm ?_; (with_reducible refine (impl_Disk_sectors.calls g A0 c0 l0 t294 _ ?side1 A3.out).mono ?_); (case side1 => first | exact hp | (go_simp; done) | simpa using hp); rintro e w' ⟨rfl, ⟨nd, rfl⟩⟩; refine ⟨_, rfl, ?_⟩) | ((with_reducible refine gate_callee (f := 59) rfl ?_); refine goesL_ (some 9) rfl rfl Try.func59 (by kernel_rfl) rfl #[.int .i64 a1, .int .i64 0, .int .i64 (wrap64 (t294 - 1))] rfl gm ?_; (with_reducible refine (impl_inRange.calls a1 0 (wrap64 (t294 - 1)) t295 _ A4.out).mono ?_); rintro e w' ⟨rfl, ⟨nd, rfl⟩⟩; refine ⟨_, rfl, ?_⟩))
 go_ret
 exact ⟨by first | rfl | (simp; done) | (simp [*]; done), by repeat (first | exact Drawn0.refl _ | apply Drawn0.step)⟩
theorem impl_Disk_isSector.callsB (g : Nat) (A0 : Option Addr) (c0 : Nat) (l0 : List Int) (a1 : Int) (r : Bool) (w : World) (hp : w.cell? ⟨g, 0, none⟩ = some (.slice A0 l0.length c0)) (h : impl_Disk_isSector.f l0 a1 = some r) :
  Calls Try.prog 61 #[.pointer (some ⟨g, 0, none⟩), .int .i64 a1] w fun e w' => e = .returned (.bool r) ∧ Below w.heap.size w w' :=
 (impl_Disk_isSector.calls g A0 c0 l0 a1 r w hp h).mono fun _ _ ⟨he, hd⟩ => ⟨he, by obtain ⟨n, rfl⟩ := hd; exact pw_below_drewN (Below.refl _ _) n⟩

mutual
def impl_DiskOk.j0 : Nat → List Int → Bool → List Int → List (S34) → Option (Bool)
 | 0, _, _, _, _ => none
 | k + 1, x6, x14, x297000, x297001 => if x14 = true then (some false) else (impl_DiskOk.l0 k x6 x297001 (x297001.length : Int) 0)
def impl_DiskOk.l0 : Nat → List Int → List (S34) → Int → Int → Option (Bool)
 | 0, _, _, _, _ => none
 | k + 1, x6, x16, x17, x18 => if x18 < x17 then (if 0 ≤ x18 then (if x18 < (x16.length : Int) then ((impl_Disk_isSector.f x6 ((rd_T34 x16 x18).f0)).bind fun t301 => (if t301 = true then (if (((rd_T34 x16 x18).f1).length : Int) = 64 then (impl_DiskOk.l0 k x6 x16 x17 (wrap64 (x18 + 1))) else (some false)) else (some false))) else (none)) else (none)) else (some true)
end
def impl_DiskOk.f (k : Nat) (l0_0 : List Int) (l0_1 : List (S34)) : Option (Bool) := if ((l0_0.length : Int) % 64) = 0 then ((impl_Disk_sectors.f l0_0).bind fun t297 => ((impl_inRange.f t297 1 400).bind fun t298 => (impl_DiskOk.j0 k l0_0 (!t298) l0_0 l0_1))) else (impl_DiskOk.j0 k l0_0 true l0_0 l0_1)
set_option maxHeartbeats 8000000 in
set_option maxRecDepth 100000 in
theorem impl_DiskOk.calls (k : Nat) (A0_0 : Option Addr) (c0_0 : Nat) (l0_0 : List Int) (A0_1 : Option Addr) (c0_1 : Nat) (l0_1 : List (S34)) (r : Bool) (w : World) (hr0_0 : Kd.C (Kd.int .u8) w A0_0 l0_0.length l0_0) (hc0_0 : l0_0.length ≤ c0_0) (hr0_1 : Kd.C k34 w A0_1 l0_1.length l0_1) (hc0_1 : l0_1.length ≤ c0_1) (h : impl_DiskOk.f k l0_0 l0_1 = some r) :
  Calls Try.prog 14 #[.agg #[.slice A0_0 l0_0.length c0_0, .slice A0_1 l0_1.length c0_1]] w fun e w' => e = .returned (.bool r) ∧ Below w.heap.size w w' := by
 have hu26 := Try.underlying26
 have hu34 := Try.underlying34
 have HR0_0 := Ak hr0_0
 have HC0_0 := Ak hc0_0
 clear hr0_0 hc0_0
 have HR0_1 := Ak hr0_1
 have HC0_1 := Ak hc0_1
 clear hr0_1 hc0_1
 have HB := Ak (Below.refl w.heap.size w)
 have H : (if ((l0_0.length : Int) % 64) = 0 then ((impl_Disk_sectors.f l0_0).bind fun t297 => ((impl_inRange.f t297 1 400).bind fun t298 => (impl_DiskOk.j0 k l0_0 (!t298) l0_0 l0_1))) else (impl_DiskOk.j0 k l0_0 true l0_0 l0_1)) = some r := h
 clear h
 have HC2 := Ak H
 clear H
 go_enter Try.func14, Try.ntmps14
 go_upto_region 1 with (first | ((with_reducible refine gate_dst (N := 1) rfl ?_); (try (refine gate_guard (by rfl) ?_; dsimp only)); refine box_event ?hg (N := 1) ?hd (cs := #[.slice A0_0 l0_0.length c0_0, .slice A0_1 l0_1.length c0_1]) (t := 26) ?hr ?_; (case hd => rfl); (case hg => rfl); (case hr => first | (go_simp; done) | (go_simp; rfl)); intro gb296 hg w3 hbox hb; have n0_ := Ak (below_step (bw HB.out) hb); have n1_ := Ak (hbox); have n2_ := Ak ((by rw [hg]; exact (below_size (bw HB.out)) : w.heap.size ≤ gb296)); have n3_ := Ak ((by rw [hg]; exact (below_size (bw HB.out)) : w.heap.size ≤ gb296)); clear HB; have HB := n0_; have BK296 := n1_; have GW296 := n2_; have GE296 := n3_; clear n0_ n1_ n2_ n3_; clear hb hbox hg))
 (try simp only [Act.put, sT, sZ, sS])
 go_cut [14] (fun v14 wc => ∃ (kq : Nat) (x14_1 : Bool), v14 = .bool x14_1 ∧ Aside0 (impl_DiskOk.j0 kq l0_0 x14_1 l0_0 l0_1 = some r) ∧ Aside0 (kq ≤ k) ∧ Aside0 (wc.heap[gb296]? = some (.cells #[(.slice A0_0 l0_0.length c0_0), (.slice A0_1 l0_1.length c0_1)] 26 (0, 0))) ∧ Aside0 (Below w.heap.size w wc))
 case first =>
  have H := HC2.out
  clear HC2
  by_cases c4 : ((l0_0.length : Int) % 64) = 0
  ·rw [if_pos c4] at H
   have c4b0 : (((l0_0.length : Int) % 64) == 0) = true := beq_iff_eq.mpr c4
   have c4b1 : (((l0_0.length : Int) % 64) != 0) = false := bne_eq_false_iff_eq.mpr c4
   clear c4
   (first | rw [c4b0] | (simp only [i64_w, i32_w]; rw [c4b0]) | skip)
   replace H := Option.bind_eq_some_iff.mp H
   obtain ⟨t297, A50, H⟩ := H
   replace H : ((impl_inRange.f t297 1 400).bind fun t298 => (impl_DiskOk.j0 k l0_0 (!t298) l0_0 l0_1)) = some r := H
   have A5 := Ak A50
   clear A50
   replace H := Option.bind_eq_some_iff.mp H
   obtain ⟨t298, A60, H⟩ := H
   replace H : (impl_DiskOk.j0 k l0_0 (!t298) l0_0 l0_1) = some r := H
   have A6 := Ak A60
   clear A60
   have H' := Ak H
   clear H
   have hcz7_0 : w3.cell? ⟨gb296, 0, none⟩ = some (.slice A0_0 l0_0.length c0_0) := (blk_cell BK296.out 0).trans rfl
   have hcz7_1 : w3.cell? ⟨gb296, 1, none⟩ = some (.slice A0_1 l0_1.length c0_1) := (blk_cell BK296.out 1).trans rfl
   have hfz7_0 := blk_frozen BK296.out 0
   have hfz7_1 := blk_frozen BK296.out 1
   go_wp2_with (first | (go_at_call 60; (with_reducible refine (impl_Disk_sectors.calls gb296 A0_0 c0_0 l0_0 t297 _ ?side1 A5.out).mono ?_); (case side1 => first | (go_simp; done) | exact (blk_cell (bq BK296.out) 0).trans rfl | (unfold World.cell?; (repeat rw [Below.heap_setCell _ ⟨gb300, _, none⟩ _ _ NB296_300.out]); rw [BK296.out]; rfl)); rintro e w' ⟨rfl, ⟨nd, rfl⟩⟩) | (go_at_call 59; (with_reducible refine (impl_inRange.calls t297 1 400 t298 _ A6.out).mono ?_); rintro e w' ⟨rfl, ⟨nd, rfl⟩⟩))
   go_meet
   case rel => exact ⟨_, (!t298), (by first | rfl | (simp; done) | (simp [*]; done)), H', ⟨by first | omega | exact Nat.le_refl _⟩, ⟨bq BK296.out⟩, ⟨bw1 HB.out GE296.out⟩⟩
  ·rw [if_neg c4] at H
   have c4b0 : (((l0_0.length : Int) % 64) == 0) = false := beq_eq_false_iff_ne.mpr c4
   have c4b1 : (((l0_0.length : Int) % 64) != 0) = true := bne_iff_ne.mpr c4
   (first | rw [c4b0] | (simp only [i64_w, i32_w]; rw [c4b0]) | skip)
   have H' := Ak H
   clear H
   have hcz8_0 : w3.cell? ⟨gb296, 0, none⟩ = some (.slice A0_0 l0_0.length c0_0) := (blk_cell BK296.out 0).trans rfl
   have hcz8_1 : w3.cell? ⟨gb296, 1, none⟩ = some (.slice A0_1 l0_1.length c0_1) := (blk_cell BK296.out 1).trans rfl
   have hfz8_0 := blk_frozen BK296.out 0
   have hfz8_1 := blk_frozen BK296.out 1
   go_wp2
   go_meet
   case rel => exact ⟨_, (true), (by first | rfl | (simp; done) | (simp [*]; done)), H', ⟨by first | omega | exact Nat.le_refl _⟩, ⟨bq BK296.out⟩, ⟨bw1 HB.out GE296.out⟩⟩
 case rest =>
  clear HC2
  try clear c4b0
  try clear c4b1
  obtain ⟨kq, x14_1, rfl, HA, HJ1, BK296, HB⟩ := hcut
  cases kq with
  | zero => exact absurd HA.out (by simp [impl_DiskOk.j0])
  | succ kj1 =>
   have H := HA.out
   clear HA
   simp only [impl_DiskOk.j0] at H
   by_cases c9 : x14_1 = true
   ·subst c9
    have H1 : (some false) = some r := by rw [if_pos rfl] at H; exact H
    clear H
    have H := H1
    clear H1
    obtain rfl := Option.some.inj H
    go_wp2
    go_ret
    exact ⟨by first | rfl | (simp [errW_none, errW_some] <;> rfl) | (simp [*, errW_none, errW_some] <;> rfl), bw1 HB.out GE296.out⟩
   ·replace c9 := Bool.eq_false_iff.mpr c9
    subst c9
    have H1 : (impl_DiskOk.l0 kj1 l0_0 l0_1 (l0_1.length : Int) 0) = some r := by rw [if_neg (show ¬ (false = true) by decide)] at H; exact H
    clear H
    have H := H1
    clear H1
    have H' := Ak H
    clear H
    have hcz10_0 : wc.cell? ⟨gb296, 0, none⟩ = some (.slice A0_0 l0_0.length c0_0) := (blk_cell BK296.out 0).trans rfl
    have hcz10_1 : wc.cell? ⟨gb296, 1, none⟩ = some (.slice A0_1 l0_1.length c0_1) := (blk_cell BK296.out 1).trans rfl
    have hfz10_0 := blk_frozen BK296.out 0
    have hfz10_1 := blk_frozen BK296.out 1
    go_wp2
    go_loopg [18] kj1 (fun kq v18 w' => ∃ (x18_2 : Int), v18 = .int .i64 x18_2 ∧ Aside0 (impl_DiskOk.l0 kq l0_0 l0_1 (l0_1.length : Int) x18_2 = some r) ∧ Aside0 (kq ≤ kj1) ∧ Aside0 (w'.heap[gb296]? = some (.cells #[(.slice A0_0 l0_0.length c0_0), (.slice A0_1 l0_1.length c0_1)] 26 (0, 0))) ∧ Aside0 (Below w.heap.size w w'))
    case atStart => exact ⟨(0), (by first | rfl | (simp; done) | (simp [*]; done)), H', ⟨Nat.le_refl _⟩, ⟨bq BK296.out⟩, ⟨bw1 HB.out GE296.out⟩⟩
    case round =>
     clear H'
     try clear c4b0
     try clear c4b1
     obtain ⟨x18_2, rfl, HA, HK2, BK296, HB⟩ := hrel
     cases gk with
     | zero => exact absurd HA.out (by simp [impl_DiskOk.l0])
     | succ k2 =>
      have H := HA.out
      clear HA
      simp only [impl_DiskOk.l0] at H
      by_cases c11 : x18_2 < (l0_1.length : Int)
      ·rw [if_pos c11] at H
       have c11b0 : decide (x18_2 < (l0_1.length : Int)) = true := decide_eq_true c11
       clear c11
       by_cases c12 : 0 ≤ x18_2
       ·rw [if_pos c12] at H
        have c12b0 : decide (0 ≤ x18_2) = true := decide_eq_true c12
        clear c12
        by_cases c13 : x18_2 < (l0_1.length : Int)
        ·rw [if_pos c13] at H
         have c13b0 : decide (x18_2 < (l0_1.length : Int)) = true := decide_eq_true c13
         clear c13
         replace H := Option.bind_eq_some_iff.mp H
         obtain ⟨t301, A140, H⟩ := H
         replace H : (if t301 = true then (if (((rd_T34 l0_1 x18_2).f1).length : Int) = 64 then (impl_DiskOk.l0 k2 l0_0 l0_1 (l0_1.length : Int) (wrap64 (x18_2 + 1))) else (some false)) else (some false)) = some r := H
         have A14 := Ak A140
         clear A140
         by_cases c15 : t301 = true
         ·subst c15
          have H1 : (if (((rd_T34 l0_1 x18_2).f1).length : Int) = 64 then (impl_DiskOk.l0 k2 l0_0 l0_1 (l0_1.length : Int) (wrap64 (x18_2 + 1))) else (some false)) = some r := by rw [if_pos rfl] at H; exact H
          clear H
          have H := H1
          clear H1
          by_cases c16 : (((rd_T34 l0_1 x18_2).f1).length : Int) = 64
          ·rw [if_pos c16] at H
           have c16b0 : ((((rd_T34 l0_1 x18_2).f1).length : Int) == 64) = true := beq_iff_eq.mpr c16
           have c16b1 : ((((rd_T34 l0_1 x18_2).f1).length : Int) != 64) = false := bne_eq_false_iff_eq.mpr c16
           clear c16
           have H' := Ak H
           clear H
           have p299 : 0 ≤ (x18_2 : Int) := of_decide_eq_true (by first | (with_reducible assumption) | assumption)
           have q299 : x18_2 < (l0_1.length : Int) := of_decide_eq_true (by first | (with_reducible assumption) | assumption)
           obtain ⟨ad299, A299_1, c299_1, e299, hx299_0, hx299_1, hl299_1, hi299_1⟩ := at_T34 HR0_1.out x18_2 p299 q299
           cases e299
           replace hx299_0 := (HB.out.cell (World.block_lt_of_cell? w _ hx299_0)).trans hx299_0
           replace hx299_1 := (HB.out.cell (World.block_lt_of_cell? w _ hx299_1)).trans hx299_1
           have HR299_1 := Ak hi299_1
           have HC299_1 := Ak hl299_1
           clear hi299_1 hl299_1
           replace p299 := eq_true p299
           replace q299 := eq_true q299
           go_wp2_with (first | ((with_reducible refine gate_dst (N := 4) rfl ?_); (try (refine gate_guard (by rfl) ?_; dsimp only)); refine box_event ?hg (N := 4) ?hd (cs := #[.int .i64 0, .slice none 0 0]) (t := 34) ?hr ?_; (case hd => rfl); (case hg => rfl); (case hr => first | (go_simp; done) | (go_simp; rfl)); intro gb300 hg w17 hbox hb; have n0_ := Ak (blk_below (g := gb296) (o := .cells #[.slice A0_0 l0_0.length c0_0, .slice (some ad299) l0_1.length c0_1] 26 (0, 0)) (bq BK296.out) hb); have n1_ := Ak (below_step (bw1 HB.out GE296.out) hb); have n2_ := Ak (hbox); have n3_ := Ak ((by rw [hg]; exact (below_size (bw1 HB.out GE296.out)) : w.heap.size ≤ gb300)); have n4_ := Ak ((by rw [hg]; exact (below_size (bw1 HB.out GE296.out)) : w.heap.size ≤ gb300)); have n5_ := Ak ((by rw [hg]; exact Nat.ne_of_lt (blk_lt (g := gb296) (o := .cells #[.slice A0_0 l0_0.length c0_0, .slice (some ad299) l0_1.length c0_1] 26 (0, 0)) (bq BK296.out)) : gb296 ≠ gb300)); have n6_ := Ak ((by rw [hg]; exact Nat.ne_of_gt (blk_lt (g := gb296) (o := .cells #[.slice A0_0 l0_0.length c0_0, .slice (some ad299) l0_1.length c0_1] 26 (0, 0)) (bq BK296.out)) : gb300 ≠ gb296)); clear BK296; clear HB; have BK296 := n0_; have HB := n1_; have BK300 := n2_; have GW300 := n3_; have GE300 := n4_; have NB296_300 := n5_; have NB300_296 := n6_; clear n0_ n1_ n2_ n3_ n4_ n5_ n6_; clear hb hbox hg; have hnb18 := NB300_296.out; have hnc18 := NB296_300.out; have hcz19_0 : w17.cell? ⟨gb300, 0, none⟩ = some (.int .i64 0) := (blk_cell BK300.out 0).trans rfl; have hcz19_1 : w17.cell? ⟨gb300, 1, none⟩ = some (.slice none 0 0) := (blk_cell BK300.out 1).trans rfl; have hfz19_0 := blk_frozen BK300.out 0; have hfz19_1 := blk_frozen BK300.out 1) | ((with_reducible refine gate_callee (f := 61) rfl ?_); refine goesL_ (some 24) rfl rfl Try.func61 (by kernel_rfl) rfl #[.pointer (some ⟨gb296, 0, none⟩), .int .i64 ((rd_T34 l0_1 x18_2).f0)] rfl gm ?_; (with_reducible refine (impl_Disk_isSector.calls gb296 A0_0 c0_0 l0_0 ((rd_T34 l0_1 x18_2).f0) true _ ?side1 A14.out).mono ?_); (case side1 => first | (go_simp; done) | exact (blk_cell (bq BK296.out) 0).trans rfl | (unfold World.cell?; (repeat rw [Below.heap_setCell _ ⟨gb300, _, none⟩ _ _ NB296_300.out]); rw [BK296.out]; rfl)); rintro e w' ⟨rfl, ⟨nd, rfl⟩⟩; refine ⟨_, rfl, ?_⟩))
           go_roundg k2
           case measure => have := HJ1.out; have := HK2.out; omega
           case rel => exact ⟨(wrap64 (x18_2 + 1)), (by first | rfl | (simp; done) | (simp [*]; done)), H', ⟨by have := HJ1.out; have := HK2.out; omega⟩, ⟨by (with_reducible repeat (first | refine blk_drewN ?_ _ | refine blk_drew ?_ | refine blk_alloc ?_ _)); refine blk_far ?_ NB296_300.out _; (with_reducible repeat (first | refine blk_drewN ?_ _ | refine blk_drew ?_ | refine blk_alloc ?_ _)); refine blk_far ?_ NB296_300.out _; (with_reducible repeat (first | refine blk_drewN ?_ _ | refine blk_drew ?_ | refine blk_alloc ?_ _)); exact BK296.out⟩, ⟨bw2 HB.out GE296.out GE300.out⟩⟩
          ·rw [if_neg c16] at H
           have c16b0 : ((((rd_T34 l0_1 x18_2).f1).length : Int) == 64) = false := beq_eq_false_iff_ne.mpr c16
           have c16b1 : ((((rd_T34 l0_1 x18_2).f1).length : Int) != 64) = true := bne_iff_ne.mpr c16
           obtain rfl := Option.some.inj H
           have p299 : 0 ≤ (x18_2 : Int) := of_decide_eq_true (by first | (with_reducible assumption) | assumption)
           have q299 : x18_2 < (l0_1.length : Int) := of_decide_eq_true (by first | (with_reducible assumption) | assumption)
           obtain ⟨ad299, A299_1, c299_1, e299, hx299_0, hx299_1, hl299_1, hi299_1⟩ := at_T34 HR0_1.out x18_2 p299 q299
           cases e299
           replace hx299_0 := (HB.out.cell (World.block_lt_of_cell? w _ hx299_0)).trans hx299_0
           replace hx299_1 := (HB.out.cell (World.block_lt_of_cell? w _ hx299_1)).trans hx299_1
           have HR299_1 := Ak hi299_1
           have HC299_1 := Ak hl299_1
           clear hi299_1 hl299_1
           replace p299 := eq_true p299
           replace q299 := eq_true q299
           go_wp2_with (first | ((with_reducible refine gate_dst (N := 4) rfl ?_); (try (refine gate_guard (by rfl) ?_; dsimp only)); refine box_event ?hg (N := 4) ?hd (cs := #[.int .i64 0, .slice none 0 0]) (t := 34) ?hr ?_; (case hd => rfl); (case hg => rfl); (case hr => first | (go_simp; done) | (go_simp; rfl)); intro gb300 hg w20 hbox hb; have n0_ := Ak (blk_below (g := gb296) (o := .cells #[.slice A0_0 l0_0.length c0_0, .slice (some ad299) l0_1.length c0_1] 26 (0, 0)) (bq BK296.out) hb); have n1_ := Ak (below_step (bw1 HB.out GE296.out) hb); have n2_ := Ak (hbox); have n3_ := Ak ((by rw [hg]; exact (below_size (bw1 HB.out GE296.out)) : w.heap.size ≤ gb300)); have n4_ := Ak ((by rw [hg]; exact (below_size (bw1 HB.out GE296.out)) : w.heap.size ≤ gb300)); have n5_ := Ak ((by rw [hg]; exact Nat.ne_of_lt (blk_lt (g := gb296) (o := .cells #[.slice A0_0 l0_0.length c0_0, .slice (some ad299) l0_1.length c0_1] 26 (0, 0)) (bq BK296.out)) : gb296 ≠ gb300)); have n6_ := Ak ((by rw [hg]; exact Nat.ne_of_gt (blk_lt (g := gb296) (o := .cells #[.slice A0_0 l0_0.length c0_0, .slice (some ad299) l0_1.length c0_1] 26 (0, 0)) (bq BK296.out)) : gb300 ≠ gb296)); clear BK296; clear HB; have BK296 := n0_; have HB := n1_; have BK300 := n2_; have GW300 := n3_; have GE300 := n4_; have NB296_300 := n5_; have NB300_296 := n6_; clear n0_ n1_ n2_ n3_ n4_ n5_ n6_; clear hb hbox hg; have hnb21 := NB300_296.out; have hnc21 := NB296_300.out; have hcz22_0 : w20.cell? ⟨gb300, 0, none⟩ = some (.int .i64 0) := (blk_cell BK300.out 0).trans rfl; have hcz22_1 : w20.cell? ⟨gb300, 1, none⟩ = some (.slice none 0 0) := (blk_cell BK300.out 1).trans rfl; have hfz22_0 := blk_frozen BK300.out 0; have hfz22_1 := blk_frozen BK300.out 1) | ((with_reducible refine gate_callee (f := 61) rfl ?_); refine goesL_ (some 24) rfl rfl Try.func61 (by kernel_rfl) rfl #[.pointer (some ⟨gb296, 0, none⟩), .int .i64 ((rd_T34 l0_1 x18_2).f0)] rfl gm ?_; (with_reducible refine (impl_Disk_isSector.calls gb296 A0_0 c0_0 l0_0 ((rd_T34 l0_1 x18_2).f0) true _ ?side1 A14.out).mono ?_); (case side1 => first | (go_simp; done) | exact (blk_cell (bq BK296.out) 0).trans rfl | (unfold World.cell?; (repeat rw [Below.heap_setCell _ ⟨gb300, _, none⟩ _ _ NB296_300.out]); rw [BK296.out]; rfl)); rintro e w' ⟨rfl, ⟨nd, rfl⟩⟩; refine ⟨_, rfl, ?_⟩))
           go_ret
           exact ⟨by first | rfl | (simp [errW_none, errW_some] <;> rfl) | (simp [*, errW_none, errW_some] <;> rfl), bw2 HB.out GE296.out GE300.out⟩
         ·replace c15 := Bool.eq_false_iff.mpr c15
          subst c15
          have H1 : (some false) = some r := by rw [if_neg (show ¬ (false = true) by decide)] at H; exact H
          clear H
          have H := H1
          clear H1
          obtain rfl := Option.some.inj H
          have p299 : 0 ≤ (x18_2 : Int) := of_decide_eq_true (by first | (with_reducible assumption) | assumption)
          have q299 : x18_2 < (l0_1.length : Int) := of_decide_eq_true (by first | (with_reducible assumption) | assumption)
          obtain ⟨ad299, A299_1, c299_1, e299, hx299_0, hx299_1, hl299_1, hi299_1⟩ := at_T34 HR0_1.out x18_2 p299 q299
          cases e299
          replace hx299_0 := (HB.out.cell (World.block_lt_of_cell? w _ hx299_0)).trans hx299_0
          replace hx299_1 := (HB.out.cell (World.block_lt_of_cell? w _ hx299_1)).trans hx299_1
          have HR299_1 := Ak hi299_1
          have HC299_1 := Ak hl299_1
          clear hi299_1 hl299_1
          replace p299 := eq_true p299
          replace q299 := eq_true q299
          go_wp2_with (first | ((with_reducible refine gate_dst (N := 4) rfl ?_); (try (refine gate_guard (by rfl) ?_; dsimp only)); refine box_event ?hg (N := 4) ?hd (cs := #[.int .i64 0, .slice none 0 0]) (t := 34) ?hr ?_; (case hd => rfl); (case hg => rfl); (case hr => first | (go_simp; done) | (go_simp; rfl)); intro gb300 hg w23 hbox hb; have n0_ := Ak (blk_below (g := gb296) (o := .cells #[.slice A0_0 l0_0.length c0_0, .slice (some ad299) l0_1.length c0_1] 26 (0, 0)) (bq BK296.out) hb); have n1_ := Ak (below_step (bw1 HB.out GE296.out) hb); have n2_ := Ak (hbox); have n3_ := Ak ((by rw [hg]; exact (below_size (bw1 HB.out GE296.out)) : w.heap.size ≤ gb300)); have n4_ := Ak ((by rw [hg]; exact (below_size (bw1 HB.out GE296.out)) : w.heap.size ≤ gb300)); have n5_ := Ak ((by rw [hg]; exact Nat.ne_of_lt (blk_lt (g := gb296) (o := .cells #[.slice A0_0 l0_0.length c0_0, .slice (some ad299) l0_1.length c0_1] 26 (0, 0)) (bq BK296.out)) : gb296 ≠ gb300)); have n6_ := Ak ((by rw [hg]; exact Nat.ne_of_gt (blk_lt (g := gb296) (o := .cells #[.slice A0_0 l0_0.length c0_0, .slice (some ad299) l0_1.length c0_1] 26 (0, 0)) (bq BK296.out)) : gb300 ≠ gb296)); clear BK296; clear HB; have BK296 := n0_; have HB := n1_; have BK300 := n2_; have GW300 := n3_; have GE300 := n4_; have NB296_300 := n5_; have NB300_296 := n6_; clear n0_ n1_ n2_ n3_ n4_ n5_ n6_; clear hb hbox hg; have hnb24 := NB300_296.out; have hnc24 := NB296_300.out; have hcz25_0 : w23.cell? ⟨gb300, 0, none⟩ = some (.int .i64 0) := (blk_cell BK300.out 0).trans rfl; have hcz25_1 : w23.cell? ⟨gb300, 1, none⟩ = some (.slice none 0 0) := (blk_cell BK300.out 1).trans rfl; have hfz25_0 := blk_frozen BK300.out 0; have hfz25_1 := blk_frozen BK300.out 1) | ((with_reducible refine gate_callee (f := 61) rfl ?_); refine goesL_ (some 24) rfl rfl Try.func61 (by kernel_rfl) rfl #[.pointer (some ⟨gb296, 0, none⟩), .int .i64 ((rd_T34 l0_1 x18_2).f0)] rfl gm ?_; (with_reducible refine (impl_Disk_isSector.calls gb296 A0_0 c0_0 l0_0 ((rd_T34 l0_1 x18_2).f0) false _ ?side1 A14.out).mono ?_); (case side1 => first | (go_simp; done) | exact (blk_cell (bq BK296.out) 0).trans rfl | (unfold World.cell?; (repeat rw [Below.heap_setCell _ ⟨gb300, _, none⟩ _ _ NB296_300.out]); rw [BK296.out]; rfl)); rintro e w' ⟨rfl, ⟨nd, rfl⟩⟩; refine ⟨_, rfl, ?_⟩))
          go_ret
          exact ⟨by first | rfl | (simp [errW_none, errW_some] <;> rfl) | (simp [*, errW_none, errW_some] <;> rfl), bw2 HB.out GE296.out GE300.out⟩
        ·rw [if_neg c13] at H
         exact absurd H (by simp)
       ·rw [if_neg c12] at H
        exact absurd H (by simp)
      ·rw [if_neg c11] at H
       have c11b0 : decide (x18_2 < (l0_1.length : Int)) = false := decide_eq_false c11
       clear c11
       obtain rfl := Option.some.inj H
       go_wp2
       go_ret
       exact ⟨by first | rfl | (simp [errW_none, errW_some] <;> rfl) | (simp [*, errW_none, errW_some] <;> rfl), bw1 HB.out GE296.out⟩

end Go.Proofs.Ytinilabmffjnaaa.PFnDisk
