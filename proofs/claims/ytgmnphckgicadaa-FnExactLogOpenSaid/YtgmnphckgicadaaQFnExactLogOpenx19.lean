/- Functions that the law reaches, with their contracts. -/
import Derived.Test.YtgmnphckgicadaaQFnExactLogOpenx18
namespace Go.Proofs.Ytgmnphckgicadaa.PFnExactLogOpen
open Go.RowKit Go.Proofs.YtgmnphckgicadaaW.PrintWords Go.Proofs.YtgmnphckgicadaaW.PrintLast Go.Proofs.YtgmnphckgicadaaW.PrintMore
attribute [local go_sem] max2_int min2_int max_two min_two max_three min_three max_four min_four
set_option linter.unusedVariables false
set_option linter.unusedSimpArgs false

def impl_inRange.f (a0 : Int) (a1 : Int) (a2 : Int) : Option (Bool) := if a0 ≥ a1 then (some (decide (a0 ≤ a2))) else (some false)
set_option maxHeartbeats 8000000 in
set_option maxRecDepth 100000 in
theorem impl_inRange.calls (a0 : Int) (a1 : Int) (a2 : Int) (r : Bool) (w : World) (h : impl_inRange.f a0 a1 a2 = some r) :
  Calls Try.prog 101 #[.int .i64 a0, .int .i64 a1, .int .i64 a2] w fun e w' => e = .returned (.bool r) ∧ Drawn0 w w' := by
 have H : (if a0 ≥ a1 then (some (decide (a0 ≤ a2))) else (some false)) = some r := h
 clear h
 by_cases c4 : a0 ≥ a1
 ·rw [if_pos c4] at H
  have c4b0 : decide (a1 ≤ a0) = true := decide_eq_true c4
  clear c4
  obtain rfl := Option.some.inj H
  go_enter Try.func101, Try.ntmps101
  go_wp2
  go_ret
  exact ⟨by first | rfl | (simp; done) | (simp [*]; done), by repeat (first | exact Drawn0.refl _ | apply Drawn0.step)⟩
 ·rw [if_neg c4] at H
  have c4b0 : decide (a1 ≤ a0) = false := decide_eq_false c4
  clear c4
  obtain rfl := Option.some.inj H
  go_enter Try.func101, Try.ntmps101
  go_wp2
  go_ret
  exact ⟨by first | rfl | (simp; done) | (simp [*]; done), by repeat (first | exact Drawn0.refl _ | apply Drawn0.step)⟩

/-- A state of type 31 at block g of W; what its slices lead to came in by w0. -/
def IsS31 (w0 W : World) (g : Nat) (f0 : List Int) (f1 : List (S96)) : Prop := ∃ A0 c0, ∃ A1 c1, W.heap[g]? = some (.cells #[.slice A0 f0.length c0, .slice A1 f1.length c1] 31 (0, 0)) ∧ w0.heap.size ≤ g ∧ Kd.C (Kd.int .u8) w0 A0 f0.length f0 ∧ Kd.C k96 w0 A1 f1.length f1
theorem IsS31.drewN {w0 W : World} {g : Nat} {f0 : List Int} {f1 : List (S96)} (h : IsS31 w0 W g f0 f1) (m : Nat) : IsS31 w0 (W.drewN m) g f0 f1 := h
theorem IsS31.at_ {w0 W : World} {g : Nat} {f0 : List Int} {f1 : List (S96)} {w' : World} {m : Nat} (hq : W.drewN m = w') (h : IsS31 w0 W g f0 f1) : IsS31 w0 w' g f0 f1 := by subst hq; exact IsS31.drewN h m
theorem IsS31.apart {w0 W : World} {g : Nat} {f0 : List Int} {f1 : List (S96)} {α : Type} {d : Kd α} {e : Nat} {base : Nat} {ok : Nat → Prop} {v : Value} {xs : List α} (h : IsS31 w0 W g f0 f1) (ho : d.R e W base ok v xs) (ht : ∀ q, q ∈ e :: d.E → q ≠ 31) : d.R e W base (fun k => ok k ∧ k ≠ g) v xs := by
 obtain ⟨A0, c0, A1, c1, hb, hg, hr0, hr1⟩ := h
 exact Kd.R_types ho hb ht
def impl_Disk_sectors.f (l0 : List Int) : Option (Int) := some (wrap64 ((l0.length : Int) / 64))
set_option maxHeartbeats 8000000 in
set_option maxRecDepth 100000 in
theorem impl_Disk_sectors.calls (g : Nat) (A0 : Option Addr) (c0 : Nat) (l0 : List Int) (r : Int) (w : World) (hp : w.cell? ⟨g, 0, none⟩ = some (.slice A0 l0.length c0)) (h : impl_Disk_sectors.f l0 = some r) :
  Calls Try.prog 114 #[.pointer (some ⟨g, 0, none⟩)] w fun e w' => e = .returned (.int .i64 r) ∧ Drawn0 w w' := by
 have H : (some (wrap64 ((l0.length : Int) / 64))) = some r := h
 clear h
 obtain rfl := Option.some.inj H
 go_enter Try.func114, Try.ntmps114
 go_wp2
 go_ret
 exact ⟨by first | rfl | (simp; done) | (simp [*]; done), by repeat (first | exact Drawn0.refl _ | apply Drawn0.step)⟩

def impl_Disk_isSector.f (l0 : List Int) (a1 : Int) : Option (Bool) := (impl_Disk_sectors.f l0).bind fun t319 => ((impl_inRange.f a1 0 (wrap64 (t319 - 1))).bind fun t320 => (some t320))
set_option maxHeartbeats 8000000 in
set_option maxRecDepth 100000 in
theorem impl_Disk_isSector.calls (g : Nat) (A0 : Option Addr) (c0 : Nat) (l0 : List Int) (a1 : Int) (r : Bool) (w : World) (hp : w.cell? ⟨g, 0, none⟩ = some (.slice A0 l0.length c0)) (h : impl_Disk_isSector.f l0 a1 = some r) :
  Calls Try.prog 106 #[.pointer (some ⟨g, 0, none⟩), .int .i64 a1] w fun e w' => e = .returned (.bool r) ∧ Drawn0 w w' := by
 have H : ((impl_Disk_sectors.f l0).bind fun t319 => ((impl_inRange.f a1 0 (wrap64 (t319 - 1))).bind fun t320 => (some t320))) = some r := h
 clear h
 replace H := Option.bind_eq_some_iff.mp H
 obtain ⟨t319, A30, H⟩ := H
 replace H : ((impl_inRange.f a1 0 (wrap64 (t319 - 1))).bind fun t320 => (some t320)) = some r := H
 have A3 := Ak A30
 clear A30
 replace H := Option.bind_eq_some_iff.mp H
 obtain ⟨t320, A40, H⟩ := H
 replace H : (some t320) = some r := H
 have A4 := Ak A40
 clear A40
 obtain rfl := Option.some.inj H
 go_enter Try.func106, Try.ntmps106
 go_wp2_with (first | ((with_reducible refine gate_callee (f := 114) rfl ?_); refine goesL_ (some 7) rfl rfl Try.func114 (by kernel_rfl) rfl #[.pointer (some ⟨g, 0, none⟩)] rfl gm ?_; (with_reducible refine (impl_Disk_sectors.calls g A0 c0 l0 t319 _ ?side1 A3.out).mono ?_); (case side1 => first | exact hp | (go_simp; done) | simpa using hp); rintro e w' ⟨rfl, ⟨nd, rfl⟩⟩; refine ⟨_, rfl, ?_⟩) | ((with_reducible refine gate_callee (f := 101) rfl ?_); refine goesL_ (some 9) rfl rfl Try.func101 (by kernel_rfl) rfl #[.int .i64 a1, .int .i64 0, .int .i64 (wrap64 (t319 - 1))] rfl gm ?_; (with_reducible refine (impl_inRange.calls a1 0 (wrap64 (t319 - 1)) t320 _ A4.out).mono ?_); rintro e w' ⟨rfl, ⟨nd, rfl⟩⟩; refine ⟨_, rfl, ?_⟩))
 go_ret
 exact ⟨by first | rfl | (simp; done) | (simp [*]; done), by repeat (first | exact Drawn0.refl _ | apply Drawn0.step)⟩
theorem impl_Disk_isSector.callsB (g : Nat) (A0 : Option Addr) (c0 : Nat) (l0 : List Int) (a1 : Int) (r : Bool) (w : World) (hp : w.cell? ⟨g, 0, none⟩ = some (.slice A0 l0.length c0)) (h : impl_Disk_isSector.f l0 a1 = some r) :
  Calls Try.prog 106 #[.pointer (some ⟨g, 0, none⟩), .int .i64 a1] w fun e w' => e = .returned (.bool r) ∧ Below w.heap.size w w' :=
 (impl_Disk_isSector.calls g A0 c0 l0 a1 r w hp h).mono fun _ _ ⟨he, hd⟩ => ⟨he, by obtain ⟨n, rfl⟩ := hd; exact pw_below_drewN (Below.refl _ _) n⟩

mutual
def impl_DiskOk.j0 : Nat → List Int → Bool → List Int → List (S96) → Option (Bool)
 | 0, _, _, _, _ => none
 | k + 1, x6, x14, x322000, x322001 => if x14 = true then (some false) else (impl_DiskOk.l0 k x6 x322001 (x322001.length : Int) 0)
def impl_DiskOk.l0 : Nat → List Int → List (S96) → Int → Int → Option (Bool)
 | 0, _, _, _, _ => none
 | k + 1, x6, x16, x17, x18 => if x18 < x17 then (if 0 ≤ x18 then (if x18 < (x16.length : Int) then ((impl_Disk_isSector.f x6 ((rd_T96 x16 x18).f0)).bind fun t326 => (if t326 = true then (if (((rd_T96 x16 x18).f1).length : Int) = 64 then (impl_DiskOk.l0 k x6 x16 x17 (wrap64 (x18 + 1))) else (some false)) else (some false))) else (none)) else (none)) else (some true)
end
def impl_DiskOk.f (k : Nat) (l0_0 : List Int) (l0_1 : List (S96)) : Option (Bool) := if ((l0_0.length : Int) % 64) = 0 then ((impl_Disk_sectors.f l0_0).bind fun t322 => ((impl_inRange.f t322 1 400).bind fun t323 => (impl_DiskOk.j0 k l0_0 (!t323) l0_0 l0_1))) else (impl_DiskOk.j0 k l0_0 true l0_0 l0_1)
set_option maxHeartbeats 8000000 in
set_option maxRecDepth 100000 in
theorem impl_DiskOk.calls (k : Nat) (A0_0 : Option Addr) (c0_0 : Nat) (l0_0 : List Int) (A0_1 : Option Addr) (c0_1 : Nat) (l0_1 : List (S96)) (r : Bool) (w : World) (hr0_0 : Kd.C (Kd.int .u8) w A0_0 l0_0.length l0_0) (hc0_0 : l0_0.length ≤ c0_0) (hr0_1 : Kd.C k96 w A0_1 l0_1.length l0_1) (hc0_1 : l0_1.length ≤ c0_1) (h : impl_DiskOk.f k l0_0 l0_1 = some r) :
  Calls Try.prog 67 #[.agg #[.slice A0_0 l0_0.length c0_0, .slice A0_1 l0_1.length c0_1]] w fun e w' => e = .returned (.bool r) ∧ Below w.heap.size w w' := by
 have hu31 := Try.underlying31
 have hu96 := Try.underlying96
 have HR0_0 := Ak hr0_0
 have HC0_0 := Ak hc0_0
 clear hr0_0 hc0_0
 have HR0_1 := Ak hr0_1
 have HC0_1 := Ak hc0_1
 clear hr0_1 hc0_1
 have HB := Ak (Below.refl w.heap.size w)
 have H : (if ((l0_0.length : Int) % 64) = 0 then ((impl_Disk_sectors.f l0_0).bind fun t322 => ((impl_inRange.f t322 1 400).bind fun t323 => (impl_DiskOk.j0 k l0_0 (!t323) l0_0 l0_1))) else (impl_DiskOk.j0 k l0_0 true l0_0 l0_1)) = some r := h
 clear h
 have HC2 := Ak H
 clear H
 go_enter Try.func67, Try.ntmps67
 go_upto_region 1 with (first | ((with_reducible refine gate_dst (N := 1) rfl ?_); (try (refine gate_guard (by rfl) ?_; dsimp only)); refine box_event ?hg (N := 1) ?hd (cs := #[.slice A0_0 l0_0.length c0_0, .slice A0_1 l0_1.length c0_1]) (t := 31) ?hr ?_; (case hd => rfl); (case hg => rfl); (case hr => first | (go_simp; done) | (go_simp; rfl)); intro gb321 hg w3 hbox hb; have n0_ := Ak (below_step (bw HB.out) hb); have n1_ := Ak (hbox); have n2_ := Ak ((by rw [hg]; exact (below_size (bw HB.out)) : w.heap.size ≤ gb321)); have n3_ := Ak ((by rw [hg]; exact (below_size (bw HB.out)) : w.heap.size ≤ gb321)); clear HB; have HB := n0_; have BK321 := n1_; have GW321 := n2_; have GE321 := n3_; clear n0_ n1_ n2_ n3_; clear hb hbox hg))
 (try simp only [Act.put, sT, sZ, sS])
 go_cut [14] (fun v14 wc => ∃ (kq : Nat) (x14_1 : Bool), v14 = .bool x14_1 ∧ Aside0 (impl_DiskOk.j0 kq l0_0 x14_1 l0_0 l0_1 = some r) ∧ Aside0 (kq ≤ k) ∧ Aside0 (wc.heap[gb321]? = some (.cells #[(.slice A0_0 l0_0.length c0_0), (.slice A0_1 l0_1.length c0_1)] 31 (0, 0))) ∧ Aside0 (Below w.heap.size w wc))
 case first =>
  have H := HC2.out
  clear HC2
  by_cases c4 : ((l0_0.length : Int) % 64) = 0
  ·rw [if_pos c4] at H
   have c4b0 : (((l0_0.length : Int) % 64) == 0) = true := beq_iff_eq.mpr c4
   have c4b1 : (((l0_0.length : Int) % 64) != 0) = false := bne_eq_false_iff_eq.mpr c4
   clear c4
   (first | rw [c4b0] | (simp only [i64_w, i32_w]; rw [c4b0]) | skip)
   replace H := Option.bind_eq_some_iff.mp H
   obtain ⟨t322, A50, H⟩ := H
   replace H : ((impl_inRange.f t322 1 400).bind fun t323 => (impl_DiskOk.j0 k l0_0 (!t323) l0_0 l0_1)) = some r := H
   have A5 := Ak A50
   clear A50
   replace H := Option.bind_eq_some_iff.mp H
   obtain ⟨t323, A60, H⟩ := H
   replace H : (impl_DiskOk.j0 k l0_0 (!t323) l0_0 l0_1) = some r := H
   have A6 := Ak A60
   clear A60
   have H' := Ak H
   clear H
   have hcz7_0 : w3.cell? ⟨gb321, 0, none⟩ = some (.slice A0_0 l0_0.length c0_0) := (blk_cell BK321.out 0).trans rfl
   have hcz7_1 : w3.cell? ⟨gb321, 1, none⟩ = some (.slice A0_1 l0_1.length c0_1) := (blk_cell BK321.out 1).trans rfl
   have hfz7_0 := blk_frozen BK321.out 0
   have hfz7_1 := blk_frozen BK321.out 1
   go_wp2_with (first | (go_at_call 114; (with_reducible refine (impl_Disk_sectors.calls gb321 A0_0 c0_0 l0_0 t322 _ ?side1 A5.out).mono ?_); (case side1 => first | (go_simp; done) | exact (blk_cell (bq BK321.out) 0).trans rfl | (unfold World.cell?; (repeat rw [Below.heap_setCell _ ⟨gb325, _, none⟩ _ _ NB321_325.out]); rw [BK321.out]; rfl)); rintro e w' ⟨rfl, ⟨nd, rfl⟩⟩) | (go_at_call 101; (with_reducible refine (impl_inRange.calls t322 1 400 t323 _ A6.out).mono ?_); rintro e w' ⟨rfl, ⟨nd, rfl⟩⟩))
   go_meet
   case rel => exact ⟨_, (!t323), (by first | rfl | (simp; done) | (simp [*]; done)), H', ⟨by first | omega | exact Nat.le_refl _⟩, ⟨bq BK321.out⟩, ⟨bw1 HB.out GE321.out⟩⟩
  ·rw [if_neg c4] at H
   have c4b0 : (((l0_0.length : Int) % 64) == 0) = false := beq_eq_false_iff_ne.mpr c4
   have c4b1 : (((l0_0.length : Int) % 64) != 0) = true := bne_iff_ne.mpr c4
   (first | rw [c4b0] | (simp only [i64_w, i32_w]; rw [c4b0]) | skip)
   have H' := Ak H
   clear H
   have hcz8_0 : w3.cell? ⟨gb321, 0, none⟩ = some (.slice A0_0 l0_0.length c0_0) := (blk_cell BK321.out 0).trans rfl
   have hcz8_1 : w3.cell? ⟨gb321, 1, none⟩ = some (.slice A0_1 l0_1.length c0_1) := (blk_cell BK321.out 1).trans rfl
   have hfz8_0 := blk_frozen BK321.out 0
   have hfz8_1 := blk_frozen BK321.out 1
   go_wp2
   go_meet
   case rel => exact ⟨_, (true), (by first | rfl | (simp; done) | (simp [*]; done)), H', ⟨by first | omega | exact Nat.le_refl _⟩, ⟨bq BK321.out⟩, ⟨bw1 HB.out GE321.out⟩⟩
 case rest =>
  clear HC2
  try clear c4b0
  try clear c4b1
  obtain ⟨kq, x14_1, rfl, HA, HJ1, BK321, HB⟩ := hcut
  cases kq with
  | zero => exact absurd HA.out (by simp [impl_DiskOk.j0])
  | succ kj1 =>
   have H := HA.out
   clear HA
   simp only [impl_DiskOk.j0] at H
   by_cases c9 : x14_1 = true
   ·subst c9
    have H1 : (some false) = some r := by rw [if_pos rfl] at H; exact H
    clear H
    have H := H1
    clear H1
    obtain rfl := Option.some.inj H
    go_wp2
    go_ret
    exact ⟨by first | rfl | (simp [errW_none, errW_some] <;> rfl) | (simp [*, errW_none, errW_some] <;> rfl), bw1 HB.out GE321.out⟩
   ·replace c9 := Bool.eq_false_iff.mpr c9
    subst c9
    have H1 : (impl_DiskOk.l0 kj1 l0_0 l0_1 (l0_1.length : Int) 0) = some r := by rw [if_neg (show ¬ (false = true) by decide)] at H; exact H
    clear H
    have H := H1
    clear H1
    have H' := Ak H
    clear H
    have hcz10_0 : wc.cell? ⟨gb321, 0, none⟩ = some (.slice A0_0 l0_0.length c0_0) := (blk_cell BK321.out 0).trans rfl
    have hcz10_1 : wc.cell? ⟨gb321, 1, none⟩ = some (.slice A0_1 l0_1.length c0_1) := (blk_cell BK321.out 1).trans rfl
    have hfz10_0 := blk_frozen BK321.out 0
    have hfz10_1 := blk_frozen BK321.out 1
    go_wp2
    go_loopg [18] kj1 (fun kq v18 w' => ∃ (x18_2 : Int), v18 = .int .i64 x18_2 ∧ Aside0 (impl_DiskOk.l0 kq l0_0 l0_1 (l0_1.length : Int) x18_2 = some r) ∧ Aside0 (kq ≤ kj1) ∧ Aside0 (w'.heap[gb321]? = some (.cells #[(.slice A0_0 l0_0.length c0_0), (.slice A0_1 l0_1.length c0_1)] 31 (0, 0))) ∧ Aside0 (Below w.heap.size w w'))
    case atStart => exact ⟨(0), (by first | rfl | (simp; done) | (simp [*]; done)), H', ⟨Nat.le_refl _⟩, ⟨bq BK321.out⟩, ⟨bw1 HB.out GE321.out⟩⟩
    case round =>
     clear H'
     try clear c4b0
     try clear c4b1
     obtain ⟨x18_2, rfl, HA, HK2, BK321, HB⟩ := hrel
     cases gk with
     | zero => exact absurd HA.out (by simp [impl_DiskOk.l0])
     | succ k2 =>
      have H := HA.out
      clear HA
      simp only [impl_DiskOk.l0] at H
      by_cases c11 : x18_2 < (l0_1.length : Int)
      ·rw [if_pos c11] at H
       have c11b0 : decide (x18_2 < (l0_1.length : Int)) = true := decide_eq_true c11
       clear c11
       by_cases c12 : 0 ≤ x18_2
       ·rw [if_pos c12] at H
        have c12b0 : decide (0 ≤ x18_2) = true := decide_eq_true c12
        clear c12
        by_cases c13 : x18_2 < (l0_1.length : Int)
        ·rw [if_pos c13] at H
         have c13b0 : decide (x18_2 < (l0_1.length : Int)) = true := decide_eq_true c13
         clear c13
         replace H := Option.bind_eq_some_iff.mp H
         obtain ⟨t326, A140, H⟩ := H
         replace H : (if t326 = true then (if (((rd_T96 l0_1 x18_2).f1).length : Int) = 64 then (impl_DiskOk.l0 k2 l0_0 l0_1 (l0_1.length : Int) (wrap64 (x18_2 + 1))) else (some false)) else (some false)) = some r := H
         have A14 := Ak A140
         clear A140
         by_cases c15 : t326 = true
         ·subst c15
          have H1 : (if (((rd_T96 l0_1 x18_2).f1).length : Int) = 64 then (impl_DiskOk.l0 k2 l0_0 l0_1 (l0_1.length : Int) (wrap64 (x18_2 + 1))) else (some false)) = some r := by rw [if_pos rfl] at H; exact H
          clear H
          have H := H1
          clear H1
          by_cases c16 : (((rd_T96 l0_1 x18_2).f1).length : Int) = 64
          ·rw [if_pos c16] at H
           have c16b0 : ((((rd_T96 l0_1 x18_2).f1).length : Int) == 64) = true := beq_iff_eq.mpr c16
           have c16b1 : ((((rd_T96 l0_1 x18_2).f1).length : Int) != 64) = false := bne_eq_false_iff_eq.mpr c16
           clear c16
           have H' := Ak H
           clear H
           have p324 : 0 ≤ (x18_2 : Int) := of_decide_eq_true (by first | (with_reducible assumption) | assumption)
           have q324 : x18_2 < (l0_1.length : Int) := of_decide_eq_true (by first | (with_reducible assumption) | assumption)
           obtain ⟨ad324, A324_1, c324_1, e324, hx324_0, hx324_1, hl324_1, hi324_1⟩ := at_T96 HR0_1.out x18_2 p324 q324
           cases e324
           replace hx324_0 := (HB.out.cell (World.block_lt_of_cell? w _ hx324_0)).trans hx324_0
           replace hx324_1 := (HB.out.cell (World.block_lt_of_cell? w _ hx324_1)).trans hx324_1
           have HR324_1 := Ak hi324_1
           have HC324_1 := Ak hl324_1
           clear hi324_1 hl324_1
           replace p324 := eq_true p324
           replace q324 := eq_true q324
           go_wp2_with (first | ((with_reducible refine gate_dst (N := 4) rfl ?_); (try (refine gate_guard (by rfl) ?_; dsimp only)); refine box_event ?hg (N := 4) ?hd (cs := #[.int .i64 0, .slice none 0 0]) (t := 96) ?hr ?_; (case hd => rfl); (case hg => rfl); (case hr => first | (go_simp; done) | (go_simp; rfl)); intro gb325 hg w17 hbox hb; have n0_ := Ak (blk_below (g := gb321) (o := .cells #[.slice A0_0 l0_0.length c0_0, .slice (some ad324) l0_1.length c0_1] 31 (0, 0)) (bq BK321.out) hb); have n1_ := Ak (below_step (bw1 HB.out GE321.out) hb); have n2_ := Ak (hbox); have n3_ := Ak ((by rw [hg]; exact (below_size (bw1 HB.out GE321.out)) : w.heap.size ≤ gb325)); have n4_ := Ak ((by rw [hg]; exact (below_size (bw1 HB.out GE321.out)) : w.heap.size ≤ gb325)); have n5_ := Ak ((by rw [hg]; exact Nat.ne_of_lt (blk_lt (g := gb321) (o := .cells #[.slice A0_0 l0_0.length c0_0, .slice (some ad324) l0_1.length c0_1] 31 (0, 0)) (bq BK321.out)) : gb321 ≠ gb325)); have n6_ := Ak ((by rw [hg]; exact Nat.ne_of_gt (blk_lt (g := gb321) (o := .cells #[.slice A0_0 l0_0.length c0_0, .slice (some ad324) l0_1.length c0_1] 31 (0, 0)) (bq BK321.out)) : gb325 ≠ gb321)); clear BK321; clear HB; have BK321 := n0_; have HB := n1_; have BK325 := n2_; have GW325 := n3_; have GE325 := n4_; have NB321_325 := n5_; have NB325_321 := n6_; clear n0_ n1_ n2_ n3_ n4_ n5_ n6_; clear hb hbox hg; have hnb18 := NB325_321.out; have hnc18 := NB321_325.out; have hcz19_0 : w17.cell? ⟨gb325, 0, none⟩ = some (.int .i64 0) := (blk_cell BK325.out 0).trans rfl; have hcz19_1 : w17.cell? ⟨gb325, 1, none⟩ = some (.slice none 0 0) := (blk_cell BK325.out 1).trans rfl; have hfz19_0 := blk_frozen BK325.out 0; have hfz19_1 := blk_frozen BK325.out 1) | ((with_reducible refine gate_callee (f := 106) rfl ?_); refine goesL_ (some 24) rfl rfl Try.func106 (by kernel_rfl) rfl #[.pointer (some ⟨gb321, 0, none⟩), .int .i64 ((rd_T96 l0_1 x18_2).f0)] rfl gm ?_; (with_reducible refine (impl_Disk_isSector.calls gb321 A0_0 c0_0 l0_0 ((rd_T96 l0_1 x18_2).f0) true _ ?side1 A14.out).mono ?_); (case side1 => first | (go_simp; done) | exact (blk_cell (bq BK321.out) 0).trans rfl | (unfold World.cell?; (repeat rw [Below.heap_setCell _ ⟨gb325, _, none⟩ _ _ NB321_325.out]); rw [BK321.out]; rfl)); rintro e w' ⟨rfl, ⟨nd, rfl⟩⟩; refine ⟨_, rfl, ?_⟩))
           go_roundg k2
           case measure => have := HJ1.out; have := HK2.out; omega
           case rel => exact ⟨(wrap64 (x18_2 + 1)), (by first | rfl | (simp; done) | (simp [*]; done)), H', ⟨by have := HJ1.out; have := HK2.out; omega⟩, ⟨by (with_reducible repeat (first | refine blk_drewN ?_ _ | refine blk_drew ?_ | refine blk_alloc ?_ _)); refine blk_far ?_ NB321_325.out _; (with_reducible repeat (first | refine blk_drewN ?_ _ | refine blk_drew ?_ | refine blk_alloc ?_ _)); refine blk_far ?_ NB321_325.out _; (with_reducible repeat (first | refine blk_drewN ?_ _ | refine blk_drew ?_ | refine blk_alloc ?_ _)); exact BK321.out⟩, ⟨bw2 HB.out GE321.out GE325.out⟩⟩
          ·rw [if_neg c16] at H
           have c16b0 : ((((rd_T96 l0_1 x18_2).f1).length : Int) == 64) = false := beq_eq_false_iff_ne.mpr c16
           have c16b1 : ((((rd_T96 l0_1 x18_2).f1).length : Int) != 64) = true := bne_iff_ne.mpr c16
           obtain rfl := Option.some.inj H
           have p324 : 0 ≤ (x18_2 : Int) := of_decide_eq_true (by first | (with_reducible assumption) | assumption)
           have q324 : x18_2 < (l0_1.length : Int) := of_decide_eq_true (by first | (with_reducible assumption) | assumption)
           obtain ⟨ad324, A324_1, c324_1, e324, hx324_0, hx324_1, hl324_1, hi324_1⟩ := at_T96 HR0_1.out x18_2 p324 q324
           cases e324
           replace hx324_0 := (HB.out.cell (World.block_lt_of_cell? w _ hx324_0)).trans hx324_0
           replace hx324_1 := (HB.out.cell (World.block_lt_of_cell? w _ hx324_1)).trans hx324_1
           have HR324_1 := Ak hi324_1
           have HC324_1 := Ak hl324_1
           clear hi324_1 hl324_1
           replace p324 := eq_true p324
           replace q324 := eq_true q324
           go_wp2_with (first | ((with_reducible refine gate_dst (N := 4) rfl ?_); (try (refine gate_guard (by rfl) ?_; dsimp only)); refine box_event ?hg (N := 4) ?hd (cs := #[.int .i64 0, .slice none 0 0]) (t := 96) ?hr ?_; (case hd => rfl); (case hg => rfl); (case hr => first | (go_simp; done) | (go_simp; rfl)); intro gb325 hg w20 hbox hb; have n0_ := Ak (blk_below (g := gb321) (o := .cells #[.slice A0_0 l0_0.length c0_0, .slice (some ad324) l0_1.length c0_1] 31 (0, 0)) (bq BK321.out) hb); have n1_ := Ak (below_step (bw1 HB.out GE321.out) hb); have n2_ := Ak (hbox); have n3_ := Ak ((by rw [hg]; exact (below_size (bw1 HB.out GE321.out)) : w.heap.size ≤ gb325)); have n4_ := Ak ((by rw [hg]; exact (below_size (bw1 HB.out GE321.out)) : w.heap.size ≤ gb325)); have n5_ := Ak ((by rw [hg]; exact Nat.ne_of_lt (blk_lt (g := gb321) (o := .cells #[.slice A0_0 l0_0.length c0_0, .slice (some ad324) l0_1.length c0_1] 31 (0, 0)) (bq BK321.out)) : gb321 ≠ gb325)); have n6_ := Ak ((by rw [hg]; exact Nat.ne_of_gt (blk_lt (g := gb321) (o := .cells #[.slice A0_0 l0_0.length c0_0, .slice (some ad324) l0_1.length c0_1] 31 (0, 0)) (bq BK321.out)) : gb325 ≠ gb321)); clear BK321; clear HB; have BK321 := n0_; have HB := n1_; have BK325 := n2_; have GW325 := n3_; have GE325 := n4_; have NB321_325 := n5_; have NB325_321 := n6_; clear n0_ n1_ n2_ n3_ n4_ n5_ n6_; clear hb hbox hg; have hnb21 := NB325_321.out; have hnc21 := NB321_325.out; have hcz22_0 : w20.cell? ⟨gb325, 0, none⟩ = some (.int .i64 0) := (blk_cell BK325.out 0).trans rfl; have hcz22_1 : w20.cell? ⟨gb325, 1, none⟩ = some (.slice none 0 0) := (blk_cell BK325.out 1).trans rfl; have hfz22_0 := blk_frozen BK325.out 0; have hfz22_1 := blk_frozen BK325.out 1) | ((with_reducible refine gate_callee (f := 106) rfl ?_); refine goesL_ (some 24) rfl rfl Try.func106 (by kernel_rfl) rfl #[.pointer (some ⟨gb321, 0, none⟩), .int .i64 ((rd_T96 l0_1 x18_2).f0)] rfl gm ?_; (with_reducible refine (impl_Disk_isSector.calls gb321 A0_0 c0_0 l0_0 ((rd_T96 l0_1 x18_2).f0) true _ ?side1 A14.out).mono ?_); (case side1 => first | (go_simp; done) | exact (blk_cell (bq BK321.out) 0).trans rfl | (unfold World.cell?; (repeat rw [Below.heap_setCell _ ⟨gb325, _, none⟩ _ _ NB321_325.out]); rw [BK321.out]; rfl)); rintro e w' ⟨rfl, ⟨nd, rfl⟩⟩; refine ⟨_, rfl, ?_⟩))
           go_ret
           exact ⟨by first | rfl | (simp [errW_none, errW_some] <;> rfl) | (simp [*, errW_none, errW_some] <;> rfl), bw2 HB.out GE321.out GE325.out⟩
         ·replace c15 := Bool.eq_false_iff.mpr c15
          subst c15
          have H1 : (some false) = some r := by rw [if_neg (show ¬ (false = true) by decide)] at H; exact H
          clear H
          have H := H1
          clear H1
          obtain rfl := Option.some.inj H
          have p324 : 0 ≤ (x18_2 : Int) := of_decide_eq_true (by first | (with_reducible assumption) | assumption)
          have q324 : x18_2 < (l0_1.length : Int) := of_decide_eq_true (by first | (with_reducible assumption) | assumption)
          obtain ⟨ad324, A324_1, c324_1, e324, hx324_0, hx324_1, hl324_1, hi324_1⟩ := at_T96 HR0_1.out x18_2 p324 q324
          cases e324
          replace hx324_0 := (HB.out.cell (World.block_lt_of_cell? w _ hx324_0)).trans hx324_0
          replace hx324_1 := (HB.out.cell (World.block_lt_of_cell? w _ hx324_1)).trans hx324_1
          have HR324_1 := Ak hi324_1
          have HC324_1 := Ak hl324_1
          clear hi324_1 hl324_1
          replace p324 := eq_true p324
          replace q324 := eq_true q324
          go_wp2_with (first | ((with_reducible refine gate_dst (N := 4) rfl ?_); (try (refine gate_guard (by rfl) ?_; dsimp only)); refine box_event ?hg (N := 4) ?hd (cs := #[.int .i64 0, .slice none 0 0]) (t := 96) ?hr ?_; (case hd => rfl); (case hg => rfl); (case hr => first | (go_simp; done) | (go_simp; rfl)); intro gb325 hg w23 hbox hb; have n0_ := Ak (blk_below (g := gb321) (o := .cells #[.slice A0_0 l0_0.length c0_0, .slice (some ad324) l0_1.length c0_1] 31 (0, 0)) (bq BK321.out) hb); have n1_ := Ak (below_step (bw1 HB.out GE321.out) hb); have n2_ := Ak (hbox); have n3_ := Ak ((by rw [hg]; exact (below_size (bw1 HB.out GE321.out)) : w.heap.size ≤ gb325)); have n4_ := Ak ((by rw [hg]; exact (below_size (bw1 HB.out GE321.out)) : w.heap.size ≤ gb325)); have n5_ := Ak ((by rw [hg]; exact Nat.ne_of_lt (blk_lt (g := gb321) (o := .cells #[.slice A0_0 l0_0.length c0_0, .slice (some ad324) l0_1.length c0_1] 31 (0, 0)) (bq BK321.out)) : gb321 ≠ gb325)); have n6_ := Ak ((by rw [hg]; exact Nat.ne_of_gt (blk_lt (g := gb321) (o := .cells #[.slice A0_0 l0_0.length c0_0, .slice (some ad324) l0_1.length c0_1] 31 (0, 0)) (bq BK321.out)) : gb325 ≠ gb321)); clear BK321; clear HB; have BK321 := n0_; have HB := n1_; have BK325 := n2_; have GW325 := n3_; have GE325 := n4_; have NB321_325 := n5_; have NB325_321 := n6_; clear n0_ n1_ n2_ n3_ n4_ n5_ n6_; clear hb hbox hg; have hnb24 := NB325_321.out; have hnc24 := NB321_325.out; have hcz25_0 : w23.cell? ⟨gb325, 0, none⟩ = some (.int .i64 0) := (blk_cell BK325.out 0).trans rfl; have hcz25_1 : w23.cell? ⟨gb325, 1, none⟩ = some (.slice none 0 0) := (blk_cell BK325.out 1).trans rfl; have hfz25_0 := blk_frozen BK325.out 0; have hfz25_1 := blk_frozen BK325.out 1) | ((with_reducible refine gate_callee (f := 106) rfl ?_); refine goesL_ (some 24) rfl rfl Try.func106 (by kernel_rfl) rfl #[.pointer (some ⟨gb321, 0, none⟩), .int .i64 ((rd_T96 l0_1 x18_2).f0)] rfl gm ?_; (with_reducible refine (impl_Disk_isSector.calls gb321 A0_0 c0_0 l0_0 ((rd_T96 l0_1 x18_2).f0) false _ ?side1 A14.out).mono ?_); (case side1 => first | (go_simp; done) | exact (blk_cell (bq BK321.out) 0).trans rfl | (unfold World.cell?; (repeat rw [Below.heap_setCell _ ⟨gb325, _, none⟩ _ _ NB321_325.out]); rw [BK321.out]; rfl)); rintro e w' ⟨rfl, ⟨nd, rfl⟩⟩; refine ⟨_, rfl, ?_⟩))
          go_ret
          exact ⟨by first | rfl | (simp [errW_none, errW_some] <;> rfl) | (simp [*, errW_none, errW_some] <;> rfl), bw2 HB.out GE321.out GE325.out⟩
        ·rw [if_neg c13] at H
         exact absurd H (by simp)
       ·rw [if_neg c12] at H
        exact absurd H (by simp)
      ·rw [if_neg c11] at H
       have c11b0 : decide (x18_2 < (l0_1.length : Int)) = false := decide_eq_false c11
       clear c11
       obtain rfl := Option.some.inj H
       go_wp2
       go_ret
       exact ⟨by first | rfl | (simp [errW_none, errW_some] <;> rfl) | (simp [*, errW_none, errW_some] <;> rfl), bw1 HB.out GE321.out⟩

def impl_canOpen.f (k : Nat) (l0_0 : List Int) (l0_1 : List (S96)) (a1 : Int) (a2 : Int) : Option (Bool) := if a1 ≥ 0 then (if a1 ≤ a2 then ((impl_Disk_isSector.f l0_0 a2).bind fun t329 => (if t329 = true then ((impl_DiskOk.f k l0_0 l0_1).bind fun t330 => (some t330)) else (some false))) else (some false)) else (some false)
set_option maxHeartbeats 8000000 in
set_option maxRecDepth 100000 in
theorem impl_canOpen.calls (k : Nat) (A0_0 : Option Addr) (c0_0 : Nat) (l0_0 : List Int) (A0_1 : Option Addr) (c0_1 : Nat) (l0_1 : List (S96)) (a1 : Int) (a2 : Int) (r : Bool) (w : World) (hr0_0 : Kd.C (Kd.int .u8) w A0_0 l0_0.length l0_0) (hc0_0 : l0_0.length ≤ c0_0) (hr0_1 : Kd.C k96 w A0_1 l0_1.length l0_1) (hc0_1 : l0_1.length ≤ c0_1) (h : impl_canOpen.f k l0_0 l0_1 a1 a2 = some r) :
  Calls Try.prog 59 #[.agg #[.slice A0_0 l0_0.length c0_0, .slice A0_1 l0_1.length c0_1], .int .i64 a1, .int .i64 a2] w fun e w' => e = .returned (.bool r) ∧ Below w.heap.size w w' := by
 have hu31 := Try.underlying31
 have HR0_0 := Ak hr0_0
 have HC0_0 := Ak hc0_0
 clear hr0_0 hc0_0
 have HR0_1 := Ak hr0_1
 have HC0_1 := Ak hc0_1
 clear hr0_1 hc0_1
 have HB := Ak (Below.refl w.heap.size w)
 have H : (if a1 ≥ 0 then (if a1 ≤ a2 then ((impl_Disk_isSector.f l0_0 a2).bind fun t329 => (if t329 = true then ((impl_DiskOk.f k l0_0 l0_1).bind fun t330 => (some t330)) else (some false))) else (some false)) else (some false)) = some r := h
 clear h
 by_cases c4 : a1 ≥ 0
 ·rw [if_pos c4] at H
  have c4b0 : decide (0 ≤ a1) = true := decide_eq_true c4
  clear c4
  by_cases c5 : a1 ≤ a2
  ·rw [if_pos c5] at H
   have c5b0 : decide (a1 ≤ a2) = true := decide_eq_true c5
   clear c5
   replace H := Option.bind_eq_some_iff.mp H
   obtain ⟨t329, A60, H⟩ := H
   replace H : (if t329 = true then ((impl_DiskOk.f k l0_0 l0_1).bind fun t330 => (some t330)) else (some false)) = some r := H
   have A6 := Ak A60
   clear A60
   by_cases c7 : t329 = true
   ·subst c7
    have H1 : ((impl_DiskOk.f k l0_0 l0_1).bind fun t330 => (some t330)) = some r := by rw [if_pos rfl] at H; exact H
    clear H
    have H := H1
    clear H1
    replace H := Option.bind_eq_some_iff.mp H
    obtain ⟨t330, A80, H⟩ := H
    replace H : (some t330) = some r := H
    have A8 := Ak A80
    clear A80
    obtain rfl := Option.some.inj H
    go_enter Try.func59, Try.ntmps59
    go_wp2_with (first | ((with_reducible refine gate_dst (N := 3) rfl ?_); refine box_event ?hg (N := 3) ?hd (cs := #[.slice A0_0 l0_0.length c0_0, .slice A0_1 l0_1.length c0_1]) (t := 31) ?hr ?_; (case hd => rfl); (case hg => rfl); (case hr => first | (go_simp; done) | (go_simp; rfl)); intro gb328 hg w9 hbox hb; have n0_ := Ak (below_step (bw HB.out) hb); have n1_ := Ak (hbox); have n2_ := Ak ((by rw [hg]; exact (below_size (bw HB.out)) : w.heap.size ≤ gb328)); have n3_ := Ak ((by rw [hg]; exact (below_size (bw HB.out)) : w.heap.size ≤ gb328)); clear HB; have HB := n0_; have BK328 := n1_; have GW328 := n2_; have GE328 := n3_; clear n0_ n1_ n2_ n3_; clear hb hbox hg) | (go_at_call 106; (with_reducible refine (impl_Disk_isSector.callsB gb328 A0_0 c0_0 l0_0 a2 true _ ?side1 A6.out).mono ?_); (case side1 => first | (go_simp; done) | exact (blk_cell (bq BK328.out) 0).trans rfl); rintro e w10 ⟨rfl, hb⟩; have n0_ := Ak (blk_below (g := gb328) (o := .cells #[.slice A0_0 l0_0.length c0_0, .slice A0_1 l0_1.length c0_1] 31 (0, 0)) (bq BK328.out) hb); have n1_ := Ak (below_step (bw1 HB.out GE328.out) hb); clear BK328; clear HB; have BK328 := n0_; have HB := n1_; clear n0_ n1_; have hcz11_0 : w10.cell? ⟨gb328, 0, none⟩ = some (.slice A0_0 l0_0.length c0_0) := (blk_cell BK328.out 0).trans rfl; have hcz11_1 : w10.cell? ⟨gb328, 1, none⟩ = some (.slice A0_1 l0_1.length c0_1) := (blk_cell BK328.out 1).trans rfl; have hfz11_0 := blk_frozen BK328.out 0; have hfz11_1 := blk_frozen BK328.out 1) | (go_at_call 67; (with_reducible refine (impl_DiskOk.calls k _ _ l0_0 _ _ l0_1 t330 _ ?side1 ?side2 ?side3 ?side4 A8.out).mono ?_); (case side1 => repeat (first | exact (Kd.C_below HR0_0.out HB.out) | (with_reducible refine Kd.C_alloc ?_ _) | (with_reducible refine Kd.C_drewN ?_ _) | (with_reducible refine Kd.C_drew ?_))); (case side2 => exact HC0_0.out); (case side3 => repeat (first | exact (Kd.C_below HR0_1.out HB.out) | (with_reducible refine Kd.C_alloc ?_ _) | (with_reducible refine Kd.C_drewN ?_ _) | (with_reducible refine Kd.C_drew ?_))); (case side4 => exact HC0_1.out); rintro e w12 ⟨rfl, hb⟩; have n0_ := Ak (blk_below (g := gb328) (o := .cells #[.slice A0_0 l0_0.length c0_0, .slice A0_1 l0_1.length c0_1] 31 (0, 0)) (bq BK328.out) hb); have n1_ := Ak (below_step (bw1 HB.out GE328.out) hb); clear BK328; clear HB; have BK328 := n0_; have HB := n1_; clear n0_ n1_))
    go_ret
    exact ⟨by first | rfl | (simp [errW_none, errW_some] <;> rfl) | (simp [*, errW_none, errW_some] <;> rfl), bw1 HB.out GE328.out⟩
   ·replace c7 := Bool.eq_false_iff.mpr c7
    subst c7
    have H1 : (some false) = some r := by rw [if_neg (show ¬ (false = true) by decide)] at H; exact H
    clear H
    have H := H1
    clear H1
    obtain rfl := Option.some.inj H
    go_enter Try.func59, Try.ntmps59
    go_wp2_with (first | ((with_reducible refine gate_dst (N := 3) rfl ?_); refine box_event ?hg (N := 3) ?hd (cs := #[.slice A0_0 l0_0.length c0_0, .slice A0_1 l0_1.length c0_1]) (t := 31) ?hr ?_; (case hd => rfl); (case hg => rfl); (case hr => first | (go_simp; done) | (go_simp; rfl)); intro gb328 hg w13 hbox hb; have n0_ := Ak (below_step (bw HB.out) hb); have n1_ := Ak (hbox); have n2_ := Ak ((by rw [hg]; exact (below_size (bw HB.out)) : w.heap.size ≤ gb328)); have n3_ := Ak ((by rw [hg]; exact (below_size (bw HB.out)) : w.heap.size ≤ gb328)); clear HB; have HB := n0_; have BK328 := n1_; have GW328 := n2_; have GE328 := n3_; clear n0_ n1_ n2_ n3_; clear hb hbox hg) | (go_at_call 106; (with_reducible refine (impl_Disk_isSector.callsB gb328 A0_0 c0_0 l0_0 a2 false _ ?side1 A6.out).mono ?_); (case side1 => first | (go_simp; done) | exact (blk_cell (bq BK328.out) 0).trans rfl); rintro e w14 ⟨rfl, hb⟩; have n0_ := Ak (blk_below (g := gb328) (o := .cells #[.slice A0_0 l0_0.length c0_0, .slice A0_1 l0_1.length c0_1] 31 (0, 0)) (bq BK328.out) hb); have n1_ := Ak (below_step (bw1 HB.out GE328.out) hb); clear BK328; clear HB; have BK328 := n0_; have HB := n1_; clear n0_ n1_))
    go_ret
    exact ⟨by first | rfl | (simp [errW_none, errW_some] <;> rfl) | (simp [*, errW_none, errW_some] <;> rfl), bw1 HB.out GE328.out⟩
  ·rw [if_neg c5] at H
   have c5b0 : decide (a1 ≤ a2) = false := decide_eq_false c5
   clear c5
   obtain rfl := Option.some.inj H
   go_enter Try.func59, Try.ntmps59
   go_wp2_with (first | ((with_reducible refine gate_dst (N := 3) rfl ?_); refine box_event ?hg (N := 3) ?hd (cs := #[.slice A0_0 l0_0.length c0_0, .slice A0_1 l0_1.length c0_1]) (t := 31) ?hr ?_; (case hd => rfl); (case hg => rfl); (case hr => first | (go_simp; done) | (go_simp; rfl)); intro gb328 hg w15 hbox hb; have n0_ := Ak (below_step (bw HB.out) hb); have n1_ := Ak (hbox); have n2_ := Ak ((by rw [hg]; exact (below_size (bw HB.out)) : w.heap.size ≤ gb328)); have n3_ := Ak ((by rw [hg]; exact (below_size (bw HB.out)) : w.heap.size ≤ gb328)); clear HB; have HB := n0_; have BK328 := n1_; have GW328 := n2_; have GE328 := n3_; clear n0_ n1_ n2_ n3_; clear hb hbox hg))
   go_ret
   exact ⟨by first | rfl | (simp [errW_none, errW_some] <;> rfl) | (simp [*, errW_none, errW_some] <;> rfl), bw1 HB.out GE328.out⟩
 ·rw [if_neg c4] at H
  have c4b0 : decide (0 ≤ a1) = false := decide_eq_false c4
  clear c4
  obtain rfl := Option.some.inj H
  go_enter Try.func59, Try.ntmps59
  go_wp2_with (first | ((with_reducible refine gate_dst (N := 3) rfl ?_); refine box_event ?hg (N := 3) ?hd (cs := #[.slice A0_0 l0_0.length c0_0, .slice A0_1 l0_1.length c0_1]) (t := 31) ?hr ?_; (case hd => rfl); (case hg => rfl); (case hr => first | (go_simp; done) | (go_simp; rfl)); intro gb328 hg w16 hbox hb; have n0_ := Ak (below_step (bw HB.out) hb); have n1_ := Ak (hbox); have n2_ := Ak ((by rw [hg]; exact (below_size (bw HB.out)) : w.heap.size ≤ gb328)); have n3_ := Ak ((by rw [hg]; exact (below_size (bw HB.out)) : w.heap.size ≤ gb328)); clear HB; have HB := n0_; have BK328 := n1_; have GW328 := n2_; have GE328 := n3_; clear n0_ n1_ n2_ n3_; clear hb hbox hg))
  go_ret
  exact ⟨by first | rfl | (simp [errW_none, errW_some] <;> rfl) | (simp [*, errW_none, errW_some] <;> rfl), bw1 HB.out GE328.out⟩

end Go.Proofs.Ytgmnphckgicadaa.PFnExactLogOpen

