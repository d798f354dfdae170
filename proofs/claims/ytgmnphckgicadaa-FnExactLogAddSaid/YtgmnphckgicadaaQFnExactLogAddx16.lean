/- Functions that the law reaches, with their contracts. -/
import Derived.Test.YtgmnphckgicadaaQFnExactLogAddx15
namespace Go.Proofs.Ytgmnphckgicadaa.PFnExactLogAdd
open Go.RowKit Go.Proofs.YtgmnphckgicadaaW.PrintWords Go.Proofs.YtgmnphckgicadaaW.PrintLast Go.Proofs.YtgmnphckgicadaaW.PrintMore
attribute [local go_sem] max2_int min2_int max_two min_two max_three min_three max_four min_four
set_option linter.unusedVariables false
set_option linter.unusedSimpArgs false

def impl_sector_bytes.f (k : Nat) (a0_0 : Int) (a0_1 : Int) (a0_2 : Int) (l0_3 : List Int) : Option (List Int) := (impl_putLow.f k ([] : List Int) a0_0 4).bind fun t300 => ((impl_putLow.f k t300 a0_1 4).bind fun t303 => ((some (([a0_2, ((l0_3.length : Int)) % 256] : List Int) : List Int)).bind fun y306 => (if t303.length + y306.length < 140737488355328 then ((some (t303 ++ y306 : List Int)).bind fun y309 => (if 0 ≤ (wrap64 (16 - (y309.length : Int))) then (if y309.length + (wrap64 (16 - (y309.length : Int)) : Int).toNat < 140737488355328 then ((some (y309 ++ List.replicate (wrap64 (16 - (y309.length : Int)) : Int).toNat 0 : List Int)).bind fun y312 => (if y312.length + l0_3.length < 140737488355328 then ((some (y312 ++ l0_3 : List Int)).bind fun y315 => (if 0 ≤ (wrap64 (60 - (y315.length : Int))) then (if y315.length + (wrap64 (60 - (y315.length : Int)) : Int).toNat < 140737488355328 then ((some (y315 ++ List.replicate (wrap64 (60 - (y315.length : Int)) : Int).toNat 0 : List Int)).bind fun y318 => ((impl_sumOf.f k y318).bind fun t321 => ((impl_putLow.f k y318 t321 4).bind fun t322 => (some t322)))) else (none)) else (none))) else (none))) else (none)) else (none))) else (none))))
set_option maxHeartbeats 8000000 in
set_option maxRecDepth 100000 in
theorem impl_sector_bytes.calls (k : Nat) (a0_0 : Int) (a0_1 : Int) (a0_2 : Int) (A0_3 : Option Addr) (c0_3 : Nat) (l0_3 : List Int) (r : List Int) (w : World) (hr0_3 : Kd.C (Kd.int .u8) w A0_3 l0_3.length l0_3) (hc0_3 : l0_3.length ≤ c0_3) (h : impl_sector_bytes.f k a0_0 a0_1 a0_2 l0_3 = some r) :
  Calls Try.prog 66 #[.agg #[.int .i64 a0_0, .int .i64 a0_1, .int .u8 a0_2, .slice A0_3 l0_3.length c0_3]] w fun e w' => ∃ v0_ : Value, e = .returned (v0_) ∧ Kd.R (Kd.int .u8) 5 w' w.heap.size (fun _ => True) v0_ r ∧ Below w.heap.size w w' := by
 have hu93 := Try.underlying93
 have HR0_3 := Ak hr0_3
 have HC0_3 := Ak hc0_3
 clear hr0_3 hc0_3
 have HB := Ak (Below.refl w.heap.size w)
 have H : ((impl_putLow.f k ([] : List Int) a0_0 4).bind fun t300 => ((impl_putLow.f k t300 a0_1 4).bind fun t303 => ((some (([a0_2, ((l0_3.length : Int)) % 256] : List Int) : List Int)).bind fun y306 => (if t303.length + y306.length < 140737488355328 then ((some (t303 ++ y306 : List Int)).bind fun y309 => (if 0 ≤ (wrap64 (16 - (y309.length : Int))) then (if y309.length + (wrap64 (16 - (y309.length : Int)) : Int).toNat < 140737488355328 then ((some (y309 ++ List.replicate (wrap64 (16 - (y309.length : Int)) : Int).toNat 0 : List Int)).bind fun y312 => (if y312.length + l0_3.length < 140737488355328 then ((some (y312 ++ l0_3 : List Int)).bind fun y315 => (if 0 ≤ (wrap64 (60 - (y315.length : Int))) then (if y315.length + (wrap64 (60 - (y315.length : Int)) : Int).toNat < 140737488355328 then ((some (y315 ++ List.replicate (wrap64 (60 - (y315.length : Int)) : Int).toNat 0 : List Int)).bind fun y318 => ((impl_sumOf.f k y318).bind fun t321 => ((impl_putLow.f k y318 t321 4).bind fun t322 => (some t322)))) else (none)) else (none))) else (none))) else (none)) else (none))) else (none))))) = some r := h
 clear h
 replace H := Option.bind_eq_some_iff.mp H
 obtain ⟨t300, A20, H⟩ := H
 have A2 := Ak A20
 clear A20
 replace H := Option.bind_eq_some_iff.mp H
 obtain ⟨t303, A30, H⟩ := H
 have A3 := Ak A30
 clear A30
 obtain ⟨y306, hy306⟩ : ∃ y_ : List Int, y_ = (([a0_2, ((l0_3.length : Int)) % 256] : List Int)) := ⟨_, rfl⟩
 replace H : (if t303.length + y306.length < 140737488355328 then ((some (t303 ++ y306 : List Int)).bind fun y309 => (if 0 ≤ (wrap64 (16 - (y309.length : Int))) then (if y309.length + (wrap64 (16 - (y309.length : Int)) : Int).toNat < 140737488355328 then ((some (y309 ++ List.replicate (wrap64 (16 - (y309.length : Int)) : Int).toNat 0 : List Int)).bind fun y312 => (if y312.length + l0_3.length < 140737488355328 then ((some (y312 ++ l0_3 : List Int)).bind fun y315 => (if 0 ≤ (wrap64 (60 - (y315.length : Int))) then (if y315.length + (wrap64 (60 - (y315.length : Int)) : Int).toNat < 140737488355328 then ((some (y315 ++ List.replicate (wrap64 (60 - (y315.length : Int)) : Int).toNat 0 : List Int)).bind fun y318 => ((impl_sumOf.f k y318).bind fun t321 => ((impl_putLow.f k y318 t321 4).bind fun t322 => (some t322)))) else (none)) else (none))) else (none))) else (none)) else (none))) else (none)) = some r := by first | (rw [hy306]; with_reducible exact H) | (have H2_ := (Option.bind_some _ _).symm.trans H; rw [hy306]; with_reducible exact H2_) | (have H2_ := (Option.bind_some _ _).symm.trans H; with_reducible exact H2_) | with_reducible exact H | (rw [hy306]; exact H) | exact H
 have Ny306 := Ak hy306
 clear hy306
 by_cases c4 : t303.length + y306.length < 140737488355328
 ·rw [if_pos c4] at H
  have LMc4 := Ak c4
  clear c4
  obtain ⟨y309, hy309⟩ : ∃ y_ : List Int, y_ = (t303 ++ y306) := ⟨_, rfl⟩
  replace H : (if 0 ≤ (wrap64 (16 - (y309.length : Int))) then (if y309.length + (wrap64 (16 - (y309.length : Int)) : Int).toNat < 140737488355328 then ((some (y309 ++ List.replicate (wrap64 (16 - (y309.length : Int)) : Int).toNat 0 : List Int)).bind fun y312 => (if y312.length + l0_3.length < 140737488355328 then ((some (y312 ++ l0_3 : List Int)).bind fun y315 => (if 0 ≤ (wrap64 (60 - (y315.length : Int))) then (if y315.length + (wrap64 (60 - (y315.length : Int)) : Int).toNat < 140737488355328 then ((some (y315 ++ List.replicate (wrap64 (60 - (y315.length : Int)) : Int).toNat 0 : List Int)).bind fun y318 => ((impl_sumOf.f k y318).bind fun t321 => ((impl_putLow.f k y318 t321 4).bind fun t322 => (some t322)))) else (none)) else (none))) else (none))) else (none)) else (none)) = some r := by first | (rw [hy309]; with_reducible exact H) | (have H2_ := (Option.bind_some _ _).symm.trans H; rw [hy309]; with_reducible exact H2_) | (have H2_ := (Option.bind_some _ _).symm.trans H; with_reducible exact H2_) | with_reducible exact H | (rw [hy309]; exact H) | exact H
  have Ny309 := Ak hy309
  clear hy309
  obtain ⟨ji5, hji5⟩ : ∃ j_ : Int, (wrap64 (16 - (y309.length : Int))) = j_ := ⟨_, rfl⟩
  replace H : (if 0 ≤ (ji5) then (if y309.length + (ji5 : Int).toNat < 140737488355328 then ((some (y309 ++ List.replicate (ji5 : Int).toNat 0 : List Int)).bind fun y312 => (if y312.length + l0_3.length < 140737488355328 then ((some (y312 ++ l0_3 : List Int)).bind fun y315 => (if 0 ≤ (wrap64 (60 - (y315.length : Int))) then (if y315.length + (wrap64 (60 - (y315.length : Int)) : Int).toNat < 140737488355328 then ((some (y315 ++ List.replicate (wrap64 (60 - (y315.length : Int)) : Int).toNat 0 : List Int)).bind fun y318 => ((impl_sumOf.f k y318).bind fun t321 => ((impl_putLow.f k y318 t321 4).bind fun t322 => (some t322)))) else (none)) else (none))) else (none))) else (none)) else (none)) = some r := by first | (rw [hji5] at H; exact H) | (simp only [hji5] at H ⊢; exact H)
  (try rw [hji5] at A2)
  (try rw [hji5] at A3)
  have hji5w : (IntKind.i64.wrap (16 - (y309.length : Int))) = ji5 := (i64_w _).trans hji5
  by_cases c6 : 0 ≤ (ji5)
  ·rw [if_pos c6] at H
   have c6b0 := eq_true c6
   have c6b1 : decide (0 ≤ (ji5)) = true := decide_eq_true c6
   clear c6
   by_cases c7 : y309.length + (ji5 : Int).toNat < 140737488355328
   ·rw [if_pos c7] at H
    have LMc7 := Ak c7
    clear c7
    obtain ⟨y312, hy312⟩ : ∃ y_ : List Int, y_ = (y309 ++ List.replicate (ji5 : Int).toNat 0) := ⟨_, rfl⟩
    replace H : (if y312.length + l0_3.length < 140737488355328 then ((some (y312 ++ l0_3 : List Int)).bind fun y315 => (if 0 ≤ (wrap64 (60 - (y315.length : Int))) then (if y315.length + (wrap64 (60 - (y315.length : Int)) : Int).toNat < 140737488355328 then ((some (y315 ++ List.replicate (wrap64 (60 - (y315.length : Int)) : Int).toNat 0 : List Int)).bind fun y318 => ((impl_sumOf.f k y318).bind fun t321 => ((impl_putLow.f k y318 t321 4).bind fun t322 => (some t322)))) else (none)) else (none))) else (none)) = some r := by first | (rw [hy312]; with_reducible exact H) | (have H2_ := (Option.bind_some _ _).symm.trans H; rw [hy312]; with_reducible exact H2_) | (have H2_ := (Option.bind_some _ _).symm.trans H; with_reducible exact H2_) | with_reducible exact H | (rw [hy312]; exact H) | exact H
    have Ny312 := Ak hy312
    clear hy312
    by_cases c8 : y312.length + l0_3.length < 140737488355328
    ·rw [if_pos c8] at H
     have LMc8 := Ak c8
     clear c8
     obtain ⟨y315, hy315⟩ : ∃ y_ : List Int, y_ = (y312 ++ l0_3) := ⟨_, rfl⟩
     replace H : (if 0 ≤ (wrap64 (60 - (y315.length : Int))) then (if y315.length + (wrap64 (60 - (y315.length : Int)) : Int).toNat < 140737488355328 then ((some (y315 ++ List.replicate (wrap64 (60 - (y315.length : Int)) : Int).toNat 0 : List Int)).bind fun y318 => ((impl_sumOf.f k y318).bind fun t321 => ((impl_putLow.f k y318 t321 4).bind fun t322 => (some t322)))) else (none)) else (none)) = some r := by first | (rw [hy315]; with_reducible exact H) | (have H2_ := (Option.bind_some _ _).symm.trans H; rw [hy315]; with_reducible exact H2_) | (have H2_ := (Option.bind_some _ _).symm.trans H; with_reducible exact H2_) | with_reducible exact H | (rw [hy315]; exact H) | exact H
     have Ny315 := Ak hy315
     clear hy315
     obtain ⟨ji9, hji9⟩ : ∃ j_ : Int, (wrap64 (60 - (y315.length : Int))) = j_ := ⟨_, rfl⟩
     replace H : (if 0 ≤ (ji9) then (if y315.length + (ji9 : Int).toNat < 140737488355328 then ((some (y315 ++ List.replicate (ji9 : Int).toNat 0 : List Int)).bind fun y318 => ((impl_sumOf.f k y318).bind fun t321 => ((impl_putLow.f k y318 t321 4).bind fun t322 => (some t322)))) else (none)) else (none)) = some r := by first | (rw [hji9] at H; exact H) | (simp only [hji9] at H ⊢; exact H)
     (try rw [hji9] at A2)
     (try rw [hji9] at A3)
     have hji9w : (IntKind.i64.wrap (60 - (y315.length : Int))) = ji9 := (i64_w _).trans hji9
     by_cases c10 : 0 ≤ (ji9)
     ·rw [if_pos c10] at H
      have c10b0 := eq_true c10
      have c10b1 : decide (0 ≤ (ji9)) = true := decide_eq_true c10
      clear c10
      by_cases c11 : y315.length + (ji9 : Int).toNat < 140737488355328
      ·rw [if_pos c11] at H
       have LMc11 := Ak c11
       clear c11
       obtain ⟨y318, hy318⟩ : ∃ y_ : List Int, y_ = (y315 ++ List.replicate (ji9 : Int).toNat 0) := ⟨_, rfl⟩
       replace H : ((impl_sumOf.f k y318).bind fun t321 => ((impl_putLow.f k y318 t321 4).bind fun t322 => (some t322))) = some r := by first | (rw [hy318]; with_reducible exact H) | (have H2_ := (Option.bind_some _ _).symm.trans H; rw [hy318]; with_reducible exact H2_) | (have H2_ := (Option.bind_some _ _).symm.trans H; with_reducible exact H2_) | with_reducible exact H | (rw [hy318]; exact H) | exact H
       have Ny318 := Ak hy318
       clear hy318
       replace H := Option.bind_eq_some_iff.mp H
       obtain ⟨t321, A120, H⟩ := H
       have A12 := Ak A120
       clear A120
       replace H := Option.bind_eq_some_iff.mp H
       obtain ⟨t322, A130, H⟩ := H
       have A13 := Ak A130
       clear A130
       obtain rfl := Option.some.inj H
       go_enter Try.func66, Try.ntmps66
       try go_wp2_with (first | ((with_reducible refine gate_dst (N := 1) rfl ?_); refine box_event ?hg (N := 1) ?hd (cs := #[.int .i64 a0_0, .int .i64 a0_1, .int .u8 a0_2, .slice A0_3 l0_3.length c0_3]) (t := 93) ?hr ?_; (case hd => rfl); (case hg => rfl); (case hr => first | (go_simp; done) | (go_simp; rfl)); intro gb299 hg w14 hbox hb; have BK299 := Ak (hbox); have GW299 := Ak (zb hg (bw HB.out)); have GE299 := Ak (zb hg (bw HB.out)); replace HB := Ak (below_step (bw HB.out) hb); clear hb hbox hg))
       replace BK299 := Ak (blk_drew BK299.out)
       replace HB := Ak (below_drew1 HB.out)
       refine start_ (n := 7) (S := fun w' => w'.cell? ⟨gb299, 0, none⟩ = some (.int .i64 a0_0) ∧ w'.cell? ⟨gb299, 1, none⟩ = some (.int .i64 a0_1) ∧ w'.cell? ⟨gb299, 2, none⟩ = some (.int .u8 a0_2) ∧ w'.cell? ⟨gb299, 3, none⟩ = some (.slice A0_3 l0_3.length c0_3)) (ds := []) #[false, false, false, false, false, false, false] (by kernel_rfl) rfl rfl ⟨zk0 BK299.out, zk1 BK299.out, zk2 BK299.out, zk3 BK299.out⟩ (fun hHeld => ?_)
       generalize w14.drew = w15 at BK299 HB hHeld ⊢
       refine pure_ (i := 0) (N := some 4) (v := ?_) (a' := ?_) #[true, false, false, false, false, false, false] rfl rfl (by kernel_rfl) (fun _ _ _ h => h) (Or.inl ⟨by rfl, ?_⟩) ?_ ?_
       rotate_left
       ·intro w'
        go_simp
        with_reducible rfl
       rotate_left
       ·simp only [Act.put, sT, sZ, sS, i64_w, i32_w]
        rfl
       refine pure_ (i := 3) (N := some 7) (v := ?_) (a' := ?_) #[true, false, false, true, false, false, false] rfl rfl (by kernel_rfl) (fun _ _ _ h => h) (Or.inl ⟨by rfl, ?_⟩) ?_ ?_
       rotate_left
       ·intro w'
        go_simp
        with_reducible rfl
       rotate_left
       ·simp only [Act.put, sT, sZ, sS, i64_w, i32_w]
        rfl
       refine take_ (i := 1) (N := some 5) (v := ?_) (a' := ?_) #[true, true, false, true, false, false, false] rfl rfl (by kernel_rfl) (fun _ _ _ h => h) (Or.inl ⟨by rfl, ?_⟩) hHeld ?_ ?_
       rotate_left
       ·rintro w' ⟨s0, s1, s2, s3⟩
        go_simp
        with_reducible rfl
       rotate_left
       ·simp only [Act.put, sT, sZ, sS, i64_w, i32_w]
        rfl
       refine take_ (i := 4) (N := some 8) (v := ?_) (a' := ?_) #[true, true, false, true, true, false, false] rfl rfl (by kernel_rfl) (fun _ _ _ h => h) (Or.inl ⟨by rfl, ?_⟩) hHeld ?_ ?_
       rotate_left
       ·rintro w' ⟨s0, s1, s2, s3⟩
        go_simp
        with_reducible rfl
       rotate_left
       ·simp only [Act.put, sT, sZ, sS, i64_w, i32_w]
        rfl
       refine one_ (i := 2) (N := some 6) #[true, true, true, true, true, false, false] rfl rfl (by kernel_rfl) (by decide) (fun K hK => ?_)
       refine goes_ Try.func112 (by kernel_rfl) rfl #[.slice none 0 0, .int .i64 a0_0, .int .i64 4] (by rfl) rfl rfl gm ?_
       refine (impl_putLow.calls k (fun k_ => some k_ = (.slice none 0 0 : Value).ownBlock) (.slice none 0 0) ([] : List Int) a0_0 4 t300 w _ ?side1 ?side2 A2.out).mono ?_
       (case side1 => repeat (first | (with_reducible first | exact HB.out | apply below_alloc | apply pw_below_drewN | apply below_drew1 | refine below_set ?_ GE299.out) | exact HB.out))
       (case side2 => exact Kd.R_nil _ _ _ _ _)
       rintro e w16 ⟨v301, rfl, ho0, hb, hkp⟩
       refine ⟨_, rfl, ?_⟩
       replace BK299 := Ak (blk_kept (bq BK299.out) hkp (fun hs_ => (fun e_ => by simp [Value.ownBlock] at e_) hs_))
       have HO302 := Ak (Kd.R_mono (ok' := fun k_ => True) ho0 (fun k_ hk_ => trivial))
       replace HB := Ak (hb)
       obtain ⟨Ao17, co17, eo17⟩ := Kd.R_slice HO302.out
       (first | subst eo17 | (injection eo17 with f1_ f2_ f3_; have f4_ := f1_.symm; have f5_ := f3_.symm; clear f1_ f2_ f3_; subst f4_; subst f5_))
       refine hK.out _ _ ⟨zk0 BK299.out, zk1 BK299.out, zk2 BK299.out, zk3 BK299.out⟩ (fun hHeld => ?_)
       clear hK K
       refine norm_ (a' := ?_) ?_ ?_
       rotate_left
       ·show Act.put _ (some 6) _ = _
        simp only [Act.put, sT, sZ, sS, i64_w, i32_w]
        rfl
       refine one_ (i := 5) (N := some 9) #[true, true, true, true, true, true, false] rfl rfl (by kernel_rfl) (by decide) (fun K hK => ?_)
       refine goes_ Try.func112 (by kernel_rfl) rfl #[.slice Ao17 t300.length co17, .int .i64 a0_1, .int .i64 4] (by rfl) rfl rfl gm ?_
       with_reducible refine (impl_putLow.calls k (fun k_ => some k_ = (.slice Ao17 t300.length co17 : Value).ownBlock) (.slice Ao17 t300.length co17) t300 a0_1 4 t303 w _ ?side1 ?side2 A3.out).mono ?_
       (case side1 => repeat (first | (with_reducible first | exact HB.out | apply below_alloc | apply pw_below_drewN | apply below_drew1 | refine below_set ?_ GE299.out) | exact HB.out))
       (case side2 => exact Kd.R_tight rfl HO302.out)
       rintro e w18 ⟨v304, rfl, ho0, hb, hkp⟩
       refine ⟨_, rfl, ?_⟩
       replace BK299 := Ak (blk_kept (bq BK299.out) hkp (fun hs_ => (fun e_ => (Kd.R_ne HO302.out BK299.out (by decide)) e_) hs_))
       have HO305 := Ak (Kd.R_mono (ok' := fun k_ => True) ho0 (fun k_ hk_ => trivial))
       replace HB := Ak (hb)
       clear HO302
       refine hK.out _ _ ⟨zk0 BK299.out, zk1 BK299.out, zk2 BK299.out, zk3 BK299.out⟩ (fun hHeld => ?_)
       clear hK K
       refine norm_ (a' := ?_) ?_ ?_
       rotate_left
       ·show Act.put _ (some 9) _ = _
        simp only [Act.put, sT, sZ, sS, i64_w, i32_w]
        rfl
       refine pure_ (i := 6) (N := some 3) (v := ?_) (a' := ?_) #[true, true, true, true, true, true, true] rfl rfl (by kernel_rfl) (fun _ _ _ h => h) (Or.inl ⟨by rfl, ?_⟩) ?_ ?_
       rotate_left
       ·intro w'
        go_simp
        with_reducible rfl
       rotate_left
       ·simp only [Act.put, sT, sZ, sS, i64_w, i32_w]
        rfl
       refine done_ (by kernel_rfl) ?_
       have hcz19_0 := zk0 BK299.out
       have hcz19_1 := zk1 BK299.out
       have hcz19_2 := zk2 BK299.out
       have hcz19_3 := zk3 BK299.out
       have hfz19_0 := blk_frozen BK299.out 0
       have hfz19_1 := blk_frozen BK299.out 1
       have hfz19_2 := blk_frozen BK299.out 2
       have hfz19_3 := blk_frozen BK299.out 3
       try go_wp2_with (first | ((with_reducible refine gate_dst (N := 17) rfl ?_); refine Kd.R_lit (Kd.int .u8) _ 5 ?hg (N := 17) ?hd (xs := ([a0_2, ((l0_3.length : Int)) % 256] : List Int)) (inner := [.int .u8 a0_2, .int .u8 (((l0_3.length : Int)) % 256)]) (ok := fun _ => True) (okp := fun _ => True) ?hr ?hp (fun _ hk => hk) trivial (Below.refl _ _) (Nat.le_refl _) (by simp) ?_; (case hd => rfl); (case hg => rfl); (case hr => first | (go_simp; done) | (go_simp; rfl)); (case hp => exact (Reps.one (show Kd.M (Kd.int .u8) _ _ _ a0_2 [.int .u8 a0_2] from rfl) (Reps.one (show Kd.M (Kd.int .u8) _ _ _ (((l0_3.length : Int)) % 256) [.int .u8 (((l0_3.length : Int)) % 256)] from rfl) (Reps.none _ _)))); intro v307 w20 ho21 hb hg_ hnew_; clear hg_ hnew_; (first | rw [← Ny306.out] at ho21 | (simp only [Int.reduceToNat] at ho21; rw [← Ny306.out] at ho21)); have HO308 := Ak (Kd.R_lower (Kd.R_new' ho21 (Kd.R_lt (rq HO305.out))) (below_size (bw1 HB.out GE299.out))); replace HO305 := Ak (Kd.R_elder' (rq HO305.out) (Kd.R_base ho21) hb); replace BK299 := Ak (blk_below (bq BK299.out) hb); replace HB := Ak (below_step (bw1 HB.out GE299.out) hb); clear hb ho21; obtain ⟨Ao23, co23, eo23⟩ := Kd.R_slice HO308.out; subst eo23) | ((with_reducible refine gate_builtin (b := .append) (xs := #[.tmp 10, .tmp 17]) rfl ?_); at_builtin; refine Kd.R_append_rows (Kd.int .u8) (w0 := w) w.heap.size rfl (.tmp 10) (.tmp 17) 22 5 (.int .u8 0) 1 rfl Try.underlying22 info5 rfl (by decide) (by omega) v304 t303 y306 _ _ _ (fun k_ => Nb k_ (.slice Ao23 y306.length co23)) (fun _ => False) rfl rfl ?aO ?aR (fun _ _ h => h) (fun _ h => h.elim) ?aF ?aB ?aS ?aL ?_; (case aR => repeat (first | exact (Kd.R_reads' HO308.out).2.2 | (with_reducible refine Kd.C_alloc ?_ _) | (with_reducible refine Kd.C_drewN ?_ _) | (with_reducible refine Kd.C_drew ?_))); (case aB => exact (bw1 HB.out GE299.out)); (case aF => exact (fun k_ hk => Kd.fresh' (Kd.R_lt (rq HO308.out)) k_ hk)); (case aO => exact (by refine rq ?_; exact Kd.R_mono HO305.out (fun _ hk => hk.2))); (case aS => exact (below_size (bw1 HB.out GE299.out))); (case aL => have := LMc4.out; omega); intro v310 w22 ho hb hg hat; rw [← Ny309.out] at ho; replace BK299 := Ak (blk_grown (g := gb299) (o := .cells #[.int .i64 a0_0, .int .i64 a0_1, .int .u8 a0_2, .slice A0_3 l0_3.length c0_3] 93 (0, 0)) (bq BK299.out) hg (Kd.R_ne HO305.out BK299.out (by decide))); replace HO308 := Ak (Kd.R_after (ok := (fun _ => True)) (rq HO308.out) hg hat); replace HB := Ak (hb); have HO311 := Ak (ho); clear HO305; clear ho hb hg hat; obtain ⟨Ao24, co24, eo24⟩ := Kd.R_slice HO311.out; subst eo24) | (at_builtin; refine Kd.R_append_zeros (Kd.int .u8) (w0 := w) w.heap.size rfl (.tmp 19) (.tmp 22) 22 3 5 (.int .u8 0) 1 rfl Try.underlying22 Try.underlying3 info5 rfl (by decide) (by omega) (.slice Ao24 y309.length co24) y309 0 (ji5 : Int) (fun k_ => Nb k_ (.slice Ao23 y306.length co23)) rfl rfl rfl ?aF ?aO (of_decide_eq_true (by first | (with_reducible assumption) | assumption)) ?aB ?aS ?aL ?_; (case aB => exact (bw1 HB.out GE299.out)); (case aF => exact (fun k_ hk => Kd.fresh' (Kd.R_lt (rq HO308.out)) k_ hk)); (case aO => exact (rq HO311.out)); (case aS => exact (below_size (bw1 HB.out GE299.out))); (case aL => have := LMc7.out; omega); intro v313 w25 ho hb hg hat; rw [← Ny312.out] at ho; replace BK299 := Ak (blk_grown (g := gb299) (o := .cells #[.int .i64 a0_0, .int .i64 a0_1, .int .u8 a0_2, .slice A0_3 l0_3.length c0_3] 93 (0, 0)) (bq BK299.out) hg (Kd.R_ne HO311.out BK299.out (by decide))); replace HO308 := Ak (Kd.R_after (ok := (fun _ => True)) (rq HO308.out) hg hat); replace HB := Ak (hb); have HO314 := Ak (ho); clear HO311; clear ho hb hg hat; have hcz26_0 := zk0 BK299.out; have hcz26_1 := zk1 BK299.out; have hcz26_2 := zk2 BK299.out; have hcz26_3 := zk3 BK299.out; have hfz26_0 := blk_frozen BK299.out 0; have hfz26_1 := blk_frozen BK299.out 1; have hfz26_2 := blk_frozen BK299.out 2; have hfz26_3 := blk_frozen BK299.out 3) | ((with_reducible refine gate_builtin (b := .append) (xs := #[.tmp 24, .tmp 26]) rfl ?_); at_builtin; refine Kd.R_append_rows (Kd.int .u8) (w0 := w) w.heap.size rfl (.tmp 24) (.tmp 26) 22 5 (.int .u8 0) 1 rfl Try.underlying22 info5 rfl (by decide) (by omega) v313 y312 l0_3 _ _ _ (fun k_ => Nb k_ (.slice Ao23 y306.length co23)) (fun _ => False) rfl rfl ?aO ?aR (fun _ _ h => h) (fun _ h => h.elim) ?aF ?aB ?aS ?aL ?_; (case aR => exact zq (Kd.C_below HR0_3.out HB.out)); (case aB => exact (bw1 HB.out GE299.out)); (case aF => exact (fun k_ hk => Kd.fresh' (Kd.R_lt (rq HO308.out)) k_ hk)); (case aO => exact (rq HO314.out)); (case aS => exact (below_size (bw1 HB.out GE299.out))); (case aL => have := LMc8.out; omega); intro v316 w27 ho hb hg hat; rw [← Ny315.out] at ho; replace BK299 := Ak (blk_grown (g := gb299) (o := .cells #[.int .i64 a0_0, .int .i64 a0_1, .int .u8 a0_2, .slice A0_3 l0_3.length c0_3] 93 (0, 0)) (bq BK299.out) hg (Kd.R_ne HO314.out BK299.out (by decide))); replace HO308 := Ak (Kd.R_after (ok := (fun _ => True)) (rq HO308.out) hg hat); replace HB := Ak (hb); have HO317 := Ak (ho); clear HO314; clear ho hb hg hat; obtain ⟨Ao28, co28, eo28⟩ := Kd.R_slice HO317.out; subst eo28) | (at_builtin; refine Kd.R_append_zeros (Kd.int .u8) (w0 := w) w.heap.size rfl (.tmp 28) (.tmp 31) 22 3 5 (.int .u8 0) 1 rfl Try.underlying22 Try.underlying3 info5 rfl (by decide) (by omega) (.slice Ao28 y315.length co28) y315 0 (ji9 : Int) (fun k_ => Nb k_ (.slice Ao23 y306.length co23)) rfl rfl rfl ?aF ?aO (of_decide_eq_true (by first | (with_reducible assumption) | assumption)) ?aB ?aS ?aL ?_; (case aB => exact (bw1 HB.out GE299.out)); (case aF => exact (fun k_ hk => Kd.fresh' (Kd.R_lt (rq HO308.out)) k_ hk)); (case aO => exact (rq HO317.out)); (case aS => exact (below_size (bw1 HB.out GE299.out))); (case aL => have := LMc11.out; omega); intro v319 w29 ho hb hg hat; rw [← Ny318.out] at ho; replace BK299 := Ak (blk_grown (g := gb299) (o := .cells #[.int .i64 a0_0, .int .i64 a0_1, .int .u8 a0_2, .slice A0_3 l0_3.length c0_3] 93 (0, 0)) (bq BK299.out) hg (Kd.R_ne HO317.out BK299.out (by decide))); replace HO308 := Ak (Kd.R_after (ok := (fun _ => True)) (rq HO308.out) hg hat); replace HB := Ak (hb); have HO320 := Ak (ho); clear HO317; clear ho hb hg hat; obtain ⟨Ao30, co30, eo30⟩ := Kd.R_slice HO320.out; subst eo30) | ((with_reducible refine gate_callee (f := 113) rfl ?_); refine goesL_ (some 35) rfl rfl Try.func113 (by kernel_rfl) rfl #[.slice Ao30 y318.length co30] rfl gm ?_; (with_reducible refine (impl_sumOf.calls k _ _ y318 t321 _ ?side1 ?side2 A12.out).mono ?_); (case side1 => repeat (first | exact (Kd.R_reads' HO320.out).2.2 | (with_reducible refine Kd.C_alloc ?_ _) | (with_reducible refine Kd.C_drewN ?_ _) | (with_reducible refine Kd.C_drew ?_))); (case side2 => exact (Kd.R_reads' HO320.out).2.1); rintro e w' ⟨rfl, ⟨nd, rfl⟩⟩; refine ⟨_, rfl, ?_⟩) | ((with_reducible refine gate_callee (f := 112) rfl ?_); refine goesL_ (some 36) rfl rfl Try.func112 (by kernel_rfl) rfl #[.slice Ao30 y318.length co30, .int .i64 t321, .int .i64 4] rfl gm ?_; (with_reducible refine (impl_putLow.calls k (fun k_ => some k_ = (.slice Ao30 y318.length co30 : Value).ownBlock) (.slice Ao30 y318.length co30) y318 t321 4 t322 w _ ?side1 ?side2 A13.out).mono ?_); (case side1 => repeat (first | (with_reducible first | exact HB.out | apply below_alloc | apply pw_below_drewN | apply below_drew1 | refine below_set ?_ GE299.out) | exact HB.out)); (case side2 => exact Kd.R_tight rfl HO320.out); rintro e w31 ⟨v323, rfl, ho0, hb, hkp⟩; refine ⟨_, rfl, ?_⟩; replace BK299 := Ak (blk_kept (bq BK299.out) hkp (fun hs_ => (fun e_ => (Kd.R_ne HO320.out BK299.out (by decide)) e_) hs_)); have HO324 := Ak (Kd.R_mono (ok' := fun k_ => Nb k_ (.slice Ao23 y306.length co23)) ho0 (fun k_ hk_ => Or.elim hk_ (fun hs_ => fun e_ => (((HO308.out).1 k_ e_.symm).2) hs_) (fun hn_ => (Kd.fresh' (Kd.R_lt (rq HO308.out)) k_ hn_)))); replace HO308 := Ak (Kd.R_mono (ok' := fun k_ => Nb k_ v323) (Kd.R_keptB (HO308.out) hkp (fun k_ hk_ hs_ => (hk_.2) hs_)) (fun k_ hk_ => fun e_ => Or.elim (ho0.1 k_ e_.symm) (fun hs_ => hk_.2.1 hs_) (fun hn_ => Nat.not_le.2 hk_.2.2 hn_))); replace HB := Ak (hb); clear HO320))
       go_ret
       exact ⟨_, by first | rfl | (simp [errW_none, errW_some] <;> rfl) | (simp only [← hji5, ← hji9]; first | rfl | (simp [errW_none, errW_some] <;> rfl)) | (simp [*, errW_none, errW_some] <;> rfl), by refine rq ?_; exact Kd.R_mono HO324.out (fun _ hk => trivial), bw1 HB.out GE299.out⟩
      ·rw [if_neg c11] at H
       exact absurd H (by simp)
     ·rw [if_neg c10] at H
      exact absurd H (by simp)
    ·rw [if_neg c8] at H
     exact absurd H (by simp)
   ·rw [if_neg c7] at H
    exact absurd H (by simp)
  ·rw [if_neg c6] at H
   exact absurd H (by simp)
 ·rw [if_neg c4] at H
  exact absurd H (by simp)

end Go.Proofs.Ytgmnphckgicadaa.PFnExactLogAdd

