/- Functions that the law reaches, with their contracts. -/
import Derived.Test.YtgmnphckgicadaaQFnExactLogOpenx22
namespace Go.Proofs.Ytgmnphckgicadaa.PFnExactLogOpen
open Go.RowKit Go.Proofs.YtgmnphckgicadaaW.PrintWords Go.Proofs.YtgmnphckgicadaaW.PrintLast Go.Proofs.YtgmnphckgicadaaW.PrintMore
attribute [local go_sem] max2_int min2_int max_two min_two max_three min_three max_four min_four
set_option linter.unusedVariables false
set_option linter.unusedSimpArgs false

def impl_sector_bytes.f (k : Nat) (a0_0 : Int) (a0_1 : Int) (a0_2 : Int) (l0_3 : List Int) : Option (List Int) := (impl_putLow.f k ([] : List Int) a0_0 4).bind fun t354 => ((impl_putLow.f k t354 a0_1 4).bind fun t357 => ((some (([a0_2, ((l0_3.length : Int)) % 256] : List Int) : List Int)).bind fun y360 => (if t357.length + y360.length < 140737488355328 then ((some (t357 ++ y360 : List Int)).bind fun y363 => (if 0 ≤ (wrap64 (16 - (y363.length : Int))) then (if y363.length + (wrap64 (16 - (y363.length : Int)) : Int).toNat < 140737488355328 then ((some (y363 ++ List.replicate (wrap64 (16 - (y363.length : Int)) : Int).toNat 0 : List Int)).bind fun y366 => (if y366.length + l0_3.length < 140737488355328 then ((some (y366 ++ l0_3 : List Int)).bind fun y369 => (if 0 ≤ (wrap64 (60 - (y369.length : Int))) then (if y369.length + (wrap64 (60 - (y369.length : Int)) : Int).toNat < 140737488355328 then ((some (y369 ++ List.replicate (wrap64 (60 - (y369.length : Int)) : Int).toNat 0 : List Int)).bind fun y372 => ((impl_sumOf.f k y372).bind fun t375 => ((impl_putLow.f k y372 t375 4).bind fun t376 => (some t376)))) else (none)) else (none))) else (none))) else (none)) else (none))) else (none))))
set_option maxHeartbeats 8000000 in
set_option maxRecDepth 100000 in
theorem impl_sector_bytes.calls (k : Nat) (a0_0 : Int) (a0_1 : Int) (a0_2 : Int) (A0_3 : Option Addr) (c0_3 : Nat) (l0_3 : List Int) (r : List Int) (w : World) (hr0_3 : Kd.C (Kd.int .u8) w A0_3 l0_3.length l0_3) (hc0_3 : l0_3.length ≤ c0_3) (h : impl_sector_bytes.f k a0_0 a0_1 a0_2 l0_3 = some r) :
  Calls Try.prog 66 #[.agg #[.int .i64 a0_0, .int .i64 a0_1, .int .u8 a0_2, .slice A0_3 l0_3.length c0_3]] w fun e w' => ∃ v0_ : Value, e = .returned (v0_) ∧ Kd.R (Kd.int .u8) 5 w' w.heap.size (fun _ => True) v0_ r ∧ Below w.heap.size w w' := by
 have hu93 := Try.underlying93
 have HR0_3 := Ak hr0_3
 have HC0_3 := Ak hc0_3
 clear hr0_3 hc0_3
 have HB := Ak (Below.refl w.heap.size w)
 have H : ((impl_putLow.f k ([] : List Int) a0_0 4).bind fun t354 => ((impl_putLow.f k t354 a0_1 4).bind fun t357 => ((some (([a0_2, ((l0_3.length : Int)) % 256] : List Int) : List Int)).bind fun y360 => (if t357.length + y360.length < 140737488355328 then ((some (t357 ++ y360 : List Int)).bind fun y363 => (if 0 ≤ (wrap64 (16 - (y363.length : Int))) then (if y363.length + (wrap64 (16 - (y363.length : Int)) : Int).toNat < 140737488355328 then ((some (y363 ++ List.replicate (wrap64 (16 - (y363.length : Int)) : Int).toNat 0 : List Int)).bind fun y366 => (if y366.length + l0_3.length < 140737488355328 then ((some (y366 ++ l0_3 : List Int)).bind fun y369 => (if 0 ≤ (wrap64 (60 - (y369.length : Int))) then (if y369.length + (wrap64 (60 - (y369.length : Int)) : Int).toNat < 140737488355328 then ((some (y369 ++ List.replicate (wrap64 (60 - (y369.length : Int)) : Int).toNat 0 : List Int)).bind fun y372 => ((impl_sumOf.f k y372).bind fun t375 => ((impl_putLow.f k y372 t375 4).bind fun t376 => (some t376)))) else (none)) else (none))) else (none))) else (none)) else (none))) else (none))))) = some r := h
 clear h
 replace H := Option.bind_eq_some_iff.mp H
 obtain ⟨t354, A20, H⟩ := H
 replace H : ((impl_putLow.f k t354 a0_1 4).bind fun t357 => ((some (([a0_2, ((l0_3.length : Int)) % 256] : List Int) : List Int)).bind fun y360 => (if t357.length + y360.length < 140737488355328 then ((some (t357 ++ y360 : List Int)).bind fun y363 => (if 0 ≤ (wrap64 (16 - (y363.length : Int))) then (if y363.length + (wrap64 (16 - (y363.length : Int)) : Int).toNat < 140737488355328 then ((some (y363 ++ List.replicate (wrap64 (16 - (y363.length : Int)) : Int).toNat 0 : List Int)).bind fun y366 => (if y366.length + l0_3.length < 140737488355328 then ((some (y366 ++ l0_3 : List Int)).bind fun y369 => (if 0 ≤ (wrap64 (60 - (y369.length : Int))) then (if y369.length + (wrap64 (60 - (y369.length : Int)) : Int).toNat < 140737488355328 then ((some (y369 ++ List.replicate (wrap64 (60 - (y369.length : Int)) : Int).toNat 0 : List Int)).bind fun y372 => ((impl_sumOf.f k y372).bind fun t375 => ((impl_putLow.f k y372 t375 4).bind fun t376 => (some t376)))) else (none)) else (none))) else (none))) else (none)) else (none))) else (none)))) = some r := H
 have A2 := Ak A20
 clear A20
 replace H := Option.bind_eq_some_iff.mp H
 obtain ⟨t357, A30, H⟩ := H
 replace H : ((some (([a0_2, ((l0_3.length : Int)) % 256] : List Int) : List Int)).bind fun y360 => (if t357.length + y360.length < 140737488355328 then ((some (t357 ++ y360 : List Int)).bind fun y363 => (if 0 ≤ (wrap64 (16 - (y363.length : Int))) then (if y363.length + (wrap64 (16 - (y363.length : Int)) : Int).toNat < 140737488355328 then ((some (y363 ++ List.replicate (wrap64 (16 - (y363.length : Int)) : Int).toNat 0 : List Int)).bind fun y366 => (if y366.length + l0_3.length < 140737488355328 then ((some (y366 ++ l0_3 : List Int)).bind fun y369 => (if 0 ≤ (wrap64 (60 - (y369.length : Int))) then (if y369.length + (wrap64 (60 - (y369.length : Int)) : Int).toNat < 140737488355328 then ((some (y369 ++ List.replicate (wrap64 (60 - (y369.length : Int)) : Int).toNat 0 : List Int)).bind fun y372 => ((impl_sumOf.f k y372).bind fun t375 => ((impl_putLow.f k y372 t375 4).bind fun t376 => (some t376)))) else (none)) else (none))) else (none))) else (none)) else (none))) else (none))) = some r := H
 have A3 := Ak A30
 clear A30
 obtain ⟨y360, hy360⟩ : ∃ y_ : List Int, y_ = (([a0_2, ((l0_3.length : Int)) % 256] : List Int)) := ⟨_, rfl⟩
 replace H : (if t357.length + y360.length < 140737488355328 then ((some (t357 ++ y360 : List Int)).bind fun y363 => (if 0 ≤ (wrap64 (16 - (y363.length : Int))) then (if y363.length + (wrap64 (16 - (y363.length : Int)) : Int).toNat < 140737488355328 then ((some (y363 ++ List.replicate (wrap64 (16 - (y363.length : Int)) : Int).toNat 0 : List Int)).bind fun y366 => (if y366.length + l0_3.length < 140737488355328 then ((some (y366 ++ l0_3 : List Int)).bind fun y369 => (if 0 ≤ (wrap64 (60 - (y369.length : Int))) then (if y369.length + (wrap64 (60 - (y369.length : Int)) : Int).toNat < 140737488355328 then ((some (y369 ++ List.replicate (wrap64 (60 - (y369.length : Int)) : Int).toNat 0 : List Int)).bind fun y372 => ((impl_sumOf.f k y372).bind fun t375 => ((impl_putLow.f k y372 t375 4).bind fun t376 => (some t376)))) else (none)) else (none))) else (none))) else (none)) else (none))) else (none)) = some r := by first | (rw [hy360]; with_reducible exact H) | (have H2_ := (Option.bind_some _ _).symm.trans H; rw [hy360]; with_reducible exact H2_) | (have H2_ := (Option.bind_some _ _).symm.trans H; with_reducible exact H2_) | with_reducible exact H | (rw [hy360]; exact H) | exact H
 have Ny360 := Ak hy360
 clear hy360
 by_cases c4 : t357.length + y360.length < 140737488355328
 ·rw [if_pos c4] at H
  have LMc4 := Ak c4
  clear c4
  obtain ⟨y363, hy363⟩ : ∃ y_ : List Int, y_ = (t357 ++ y360) := ⟨_, rfl⟩
  replace H : (if 0 ≤ (wrap64 (16 - (y363.length : Int))) then (if y363.length + (wrap64 (16 - (y363.length : Int)) : Int).toNat < 140737488355328 then ((some (y363 ++ List.replicate (wrap64 (16 - (y363.length : Int)) : Int).toNat 0 : List Int)).bind fun y366 => (if y366.length + l0_3.length < 140737488355328 then ((some (y366 ++ l0_3 : List Int)).bind fun y369 => (if 0 ≤ (wrap64 (60 - (y369.length : Int))) then (if y369.length + (wrap64 (60 - (y369.length : Int)) : Int).toNat < 140737488355328 then ((some (y369 ++ List.replicate (wrap64 (60 - (y369.length : Int)) : Int).toNat 0 : List Int)).bind fun y372 => ((impl_sumOf.f k y372).bind fun t375 => ((impl_putLow.f k y372 t375 4).bind fun t376 => (some t376)))) else (none)) else (none))) else (none))) else (none)) else (none)) = some r := by first | (rw [hy363]; with_reducible exact H) | (have H2_ := (Option.bind_some _ _).symm.trans H; rw [hy363]; with_reducible exact H2_) | (have H2_ := (Option.bind_some _ _).symm.trans H; with_reducible exact H2_) | with_reducible exact H | (rw [hy363]; exact H) | exact H
  have Ny363 := Ak hy363
  clear hy363
  obtain ⟨ji5, hji5⟩ : ∃ j_ : Int, (wrap64 (16 - (y363.length : Int))) = j_ := ⟨_, rfl⟩
  replace H : (if 0 ≤ (ji5) then (if y363.length + (ji5 : Int).toNat < 140737488355328 then ((some (y363 ++ List.replicate (ji5 : Int).toNat 0 : List Int)).bind fun y366 => (if y366.length + l0_3.length < 140737488355328 then ((some (y366 ++ l0_3 : List Int)).bind fun y369 => (if 0 ≤ (wrap64 (60 - (y369.length : Int))) then (if y369.length + (wrap64 (60 - (y369.length : Int)) : Int).toNat < 140737488355328 then ((some (y369 ++ List.replicate (wrap64 (60 - (y369.length : Int)) : Int).toNat 0 : List Int)).bind fun y372 => ((impl_sumOf.f k y372).bind fun t375 => ((impl_putLow.f k y372 t375 4).bind fun t376 => (some t376)))) else (none)) else (none))) else (none))) else (none)) else (none)) = some r := by first | (rw [hji5] at H; exact H) | (simp only [hji5] at H ⊢; exact H)
  (try rw [hji5] at A2)
  (try rw [hji5] at A3)
  have hji5w : (IntKind.i64.wrap (16 - (y363.length : Int))) = ji5 := (i64_w _).trans hji5
  by_cases c6 : 0 ≤ (ji5)
  ·rw [if_pos c6] at H
   have c6b0 := eq_true c6
   have c6b1 : decide (0 ≤ (ji5)) = true := decide_eq_true c6
   clear c6
   by_cases c7 : y363.length + (ji5 : Int).toNat < 140737488355328
   ·rw [if_pos c7] at H
    have LMc7 := Ak c7
    clear c7
    obtain ⟨y366, hy366⟩ : ∃ y_ : List Int, y_ = (y363 ++ List.replicate (ji5 : Int).toNat 0) := ⟨_, rfl⟩
    replace H : (if y366.length + l0_3.length < 140737488355328 then ((some (y366 ++ l0_3 : List Int)).bind fun y369 => (if 0 ≤ (wrap64 (60 - (y369.length : Int))) then (if y369.length + (wrap64 (60 - (y369.length : Int)) : Int).toNat < 140737488355328 then ((some (y369 ++ List.replicate (wrap64 (60 - (y369.length : Int)) : Int).toNat 0 : List Int)).bind fun y372 => ((impl_sumOf.f k y372).bind fun t375 => ((impl_putLow.f k y372 t375 4).bind fun t376 => (some t376)))) else (none)) else (none))) else (none)) = some r := by first | (rw [hy366]; with_reducible exact H) | (have H2_ := (Option.bind_some _ _).symm.trans H; rw [hy366]; with_reducible exact H2_) | (have H2_ := (Option.bind_some _ _).symm.trans H; with_reducible exact H2_) | with_reducible exact H | (rw [hy366]; exact H) | exact H
    have Ny366 := Ak hy366
    clear hy366
    by_cases c8 : y366.length + l0_3.length < 140737488355328
    ·rw [if_pos c8] at H
     have LMc8 := Ak c8
     clear c8
     obtain ⟨y369, hy369⟩ : ∃ y_ : List Int, y_ = (y366 ++ l0_3) := ⟨_, rfl⟩
     replace H : (if 0 ≤ (wrap64 (60 - (y369.length : Int))) then (if y369.length + (wrap64 (60 - (y369.length : Int)) : Int).toNat < 140737488355328 then ((some (y369 ++ List.replicate (wrap64 (60 - (y369.length : Int)) : Int).toNat 0 : List Int)).bind fun y372 => ((impl_sumOf.f k y372).bind fun t375 => ((impl_putLow.f k y372 t375 4).bind fun t376 => (some t376)))) else (none)) else (none)) = some r := by first | (rw [hy369]; with_reducible exact H) | (have H2_ := (Option.bind_some _ _).symm.trans H; rw [hy369]; with_reducible exact H2_) | (have H2_ := (Option.bind_some _ _).symm.trans H; with_reducible exact H2_) | with_reducible exact H | (rw [hy369]; exact H) | exact H
     have Ny369 := Ak hy369
     clear hy369
     obtain ⟨ji9, hji9⟩ : ∃ j_ : Int, (wrap64 (60 - (y369.length : Int))) = j_ := ⟨_, rfl⟩
     replace H : (if 0 ≤ (ji9) then (if y369.length + (ji9 : Int).toNat < 140737488355328 then ((some (y369 ++ List.replicate (ji9 : Int).toNat 0 : List Int)).bind fun y372 => ((impl_sumOf.f k y372).bind fun t375 => ((impl_putLow.f k y372 t375 4).bind fun t376 => (some t376)))) else (none)) else (none)) = some r := by first | (rw [hji9] at H; exact H) | (simp only [hji9] at H ⊢; exact H)
     (try rw [hji9] at A2)
     (try rw [hji9] at A3)
     have hji9w : (IntKind.i64.wrap (60 - (y369.length : Int))) = ji9 := (i64_w _).trans hji9
     by_cases c10 : 0 ≤ (ji9)
     ·rw [if_pos c10] at H
      have c10b0 := eq_true c10
      have c10b1 : decide (0 ≤ (ji9)) = true := decide_eq_true c10
      clear c10
      by_cases c11 : y369.length + (ji9 : Int).toNat < 140737488355328
      ·rw [if_pos c11] at H
       have LMc11 := Ak c11
       clear c11
       obtain ⟨y372, hy372⟩ : ∃ y_ : List Int, y_ = (y369 ++ List.replicate (ji9 : Int).toNat 0) := ⟨_, rfl⟩
       replace H : ((impl_sumOf.f k y372).bind fun t375 => ((impl_putLow.f k y372 t375 4).bind fun t376 => (some t376))) = some r := by first | (rw [hy372]; with_reducible exact H) | (have H2_ := (Option.bind_some _ _).symm.trans H; rw [hy372]; with_reducible exact H2_) | (have H2_ := (Option.bind_some _ _).symm.trans H; with_reducible exact H2_) | with_reducible exact H | (rw [hy372]; exact H) | exact H
       have Ny372 := Ak hy372
       clear hy372
       replace H := Option.bind_eq_some_iff.mp H
       obtain ⟨t375, A120, H⟩ := H
       replace H : ((impl_putLow.f k y372 t375 4).bind fun t376 => (some t376)) = some r := H
       have A12 := Ak A120
       clear A120
       replace H := Option.bind_eq_some_iff.mp H
       obtain ⟨t376, A130, H⟩ := H
       replace H : (some t376) = some r := H
       have A13 := Ak A130
       clear A130
       obtain rfl := Option.some.inj H
       go_enter Try.func66, Try.ntmps66
       try go_wp2_with (first | ((with_reducible refine gate_dst (N := 1) rfl ?_); refine box_event ?hg (N := 1) ?hd (cs := #[.int .i64 a0_0, .int .i64 a0_1, .int .u8 a0_2, .slice A0_3 l0_3.length c0_3]) (t := 93) ?hr ?_; (case hd => rfl); (case hg => rfl); (case hr => first | (go_simp; done) | (go_simp; rfl)); intro gb353 hg w14 hbox hb; have n0_ := Ak (below_step (bw HB.out) hb); have n1_ := Ak (hbox); have n2_ := Ak ((by rw [hg]; exact (below_size (bw HB.out)) : w.heap.size ≤ gb353)); have n3_ := Ak ((by rw [hg]; exact (below_size (bw HB.out)) : w.heap.size ≤ gb353)); clear HB; have HB := n0_; have BK353 := n1_; have GW353 := n2_; have GE353 := n3_; clear n0_ n1_ n2_ n3_; clear hb hbox hg))
       have n0_ := Ak (blk_drew BK353.out)
       have n1_ := Ak (below_drew1 HB.out)
       clear BK353
       clear HB
       have BK353 := n0_
       have HB := n1_
       clear n0_ n1_
       refine start_ (n := 7) (S := fun w' => w'.cell? ⟨gb353, 0, none⟩ = some (.int .i64 a0_0) ∧ w'.cell? ⟨gb353, 1, none⟩ = some (.int .i64 a0_1) ∧ w'.cell? ⟨gb353, 2, none⟩ = some (.int .u8 a0_2) ∧ w'.cell? ⟨gb353, 3, none⟩ = some (.slice A0_3 l0_3.length c0_3)) (ds := []) #[false, false, false, false, false, false, false] (by kernel_rfl) rfl rfl ⟨(blk_cell BK353.out 0).trans rfl, (blk_cell BK353.out 1).trans rfl, (blk_cell BK353.out 2).trans rfl, (blk_cell BK353.out 3).trans rfl⟩ (fun hHeld => ?_)
       generalize w14.drew = w15 at BK353 HB hHeld ⊢
       refine pure_ (i := 0) (N := some 4) (v := ?_) (a' := ?_) #[true, false, false, false, false, false, false] rfl rfl (by kernel_rfl) (fun _ _ _ h => h) (Or.inl ⟨by rfl, ?_⟩) ?_ ?_
       rotate_left
       ·intro w'
        go_simp
        with_reducible rfl
       rotate_left
       ·simp only [Act.put, sT, sZ, sS, i64_w, i32_w]
        rfl
       refine pure_ (i := 3) (N := some 7) (v := ?_) (a' := ?_) #[true, false, false, true, false, false, false] rfl rfl (by kernel_rfl) (fun _ _ _ h => h) (Or.inl ⟨by rfl, ?_⟩) ?_ ?_
       rotate_left
       ·intro w'
        go_simp
        with_reducible rfl
       rotate_left
       ·simp only [Act.put, sT, sZ, sS, i64_w, i32_w]
        rfl
       refine take_ (i := 1) (N := some 5) (v := ?_) (a' := ?_) #[true, true, false, true, false, false, false] rfl rfl (by kernel_rfl) (fun _ _ _ h => h) (Or.inl ⟨by rfl, ?_⟩) hHeld ?_ ?_
       rotate_left
       ·rintro w' ⟨s0, s1, s2, s3⟩
        go_simp
        with_reducible rfl
       rotate_left
       ·simp only [Act.put, sT, sZ, sS, i64_w, i32_w]
        rfl
       refine take_ (i := 4) (N := some 8) (v := ?_) (a' := ?_) #[true, true, false, true, true, false, false] rfl rfl (by kernel_rfl) (fun _ _ _ h => h) (Or.inl ⟨by rfl, ?_⟩) hHeld ?_ ?_
       rotate_left
       ·rintro w' ⟨s0, s1, s2, s3⟩
        go_simp
        with_reducible rfl
       rotate_left
       ·simp only [Act.put, sT, sZ, sS, i64_w, i32_w]
        rfl
       refine one_ (i := 2) (N := some 6) #[true, true, true, true, true, false, false] rfl rfl (by kernel_rfl) (by decide) (fun K hK => ?_)
       refine goes_ Try.func112 (by kernel_rfl) rfl #[.slice none 0 0, .int .i64 a0_0, .int .i64 4] (by rfl) rfl rfl gm ?_
       refine (impl_putLow.calls k (fun k_ => some k_ = (.slice none 0 0 : Value).ownBlock) (.slice none 0 0) ([] : List Int) a0_0 4 t354 w _ ?side1 ?side2 A2.out).mono ?_
       (case side1 => repeat (first | (with_reducible first | exact HB.out | apply below_alloc | apply pw_below_drewN | apply below_drew1 | refine below_set ?_ GE353.out) | exact HB.out))
       (case side2 => exact Kd.R_nil _ _ _ _ _)
       rintro e w16 ⟨v355, rfl, ho0, hb, hkp⟩
       refine ⟨_, rfl, ?_⟩
       have n0_ := Ak (blk_kept (bq BK353.out) hkp (fun hs_ => (fun e_ => by simp [Value.ownBlock] at e_) hs_))
       have n1_ := Ak (Kd.R_mono (ok' := fun k_ => True) ho0 (fun k_ hk_ => trivial))
       have n2_ := Ak (hb)
       clear BK353
       clear HB
       have BK353 := n0_
       have HO356 := n1_
       have HB := n2_
       clear n0_ n1_ n2_
       obtain ⟨Ao17, co17, eo17⟩ := Kd.R_slice HO356.out
       (first | subst eo17 | (injection eo17 with f1_ f2_ f3_; have f4_ := f1_.symm; have f5_ := f3_.symm; clear f1_ f2_ f3_; subst f4_; subst f5_))
       refine hK.out _ _ ⟨(blk_cell BK353.out 0).trans rfl, (blk_cell BK353.out 1).trans rfl, (blk_cell BK353.out 2).trans rfl, (blk_cell BK353.out 3).trans rfl⟩ (fun hHeld => ?_)
       clear hK K
       refine norm_ (a' := ?_) ?_ ?_
       rotate_left
       ·show Act.put _ (some 6) _ = _
        simp only [Act.put, sT, sZ, sS, i64_w, i32_w]
        rfl
       refine one_ (i := 5) (N := some 9) #[true, true, true, true, true, true, false] rfl rfl (by kernel_rfl) (by decide) (fun K hK => ?_)
       refine goes_ Try.func112 (by kernel_rfl) rfl #[.slice Ao17 t354.length co17, .int .i64 a0_1, .int .i64 4] (by rfl) rfl rfl gm ?_
       with_reducible refine (impl_putLow.calls k (fun k_ => some k_ = (.slice Ao17 t354.length co17 : Value).ownBlock) (.slice Ao17 t354.length co17) t354 a0_1 4 t357 w _ ?side1 ?side2 A3.out).mono ?_
       (case side1 => repeat (first | (with_reducible first | exact HB.out | apply below_alloc | apply pw_below_drewN | apply below_drew1 | refine below_set ?_ GE353.out) | exact HB.out))
       (case side2 => exact Kd.R_tight rfl HO356.out)
       rintro e w18 ⟨v358, rfl, ho0, hb, hkp⟩
       refine ⟨_, rfl, ?_⟩
       have n0_ := Ak (blk_kept (bq BK353.out) hkp (fun hs_ => (fun e_ => (Kd.R_ne HO356.out BK353.out (by decide)) e_) hs_))
       have n1_ := Ak (Kd.R_mono (ok' := fun k_ => True) ho0 (fun k_ hk_ => trivial))
       have n2_ := Ak (hb)
       clear BK353
       clear HB
       clear HO356
       have BK353 := n0_
       have HO359 := n1_
       have HB := n2_
       clear n0_ n1_ n2_
       refine hK.out _ _ ⟨(blk_cell BK353.out 0).trans rfl, (blk_cell BK353.out 1).trans rfl, (blk_cell BK353.out 2).trans rfl, (blk_cell BK353.out 3).trans rfl⟩ (fun hHeld => ?_)
       clear hK K
       refine norm_ (a' := ?_) ?_ ?_
       rotate_left
       ·show Act.put _ (some 9) _ = _
        simp only [Act.put, sT, sZ, sS, i64_w, i32_w]
        rfl
       refine pure_ (i := 6) (N := some 3) (v := ?_) (a' := ?_) #[true, true, true, true, true, true, true] rfl rfl (by kernel_rfl) (fun _ _ _ h => h) (Or.inl ⟨by rfl, ?_⟩) ?_ ?_
       rotate_left
       ·intro w'
        go_simp
        with_reducible rfl
       rotate_left
       ·simp only [Act.put, sT, sZ, sS, i64_w, i32_w]
        rfl
       refine done_ (by kernel_rfl) ?_
       have hcz19_0 : w18.cell? ⟨gb353, 0, none⟩ = some (.int .i64 a0_0) := (blk_cell BK353.out 0).trans rfl
       have hcz19_1 : w18.cell? ⟨gb353, 1, none⟩ = some (.int .i64 a0_1) := (blk_cell BK353.out 1).trans rfl
       have hcz19_2 : w18.cell? ⟨gb353, 2, none⟩ = some (.int .u8 a0_2) := (blk_cell BK353.out 2).trans rfl
       have hcz19_3 : w18.cell? ⟨gb353, 3, none⟩ = some (.slice A0_3 l0_3.length c0_3) := (blk_cell BK353.out 3).trans rfl
       have hfz19_0 := blk_frozen BK353.out 0
       have hfz19_1 := blk_frozen BK353.out 1
       have hfz19_2 := blk_frozen BK353.out 2
       have hfz19_3 := blk_frozen BK353.out 3
       try go_wp2_with (first | ((with_reducible refine gate_dst (N := 17) rfl ?_); refine Kd.R_lit (Kd.int .u8) _ 5 ?hg (N := 17) ?hd (xs := ([a0_2, ((l0_3.length : Int)) % 256] : List Int)) (inner := [.int .u8 a0_2, .int .u8 (((l0_3.length : Int)) % 256)]) (ok := fun _ => True) (okp := fun _ => True) ?hr ?hp (fun _ hk => hk) trivial (Below.refl _ _) (Nat.le_refl _) (by simp) ?_; (case hd => rfl); (case hg => rfl); (case hr => first | (go_simp; done) | (go_simp; rfl)); (case hp => exact (Reps.one (show Kd.M (Kd.int .u8) _ _ _ a0_2 [.int .u8 a0_2] from rfl) (Reps.one (show Kd.M (Kd.int .u8) _ _ _ (((l0_3.length : Int)) % 256) [.int .u8 (((l0_3.length : Int)) % 256)] from rfl) (Reps.none _ _)))); intro v361 w20 ho21 hb hg_ hnew_; clear hg_ hnew_; (first | rw [← Ny360.out] at ho21 | (simp only [Int.reduceToNat] at ho21; rw [← Ny360.out] at ho21)); have n0_ := Ak (Kd.R_elder' (rq HO359.out) (Kd.R_base ho21) hb); have n1_ := Ak (Kd.R_lower (Kd.R_new' ho21 (Kd.R_lt (rq HO359.out))) (below_size (bw1 HB.out GE353.out))); have n2_ := Ak (blk_below (g := gb353) (o := .cells #[.int .i64 a0_0, .int .i64 a0_1, .int .u8 a0_2, .slice A0_3 l0_3.length c0_3] 93 (0, 0)) (bq BK353.out) hb); have n3_ := Ak (below_step (bw1 HB.out GE353.out) hb); clear HO359; clear BK353; clear HB; have HO359 := n0_; have HO362 := n1_; have BK353 := n2_; have HB := n3_; clear n0_ n1_ n2_ n3_; clear hb ho21; obtain ⟨Ao23, co23, eo23⟩ := Kd.R_slice HO362.out; subst eo23) | ((with_reducible refine gate_builtin (b := .append) (xs := #[.tmp 10, .tmp 17]) rfl ?_); at_builtin; refine Kd.R_append_rows (Kd.int .u8) (w0 := w) w.heap.size rfl (.tmp 10) (.tmp 17) 22 5 (.int .u8 0) 1 rfl Try.underlying22 info5 rfl (by decide) (by omega) v358 t357 y360 _ _ _ (fun k_ => some k_ ≠ (.slice Ao23 y360.length co23 : Value).ownBlock) (fun _ => False) rfl rfl ?aO ?aR (fun _ _ h => h) (fun _ h => h.elim) ?aF ?aB ?aS ?aL ?_; (case aR => repeat (first | exact (Kd.R_reads' HO362.out).2.2 | (with_reducible refine Kd.C_alloc ?_ _) | (with_reducible refine Kd.C_drewN ?_ _) | (with_reducible refine Kd.C_drew ?_))); (case aB => exact (bw1 HB.out GE353.out)); (case aF => exact (fun k_ hk => Kd.fresh' (Kd.R_lt (rq HO362.out)) k_ hk)); (case aO => exact (by (with_reducible repeat (first | apply Kd.R_alloc | apply Kd.R_drewN | apply Kd.R_drew)); exact Kd.R_mono HO359.out (fun _ hk => hk.2))); (case aS => exact (below_size (bw1 HB.out GE353.out))); (case aL => have := LMc4.out; omega); intro v364 w22 ho hb hg hat; rw [← Ny363.out] at ho; have n0_ := Ak (blk_grown (g := gb353) (o := .cells #[.int .i64 a0_0, .int .i64 a0_1, .int .u8 a0_2, .slice A0_3 l0_3.length c0_3] 93 (0, 0)) (bq BK353.out) hg (Kd.R_ne HO359.out BK353.out (by decide))); have n1_ := Ak (Kd.R_after (ok := (fun _ => True)) (rq HO362.out) hg hat); have n2_ := Ak (hb); have n3_ := Ak (ho); clear BK353; clear HO362; clear HB; clear HO359; have BK353 := n0_; have HO362 := n1_; have HB := n2_; have HO365 := n3_; clear n0_ n1_ n2_ n3_; clear ho hb hg hat; obtain ⟨Ao24, co24, eo24⟩ := Kd.R_slice HO365.out; subst eo24) | (at_builtin; refine Kd.R_append_zeros (Kd.int .u8) (w0 := w) w.heap.size rfl (.tmp 19) (.tmp 22) 22 3 5 (.int .u8 0) 1 rfl Try.underlying22 Try.underlying3 info5 rfl (by decide) (by omega) (.slice Ao24 y363.length co24) y363 0 (ji5 : Int) (fun k_ => some k_ ≠ (.slice Ao23 y360.length co23 : Value).ownBlock) rfl rfl rfl ?aF ?aO (of_decide_eq_true (by first | (with_reducible assumption) | assumption)) ?aB ?aS ?aL ?_; (case aB => exact (bw1 HB.out GE353.out)); (case aF => exact (fun k_ hk => Kd.fresh' (Kd.R_lt (rq HO362.out)) k_ hk)); (case aO => exact (rq HO365.out)); (case aS => exact (below_size (bw1 HB.out GE353.out))); (case aL => have := LMc7.out; omega); intro v367 w25 ho hb hg hat; rw [← Ny366.out] at ho; have n0_ := Ak (blk_grown (g := gb353) (o := .cells #[.int .i64 a0_0, .int .i64 a0_1, .int .u8 a0_2, .slice A0_3 l0_3.length c0_3] 93 (0, 0)) (bq BK353.out) hg (Kd.R_ne HO365.out BK353.out (by decide))); have n1_ := Ak (Kd.R_after (ok := (fun _ => True)) (rq HO362.out) hg hat); have n2_ := Ak (hb); have n3_ := Ak (ho); clear BK353; clear HO362; clear HB; clear HO365; have BK353 := n0_; have HO362 := n1_; have HB := n2_; have HO368 := n3_; clear n0_ n1_ n2_ n3_; clear ho hb hg hat; have hcz26_0 : w25.cell? ⟨gb353, 0, none⟩ = some (.int .i64 a0_0) := (blk_cell BK353.out 0).trans rfl; have hcz26_1 : w25.cell? ⟨gb353, 1, none⟩ = some (.int .i64 a0_1) := (blk_cell BK353.out 1).trans rfl; have hcz26_2 : w25.cell? ⟨gb353, 2, none⟩ = some (.int .u8 a0_2) := (blk_cell BK353.out 2).trans rfl; have hcz26_3 : w25.cell? ⟨gb353, 3, none⟩ = some (.slice A0_3 l0_3.length c0_3) := (blk_cell BK353.out 3).trans rfl; have hfz26_0 := blk_frozen BK353.out 0; have hfz26_1 := blk_frozen BK353.out 1; have hfz26_2 := blk_frozen BK353.out 2; have hfz26_3 := blk_frozen BK353.out 3) | ((with_reducible refine gate_builtin (b := .append) (xs := #[.tmp 24, .tmp 26]) rfl ?_); at_builtin; refine Kd.R_append_rows (Kd.int .u8) (w0 := w) w.heap.size rfl (.tmp 24) (.tmp 26) 22 5 (.int .u8 0) 1 rfl Try.underlying22 info5 rfl (by decide) (by omega) v367 y366 l0_3 _ _ _ (fun k_ => some k_ ≠ (.slice Ao23 y360.length co23 : Value).ownBlock) (fun _ => False) rfl rfl ?aO ?aR (fun _ _ h => h) (fun _ h => h.elim) ?aF ?aB ?aS ?aL ?_; (case aR => repeat (first | exact (Kd.C_below HR0_3.out HB.out) | (with_reducible refine Kd.C_alloc ?_ _) | (with_reducible refine Kd.C_drewN ?_ _) | (with_reducible refine Kd.C_drew ?_))); (case aB => exact (bw1 HB.out GE353.out)); (case aF => exact (fun k_ hk => Kd.fresh' (Kd.R_lt (rq HO362.out)) k_ hk)); (case aO => exact (rq HO368.out)); (case aS => exact (below_size (bw1 HB.out GE353.out))); (case aL => have := LMc8.out; omega); intro v370 w27 ho hb hg hat; rw [← Ny369.out] at ho; have n0_ := Ak (blk_grown (g := gb353) (o := .cells #[.int .i64 a0_0, .int .i64 a0_1, .int .u8 a0_2, .slice A0_3 l0_3.length c0_3] 93 (0, 0)) (bq BK353.out) hg (Kd.R_ne HO368.out BK353.out (by decide))); have n1_ := Ak (Kd.R_after (ok := (fun _ => True)) (rq HO362.out) hg hat); have n2_ := Ak (hb); have n3_ := Ak (ho); clear BK353; clear HO362; clear HB; clear HO368; have BK353 := n0_; have HO362 := n1_; have HB := n2_; have HO371 := n3_; clear n0_ n1_ n2_ n3_; clear ho hb hg hat; obtain ⟨Ao28, co28, eo28⟩ := Kd.R_slice HO371.out; subst eo28) | (at_builtin; refine Kd.R_append_zeros (Kd.int .u8) (w0 := w) w.heap.size rfl (.tmp 28) (.tmp 31) 22 3 5 (.int .u8 0) 1 rfl Try.underlying22 Try.underlying3 info5 rfl (by decide) (by omega) (.slice Ao28 y369.length co28) y369 0 (ji9 : Int) (fun k_ => some k_ ≠ (.slice Ao23 y360.length co23 : Value).ownBlock) rfl rfl rfl ?aF ?aO (of_decide_eq_true (by first | (with_reducible assumption) | assumption)) ?aB ?aS ?aL ?_; (case aB => exact (bw1 HB.out GE353.out)); (case aF => exact (fun k_ hk => Kd.fresh' (Kd.R_lt (rq HO362.out)) k_ hk)); (case aO => exact (rq HO371.out)); (case aS => exact (below_size (bw1 HB.out GE353.out))); (case aL => have := LMc11.out; omega); intro v373 w29 ho hb hg hat; rw [← Ny372.out] at ho; have n0_ := Ak (blk_grown (g := gb353) (o := .cells #[.int .i64 a0_0, .int .i64 a0_1, .int .u8 a0_2, .slice A0_3 l0_3.length c0_3] 93 (0, 0)) (bq BK353.out) hg (Kd.R_ne HO371.out BK353.out (by decide))); have n1_ := Ak (Kd.R_after (ok := (fun _ => True)) (rq HO362.out) hg hat); have n2_ := Ak (hb); have n3_ := Ak (ho); clear BK353; clear HO362; clear HB; clear HO371; have BK353 := n0_; have HO362 := n1_; have HB := n2_; have HO374 := n3_; clear n0_ n1_ n2_ n3_; clear ho hb hg hat; obtain ⟨Ao30, co30, eo30⟩ := Kd.R_slice HO374.out; subst eo30) | ((with_reducible refine gate_callee (f := 113) rfl ?_); refine goesL_ (some 35) rfl rfl Try.func113 (by kernel_rfl) rfl #[.slice Ao30 y372.length co30] rfl gm ?_; (with_reducible refine (impl_sumOf.calls k _ _ y372 t375 _ ?side1 ?side2 A12.out).mono ?_); (case side1 => repeat (first | exact (Kd.R_reads' HO374.out).2.2 | (with_reducible refine Kd.C_alloc ?_ _) | (with_reducible refine Kd.C_drewN ?_ _) | (with_reducible refine Kd.C_drew ?_))); (case side2 => exact (Kd.R_reads' HO374.out).2.1); rintro e w' ⟨rfl, ⟨nd, rfl⟩⟩; refine ⟨_, rfl, ?_⟩) | ((with_reducible refine gate_callee (f := 112) rfl ?_); refine goesL_ (some 36) rfl rfl Try.func112 (by kernel_rfl) rfl #[.slice Ao30 y372.length co30, .int .i64 t375, .int .i64 4] rfl gm ?_; (with_reducible refine (impl_putLow.calls k (fun k_ => some k_ = (.slice Ao30 y372.length co30 : Value).ownBlock) (.slice Ao30 y372.length co30) y372 t375 4 t376 w _ ?side1 ?side2 A13.out).mono ?_); (case side1 => repeat (first | (with_reducible first | exact HB.out | apply below_alloc | apply pw_below_drewN | apply below_drew1 | refine below_set ?_ GE353.out) | exact HB.out)); (case side2 => exact Kd.R_tight rfl HO374.out); rintro e w31 ⟨v377, rfl, ho0, hb, hkp⟩; refine ⟨_, rfl, ?_⟩; have n0_ := Ak (blk_kept (bq BK353.out) hkp (fun hs_ => (fun e_ => (Kd.R_ne HO374.out BK353.out (by decide)) e_) hs_)); have n1_ := Ak (Kd.R_mono (ok' := fun k_ => some k_ ≠ (v377 : Value).ownBlock) (Kd.R_keptB (HO362.out) hkp (fun k_ hk_ hs_ => (hk_.2) hs_)) (fun k_ hk_ => fun e_ => Or.elim (ho0.1 k_ e_.symm) (fun hs_ => hk_.2.1 hs_) (fun hn_ => Nat.not_le.2 hk_.2.2 hn_))); have n2_ := Ak (Kd.R_mono (ok' := fun k_ => some k_ ≠ (.slice Ao23 y360.length co23 : Value).ownBlock) ho0 (fun k_ hk_ => Or.elim hk_ (fun hs_ => fun e_ => (((HO362.out).1 k_ e_.symm).2) hs_) (fun hn_ => (Kd.fresh' (Kd.R_lt (rq HO362.out)) k_ hn_)))); have n3_ := Ak (hb); clear BK353; clear HO362; clear HB; clear HO374; have BK353 := n0_; have HO362 := n1_; have HO378 := n2_; have HB := n3_; clear n0_ n1_ n2_ n3_))
       go_ret
       exact ⟨_, by first | rfl | (simp [errW_none, errW_some] <;> rfl) | (simp only [← hji5, ← hji9]; first | rfl | (simp [errW_none, errW_some] <;> rfl)) | (simp [*, errW_none, errW_some] <;> rfl), by (with_reducible repeat (first | apply Kd.R_alloc | apply Kd.R_drewN | apply Kd.R_drew)); exact Kd.R_mono HO378.out (fun _ hk => trivial), bw1 HB.out GE353.out⟩
      ·rw [if_neg c11] at H
       exact absurd H (by simp)
     ·rw [if_neg c10] at H
      exact absurd H (by simp)
    ·rw [if_neg c8] at H
     exact absurd H (by simp)
   ·rw [if_neg c7] at H
    exact absurd H (by simp)
  ·rw [if_neg c6] at H
   exact absurd H (by simp)
 ·rw [if_neg c4] at H
  exact absurd H (by simp)

end Go.Proofs.Ytgmnphckgicadaa.PFnExactLogOpen

