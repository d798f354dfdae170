/- The functions that the law FnHulls reaches, each with what it computes and its contract. -/
import Derived.Test.YtgmnphckgicadaaQFnHullsx0
import Derived.Test.YtgmnphckgicadaaQFnHullsx12
namespace Go.Proofs.Ytgmnphckgicadaa.PFnHulls
open Go.RowKit Go.Proofs.YtgmnphckgicadaaW.PrintWords Go.Proofs.YtgmnphckgicadaaW.PrintLast Go.Proofs.YtgmnphckgicadaaW.PrintMore
attribute [local go_sem] max2_int min2_int max_two min_two max_three min_three max_four min_four
set_option linter.unusedVariables false
set_option linter.unusedSimpArgs false

mutual
def impl_chainOf.l0 : Nat → List (S67) → List (S67) → Int → Int → Option ((List (S67)))
 | 0, _, _, _, _ => none
 | k + 1, x3, x6, x7, x8 => if x8 < x7 then (if 0 ≤ x8 then (if x8 < (x6.length : Int) then (impl_chainOf.l1 k x3 x6 x7 x8 ((rd_T67 x6 x8).f0) ((rd_T67 x6 x8).f1)) else (none)) else (none)) else (some x3)
def impl_chainOf.l1 : Nat → List (S67) → List (S67) → Int → Int → Int → Int → Option ((List (S67)))
 | 0, _, _, _, _, _, _ => none
 | k + 1, x3, x6, x7, x8, x233000, x233001 => if (x3.length : Int) > 1 then (if 0 ≤ (wrap64 ((x3.length : Int) - 2)) then (if (wrap64 ((x3.length : Int) - 2)) < (x3.length : Int) then (if 0 ≤ (wrap64 ((x3.length : Int) - 1)) then (if (wrap64 ((x3.length : Int) - 1)) < (x3.length : Int) then ((impl_turn.f ((rd_T67 x3 (wrap64 ((x3.length : Int) - 2))).f0) ((rd_T67 x3 (wrap64 ((x3.length : Int) - 2))).f1) ((rd_T67 x3 (wrap64 ((x3.length : Int) - 1))).f0) ((rd_T67 x3 (wrap64 ((x3.length : Int) - 1))).f1) x233000 x233001).bind fun t235 => (if t235 ≤ 0 then (if (wrap64 ((x3.length : Int) - 1)) ≤ (x3.length : Int) then (impl_chainOf.l1 k (x3.take ((wrap64 ((x3.length : Int) - 1)) : Int).toNat) x6 x7 x8 x233000 x233001) else (none)) else (if x3.length < 8796093022208 then (impl_chainOf.l0 k (x3 ++ [(⟨x233000, x233001⟩ : S67)]) x6 x7 (wrap64 (x8 + 1))) else (none)))) else (none)) else (none)) else (none)) else (none)) else (if x3.length < 8796093022208 then (impl_chainOf.l0 k (x3 ++ [(⟨x233000, x233001⟩ : S67)]) x6 x7 (wrap64 (x8 + 1))) else (none))
end
def impl_chainOf.f (k : Nat) (l0 : List (S67)) : Option ((List (S67))) := impl_chainOf.l0 k ([] : List (S67)) l0 (l0.length : Int) 0
def impl_chainOf.T5 : Bool × List (List Nat × List Nat) := (true, [([], []), ([0], [0]), ([1], [1]), ([2], [2]), ([3], [3]), ([3], [3]), ([5, 3], [3, 5]), ([6, 3], [3, 6]), ([4, 7, 3], [3, 4, 7]), ([8, 3], [3, 8]), ([3], [3]), ([3], [3]), ([11, 3], [3, 11]), ([12, 3], [3, 12]), ([10, 13, 3], [3, 10, 13]), ([14, 3], [3, 14]), ([3], [3]), ([9, 15, 16, 3, 3], [3, 9, 15, 16]), ([17, 3], [3, 17]), ([3, 18], [3, 18])])
def impl_chainOf.B5 : List Nat := [0, 1, 3, 7, 15, 15, 47, 111, 255, 511, 15, 15, 2063, 6159, 15375, 31759, 15, 131071, 262143, 524287]
theorem impl_chainOf.tab5 : rtab .any (opsOf Try.f81 5) = impl_chainOf.T5 := by kernel_rfl
theorem impl_chainOf.bits5 : waitsOk impl_chainOf.T5.2 impl_chainOf.B5 = true := by kernel_rfl
set_option maxHeartbeats 8000000 in
set_option maxRecDepth 100000 in
theorem impl_chainOf.calls (k : Nat) (A0 : Option Addr) (c0 : Nat) (l0 : List (S67)) (r : List (S67)) (w : World) (hr0 : Kd.C k67 w A0 l0.length l0) (hc0 : l0.length ≤ c0) (h : impl_chainOf.f k l0 = some r) :
  Calls Try.prog 81 #[.slice A0 l0.length c0] w fun e w' => ∃ v0_ : Value, e = .returned (v0_) ∧ Kd.R k67 67 w' w.heap.size (fun _ => True) v0_ r ∧ Below w.heap.size w w' := by
 have hu67 := Try.underlying67
 have HR0 := Ak hr0
 have HC0 := Ak hc0
 clear hr0 hc0
 have HB := Ak (Below.refl w.heap.size w)
 have H : (impl_chainOf.l0 k ([] : List (S67)) l0 (l0.length : Int) 0) = some r := h
 clear h
 have H' := Ak H
 clear H
 go_enter Try.func81, Try.ntmps81
 go_wp2
 go_loopg [3, 8] k (fun kq v3 v8 w' => ∃ (x3_1 : List (S67)) (x8_1 : Int), v8 = .int .i64 x8_1 ∧ Aside0 (impl_chainOf.l0 kq x3_1 l0 (l0.length : Int) x8_1 = some r) ∧ Aside0 (kq ≤ k) ∧ Aside0 (Kd.R k67 67 w' w.heap.size (fun _ => True) v3 x3_1) ∧ Aside0 (Below w.heap.size w w'))
 case atStart => exact ⟨(([] : List (S67))), (0), (by first | rfl | (simp; done) | (simp [*]; done)), H', ⟨Nat.le_refl _⟩, ⟨by first | exact Kd.R_nil _ _ _ _ _ | exact Kd.N_nil _ _ _ _ _ | exact Kd.V_nil _ _ _ _ _ | exact Kd.Q_nil _ _ _ _ _ | exact Kd.S_nil _ _ _ _ _⟩, ⟨bw HB.out⟩⟩
 case round =>
  clear H'
  obtain ⟨x3_1, x8_1, rfl, HA, HK1, HO_3, HB⟩ := hrel
  cases gk with
  | zero => exact absurd HA.out (by simp [impl_chainOf.l0])
  | succ k1 =>
   have H := HA.out
   clear HA
   simp only [impl_chainOf.l0] at H
   by_cases c2 : x8_1 < (l0.length : Int)
   ·rw [if_pos c2] at H
    have c2b0 : decide (x8_1 < (l0.length : Int)) = true := decide_eq_true c2
    clear c2
    by_cases c3 : 0 ≤ x8_1
    ·rw [if_pos c3] at H
     have c3b0 : decide (0 ≤ x8_1) = true := decide_eq_true c3
     clear c3
     by_cases c4 : x8_1 < (l0.length : Int)
     ·rw [if_pos c4] at H
      have c4b0 : decide (x8_1 < (l0.length : Int)) = true := decide_eq_true c4
      clear c4
      have H' := Ak H
      clear H
      have p231 : 0 ≤ (x8_1 : Int) := of_decide_eq_true (by first | (with_reducible assumption) | assumption)
      have q231 : x8_1 < (l0.length : Int) := of_decide_eq_true (by first | (with_reducible assumption) | assumption)
      obtain ⟨ad231, e231, hx231_0, hx231_1⟩ := at_T67 HR0.out x8_1 p231 q231
      cases e231
      replace hx231_0 := (HB.out.cell (World.block_lt_of_cell? w _ hx231_0)).trans hx231_0
      replace hx231_1 := (HB.out.cell (World.block_lt_of_cell? w _ hx231_1)).trans hx231_1
      replace p231 := eq_true p231
      replace q231 := eq_true q231
      go_wp2_with (first | ((with_reducible refine gate_dst (N := 5) rfl ?_); (try (refine gate_guard (by rfl) ?_; dsimp only)); refine box_event ?hg (N := 5) ?hd (cs := #[.int .i64 0, .int .i64 0]) (t := 67) ?hr ?_; (case hd => rfl); (case hg => rfl); (case hr => first | (go_simp; done) | (go_simp; rfl)); intro gb232 hg w5 hbox hb; replace HO_3 := Ak (Kd.R_below (Kd.R_elderB (rq HO_3.out) gb232 (Nat.le_of_eq hg.symm)) hb); have BK232 := Ak (hbox); have GW232 := Ak ((zb hg (bw HB.out))); have GE232 := Ak ((zb hg (bw HB.out))); replace HB := Ak (below_step (bw HB.out) hb); clear hb hbox hg; have hcz6_0 := zk0 BK232.out; have hcz6_1 := zk1 BK232.out; have hfz6_0 := blk_frozen BK232.out 0; have hfz6_1 := blk_frozen BK232.out 1))
      go_loopg [3] k1 (fun kq v3 w' => ∃ (x3_2 : List (S67)), Aside0 (impl_chainOf.l1 kq x3_2 l0 (l0.length : Int) x8_1 ((rd_T67 l0 x8_1).f0) ((rd_T67 l0 x8_1).f1) = some r) ∧ Aside0 (kq ≤ k1) ∧ Aside0 (Kd.R k67 67 w' w.heap.size (fun k_ => k_ ≠ gb232) v3 x3_2) ∧ Aside0 (w'.heap[gb232]? = some (.cells #[.int .i64 ((rd_T67 l0 x8_1).f0), .int .i64 ((rd_T67 l0 x8_1).f1)] 67 (0, 0))) ∧ Aside0 (Below w.heap.size w w'))
      case atStart => exact ⟨(x3_1), H', ⟨Nat.le_refl _⟩, ⟨by refine rq ?_; exact Kd.R_mono (Kd.R_far (p := ⟨gb232, 1, none⟩) (Kd.R_far (p := ⟨gb232, 0, none⟩) (Kd.R_mono HO_3.out (fun k_ hk => (⟨hk, hk.2⟩ : _ ∧ k_ ≠ gb232))) (fun _ hk => hk.2) (.int .i64 ((rd_T67 l0 x8_1).f0))) (fun _ hk => hk.2) (.int .i64 ((rd_T67 l0 x8_1).f1))) (fun _ hk => hk.1.2)⟩, ⟨by refine bq ?_; refine blk_put (cs := #[.int .i64 ((rd_T67 l0 x8_1).f0), .int .i64 0]) ?_ 1 _ rfl; refine bq ?_; refine blk_put (cs := #[.int .i64 0, .int .i64 0]) ?_ 0 _ rfl; exact bq BK232.out⟩, ⟨bw1 HB.out GE232.out⟩⟩
      case round =>
       clear H'
       try clear c2b0
       try clear q2
       try clear hx2
       try clear c3b0
       try clear c4b0
       try clear hx231_0
       try clear hx231_1
       try clear q231
       obtain ⟨x3_2, HA, HK2, HO_3, BK232, HB⟩ := hrel
       cases gk with
       | zero => exact absurd HA.out (by simp [impl_chainOf.l1])
       | succ k2 =>
        have H := HA.out
        clear HA
        simp only [impl_chainOf.l1] at H
        by_cases c7 : (x3_2.length : Int) > 1
        ·rw [if_pos c7] at H
         have c7b0 : decide (1 < (x3_2.length : Int)) = true := decide_eq_true c7
         have c7b1 : decide (1 < x3_2.length) = true := decide_eq_true (by omega)
         clear c7
         obtain ⟨ji8, hji8⟩ : ∃ j_ : Int, (wrap64 ((x3_2.length : Int) - 2)) = j_ := ⟨_, rfl⟩
         replace H : (if 0 ≤ (ji8) then (if (ji8) < (x3_2.length : Int) then (if 0 ≤ (wrap64 ((x3_2.length : Int) - 1)) then (if (wrap64 ((x3_2.length : Int) - 1)) < (x3_2.length : Int) then ((impl_turn.f ((rd_T67 x3_2 (ji8)).f0) ((rd_T67 x3_2 (ji8)).f1) ((rd_T67 x3_2 (wrap64 ((x3_2.length : Int) - 1))).f0) ((rd_T67 x3_2 (wrap64 ((x3_2.length : Int) - 1))).f1) ((rd_T67 l0 x8_1).f0) ((rd_T67 l0 x8_1).f1)).bind fun t235 => (if t235 ≤ 0 then (if (wrap64 ((x3_2.length : Int) - 1)) ≤ (x3_2.length : Int) then (impl_chainOf.l1 k2 (x3_2.take ((wrap64 ((x3_2.length : Int) - 1)) : Int).toNat) l0 (l0.length : Int) x8_1 ((rd_T67 l0 x8_1).f0) ((rd_T67 l0 x8_1).f1)) else (none)) else (if x3_2.length < 8796093022208 then (impl_chainOf.l0 k2 (x3_2 ++ [(⟨((rd_T67 l0 x8_1).f0), ((rd_T67 l0 x8_1).f1)⟩ : S67)]) l0 (l0.length : Int) (wrap64 (x8_1 + 1))) else (none)))) else (none)) else (none)) else (none)) else (none)) = some r := by first | (rw [hji8] at H; exact H) | (simp only [hji8] at H ⊢; exact H)
         have hji8w : (IntKind.i64.wrap ((x3_2.length : Int) - 2)) = ji8 := (i64_w _).trans hji8
         by_cases c9 : 0 ≤ (ji8)
         ·rw [if_pos c9] at H
          have c9b0 : decide (0 ≤ (ji8)) = true := decide_eq_true c9
          clear c9
          by_cases c10 : (ji8) < (x3_2.length : Int)
          ·rw [if_pos c10] at H
           have c10b0 : decide ((ji8) < (x3_2.length : Int)) = true := decide_eq_true c10
           clear c10
           obtain ⟨ji11, hji11⟩ : ∃ j_ : Int, (wrap64 ((x3_2.length : Int) - 1)) = j_ := ⟨_, rfl⟩
           replace H : (if 0 ≤ (ji11) then (if (ji11) < (x3_2.length : Int) then ((impl_turn.f ((rd_T67 x3_2 (ji8)).f0) ((rd_T67 x3_2 (ji8)).f1) ((rd_T67 x3_2 (ji11)).f0) ((rd_T67 x3_2 (ji11)).f1) ((rd_T67 l0 x8_1).f0) ((rd_T67 l0 x8_1).f1)).bind fun t235 => (if t235 ≤ 0 then (if (ji11) ≤ (x3_2.length : Int) then (impl_chainOf.l1 k2 (x3_2.take ((ji11) : Int).toNat) l0 (l0.length : Int) x8_1 ((rd_T67 l0 x8_1).f0) ((rd_T67 l0 x8_1).f1)) else (none)) else (if x3_2.length < 8796093022208 then (impl_chainOf.l0 k2 (x3_2 ++ [(⟨((rd_T67 l0 x8_1).f0), ((rd_T67 l0 x8_1).f1)⟩ : S67)]) l0 (l0.length : Int) (wrap64 (x8_1 + 1))) else (none)))) else (none)) else (none)) = some r := by first | (rw [hji11] at H; exact H) | (simp only [hji11] at H ⊢; exact H)
           have hji11w : (IntKind.i64.wrap ((x3_2.length : Int) - 1)) = ji11 := (i64_w _).trans hji11
           by_cases c12 : 0 ≤ (ji11)
           ·rw [if_pos c12] at H
            have c12b0 : decide (0 ≤ (ji11)) = true := decide_eq_true c12
            clear c12
            by_cases c13 : (ji11) < (x3_2.length : Int)
            ·rw [if_pos c13] at H
             have c13b0 : decide ((ji11) < (x3_2.length : Int)) = true := decide_eq_true c13
             clear c13
             replace H := Option.bind_eq_some_iff.mp H
             obtain ⟨t235, A140, H⟩ := H
             have A14 := Ak A140
             clear A140
             by_cases c15 : t235 ≤ 0
             ·rw [if_pos c15] at H
              have c15b0 : decide (t235 ≤ 0) = true := decide_eq_true c15
              clear c15
              by_cases c16 : (ji11) ≤ (x3_2.length : Int)
              ·rw [if_pos c16] at H
               have c16b0 := eq_true c16
               have c16b1 : decide ((ji11) ≤ (x3_2.length : Int)) = true := decide_eq_true c16
               clear c16
               obtain ⟨y236, hy236⟩ : ∃ y_ : List (S67), y_ = (x3_2.take ((ji11) : Int).toNat) := ⟨_, rfl⟩
               replace H : (impl_chainOf.l1 k2 y236 l0 (l0.length : Int) x8_1 ((rd_T67 l0 x8_1).f0) ((rd_T67 l0 x8_1).f1)) = some r := by first | (rw [hy236]; with_reducible exact H) | (have H2_ := (Option.bind_some _ _).symm.trans H; rw [hy236]; with_reducible exact H2_) | (have H2_ := (Option.bind_some _ _).symm.trans H; with_reducible exact H2_) | with_reducible exact H | (rw [hy236]; exact H) | exact H
               have Ny236 := Ak hy236
               clear hy236
               have H' := Ak H
               clear H
               try go_wp2
               replace HO_3 := Ak (Kd.R_drew HO_3.out)
               replace BK232 := Ak (blk_drew BK232.out)
               replace HB := Ak (below_drew1 HB.out)
               obtain ⟨Ao18, co18, eo18⟩ := Kd.R_slice HO_3.out
               (first | subst eo18 | (injection eo18 with f1_ f2_ f3_; have f4_ := f1_.symm; have f5_ := f3_.symm; clear f1_ f2_ f3_; subst f4_; subst f5_))
               have p233 : 0 ≤ ((ji8) : Int) := of_decide_eq_true (by first | (with_reducible assumption) | assumption)
               have q233 : (ji8) < (x3_2.length : Int) := of_decide_eq_true (by first | (with_reducible assumption) | assumption)
               obtain ⟨ad233, e233, hx233_0, hx233_1⟩ := at_T67 (Kd.R_reads' HO_3.out).2.2 (ji8) p233 q233
               cases e233
               replace p233 := eq_true p233
               replace q233 := eq_true q233
               have p234 : 0 ≤ ((ji11) : Int) := of_decide_eq_true (by first | (with_reducible assumption) | assumption)
               have q234 : (ji11) < (x3_2.length : Int) := of_decide_eq_true (by first | (with_reducible assumption) | assumption)
               obtain ⟨ad234, e234, hx234_0, hx234_1⟩ := at_T67 (Kd.R_reads' HO_3.out).2.2 (ji11) p234 q234
               obtain rfl : ad233 = ad234 := (by injection e234)
               replace p234 := eq_true p234
               replace q234 := eq_true q234
               refine start_ (n := 20) (S := fun w' => w'.cell? ⟨gb232, 0, none⟩ = some (.int .i64 ((rd_T67 l0 x8_1).f0)) ∧ w'.cell? ⟨gb232, 1, none⟩ = some (.int .i64 ((rd_T67 l0 x8_1).f1)) ∧ w'.cell? (ad233.add (((ji8)).toNat * 2)) = some (.int .i64 ((rd_T67 x3_2 (ji8)).f0)) ∧ w'.cell? ⟨(ad233.add (((ji8)).toNat * 2)).block, (ad233.add (((ji8)).toNat * 2)).off + 1, none⟩ = some (.int .i64 ((rd_T67 x3_2 (ji8)).f1)) ∧ w'.cell? (ad233.add (((ji11)).toNat * 2)) = some (.int .i64 ((rd_T67 x3_2 (ji11)).f0)) ∧ w'.cell? ⟨(ad233.add (((ji11)).toNat * 2)).block, (ad233.add (((ji11)).toNat * 2)).off + 1, none⟩ = some (.int .i64 ((rd_T67 x3_2 (ji11)).f1))) (ds := []) #[false, false, false, false, false, false, false, false, false, false, false, false, false, false, false, false, false, false, false, false] (by kernel_rfl) rfl rfl ⟨zk0 BK232.out, zk1 BK232.out, hx233_0, hx233_1, hx234_0, hx234_1⟩ (fun hHeld => ?_); refine with_tabW impl_chainOf.tab5 impl_chainOf.bits5 (fun HT_ HW_ => ?_)
               generalize wr.drew = w17 at HO_3 BK232 HB hx233_0 hx233_1 hx234_0 hx234_1 hHeld ⊢
               refine pure_ (i := 0) (N := some 12) (v := ?_) (a' := ?_) #[true, false, false, false, false, false, false, false, false, false, false, false, false, false, false, false, false, false, false, false] rfl rfl (any_of HT_.out (by kernel_rfl)) (fun _ _ _ h => h) (Or.inl ⟨by rfl, ?_⟩) ?_ ?_
               rotate_left
               ·intro w'
                go_simp
                with_reducible rfl
               rotate_left
               ·simp only [Act.put, sT, sZ, sS, i64_w, i32_w]
                rfl
               refine pure_ (i := 1) (N := some 13) (v := ?_) (a' := ?_) #[true, true, false, false, false, false, false, false, false, false, false, false, false, false, false, false, false, false, false, false] rfl rfl (any_of HT_.out (by kernel_rfl)) (fun _ _ _ h => h) (Or.inl ⟨by rfl, ?_⟩) ?_ ?_
               rotate_left
               ·intro w'
                go_simp
                with_reducible rfl
               rotate_left
               ·simp only [Act.put, sT, sZ, sS, i64_w, i32_w]
                rfl
               refine pure_ (i := 2) (N := some 14) (v := ?_) (a' := ?_) #[true, true, true, false, false, false, false, false, false, false, false, false, false, false, false, false, false, false, false, false] rfl rfl (any_of HT_.out (by kernel_rfl)) (fun _ _ _ h => h) (Or.inl ⟨by rfl, ?_⟩) ?_ ?_
               rotate_left
               ·intro w'
                go_simp
                with_reducible rfl
               rotate_left
               ·simp only [Act.put, sT, sZ, sS, i64_w, i32_w]
                rfl
               refine pure_ (i := 3) (N := some 15) (v := ?_) (a' := ?_) #[true, true, true, true, false, false, false, false, false, false, false, false, false, false, false, false, false, false, false, false] rfl rfl (any_of HT_.out (by kernel_rfl)) (fun _ _ _ h => h) (Or.inl ⟨by rfl, ?_⟩) ?_ ?_
               rotate_left
               ·intro w'
                go_simp
                with_reducible rfl
               rotate_left
               ·simp only [Act.put, sT, sZ, sS, i64_w, i32_w]
                rfl
               refine pure_ (i := 4) (N := some 16) (v := ?_) (a' := ?_) #[true, true, true, true, true, false, false, false, false, false, false, false, false, false, false, false, false, false, false, false] rfl rfl (any_of HT_.out (by kernel_rfl)) (fun _ _ _ h => h) (Or.inl ⟨by rfl, ?_⟩) ?_ ?_
               rotate_left
               ·intro w'
                go_simp
                with_reducible rfl
               rotate_left
               ·simp only [Act.put, sT, sZ, sS, i64_w, i32_w]
                rfl
               refine pure_ (i := 5) (N := some 17) (v := ?_) (a' := ?_) #[true, true, true, true, true, true, false, false, false, false, false, false, false, false, false, false, false, false, false, false] rfl rfl (any_of HT_.out (by kernel_rfl)) (fun _ _ _ h => h) (Or.inl ⟨by rfl, ?_⟩) ?_ ?_
               rotate_left
               ·intro w'
                go_simp
                with_reducible rfl
               rotate_left
               ·simp only [Act.put, sT, sZ, sS, i64_w, i32_w]
                rfl
               refine pure_ (i := 6) (N := some 18) (v := ?_) (a' := ?_) #[true, true, true, true, true, true, true, false, false, false, false, false, false, false, false, false, false, false, false, false] rfl rfl (any_of HT_.out (by kernel_rfl)) (fun _ _ _ h => h) (Or.inl ⟨by rfl, ?_⟩) ?_ ?_
               rotate_left
               ·intro w'
                go_simp
                with_reducible rfl
               rotate_left
               ·simp only [Act.put, sT, sZ, sS, i64_w, i32_w]
                rfl
               refine pure_ (i := 7) (N := some 19) (v := ?_) (a' := ?_) #[true, true, true, true, true, true, true, true, false, false, false, false, false, false, false, false, false, false, false, false] rfl rfl (any_of HT_.out (by kernel_rfl)) (fun _ _ _ h => h) (Or.inl ⟨by rfl, ?_⟩) ?_ ?_
               rotate_left
               ·intro w'
                go_simp
                with_reducible rfl
               rotate_left
               ·simp only [Act.put, sT, sZ, sS, i64_w, i32_w]
                rfl
               refine pure_ (i := 8) (N := some 20) (v := ?_) (a' := ?_) #[true, true, true, true, true, true, true, true, true, false, false, false, false, false, false, false, false, false, false, false] rfl rfl (any_of HT_.out (by kernel_rfl)) (fun _ _ _ h => h) (Or.inl ⟨by rfl, ?_⟩) ?_ ?_
               rotate_left
               ·intro w'
                go_simp
                with_reducible rfl
               rotate_left
               ·simp only [Act.put, sT, sZ, sS, i64_w, i32_w]
                rfl
               refine pure_ (i := 10) (N := some 22) (v := ?_) (a' := ?_) #[true, true, true, true, true, true, true, true, true, false, true, false, false, false, false, false, false, false, false, false] rfl rfl (any_of HT_.out (by kernel_rfl)) (fun _ _ _ h => h) (Or.inl ⟨by rfl, ?_⟩) ?_ ?_
               rotate_left
               ·intro w'
                go_simp
                with_reducible rfl
               rotate_left
               ·simp only [Act.put, sT, sZ, sS, i64_w, i32_w]
                rfl
               refine pure_ (i := 11) (N := some 23) (v := ?_) (a' := ?_) #[true, true, true, true, true, true, true, true, true, false, true, true, false, false, false, false, false, false, false, false] rfl rfl (any_of HT_.out (by kernel_rfl)) (fun _ _ _ h => h) (Or.inl ⟨by rfl, ?_⟩) ?_ ?_
               rotate_left
               ·intro w'
                go_simp
                with_reducible rfl
               rotate_left
               ·simp only [Act.put, sT, sZ, sS, i64_w, i32_w]
                rfl
               refine pure_ (i := 12) (N := some 24) (v := ?_) (a' := ?_) #[true, true, true, true, true, true, true, true, true, false, true, true, true, false, false, false, false, false, false, false] rfl rfl (any_of HT_.out (by kernel_rfl)) (fun _ _ _ h => h) (Or.inl ⟨by rfl, ?_⟩) ?_ ?_
               rotate_left
               ·intro w'
                go_simp
                with_reducible rfl
               rotate_left
               ·simp only [Act.put, sT, sZ, sS, i64_w, i32_w]
                rfl
               refine pure_ (i := 13) (N := some 25) (v := ?_) (a' := ?_) #[true, true, true, true, true, true, true, true, true, false, true, true, true, true, false, false, false, false, false, false] rfl rfl (any_of HT_.out (by kernel_rfl)) (fun _ _ _ h => h) (Or.inl ⟨by rfl, ?_⟩) ?_ ?_
               rotate_left
               ·intro w'
                go_simp
                with_reducible rfl
               rotate_left
               ·simp only [Act.put, sT, sZ, sS, i64_w, i32_w]
                rfl
               refine pure_ (i := 14) (N := some 26) (v := ?_) (a' := ?_) #[true, true, true, true, true, true, true, true, true, false, true, true, true, true, true, false, false, false, false, false] rfl rfl (any_of HT_.out (by kernel_rfl)) (fun _ _ _ h => h) (Or.inl ⟨by rfl, ?_⟩) ?_ ?_
               rotate_left
               ·intro w'
                go_simp
                with_reducible rfl
               rotate_left
               ·simp only [Act.put, sT, sZ, sS, i64_w, i32_w]
                rfl
               refine take_ (i := 9) (N := some 21) (v := ?_) (a' := ?_) #[true, true, true, true, true, true, true, true, true, true, true, true, true, true, true, false, false, false, false, false] rfl rfl (take_ofW HT_.out HW_.out (by kernel_rfl)) (fun _ _ _ h => h) (Or.inl ⟨by rfl, ?_⟩) hHeld ?_ ?_
               rotate_left
               ·rintro w' ⟨s0, s1, s2, s3, s4, s5⟩
                go_simp
                with_reducible rfl
               rotate_left
               ·simp only [Act.put, sT, sZ, sS, i64_w, i32_w]
                rfl
               refine take_ (i := 15) (N := some 27) (v := ?_) (a' := ?_) #[true, true, true, true, true, true, true, true, true, true, true, true, true, true, true, true, false, false, false, false] rfl rfl (take_ofW HT_.out HW_.out (by kernel_rfl)) (fun _ _ _ h => h) (Or.inl ⟨by rfl, ?_⟩) hHeld ?_ ?_
               rotate_left
               ·rintro w' ⟨s0, s1, s2, s3, s4, s5⟩
                go_simp
                with_reducible rfl
               rotate_left
               ·simp only [Act.put, sT, sZ, sS, i64_w, i32_w]
                rfl
               refine take_ (i := 16) (N := some 28) (v := ?_) (a' := ?_) #[true, true, true, true, true, true, true, true, true, true, true, true, true, true, true, true, true, false, false, false] rfl rfl (take_ofW HT_.out HW_.out (by kernel_rfl)) (fun _ _ _ h => h) (Or.inl ⟨by rfl, ?_⟩) hHeld ?_ ?_
               rotate_left
               ·rintro w' ⟨s0, s1, s2, s3, s4, s5⟩
                go_simp
                with_reducible rfl
               rotate_left
               ·simp only [Act.put, sT, sZ, sS, i64_w, i32_w]
                rfl
               refine one_ (i := 17) (N := some 29) #[true, true, true, true, true, true, true, true, true, true, true, true, true, true, true, true, true, true, false, false] rfl rfl (one_of HT_.out (by kernel_rfl)) (by decide) (fun K hK => ?_)
               refine goes_ Try.func89 (by kernel_rfl) rfl #[.agg #[.int .i64 ((rd_T67 x3_2 (ji8)).f0), .int .i64 ((rd_T67 x3_2 (ji8)).f1)], .agg #[.int .i64 ((rd_T67 x3_2 (ji11)).f0), .int .i64 ((rd_T67 x3_2 (ji11)).f1)], .agg #[.int .i64 ((rd_T67 l0 x8_1).f0), .int .i64 ((rd_T67 l0 x8_1).f1)]] (by rfl) rfl rfl (by (try simp only [List.map_toArray, List.map_cons, List.map_nil]); first | done | (simp only [hji11, hji8]; rfl) | rfl | (simp only [List.length_drop, List.length_take]; rfl)) ?_
               with_reducible refine (impl_turn.calls ((rd_T67 x3_2 (ji8)).f0) ((rd_T67 x3_2 (ji8)).f1) ((rd_T67 x3_2 (ji11)).f0) ((rd_T67 x3_2 (ji11)).f1) ((rd_T67 l0 x8_1).f0) ((rd_T67 l0 x8_1).f1) t235 _ A14.out).mono ?_
               rintro e w19 ⟨rfl, hb⟩
               have HS2_ := (hb.cell (World.block_lt_of_cell? _ _ hHeld.2.2.1)).trans hHeld.2.2.1
               have HS3_ := (hb.cell (World.block_lt_of_cell? _ _ hHeld.2.2.2.1)).trans hHeld.2.2.2.1
               have HS4_ := (hb.cell (World.block_lt_of_cell? _ _ hHeld.2.2.2.2.1)).trans hHeld.2.2.2.2.1
               have HS5_ := (hb.cell (World.block_lt_of_cell? _ _ hHeld.2.2.2.2.2)).trans hHeld.2.2.2.2.2
               refine ⟨_, rfl, ?_⟩
               replace HO_3 := Ak (Kd.R_below (rq HO_3.out) hb)
               replace BK232 := Ak (blk_below (bq BK232.out) hb)
               replace HB := Ak (below_step (bw1 HB.out GE232.out) hb)
               refine hK.out _ _ ⟨zk0 BK232.out, zk1 BK232.out, HS2_, HS3_, HS4_, HS5_⟩ (fun hHeld => ?_)
               clear hK K
               refine norm_ (a' := ?_) ?_ ?_
               rotate_left
               ·show Act.put _ (some 29) _ = _
                simp only [Act.put, sT, sZ, sS, i64_w, i32_w]
                rfl
               refine pure_ (i := 18) (N := some 30) (v := ?_) (a' := ?_) #[true, true, true, true, true, true, true, true, true, true, true, true, true, true, true, true, true, true, true, false] rfl rfl (any_of HT_.out (by kernel_rfl)) (fun _ _ _ h => h) (Or.inl ⟨by rfl, ?_⟩) ?_ ?_
               rotate_left
               ·intro w'
                go_simp
                with_reducible rfl
               rotate_left
               ·simp only [Act.put, sT, sZ, sS, i64_w, i32_w]
                rfl
               refine pure_ (i := 19) (N := some 31) (v := ?_) (a' := ?_) #[true, true, true, true, true, true, true, true, true, true, true, true, true, true, true, true, true, true, true, true] rfl rfl (any_of HT_.out (by kernel_rfl)) (fun _ _ _ h => h) (Or.inl ⟨by rfl, ?_⟩) ?_ ?_
               rotate_left
               ·intro w'
                go_simp
                with_reducible rfl
               rotate_left
               ·simp only [Act.put, sT, sZ, sS, i64_w, i32_w]
                rfl
               refine done_ (done_of HT_.out (by kernel_rfl)) ?_
               have q20 : ((ji11) : Int) ≤ ((x3_2.length : Int) : Int) := of_decide_eq_true (by first | (with_reducible assumption) | assumption)
               obtain ⟨i020, hi020, _, hsz20, _⟩ := info_parts info67
               have hcut20 := cut_to (P := Try.prog) 58 67 .i64 Try.underlying58 hi020 (some ad233) x3_2.length co18 (ji11) (of_decide_eq_true (by first | (with_reducible assumption) | assumption)) q20 (Kd.R_reads' HO_3.out).2.1
               have hr20 := Kd.R_take (m := ((ji11) : Int).toNat) HO_3.out (by omega)
               have hy20 : y236.length = ((ji11) : Int).toNat := (by rw [Ny236.out, List.length_take]; omega)
               rw [← Ny236.out] at hr20
               rw [← hy20] at hr20 hcut20
               clear hy20 hi020 hsz20 HO_3
               have HO238 := Ak hr20
               clear hr20
               replace q20 := eq_true q20
               try go_wp2
               go_roundg k2
               case measure => have := HK1.out; have := HK2.out; omega
               case rel => exact ⟨(y236), H', ⟨by have := HK1.out; have := HK2.out; omega⟩, ⟨rq HO238.out⟩, ⟨bq BK232.out⟩, ⟨bw1 HB.out GE232.out⟩⟩
              ·rw [if_neg c16] at H
               exact absurd H (by simp)
             ·rw [if_neg c15] at H
              have c15b0 : decide (t235 ≤ 0) = false := decide_eq_false c15
              clear c15
              by_cases c21 : x3_2.length < 8796093022208
              ·rw [if_pos c21] at H
               have LMc21 := Ak c21
               clear c21
               obtain ⟨y239, hy239⟩ : ∃ y_ : List (S67), y_ = (x3_2 ++ [(⟨((rd_T67 l0 x8_1).f0), ((rd_T67 l0 x8_1).f1)⟩ : S67)]) := ⟨_, rfl⟩
               replace H : (impl_chainOf.l0 k2 y239 l0 (l0.length : Int) (wrap64 (x8_1 + 1))) = some r := by first | (rw [hy239]; with_reducible exact H) | (have H2_ := (Option.bind_some _ _).symm.trans H; rw [hy239]; with_reducible exact H2_) | (have H2_ := (Option.bind_some _ _).symm.trans H; with_reducible exact H2_) | with_reducible exact H | (rw [hy239]; exact H) | exact H
               have Ny239 := Ak hy239
               clear hy239
               have H' := Ak H
               clear H
               try go_wp2
               replace HO_3 := Ak (Kd.R_drew HO_3.out)
               replace BK232 := Ak (blk_drew BK232.out)
               replace HB := Ak (below_drew1 HB.out)
               obtain ⟨Ao23, co23, eo23⟩ := Kd.R_slice HO_3.out
               (first | subst eo23 | (injection eo23 with f1_ f2_ f3_; have f4_ := f1_.symm; have f5_ := f3_.symm; clear f1_ f2_ f3_; subst f4_; subst f5_))
               have p233 : 0 ≤ ((ji8) : Int) := of_decide_eq_true (by first | (with_reducible assumption) | assumption)
               have q233 : (ji8) < (x3_2.length : Int) := of_decide_eq_true (by first | (with_reducible assumption) | assumption)
               obtain ⟨ad233, e233, hx233_0, hx233_1⟩ := at_T67 (Kd.R_reads' HO_3.out).2.2 (ji8) p233 q233
               cases e233
               replace p233 := eq_true p233
               replace q233 := eq_true q233
               have p234 : 0 ≤ ((ji11) : Int) := of_decide_eq_true (by first | (with_reducible assumption) | assumption)
               have q234 : (ji11) < (x3_2.length : Int) := of_decide_eq_true (by first | (with_reducible assumption) | assumption)
               obtain ⟨ad234, e234, hx234_0, hx234_1⟩ := at_T67 (Kd.R_reads' HO_3.out).2.2 (ji11) p234 q234
               obtain rfl : ad233 = ad234 := (by injection e234)
               replace p234 := eq_true p234
               replace q234 := eq_true q234
               refine start_ (n := 20) (S := fun w' => w'.cell? ⟨gb232, 0, none⟩ = some (.int .i64 ((rd_T67 l0 x8_1).f0)) ∧ w'.cell? ⟨gb232, 1, none⟩ = some (.int .i64 ((rd_T67 l0 x8_1).f1)) ∧ w'.cell? (ad233.add (((ji8)).toNat * 2)) = some (.int .i64 ((rd_T67 x3_2 (ji8)).f0)) ∧ w'.cell? ⟨(ad233.add (((ji8)).toNat * 2)).block, (ad233.add (((ji8)).toNat * 2)).off + 1, none⟩ = some (.int .i64 ((rd_T67 x3_2 (ji8)).f1)) ∧ w'.cell? (ad233.add (((ji11)).toNat * 2)) = some (.int .i64 ((rd_T67 x3_2 (ji11)).f0)) ∧ w'.cell? ⟨(ad233.add (((ji11)).toNat * 2)).block, (ad233.add (((ji11)).toNat * 2)).off + 1, none⟩ = some (.int .i64 ((rd_T67 x3_2 (ji11)).f1))) (ds := []) #[false, false, false, false, false, false, false, false, false, false, false, false, false, false, false, false, false, false, false, false] (by kernel_rfl) rfl rfl ⟨zk0 BK232.out, zk1 BK232.out, hx233_0, hx233_1, hx234_0, hx234_1⟩ (fun hHeld => ?_); refine with_tabW impl_chainOf.tab5 impl_chainOf.bits5 (fun HT_ HW_ => ?_)
               generalize wr.drew = w22 at HO_3 BK232 HB hx233_0 hx233_1 hx234_0 hx234_1 hHeld ⊢
               refine pure_ (i := 0) (N := some 12) (v := ?_) (a' := ?_) #[true, false, false, false, false, false, false, false, false, false, false, false, false, false, false, false, false, false, false, false] rfl rfl (any_of HT_.out (by kernel_rfl)) (fun _ _ _ h => h) (Or.inl ⟨by rfl, ?_⟩) ?_ ?_
               rotate_left
               ·intro w'
                go_simp
                with_reducible rfl
               rotate_left
               ·simp only [Act.put, sT, sZ, sS, i64_w, i32_w]
                rfl
               refine pure_ (i := 1) (N := some 13) (v := ?_) (a' := ?_) #[true, true, false, false, false, false, false, false, false, false, false, false, false, false, false, false, false, false, false, false] rfl rfl (any_of HT_.out (by kernel_rfl)) (fun _ _ _ h => h) (Or.inl ⟨by rfl, ?_⟩) ?_ ?_
               rotate_left
               ·intro w'
                go_simp
                with_reducible rfl
               rotate_left
               ·simp only [Act.put, sT, sZ, sS, i64_w, i32_w]
                rfl
               refine pure_ (i := 2) (N := some 14) (v := ?_) (a' := ?_) #[true, true, true, false, false, false, false, false, false, false, false, false, false, false, false, false, false, false, false, false] rfl rfl (any_of HT_.out (by kernel_rfl)) (fun _ _ _ h => h) (Or.inl ⟨by rfl, ?_⟩) ?_ ?_
               rotate_left
               ·intro w'
                go_simp
                with_reducible rfl
               rotate_left
               ·simp only [Act.put, sT, sZ, sS, i64_w, i32_w]
                rfl
               refine pure_ (i := 3) (N := some 15) (v := ?_) (a' := ?_) #[true, true, true, true, false, false, false, false, false, false, false, false, false, false, false, false, false, false, false, false] rfl rfl (any_of HT_.out (by kernel_rfl)) (fun _ _ _ h => h) (Or.inl ⟨by rfl, ?_⟩) ?_ ?_
               rotate_left
               ·intro w'
                go_simp
                with_reducible rfl
               rotate_left
               ·simp only [Act.put, sT, sZ, sS, i64_w, i32_w]
                rfl
               refine pure_ (i := 4) (N := some 16) (v := ?_) (a' := ?_) #[true, true, true, true, true, false, false, false, false, false, false, false, false, false, false, false, false, false, false, false] rfl rfl (any_of HT_.out (by kernel_rfl)) (fun _ _ _ h => h) (Or.inl ⟨by rfl, ?_⟩) ?_ ?_
               rotate_left
               ·intro w'
                go_simp
                with_reducible rfl
               rotate_left
               ·simp only [Act.put, sT, sZ, sS, i64_w, i32_w]
                rfl
               refine pure_ (i := 5) (N := some 17) (v := ?_) (a' := ?_) #[true, true, true, true, true, true, false, false, false, false, false, false, false, false, false, false, false, false, false, false] rfl rfl (any_of HT_.out (by kernel_rfl)) (fun _ _ _ h => h) (Or.inl ⟨by rfl, ?_⟩) ?_ ?_
               rotate_left
               ·intro w'
                go_simp
                with_reducible rfl
               rotate_left
               ·simp only [Act.put, sT, sZ, sS, i64_w, i32_w]
                rfl
               refine pure_ (i := 6) (N := some 18) (v := ?_) (a' := ?_) #[true, true, true, true, true, true, true, false, false, false, false, false, false, false, false, false, false, false, false, false] rfl rfl (any_of HT_.out (by kernel_rfl)) (fun _ _ _ h => h) (Or.inl ⟨by rfl, ?_⟩) ?_ ?_
               rotate_left
               ·intro w'
                go_simp
                with_reducible rfl
               rotate_left
               ·simp only [Act.put, sT, sZ, sS, i64_w, i32_w]
                rfl
               refine pure_ (i := 7) (N := some 19) (v := ?_) (a' := ?_) #[true, true, true, true, true, true, true, true, false, false, false, false, false, false, false, false, false, false, false, false] rfl rfl (any_of HT_.out (by kernel_rfl)) (fun _ _ _ h => h) (Or.inl ⟨by rfl, ?_⟩) ?_ ?_
               rotate_left
               ·intro w'
                go_simp
                with_reducible rfl
               rotate_left
               ·simp only [Act.put, sT, sZ, sS, i64_w, i32_w]
                rfl
               refine pure_ (i := 8) (N := some 20) (v := ?_) (a' := ?_) #[true, true, true, true, true, true, true, true, true, false, false, false, false, false, false, false, false, false, false, false] rfl rfl (any_of HT_.out (by kernel_rfl)) (fun _ _ _ h => h) (Or.inl ⟨by rfl, ?_⟩) ?_ ?_
               rotate_left
               ·intro w'
                go_simp
                with_reducible rfl
               rotate_left
               ·simp only [Act.put, sT, sZ, sS, i64_w, i32_w]
                rfl
               refine pure_ (i := 10) (N := some 22) (v := ?_) (a' := ?_) #[true, true, true, true, true, true, true, true, true, false, true, false, false, false, false, false, false, false, false, false] rfl rfl (any_of HT_.out (by kernel_rfl)) (fun _ _ _ h => h) (Or.inl ⟨by rfl, ?_⟩) ?_ ?_
               rotate_left
               ·intro w'
                go_simp
                with_reducible rfl
               rotate_left
               ·simp only [Act.put, sT, sZ, sS, i64_w, i32_w]
                rfl
               refine pure_ (i := 11) (N := some 23) (v := ?_) (a' := ?_) #[true, true, true, true, true, true, true, true, true, false, true, true, false, false, false, false, false, false, false, false] rfl rfl (any_of HT_.out (by kernel_rfl)) (fun _ _ _ h => h) (Or.inl ⟨by rfl, ?_⟩) ?_ ?_
               rotate_left
               ·intro w'
                go_simp
                with_reducible rfl
               rotate_left
               ·simp only [Act.put, sT, sZ, sS, i64_w, i32_w]
                rfl
               refine pure_ (i := 12) (N := some 24) (v := ?_) (a' := ?_) #[true, true, true, true, true, true, true, true, true, false, true, true, true, false, false, false, false, false, false, false] rfl rfl (any_of HT_.out (by kernel_rfl)) (fun _ _ _ h => h) (Or.inl ⟨by rfl, ?_⟩) ?_ ?_
               rotate_left
               ·intro w'
                go_simp
                with_reducible rfl
               rotate_left
               ·simp only [Act.put, sT, sZ, sS, i64_w, i32_w]
                rfl
               refine pure_ (i := 13) (N := some 25) (v := ?_) (a' := ?_) #[true, true, true, true, true, true, true, true, true, false, true, true, true, true, false, false, false, false, false, false] rfl rfl (any_of HT_.out (by kernel_rfl)) (fun _ _ _ h => h) (Or.inl ⟨by rfl, ?_⟩) ?_ ?_
               rotate_left
               ·intro w'
                go_simp
                with_reducible rfl
               rotate_left
               ·simp only [Act.put, sT, sZ, sS, i64_w, i32_w]
                rfl
               refine pure_ (i := 14) (N := some 26) (v := ?_) (a' := ?_) #[true, true, true, true, true, true, true, true, true, false, true, true, true, true, true, false, false, false, false, false] rfl rfl (any_of HT_.out (by kernel_rfl)) (fun _ _ _ h => h) (Or.inl ⟨by rfl, ?_⟩) ?_ ?_
               rotate_left
               ·intro w'
                go_simp
                with_reducible rfl
               rotate_left
               ·simp only [Act.put, sT, sZ, sS, i64_w, i32_w]
                rfl
               refine take_ (i := 9) (N := some 21) (v := ?_) (a' := ?_) #[true, true, true, true, true, true, true, true, true, true, true, true, true, true, true, false, false, false, false, false] rfl rfl (take_ofW HT_.out HW_.out (by kernel_rfl)) (fun _ _ _ h => h) (Or.inl ⟨by rfl, ?_⟩) hHeld ?_ ?_
               rotate_left
               ·rintro w' ⟨s0, s1, s2, s3, s4, s5⟩
                go_simp
                with_reducible rfl
               rotate_left
               ·simp only [Act.put, sT, sZ, sS, i64_w, i32_w]
                rfl
               refine take_ (i := 15) (N := some 27) (v := ?_) (a' := ?_) #[true, true, true, true, true, true, true, true, true, true, true, true, true, true, true, true, false, false, false, false] rfl rfl (take_ofW HT_.out HW_.out (by kernel_rfl)) (fun _ _ _ h => h) (Or.inl ⟨by rfl, ?_⟩) hHeld ?_ ?_
               rotate_left
               ·rintro w' ⟨s0, s1, s2, s3, s4, s5⟩
                go_simp
                with_reducible rfl
               rotate_left
               ·simp only [Act.put, sT, sZ, sS, i64_w, i32_w]
                rfl
               refine take_ (i := 16) (N := some 28) (v := ?_) (a' := ?_) #[true, true, true, true, true, true, true, true, true, true, true, true, true, true, true, true, true, false, false, false] rfl rfl (take_ofW HT_.out HW_.out (by kernel_rfl)) (fun _ _ _ h => h) (Or.inl ⟨by rfl, ?_⟩) hHeld ?_ ?_
               rotate_left
               ·rintro w' ⟨s0, s1, s2, s3, s4, s5⟩
                go_simp
                with_reducible rfl
               rotate_left
               ·simp only [Act.put, sT, sZ, sS, i64_w, i32_w]
                rfl
               refine one_ (i := 17) (N := some 29) #[true, true, true, true, true, true, true, true, true, true, true, true, true, true, true, true, true, true, false, false] rfl rfl (one_of HT_.out (by kernel_rfl)) (by decide) (fun K hK => ?_)
               refine goes_ Try.func89 (by kernel_rfl) rfl #[.agg #[.int .i64 ((rd_T67 x3_2 (ji8)).f0), .int .i64 ((rd_T67 x3_2 (ji8)).f1)], .agg #[.int .i64 ((rd_T67 x3_2 (ji11)).f0), .int .i64 ((rd_T67 x3_2 (ji11)).f1)], .agg #[.int .i64 ((rd_T67 l0 x8_1).f0), .int .i64 ((rd_T67 l0 x8_1).f1)]] (by rfl) rfl rfl (by (try simp only [List.map_toArray, List.map_cons, List.map_nil]); first | done | (simp only [hji11, hji8]; rfl) | rfl | (simp only [List.length_drop, List.length_take]; rfl)) ?_
               with_reducible refine (impl_turn.calls ((rd_T67 x3_2 (ji8)).f0) ((rd_T67 x3_2 (ji8)).f1) ((rd_T67 x3_2 (ji11)).f0) ((rd_T67 x3_2 (ji11)).f1) ((rd_T67 l0 x8_1).f0) ((rd_T67 l0 x8_1).f1) t235 _ A14.out).mono ?_
               rintro e w24 ⟨rfl, hb⟩
               have HS2_ := (hb.cell (World.block_lt_of_cell? _ _ hHeld.2.2.1)).trans hHeld.2.2.1
               have HS3_ := (hb.cell (World.block_lt_of_cell? _ _ hHeld.2.2.2.1)).trans hHeld.2.2.2.1
               have HS4_ := (hb.cell (World.block_lt_of_cell? _ _ hHeld.2.2.2.2.1)).trans hHeld.2.2.2.2.1
               have HS5_ := (hb.cell (World.block_lt_of_cell? _ _ hHeld.2.2.2.2.2)).trans hHeld.2.2.2.2.2
               refine ⟨_, rfl, ?_⟩
               replace HO_3 := Ak (Kd.R_below (rq HO_3.out) hb)
               replace BK232 := Ak (blk_below (bq BK232.out) hb)
               replace HB := Ak (below_step (bw1 HB.out GE232.out) hb)
               refine hK.out _ _ ⟨zk0 BK232.out, zk1 BK232.out, HS2_, HS3_, HS4_, HS5_⟩ (fun hHeld => ?_)
               clear hK K
               refine norm_ (a' := ?_) ?_ ?_
               rotate_left
               ·show Act.put _ (some 29) _ = _
                simp only [Act.put, sT, sZ, sS, i64_w, i32_w]
                rfl
               refine pure_ (i := 18) (N := some 30) (v := ?_) (a' := ?_) #[true, true, true, true, true, true, true, true, true, true, true, true, true, true, true, true, true, true, true, false] rfl rfl (any_of HT_.out (by kernel_rfl)) (fun _ _ _ h => h) (Or.inl ⟨by rfl, ?_⟩) ?_ ?_
               rotate_left
               ·intro w'
                go_simp
                with_reducible rfl
               rotate_left
               ·simp only [Act.put, sT, sZ, sS, i64_w, i32_w]
                rfl
               refine pure_ (i := 19) (N := some 31) (v := ?_) (a' := ?_) #[true, true, true, true, true, true, true, true, true, true, true, true, true, true, true, true, true, true, true, true] rfl rfl (any_of HT_.out (by kernel_rfl)) (fun _ _ _ h => h) (Or.inl ⟨by rfl, ?_⟩) ?_ ?_
               rotate_left
               ·intro w'
                go_simp
                with_reducible rfl
               rotate_left
               ·simp only [Act.put, sT, sZ, sS, i64_w, i32_w]
                rfl
               refine done_ (done_of HT_.out (by kernel_rfl)) ?_
               have hcz25_0 := zk0 BK232.out
               have hcz25_1 := zk1 BK232.out
               have hfz25_0 := blk_frozen BK232.out 0
               have hfz25_1 := blk_frozen BK232.out 1
               try go_wp2_with (first | ((with_reducible refine gate_builtin (b := .append) (xs := #[.tmp 37, .tmp 39]) rfl ?_); (try (refine gate_guard (by rfl) ?_; dsimp only)); at_builtin; refine Kd.R_append k67 (w0 := w) w.heap.size rfl (.tmp 37) (.tmp 39) 58 67 (.agg #[(.int .i64 0), (.int .i64 0)]) 16 rfl Try.underlying58 info67 rfl (by decide) (by omega) (.slice (some ad233) x3_2.length co23) x3_2 (⟨((rd_T67 l0 x8_1).f0), ((rd_T67 l0 x8_1).f1)⟩ : S67) [.int .i64 ((rd_T67 l0 x8_1).f0), .int .i64 ((rd_T67 l0 x8_1).f1)] (fun k_ => k_ ≠ gb232) (fun _ => False) rfl rfl ?aP (fun _ hk => hk.elim) ?aF ?aO ?aB ?aS ?aL ?_; (case aP => exact k67_mkM _ _ _ (⟨((rd_T67 l0 x8_1).f0), ((rd_T67 l0 x8_1).f1)⟩ : S67)); (case aB => exact (bw1 HB.out GE232.out)); (case aF => exact (fun k_ hk => Kd.freshB (g := gb232) (o := .cells #[.int .i64 ((rd_T67 l0 x8_1).f0), .int .i64 ((rd_T67 l0 x8_1).f1)] 67 (0, 0)) (bq BK232.out) k_ hk)); (case aO => exact (rq HO_3.out)); (case aS => exact (below_size (bw1 HB.out GE232.out))); (case aL => have := LMc21.out; omega); intro v240 w26 ho hb hg hat; rw [← Ny239.out] at ho; replace BK232 := Ak (blk_grown (g := gb232) (o := .cells #[.int .i64 ((rd_T67 l0 x8_1).f0), .int .i64 ((rd_T67 l0 x8_1).f1)] 67 (0, 0)) (bq BK232.out) hg (Kd.R_away HO_3.out (fun _ hk => hk))); replace HB := Ak (hb); have HO241 := Ak (ho); clear HO_3; clear ho hb hg hat))
               go_roundg k2
               case measure => have := HK1.out; have := HK2.out; omega
               case rel => exact ⟨(y239), (wrap64 (x8_1 + 1)), (by first | rfl | (simp; done) | (simp [*]; done)), H', ⟨by have := HK1.out; have := HK2.out; omega⟩, ⟨by refine rq ?_; exact Kd.R_mono HO241.out (fun _ hk => trivial)⟩, ⟨bw1 HB.out GE232.out⟩⟩
              ·rw [if_neg c21] at H
               exact absurd H (by simp)
            ·rw [if_neg c13] at H
             exact absurd H (by simp)
           ·rw [if_neg c12] at H
            exact absurd H (by simp)
          ·rw [if_neg c10] at H
           exact absurd H (by simp)
         ·rw [if_neg c9] at H
          exact absurd H (by simp)
        ·rw [if_neg c7] at H
         have c7b0 : decide (1 < (x3_2.length : Int)) = false := decide_eq_false c7
         have c7b1 : decide (1 < x3_2.length) = false := decide_eq_false (by omega)
         clear c7
         by_cases c27 : x3_2.length < 8796093022208
         ·rw [if_pos c27] at H
          have LMc27 := Ak c27
          clear c27
          obtain ⟨y242, hy242⟩ : ∃ y_ : List (S67), y_ = (x3_2 ++ [(⟨((rd_T67 l0 x8_1).f0), ((rd_T67 l0 x8_1).f1)⟩ : S67)]) := ⟨_, rfl⟩
          replace H : (impl_chainOf.l0 k2 y242 l0 (l0.length : Int) (wrap64 (x8_1 + 1))) = some r := by first | (rw [hy242]; with_reducible exact H) | (have H2_ := (Option.bind_some _ _).symm.trans H; rw [hy242]; with_reducible exact H2_) | (have H2_ := (Option.bind_some _ _).symm.trans H; with_reducible exact H2_) | with_reducible exact H | (rw [hy242]; exact H) | exact H
          have Ny242 := Ak hy242
          clear hy242
          have H' := Ak H
          clear H
          try go_wp2
          replace HO_3 := Ak (Kd.R_drew HO_3.out)
          replace BK232 := Ak (blk_drew BK232.out)
          replace HB := Ak (below_drew1 HB.out)
          obtain ⟨Ao29, co29, eo29⟩ := Kd.R_slice HO_3.out
          (first | subst eo29 | (injection eo29 with f1_ f2_ f3_; have f4_ := f1_.symm; have f5_ := f3_.symm; clear f1_ f2_ f3_; subst f4_; subst f5_))
          refine start_ (n := 20) (S := fun w' => True) (ds := []) #[false, false, false, false, false, false, false, false, false, false, false, false, false, false, false, false, false, false, false, false] (by kernel_rfl) rfl rfl trivial (fun hHeld => ?_); refine with_tabW impl_chainOf.tab5 impl_chainOf.bits5 (fun HT_ HW_ => ?_)
          generalize wr.drew = w28 at HO_3 BK232 HB hHeld ⊢
          refine pure_ (i := 0) (N := some 12) (v := ?_) (a' := ?_) #[true, false, false, false, false, false, false, false, false, false, false, false, false, false, false, false, false, false, false, false] rfl rfl (any_of HT_.out (by kernel_rfl)) (fun _ _ _ h => h) (Or.inl ⟨by rfl, ?_⟩) ?_ ?_
          rotate_left
          ·intro w'
           go_simp
           with_reducible rfl
          rotate_left
          ·simp only [Act.put, sT, sZ, sS, i64_w, i32_w]
           rfl
          refine pure_ (i := 1) (N := some 13) (v := ?_) (a' := ?_) #[true, true, false, false, false, false, false, false, false, false, false, false, false, false, false, false, false, false, false, false] rfl rfl (any_of HT_.out (by kernel_rfl)) (fun _ _ _ h => h) (Or.inl ⟨by rfl, ?_⟩) ?_ ?_
          rotate_left
          ·intro w'
           go_simp
           with_reducible rfl
          rotate_left
          ·simp only [Act.put, sT, sZ, sS, i64_w, i32_w]
           rfl
          refine pure_ (i := 2) (N := some 14) (v := ?_) (a' := ?_) #[true, true, true, false, false, false, false, false, false, false, false, false, false, false, false, false, false, false, false, false] rfl rfl (any_of HT_.out (by kernel_rfl)) (fun _ _ _ h => h) (Or.inl ⟨by rfl, ?_⟩) ?_ ?_
          rotate_left
          ·intro w'
           go_simp
           with_reducible rfl
          rotate_left
          ·simp only [Act.put, sT, sZ, sS, i64_w, i32_w]
           rfl
          refine pure_ (i := 3) (N := some 15) (v := ?_) (a' := ?_) #[true, true, true, true, false, false, false, false, false, false, false, false, false, false, false, false, false, false, false, false] rfl rfl (any_of HT_.out (by kernel_rfl)) (fun _ _ _ h => h) (Or.inl ⟨by rfl, ?_⟩) ?_ ?_
          rotate_left
          ·intro w'
           go_simp
           with_reducible rfl
          rotate_left
          ·simp only [Act.put, sT, sZ, sS, i64_w, i32_w]
           rfl
          refine pure_ (i := 4) (N := some 16) (v := undef) (a' := ?_) #[true, true, true, true, true, false, false, false, false, false, false, false, false, false, false, false, false, false, false, false] rfl rfl (any_of HT_.out (by kernel_rfl)) (fun _ _ _ h => h) (Or.inr ⟨by rfl, rfl⟩) ?_ ?_
          rotate_left
          ·simp only [Act.put, sT, sZ, sS, i64_w, i32_w]
           rfl
          refine pure_ (i := 5) (N := some 17) (v := undef) (a' := ?_) #[true, true, true, true, true, true, false, false, false, false, false, false, false, false, false, false, false, false, false, false] rfl rfl (any_of HT_.out (by kernel_rfl)) (fun _ _ _ h => h) (Or.inr ⟨by rfl, rfl⟩) ?_ ?_
          rotate_left
          ·simp only [Act.put, sT, sZ, sS, i64_w, i32_w]
           rfl
          refine pure_ (i := 6) (N := some 18) (v := undef) (a' := ?_) #[true, true, true, true, true, true, true, false, false, false, false, false, false, false, false, false, false, false, false, false] rfl rfl (any_of HT_.out (by kernel_rfl)) (fun _ _ _ h => h) (Or.inr ⟨by rfl, rfl⟩) ?_ ?_
          rotate_left
          ·simp only [Act.put, sT, sZ, sS, i64_w, i32_w]
           rfl
          refine pure_ (i := 7) (N := some 19) (v := undef) (a' := ?_) #[true, true, true, true, true, true, true, true, false, false, false, false, false, false, false, false, false, false, false, false] rfl rfl (any_of HT_.out (by kernel_rfl)) (fun _ _ _ h => h) (Or.inr ⟨by rfl, rfl⟩) ?_ ?_
          rotate_left
          ·simp only [Act.put, sT, sZ, sS, i64_w, i32_w]
           rfl
          refine pure_ (i := 8) (N := some 20) (v := undef) (a' := ?_) #[true, true, true, true, true, true, true, true, true, false, false, false, false, false, false, false, false, false, false, false] rfl rfl (any_of HT_.out (by kernel_rfl)) (fun _ _ _ h => h) (Or.inr ⟨by rfl, rfl⟩) ?_ ?_
          rotate_left
          ·simp only [Act.put, sT, sZ, sS, i64_w, i32_w]
           rfl
          refine pure_ (i := 9) (N := some 21) (v := undef) (a' := ?_) #[true, true, true, true, true, true, true, true, true, true, false, false, false, false, false, false, false, false, false, false] rfl rfl (any_of HT_.out (by kernel_rfl)) (fun _ _ _ h => h) (Or.inr ⟨by rfl, rfl⟩) ?_ ?_
          rotate_left
          ·simp only [Act.put, sT, sZ, sS, i64_w, i32_w]
           rfl
          refine pure_ (i := 10) (N := some 22) (v := undef) (a' := ?_) #[true, true, true, true, true, true, true, true, true, true, true, false, false, false, false, false, false, false, false, false] rfl rfl (any_of HT_.out (by kernel_rfl)) (fun _ _ _ h => h) (Or.inr ⟨by rfl, rfl⟩) ?_ ?_
          rotate_left
          ·simp only [Act.put, sT, sZ, sS, i64_w, i32_w]
           rfl
          refine pure_ (i := 11) (N := some 23) (v := undef) (a' := ?_) #[true, true, true, true, true, true, true, true, true, true, true, true, false, false, false, false, false, false, false, false] rfl rfl (any_of HT_.out (by kernel_rfl)) (fun _ _ _ h => h) (Or.inr ⟨by rfl, rfl⟩) ?_ ?_
          rotate_left
          ·simp only [Act.put, sT, sZ, sS, i64_w, i32_w]
           rfl
          refine pure_ (i := 12) (N := some 24) (v := undef) (a' := ?_) #[true, true, true, true, true, true, true, true, true, true, true, true, true, false, false, false, false, false, false, false] rfl rfl (any_of HT_.out (by kernel_rfl)) (fun _ _ _ h => h) (Or.inr ⟨by rfl, rfl⟩) ?_ ?_
          rotate_left
          ·simp only [Act.put, sT, sZ, sS, i64_w, i32_w]
           rfl
          refine pure_ (i := 13) (N := some 25) (v := undef) (a' := ?_) #[true, true, true, true, true, true, true, true, true, true, true, true, true, true, false, false, false, false, false, false] rfl rfl (any_of HT_.out (by kernel_rfl)) (fun _ _ _ h => h) (Or.inr ⟨by rfl, rfl⟩) ?_ ?_
          rotate_left
          ·simp only [Act.put, sT, sZ, sS, i64_w, i32_w]
           rfl
          refine pure_ (i := 14) (N := some 26) (v := undef) (a' := ?_) #[true, true, true, true, true, true, true, true, true, true, true, true, true, true, true, false, false, false, false, false] rfl rfl (any_of HT_.out (by kernel_rfl)) (fun _ _ _ h => h) (Or.inr ⟨by rfl, rfl⟩) ?_ ?_
          rotate_left
          ·simp only [Act.put, sT, sZ, sS, i64_w, i32_w]
           rfl
          refine pure_ (i := 15) (N := some 27) (v := undef) (a' := ?_) #[true, true, true, true, true, true, true, true, true, true, true, true, true, true, true, true, false, false, false, false] rfl rfl (any_of HT_.out (by kernel_rfl)) (fun _ _ _ h => h) (Or.inr ⟨by rfl, rfl⟩) ?_ ?_
          rotate_left
          ·simp only [Act.put, sT, sZ, sS, i64_w, i32_w]
           rfl
          refine pure_ (i := 16) (N := some 28) (v := undef) (a' := ?_) #[true, true, true, true, true, true, true, true, true, true, true, true, true, true, true, true, true, false, false, false] rfl rfl (any_of HT_.out (by kernel_rfl)) (fun _ _ _ h => h) (Or.inr ⟨by rfl, rfl⟩) ?_ ?_
          rotate_left
          ·simp only [Act.put, sT, sZ, sS, i64_w, i32_w]
           rfl
          refine pure_ (i := 17) (N := some 29) (v := undef) (a' := ?_) #[true, true, true, true, true, true, true, true, true, true, true, true, true, true, true, true, true, true, false, false] rfl rfl (any_of HT_.out (by kernel_rfl)) (fun _ _ _ h => h) (Or.inr ⟨by rfl, rfl⟩) ?_ ?_
          rotate_left
          ·simp only [Act.put, sT, sZ, sS, i64_w, i32_w]
           rfl
          refine pure_ (i := 18) (N := some 30) (v := undef) (a' := ?_) #[true, true, true, true, true, true, true, true, true, true, true, true, true, true, true, true, true, true, true, false] rfl rfl (any_of HT_.out (by kernel_rfl)) (fun _ _ _ h => h) (Or.inr ⟨by rfl, rfl⟩) ?_ ?_
          rotate_left
          ·simp only [Act.put, sT, sZ, sS, i64_w, i32_w]
           rfl
          refine pure_ (i := 19) (N := some 31) (v := ?_) (a' := ?_) #[true, true, true, true, true, true, true, true, true, true, true, true, true, true, true, true, true, true, true, true] rfl rfl (any_of HT_.out (by kernel_rfl)) (fun _ _ _ h => h) (Or.inl ⟨by rfl, ?_⟩) ?_ ?_
          rotate_left
          ·intro w'
           go_simp
           with_reducible rfl
          rotate_left
          ·simp only [Act.put, sT, sZ, sS, i64_w, i32_w]
           rfl
          refine done_ (done_of HT_.out (by kernel_rfl)) ?_
          have hcz30_0 := zk0 BK232.out
          have hcz30_1 := zk1 BK232.out
          have hfz30_0 := blk_frozen BK232.out 0
          have hfz30_1 := blk_frozen BK232.out 1
          try go_wp2_with (first | ((with_reducible refine gate_builtin (b := .append) (xs := #[.tmp 37, .tmp 39]) rfl ?_); (try (refine gate_guard (by rfl) ?_; dsimp only)); at_builtin; refine Kd.R_append k67 (w0 := w) w.heap.size rfl (.tmp 37) (.tmp 39) 58 67 (.agg #[(.int .i64 0), (.int .i64 0)]) 16 rfl Try.underlying58 info67 rfl (by decide) (by omega) (.slice Ao29 x3_2.length co29) x3_2 (⟨((rd_T67 l0 x8_1).f0), ((rd_T67 l0 x8_1).f1)⟩ : S67) [.int .i64 ((rd_T67 l0 x8_1).f0), .int .i64 ((rd_T67 l0 x8_1).f1)] (fun k_ => k_ ≠ gb232) (fun _ => False) rfl rfl ?aP (fun _ hk => hk.elim) ?aF ?aO ?aB ?aS ?aL ?_; (case aP => exact k67_mkM _ _ _ (⟨((rd_T67 l0 x8_1).f0), ((rd_T67 l0 x8_1).f1)⟩ : S67)); (case aB => exact (bw1 HB.out GE232.out)); (case aF => exact (fun k_ hk => Kd.freshB (g := gb232) (o := .cells #[.int .i64 ((rd_T67 l0 x8_1).f0), .int .i64 ((rd_T67 l0 x8_1).f1)] 67 (0, 0)) (bq BK232.out) k_ hk)); (case aO => exact (rq HO_3.out)); (case aS => exact (below_size (bw1 HB.out GE232.out))); (case aL => have := LMc27.out; omega); intro v243 w31 ho hb hg hat; rw [← Ny242.out] at ho; replace BK232 := Ak (blk_grown (g := gb232) (o := .cells #[.int .i64 ((rd_T67 l0 x8_1).f0), .int .i64 ((rd_T67 l0 x8_1).f1)] 67 (0, 0)) (bq BK232.out) hg (Kd.R_away HO_3.out (fun _ hk => hk))); replace HB := Ak (hb); have HO244 := Ak (ho); clear HO_3; clear ho hb hg hat))
          go_roundg k2
          case measure => have := HK1.out; have := HK2.out; omega
          case rel => exact ⟨(y242), (wrap64 (x8_1 + 1)), (by first | rfl | (simp; done) | (simp [*]; done)), H', ⟨by have := HK1.out; have := HK2.out; omega⟩, ⟨by refine rq ?_; exact Kd.R_mono HO244.out (fun _ hk => trivial)⟩, ⟨bw1 HB.out GE232.out⟩⟩
         ·rw [if_neg c27] at H
          exact absurd H (by simp)
     ·rw [if_neg c4] at H
      exact absurd H (by simp)
    ·rw [if_neg c3] at H
     exact absurd H (by simp)
   ·rw [if_neg c2] at H
    have c2b0 : decide (x8_1 < (l0.length : Int)) = false := decide_eq_false c2
    clear c2
    obtain rfl := Option.some.inj H
    go_wp2
    go_ret
    exact ⟨_, zw, rq HO_3.out, bw HB.out⟩

end Go.Proofs.Ytgmnphckgicadaa.PFnHulls
