/- Functions that the law reaches, with their contracts. -/
import Derived.Test.YtgmnphckgicadaaQFnExactLogAddx14
import Derived.Test.YtgmnphckgicadaaQFnExactLogAddx16
namespace Go.Proofs.Ytgmnphckgicadaa.PFnExactLogAdd
open Go.RowKit Go.Proofs.YtgmnphckgicadaaW.PrintWords Go.Proofs.YtgmnphckgicadaaW.PrintLast Go.Proofs.YtgmnphckgicadaaW.PrintMore
attribute [local go_sem] max2_int min2_int max_two min_two max_three min_three max_four min_four
set_option linter.unusedVariables false
set_option linter.unusedSimpArgs false

mutual
def impl_LogWrites.j0 : Nat → List Int → Int → Bool → Int → Int → Int → Int → Option ((List (S96)))
 | 0, _, _, _, _, _, _, _ => none
 | k + 1, x1, x5, x19, x326000, x326001, x326002, x326003 => if x19 = true then (some ([] : List (S96))) else (impl_LogWrites.l0 k x1 x5 ([] : List (S96)) x5 0 x326000 x326001 x326002 x326003)
def impl_LogWrites.l0 : Nat → List Int → Int → List (S96) → Int → Int → Int → Int → Int → Int → Option ((List (S96)))
 | 0, _, _, _, _, _, _, _, _, _ => none
 | k + 1, x1, x5, x6, x20, x21, x326000, x326001, x326002, x326003 => if x21 < x20 then (if 0 ≤ (wrap64 (x21 * 44)) then (if (wrap64 (x21 * 44)) ≤ (x1.length : Int) then (if x21 = (wrap64 (x5 - 1)) then ((impl_sector_bytes.f k x326003 (wrap64 (x326002 + x21)) 2 (x1.drop ((wrap64 (x21 * 44)) : Int).toNat)).bind fun t330 => (if x6.length < 4398046511104 then (impl_LogWrites.l0 k x1 x5 (x6 ++ [(⟨wrap64 ((wrap64 (x326000 + x326002)) + x21), t330⟩ : S96)]) x20 (wrap64 (x21 + 1)) x326000 x326001 x326002 x326003) else (none))) else (if 44 ≤ ((x1.drop ((wrap64 (x21 * 44)) : Int).toNat).length : Int) then ((impl_sector_bytes.f k x326003 (wrap64 (x326002 + x21)) 1 ((x1.drop ((wrap64 (x21 * 44)) : Int).toNat).take 44)).bind fun t337 => (if x6.length < 4398046511104 then (impl_LogWrites.l0 k x1 x5 (x6 ++ [(⟨wrap64 ((wrap64 (x326000 + x326002)) + x21), t337⟩ : S96)]) x20 (wrap64 (x21 + 1)) x326000 x326001 x326002 x326003) else (none))) else (none))) else (none)) else (none)) else (some x6)
end
def impl_LogWrites.f (k : Nat) (a0_0 : Int) (a0_1 : Int) (a0_2 : Int) (a0_3 : Int) (l1 : List Int) : Option ((List (S96))) := (impl_piecesOf.f l1).bind fun t326 => (if (l1.length : Int) > 4000 then (impl_LogWrites.j0 k l1 t326 true a0_0 a0_1 a0_2 a0_3) else ((impl_LogRoom.f a0_0 a0_1 a0_2 a0_3).bind fun t327 => (impl_LogWrites.j0 k l1 t326 (decide (t326 > t327)) a0_0 a0_1 a0_2 a0_3)))
def impl_LogWrites.T8 : Bool × List (List Nat × List Nat) := (true, [([], []), ([0], [0]), ([], []), ([2], [2]), ([], []), ([3, 4], [3, 4]), ([], []), ([], []), ([7], [7]), ([6, 8], [6, 8]), ([1, 5, 9], [1, 5, 9]), ([], []), ([11, 10, 0, 1, 2, 3, 4, 5, 6, 7, 8, 9, 10, 11], [10, 11])])
def impl_LogWrites.B8 : List Nat := [0, 1, 0, 4, 0, 28, 0, 0, 128, 448, 1023, 0, 4095]
theorem impl_LogWrites.tab8 : rtab .any (opsOf Try.f28 8) = impl_LogWrites.T8 := by kernel_rfl
theorem impl_LogWrites.bits8 : waitsOk impl_LogWrites.T8.2 impl_LogWrites.B8 = true := by kernel_rfl
def impl_LogWrites.T12 : Bool × List (List Nat × List Nat) := (true, [([], []), ([], []), ([1], [1]), ([], []), ([3], [3]), ([2, 4], [2, 4]), ([], []), ([5, 6], [5, 6]), ([], []), ([8], [8]), ([7, 9], [7, 9]), ([10], [10]), ([0, 11, 9], [0, 11]), ([12, 12, 0, 1, 2, 3, 4, 5, 6, 7, 8, 9, 10, 11, 12], [0, 12])])
def impl_LogWrites.B12 : List Nat := [0, 0, 2, 0, 8, 30, 0, 126, 0, 256, 1022, 2046, 4095, 8191]
theorem impl_LogWrites.tab12 : rtab .any (opsOf Try.f28 12) = impl_LogWrites.T12 := by kernel_rfl
theorem impl_LogWrites.bits12 : waitsOk impl_LogWrites.T12.2 impl_LogWrites.B12 = true := by kernel_rfl
set_option maxHeartbeats 8000000 in
set_option maxRecDepth 100000 in
theorem impl_LogWrites.calls (k : Nat) (a0_0 : Int) (a0_1 : Int) (a0_2 : Int) (a0_3 : Int) (A1 : Option Addr) (c1 : Nat) (l1 : List Int) (r : List (S96)) (w : World) (hr1 : Kd.C (Kd.int .u8) w A1 l1.length l1) (hc1 : l1.length ≤ c1) (h : impl_LogWrites.f k a0_0 a0_1 a0_2 a0_3 l1 = some r) :
  Calls Try.prog 28 #[.agg #[.int .i64 a0_0, .int .i64 a0_1, .int .i64 a0_2, .int .i64 a0_3], .slice A1 l1.length c1] w fun e w' => ∃ v0_ : Value, e = .returned (v0_) ∧ Kd.S k96 96 w' w.heap.size (fun _ => True) v0_ r ∧ Below w.heap.size w w' := by
 have hu32 := Try.underlying32
 have hu93 := Try.underlying93
 have hu96 := Try.underlying96
 have HR1 := Ak hr1
 have HC1 := Ak hc1
 clear hr1 hc1
 have HB := Ak (Below.refl w.heap.size w)
 have H : ((impl_piecesOf.f l1).bind fun t326 => (if (l1.length : Int) > 4000 then (impl_LogWrites.j0 k l1 t326 true a0_0 a0_1 a0_2 a0_3) else ((impl_LogRoom.f a0_0 a0_1 a0_2 a0_3).bind fun t327 => (impl_LogWrites.j0 k l1 t326 (decide (t326 > t327)) a0_0 a0_1 a0_2 a0_3)))) = some r := h
 clear h
 replace H := Option.bind_eq_some_iff.mp H
 obtain ⟨t326, A30, H⟩ := H
 have A3 := Ak A30
 clear A30
 have HC4 := Ak H
 clear H
 go_enter Try.func28, Try.ntmps28
 go_upto_region 2 with (first | ((with_reducible refine gate_dst (N := 2) rfl ?_); refine box_event ?hg (N := 2) ?hd (cs := #[.int .i64 a0_0, .int .i64 a0_1, .int .i64 a0_2, .int .i64 a0_3]) (t := 32) ?hr ?_; (case hd => rfl); (case hg => rfl); (case hr => first | (go_simp; done) | (go_simp; rfl)); intro gb325 hg w5 hbox hb; have BK325 := Ak (hbox); have GW325 := Ak (zb hg (bw HB.out)); have GE325 := Ak (zb hg (bw HB.out)); replace HB := Ak (below_step (bw HB.out) hb); clear hb hbox hg) | ((with_reducible refine gate_callee (f := 65) rfl ?_); refine goesL_ (some 10) rfl rfl Try.func65 (by kernel_rfl) rfl #[.slice A1 l1.length c1] rfl gm ?_; (with_reducible refine (impl_piecesOf.calls _ _ l1 t326 _ ?side1 ?side2 A3.out).mono ?_); (case side1 => exact zq (Kd.C_below HR1.out HB.out)); (case side2 => exact HC1.out); rintro e w6 ⟨rfl, hb⟩; refine ⟨_, rfl, ?_⟩; replace BK325 := Ak (blk_below (bq BK325.out) hb); replace HB := Ak (below_step (bw1 HB.out GE325.out) hb)))
 (try simp only [Act.put, sT, sZ, sS])
 go_cut [19] (fun v19 wc => ∃ (kq : Nat) (x19_3 : Bool), v19 = .bool x19_3 ∧ Aside0 (impl_LogWrites.j0 kq l1 t326 x19_3 a0_0 a0_1 a0_2 a0_3 = some r) ∧ Aside0 (kq ≤ k) ∧ Aside0 (wc.heap[gb325]? = some (.cells #[.int .i64 a0_0, .int .i64 a0_1, .int .i64 a0_2, .int .i64 a0_3] 32 (0, 0))) ∧ Aside0 (Below w.heap.size w wc))
 case first =>
  have H := HC4.out
  clear HC4
  by_cases c7 : (l1.length : Int) > 4000
  ·rw [if_pos c7] at H
   have c7b0 : decide (4000 < (l1.length : Int)) = true := decide_eq_true c7
   have c7b1 : decide (4000 < l1.length) = true := decide_eq_true (by omega)
   clear c7
   (first | rw [c7b0] | (simp only [i64_w, i32_w]; rw [c7b0]) | skip)
   have H' := Ak H
   clear H
   go_wp2
   go_meet
   case rel => exact ⟨_, (true), (by first | rfl | (simp; done) | (simp [*]; done)), H', ⟨by first | omega | exact Nat.le_refl _⟩, ⟨bq BK325.out⟩, ⟨bw1 HB.out GE325.out⟩⟩
  ·rw [if_neg c7] at H
   have c7b0 : decide (4000 < (l1.length : Int)) = false := decide_eq_false c7
   have c7b1 : decide (4000 < l1.length) = false := decide_eq_false (by omega)
   clear c7
   (first | rw [c7b0] | (simp only [i64_w, i32_w]; rw [c7b0]) | skip)
   replace H := Option.bind_eq_some_iff.mp H
   obtain ⟨t327, A80, H⟩ := H
   have A8 := Ak A80
   clear A80
   have H' := Ak H
   clear H
   have hcz9_0 := zk0 BK325.out
   have hcz9_1 := zk1 BK325.out
   have hcz9_2 := zk2 BK325.out
   have hcz9_3 := zk3 BK325.out
   have hfz9_0 := blk_frozen BK325.out 0
   have hfz9_1 := blk_frozen BK325.out 1
   have hfz9_2 := blk_frozen BK325.out 2
   have hfz9_3 := blk_frozen BK325.out 3
   go_wp2_with (first | (go_at_call 27; (with_reducible refine (impl_LogRoom.calls a0_0 a0_1 a0_2 a0_3 t327 _ A8.out).mono ?_); rintro e w10 ⟨rfl, hb⟩; replace BK325 := Ak (blk_below (bq BK325.out) hb); replace HB := Ak (below_step (bw1 HB.out GE325.out) hb)))
   go_meet
   case rel => exact ⟨_, (decide (t326 > t327)), (by first | rfl | (simp; done) | (simp [*]; done)), H', ⟨by first | omega | exact Nat.le_refl _⟩, ⟨bq BK325.out⟩, ⟨bw1 HB.out GE325.out⟩⟩
 case rest =>
  clear HC4
  try clear c7b0
  try clear c7b1
  obtain ⟨kq, x19_3, rfl, HA, HJ3, BK325, HB⟩ := hcut
  cases kq with
  | zero => exact absurd HA.out (by simp [impl_LogWrites.j0])
  | succ kj3 =>
   have H := HA.out
   clear HA
   simp only [impl_LogWrites.j0] at H
   by_cases c11 : x19_3 = true
   ·subst c11
    have H1 : (some ([] : List (S96))) = some r := by rw [if_pos rfl] at H; exact H
    clear H
    have H := H1
    clear H1
    obtain rfl := Option.some.inj H
    go_wp2
    go_ret
    exact ⟨_, zw, by first | exact Kd.S_nil _ _ _ _ _ | exact Kd.N_nil _ _ _ _ _ | exact Kd.V_nil _ _ _ _ _ | exact Kd.Q_nil _ _ _ _ _ | exact Kd.R_nil _ _ _ _ _, bw1 HB.out GE325.out⟩
   ·replace c11 := Bool.eq_false_iff.mpr c11
    subst c11
    have H1 : (impl_LogWrites.l0 kj3 l1 t326 ([] : List (S96)) t326 0 a0_0 a0_1 a0_2 a0_3) = some r := by rw [if_neg (show ¬ (false = true) by decide)] at H; exact H
    clear H
    have H := H1
    clear H1
    have H' := Ak H
    clear H
    go_wp2
    go_loopg [6, 21] kj3 (fun kq v6 v21 w' => ∃ (x6_2 : List (S96)) (x21_2 : Int), v21 = .int .i64 x21_2 ∧ Aside0 (impl_LogWrites.l0 kq l1 t326 x6_2 t326 x21_2 a0_0 a0_1 a0_2 a0_3 = some r) ∧ Aside0 (kq ≤ kj3) ∧ Aside0 (Kd.S k96 96 w' w.heap.size (fun _ => True) v6 x6_2) ∧ Aside0 (w'.heap[gb325]? = some (.cells #[.int .i64 a0_0, .int .i64 a0_1, .int .i64 a0_2, .int .i64 a0_3] 32 (0, 0))) ∧ Aside0 (Below w.heap.size w w'))
    case atStart => exact ⟨(([] : List (S96))), (0), (by first | rfl | (simp; done) | (simp [*]; done)), H', ⟨Nat.le_refl _⟩, ⟨by first | exact Kd.S_nil _ _ _ _ _ | exact Kd.N_nil _ _ _ _ _ | exact Kd.V_nil _ _ _ _ _ | exact Kd.Q_nil _ _ _ _ _ | exact Kd.R_nil _ _ _ _ _⟩, ⟨bq BK325.out⟩, ⟨bw1 HB.out GE325.out⟩⟩
    case round =>
     clear H'
     try clear c7b0
     try clear c7b1
     obtain ⟨x6_2, x21_2, rfl, HA, HK2, HO_6, BK325, HB⟩ := hrel
     cases gk with
     | zero => exact absurd HA.out (by simp [impl_LogWrites.l0])
     | succ k2 =>
      have H := HA.out
      clear HA
      simp only [impl_LogWrites.l0] at H
      by_cases c12 : x21_2 < t326
      ·rw [if_pos c12] at H
       have c12b0 : decide (x21_2 < t326) = true := decide_eq_true c12
       clear c12
       obtain ⟨ji13, hji13⟩ : ∃ j_ : Int, (wrap64 (x21_2 * 44)) = j_ := ⟨_, rfl⟩
       replace H : (if 0 ≤ (ji13) then (if (ji13) ≤ (l1.length : Int) then (if x21_2 = (wrap64 (t326 - 1)) then ((impl_sector_bytes.f k2 a0_3 (wrap64 (a0_2 + x21_2)) 2 (l1.drop ((ji13) : Int).toNat)).bind fun t330 => (if x6_2.length < 4398046511104 then (impl_LogWrites.l0 k2 l1 t326 (x6_2 ++ [(⟨wrap64 ((wrap64 (a0_0 + a0_2)) + x21_2), t330⟩ : S96)]) t326 (wrap64 (x21_2 + 1)) a0_0 a0_1 a0_2 a0_3) else (none))) else (if 44 ≤ ((l1.drop ((ji13) : Int).toNat).length : Int) then ((impl_sector_bytes.f k2 a0_3 (wrap64 (a0_2 + x21_2)) 1 ((l1.drop ((ji13) : Int).toNat).take 44)).bind fun t337 => (if x6_2.length < 4398046511104 then (impl_LogWrites.l0 k2 l1 t326 (x6_2 ++ [(⟨wrap64 ((wrap64 (a0_0 + a0_2)) + x21_2), t337⟩ : S96)]) t326 (wrap64 (x21_2 + 1)) a0_0 a0_1 a0_2 a0_3) else (none))) else (none))) else (none)) else (none)) = some r := by first | (rw [hji13] at H; exact H) | (simp only [hji13] at H ⊢; exact H)
       have hji13w : (IntKind.i64.wrap (x21_2 * 44)) = ji13 := (i64_w _).trans hji13
       by_cases c14 : 0 ≤ (ji13)
       ·rw [if_pos c14] at H
        have c14b0 := eq_true c14
        have c14b1 : decide (0 ≤ (ji13)) = true := decide_eq_true c14
        clear c14
        by_cases c15 : (ji13) ≤ (l1.length : Int)
        ·rw [if_pos c15] at H
         have c15b0 := eq_true c15
         have c15b1 : decide ((ji13) ≤ (l1.length : Int)) = true := decide_eq_true c15
         clear c15
         by_cases c16 : x21_2 = (wrap64 (t326 - 1))
         ·rw [if_pos c16] at H
          have c16b0 : (x21_2 == (wrap64 (t326 - 1))) = true := beq_iff_eq.mpr c16
          have c16b1 : (x21_2 != (wrap64 (t326 - 1))) = false := bne_eq_false_iff_eq.mpr c16
          clear c16
          replace H := Option.bind_eq_some_iff.mp H
          obtain ⟨t330, A170, H⟩ := H
          have A17 := Ak A170
          clear A170
          by_cases c18 : x6_2.length < 4398046511104
          ·rw [if_pos c18] at H
           have LMc18 := Ak c18
           clear c18
           obtain ⟨y333, hy333⟩ : ∃ y_ : List (S96), y_ = (x6_2 ++ [(⟨wrap64 ((wrap64 (a0_0 + a0_2)) + x21_2), t330⟩ : S96)]) := ⟨_, rfl⟩
           replace H : (impl_LogWrites.l0 k2 l1 t326 y333 t326 (wrap64 (x21_2 + 1)) a0_0 a0_1 a0_2 a0_3) = some r := by first | (rw [hy333]; with_reducible exact H) | (have H2_ := (Option.bind_some _ _).symm.trans H; rw [hy333]; with_reducible exact H2_) | (have H2_ := (Option.bind_some _ _).symm.trans H; with_reducible exact H2_) | with_reducible exact H | (rw [hy333]; exact H) | exact H
           have Ny333 := Ak hy333
           clear hy333
           have H' := Ak H
           clear H
           try go_wp2
           replace HO_6 := Ak (Kd.S_drew HO_6.out)
           replace BK325 := Ak (blk_drew BK325.out)
           replace HB := Ak (below_drew1 HB.out)
           obtain ⟨i020, hi020, _, hsz20, _⟩ := info_parts info5
           obtain ⟨A20, hcut20, hA20, hC20⟩ := print_drop_of (P := Try.prog) (Value.int .u8) 0 22 5 .i64 Try.underlying22 hi020 hsz20 A1 c1 l1 (ji13) (of_decide_eq_true (by first | (with_reducible assumption) | assumption)) (of_decide_eq_true (by first | (with_reducible assumption) | assumption)) HC1.out
           have HR328 := Ak (Kd.C_of_reads (h1 := fun _ => rfl) (hA20 _ (Kd.reads_of_C HR1.out)))
           have HC328 := Ak hC20
           clear hA20 hC20 hi020 hsz20
           refine start_ (n := 13) (S := fun w' => w'.cell? ⟨gb325, 0, none⟩ = some (.int .i64 a0_0) ∧ w'.cell? ⟨gb325, 1, none⟩ = some (.int .i64 a0_1) ∧ w'.cell? ⟨gb325, 2, none⟩ = some (.int .i64 a0_2) ∧ w'.cell? ⟨gb325, 3, none⟩ = some (.int .i64 a0_3)) (ds := []) #[false, false, false, false, false, false, false, false, false, false, false, false, false] (by kernel_rfl) rfl rfl ⟨zk0 BK325.out, zk1 BK325.out, zk2 BK325.out, zk3 BK325.out⟩ (fun hHeld => ?_); refine with_tabW impl_LogWrites.tab8 impl_LogWrites.bits8 (fun HT_ HW_ => ?_)
           generalize wr.drew = w19 at HO_6 BK325 HB HR328 hHeld ⊢
           refine pure_ (i := 0) (N := some 24) (v := ?_) (a' := ?_) #[true, false, false, false, false, false, false, false, false, false, false, false, false] rfl rfl (any_of HT_.out (by kernel_rfl)) (fun _ _ _ h => h) (Or.inl ⟨by rfl, ?_⟩) ?_ ?_
           rotate_left
           ·intro w'
            go_simp
            with_reducible rfl
           rotate_left
           ·simp only [Act.put, sT, sZ, sS, i64_w, i32_w]
            rfl
           refine pure_ (i := 2) (N := some 26) (v := ?_) (a' := ?_) #[true, false, true, false, false, false, false, false, false, false, false, false, false] rfl rfl (any_of HT_.out (by kernel_rfl)) (fun _ _ _ h => h) (Or.inl ⟨by rfl, ?_⟩) ?_ ?_
           rotate_left
           ·intro w'
            go_simp
            with_reducible rfl
           rotate_left
           ·simp only [Act.put, sT, sZ, sS, i64_w, i32_w]
            rfl
           refine pure_ (i := 4) (N := some 28) (v := ?_) (a' := ?_) #[true, false, true, false, true, false, false, false, false, false, false, false, false] rfl rfl (any_of HT_.out (by kernel_rfl)) (fun _ _ _ h => h) (Or.inl ⟨by rfl, ?_⟩) ?_ ?_
           rotate_left
           ·intro w'
            go_simp
            with_reducible rfl
           rotate_left
           ·simp only [Act.put, sT, sZ, sS, i64_w, i32_w]
            rfl
           refine pure_ (i := 6) (N := some 30) (v := ?_) (a' := ?_) #[true, false, true, false, true, false, true, false, false, false, false, false, false] rfl rfl (any_of HT_.out (by kernel_rfl)) (fun _ _ _ h => h) (Or.inl ⟨by rfl, ?_⟩) ?_ ?_
           rotate_left
           ·intro w'
            go_simp
            with_reducible rfl
           rotate_left
           ·simp only [Act.put, sT, sZ, sS, i64_w, i32_w]
            rfl
           refine pure_ (i := 7) (N := some 31) (v := ?_) (a' := ?_) #[true, false, true, false, true, false, true, true, false, false, false, false, false] rfl rfl (any_of HT_.out (by kernel_rfl)) (fun _ _ _ h => h) (Or.inl ⟨by rfl, ?_⟩) ?_ ?_
           rotate_left
           ·intro w'
            go_simp
            with_reducible rfl
           rotate_left
           ·simp only [Act.put, sT, sZ, sS, i64_w, i32_w]
            rfl
           refine pure_ (i := 8) (N := some 32) (v := ?_) (a' := ?_) #[true, false, true, false, true, false, true, true, true, false, false, false, false] rfl rfl (any_of HT_.out (by kernel_rfl)) (fun _ _ _ h => h) (Or.inl ⟨by rfl, ?_⟩) ?_ ?_
           rotate_left
           ·intro w'
            go_simp
            with_reducible rfl
           rotate_left
           ·simp only [Act.put, sT, sZ, sS, i64_w, i32_w]
            rfl
           refine pure_ (i := 9) (N := some 33) (v := ?_) (a' := ?_) #[true, false, true, false, true, false, true, true, true, true, false, false, false] rfl rfl (any_of HT_.out (by kernel_rfl)) (fun _ _ _ h => h) (Or.inl ⟨by rfl, ?_⟩) ?_ ?_
           rotate_left
           ·intro w'
            go_simp
            with_reducible rfl
           rotate_left
           ·simp only [Act.put, sT, sZ, sS, i64_w, i32_w]
            rfl
           refine take_ (i := 1) (N := some 25) (v := ?_) (a' := ?_) #[true, true, true, false, true, false, true, true, true, true, false, false, false] rfl rfl (take_ofW HT_.out HW_.out (by kernel_rfl)) (fun _ _ _ h => h) (Or.inl ⟨by rfl, ?_⟩) hHeld ?_ ?_
           rotate_left
           ·rintro w' ⟨s0, s1, s2, s3⟩
            go_simp
            with_reducible rfl
           rotate_left
           ·simp only [Act.put, sT, sZ, sS, i64_w, i32_w]
            rfl
           refine take_ (i := 3) (N := some 27) (v := ?_) (a' := ?_) #[true, true, true, true, true, false, true, true, true, true, false, false, false] rfl rfl (take_ofW HT_.out HW_.out (by kernel_rfl)) (fun _ _ _ h => h) (Or.inl ⟨by rfl, ?_⟩) hHeld ?_ ?_
           rotate_left
           ·rintro w' ⟨s0, s1, s2, s3⟩
            go_simp
            with_reducible rfl
           rotate_left
           ·simp only [Act.put, sT, sZ, sS, i64_w, i32_w]
            rfl
           refine pure_ (i := 5) (N := some 29) (v := ?_) (a' := ?_) #[true, true, true, true, true, true, true, true, true, true, false, false, false] rfl rfl (any_of HT_.out (by kernel_rfl)) (fun _ _ _ h => h) (Or.inl ⟨by rfl, ?_⟩) ?_ ?_
           rotate_left
           ·intro w'
            go_simp
            with_reducible rfl
           rotate_left
           ·simp only [Act.put, sT, sZ, sS, i64_w, i32_w]
            rfl
           refine pure_ (i := 10) (N := some 34) (v := ?_) (a' := ?_) #[true, true, true, true, true, true, true, true, true, true, true, false, false] rfl rfl (any_of HT_.out (by kernel_rfl)) (fun _ _ _ h => h) (Or.inl ⟨by rfl, ?_⟩) ?_ ?_
           rotate_left
           ·intro w'
            go_simp
            with_reducible rfl
           rotate_left
           ·simp only [Act.put, sT, sZ, sS, i64_w, i32_w]
            rfl
           refine one_ (i := 11) (N := some 8) #[true, true, true, true, true, true, true, true, true, true, true, true, false] rfl rfl (one_of HT_.out (by kernel_rfl)) (by decide) (fun K hK => ?_)
           refine box_step ?hg (N := 8) ?hd (cs := #[.int .i64 0, .int .i64 0, .int .u8 0, .slice none 0 0]) (t := 93) ?hr ?_; (case hd => rfl); (case hg => rfl); (case hr => first | (go_simp; done) | (go_simp; rfl))
           intro gb329 hg w21 hbox hb
           replace HO_6 := Ak (Kd.S_below (sq HO_6.out) hb)
           have BK329 := Ak (hbox)
           have GW329 := Ak (zb hg (bw1 HB.out GE325.out))
           have GE329 := Ak (zb hg (bw1 HB.out GE325.out))
           replace HB := Ak (below_step (bw1 HB.out GE325.out) hb)
           have NB325_329 := Ak (zl hg (bq BK325.out))
           have NB329_325 := Ak (zm hg (bq BK325.out))
           replace BK325 := Ak (blk_below (bq BK325.out) hb)
           clear hb hbox hg
           refine hK.out _ _ ⟨zk0 BK325.out, zk1 BK325.out, zk2 BK325.out, zk3 BK325.out⟩ (fun hHeld => ?_)
           clear hK K
           refine norm_ (a' := ?_) ?_ ?_
           rotate_left
           ·show Act.put _ (some 8) _ = _
            simp only [Act.put, sT, sZ, sS, i64_w, i32_w]
            rfl
           refine one_ (i := 12) (N := none) #[true, true, true, true, true, true, true, true, true, true, true, true, true] rfl rfl (one_of HT_.out (by kernel_rfl)) (by decide) (fun K hK => ?_)
           have hs22 := zk0 BK329.out
           have hfs22 := blk_frozen BK329.out 0
           have hns22_0 := NB325_329.out
           have hms22_0 := NB329_325.out
           have hs23 := zk1 BK329.out
           have hfs23 := blk_frozen BK329.out 1
           have hs24 := zk2 BK329.out
           have hfs24 := blk_frozen BK329.out 2
           have hs25 := zk3 BK329.out
           have hfs25 := blk_frozen BK329.out 3
           refine skip_ (w1 := ?_) (by rfl) rfl ?_ ?_
           rotate_left
           ·go_simp
            rfl
           refine hK.out _ _ ⟨((cell_far (p := ⟨gb329, _, none⟩) NB325_329.out _).trans (((cell_far (p := ⟨gb329, _, none⟩) NB325_329.out _).trans ((zg NB325_329.out hHeld.1))))), ((cell_far (p := ⟨gb329, _, none⟩) NB325_329.out _).trans (((cell_far (p := ⟨gb329, _, none⟩) NB325_329.out _).trans ((zg NB325_329.out hHeld.2.1))))), ((cell_far (p := ⟨gb329, _, none⟩) NB325_329.out _).trans (((cell_far (p := ⟨gb329, _, none⟩) NB325_329.out _).trans ((zg NB325_329.out hHeld.2.2.1))))), ((cell_far (p := ⟨gb329, _, none⟩) NB325_329.out _).trans (((cell_far (p := ⟨gb329, _, none⟩) NB325_329.out _).trans ((zg NB325_329.out hHeld.2.2.2)))))⟩ (fun hHeld => ?_)
           clear hK K
           refine done_ (done_of HT_.out (by kernel_rfl)) ?_
           have hnb26 := NB329_325.out
           have hnc26 := NB325_329.out
           have hcz27_0 := zk0 BK329.out
           have hcz27_1 := zk1 BK329.out
           have hcz27_2 := zk2 BK329.out
           have hcz27_3 := zk3 BK329.out
           have hfz27_0 := blk_frozen BK329.out 0
           have hfz27_1 := blk_frozen BK329.out 1
           have hfz27_2 := blk_frozen BK329.out 2
           have hfz27_3 := blk_frozen BK329.out 3
           try go_wp2
           have n0_ : Aside0 (Kd.S k96 96 (((((w21.setCell ⟨gb329, 0, none⟩ (.int .i64 a0_3)).setCell ⟨gb329, 1, none⟩ (.int .i64 (wrap64 (a0_2 + x21_2)))).setCell ⟨gb329, 2, none⟩ (.int .u8 1)).setCell ⟨gb329, 3, none⟩ (.slice A20 (l1.drop ((ji13) : Int).toNat).length (c1 - (ji13).toNat))).setCell ⟨gb329, 2, none⟩ (.int .u8 2)) w.heap.size (fun _ => True) u6 x6_2) := ⟨by refine sq ?_; exact Kd.S_mono (Kd.S_far (p := ⟨gb329, 2, none⟩) (Kd.S_far (p := ⟨gb329, 3, none⟩) (Kd.S_far (p := ⟨gb329, 2, none⟩) (Kd.S_far (p := ⟨gb329, 1, none⟩) (Kd.S_far (p := ⟨gb329, 0, none⟩) (Kd.S_types HO_6.out BK329.out (by decide)) (fun _ hk => hk.2) (.int .i64 a0_3)) (fun _ hk => hk.2) (.int .i64 (wrap64 (a0_2 + x21_2)))) (fun _ hk => hk.2) (.int .u8 1)) (fun _ hk => hk.2) (.slice A20 (l1.drop ((ji13) : Int).toNat).length (c1 - (ji13).toNat))) (fun _ hk => hk.2) (.int .u8 2)) (fun _ hk => trivial)⟩
           have n1_ : Aside0 ((((((w21.setCell ⟨gb329, 0, none⟩ (.int .i64 a0_3)).setCell ⟨gb329, 1, none⟩ (.int .i64 (wrap64 (a0_2 + x21_2)))).setCell ⟨gb329, 2, none⟩ (.int .u8 1)).setCell ⟨gb329, 3, none⟩ (.slice A20 (l1.drop ((ji13) : Int).toNat).length (c1 - (ji13).toNat))).setCell ⟨gb329, 2, none⟩ (.int .u8 2)).heap[gb325]? = some (.cells #[.int .i64 a0_0, .int .i64 a0_1, .int .i64 a0_2, .int .i64 a0_3] 32 (0, 0))) := ⟨by refine bq ?_; refine blk_far ?_ NB325_329.out _; refine bq ?_; refine blk_far ?_ NB325_329.out _; refine bq ?_; refine blk_far ?_ NB325_329.out _; refine bq ?_; refine blk_far ?_ NB325_329.out _; refine bq ?_; refine blk_far ?_ NB325_329.out _; exact bq BK325.out⟩
           have n2_ : Aside0 ((((((w21.setCell ⟨gb329, 0, none⟩ (.int .i64 a0_3)).setCell ⟨gb329, 1, none⟩ (.int .i64 (wrap64 (a0_2 + x21_2)))).setCell ⟨gb329, 2, none⟩ (.int .u8 1)).setCell ⟨gb329, 3, none⟩ (.slice A20 (l1.drop ((ji13) : Int).toNat).length (c1 - (ji13).toNat))).setCell ⟨gb329, 2, none⟩ (.int .u8 2)).heap[gb329]? = some (.cells #[.int .i64 a0_3, .int .i64 (wrap64 (a0_2 + x21_2)), .int .u8 2, .slice A20 (l1.drop ((ji13) : Int).toNat).length (c1 - (ji13).toNat)] 93 (0, 0))) := ⟨by refine bq ?_; refine blk_put (cs := #[.int .i64 a0_3, .int .i64 (wrap64 (a0_2 + x21_2)), .int .u8 1, .slice A20 (l1.drop ((ji13) : Int).toNat).length (c1 - (ji13).toNat)]) ?_ 2 _ rfl; refine bq ?_; refine blk_put (cs := #[.int .i64 a0_3, .int .i64 (wrap64 (a0_2 + x21_2)), .int .u8 1, .slice none 0 0]) ?_ 3 _ rfl; refine bq ?_; refine blk_put (cs := #[.int .i64 a0_3, .int .i64 (wrap64 (a0_2 + x21_2)), .int .u8 0, .slice none 0 0]) ?_ 2 _ rfl; refine bq ?_; refine blk_put (cs := #[.int .i64 a0_3, .int .i64 0, .int .u8 0, .slice none 0 0]) ?_ 1 _ rfl; refine bq ?_; refine blk_put (cs := #[.int .i64 0, .int .i64 0, .int .u8 0, .slice none 0 0]) ?_ 0 _ rfl; exact bq BK329.out⟩
           have n3_ : Aside0 (Below w.heap.size w (((((w21.setCell ⟨gb329, 0, none⟩ (.int .i64 a0_3)).setCell ⟨gb329, 1, none⟩ (.int .i64 (wrap64 (a0_2 + x21_2)))).setCell ⟨gb329, 2, none⟩ (.int .u8 1)).setCell ⟨gb329, 3, none⟩ (.slice A20 (l1.drop ((ji13) : Int).toNat).length (c1 - (ji13).toNat))).setCell ⟨gb329, 2, none⟩ (.int .u8 2))) := ⟨bw2 HB.out GE325.out GE329.out⟩
           (try clear HO_6)
           (try clear BK325)
           (try clear BK329)
           (try clear HB)
           (try rw [show l1.length - ji13.toNat = (l1.drop ((ji13) : Int).toNat).length from (List.length_drop ..).symm])
           generalize (((((w21.setCell ⟨gb329, 0, none⟩ (.int .i64 a0_3)).setCell ⟨gb329, 1, none⟩ (.int .i64 (wrap64 (a0_2 + x21_2)))).setCell ⟨gb329, 2, none⟩ (.int .u8 1)).setCell ⟨gb329, 3, none⟩ (.slice A20 (l1.drop ((ji13) : Int).toNat).length (c1 - (ji13).toNat))).setCell ⟨gb329, 2, none⟩ (.int .u8 2)) = w28 at n0_ n1_ n2_ n3_ ⊢
           have HO_6 := n0_
           have BK325 := n1_
           have BK329 := n2_
           have HB := n3_
           clear n0_ n1_ n2_ n3_
           replace HO_6 := Ak (Kd.S_drew HO_6.out)
           replace BK325 := Ak (blk_drew BK325.out)
           replace BK329 := Ak (blk_drew BK329.out)
           replace HB := Ak (below_drew1 HB.out)
           refine start_ (n := 14) (S := fun w' => w'.cell? ⟨gb325, 0, none⟩ = some (.int .i64 a0_0) ∧ w'.cell? ⟨gb325, 1, none⟩ = some (.int .i64 a0_1) ∧ w'.cell? ⟨gb325, 2, none⟩ = some (.int .i64 a0_2) ∧ w'.cell? ⟨gb325, 3, none⟩ = some (.int .i64 a0_3) ∧ w'.cell? ⟨gb329, 0, none⟩ = some (.int .i64 a0_3) ∧ w'.cell? ⟨gb329, 1, none⟩ = some (.int .i64 (wrap64 (a0_2 + x21_2))) ∧ w'.cell? ⟨gb329, 2, none⟩ = some (.int .u8 2) ∧ w'.cell? ⟨gb329, 3, none⟩ = some (.slice A20 (l1.drop ((ji13) : Int).toNat).length (c1 - (ji13).toNat))) (ds := []) #[false, false, false, false, false, false, false, false, false, false, false, false, false, false] (by kernel_rfl) rfl rfl ⟨zk0 BK325.out, zk1 BK325.out, zk2 BK325.out, zk3 BK325.out, zk0 BK329.out, zk1 BK329.out, zk2 BK329.out, zk3 BK329.out⟩ (fun hHeld => ?_); refine with_tabW impl_LogWrites.tab12 impl_LogWrites.bits12 (fun HT_ HW_ => ?_)
           generalize w28.drew = w29 at HO_6 BK325 BK329 HB hHeld ⊢
           refine pure_ (i := 0) (N := some 44) (v := ?_) (a' := ?_) #[true, false, false, false, false, false, false, false, false, false, false, false, false, false] rfl rfl (any_of HT_.out (by kernel_rfl)) (fun _ _ _ h => h) (Or.inl ⟨by rfl, ?_⟩) ?_ ?_
           rotate_left
           ·intro w'
            go_simp
            with_reducible rfl
           rotate_left
           ·simp only [Act.put, sT, sZ, sS, i64_w, i32_w]
            rfl
           refine pure_ (i := 1) (N := some 45) (v := ?_) (a' := ?_) #[true, true, false, false, false, false, false, false, false, false, false, false, false, false] rfl rfl (any_of HT_.out (by kernel_rfl)) (fun _ _ _ h => h) (Or.inl ⟨by rfl, ?_⟩) ?_ ?_
           rotate_left
           ·intro w'
            go_simp
            with_reducible rfl
           rotate_left
           ·simp only [Act.put, sT, sZ, sS, i64_w, i32_w]
            rfl
           refine pure_ (i := 3) (N := some 47) (v := ?_) (a' := ?_) #[true, true, false, true, false, false, false, false, false, false, false, false, false, false] rfl rfl (any_of HT_.out (by kernel_rfl)) (fun _ _ _ h => h) (Or.inl ⟨by rfl, ?_⟩) ?_ ?_
           rotate_left
           ·intro w'
            go_simp
            with_reducible rfl
           rotate_left
           ·simp only [Act.put, sT, sZ, sS, i64_w, i32_w]
            rfl
           refine pure_ (i := 6) (N := some 50) (v := ?_) (a' := ?_) #[true, true, false, true, false, false, true, false, false, false, false, false, false, false] rfl rfl (any_of HT_.out (by kernel_rfl)) (fun _ _ _ h => h) (Or.inl ⟨by rfl, ?_⟩) ?_ ?_
           rotate_left
           ·intro w'
            go_simp
            with_reducible rfl
           rotate_left
           ·simp only [Act.put, sT, sZ, sS, i64_w, i32_w]
            rfl
           refine take_ (i := 2) (N := some 46) (v := ?_) (a' := ?_) #[true, true, true, true, false, false, true, false, false, false, false, false, false, false] rfl rfl (take_ofW HT_.out HW_.out (by kernel_rfl)) (fun _ _ _ h => h) (Or.inl ⟨by rfl, ?_⟩) hHeld ?_ ?_
           rotate_left
           ·rintro w' ⟨s0, s1, s2, s3, s4, s5, s6, s7⟩
            go_simp
            with_reducible rfl
           rotate_left
           ·simp only [Act.put, sT, sZ, sS, i64_w, i32_w]
            rfl
           refine take_ (i := 4) (N := some 48) (v := ?_) (a' := ?_) #[true, true, true, true, true, false, true, false, false, false, false, false, false, false] rfl rfl (take_ofW HT_.out HW_.out (by kernel_rfl)) (fun _ _ _ h => h) (Or.inl ⟨by rfl, ?_⟩) hHeld ?_ ?_
           rotate_left
           ·rintro w' ⟨s0, s1, s2, s3, s4, s5, s6, s7⟩
            go_simp
            with_reducible rfl
           rotate_left
           ·simp only [Act.put, sT, sZ, sS, i64_w, i32_w]
            rfl
           refine pure_ (i := 5) (N := some 49) (v := ?_) (a' := ?_) #[true, true, true, true, true, true, true, false, false, false, false, false, false, false] rfl rfl (any_of HT_.out (by kernel_rfl)) (fun _ _ _ h => h) (Or.inl ⟨by rfl, ?_⟩) ?_ ?_
           rotate_left
           ·intro w'
            go_simp
            with_reducible rfl
           rotate_left
           ·simp only [Act.put, sT, sZ, sS, i64_w, i32_w]
            rfl
           refine pure_ (i := 7) (N := some 51) (v := ?_) (a' := ?_) #[true, true, true, true, true, true, true, true, false, false, false, false, false, false] rfl rfl (any_of HT_.out (by kernel_rfl)) (fun _ _ _ h => h) (Or.inl ⟨by rfl, ?_⟩) ?_ ?_
           rotate_left
           ·intro w'
            go_simp
            with_reducible rfl
           rotate_left
           ·simp only [Act.put, sT, sZ, sS, i64_w, i32_w]
            rfl
           refine take_ (i := 8) (N := some 52) (v := ?_) (a' := ?_) #[true, true, true, true, true, true, true, true, true, false, false, false, false, false] rfl rfl (take_ofW HT_.out HW_.out (by kernel_rfl)) (fun _ _ _ h => h) (Or.inl ⟨by rfl, ?_⟩) hHeld ?_ ?_
           rotate_left
           ·rintro w' ⟨s0, s1, s2, s3, s4, s5, s6, s7⟩
            go_simp
            with_reducible rfl
           rotate_left
           ·simp only [Act.put, sT, sZ, sS, i64_w, i32_w]
            rfl
           refine one_ (i := 9) (N := some 53) #[true, true, true, true, true, true, true, true, true, true, false, false, false, false] rfl rfl (one_of HT_.out (by kernel_rfl)) (by decide) (fun K hK => ?_)
           refine goes_ Try.func66 (by kernel_rfl) rfl #[.agg #[.int .i64 a0_3, .int .i64 (wrap64 (a0_2 + x21_2)), .int .u8 2, .slice A20 (l1.drop ((ji13) : Int).toNat).length (c1 - (ji13).toNat)]] (by rfl) rfl rfl (by (try simp only [List.map_toArray, List.map_cons, List.map_nil]); first | done | (rw [show (l1.drop ((ji13) : Int).toNat).length = (l1.length - (ji13).toNat) from List.length_drop] <;> rfl) | (simp only [hji13]; rfl) | rfl | (simp only [List.length_drop, List.length_take]; rfl)) ?_
           with_reducible refine (impl_sector_bytes.calls k2 a0_3 (wrap64 (a0_2 + x21_2)) 2 _ _ (l1.drop ((ji13) : Int).toNat) t330 _ ?side1 ?side2 A17.out).mono ?_
           (case side1 => exact zq (Kd.C_below HR328.out HB.out))
           (case side2 => exact HC328.out)
           rintro e w30 ⟨v331, rfl, ho0, hb⟩
           refine ⟨_, rfl, ?_⟩
           replace HO_6 := Ak (Kd.S_elder' (sq HO_6.out) (Kd.R_base ho0) hb)
           have HO332 := Ak (Kd.R_lower ho0 (below_size (bw2 HB.out GE325.out GE329.out)))
           replace BK325 := Ak (blk_below (bq BK325.out) hb)
           replace BK329 := Ak (blk_below (bq BK329.out) hb)
           replace HB := Ak (below_step (bw2 HB.out GE325.out GE329.out) hb)
           obtain ⟨Ao31, co31, eo31⟩ := Kd.R_slice HO332.out
           (first | subst eo31 | (injection eo31 with f1_ f2_ f3_; have f4_ := f1_.symm; have f5_ := f3_.symm; clear f1_ f2_ f3_; subst f4_; subst f5_))
           refine hK.out _ _ ⟨zk0 BK325.out, zk1 BK325.out, zk2 BK325.out, zk3 BK325.out, zk0 BK329.out, zk1 BK329.out, zk2 BK329.out, zk3 BK329.out⟩ (fun hHeld => ?_)
           clear hK K
           refine norm_ (a' := ?_) ?_ ?_
           rotate_left
           ·show Act.put _ (some 53) _ = _
            simp only [Act.put, sT, sZ, sS, i64_w, i32_w]
            rfl
           refine pure_ (i := 10) (N := some 54) (v := ?_) (a' := ?_) #[true, true, true, true, true, true, true, true, true, true, true, false, false, false] rfl rfl (any_of HT_.out (by kernel_rfl)) (fun _ _ _ h => h) (Or.inl ⟨by rfl, ?_⟩) ?_ ?_
           rotate_left
           ·intro w'
            go_simp
            with_reducible rfl
           rotate_left
           ·simp only [Act.put, sT, sZ, sS, i64_w, i32_w]
            rfl
           refine one_ (i := 11) (N := some 55) #[true, true, true, true, true, true, true, true, true, true, true, true, false, false] rfl rfl (one_of HT_.out (by kernel_rfl)) (by decide) (fun K hK => ?_)
           refine value_ (w1 := ?_) (v := ?_) (by rfl) rfl ?_ ?_
           rotate_left 2
           ·go_simp
            constructor
            ·rfl
            ·rfl
           refine hK.out _ _ ⟨(blk_cell (blk_alloc BK325.out _) 0).trans rfl, (blk_cell (blk_alloc BK325.out _) 1).trans rfl, (blk_cell (blk_alloc BK325.out _) 2).trans rfl, (blk_cell (blk_alloc BK325.out _) 3).trans rfl, (blk_cell (blk_alloc BK329.out _) 0).trans rfl, (blk_cell (blk_alloc BK329.out _) 1).trans rfl, (blk_cell (blk_alloc BK329.out _) 2).trans rfl, (blk_cell (blk_alloc BK329.out _) 3).trans rfl⟩ (fun hHeld => ?_)
           clear hK K
           refine norm_ (a' := ?_) ?_ ?_
           rotate_left
           ·show Act.put _ (some 55) _ = _
            simp only [Act.put, sT, sZ, sS, i64_w, i32_w]
            rfl
           refine one_ (i := 12) (N := some 56) #[true, true, true, true, true, true, true, true, true, true, true, true, true, false] rfl rfl (one_of HT_.out (by kernel_rfl)) (by decide) (fun K hK => ?_)
           refine Kd.S_append_step k96 (w0 := w) w.heap.size (by rfl) (.tmp 44) (.tmp 55) 29 96 (.agg #[(.int .i64 0), (.slice none 0 0)]) 32 rfl Try.underlying29 info96 rfl (by decide) (by omega) u6 x6_2 (⟨wrap64 ((wrap64 (a0_0 + a0_2)) + x21_2), t330⟩ : S96) [.int .i64 (wrap64 ((wrap64 (a0_0 + a0_2)) + x21_2)), .slice Ao31 t330.length co31] (fun _ => True) (fun k_ => some k_ = (.slice Ao31 t330.length co31 : Value).ownBlock) rfl rfl ?aP (fun k_ hk_ => ((Kd.R_mono (ok' := fun k_ => ((fun _ => True)) k_ ∧ some k_ ≠ (u6 : Value).ownBlock) (Kd.R_apart' (HO332.out) (Kd.S_typed HO_6.out) (by decide)) (fun k_ hk => ⟨trivial, hk.2⟩))).1 k_ hk_.symm) ?aF ?aO ?aB ?aS ?aL ?_
           (case aP => exact k96_mkM _ _ _ (⟨wrap64 ((wrap64 (a0_0 + a0_2)) + x21_2), t330⟩ : S96) (Kd.R_mono (Kd.R_tight rfl (Kd.R_mono (ok' := fun k_ => ((fun _ => True)) k_ ∧ some k_ ≠ (u6 : Value).ownBlock) (Kd.R_apart' (HO332.out) (Kd.S_typed HO_6.out) (by decide)) (fun k_ hk => ⟨trivial, hk.2⟩))) (fun _ h_ => h_)))
           (case aB => exact (bw2 HB.out GE325.out GE329.out))
           (case aF => exact (fun _ _ => trivial))
           (case aO => exact (by refine sq ?_; exact Kd.S_mono HO_6.out (fun k_ hk => ⟨trivial, fun e_ => hk.2 e_⟩)))
           (case aS => exact (below_size (bw2 HB.out GE325.out GE329.out)))
           (case aL => have := LMc18.out; omega)
           intro v334 w32 ho hb hg hat
           rw [← Ny333.out] at ho
           replace BK325 := Ak (blk_grown (g := gb325) (o := .cells #[.int .i64 a0_0, .int .i64 a0_1, .int .i64 a0_2, .int .i64 a0_3] 32 (0, 0)) (bq BK325.out) hg (Kd.S_ne HO_6.out BK325.out (by decide)))
           replace BK329 := Ak (blk_grown (g := gb329) (o := .cells #[.int .i64 a0_3, .int .i64 (wrap64 (a0_2 + x21_2)), .int .u8 2, .slice A20 (l1.drop ((ji13) : Int).toNat).length (c1 - (ji13).toNat)] 93 (0, 0)) (bq BK329.out) hg (Kd.S_ne HO_6.out BK329.out (by decide)))
           replace HB := Ak (hb)
           have HO335 := Ak (ho)
           clear HO_6 HO332
           clear ho hb hg hat
           refine hK.out _ _ ⟨zk0 BK325.out, zk1 BK325.out, zk2 BK325.out, zk3 BK325.out, zk0 BK329.out, zk1 BK329.out, zk2 BK329.out, zk3 BK329.out⟩ (fun hHeld => ?_)
           clear hK K
           refine norm_ (a' := ?_) ?_ ?_
           rotate_left
           ·show Act.put _ (some 56) _ = _
            simp only [Act.put, sT, sZ, sS, i64_w, i32_w]
            rfl
           refine pure_ (i := 13) (N := some 6) (v := ?_) (a' := ?_) #[true, true, true, true, true, true, true, true, true, true, true, true, true, true] rfl rfl (any_of HT_.out (by kernel_rfl)) (fun _ _ _ h => h) (Or.inl ⟨by rfl, ?_⟩) ?_ ?_
           rotate_left
           ·intro w'
            go_simp
            with_reducible rfl
           rotate_left
           ·simp only [Act.put, sT, sZ, sS, i64_w, i32_w]
            rfl
           refine done_ (done_of HT_.out (by kernel_rfl)) ?_
           try go_wp2
           go_roundg k2
           case measure => have := HJ3.out; have := HK2.out; omega
           case rel => exact ⟨(y333), (wrap64 (x21_2 + 1)), (by first | rfl | (simp; done) | (simp [*]; done)), H', ⟨by have := HJ3.out; have := HK2.out; omega⟩, ⟨sq HO335.out⟩, ⟨bq BK325.out⟩, ⟨bw2 HB.out GE325.out GE329.out⟩⟩
          ·rw [if_neg c18] at H
           exact absurd H (by simp)
         ·rw [if_neg c16] at H
          have c16b0 : (x21_2 == (wrap64 (t326 - 1))) = false := beq_eq_false_iff_ne.mpr c16
          have c16b1 : (x21_2 != (wrap64 (t326 - 1))) = true := bne_iff_ne.mpr c16
          by_cases c33 : 44 ≤ ((l1.drop ((ji13) : Int).toNat).length : Int)
          ·rw [if_pos c33] at H
           have c33b0 := eq_true c33
           have c33b1 : decide (44 ≤ ((l1.drop ((ji13) : Int).toNat).length : Int)) = true := decide_eq_true c33
           clear c33
           replace H := Option.bind_eq_some_iff.mp H
           obtain ⟨t337, A340, H⟩ := H
           have A34 := Ak A340
           clear A340
           by_cases c35 : x6_2.length < 4398046511104
           ·rw [if_pos c35] at H
            have LMc35 := Ak c35
            clear c35
            obtain ⟨y340, hy340⟩ : ∃ y_ : List (S96), y_ = (x6_2 ++ [(⟨wrap64 ((wrap64 (a0_0 + a0_2)) + x21_2), t337⟩ : S96)]) := ⟨_, rfl⟩
            replace H : (impl_LogWrites.l0 k2 l1 t326 y340 t326 (wrap64 (x21_2 + 1)) a0_0 a0_1 a0_2 a0_3) = some r := by first | (rw [hy340]; with_reducible exact H) | (have H2_ := (Option.bind_some _ _).symm.trans H; rw [hy340]; with_reducible exact H2_) | (have H2_ := (Option.bind_some _ _).symm.trans H; with_reducible exact H2_) | with_reducible exact H | (rw [hy340]; exact H) | exact H
            have Ny340 := Ak hy340
            clear hy340
            have H' := Ak H
            clear H
            try go_wp2
            replace HO_6 := Ak (Kd.S_drew HO_6.out)
            replace BK325 := Ak (blk_drew BK325.out)
            replace HB := Ak (below_drew1 HB.out)
            obtain ⟨i037, hi037, _, hsz37, _⟩ := info_parts info5
            obtain ⟨A37, hcut37, hA37, hC37⟩ := print_drop_of (P := Try.prog) (Value.int .u8) 0 22 5 .i64 Try.underlying22 hi037 hsz37 A1 c1 l1 (ji13) (of_decide_eq_true (by first | (with_reducible assumption) | assumption)) (of_decide_eq_true (by first | (with_reducible assumption) | assumption)) HC1.out
            have HR328 := Ak (Kd.C_of_reads (h1 := fun _ => rfl) (hA37 _ (Kd.reads_of_C HR1.out)))
            have HC328 := Ak hC37
            clear hA37 hC37 hi037 hsz37
            refine start_ (n := 13) (S := fun w' => w'.cell? ⟨gb325, 0, none⟩ = some (.int .i64 a0_0) ∧ w'.cell? ⟨gb325, 1, none⟩ = some (.int .i64 a0_1) ∧ w'.cell? ⟨gb325, 2, none⟩ = some (.int .i64 a0_2) ∧ w'.cell? ⟨gb325, 3, none⟩ = some (.int .i64 a0_3)) (ds := []) #[false, false, false, false, false, false, false, false, false, false, false, false, false] (by kernel_rfl) rfl rfl ⟨zk0 BK325.out, zk1 BK325.out, zk2 BK325.out, zk3 BK325.out⟩ (fun hHeld => ?_); refine with_tabW impl_LogWrites.tab8 impl_LogWrites.bits8 (fun HT_ HW_ => ?_)
            generalize wr.drew = w36 at HO_6 BK325 HB HR328 hHeld ⊢
            refine pure_ (i := 0) (N := some 24) (v := ?_) (a' := ?_) #[true, false, false, false, false, false, false, false, false, false, false, false, false] rfl rfl (any_of HT_.out (by kernel_rfl)) (fun _ _ _ h => h) (Or.inl ⟨by rfl, ?_⟩) ?_ ?_
            rotate_left
            ·intro w'
             go_simp
             with_reducible rfl
            rotate_left
            ·simp only [Act.put, sT, sZ, sS, i64_w, i32_w]
             rfl
            refine pure_ (i := 2) (N := some 26) (v := ?_) (a' := ?_) #[true, false, true, false, false, false, false, false, false, false, false, false, false] rfl rfl (any_of HT_.out (by kernel_rfl)) (fun _ _ _ h => h) (Or.inl ⟨by rfl, ?_⟩) ?_ ?_
            rotate_left
            ·intro w'
             go_simp
             with_reducible rfl
            rotate_left
            ·simp only [Act.put, sT, sZ, sS, i64_w, i32_w]
             rfl
            refine pure_ (i := 4) (N := some 28) (v := ?_) (a' := ?_) #[true, false, true, false, true, false, false, false, false, false, false, false, false] rfl rfl (any_of HT_.out (by kernel_rfl)) (fun _ _ _ h => h) (Or.inl ⟨by rfl, ?_⟩) ?_ ?_
            rotate_left
            ·intro w'
             go_simp
             with_reducible rfl
            rotate_left
            ·simp only [Act.put, sT, sZ, sS, i64_w, i32_w]
             rfl
            refine pure_ (i := 6) (N := some 30) (v := ?_) (a' := ?_) #[true, false, true, false, true, false, true, false, false, false, false, false, false] rfl rfl (any_of HT_.out (by kernel_rfl)) (fun _ _ _ h => h) (Or.inl ⟨by rfl, ?_⟩) ?_ ?_
            rotate_left
            ·intro w'
             go_simp
             with_reducible rfl
            rotate_left
            ·simp only [Act.put, sT, sZ, sS, i64_w, i32_w]
             rfl
            refine pure_ (i := 7) (N := some 31) (v := ?_) (a' := ?_) #[true, false, true, false, true, false, true, true, false, false, false, false, false] rfl rfl (any_of HT_.out (by kernel_rfl)) (fun _ _ _ h => h) (Or.inl ⟨by rfl, ?_⟩) ?_ ?_
            rotate_left
            ·intro w'
             go_simp
             with_reducible rfl
            rotate_left
            ·simp only [Act.put, sT, sZ, sS, i64_w, i32_w]
             rfl
            refine pure_ (i := 8) (N := some 32) (v := ?_) (a' := ?_) #[true, false, true, false, true, false, true, true, true, false, false, false, false] rfl rfl (any_of HT_.out (by kernel_rfl)) (fun _ _ _ h => h) (Or.inl ⟨by rfl, ?_⟩) ?_ ?_
            rotate_left
            ·intro w'
             go_simp
             with_reducible rfl
            rotate_left
            ·simp only [Act.put, sT, sZ, sS, i64_w, i32_w]
             rfl
            refine pure_ (i := 9) (N := some 33) (v := ?_) (a' := ?_) #[true, false, true, false, true, false, true, true, true, true, false, false, false] rfl rfl (any_of HT_.out (by kernel_rfl)) (fun _ _ _ h => h) (Or.inl ⟨by rfl, ?_⟩) ?_ ?_
            rotate_left
            ·intro w'
             go_simp
             with_reducible rfl
            rotate_left
            ·simp only [Act.put, sT, sZ, sS, i64_w, i32_w]
             rfl
            refine take_ (i := 1) (N := some 25) (v := ?_) (a' := ?_) #[true, true, true, false, true, false, true, true, true, true, false, false, false] rfl rfl (take_ofW HT_.out HW_.out (by kernel_rfl)) (fun _ _ _ h => h) (Or.inl ⟨by rfl, ?_⟩) hHeld ?_ ?_
            rotate_left
            ·rintro w' ⟨s0, s1, s2, s3⟩
             go_simp
             with_reducible rfl
            rotate_left
            ·simp only [Act.put, sT, sZ, sS, i64_w, i32_w]
             rfl
            refine take_ (i := 3) (N := some 27) (v := ?_) (a' := ?_) #[true, true, true, true, true, false, true, true, true, true, false, false, false] rfl rfl (take_ofW HT_.out HW_.out (by kernel_rfl)) (fun _ _ _ h => h) (Or.inl ⟨by rfl, ?_⟩) hHeld ?_ ?_
            rotate_left
            ·rintro w' ⟨s0, s1, s2, s3⟩
             go_simp
             with_reducible rfl
            rotate_left
            ·simp only [Act.put, sT, sZ, sS, i64_w, i32_w]
             rfl
            refine pure_ (i := 5) (N := some 29) (v := ?_) (a' := ?_) #[true, true, true, true, true, true, true, true, true, true, false, false, false] rfl rfl (any_of HT_.out (by kernel_rfl)) (fun _ _ _ h => h) (Or.inl ⟨by rfl, ?_⟩) ?_ ?_
            rotate_left
            ·intro w'
             go_simp
             with_reducible rfl
            rotate_left
            ·simp only [Act.put, sT, sZ, sS, i64_w, i32_w]
             rfl
            refine pure_ (i := 10) (N := some 34) (v := ?_) (a' := ?_) #[true, true, true, true, true, true, true, true, true, true, true, false, false] rfl rfl (any_of HT_.out (by kernel_rfl)) (fun _ _ _ h => h) (Or.inl ⟨by rfl, ?_⟩) ?_ ?_
            rotate_left
            ·intro w'
             go_simp
             with_reducible rfl
            rotate_left
            ·simp only [Act.put, sT, sZ, sS, i64_w, i32_w]
             rfl
            refine one_ (i := 11) (N := some 8) #[true, true, true, true, true, true, true, true, true, true, true, true, false] rfl rfl (one_of HT_.out (by kernel_rfl)) (by decide) (fun K hK => ?_)
            refine box_step ?hg (N := 8) ?hd (cs := #[.int .i64 0, .int .i64 0, .int .u8 0, .slice none 0 0]) (t := 93) ?hr ?_; (case hd => rfl); (case hg => rfl); (case hr => first | (go_simp; done) | (go_simp; rfl))
            intro gb329 hg w38 hbox hb
            replace HO_6 := Ak (Kd.S_below (sq HO_6.out) hb)
            have BK329 := Ak (hbox)
            have GW329 := Ak (zb hg (bw1 HB.out GE325.out))
            have GE329 := Ak (zb hg (bw1 HB.out GE325.out))
            replace HB := Ak (below_step (bw1 HB.out GE325.out) hb)
            have NB325_329 := Ak (zl hg (bq BK325.out))
            have NB329_325 := Ak (zm hg (bq BK325.out))
            replace BK325 := Ak (blk_below (bq BK325.out) hb)
            clear hb hbox hg
            refine hK.out _ _ ⟨zk0 BK325.out, zk1 BK325.out, zk2 BK325.out, zk3 BK325.out⟩ (fun hHeld => ?_)
            clear hK K
            refine norm_ (a' := ?_) ?_ ?_
            rotate_left
            ·show Act.put _ (some 8) _ = _
             simp only [Act.put, sT, sZ, sS, i64_w, i32_w]
             rfl
            refine one_ (i := 12) (N := none) #[true, true, true, true, true, true, true, true, true, true, true, true, true] rfl rfl (one_of HT_.out (by kernel_rfl)) (by decide) (fun K hK => ?_)
            have hs39 := zk0 BK329.out
            have hfs39 := blk_frozen BK329.out 0
            have hns39_0 := NB325_329.out
            have hms39_0 := NB329_325.out
            have hs40 := zk1 BK329.out
            have hfs40 := blk_frozen BK329.out 1
            have hs41 := zk2 BK329.out
            have hfs41 := blk_frozen BK329.out 2
            have hs42 := zk3 BK329.out
            have hfs42 := blk_frozen BK329.out 3
            refine skip_ (w1 := ?_) (by rfl) rfl ?_ ?_
            rotate_left
            ·go_simp
             rfl
            refine hK.out _ _ ⟨((cell_far (p := ⟨gb329, _, none⟩) NB325_329.out _).trans (((cell_far (p := ⟨gb329, _, none⟩) NB325_329.out _).trans ((zg NB325_329.out hHeld.1))))), ((cell_far (p := ⟨gb329, _, none⟩) NB325_329.out _).trans (((cell_far (p := ⟨gb329, _, none⟩) NB325_329.out _).trans ((zg NB325_329.out hHeld.2.1))))), ((cell_far (p := ⟨gb329, _, none⟩) NB325_329.out _).trans (((cell_far (p := ⟨gb329, _, none⟩) NB325_329.out _).trans ((zg NB325_329.out hHeld.2.2.1))))), ((cell_far (p := ⟨gb329, _, none⟩) NB325_329.out _).trans (((cell_far (p := ⟨gb329, _, none⟩) NB325_329.out _).trans ((zg NB325_329.out hHeld.2.2.2)))))⟩ (fun hHeld => ?_)
            clear hK K
            refine done_ (done_of HT_.out (by kernel_rfl)) ?_
            have hnb43 := NB329_325.out
            have hnc43 := NB325_329.out
            have hcz44_0 := zk0 BK329.out
            have hcz44_1 := zk1 BK329.out
            have hcz44_2 := zk2 BK329.out
            have hcz44_3 := zk3 BK329.out
            have hfz44_0 := blk_frozen BK329.out 0
            have hfz44_1 := blk_frozen BK329.out 1
            have hfz44_2 := blk_frozen BK329.out 2
            have hfz44_3 := blk_frozen BK329.out 3
            obtain ⟨i045, hi045, _, hsz45, _⟩ := info_parts info5
            have hcap_ : ¬ (((c1 - ji13.toNat : Nat) : Int) < 44) := by (have h1_ := of_decide_eq_true c33b1; have h2_ := HC1.out; simp only [List.length_drop] at h1_; omega)
            obtain ⟨hcut45, hA45, hC45⟩ := print_take_of (P := Try.prog) (Value.int .u8) 0 22 5 .i64 Try.underlying22 hi045 hsz45 A37 (c1 - (ji13).toNat) (l1.drop ((ji13) : Int).toNat) 44 (by omega) (of_decide_eq_true (by first | (with_reducible assumption) | assumption)) HC328.out
            have HR336 := Ak (Kd.C_of_reads (h1 := fun _ => rfl) (hA45 _ (Kd.reads_of_C HR328.out)))
            have HC336 := Ak hC45
            clear hA45 hC45 hi045 hsz45
            try go_wp2
            (try (case isFalse h_ => exact (hcap_ h_).elim))
            have n0_ : Aside0 (Kd.S k96 96 (((((w38.setCell ⟨gb329, 0, none⟩ (.int .i64 a0_3)).setCell ⟨gb329, 1, none⟩ (.int .i64 (wrap64 (a0_2 + x21_2)))).setCell ⟨gb329, 2, none⟩ (.int .u8 1)).setCell ⟨gb329, 3, none⟩ (.slice A37 (l1.drop ((ji13) : Int).toNat).length (c1 - (ji13).toNat))).setCell ⟨gb329, 3, none⟩ (.slice A37 ((l1.drop ((ji13) : Int).toNat).take 44).length (c1 - (ji13).toNat))) w.heap.size (fun _ => True) u6 x6_2) := ⟨by refine sq ?_; exact Kd.S_mono (Kd.S_far (p := ⟨gb329, 3, none⟩) (Kd.S_far (p := ⟨gb329, 3, none⟩) (Kd.S_far (p := ⟨gb329, 2, none⟩) (Kd.S_far (p := ⟨gb329, 1, none⟩) (Kd.S_far (p := ⟨gb329, 0, none⟩) (Kd.S_types HO_6.out BK329.out (by decide)) (fun _ hk => hk.2) (.int .i64 a0_3)) (fun _ hk => hk.2) (.int .i64 (wrap64 (a0_2 + x21_2)))) (fun _ hk => hk.2) (.int .u8 1)) (fun _ hk => hk.2) (.slice A37 (l1.drop ((ji13) : Int).toNat).length (c1 - (ji13).toNat))) (fun _ hk => hk.2) (.slice A37 ((l1.drop ((ji13) : Int).toNat).take 44).length (c1 - (ji13).toNat))) (fun _ hk => trivial)⟩
            have n1_ : Aside0 ((((((w38.setCell ⟨gb329, 0, none⟩ (.int .i64 a0_3)).setCell ⟨gb329, 1, none⟩ (.int .i64 (wrap64 (a0_2 + x21_2)))).setCell ⟨gb329, 2, none⟩ (.int .u8 1)).setCell ⟨gb329, 3, none⟩ (.slice A37 (l1.drop ((ji13) : Int).toNat).length (c1 - (ji13).toNat))).setCell ⟨gb329, 3, none⟩ (.slice A37 ((l1.drop ((ji13) : Int).toNat).take 44).length (c1 - (ji13).toNat))).heap[gb325]? = some (.cells #[.int .i64 a0_0, .int .i64 a0_1, .int .i64 a0_2, .int .i64 a0_3] 32 (0, 0))) := ⟨by refine bq ?_; refine blk_far ?_ NB325_329.out _; refine bq ?_; refine blk_far ?_ NB325_329.out _; refine bq ?_; refine blk_far ?_ NB325_329.out _; refine bq ?_; refine blk_far ?_ NB325_329.out _; refine bq ?_; refine blk_far ?_ NB325_329.out _; exact bq BK325.out⟩
            have n2_ : Aside0 ((((((w38.setCell ⟨gb329, 0, none⟩ (.int .i64 a0_3)).setCell ⟨gb329, 1, none⟩ (.int .i64 (wrap64 (a0_2 + x21_2)))).setCell ⟨gb329, 2, none⟩ (.int .u8 1)).setCell ⟨gb329, 3, none⟩ (.slice A37 (l1.drop ((ji13) : Int).toNat).length (c1 - (ji13).toNat))).setCell ⟨gb329, 3, none⟩ (.slice A37 ((l1.drop ((ji13) : Int).toNat).take 44).length (c1 - (ji13).toNat))).heap[gb329]? = some (.cells #[.int .i64 a0_3, .int .i64 (wrap64 (a0_2 + x21_2)), .int .u8 1, .slice A37 ((l1.drop ((ji13) : Int).toNat).take 44).length (c1 - (ji13).toNat)] 93 (0, 0))) := ⟨by refine bq ?_; refine blk_put (cs := #[.int .i64 a0_3, .int .i64 (wrap64 (a0_2 + x21_2)), .int .u8 1, .slice A37 (l1.drop ((ji13) : Int).toNat).length (c1 - (ji13).toNat)]) ?_ 3 _ rfl; refine bq ?_; refine blk_put (cs := #[.int .i64 a0_3, .int .i64 (wrap64 (a0_2 + x21_2)), .int .u8 1, .slice none 0 0]) ?_ 3 _ rfl; refine bq ?_; refine blk_put (cs := #[.int .i64 a0_3, .int .i64 (wrap64 (a0_2 + x21_2)), .int .u8 0, .slice none 0 0]) ?_ 2 _ rfl; refine bq ?_; refine blk_put (cs := #[.int .i64 a0_3, .int .i64 0, .int .u8 0, .slice none 0 0]) ?_ 1 _ rfl; refine bq ?_; refine blk_put (cs := #[.int .i64 0, .int .i64 0, .int .u8 0, .slice none 0 0]) ?_ 0 _ rfl; exact bq BK329.out⟩
            have n3_ : Aside0 (Below w.heap.size w (((((w38.setCell ⟨gb329, 0, none⟩ (.int .i64 a0_3)).setCell ⟨gb329, 1, none⟩ (.int .i64 (wrap64 (a0_2 + x21_2)))).setCell ⟨gb329, 2, none⟩ (.int .u8 1)).setCell ⟨gb329, 3, none⟩ (.slice A37 (l1.drop ((ji13) : Int).toNat).length (c1 - (ji13).toNat))).setCell ⟨gb329, 3, none⟩ (.slice A37 ((l1.drop ((ji13) : Int).toNat).take 44).length (c1 - (ji13).toNat)))) := ⟨bw2 HB.out GE325.out GE329.out⟩
            (try clear HO_6)
            (try clear BK325)
            (try clear BK329)
            (try clear HB)
            (try rw [show l1.length - ji13.toNat = (l1.drop ((ji13) : Int).toNat).length from (List.length_drop ..).symm])
            have h44_ : ((l1.drop ((ji13) : Int).toNat).take 44).length = 44 := by (have := of_decide_eq_true c33b1; rw [List.length_take]; omega)
            (try rw [show (Value.slice A37 44 (c1 - ji13.toNat)) = .slice A37 ((l1.drop ((ji13) : Int).toNat).take 44).length (c1 - ji13.toNat) from by rw [h44_]])
            generalize (((((w38.setCell ⟨gb329, 0, none⟩ (.int .i64 a0_3)).setCell ⟨gb329, 1, none⟩ (.int .i64 (wrap64 (a0_2 + x21_2)))).setCell ⟨gb329, 2, none⟩ (.int .u8 1)).setCell ⟨gb329, 3, none⟩ (.slice A37 (l1.drop ((ji13) : Int).toNat).length (c1 - (ji13).toNat))).setCell ⟨gb329, 3, none⟩ (.slice A37 ((l1.drop ((ji13) : Int).toNat).take 44).length (c1 - (ji13).toNat))) = w46 at n0_ n1_ n2_ n3_ ⊢
            have HO_6 := n0_
            have BK325 := n1_
            have BK329 := n2_
            have HB := n3_
            clear n0_ n1_ n2_ n3_
            replace HO_6 := Ak (Kd.S_drew HO_6.out)
            replace BK325 := Ak (blk_drew BK325.out)
            replace BK329 := Ak (blk_drew BK329.out)
            replace HB := Ak (below_drew1 HB.out)
            refine start_ (n := 14) (S := fun w' => w'.cell? ⟨gb325, 0, none⟩ = some (.int .i64 a0_0) ∧ w'.cell? ⟨gb325, 1, none⟩ = some (.int .i64 a0_1) ∧ w'.cell? ⟨gb325, 2, none⟩ = some (.int .i64 a0_2) ∧ w'.cell? ⟨gb325, 3, none⟩ = some (.int .i64 a0_3) ∧ w'.cell? ⟨gb329, 0, none⟩ = some (.int .i64 a0_3) ∧ w'.cell? ⟨gb329, 1, none⟩ = some (.int .i64 (wrap64 (a0_2 + x21_2))) ∧ w'.cell? ⟨gb329, 2, none⟩ = some (.int .u8 1) ∧ w'.cell? ⟨gb329, 3, none⟩ = some (.slice A37 ((l1.drop ((ji13) : Int).toNat).take 44).length (c1 - (ji13).toNat))) (ds := []) #[false, false, false, false, false, false, false, false, false, false, false, false, false, false] (by kernel_rfl) rfl rfl ⟨zk0 BK325.out, zk1 BK325.out, zk2 BK325.out, zk3 BK325.out, zk0 BK329.out, zk1 BK329.out, zk2 BK329.out, zk3 BK329.out⟩ (fun hHeld => ?_); refine with_tabW impl_LogWrites.tab12 impl_LogWrites.bits12 (fun HT_ HW_ => ?_)
            generalize w46.drew = w47 at HO_6 BK325 BK329 HB hHeld ⊢
            refine pure_ (i := 0) (N := some 44) (v := ?_) (a' := ?_) #[true, false, false, false, false, false, false, false, false, false, false, false, false, false] rfl rfl (any_of HT_.out (by kernel_rfl)) (fun _ _ _ h => h) (Or.inl ⟨by rfl, ?_⟩) ?_ ?_
            rotate_left
            ·intro w'
             go_simp
             with_reducible rfl
            rotate_left
            ·simp only [Act.put, sT, sZ, sS, i64_w, i32_w]
             rfl
            refine pure_ (i := 1) (N := some 45) (v := ?_) (a' := ?_) #[true, true, false, false, false, false, false, false, false, false, false, false, false, false] rfl rfl (any_of HT_.out (by kernel_rfl)) (fun _ _ _ h => h) (Or.inl ⟨by rfl, ?_⟩) ?_ ?_
            rotate_left
            ·intro w'
             go_simp
             with_reducible rfl
            rotate_left
            ·simp only [Act.put, sT, sZ, sS, i64_w, i32_w]
             rfl
            refine pure_ (i := 3) (N := some 47) (v := ?_) (a' := ?_) #[true, true, false, true, false, false, false, false, false, false, false, false, false, false] rfl rfl (any_of HT_.out (by kernel_rfl)) (fun _ _ _ h => h) (Or.inl ⟨by rfl, ?_⟩) ?_ ?_
            rotate_left
            ·intro w'
             go_simp
             with_reducible rfl
            rotate_left
            ·simp only [Act.put, sT, sZ, sS, i64_w, i32_w]
             rfl
            refine pure_ (i := 6) (N := some 50) (v := ?_) (a' := ?_) #[true, true, false, true, false, false, true, false, false, false, false, false, false, false] rfl rfl (any_of HT_.out (by kernel_rfl)) (fun _ _ _ h => h) (Or.inl ⟨by rfl, ?_⟩) ?_ ?_
            rotate_left
            ·intro w'
             go_simp
             with_reducible rfl
            rotate_left
            ·simp only [Act.put, sT, sZ, sS, i64_w, i32_w]
             rfl
            refine take_ (i := 2) (N := some 46) (v := ?_) (a' := ?_) #[true, true, true, true, false, false, true, false, false, false, false, false, false, false] rfl rfl (take_ofW HT_.out HW_.out (by kernel_rfl)) (fun _ _ _ h => h) (Or.inl ⟨by rfl, ?_⟩) hHeld ?_ ?_
            rotate_left
            ·rintro w' ⟨s0, s1, s2, s3, s4, s5, s6, s7⟩
             go_simp
             with_reducible rfl
            rotate_left
            ·simp only [Act.put, sT, sZ, sS, i64_w, i32_w]
             rfl
            refine take_ (i := 4) (N := some 48) (v := ?_) (a' := ?_) #[true, true, true, true, true, false, true, false, false, false, false, false, false, false] rfl rfl (take_ofW HT_.out HW_.out (by kernel_rfl)) (fun _ _ _ h => h) (Or.inl ⟨by rfl, ?_⟩) hHeld ?_ ?_
            rotate_left
            ·rintro w' ⟨s0, s1, s2, s3, s4, s5, s6, s7⟩
             go_simp
             with_reducible rfl
            rotate_left
            ·simp only [Act.put, sT, sZ, sS, i64_w, i32_w]
             rfl
            refine pure_ (i := 5) (N := some 49) (v := ?_) (a' := ?_) #[true, true, true, true, true, true, true, false, false, false, false, false, false, false] rfl rfl (any_of HT_.out (by kernel_rfl)) (fun _ _ _ h => h) (Or.inl ⟨by rfl, ?_⟩) ?_ ?_
            rotate_left
            ·intro w'
             go_simp
             with_reducible rfl
            rotate_left
            ·simp only [Act.put, sT, sZ, sS, i64_w, i32_w]
             rfl
            refine pure_ (i := 7) (N := some 51) (v := ?_) (a' := ?_) #[true, true, true, true, true, true, true, true, false, false, false, false, false, false] rfl rfl (any_of HT_.out (by kernel_rfl)) (fun _ _ _ h => h) (Or.inl ⟨by rfl, ?_⟩) ?_ ?_
            rotate_left
            ·intro w'
             go_simp
             with_reducible rfl
            rotate_left
            ·simp only [Act.put, sT, sZ, sS, i64_w, i32_w]
             rfl
            refine take_ (i := 8) (N := some 52) (v := ?_) (a' := ?_) #[true, true, true, true, true, true, true, true, true, false, false, false, false, false] rfl rfl (take_ofW HT_.out HW_.out (by kernel_rfl)) (fun _ _ _ h => h) (Or.inl ⟨by rfl, ?_⟩) hHeld ?_ ?_
            rotate_left
            ·rintro w' ⟨s0, s1, s2, s3, s4, s5, s6, s7⟩
             go_simp
             with_reducible rfl
            rotate_left
            ·simp only [Act.put, sT, sZ, sS, i64_w, i32_w]
             rfl
            refine one_ (i := 9) (N := some 53) #[true, true, true, true, true, true, true, true, true, true, false, false, false, false] rfl rfl (one_of HT_.out (by kernel_rfl)) (by decide) (fun K hK => ?_)
            refine goes_ Try.func66 (by kernel_rfl) rfl #[.agg #[.int .i64 a0_3, .int .i64 (wrap64 (a0_2 + x21_2)), .int .u8 1, .slice A37 ((l1.drop ((ji13) : Int).toNat).take 44).length (c1 - (ji13).toNat)]] (by rfl) rfl rfl (by (try simp only [List.map_toArray, List.map_cons, List.map_nil]); first | done | (rw [show ((l1.drop ((ji13) : Int).toNat).take 44).length = 44 from (by rw [List.length_take]; have h_ : (44 : Int) ≤ ((l1.drop ((ji13) : Int).toNat).length : Int) := of_decide_eq_true (by first | (with_reducible assumption) | assumption); omega)] <;> rfl) | (simp only [hji13]; rfl) | rfl | (simp only [List.length_drop, List.length_take]; rfl)) ?_
            with_reducible refine (impl_sector_bytes.calls k2 a0_3 (wrap64 (a0_2 + x21_2)) 1 _ _ ((l1.drop ((ji13) : Int).toNat).take 44) t337 _ ?side1 ?side2 A34.out).mono ?_
            (case side1 => exact zq (Kd.C_below HR336.out HB.out))
            (case side2 => exact HC336.out)
            rintro e w48 ⟨v338, rfl, ho0, hb⟩
            refine ⟨_, rfl, ?_⟩
            replace HO_6 := Ak (Kd.S_elder' (sq HO_6.out) (Kd.R_base ho0) hb)
            have HO339 := Ak (Kd.R_lower ho0 (below_size (bw2 HB.out GE325.out GE329.out)))
            replace BK325 := Ak (blk_below (bq BK325.out) hb)
            replace BK329 := Ak (blk_below (bq BK329.out) hb)
            replace HB := Ak (below_step (bw2 HB.out GE325.out GE329.out) hb)
            obtain ⟨Ao49, co49, eo49⟩ := Kd.R_slice HO339.out
            (first | subst eo49 | (injection eo49 with f1_ f2_ f3_; have f4_ := f1_.symm; have f5_ := f3_.symm; clear f1_ f2_ f3_; subst f4_; subst f5_))
            refine hK.out _ _ ⟨zk0 BK325.out, zk1 BK325.out, zk2 BK325.out, zk3 BK325.out, zk0 BK329.out, zk1 BK329.out, zk2 BK329.out, zk3 BK329.out⟩ (fun hHeld => ?_)
            clear hK K
            refine norm_ (a' := ?_) ?_ ?_
            rotate_left
            ·show Act.put _ (some 53) _ = _
             simp only [Act.put, sT, sZ, sS, i64_w, i32_w]
             rfl
            refine pure_ (i := 10) (N := some 54) (v := ?_) (a' := ?_) #[true, true, true, true, true, true, true, true, true, true, true, false, false, false] rfl rfl (any_of HT_.out (by kernel_rfl)) (fun _ _ _ h => h) (Or.inl ⟨by rfl, ?_⟩) ?_ ?_
            rotate_left
            ·intro w'
             go_simp
             with_reducible rfl
            rotate_left
            ·simp only [Act.put, sT, sZ, sS, i64_w, i32_w]
             rfl
            refine one_ (i := 11) (N := some 55) #[true, true, true, true, true, true, true, true, true, true, true, true, false, false] rfl rfl (one_of HT_.out (by kernel_rfl)) (by decide) (fun K hK => ?_)
            refine value_ (w1 := ?_) (v := ?_) (by rfl) rfl ?_ ?_
            rotate_left 2
            ·go_simp
             constructor
             ·rfl
             ·rfl
            refine hK.out _ _ ⟨(blk_cell (blk_alloc BK325.out _) 0).trans rfl, (blk_cell (blk_alloc BK325.out _) 1).trans rfl, (blk_cell (blk_alloc BK325.out _) 2).trans rfl, (blk_cell (blk_alloc BK325.out _) 3).trans rfl, (blk_cell (blk_alloc BK329.out _) 0).trans rfl, (blk_cell (blk_alloc BK329.out _) 1).trans rfl, (blk_cell (blk_alloc BK329.out _) 2).trans rfl, (blk_cell (blk_alloc BK329.out _) 3).trans rfl⟩ (fun hHeld => ?_)
            clear hK K
            refine norm_ (a' := ?_) ?_ ?_
            rotate_left
            ·show Act.put _ (some 55) _ = _
             simp only [Act.put, sT, sZ, sS, i64_w, i32_w]
             rfl
            refine one_ (i := 12) (N := some 56) #[true, true, true, true, true, true, true, true, true, true, true, true, true, false] rfl rfl (one_of HT_.out (by kernel_rfl)) (by decide) (fun K hK => ?_)
            refine Kd.S_append_step k96 (w0 := w) w.heap.size (by rfl) (.tmp 44) (.tmp 55) 29 96 (.agg #[(.int .i64 0), (.slice none 0 0)]) 32 rfl Try.underlying29 info96 rfl (by decide) (by omega) u6 x6_2 (⟨wrap64 ((wrap64 (a0_0 + a0_2)) + x21_2), t337⟩ : S96) [.int .i64 (wrap64 ((wrap64 (a0_0 + a0_2)) + x21_2)), .slice Ao49 t337.length co49] (fun _ => True) (fun k_ => some k_ = (.slice Ao49 t337.length co49 : Value).ownBlock) rfl rfl ?aP (fun k_ hk_ => ((Kd.R_mono (ok' := fun k_ => ((fun _ => True)) k_ ∧ some k_ ≠ (u6 : Value).ownBlock) (Kd.R_apart' (HO339.out) (Kd.S_typed HO_6.out) (by decide)) (fun k_ hk => ⟨trivial, hk.2⟩))).1 k_ hk_.symm) ?aF ?aO ?aB ?aS ?aL ?_
            (case aP => exact k96_mkM _ _ _ (⟨wrap64 ((wrap64 (a0_0 + a0_2)) + x21_2), t337⟩ : S96) (Kd.R_mono (Kd.R_tight rfl (Kd.R_mono (ok' := fun k_ => ((fun _ => True)) k_ ∧ some k_ ≠ (u6 : Value).ownBlock) (Kd.R_apart' (HO339.out) (Kd.S_typed HO_6.out) (by decide)) (fun k_ hk => ⟨trivial, hk.2⟩))) (fun _ h_ => h_)))
            (case aB => exact (bw2 HB.out GE325.out GE329.out))
            (case aF => exact (fun _ _ => trivial))
            (case aO => exact (by refine sq ?_; exact Kd.S_mono HO_6.out (fun k_ hk => ⟨trivial, fun e_ => hk.2 e_⟩)))
            (case aS => exact (below_size (bw2 HB.out GE325.out GE329.out)))
            (case aL => have := LMc35.out; omega)
            intro v341 w50 ho hb hg hat
            rw [← Ny340.out] at ho
            replace BK325 := Ak (blk_grown (g := gb325) (o := .cells #[.int .i64 a0_0, .int .i64 a0_1, .int .i64 a0_2, .int .i64 a0_3] 32 (0, 0)) (bq BK325.out) hg (Kd.S_ne HO_6.out BK325.out (by decide)))
            replace BK329 := Ak (blk_grown (g := gb329) (o := .cells #[.int .i64 a0_3, .int .i64 (wrap64 (a0_2 + x21_2)), .int .u8 1, .slice A37 ((l1.drop ((ji13) : Int).toNat).take 44).length (c1 - (ji13).toNat)] 93 (0, 0)) (bq BK329.out) hg (Kd.S_ne HO_6.out BK329.out (by decide)))
            replace HB := Ak (hb)
            have HO342 := Ak (ho)
            clear HO_6 HO339
            clear ho hb hg hat
            refine hK.out _ _ ⟨zk0 BK325.out, zk1 BK325.out, zk2 BK325.out, zk3 BK325.out, zk0 BK329.out, zk1 BK329.out, zk2 BK329.out, zk3 BK329.out⟩ (fun hHeld => ?_)
            clear hK K
            refine norm_ (a' := ?_) ?_ ?_
            rotate_left
            ·show Act.put _ (some 56) _ = _
             simp only [Act.put, sT, sZ, sS, i64_w, i32_w]
             rfl
            refine pure_ (i := 13) (N := some 6) (v := ?_) (a' := ?_) #[true, true, true, true, true, true, true, true, true, true, true, true, true, true] rfl rfl (any_of HT_.out (by kernel_rfl)) (fun _ _ _ h => h) (Or.inl ⟨by rfl, ?_⟩) ?_ ?_
            rotate_left
            ·intro w'
             go_simp
             with_reducible rfl
            rotate_left
            ·simp only [Act.put, sT, sZ, sS, i64_w, i32_w]
             rfl
            refine done_ (done_of HT_.out (by kernel_rfl)) ?_
            try go_wp2
            go_roundg k2
            case measure => have := HJ3.out; have := HK2.out; omega
            case rel => exact ⟨(y340), (wrap64 (x21_2 + 1)), (by first | rfl | (simp; done) | (simp [*]; done)), H', ⟨by have := HJ3.out; have := HK2.out; omega⟩, ⟨sq HO342.out⟩, ⟨bq BK325.out⟩, ⟨bw2 HB.out GE325.out GE329.out⟩⟩
           ·rw [if_neg c35] at H
            exact absurd H (by simp)
          ·rw [if_neg c33] at H
           exact absurd H (by simp)
        ·rw [if_neg c15] at H
         exact absurd H (by simp)
       ·rw [if_neg c14] at H
        exact absurd H (by simp)
      ·rw [if_neg c12] at H
       have c12b0 : decide (x21_2 < t326) = false := decide_eq_false c12
       clear c12
       obtain rfl := Option.some.inj H
       go_wp2
       go_ret
       exact ⟨_, zw, sq HO_6.out, bw1 HB.out GE325.out⟩

end Go.Proofs.Ytgmnphckgicadaa.PFnExactLogAdd

