/- Functions that the law reaches, with their contracts. -/
import Derived.Test.YtgmnphckgicadaaMFnLogxc
import Derived.Test.YtgmnphckgicadaaMFnLogxb
namespace Go.Proofs.Ytgmnphckgicadaa.PFnLog
open Go.RowKit Go.Proofs.YtgmnphckgicadaaW.PrintWords Go.Proofs.YtgmnphckgicadaaW.PrintLast Go.Proofs.YtgmnphckgicadaaW.PrintMore
attribute [local go_sem] max2_int min2_int max_two min_two max_three min_three max_four min_four
set_option linter.unusedVariables false
set_option linter.unusedSimpArgs false

mutual
def spec_l12Read.j0 : Nat → List Int → Int → Bool → Int → Int → Bool → Option (Int × Int × Bool × List Int × Bool)
 | 0, _, _, _, _, _, _ => none
 | k + 1, x0, x5, x44, x489000, x489001, x489002 => if x44 = true then (some (0, 0, false, ([] : List Int), false)) else ((some (([] : List Int) : List Int)).bind fun y493 => (if 16 ≤ (wrap64 (16 + x5)) then (if (wrap64 (16 + x5)) ≤ (x0.length : Int) then (if y493.length + ((x0.take ((wrap64 (16 + x5)) : Int).toNat).drop 16).length < 140737488355328 then ((some (y493 ++ ((x0.take ((wrap64 (16 + x5)) : Int).toNat).drop 16) : List Int)).bind fun y497 => ((spec_l12Sector.f k x489000 x489001 x489002 y497).bind fun t500 => (spec_l12Read.l0 k x0 t500 0 x489000 x489001 x489002 y497))) else (none)) else (none)) else (none)))
def spec_l12Read.l0 : Nat → List Int → List Int → Int → Int → Int → Bool → List Int → Option (Int × Int × Bool × List Int × Bool)
 | 0, _, _, _, _, _, _, _ => none
 | k + 1, x0, x6, x7, x489000, x489001, x489002, x489003 => if x7 < (x0.length : Int) then (if 0 ≤ x7 then (if x7 < (x6.length : Int) then (if (rd x0 x7) = (rd x6 x7) then (spec_l12Read.l0 k x0 x6 (wrap64 (x7 + 1)) x489000 x489001 x489002 x489003) else (some (0, 0, false, ([] : List Int), false))) else (none)) else (none)) else (some (x489000, x489001, x489002, x489003, true))
end
def spec_l12Read.f (k : Nat) (l0 : List Int) : Option (Int × Int × Bool × List Int × Bool) := (spec_l12Get.f l0 0).bind fun t485 => ((spec_l12Get.f l0 4).bind fun t486 => (if 8 < (l0.length : Int) then (if 9 < (l0.length : Int) then ((spec_l1In.f t485 1 1000000).bind fun t490 => (if t490 = true then ((spec_l1In.f (wrap64 (rd l0 8)) 1 2).bind fun t492 => (if t492 = true then (if (wrap64 (rd l0 9)) > 44 then (spec_l12Read.j0 k l0 (wrap64 (rd l0 9)) true t485 t486 ((rd l0 8) == 1)) else (if (rd l0 8) = 1 then (spec_l12Read.j0 k l0 (wrap64 (rd l0 9)) ((wrap64 (rd l0 9)) != 44) t485 t486 ((rd l0 8) == 1)) else (spec_l12Read.j0 k l0 (wrap64 (rd l0 9)) false t485 t486 ((rd l0 8) == 1)))) else (spec_l12Read.j0 k l0 (wrap64 (rd l0 9)) true t485 t486 ((rd l0 8) == 1)))) else (spec_l12Read.j0 k l0 (wrap64 (rd l0 9)) true t485 t486 ((rd l0 8) == 1)))) else (none)) else (none)))
def spec_l12Read.T1 : Bool × List (List Nat × List Nat) := (true, [([], []), ([0], [0]), ([], []), ([2, 1], [2]), ([], []), ([4], [4]), ([5], [5]), ([6], [6]), ([1, 3, 7], [1, 3, 7]), ([], []), ([9, 8, 3, 0, 1, 2, 3, 4, 5, 6, 7, 8, 9], [8, 9])])
def spec_l12Read.B1 : List Nat := [0, 1, 0, 7, 0, 16, 48, 112, 255, 0, 1023]
theorem spec_l12Read.tab1 : rtab .any (opsOf Try.f58 1) = spec_l12Read.T1 := by kernel_rfl
theorem spec_l12Read.bits1 : waitsOk spec_l12Read.T1.2 spec_l12Read.B1 = true := by kernel_rfl
def spec_l12Read.T10 : Bool × List (List Nat × List Nat) := (true, [([], []), ([], []), ([0, 1], [0, 1]), ([2], [2]), ([], []), ([], []), ([4, 5], [4, 5]), ([6], [6]), ([3, 7], [3, 7])])
def spec_l12Read.B10 : List Nat := [0, 0, 3, 7, 0, 0, 48, 112, 255]
theorem spec_l12Read.tab10 : rtab .any (opsOf Try.f58 10) = spec_l12Read.T10 := by kernel_rfl
theorem spec_l12Read.bits10 : waitsOk spec_l12Read.T10.2 spec_l12Read.B10 = true := by kernel_rfl
set_option maxHeartbeats 8000000 in
set_option maxRecDepth 100000 in
theorem spec_l12Read.calls (k : Nat) (A0 : Option Addr) (c0 : Nat) (l0 : List Int) (r1 : Int) (r2 : Int) (r3 : Bool) (r4 : List Int) (r5 : Bool) (w : World) (hr0 : Kd.C (Kd.int .u8) w A0 l0.length l0) (hc0 : l0.length ≤ c0) (h : spec_l12Read.f k l0 = some (r1, r2, r3, r4, r5)) :
  Calls Try.prog 58 #[.slice A0 l0.length c0] w fun e w' => ∃ v3_ : Value, e = .returned (.tuple #[.agg #[.int .i64 r1, .int .i64 r2, .bool r3, v3_], .bool r5]) ∧ Kd.R (Kd.int .u8) 5 w' w.heap.size (fun _ => True) v3_ r4 ∧ Below w.heap.size w w' := by
 have hu79 := Try.underlying79
 have HR0 := Ak hr0
 have HC0 := Ak hc0
 clear hr0 hc0
 have HB := Ak (Below.refl w.heap.size w)
 have H := h
 unfold spec_l12Read.f at H
 clear h
 replace H := Option.bind_eq_some_iff.mp H
 obtain ⟨t485, A20, H⟩ := H
 have A2 := Ak A20
 clear A20
 replace H := Option.bind_eq_some_iff.mp H
 obtain ⟨t486, A30, H⟩ := H
 have A3 := Ak A30
 clear A30
 by_cases c4 : 8 < (l0.length : Int)
 ·rw [if_pos c4] at H
  have c4b0 := decide_eq_true c4
  have c4b1 : decide (8 < l0.length) = true := decide_eq_true (by omega)
  clear c4
  by_cases c5 : 9 < (l0.length : Int)
  ·rw [if_pos c5] at H
   have c5b0 := decide_eq_true c5
   have c5b1 : decide (9 < l0.length) = true := decide_eq_true (by omega)
   clear c5
   have HC6 := Ak H
   clear H
   go_enter Try.func58, Try.ntmps58
   try go_wp2_with (first | ((with_reducible refine gate_dst (N := 2) rfl ?_); refine box_event ?hg (N := 2) ?hd (cs := #[.int .i64 0, .int .i64 0, .bool false, .slice none 0 0]) (t := 79) ?hr ?_; (case hd => rfl); (case hg => rfl); (case hr => first | (go_simp; done) | (go_simp; rfl)); intro gb484 hg w7 hbox hb; have BK484 := Ak (hbox); have GW484 := Ak ((zb hg (bw HB.out))); have GE484 := Ak ((zb hg (bw HB.out))); replace HB := Ak (below_step (bw HB.out) hb); clear hb hbox hg))
   replace BK484 := Ak (blk_drew BK484.out)
   replace HB := Ak (below_drew1 HB.out)
   have p487 : 0 ≤ (8 : Int) := (by omega)
   have q487 : 8 < (l0.length : Int) := of_decide_eq_true (by first | (with_reducible assumption) | assumption)
   obtain ⟨ad487, e487, hx487_0⟩ := Kd.at_int HR0.out 8 p487 q487
   have hw487_0 := hx487_0
   (try rw [show ((8 : Int)).toNat = 8 from rfl] at hw487_0)
   (try rw [show 8 * 1 = 8 from rfl] at hw487_0)
   (try simp only [Nat.reduceMul, Nat.reduceEqDiff, Go.Addr.add, ↓reduceIte] at hw487_0)
   cases e487
   (try simp only [show (8 : Int).toNat = 8 from rfl, Nat.reduceMul, Nat.reduceEqDiff, Go.Addr.add, ↓reduceIte] at hx487_0)
   have qi487 : (8 < l0.length) = True := eq_true (by omega)
   (try rw [show ((8 : Int)).toNat = 8 from rfl] at hx487_0)
   replace hx487_0 := (HB.out.cell (World.block_lt_of_cell? w _ hx487_0)).trans hx487_0
   replace p487 := eq_true p487
   replace q487 := eq_true q487
   refine start_ (n := 11) (S := fun w' => w'.cell? ⟨ad487.block, ad487.off + 8, none⟩ = some (.int .u8 (rd l0 8))) (ds := []) #[false, false, false, false, false, false, false, false, false, false, false] (by kernel_rfl) rfl rfl (((HB.out.cell (World.block_lt_of_cell? w _ hw487_0)).trans hw487_0)) (fun hHeld => ?_); refine with_tabW spec_l12Read.tab1 spec_l12Read.bits1 (fun HT_ HW_ => ?_)
   generalize w7.drew = w8 at BK484 HB hx487_0 hHeld ⊢
   refine puT 0 8 HT_ (h := ?_)
   refine puT 2 10 HT_ (h := ?_)
   refine puT 4 12 HT_ (h := ?_)
   refine puT 5 13 HT_ (h := ?_)
   refine taT 6 14 HT_ HW_ hHeld (h := ?_)
   refine puT 7 15 HT_ (h := ?_)
   refine join_ (σ := Nat) 1 #[true, true, true, true, true, true, true, true, true, true, false] (fun s_ => [(9, .int .i64 t485), (11, .int .i64 t486), (4, .pointer (some ⟨s_, 0, none⟩)), (16, .agg #[.int .i64 t485, .int .i64 t486, .bool ((rd l0 8) == 1), .slice none 0 0])]) (fun s_ w' => (w'.cell? ⟨ad487.block, ad487.off + 8, none⟩ = some (.int .u8 (rd l0 8))) ∧ (w'.heap[gb484]? = some (.cells #[.int .i64 0, .int .i64 0, .bool false, .slice none 0 0] 79 (0, 0))) ∧ (w'.heap[s_]? = some (.cells #[.int .i64 0, .int .i64 0, .bool false, .slice none 0 0] 79 (0, 0))) ∧ (w.heap.size ≤ s_) ∧ (w.heap.size ≤ s_) ∧ (gb484 ≠ s_) ∧ (s_ ≠ gb484) ∧ (Below w.heap.size w w')) ?_ ?_
   rotate_left
   ·intro hCont
    refine two_ (i := 1) (j := 9) (Ni := some 9) (Nj := some 4) #[true, true, true, false, true, true, true, true, false, false, false] #[true, false, true, false, true, true, true, true, false, true, false] rfl rfl rfl rfl (two_of HT_.out (by kernel_rfl)) (by decide) (by decide) (fun K hK => ?_) (fun K hK => ?_)
    ·skip
     refine goes_ Try.func105 (by kernel_rfl) rfl #[.slice (some ad487) l0.length c0, .int .i64 0] (by rfl) rfl rfl gm ?_
     with_reducible refine (spec_l12Get.calls _ _ l0 0 t485 _ ?side1 ?side2 A2.out).mono ?_
     (case side1 => exact zq (Kd.C_below HR0.out HB.out))
     (case side2 => exact HC0.out)
     rintro e w' ⟨rfl, ⟨nd, rfl⟩⟩
     refine ⟨_, rfl, ?_⟩
     refine hK.out _ _ (((HB.out.cell (World.block_lt_of_cell? w _ hw487_0)).trans hw487_0)) (fun hHeld => ?_)
     clear hK K
     refine norm_ (a' := ?_) ?_ ?_
     rotate_left
     ·show Act.put _ (some 9) _ = _
      simp only [Act.put, sT, sZ, sS, i64_w, i32_w]
      rfl
     refine two_ (i := 3) (j := 9) (Ni := some 11) (Nj := some 4) #[true, true, true, true, true, true, true, true, false, false, false] #[true, true, true, false, true, true, true, true, false, true, false] rfl rfl rfl rfl (two_of HT_.out (by kernel_rfl)) (by decide) (by decide) (fun K hK => ?_) (fun K hK => ?_)
     ·skip
      refine goes_ Try.func105 (by kernel_rfl) rfl #[.slice (some ad487) l0.length c0, .int .i64 4] (by rfl) rfl rfl gm ?_
      with_reducible refine (spec_l12Get.calls _ _ l0 4 t486 _ ?side1 ?side2 A3.out).mono ?_
      (case side1 => exact zq (Kd.C_below HR0.out (bw1 HB.out GE484.out)))
      (case side2 => exact HC0.out)
      rintro e w' ⟨rfl, ⟨nd, rfl⟩⟩
      refine ⟨_, rfl, ?_⟩
      refine hK.out _ _ (((HB.out.cell (World.block_lt_of_cell? w _ hw487_0)).trans hw487_0)) (fun hHeld => ?_)
      clear hK K
      refine norm_ (a' := ?_) ?_ ?_
      rotate_left
      ·show Act.put _ (some 11) _ = _
       simp only [Act.put, sT, sZ, sS, i64_w, i32_w]
       rfl
      refine puT 8 16 HT_ (h := ?_)
      refine onT 9 (some 4) HT_ (h := fun K hK => ?_)
      refine box_step ?hg (N := 4) ?hd (cs := #[.int .i64 0, .int .i64 0, .bool false, .slice none 0 0]) (t := 79) ?hr ?_; (case hd => rfl); (case hg => rfl); (case hr => first | (go_simp; done) | (go_simp; rfl))
      intro gb488 hg w9 hbox hb
      have BK488 := Ak (hbox)
      have GW488 := Ak ((zb hg (bw1 HB.out GE484.out)))
      have GE488 := Ak ((zb hg (bw1 HB.out GE484.out)))
      replace HB := Ak (below_step (bw1 HB.out GE484.out) hb)
      have NB484_488 := Ak ((zl hg (bq BK484.out)))
      have NB488_484 := Ak ((zm hg (bq BK484.out)))
      replace BK484 := Ak (blk_below (bq BK484.out) hb)
      clear hb hbox hg
      refine hK.out _ _ (((HB.out.cell (World.block_lt_of_cell? w _ hw487_0)).trans hw487_0)) (fun hHeld => ?_)
      clear hK K
      refine norm_ (a' := ?_) ?_ ?_
      rotate_left
      ·show Act.put _ (some 4) _ = _
       simp only [Act.put, sT, sZ, sS, i64_w, i32_w]
       rfl
      exact norm_ (by simp only [putAll, Act.put, sT, sZ, sS]) (hCont (gb488) _ ⟨hHeld, (bq BK484.out), (bq BK488.out), GW488.out, GE488.out, NB484_488.out, NB488_484.out, (bw2 HB.out GE484.out GE488.out)⟩)
     ·skip
      refine box_step ?hg (N := 4) ?hd (cs := #[.int .i64 0, .int .i64 0, .bool false, .slice none 0 0]) (t := 79) ?hr ?_; (case hd => rfl); (case hg => rfl); (case hr => first | (go_simp; done) | (go_simp; rfl))
      intro gb488 hg w9 hbox hb
      have BK488 := Ak (hbox)
      have GW488 := Ak ((zb hg (bw1 HB.out GE484.out)))
      have GE488 := Ak ((zb hg (bw1 HB.out GE484.out)))
      replace HB := Ak (below_step (bw1 HB.out GE484.out) hb)
      have NB484_488 := Ak ((zl hg (bq BK484.out)))
      have NB488_484 := Ak ((zm hg (bq BK484.out)))
      replace BK484 := Ak (blk_below (bq BK484.out) hb)
      clear hb hbox hg
      refine hK.out _ _ (((HB.out.cell (World.block_lt_of_cell? w _ hw487_0)).trans hw487_0)) (fun hHeld => ?_)
      clear hK K
      refine norm_ (a' := ?_) ?_ ?_
      rotate_left
      ·show Act.put _ (some 4) _ = _
       simp only [Act.put, sT, sZ, sS, i64_w, i32_w]
       rfl
      refine onT 3 (some 11) HT_ (h := fun K hK => ?_)
      refine goes_ Try.func105 (by kernel_rfl) rfl #[.slice (some ad487) l0.length c0, .int .i64 4] (by rfl) rfl rfl gm ?_
      with_reducible refine (spec_l12Get.calls _ _ l0 4 t486 _ ?side1 ?side2 A3.out).mono ?_
      (case side1 => exact zq (Kd.C_below HR0.out HB.out))
      (case side2 => exact HC0.out)
      rintro e w' ⟨rfl, ⟨nd, rfl⟩⟩
      refine ⟨_, rfl, ?_⟩
      refine hK.out _ _ (((HB.out.cell (World.block_lt_of_cell? w _ hw487_0)).trans hw487_0)) (fun hHeld => ?_)
      clear hK K
      refine norm_ (a' := ?_) ?_ ?_
      rotate_left
      ·show Act.put _ (some 11) _ = _
       simp only [Act.put, sT, sZ, sS, i64_w, i32_w]
       rfl
      refine puT 8 16 HT_ (h := ?_)
      exact norm_ (by simp only [putAll, Act.put, sT, sZ, sS]) (hCont (gb488) _ ⟨hHeld, (bq BK484.out), (bq BK488.out), GW488.out, GE488.out, NB484_488.out, NB488_484.out, (bw2 HB.out GE484.out GE488.out)⟩)
    ·skip
     refine box_step ?hg (N := 4) ?hd (cs := #[.int .i64 0, .int .i64 0, .bool false, .slice none 0 0]) (t := 79) ?hr ?_; (case hd => rfl); (case hg => rfl); (case hr => first | (go_simp; done) | (go_simp; rfl))
     intro gb488 hg w9 hbox hb
     have BK488 := Ak (hbox)
     have GW488 := Ak ((zb hg (bw1 HB.out GE484.out)))
     have GE488 := Ak ((zb hg (bw1 HB.out GE484.out)))
     replace HB := Ak (below_step (bw1 HB.out GE484.out) hb)
     have NB484_488 := Ak ((zl hg (bq BK484.out)))
     have NB488_484 := Ak ((zm hg (bq BK484.out)))
     replace BK484 := Ak (blk_below (bq BK484.out) hb)
     clear hb hbox hg
     refine hK.out _ _ (((HB.out.cell (World.block_lt_of_cell? w _ hw487_0)).trans hw487_0)) (fun hHeld => ?_)
     clear hK K
     refine norm_ (a' := ?_) ?_ ?_
     rotate_left
     ·show Act.put _ (some 4) _ = _
      simp only [Act.put, sT, sZ, sS, i64_w, i32_w]
      rfl
     refine onT 1 (some 9) HT_ (h := fun K hK => ?_)
     refine goes_ Try.func105 (by kernel_rfl) rfl #[.slice (some ad487) l0.length c0, .int .i64 0] (by rfl) rfl rfl gm ?_
     with_reducible refine (spec_l12Get.calls _ _ l0 0 t485 _ ?side1 ?side2 A2.out).mono ?_
     (case side1 => exact zq (Kd.C_below HR0.out HB.out))
     (case side2 => exact HC0.out)
     rintro e w' ⟨rfl, ⟨nd, rfl⟩⟩
     refine ⟨_, rfl, ?_⟩
     refine hK.out _ _ (((HB.out.cell (World.block_lt_of_cell? w _ hw487_0)).trans hw487_0)) (fun hHeld => ?_)
     clear hK K
     refine norm_ (a' := ?_) ?_ ?_
     rotate_left
     ·show Act.put _ (some 9) _ = _
      simp only [Act.put, sT, sZ, sS, i64_w, i32_w]
      rfl
     refine onT 3 (some 11) HT_ (h := fun K hK => ?_)
     refine goes_ Try.func105 (by kernel_rfl) rfl #[.slice (some ad487) l0.length c0, .int .i64 4] (by rfl) rfl rfl gm ?_
     with_reducible refine (spec_l12Get.calls _ _ l0 4 t486 _ ?side1 ?side2 A3.out).mono ?_
     (case side1 => exact zq (Kd.C_below HR0.out (bw2 HB.out GE484.out GE488.out)))
     (case side2 => exact HC0.out)
     rintro e w' ⟨rfl, ⟨nd, rfl⟩⟩
     refine ⟨_, rfl, ?_⟩
     refine hK.out _ _ (((HB.out.cell (World.block_lt_of_cell? w _ hw487_0)).trans hw487_0)) (fun hHeld => ?_)
     clear hK K
     refine norm_ (a' := ?_) ?_ ?_
     rotate_left
     ·show Act.put _ (some 11) _ = _
      simp only [Act.put, sT, sZ, sS, i64_w, i32_w]
      rfl
     refine puT 8 16 HT_ (h := ?_)
     exact norm_ (by simp only [putAll, Act.put, sT, sZ, sS]) (hCont (gb488) _ ⟨hHeld, (bq BK484.out), (bq BK488.out), GW488.out, GE488.out, NB484_488.out, NB488_484.out, (bw2 HB.out GE484.out GE488.out)⟩)
   rintro gb488 w10 ⟨hS_, h0_, h1_, h2_, h3_, h4_, h5_, h6_⟩
   replace BK484 : Aside0 (w10.heap[gb484]? = some (.cells #[.int .i64 0, .int .i64 0, .bool false, .slice none 0 0] 79 (0, 0))) := ⟨h0_⟩
   have BK488 : Aside0 (w10.heap[gb488]? = some (.cells #[.int .i64 0, .int .i64 0, .bool false, .slice none 0 0] 79 (0, 0))) := ⟨h1_⟩
   have GW488 : Aside0 (w.heap.size ≤ gb488) := ⟨h2_⟩
   have GE488 : Aside0 (w.heap.size ≤ gb488) := ⟨h3_⟩
   have NB484_488 : Aside0 (gb484 ≠ gb488) := ⟨h4_⟩
   have NB488_484 : Aside0 (gb488 ≠ gb484) := ⟨h5_⟩
   replace HB : Aside0 (Below w.heap.size w w10) := ⟨h6_⟩
   clear h0_ h1_ h2_ h3_ h4_ h5_ h6_
   have hHeld : w10.cell? ⟨ad487.block, ad487.off + 8, none⟩ = some (.int .u8 (rd l0 8)) := hS_
   refine norm_ (a' := ?_) ?_ ?_
   rotate_left
   ·simp only [putAll, Act.put, sT, sZ, sS]
    rfl
   refine onT 10 none HT_ (h := fun K hK => ?_)
   have hs11 := zk0 BK488.out
   have hfs11 := blk_frozen BK488.out 0
   have hns11_0 := NB484_488.out
   have hms11_0 := NB488_484.out
   have hs12 := zk1 BK488.out
   have hfs12 := blk_frozen BK488.out 1
   have hs13 := zk2 BK488.out
   have hfs13 := blk_frozen BK488.out 2
   have hs14 := zk3 BK488.out
   have hfs14 := blk_frozen BK488.out 3
   refine skip_ (w1 := ?_) (by rfl) rfl ?_ ?_
   rotate_left
   ·go_simp
    rfl
   refine hK.out _ _ (((cell_far (p := ⟨gb488, _, none⟩) (by first | exact Nat.ne_of_lt (Nat.lt_of_lt_of_le (by have := World.block_lt_of_cell? _ _ hw487_0; first | rwa [add_block] at this | exact this) GW488.out) | (rw [add_block]; exact Nat.ne_of_lt (Nat.lt_of_lt_of_le (by have := World.block_lt_of_cell? _ _ hw487_0; first | rwa [add_block] at this | exact this) GW488.out)) | (show (Addr.add _ _).block ≠ _; rw [add_block]; exact Nat.ne_of_lt (Nat.lt_of_lt_of_le (by have := World.block_lt_of_cell? _ _ hw487_0; first | rwa [add_block] at this | exact this) GW488.out)) | (dsimp only; exact Nat.ne_of_lt (Nat.lt_of_lt_of_le (by have := World.block_lt_of_cell? _ _ hw487_0; first | rwa [add_block] at this | exact this) GW488.out))) _).trans (((cell_far (p := ⟨gb488, _, none⟩) (by first | exact Nat.ne_of_lt (Nat.lt_of_lt_of_le (by have := World.block_lt_of_cell? _ _ hw487_0; first | rwa [add_block] at this | exact this) GW488.out) | (rw [add_block]; exact Nat.ne_of_lt (Nat.lt_of_lt_of_le (by have := World.block_lt_of_cell? _ _ hw487_0; first | rwa [add_block] at this | exact this) GW488.out)) | (show (Addr.add _ _).block ≠ _; rw [add_block]; exact Nat.ne_of_lt (Nat.lt_of_lt_of_le (by have := World.block_lt_of_cell? _ _ hw487_0; first | rwa [add_block] at this | exact this) GW488.out)) | (dsimp only; exact Nat.ne_of_lt (Nat.lt_of_lt_of_le (by have := World.block_lt_of_cell? _ _ hw487_0; first | rwa [add_block] at this | exact this) GW488.out))) _).trans (((cell_far (p := ⟨gb488, _, none⟩) (by first | exact Nat.ne_of_lt (Nat.lt_of_lt_of_le (by have := World.block_lt_of_cell? _ _ hw487_0; first | rwa [add_block] at this | exact this) GW488.out) | (rw [add_block]; exact Nat.ne_of_lt (Nat.lt_of_lt_of_le (by have := World.block_lt_of_cell? _ _ hw487_0; first | rwa [add_block] at this | exact this) GW488.out)) | (show (Addr.add _ _).block ≠ _; rw [add_block]; exact Nat.ne_of_lt (Nat.lt_of_lt_of_le (by have := World.block_lt_of_cell? _ _ hw487_0; first | rwa [add_block] at this | exact this) GW488.out)) | (dsimp only; exact Nat.ne_of_lt (Nat.lt_of_lt_of_le (by have := World.block_lt_of_cell? _ _ hw487_0; first | rwa [add_block] at this | exact this) GW488.out))) _).trans (((cell_far (p := ⟨gb488, _, none⟩) (by first | exact Nat.ne_of_lt (Nat.lt_of_lt_of_le (by have := World.block_lt_of_cell? _ _ hw487_0; first | rwa [add_block] at this | exact this) GW488.out) | (rw [add_block]; exact Nat.ne_of_lt (Nat.lt_of_lt_of_le (by have := World.block_lt_of_cell? _ _ hw487_0; first | rwa [add_block] at this | exact this) GW488.out)) | (show (Addr.add _ _).block ≠ _; rw [add_block]; exact Nat.ne_of_lt (Nat.lt_of_lt_of_le (by have := World.block_lt_of_cell? _ _ hw487_0; first | rwa [add_block] at this | exact this) GW488.out)) | (dsimp only; exact Nat.ne_of_lt (Nat.lt_of_lt_of_le (by have := World.block_lt_of_cell? _ _ hw487_0; first | rwa [add_block] at this | exact this) GW488.out))) _).trans hHeld)))))))) (fun hHeld => ?_)
   clear hK K
   refine done_ (done_of HT_.out (by kernel_rfl)) ?_
   have p489 : 0 ≤ (9 : Int) := (by omega)
   have q489 : 9 < (l0.length : Int) := of_decide_eq_true (by first | (with_reducible assumption) | assumption)
   obtain ⟨ad489, e489, hx489_0⟩ := Kd.at_int HR0.out 9 p489 q489
   obtain rfl : ad487 = ad489 := (by injection e489)
   (try simp only [show (9 : Int).toNat = 9 from rfl, Nat.reduceMul, Nat.reduceEqDiff, Go.Addr.add, ↓reduceIte] at hx489_0)
   have qi489 : (9 < l0.length) = True := eq_true (by omega)
   (try rw [show ((9 : Int)).toNat = 9 from rfl] at hx489_0)
   have hn489_0 : ad487.block ≠ gb488 := Nat.ne_of_lt (Nat.lt_of_lt_of_le (by have := World.block_lt_of_cell? _ _ hx489_0; first | rwa [add_block] at this | exact this) GW488.out)
   have hn489_1 : ad487.block ≠ gb488 := Nat.ne_of_lt (Nat.lt_of_lt_of_le (by have := World.block_lt_of_cell? _ _ hx489_0; first | rwa [add_block] at this | exact this) GW488.out)
   have hn489_2 : ad487.block ≠ gb488 := Nat.ne_of_lt (Nat.lt_of_lt_of_le (by have := World.block_lt_of_cell? _ _ hx489_0; first | rwa [add_block] at this | exact this) GW488.out)
   have hn489_3 : ad487.block ≠ gb488 := Nat.ne_of_lt (Nat.lt_of_lt_of_le (by have := World.block_lt_of_cell? _ _ hx489_0; first | rwa [add_block] at this | exact this) GW488.out)
   replace hx489_0 := (HB.out.cell (World.block_lt_of_cell? w _ hx489_0)).trans hx489_0
   replace hx489_0 := (cell_far (p := ⟨gb488, 0, none⟩) (by first | (rw [add_block]; exact hn489_0) | (show (Addr.add _ _).block ≠ _; rw [add_block]; exact hn489_0) | exact hn489_0) (.int .i64 t485)).trans hx489_0
   replace hx489_0 := (cell_far (p := ⟨gb488, 1, none⟩) (by first | (rw [add_block]; exact hn489_1) | (show (Addr.add _ _).block ≠ _; rw [add_block]; exact hn489_1) | exact hn489_1) (.int .i64 t486)).trans hx489_0
   replace hx489_0 := (cell_far (p := ⟨gb488, 2, none⟩) (by first | (rw [add_block]; exact hn489_2) | (show (Addr.add _ _).block ≠ _; rw [add_block]; exact hn489_2) | exact hn489_2) (.bool ((rd l0 8) == 1))).trans hx489_0
   replace hx489_0 := (cell_far (p := ⟨gb488, 3, none⟩) (by first | (rw [add_block]; exact hn489_3) | (show (Addr.add _ _).block ≠ _; rw [add_block]; exact hn489_3) | exact hn489_3) (.slice none 0 0)).trans hx489_0
   clear hn489_0
   clear hn489_1
   clear hn489_2
   clear hn489_3
   replace p489 := eq_true p489
   replace q489 := eq_true q489
   go_upto_region 3 with (fail)
   go_cut [44] (fun v44 wc => ∃ (kq : Nat) (x44_5 : Bool), v44 = .bool x44_5 ∧ Aside0 (spec_l12Read.j0 kq l0 (wrap64 (rd l0 9)) x44_5 t485 t486 ((rd l0 8) == 1) = some (r1, r2, r3, r4, r5)) ∧ Aside0 (kq ≤ k) ∧ Aside0 (wc.heap[gb484]? = some (.cells #[.int .i64 0, .int .i64 0, .bool false, (.slice none 0 0)] 79 (0, 0))) ∧ Aside0 (wc.heap[gb488]? = some (.cells #[.int .i64 t485, .int .i64 t486, .bool ((rd l0 8) == 1), (.slice none 0 0)] 79 (0, 0))) ∧ Aside0 (Below w.heap.size w wc))
   case first =>
    have H := HC6.out
    clear HC6
    replace H := Option.bind_eq_some_iff.mp H
    obtain ⟨t490, A150, H⟩ := H
    have A15 := Ak A150
    clear A150
    by_cases c16 : t490 = true
    ·subst c16
     rw [if_pos rfl] at H
     replace H := Option.bind_eq_some_iff.mp H
     obtain ⟨t492, A170, H⟩ := H
     have A17 := Ak A170
     clear A170
     by_cases c18 : t492 = true
     ·subst c18
      rw [if_pos rfl] at H
      by_cases c19 : (wrap64 (rd l0 9)) > 44
      ·rw [if_pos c19] at H
       have c19b0 : decide (44 < (wrap64 (rd l0 9))) = true := decide_eq_true c19
       clear c19
       (first | rw [c19b0] | (simp only [i64_w, i32_w]; rw [c19b0]) | skip)
       have H' := Ak H
       clear H
       have hnb20 := NB488_484.out
       have hnc20 := NB484_488.out
       have hcz21_0 := zk0 BK488.out
       have hcz21_1 := zk1 BK488.out
       have hcz21_2 := zk2 BK488.out
       have hcz21_3 := zk3 BK488.out
       have hfz21_0 := blk_frozen BK488.out 0
       have hfz21_1 := blk_frozen BK488.out 1
       have hfz21_2 := blk_frozen BK488.out 2
       have hfz21_3 := blk_frozen BK488.out 3
       go_wp2_with (first | ((with_reducible refine gate_callee (f := 97) rfl ?_); refine goesL_ (some 23) rfl rfl Try.func97 (by kernel_rfl) rfl #[.int .i64 t485, .int .i64 1, .int .i64 1000000] rfl gm ?_; (with_reducible refine (spec_l1In.calls t485 1 1000000 true _ A15.out).mono ?_); rintro e w' ⟨rfl, ⟨nd, rfl⟩⟩; refine ⟨_, rfl, ?_⟩; have p491 : 0 ≤ (8 : Int) := (by omega); have q491 : 8 < (l0.length : Int) := of_decide_eq_true (by first | (with_reducible assumption) | assumption); obtain ⟨ad491, e491, hx491_0⟩ := Kd.at_int HR0.out 8 p491 q491; obtain rfl : ad487 = ad491 := (by injection e491); (try simp only [show (8 : Int).toNat = 8 from rfl, Nat.reduceMul, Nat.reduceEqDiff, Go.Addr.add, ↓reduceIte] at hx491_0); have qi491 : (8 < l0.length) = True := eq_true (by omega); (try rw [show ((8 : Int)).toNat = 8 from rfl] at hx491_0); have hn491_0 : ad487.block ≠ gb488 := Nat.ne_of_lt (Nat.lt_of_lt_of_le (by have := World.block_lt_of_cell? _ _ hx491_0; first | rwa [add_block] at this | exact this) GW488.out); have hn491_1 : ad487.block ≠ gb488 := Nat.ne_of_lt (Nat.lt_of_lt_of_le (by have := World.block_lt_of_cell? _ _ hx491_0; first | rwa [add_block] at this | exact this) GW488.out); have hn491_2 : ad487.block ≠ gb488 := Nat.ne_of_lt (Nat.lt_of_lt_of_le (by have := World.block_lt_of_cell? _ _ hx491_0; first | rwa [add_block] at this | exact this) GW488.out); have hn491_3 : ad487.block ≠ gb488 := Nat.ne_of_lt (Nat.lt_of_lt_of_le (by have := World.block_lt_of_cell? _ _ hx491_0; first | rwa [add_block] at this | exact this) GW488.out); replace hx491_0 := (HB.out.cell (World.block_lt_of_cell? w _ hx491_0)).trans hx491_0; replace hx491_0 := (cell_far (p := ⟨gb488, 0, none⟩) (by first | (rw [add_block]; exact hn491_0) | (show (Addr.add _ _).block ≠ _; rw [add_block]; exact hn491_0) | exact hn491_0) (.int .i64 t485)).trans hx491_0; replace hx491_0 := (cell_far (p := ⟨gb488, 1, none⟩) (by first | (rw [add_block]; exact hn491_1) | (show (Addr.add _ _).block ≠ _; rw [add_block]; exact hn491_1) | exact hn491_1) (.int .i64 t486)).trans hx491_0; replace hx491_0 := (cell_far (p := ⟨gb488, 2, none⟩) (by first | (rw [add_block]; exact hn491_2) | (show (Addr.add _ _).block ≠ _; rw [add_block]; exact hn491_2) | exact hn491_2) (.bool ((rd l0 8) == 1))).trans hx491_0; replace hx491_0 := (cell_far (p := ⟨gb488, 3, none⟩) (by first | (rw [add_block]; exact hn491_3) | (show (Addr.add _ _).block ≠ _; rw [add_block]; exact hn491_3) | exact hn491_3) (.slice none 0 0)).trans hx491_0; clear hn491_0; clear hn491_1; clear hn491_2; clear hn491_3; replace p491 := eq_true p491; replace q491 := eq_true q491) | (go_at_call 97; (with_reducible refine (spec_l1In.calls (wrap64 (rd l0 8)) 1 2 true _ A17.out).mono ?_); rintro e w' ⟨rfl, ⟨nd, rfl⟩⟩))
       go_meet
       case rel => exact ⟨_, (true), (by first | rfl | (simp; done) | (simp [*]; done)), H', ⟨by first | omega | exact Nat.le_refl _⟩, ⟨by refine bq ?_; refine blk_far ?_ NB484_488.out _; refine bq ?_; refine blk_far ?_ NB484_488.out _; refine bq ?_; refine blk_far ?_ NB484_488.out _; refine bq ?_; refine blk_far ?_ NB484_488.out _; exact bq BK484.out⟩, ⟨by refine bq ?_; refine blk_put (cs := #[.int .i64 t485, .int .i64 t486, .bool ((rd l0 8) == 1), .slice none 0 0]) ?_ 3 _ rfl; refine bq ?_; refine blk_put (cs := #[.int .i64 t485, .int .i64 t486, .bool false, .slice none 0 0]) ?_ 2 _ (by first | rfl | (rw [show ((rd l0 8) == 1) = true from (by assumption)]; rfl) | (rw [show ((rd l0 8) == 1) = false from (by assumption)]; rfl)); refine bq ?_; refine blk_put (cs := #[.int .i64 t485, .int .i64 0, .bool false, .slice none 0 0]) ?_ 1 _ rfl; refine bq ?_; refine blk_put (cs := #[.int .i64 0, .int .i64 0, .bool false, .slice none 0 0]) ?_ 0 _ rfl; exact bq BK488.out⟩, ⟨bw2 HB.out GE484.out GE488.out⟩⟩
      ·rw [if_neg c19] at H
       have c19b0 : decide (44 < (wrap64 (rd l0 9))) = false := decide_eq_false c19
       clear c19
       (first | rw [c19b0] | (simp only [i64_w, i32_w]; rw [c19b0]) | skip)
       by_cases c22 : (rd l0 8) = 1
       ·rw [if_pos c22] at H
        have c22b0 : ((rd l0 8) == 1) = true := beq_iff_eq.mpr c22
        have c22b1 : ((rd l0 8) != 1) = false := bne_eq_false_iff_eq.mpr c22
        clear c22
        have H' := Ak H
        clear H
        have hnb23 := NB488_484.out
        have hnc23 := NB484_488.out
        have hcz24_0 := zk0 BK488.out
        have hcz24_1 := zk1 BK488.out
        have hcz24_2 := zk2 BK488.out
        have hcz24_3 := zk3 BK488.out
        have hfz24_0 := blk_frozen BK488.out 0
        have hfz24_1 := blk_frozen BK488.out 1
        have hfz24_2 := blk_frozen BK488.out 2
        have hfz24_3 := blk_frozen BK488.out 3
        go_wp2_with (first | ((with_reducible refine gate_callee (f := 97) rfl ?_); refine goesL_ (some 23) rfl rfl Try.func97 (by kernel_rfl) rfl #[.int .i64 t485, .int .i64 1, .int .i64 1000000] rfl gm ?_; (with_reducible refine (spec_l1In.calls t485 1 1000000 true _ A15.out).mono ?_); rintro e w' ⟨rfl, ⟨nd, rfl⟩⟩; refine ⟨_, rfl, ?_⟩; have p491 : 0 ≤ (8 : Int) := (by omega); have q491 : 8 < (l0.length : Int) := of_decide_eq_true (by first | (with_reducible assumption) | assumption); obtain ⟨ad491, e491, hx491_0⟩ := Kd.at_int HR0.out 8 p491 q491; obtain rfl : ad487 = ad491 := (by injection e491); (try simp only [show (8 : Int).toNat = 8 from rfl, Nat.reduceMul, Nat.reduceEqDiff, Go.Addr.add, ↓reduceIte] at hx491_0); have qi491 : (8 < l0.length) = True := eq_true (by omega); (try rw [show ((8 : Int)).toNat = 8 from rfl] at hx491_0); have hn491_0 : ad487.block ≠ gb488 := Nat.ne_of_lt (Nat.lt_of_lt_of_le (by have := World.block_lt_of_cell? _ _ hx491_0; first | rwa [add_block] at this | exact this) GW488.out); have hn491_1 : ad487.block ≠ gb488 := Nat.ne_of_lt (Nat.lt_of_lt_of_le (by have := World.block_lt_of_cell? _ _ hx491_0; first | rwa [add_block] at this | exact this) GW488.out); have hn491_2 : ad487.block ≠ gb488 := Nat.ne_of_lt (Nat.lt_of_lt_of_le (by have := World.block_lt_of_cell? _ _ hx491_0; first | rwa [add_block] at this | exact this) GW488.out); have hn491_3 : ad487.block ≠ gb488 := Nat.ne_of_lt (Nat.lt_of_lt_of_le (by have := World.block_lt_of_cell? _ _ hx491_0; first | rwa [add_block] at this | exact this) GW488.out); replace hx491_0 := (HB.out.cell (World.block_lt_of_cell? w _ hx491_0)).trans hx491_0; replace hx491_0 := (cell_far (p := ⟨gb488, 0, none⟩) (by first | (rw [add_block]; exact hn491_0) | (show (Addr.add _ _).block ≠ _; rw [add_block]; exact hn491_0) | exact hn491_0) (.int .i64 t485)).trans hx491_0; replace hx491_0 := (cell_far (p := ⟨gb488, 1, none⟩) (by first | (rw [add_block]; exact hn491_1) | (show (Addr.add _ _).block ≠ _; rw [add_block]; exact hn491_1) | exact hn491_1) (.int .i64 t486)).trans hx491_0; replace hx491_0 := (cell_far (p := ⟨gb488, 2, none⟩) (by first | (rw [add_block]; exact hn491_2) | (show (Addr.add _ _).block ≠ _; rw [add_block]; exact hn491_2) | exact hn491_2) (.bool ((rd l0 8) == 1))).trans hx491_0; replace hx491_0 := (cell_far (p := ⟨gb488, 3, none⟩) (by first | (rw [add_block]; exact hn491_3) | (show (Addr.add _ _).block ≠ _; rw [add_block]; exact hn491_3) | exact hn491_3) (.slice none 0 0)).trans hx491_0; clear hn491_0; clear hn491_1; clear hn491_2; clear hn491_3; replace p491 := eq_true p491; replace q491 := eq_true q491) | (go_at_call 97; (with_reducible refine (spec_l1In.calls (wrap64 (rd l0 8)) 1 2 true _ A17.out).mono ?_); rintro e w' ⟨rfl, ⟨nd, rfl⟩⟩))
        go_meet
        case rel => exact ⟨_, (((wrap64 (rd l0 9)) != 44)), (by first | rfl | (simp; done) | (simp [*]; done)), H', ⟨by first | omega | exact Nat.le_refl _⟩, ⟨by refine bq ?_; refine blk_far ?_ NB484_488.out _; refine bq ?_; refine blk_far ?_ NB484_488.out _; refine bq ?_; refine blk_far ?_ NB484_488.out _; refine bq ?_; refine blk_far ?_ NB484_488.out _; exact bq BK484.out⟩, ⟨by refine bq ?_; refine blk_put (cs := #[.int .i64 t485, .int .i64 t486, .bool ((rd l0 8) == 1), .slice none 0 0]) ?_ 3 _ rfl; refine bq ?_; refine blk_put (cs := #[.int .i64 t485, .int .i64 t486, .bool false, .slice none 0 0]) ?_ 2 _ (by first | rfl | (rw [show ((rd l0 8) == 1) = true from (by assumption)]; rfl) | (rw [show ((rd l0 8) == 1) = false from (by assumption)]; rfl)); refine bq ?_; refine blk_put (cs := #[.int .i64 t485, .int .i64 0, .bool false, .slice none 0 0]) ?_ 1 _ rfl; refine bq ?_; refine blk_put (cs := #[.int .i64 0, .int .i64 0, .bool false, .slice none 0 0]) ?_ 0 _ rfl; exact bq BK488.out⟩, ⟨bw2 HB.out GE484.out GE488.out⟩⟩
       ·rw [if_neg c22] at H
        have c22b0 : ((rd l0 8) == 1) = false := beq_eq_false_iff_ne.mpr c22
        have c22b1 : ((rd l0 8) != 1) = true := bne_iff_ne.mpr c22
        have H' := Ak H
        clear H
        have hnb25 := NB488_484.out
        have hnc25 := NB484_488.out
        have hcz26_0 := zk0 BK488.out
        have hcz26_1 := zk1 BK488.out
        have hcz26_2 := zk2 BK488.out
        have hcz26_3 := zk3 BK488.out
        have hfz26_0 := blk_frozen BK488.out 0
        have hfz26_1 := blk_frozen BK488.out 1
        have hfz26_2 := blk_frozen BK488.out 2
        have hfz26_3 := blk_frozen BK488.out 3
        go_wp2_with (first | ((with_reducible refine gate_callee (f := 97) rfl ?_); refine goesL_ (some 23) rfl rfl Try.func97 (by kernel_rfl) rfl #[.int .i64 t485, .int .i64 1, .int .i64 1000000] rfl gm ?_; (with_reducible refine (spec_l1In.calls t485 1 1000000 true _ A15.out).mono ?_); rintro e w' ⟨rfl, ⟨nd, rfl⟩⟩; refine ⟨_, rfl, ?_⟩; have p491 : 0 ≤ (8 : Int) := (by omega); have q491 : 8 < (l0.length : Int) := of_decide_eq_true (by first | (with_reducible assumption) | assumption); obtain ⟨ad491, e491, hx491_0⟩ := Kd.at_int HR0.out 8 p491 q491; obtain rfl : ad487 = ad491 := (by injection e491); (try simp only [show (8 : Int).toNat = 8 from rfl, Nat.reduceMul, Nat.reduceEqDiff, Go.Addr.add, ↓reduceIte] at hx491_0); have qi491 : (8 < l0.length) = True := eq_true (by omega); (try rw [show ((8 : Int)).toNat = 8 from rfl] at hx491_0); have hn491_0 : ad487.block ≠ gb488 := Nat.ne_of_lt (Nat.lt_of_lt_of_le (by have := World.block_lt_of_cell? _ _ hx491_0; first | rwa [add_block] at this | exact this) GW488.out); have hn491_1 : ad487.block ≠ gb488 := Nat.ne_of_lt (Nat.lt_of_lt_of_le (by have := World.block_lt_of_cell? _ _ hx491_0; first | rwa [add_block] at this | exact this) GW488.out); have hn491_2 : ad487.block ≠ gb488 := Nat.ne_of_lt (Nat.lt_of_lt_of_le (by have := World.block_lt_of_cell? _ _ hx491_0; first | rwa [add_block] at this | exact this) GW488.out); have hn491_3 : ad487.block ≠ gb488 := Nat.ne_of_lt (Nat.lt_of_lt_of_le (by have := World.block_lt_of_cell? _ _ hx491_0; first | rwa [add_block] at this | exact this) GW488.out); replace hx491_0 := (HB.out.cell (World.block_lt_of_cell? w _ hx491_0)).trans hx491_0; replace hx491_0 := (cell_far (p := ⟨gb488, 0, none⟩) (by first | (rw [add_block]; exact hn491_0) | (show (Addr.add _ _).block ≠ _; rw [add_block]; exact hn491_0) | exact hn491_0) (.int .i64 t485)).trans hx491_0; replace hx491_0 := (cell_far (p := ⟨gb488, 1, none⟩) (by first | (rw [add_block]; exact hn491_1) | (show (Addr.add _ _).block ≠ _; rw [add_block]; exact hn491_1) | exact hn491_1) (.int .i64 t486)).trans hx491_0; replace hx491_0 := (cell_far (p := ⟨gb488, 2, none⟩) (by first | (rw [add_block]; exact hn491_2) | (show (Addr.add _ _).block ≠ _; rw [add_block]; exact hn491_2) | exact hn491_2) (.bool ((rd l0 8) == 1))).trans hx491_0; replace hx491_0 := (cell_far (p := ⟨gb488, 3, none⟩) (by first | (rw [add_block]; exact hn491_3) | (show (Addr.add _ _).block ≠ _; rw [add_block]; exact hn491_3) | exact hn491_3) (.slice none 0 0)).trans hx491_0; clear hn491_0; clear hn491_1; clear hn491_2; clear hn491_3; replace p491 := eq_true p491; replace q491 := eq_true q491) | (go_at_call 97; (with_reducible refine (spec_l1In.calls (wrap64 (rd l0 8)) 1 2 true _ A17.out).mono ?_); rintro e w' ⟨rfl, ⟨nd, rfl⟩⟩))
        go_meet
        case rel => exact ⟨_, (false), (by first | rfl | (simp; done) | (simp [*]; done)), H', ⟨by first | omega | exact Nat.le_refl _⟩, ⟨by refine bq ?_; refine blk_far ?_ NB484_488.out _; refine bq ?_; refine blk_far ?_ NB484_488.out _; refine bq ?_; refine blk_far ?_ NB484_488.out _; refine bq ?_; refine blk_far ?_ NB484_488.out _; exact bq BK484.out⟩, ⟨by refine bq ?_; refine blk_put (cs := #[.int .i64 t485, .int .i64 t486, .bool ((rd l0 8) == 1), .slice none 0 0]) ?_ 3 _ rfl; refine bq ?_; refine blk_put (cs := #[.int .i64 t485, .int .i64 t486, .bool false, .slice none 0 0]) ?_ 2 _ (by first | rfl | (rw [show ((rd l0 8) == 1) = true from (by assumption)]; rfl) | (rw [show ((rd l0 8) == 1) = false from (by assumption)]; rfl)); refine bq ?_; refine blk_put (cs := #[.int .i64 t485, .int .i64 0, .bool false, .slice none 0 0]) ?_ 1 _ rfl; refine bq ?_; refine blk_put (cs := #[.int .i64 0, .int .i64 0, .bool false, .slice none 0 0]) ?_ 0 _ rfl; exact bq BK488.out⟩, ⟨bw2 HB.out GE484.out GE488.out⟩⟩
     ·replace c18 := Bool.eq_false_iff.mpr c18
      subst c18
      rw [if_neg (show ¬ (false = true) by decide)] at H
      have H' := Ak H
      clear H
      have hnb27 := NB488_484.out
      have hnc27 := NB484_488.out
      have hcz28_0 := zk0 BK488.out
      have hcz28_1 := zk1 BK488.out
      have hcz28_2 := zk2 BK488.out
      have hcz28_3 := zk3 BK488.out
      have hfz28_0 := blk_frozen BK488.out 0
      have hfz28_1 := blk_frozen BK488.out 1
      have hfz28_2 := blk_frozen BK488.out 2
      have hfz28_3 := blk_frozen BK488.out 3
      go_wp2_with (first | ((with_reducible refine gate_callee (f := 97) rfl ?_); refine goesL_ (some 23) rfl rfl Try.func97 (by kernel_rfl) rfl #[.int .i64 t485, .int .i64 1, .int .i64 1000000] rfl gm ?_; (with_reducible refine (spec_l1In.calls t485 1 1000000 true _ A15.out).mono ?_); rintro e w' ⟨rfl, ⟨nd, rfl⟩⟩; refine ⟨_, rfl, ?_⟩; have p491 : 0 ≤ (8 : Int) := (by omega); have q491 : 8 < (l0.length : Int) := of_decide_eq_true (by first | (with_reducible assumption) | assumption); obtain ⟨ad491, e491, hx491_0⟩ := Kd.at_int HR0.out 8 p491 q491; obtain rfl : ad487 = ad491 := (by injection e491); (try simp only [show (8 : Int).toNat = 8 from rfl, Nat.reduceMul, Nat.reduceEqDiff, Go.Addr.add, ↓reduceIte] at hx491_0); have qi491 : (8 < l0.length) = True := eq_true (by omega); (try rw [show ((8 : Int)).toNat = 8 from rfl] at hx491_0); have hn491_0 : ad487.block ≠ gb488 := Nat.ne_of_lt (Nat.lt_of_lt_of_le (by have := World.block_lt_of_cell? _ _ hx491_0; first | rwa [add_block] at this | exact this) GW488.out); have hn491_1 : ad487.block ≠ gb488 := Nat.ne_of_lt (Nat.lt_of_lt_of_le (by have := World.block_lt_of_cell? _ _ hx491_0; first | rwa [add_block] at this | exact this) GW488.out); have hn491_2 : ad487.block ≠ gb488 := Nat.ne_of_lt (Nat.lt_of_lt_of_le (by have := World.block_lt_of_cell? _ _ hx491_0; first | rwa [add_block] at this | exact this) GW488.out); have hn491_3 : ad487.block ≠ gb488 := Nat.ne_of_lt (Nat.lt_of_lt_of_le (by have := World.block_lt_of_cell? _ _ hx491_0; first | rwa [add_block] at this | exact this) GW488.out); replace hx491_0 := (HB.out.cell (World.block_lt_of_cell? w _ hx491_0)).trans hx491_0; replace hx491_0 := (cell_far (p := ⟨gb488, 0, none⟩) (by first | (rw [add_block]; exact hn491_0) | (show (Addr.add _ _).block ≠ _; rw [add_block]; exact hn491_0) | exact hn491_0) (.int .i64 t485)).trans hx491_0; replace hx491_0 := (cell_far (p := ⟨gb488, 1, none⟩) (by first | (rw [add_block]; exact hn491_1) | (show (Addr.add _ _).block ≠ _; rw [add_block]; exact hn491_1) | exact hn491_1) (.int .i64 t486)).trans hx491_0; replace hx491_0 := (cell_far (p := ⟨gb488, 2, none⟩) (by first | (rw [add_block]; exact hn491_2) | (show (Addr.add _ _).block ≠ _; rw [add_block]; exact hn491_2) | exact hn491_2) (.bool ((rd l0 8) == 1))).trans hx491_0; replace hx491_0 := (cell_far (p := ⟨gb488, 3, none⟩) (by first | (rw [add_block]; exact hn491_3) | (show (Addr.add _ _).block ≠ _; rw [add_block]; exact hn491_3) | exact hn491_3) (.slice none 0 0)).trans hx491_0; clear hn491_0; clear hn491_1; clear hn491_2; clear hn491_3; replace p491 := eq_true p491; replace q491 := eq_true q491) | (go_at_call 97; (with_reducible refine (spec_l1In.calls (wrap64 (rd l0 8)) 1 2 false _ A17.out).mono ?_); rintro e w' ⟨rfl, ⟨nd, rfl⟩⟩))
      go_meet
      case rel => exact ⟨_, (true), (by first | rfl | (simp; done) | (simp [*]; done)), H', ⟨by first | omega | exact Nat.le_refl _⟩, ⟨by refine bq ?_; refine blk_far ?_ NB484_488.out _; refine bq ?_; refine blk_far ?_ NB484_488.out _; refine bq ?_; refine blk_far ?_ NB484_488.out _; refine bq ?_; refine blk_far ?_ NB484_488.out _; exact bq BK484.out⟩, ⟨by refine bq ?_; refine blk_put (cs := #[.int .i64 t485, .int .i64 t486, .bool ((rd l0 8) == 1), .slice none 0 0]) ?_ 3 _ rfl; refine bq ?_; refine blk_put (cs := #[.int .i64 t485, .int .i64 t486, .bool false, .slice none 0 0]) ?_ 2 _ (by first | rfl | (rw [show ((rd l0 8) == 1) = true from (by assumption)]; rfl) | (rw [show ((rd l0 8) == 1) = false from (by assumption)]; rfl)); refine bq ?_; refine blk_put (cs := #[.int .i64 t485, .int .i64 0, .bool false, .slice none 0 0]) ?_ 1 _ rfl; refine bq ?_; refine blk_put (cs := #[.int .i64 0, .int .i64 0, .bool false, .slice none 0 0]) ?_ 0 _ rfl; exact bq BK488.out⟩, ⟨bw2 HB.out GE484.out GE488.out⟩⟩
    ·replace c16 := Bool.eq_false_iff.mpr c16
     subst c16
     rw [if_neg (show ¬ (false = true) by decide)] at H
     have H' := Ak H
     clear H
     have hnb29 := NB488_484.out
     have hnc29 := NB484_488.out
     have hcz30_0 := zk0 BK488.out
     have hcz30_1 := zk1 BK488.out
     have hcz30_2 := zk2 BK488.out
     have hcz30_3 := zk3 BK488.out
     have hfz30_0 := blk_frozen BK488.out 0
     have hfz30_1 := blk_frozen BK488.out 1
     have hfz30_2 := blk_frozen BK488.out 2
     have hfz30_3 := blk_frozen BK488.out 3
     go_wp2_with (first | ((with_reducible refine gate_callee (f := 97) rfl ?_); refine goesL_ (some 23) rfl rfl Try.func97 (by kernel_rfl) rfl #[.int .i64 t485, .int .i64 1, .int .i64 1000000] rfl gm ?_; (with_reducible refine (spec_l1In.calls t485 1 1000000 false _ A15.out).mono ?_); rintro e w' ⟨rfl, ⟨nd, rfl⟩⟩; refine ⟨_, rfl, ?_⟩))
     go_meet
     case rel => exact ⟨_, (true), (by first | rfl | (simp; done) | (simp [*]; done)), H', ⟨by first | omega | exact Nat.le_refl _⟩, ⟨by refine bq ?_; refine blk_far ?_ NB484_488.out _; refine bq ?_; refine blk_far ?_ NB484_488.out _; refine bq ?_; refine blk_far ?_ NB484_488.out _; refine bq ?_; refine blk_far ?_ NB484_488.out _; exact bq BK484.out⟩, ⟨by refine bq ?_; refine blk_put (cs := #[.int .i64 t485, .int .i64 t486, .bool ((rd l0 8) == 1), .slice none 0 0]) ?_ 3 _ rfl; refine bq ?_; refine blk_put (cs := #[.int .i64 t485, .int .i64 t486, .bool false, .slice none 0 0]) ?_ 2 _ (by first | rfl | (rw [show ((rd l0 8) == 1) = true from (by assumption)]; rfl) | (rw [show ((rd l0 8) == 1) = false from (by assumption)]; rfl)); refine bq ?_; refine blk_put (cs := #[.int .i64 t485, .int .i64 0, .bool false, .slice none 0 0]) ?_ 1 _ rfl; refine bq ?_; refine blk_put (cs := #[.int .i64 0, .int .i64 0, .bool false, .slice none 0 0]) ?_ 0 _ rfl; exact bq BK488.out⟩, ⟨bw2 HB.out GE484.out GE488.out⟩⟩
   case rest =>
    clear HC6
    try clear c4b0
    try clear c4b1
    try clear q4
    try clear hx4
    try clear qi4
    try clear c5b0
    try clear c5b1
    try clear c19b0
    try clear c22b0
    try clear c22b1
    try clear hx487_0
    try clear hx489_0
    try clear hx491_0
    try clear q487
    try clear q489
    try clear q491
    obtain ⟨kq, x44_5, rfl, HA, HJ5, BK484, BK488, HB⟩ := hcut
    cases kq with
    | zero => exact absurd HA.out (by simp [spec_l12Read.j0])
    | succ kj5 =>
     have H := HA.out
     clear HA
     simp only [spec_l12Read.j0] at H
     by_cases c31 : x44_5 = true
     ·subst c31
      rw [if_pos rfl] at H
      simp only [Option.some.injEq, Prod.mk.injEq] at H
      obtain ⟨rfl, rfl, rfl, rfl, rfl⟩ := H
      have hnb32 := NB484_488.out
      have hnc32 := NB488_484.out
      have hcz33_0 : wc.cell? ⟨gb484, 0, none⟩ = some (.int .i64 0) := zk0 BK484.out
      have hcz33_1 : wc.cell? ⟨gb484, 1, none⟩ = some (.int .i64 0) := zk1 BK484.out
      have hcz33_2 : wc.cell? ⟨gb484, 2, none⟩ = some (.bool false) := zk2 BK484.out
      have hcz33_3 : wc.cell? ⟨gb484, 3, none⟩ = some (.slice none 0 0) := zk3 BK484.out
      have hfz33_0 := blk_frozen BK484.out 0
      have hfz33_1 := blk_frozen BK484.out 1
      have hfz33_2 := blk_frozen BK484.out 2
      have hfz33_3 := blk_frozen BK484.out 3
      go_wp2
      refine bodyPost_ret (results_ct rfl _ _ gb484 79 #[.int .i64 0, .int .i64 0, .bool false, .slice none 0 0] (0, 0) _ rfl (by refine bq ?_; refine blk_put (cs := #[.int .i64 0, .int .i64 0, .bool false, .slice none 0 0]) ?_ 3 _ rfl; refine bq ?_; refine blk_put (cs := #[.int .i64 0, .int .i64 0, .bool false, .slice none 0 0]) ?_ 2 _ rfl; refine bq ?_; refine blk_put (cs := #[.int .i64 0, .int .i64 0, .bool false, .slice none 0 0]) ?_ 1 _ rfl; refine bq ?_; refine blk_put (cs := #[.int .i64 0, .int .i64 0, .bool false, .slice none 0 0]) ?_ 0 _ rfl; exact bq BK484.out) Try.underlying79 rfl (by kernel_rfl)) rfl ?_
      exact ⟨_, zw, by first | exact Kd.R_nil _ _ _ _ _ | exact Kd.N_nil _ _ _ _ _ | exact Kd.V_nil _ _ _ _ _ | exact Kd.Q_nil _ _ _ _ _ | exact Kd.S_nil _ _ _ _ _, bw2 HB.out GE484.out GE488.out⟩
     ·replace c31 := Bool.eq_false_iff.mpr c31
      subst c31
      rw [if_neg (show ¬ (false = true) by decide)] at H
      obtain ⟨y493, hy493⟩ : ∃ y_ : List Int, y_ = (([] : List Int)) := ⟨_, rfl⟩
      replace H : (if 16 ≤ (wrap64 (16 + (wrap64 (rd l0 9)))) then (if (wrap64 (16 + (wrap64 (rd l0 9)))) ≤ (l0.length : Int) then (if y493.length + ((l0.take ((wrap64 (16 + (wrap64 (rd l0 9)))) : Int).toNat).drop 16).length < 140737488355328 then ((some (y493 ++ ((l0.take ((wrap64 (16 + (wrap64 (rd l0 9)))) : Int).toNat).drop 16) : List Int)).bind fun y497 => ((spec_l12Sector.f kj5 t485 t486 ((rd l0 8) == 1) y497).bind fun t500 => (spec_l12Read.l0 kj5 l0 t500 0 t485 t486 ((rd l0 8) == 1) y497))) else (none)) else (none)) else (none)) = some (r1, r2, r3, r4, r5) := by first | (rw [hy493]; with_reducible exact H) | (have H2_ := (Option.bind_some _ _).symm.trans H; rw [hy493]; with_reducible exact H2_) | (have H2_ := (Option.bind_some _ _).symm.trans H; with_reducible exact H2_) | with_reducible exact H | (rw [hy493]; exact H) | exact H
      have Ny493 := Ak hy493
      clear hy493
      by_cases c34 : 16 ≤ (wrap64 (16 + (wrap64 (rd l0 9))))
      ·rw [if_pos c34] at H
       have c34b0 := eq_true c34
       have c34b1 := decide_eq_true c34
       by_cases c35 : (wrap64 (16 + (wrap64 (rd l0 9)))) ≤ (l0.length : Int)
       ·rw [if_pos c35] at H
        have c35b0 := eq_true c35
        have c35b1 := decide_eq_true c35
        by_cases c36 : y493.length + ((l0.take ((wrap64 (16 + (wrap64 (rd l0 9)))) : Int).toNat).drop 16).length < 140737488355328
        ·rw [if_pos c36] at H
         have LMc36 := Ak c36
         clear c36
         generalize hy497 : (y493 ++ ((l0.take ((wrap64 (16 + (wrap64 (rd l0 9)))) : Int).toNat).drop 16) : List Int) = y497 at H
         try rw [Option.bind_some] at H
         have Ny497 := Ak hy497.symm
         clear hy497
         replace H := Option.bind_eq_some_iff.mp H
         obtain ⟨t500, A370, H⟩ := H
         have A37 := Ak A370
         clear A370
         have H' := Ak H
         clear H
         go_wp2_with (first | ((with_reducible refine gate_dst (N := 46) rfl ?_); refine Kd.R_lit (Kd.int .u8) _ 5 ?hg (N := 46) ?hd (xs := ([] : List Int)) (inner := []) (ok := fun _ => True) (okp := fun _ => True) ?hr ?hp (fun _ hk => hk) trivial (Below.refl _ _) (Nat.le_refl _) (by simp) ?_; (case hd => rfl); (case hg => rfl); (case hr => first | (go_simp; done) | (go_simp; rfl)); (case hp => exact (Reps.none _ _)); intro v494 w38 ho39 hb hg_ hnew_; clear hg_ hnew_; (first | rw [← Ny493.out] at ho39 | (simp only [Int.reduceToNat] at ho39; rw [← Ny493.out] at ho39)); have HO495 := Ak (Kd.R_lower ho39 (below_size (bw2 HB.out GE484.out GE488.out))); replace BK484 := Ak (blk_below (bq BK484.out) hb); replace BK488 := Ak (blk_below (bq BK488.out) hb); replace HB := Ak (below_step (bw2 HB.out GE484.out GE488.out) hb); clear hb ho39; obtain ⟨i040, hi040, _, hsz40, _⟩ := info_parts info5; obtain ⟨A40, hcut40, hA40, hC40⟩ := print_mid_of (P := Try.prog) (Value.int .u8) 0 22 5 .i64 .i64 Try.underlying22 hi040 hsz40 (some ad487) c0 l0 16 (wrap64 (16 + (wrap64 (rd l0 9)))) (by omega) (by first | omega | exact of_decide_eq_true (by first | (with_reducible assumption) | assumption)) (of_decide_eq_true (by first | (with_reducible assumption) | assumption)) HC0.out; have HR496 := Ak (Kd.C_of_reads (h1 := fun _ => rfl) (hA40 _ (Kd.reads_of_C HR0.out))); have HC496 := Ak hC40; clear hA40 hC40 hi040 hsz40) | ((with_reducible refine gate_builtin (b := .append) (xs := #[.tmp 46, .tmp 50]) rfl ?_); at_builtin; refine Kd.R_append_rows (Kd.int .u8) (w0 := w) w.heap.size rfl (.tmp 46) (.tmp 50) 22 5 (.int .u8 0) 1 rfl Try.underlying22 info5 rfl (by decide) (by omega) v494 y493 ((l0.take ((wrap64 (16 + (wrap64 (rd l0 9)))) : Int).toNat).drop 16) _ _ _ (fun _ => True) (fun _ => False) rfl rfl ?aO ?aR (fun _ _ h => h) (fun _ h => h.elim) ?aF ?aB ?aS ?aL ?_; (case aR => first | (rw [← show ((l0.take ((wrap64 (16 + (wrap64 (rd l0 9)))) : Int).toNat).drop 16).length = ((wrap64 (16 + (wrap64 (rd l0 9)))).toNat - 16) from (by rw [List.length_drop, List.length_take]; have h_ : ((wrap64 (16 + (wrap64 (rd l0 9)))) : Int) ≤ (l0.length : Int) := of_decide_eq_true (by first | (with_reducible assumption) | assumption); omega)]; exact zq (Kd.C_below HR496.out HB.out)) | (exact zq (Kd.C_below HR496.out HB.out))); (case aB => exact (bw2 HB.out GE484.out GE488.out)); (case aF => exact (fun _ _ => trivial)); (case aO => exact (rq HO495.out)); (case aS => exact (below_size (bw2 HB.out GE484.out GE488.out))); (case aL => have := LMc36.out; have hlx_ := (show ((l0.take ((wrap64 (16 + (wrap64 (rd l0 9)))) : Int).toNat).drop 16).length = ((wrap64 (16 + (wrap64 (rd l0 9)))).toNat - 16) from (by rw [List.length_drop, List.length_take]; have h_ : ((wrap64 (16 + (wrap64 (rd l0 9)))) : Int) ≤ (l0.length : Int) := of_decide_eq_true (by first | (with_reducible assumption) | assumption); omega)); omega); intro v498 w41 ho hb hg hat; rw [← Ny497.out] at ho; replace BK484 := Ak (blk_grown (g := gb484) (o := .cells #[.int .i64 0, .int .i64 0, .bool false, .slice none 0 0] 79 (0, 0)) (bq BK484.out) hg (Kd.R_ne HO495.out BK484.out (by decide))); replace BK488 := Ak (blk_grown (g := gb488) (o := .cells #[.int .i64 t485, .int .i64 t486, .bool ((rd l0 8) == 1), .slice none 0 0] 79 (0, 0)) (bq BK488.out) hg (Kd.R_ne HO495.out BK488.out (by decide))); replace HB := Ak (hb); have HO499 := Ak (ho); clear HO495; clear ho hb hg hat; obtain ⟨Ao42, co42, eo42⟩ := Kd.R_slice HO499.out; subst eo42; have hnb43 := NB488_484.out; have hnc43 := NB484_488.out; have hcz44_0 := zk0 BK488.out; have hcz44_1 := zk1 BK488.out; have hcz44_2 := zk2 BK488.out; have hcz44_3 := zk3 BK488.out; have hfz44_0 := blk_frozen BK488.out 0; have hfz44_1 := blk_frozen BK488.out 1; have hfz44_2 := blk_frozen BK488.out 2; have hfz44_3 := blk_frozen BK488.out 3) | ((with_reducible refine gate_callee (f := 96) rfl ?_); refine goesL_ (some 61) rfl rfl Try.func96 (by kernel_rfl) rfl #[.int .i64 t485, .int .i64 t486, .bool ((rd l0 8) == 1), .slice Ao42 y497.length co42] rfl gm ?_; (with_reducible refine (spec_l12Sector.calls kj5 t485 t486 ((rd l0 8) == 1) _ _ y497 t500 _ ?side1 ?side2 A37.out).mono ?_); (case side1 => refine (Kd.R_reads' (e := 5) (base := w.heap.size) (ok := fun k_ => True) (n := y497.length) (c := co42) ?_).2.2; exact (by refine rq ?_; exact (Kd.R_mono (Kd.R_far (p := ⟨gb488, 3, none⟩) (Kd.R_types HO499.out BK488.out (by decide)) (fun _ hk => hk.2) (.slice Ao42 y497.length co42)) (fun _ h_ => h_.1)))); (case side2 => exact (Kd.R_reads' HO499.out).2.1); rintro e w45 ⟨v501, rfl, ho0, hb⟩; refine ⟨_, rfl, ?_⟩; have HO502 := Ak (Kd.R_lower (Kd.R_new' ho0 (Kd.R_lt (by (with_reducible repeat (first | apply Kd.R_alloc | apply Kd.R_drewN | apply Kd.R_drew)); exact (Kd.R_mono (Kd.R_far (p := ⟨gb488, 3, none⟩) (Kd.R_types HO499.out BK488.out (by decide)) (fun _ hk => hk.2) (.slice Ao42 y497.length co42)) (fun _ h_ => h_.1))))) (below_size (bw2 HB.out GE484.out GE488.out))); replace HO499 := Ak (Kd.R_elder' (by (with_reducible repeat (first | apply Kd.R_alloc | apply Kd.R_drewN | apply Kd.R_drew)); exact (Kd.R_mono (Kd.R_far (p := ⟨gb488, 3, none⟩) (Kd.R_types HO499.out BK488.out (by decide)) (fun _ hk => hk.2) (.slice Ao42 y497.length co42)) (fun _ h_ => h_.1))) (Kd.R_base ho0) hb); replace BK484 := Ak (blk_below (g := gb484) (o := .cells #[.int .i64 0, .int .i64 0, .bool false, .slice none 0 0] 79 (0, 0)) (by refine bq ?_; refine blk_far ?_ NB484_488.out _; exact bq BK484.out) hb); replace BK488 := Ak (blk_below (g := gb488) (o := .cells #[.int .i64 t485, .int .i64 t486, .bool ((rd l0 8) == 1), .slice Ao42 y497.length co42] 79 (0, 0)) (by refine bq ?_; refine blk_put (cs := #[.int .i64 t485, .int .i64 t486, .bool ((rd l0 8) == 1), .slice none 0 0]) ?_ 3 _ rfl; exact bq BK488.out) hb); replace HB := Ak (below_step (bw2 HB.out GE484.out GE488.out) hb)))
         go_loopg [7] kj5 (fun kq v7 w' => ∃ (x7_2 : Int) (x485000_2 : Int) (x485001_2 : Int) (x485002_2 : Bool), v7 = .int .i64 x7_2 ∧ Aside0 (spec_l12Read.l0 kq l0 t500 x7_2 t485 t486 ((rd l0 8) == 1) y497 = some (r1, r2, r3, r4, r5)) ∧ Aside0 (kq ≤ kj5) ∧ Aside0 (Kd.R (Kd.int .u8) 5 w' w.heap.size (fun k_ => some k_ ≠ ((.slice Ao42 y497.length co42) : Value).ownBlock) v501 t500) ∧ Aside0 (Kd.R (Kd.int .u8) 5 w' w.heap.size (fun k_ => Nb k_ v501) (.slice Ao42 y497.length co42) y497) ∧ Aside0 (w'.heap[gb484]? = some (.cells #[.int .i64 x485000_2, .int .i64 x485001_2, .bool x485002_2, (.slice none 0 0)] 79 (0, 0))) ∧ Aside0 (w'.heap[gb488]? = some (.cells #[.int .i64 t485, .int .i64 t486, .bool ((rd l0 8) == 1), (.slice Ao42 y497.length co42)] 79 (0, 0))) ∧ Aside0 (Below w.heap.size w w'))
         case atStart => exact ⟨(0), (0), (0), (false), (by first | rfl | (simp; done) | (simp [*]; done)), H', ⟨Nat.le_refl _⟩, ⟨by refine rq ?_; exact Kd.R_mono HO502.out (fun _ hk => hk.2)⟩, ⟨by refine rq ?_; exact Kd.R_mono HO499.out (fun _ hk => hk.2)⟩, ⟨bq BK484.out⟩, ⟨bq BK488.out⟩, ⟨bw2 HB.out GE484.out GE488.out⟩⟩
         case round =>
          clear H'
          try clear c4b0
          try clear c4b1
          try clear q4
          try clear hx4
          try clear qi4
          try clear c5b0
          try clear c5b1
          try clear c19b0
          try clear c22b0
          try clear c22b1
          try clear c34b0
          try clear c34b1
          try clear c35b0
          try clear c35b1
          try clear hx487_0
          try clear hx489_0
          try clear hx491_0
          try clear q4
          try clear q487
          try clear q489
          try clear q491
          obtain ⟨x7_2, x485000_2, x485001_2, x485002_2, rfl, HA, HK2, HO_6, HO_489003, BK484, BK488, HB⟩ := hrel
          cases gk with
          | zero => exact absurd HA.out (by simp [spec_l12Read.l0])
          | succ k2 =>
           have H := HA.out
           clear HA
           simp only [spec_l12Read.l0] at H
           by_cases c46 : x7_2 < (l0.length : Int)
           ·rw [if_pos c46] at H
            have c46b0 := decide_eq_true c46
            clear c46
            by_cases c47 : 0 ≤ x7_2
            ·rw [if_pos c47] at H
             have c47b0 := decide_eq_true c47
             clear c47
             by_cases c48 : x7_2 < (t500.length : Int)
             ·rw [if_pos c48] at H
              have c48b0 := decide_eq_true c48
              clear c48
              by_cases c49 : (rd l0 x7_2) = (rd t500 x7_2)
              ·rw [if_pos c49] at H
               have c49b0 : ((rd l0 x7_2) == (rd t500 x7_2)) = true := beq_iff_eq.mpr c49
               have c49b1 : ((rd l0 x7_2) != (rd t500 x7_2)) = false := bne_eq_false_iff_eq.mpr c49
               clear c49
               have H' := Ak H
               clear H
               try go_wp2
               replace HO_6 := Ak (Kd.R_drew HO_6.out)
               replace HO_489003 := Ak (Kd.R_drew HO_489003.out)
               replace BK484 := Ak (blk_drew BK484.out)
               replace BK488 := Ak (blk_drew BK488.out)
               replace HB := Ak (below_drew1 HB.out)
               have p503 : 0 ≤ (x7_2 : Int) := of_decide_eq_true (by first | (with_reducible assumption) | assumption)
               have q503 : x7_2 < (l0.length : Int) := of_decide_eq_true (by first | (with_reducible assumption) | assumption)
               obtain ⟨ad503, e503, hx503_0⟩ := Kd.at_int HR0.out x7_2 p503 q503
               have hw503_0 := hx503_0
               obtain rfl : ad487 = ad503 := (by injection e503)
               replace hx503_0 := (HB.out.cell (World.block_lt_of_cell? w _ hx503_0)).trans hx503_0
               replace p503 := eq_true p503
               replace q503 := eq_true q503
               obtain ⟨Ao51, co51, eo51⟩ := Kd.R_slice HO_6.out
               (first | subst eo51 | (injection eo51 with f1_ f2_ f3_; have f4_ := f1_.symm; have f5_ := f3_.symm; clear f1_ f2_ f3_; subst f4_; subst f5_))
               have p504 : 0 ≤ (x7_2 : Int) := of_decide_eq_true (by first | (with_reducible assumption) | assumption)
               have q504 : x7_2 < (t500.length : Int) := of_decide_eq_true (by first | (with_reducible assumption) | assumption)
               obtain ⟨ad504, e504, hx504_0⟩ := Kd.at_int (Kd.R_reads' HO_6.out).2.2 x7_2 p504 q504
               cases e504
               replace p504 := eq_true p504
               replace q504 := eq_true q504
               refine start_ (n := 9) (S := fun w' => w'.cell? (ad487.add (x7_2).toNat) = some (.int .u8 (rd l0 x7_2)) ∧ w'.cell? (ad504.add (x7_2).toNat) = some (.int .u8 (rd t500 x7_2))) (ds := []) #[false, false, false, false, false, false, false, false, false] (by kernel_rfl) rfl rfl ⟨((HB.out.cell (World.block_lt_of_cell? w _ hw503_0)).trans hw503_0), hx504_0⟩ (fun hHeld => ?_); refine with_tabW spec_l12Read.tab10 spec_l12Read.bits10 (fun HT_ HW_ => ?_)
               generalize wr.drew = w50 at HO_6 HO_489003 BK484 BK488 HB hx503_0 hx504_0 hHeld ⊢
               refine puT 0 68 HT_ (h := ?_)
               refine puT 1 69 HT_ (h := ?_)
               refine puT 2 70 HT_ (h := ?_)
               refine puT 4 72 HT_ (h := ?_)
               refine puT 5 73 HT_ (h := ?_)
               refine puT 6 74 HT_ (h := ?_)
               refine taT 3 71 HT_ HW_ hHeld (h := ?_)
               refine taT 7 75 HT_ HW_ hHeld (h := ?_)
               refine puT 8 76 HT_ (h := ?_)
               refine done_ (done_of HT_.out (by kernel_rfl)) ?_
               try go_wp2
               go_roundg k2
               case measure => have := HJ5.out; have := HK2.out; omega
               case rel => exact ⟨(wrap64 (x7_2 + 1)), (x485000_2), (x485001_2), (x485002_2), (by first | rfl | (simp; done) | (simp [*]; done)), H', ⟨by have := HJ5.out; have := HK2.out; omega⟩, ⟨rq HO_6.out⟩, ⟨rq HO_489003.out⟩, ⟨bq BK484.out⟩, ⟨bq BK488.out⟩, ⟨bw2 HB.out GE484.out GE488.out⟩⟩
              ·rw [if_neg c49] at H
               have c49b0 : ((rd l0 x7_2) == (rd t500 x7_2)) = false := beq_eq_false_iff_ne.mpr c49
               have c49b1 : ((rd l0 x7_2) != (rd t500 x7_2)) = true := bne_iff_ne.mpr c49
               simp only [Option.some.injEq, Prod.mk.injEq] at H
               obtain ⟨rfl, rfl, rfl, rfl, rfl⟩ := H
               try go_wp2
               replace HO_6 := Ak (Kd.R_drew HO_6.out)
               replace HO_489003 := Ak (Kd.R_drew HO_489003.out)
               replace BK484 := Ak (blk_drew BK484.out)
               replace BK488 := Ak (blk_drew BK488.out)
               replace HB := Ak (below_drew1 HB.out)
               have p503 : 0 ≤ (x7_2 : Int) := of_decide_eq_true (by first | (with_reducible assumption) | assumption)
               have q503 : x7_2 < (l0.length : Int) := of_decide_eq_true (by first | (with_reducible assumption) | assumption)
               obtain ⟨ad503, e503, hx503_0⟩ := Kd.at_int HR0.out x7_2 p503 q503
               have hw503_0 := hx503_0
               obtain rfl : ad487 = ad503 := (by injection e503)
               replace hx503_0 := (HB.out.cell (World.block_lt_of_cell? w _ hx503_0)).trans hx503_0
               replace p503 := eq_true p503
               replace q503 := eq_true q503
               obtain ⟨Ao53, co53, eo53⟩ := Kd.R_slice HO_6.out
               (first | subst eo53 | (injection eo53 with f1_ f2_ f3_; have f4_ := f1_.symm; have f5_ := f3_.symm; clear f1_ f2_ f3_; subst f4_; subst f5_))
               have p504 : 0 ≤ (x7_2 : Int) := of_decide_eq_true (by first | (with_reducible assumption) | assumption)
               have q504 : x7_2 < (t500.length : Int) := of_decide_eq_true (by first | (with_reducible assumption) | assumption)
               obtain ⟨ad504, e504, hx504_0⟩ := Kd.at_int (Kd.R_reads' HO_6.out).2.2 x7_2 p504 q504
               cases e504
               replace p504 := eq_true p504
               replace q504 := eq_true q504
               refine start_ (n := 9) (S := fun w' => w'.cell? (ad487.add (x7_2).toNat) = some (.int .u8 (rd l0 x7_2)) ∧ w'.cell? (ad504.add (x7_2).toNat) = some (.int .u8 (rd t500 x7_2))) (ds := []) #[false, false, false, false, false, false, false, false, false] (by kernel_rfl) rfl rfl ⟨((HB.out.cell (World.block_lt_of_cell? w _ hw503_0)).trans hw503_0), hx504_0⟩ (fun hHeld => ?_); refine with_tabW spec_l12Read.tab10 spec_l12Read.bits10 (fun HT_ HW_ => ?_)
               generalize wr.drew = w52 at HO_6 HO_489003 BK484 BK488 HB hx503_0 hx504_0 hHeld ⊢
               refine puT 0 68 HT_ (h := ?_)
               refine puT 1 69 HT_ (h := ?_)
               refine puT 2 70 HT_ (h := ?_)
               refine puT 4 72 HT_ (h := ?_)
               refine puT 5 73 HT_ (h := ?_)
               refine puT 6 74 HT_ (h := ?_)
               refine taT 3 71 HT_ HW_ hHeld (h := ?_)
               refine taT 7 75 HT_ HW_ hHeld (h := ?_)
               refine puT 8 76 HT_ (h := ?_)
               refine done_ (done_of HT_.out (by kernel_rfl)) ?_
               have hnb54 := NB484_488.out
               have hnc54 := NB488_484.out
               have hcz55_0 := zk0 BK484.out
               have hcz55_1 := zk1 BK484.out
               have hcz55_2 := zk2 BK484.out
               have hcz55_3 := zk3 BK484.out
               have hfz55_0 := blk_frozen BK484.out 0
               have hfz55_1 := blk_frozen BK484.out 1
               have hfz55_2 := blk_frozen BK484.out 2
               have hfz55_3 := blk_frozen BK484.out 3
               try go_wp2
               refine bodyPost_ret (results_ct rfl _ _ gb484 79 #[.int .i64 0, .int .i64 0, .bool false, .slice none 0 0] (0, 0) _ rfl (by refine bq ?_; refine blk_put (cs := #[.int .i64 0, .int .i64 0, .bool false, .slice none 0 0]) ?_ 3 _ rfl; refine bq ?_; refine blk_put (cs := #[.int .i64 0, .int .i64 0, .bool x485002_2, .slice none 0 0]) ?_ 2 _ rfl; refine bq ?_; refine blk_put (cs := #[.int .i64 0, .int .i64 x485001_2, .bool x485002_2, .slice none 0 0]) ?_ 1 _ rfl; refine bq ?_; refine blk_put (cs := #[.int .i64 x485000_2, .int .i64 x485001_2, .bool x485002_2, .slice none 0 0]) ?_ 0 _ rfl; exact bq BK484.out) Try.underlying79 rfl (by kernel_rfl)) rfl ?_
               exact ⟨_, zw, by first | exact Kd.R_nil _ _ _ _ _ | exact Kd.N_nil _ _ _ _ _ | exact Kd.V_nil _ _ _ _ _ | exact Kd.Q_nil _ _ _ _ _ | exact Kd.S_nil _ _ _ _ _, bw2 HB.out GE484.out GE488.out⟩
             ·rw [if_neg c48] at H
              exact absurd H (by simp)
            ·rw [if_neg c47] at H
             exact absurd H (by simp)
           ·rw [if_neg c46] at H
            have c46b0 := decide_eq_false c46
            clear c46
            simp only [Option.some.injEq, Prod.mk.injEq] at H
            obtain ⟨rfl, rfl, rfl, rfl, rfl⟩ := H
            have hnb56 := NB488_484.out
            have hnc56 := NB484_488.out
            have hcz57_0 : wr.cell? ⟨gb488, 0, none⟩ = some (.int .i64 t485) := zk0 BK488.out
            have hcz57_1 : wr.cell? ⟨gb488, 1, none⟩ = some (.int .i64 t486) := zk1 BK488.out
            have hcz57_2 : wr.cell? ⟨gb488, 2, none⟩ = some (.bool ((rd l0 8) == 1)) := zk2 BK488.out
            have hcz57_3 : wr.cell? ⟨gb488, 3, none⟩ = some (.slice Ao42 y497.length co42) := zk3 BK488.out
            have hfz57_0 := blk_frozen BK488.out 0
            have hfz57_1 := blk_frozen BK488.out 1
            have hfz57_2 := blk_frozen BK488.out 2
            have hfz57_3 := blk_frozen BK488.out 3
            have hcz58_0 : wr.cell? ⟨gb484, 0, none⟩ = some (.int .i64 x485000_2) := zk0 BK484.out
            have hcz58_1 : wr.cell? ⟨gb484, 1, none⟩ = some (.int .i64 x485001_2) := zk1 BK484.out
            have hcz58_2 : wr.cell? ⟨gb484, 2, none⟩ = some (.bool x485002_2) := zk2 BK484.out
            have hcz58_3 : wr.cell? ⟨gb484, 3, none⟩ = some (.slice none 0 0) := zk3 BK484.out
            have hfz58_0 := blk_frozen BK484.out 0
            have hfz58_1 := blk_frozen BK484.out 1
            have hfz58_2 := blk_frozen BK484.out 2
            have hfz58_3 := blk_frozen BK484.out 3
            go_wp2
            refine bodyPost_ret (results_ct rfl _ _ gb484 79 #[.int .i64 t485, .int .i64 t486, .bool ((rd l0 8) == 1), .slice Ao42 y497.length co42] (0, 0) _ rfl (by refine bq ?_; refine blk_put (cs := #[.int .i64 t485, .int .i64 t486, .bool ((rd l0 8) == 1), .slice none 0 0]) ?_ 3 _ rfl; refine bq ?_; refine blk_put (cs := #[.int .i64 t485, .int .i64 t486, .bool x485002_2, .slice none 0 0]) ?_ 2 _ rfl; refine bq ?_; refine blk_put (cs := #[.int .i64 t485, .int .i64 x485001_2, .bool x485002_2, .slice none 0 0]) ?_ 1 _ rfl; refine bq ?_; refine blk_put (cs := #[.int .i64 x485000_2, .int .i64 x485001_2, .bool x485002_2, .slice none 0 0]) ?_ 0 _ rfl; exact bq BK484.out) Try.underlying79 rfl (by kernel_rfl)) rfl ?_
            exact ⟨_, zw, by refine rq ?_; exact Kd.R_mono (Kd.R_far (p := ⟨gb484, 3, none⟩) (Kd.R_far (p := ⟨gb484, 2, none⟩) (Kd.R_far (p := ⟨gb484, 1, none⟩) (Kd.R_far (p := ⟨gb484, 0, none⟩) (Kd.R_types HO_489003.out BK484.out (by decide)) (fun _ hk => hk.2) (.int .i64 t485)) (fun _ hk => hk.2) (.int .i64 t486)) (fun _ hk => hk.2) (.bool ((rd l0 8) == 1))) (fun _ hk => hk.2) (.slice Ao42 y497.length co42)) (fun _ hk => trivial), bw2 HB.out GE484.out GE488.out⟩
        ·rw [if_neg c36] at H
         exact absurd H (by simp)
       ·rw [if_neg c35] at H
        exact absurd H (by simp)
      ·rw [if_neg c34] at H
       exact absurd H (by simp)
  ·rw [if_neg c5] at H
   exact absurd H (by simp)
 ·rw [if_neg c4] at H
  exact absurd H (by simp)

mutual
def spec_LogOpen.l0 : Nat → Int → List (List Int) → Int → Bool → Int → Int → List Int → Int → Int → List Int → List (S96) → Int → Int → Int → Int → Option (Int × Int × Int × Int × (List (List Int)) × Bool)
 | 0, _, _, _, _, _, _, _, _, _, _, _, _, _, _, _ => none
 | k + 1, x2, x9, x11, x12, x13, x14, x15, x16, x17, x506000, x506001, x512000, x512001, x512002, x512003 => if x17 ≤ x2 then ((spec_ReadSector.f k x506000 x506001 x17).bind fun bt518 => ((spec_l12Read.f k bt518.1).bind fun bt522 => (if bt522.2.2.2.2 = true then (spec_LogOpen.j1 k x2 x9 x11 x12 x13 x14 x15 x16 x17 bt522.2.2.2.2 (decide (bt522.1 > x11)) x506000 x506001 x512000 x512001 x512002 x512003 bt522.1 bt522.2.1 bt522.2.2.1 bt522.2.2.2.1) else (spec_LogOpen.j1 k x2 x9 x11 x12 x13 x14 x15 x16 x17 bt522.2.2.2.2 false x506000 x506001 x512000 x512001 x512002 x512003 bt522.1 bt522.2.1 bt522.2.2.1 bt522.2.2.2.1)))) else (if x11 = 1000000 then (some (0, 0, 0, 0, (([] : List (List Int))), false)) else (some (x512000, x512001, x512002, wrap64 (x11 + 1), x9, true)))
def spec_LogOpen.j1 : Nat → Int → List (List Int) → Int → Bool → Int → Int → List Int → Int → Int → Bool → Bool → List Int → List (S96) → Int → Int → Int → Int → Int → Int → Bool → List Int → Option (Int × Int × Int × Int × (List (List Int)) × Bool)
 | 0, _, _, _, _, _, _, _, _, _, _, _, _, _, _, _, _, _, _, _, _, _ => none
 | k + 1, x2, x9, x11, x12, x13, x14, x15, x16, x17, x21, x57, x506000, x506001, x512000, x512001, x512002, x512003, x530000, x530001, x530002, x530003 => if x57 = true then (spec_LogOpen.j2 k x2 x9 x530000 x12 x13 x14 x15 x16 x17 x21 x506000 x506001 x512000 x512001 x512002 x512003 x530000 x530001 x530002 x530003) else (spec_LogOpen.j2 k x2 x9 x11 x12 x13 x14 x15 x16 x17 x21 x506000 x506001 x512000 x512001 x512002 x512003 x530000 x530001 x530002 x530003)
def spec_LogOpen.j2 : Nat → Int → List (List Int) → Int → Bool → Int → Int → List Int → Int → Int → Bool → List Int → List (S96) → Int → Int → Int → Int → Int → Int → Bool → List Int → Option (Int × Int × Int × Int × (List (List Int)) × Bool)
 | 0, _, _, _, _, _, _, _, _, _, _, _, _, _, _, _, _, _, _, _, _ => none
 | k + 1, x2, x9, x11, x12, x13, x14, x15, x16, x17, x21, x506000, x506001, x512000, x512001, x512002, x512003, x530000, x530001, x530002, x530003 => if x12 = true then (if x21 = true then (if x530001 = x16 then (if x530000 < x13 then (spec_LogOpen.j3 k x2 x9 x11 x12 x13 x14 x15 x16 x17 true x506000 x506001 x512000 x512001 x512002 x512003 x530000 x530001 x530002 x530003) else (if x14 > 0 then (spec_LogOpen.j3 k x2 x9 x11 x12 x13 x14 x15 x16 x17 (x530000 != x14) x506000 x506001 x512000 x512001 x512002 x512003 x530000 x530001 x530002 x530003) else (spec_LogOpen.j3 k x2 x9 x11 x12 x13 x14 x15 x16 x17 false x506000 x506001 x512000 x512001 x512002 x512003 x530000 x530001 x530002 x530003))) else (spec_LogOpen.j3 k x2 x9 x11 x12 x13 x14 x15 x16 x17 true x506000 x506001 x512000 x512001 x512002 x512003 x530000 x530001 x530002 x530003)) else (spec_LogOpen.j3 k x2 x9 x11 x12 x13 x14 x15 x16 x17 true x506000 x506001 x512000 x512001 x512002 x512003 x530000 x530001 x530002 x530003)) else (spec_LogOpen.j3 k x2 x9 x11 x12 x13 x14 x15 x16 x17 true x506000 x506001 x512000 x512001 x512002 x512003 x530000 x530001 x530002 x530003)
def spec_LogOpen.j3 : Nat → Int → List (List Int) → Int → Bool → Int → Int → List Int → Int → Int → Bool → List Int → List (S96) → Int → Int → Int → Int → Int → Int → Bool → List Int → Option (Int × Int × Int × Int × (List (List Int)) × Bool)
 | 0, _, _, _, _, _, _, _, _, _, _, _, _, _, _, _, _, _, _, _, _ => none
 | k + 1, x2, x9, x11, x12, x13, x14, x15, x16, x17, x87, x506000, x506001, x512000, x512001, x512002, x512003, x530000, x530001, x530002, x530003 => if x87 = true then (spec_LogOpen.l0 k x2 x9 x11 false x13 x14 x15 x16 (wrap64 (x17 + 1)) x506000 x506001 x512000 x512001 x512002 x512003) else (if x15.length + x530003.length < 140737488355328 then ((some (x15 ++ x530003 : List Int)).bind fun y530 => (if x530002 = true then (spec_LogOpen.l0 k x2 x9 x11 x12 x530000 x530000 y530 (wrap64 (x16 + 1)) (wrap64 (x17 + 1)) x506000 x506001 x512000 x512001 x512002 x512003) else ((some (([] : List Int) : List Int)).bind fun y533 => (if y533.length + y530.length < 140737488355328 then (if x9.length < 5864062014805 then (spec_LogOpen.l0 k x2 (x9 ++ [(y533 ++ y530)]) x11 x12 x530000 0 (([] : List Int)) (wrap64 (x16 + 1)) (wrap64 (x17 + 1)) x506000 x506001 x512000 x512001 (wrap64 (x16 + 1)) x512003) else (none)) else (none))))) else (none))
end
def spec_LogOpen.f (k : Nat) (l0_0 : List Int) (l0_1 : List (S96)) (a1 : Int) (a2 : Int) : Option (Int × Int × Int × Int × (List (List Int)) × Bool) := (some (([] : List (List Int)) : List (List Int))).bind fun y507 => ((spec_l12Region.f k l0_0 l0_1 a1 a2).bind fun t510 => (if t510 = true then (spec_LogOpen.l0 k a2 y507 0 true 1 0 (([] : List Int)) 0 a1 l0_0 l0_1 a1 a2 0 0) else (some (0, 0, 0, 0, y507, false))))
set_option maxHeartbeats 8000000 in
set_option maxRecDepth 100000 in
theorem spec_LogOpen.calls (k : Nat) (A0_0 : Option Addr) (c0_0 : Nat) (l0_0 : List Int) (A0_1 : Option Addr) (c0_1 : Nat) (l0_1 : List (S96)) (a1 : Int) (a2 : Int) (r1 : Int) (r2 : Int) (r3 : Int) (r4 : Int) (r5 : List (List Int)) (r6 : Bool) (w : World) (hr0_0 : Kd.C (Kd.int .u8) w A0_0 l0_0.length l0_0) (hc0_0 : l0_0.length ≤ c0_0) (hr0_1 : Kd.C k96 w A0_1 l0_1.length l0_1) (hc0_1 : l0_1.length ≤ c0_1) (h : spec_LogOpen.f k l0_0 l0_1 a1 a2 = some (r1, r2, r3, r4, r5, r6)) :
  Calls Try.prog 20 #[.agg #[.slice A0_0 l0_0.length c0_0, .slice A0_1 l0_1.length c0_1], .int .i64 a1, .int .i64 a2] w fun e w' => ∃ v4_ : Value, e = .returned (.tuple #[.agg #[.int .i64 r1, .int .i64 r2, .int .i64 r3, .int .i64 r4], v4_, .bool r6]) ∧ Kd.S (Kd.slice 5 (Kd.int .u8)) 22 w' w.heap.size (fun _ => True) v4_ r5 ∧ Below w.heap.size w w' := by
 have hu31 := Try.underlying31
 have hu32 := Try.underlying32
 have hu79 := Try.underlying79
 have HR0_0 := Ak hr0_0
 have HC0_0 := Ak hc0_0
 clear hr0_0 hc0_0
 have HR0_1 := Ak hr0_1
 have HC0_1 := Ak hc0_1
 clear hr0_1 hc0_1
 have HB := Ak (Below.refl w.heap.size w)
 have H := h
 unfold spec_LogOpen.f at H
 clear h
 obtain ⟨y507, hy507⟩ : ∃ y_ : List (List Int), y_ = (([] : List (List Int))) := ⟨_, rfl⟩
 replace H : ((spec_l12Region.f k l0_0 l0_1 a1 a2).bind fun t510 => (if t510 = true then (spec_LogOpen.l0 k a2 y507 0 true 1 0 (([] : List Int)) 0 a1 l0_0 l0_1 a1 a2 0 0) else (some (0, 0, 0, 0, y507, false)))) = some (r1, r2, r3, r4, r5, r6) := by first | (rw [hy507]; with_reducible exact H) | (have H2_ := (Option.bind_some _ _).symm.trans H; rw [hy507]; with_reducible exact H2_) | (have H2_ := (Option.bind_some _ _).symm.trans H; with_reducible exact H2_) | with_reducible exact H | (rw [hy507]; exact H) | exact H
 have Ny507 := Ak hy507
 clear hy507
 replace H := Option.bind_eq_some_iff.mp H
 obtain ⟨t510, A40, H⟩ := H
 have A4 := Ak A40
 clear A40
 by_cases c5 : t510 = true
 ·subst c5
  rw [if_pos rfl] at H
  obtain ⟨y512, hy512⟩ : ∃ y_ : List Int, y_ = (([] : List Int)) := ⟨_, rfl⟩
  replace H : (spec_LogOpen.l0 k a2 y507 0 true 1 0 y512 0 a1 l0_0 l0_1 a1 a2 0 0) = some (r1, r2, r3, r4, r5, r6) := by first | (rw [hy512]; with_reducible exact H) | (have H2_ := (Option.bind_some _ _).symm.trans H; rw [hy512]; with_reducible exact H2_) | (have H2_ := (Option.bind_some _ _).symm.trans H; with_reducible exact H2_) | with_reducible exact H | (rw [hy512]; exact H) | exact H
  have Ny512 := Ak hy512
  clear hy512
  have H' := Ak H
  clear H
  go_enter Try.func20, Try.ntmps20
  go_wp2_with (first | ((with_reducible refine gate_dst (N := 3) rfl ?_); refine box_event ?hg (N := 3) ?hd (cs := #[.slice A0_0 l0_0.length c0_0, .slice A0_1 l0_1.length c0_1]) (t := 31) ?hr ?_; (case hd => rfl); (case hg => rfl); (case hr => first | (go_simp; done) | (go_simp; rfl)); intro gb505 hg w6 hbox hb; have BK505 := Ak (hbox); have GW505 := Ak ((zb hg (bw HB.out))); have GE505 := Ak ((zb hg (bw HB.out))); replace HB := Ak (below_step (bw HB.out) hb); clear hb hbox hg) | ((with_reducible refine gate_dst (N := 6) rfl ?_); refine box_event ?hg (N := 6) ?hd (cs := #[.int .i64 0, .int .i64 0, .int .i64 0, .int .i64 0]) (t := 32) ?hr ?_; (case hd => rfl); (case hg => rfl); (case hr => first | (go_simp; done) | (go_simp; rfl)); intro gb506 hg w7 hbox hb; have BK506 := Ak (hbox); have GW506 := Ak ((zb hg (bw1 HB.out GE505.out))); have GE506 := Ak ((zb hg (bw1 HB.out GE505.out))); replace HB := Ak (below_step (bw1 HB.out GE505.out) hb); have NB505_506 := Ak ((zl hg (bq BK505.out))); have NB506_505 := Ak ((zm hg (bq BK505.out))); replace BK505 := Ak (blk_below (bq BK505.out) hb); clear hb hbox hg) | ((with_reducible refine gate_dst (N := 22) rfl ?_); refine Kd.S_lit (Kd.slice 5 (Kd.int .u8)) _ 22 ?hg (N := 22) ?hd (xs := ([] : List (List Int))) (inner := []) (ok := fun _ => True) (okp := fun _ => True) ?hr ?hp (fun _ hk => hk) trivial (Below.refl _ _) (Nat.le_refl _) (by simp) ?_; (case hd => rfl); (case hg => rfl); (case hr => first | (go_simp; done) | (go_simp; rfl)); (case hp => exact (Reps.none _ _)); intro v508 w8 ho9 hb hg_ hnew_; clear hg_ hnew_; (first | rw [← Ny507.out] at ho9 | (simp only [Int.reduceToNat] at ho9; rw [← Ny507.out] at ho9)); have HO509 := Ak (Kd.S_lower ho9 (below_size (bw2 HB.out GE505.out GE506.out))); replace BK505 := Ak (blk_below (bq BK505.out) hb); replace BK506 := Ak (blk_below (bq BK506.out) hb); replace HB := Ak (below_step (bw2 HB.out GE505.out GE506.out) hb); clear hb ho9; have hnb10 := NB505_506.out; have hnc10 := NB506_505.out; have hcz11_0 := zk0 BK505.out; have hcz11_1 := zk1 BK505.out; have hfz11_0 := blk_frozen BK505.out 0; have hfz11_1 := blk_frozen BK505.out 1) | ((with_reducible refine gate_callee (f := 56) rfl ?_); refine goesL_ (some 26) rfl rfl Try.func56 (by kernel_rfl) rfl #[.agg #[.slice A0_0 l0_0.length c0_0, .slice A0_1 l0_1.length c0_1], .int .i64 a1, .int .i64 a2] rfl gm ?_; (with_reducible refine (spec_l12Region.calls k _ _ l0_0 _ _ l0_1 a1 a2 true _ ?side1 ?side2 ?side3 ?side4 A4.out).mono ?_); (case side1 => exact zq (Kd.C_below HR0_0.out HB.out)); (case side2 => exact HC0_0.out); (case side3 => exact zq (Kd.C_below HR0_1.out HB.out)); (case side4 => exact HC0_1.out); rintro e w12 ⟨rfl, hb⟩; refine ⟨_, rfl, ?_⟩; replace HO509 := Ak (Kd.S_below (sq HO509.out) hb); replace BK505 := Ak (blk_below (bq BK505.out) hb); replace BK506 := Ak (blk_below (bq BK506.out) hb); replace HB := Ak (below_step (bw2 HB.out GE505.out GE506.out) hb)) | ((with_reducible refine gate_dst (N := 10) rfl ?_); refine box_event ?hg (N := 10) ?hd (cs := #[.int .i64 0, .int .i64 0, .int .i64 0, .int .i64 0]) (t := 32) ?hr ?_; (case hd => rfl); (case hg => rfl); (case hr => first | (go_simp; done) | (go_simp; rfl)); intro gb511 hg w13 hbox hb; replace HO509 := Ak (Kd.S_below (sq HO509.out) hb); have BK511 := Ak (hbox); have GW511 := Ak ((zb hg (bw2 HB.out GE505.out GE506.out))); have GE511 := Ak ((zb hg (bw2 HB.out GE505.out GE506.out))); replace HB := Ak (below_step (bw2 HB.out GE505.out GE506.out) hb); have NB505_511 := Ak ((zl hg (bq BK505.out))); have NB511_505 := Ak ((zm hg (bq BK505.out))); replace BK505 := Ak (blk_below (bq BK505.out) hb); have NB506_511 := Ak ((zl hg (bq BK506.out))); have NB511_506 := Ak ((zm hg (bq BK506.out))); replace BK506 := Ak (blk_below (bq BK506.out) hb); clear hb hbox hg; have hnb14 := NB511_505.out; have hnc14 := NB505_511.out; have hnb15 := NB511_506.out; have hnc15 := NB506_511.out; have hcz16_0 := zk0 BK511.out; have hcz16_1 := zk1 BK511.out; have hcz16_2 := zk2 BK511.out; have hcz16_3 := zk3 BK511.out; have hfz16_0 := blk_frozen BK511.out 0; have hfz16_1 := blk_frozen BK511.out 1; have hfz16_2 := blk_frozen BK511.out 2; have hfz16_3 := blk_frozen BK511.out 3) | ((with_reducible refine gate_dst (N := 33) rfl ?_); refine Kd.R_lit (Kd.int .u8) _ 5 ?hg (N := 33) ?hd (xs := ([] : List Int)) (inner := []) (ok := fun _ => True) (okp := fun _ => True) ?hr ?hp (fun _ hk => hk) trivial (Below.refl _ _) (Nat.le_refl _) (by simp) ?_; (case hd => rfl); (case hg => rfl); (case hr => first | (go_simp; done) | (go_simp; rfl)); (case hp => exact (Reps.none _ _)); intro v513 w17 ho18 hb hg_ hnew_; clear hg_ hnew_; (first | rw [← Ny512.out] at ho18 | (simp only [Int.reduceToNat] at ho18; rw [← Ny512.out] at ho18)); replace HO509 := Ak (Kd.S_elder' (by (with_reducible repeat (first | apply Kd.S_alloc | apply Kd.S_drewN | apply Kd.S_drew)); exact (Kd.S_mono (Kd.S_far (p := ⟨gb511, 3, none⟩) (Kd.S_far (p := ⟨gb511, 2, none⟩) (Kd.S_far (p := ⟨gb511, 1, none⟩) (Kd.S_far (p := ⟨gb511, 0, none⟩) (Kd.S_types HO509.out BK511.out (by decide)) (fun _ hk => hk.2) (.int .i64 a1)) (fun _ hk => hk.2) (.int .i64 a2)) (fun _ hk => hk.2) (.int .i64 0)) (fun _ hk => hk.2) (.int .i64 0)) (fun _ h_ => h_.1))) (Kd.R_base ho18) hb); have HO514 := Ak (Kd.R_lower ho18 (below_size (bw3 HB.out GE505.out GE506.out GE511.out))); replace BK505 := Ak (blk_below (g := gb505) (o := .cells #[.slice A0_0 l0_0.length c0_0, .slice A0_1 l0_1.length c0_1] 31 (0, 0)) (by refine bq ?_; refine blk_far ?_ NB505_511.out _; refine bq ?_; refine blk_far ?_ NB505_511.out _; refine bq ?_; refine blk_far ?_ NB505_511.out _; refine bq ?_; refine blk_far ?_ NB505_511.out _; exact bq BK505.out) hb); replace BK506 := Ak (blk_below (g := gb506) (o := .cells #[.int .i64 0, .int .i64 0, .int .i64 0, .int .i64 0] 32 (0, 0)) (by refine bq ?_; refine blk_far ?_ NB506_511.out _; refine bq ?_; refine blk_far ?_ NB506_511.out _; refine bq ?_; refine blk_far ?_ NB506_511.out _; refine bq ?_; refine blk_far ?_ NB506_511.out _; exact bq BK506.out) hb); replace BK511 := Ak (blk_below (g := gb511) (o := .cells #[.int .i64 a1, .int .i64 a2, .int .i64 0, .int .i64 0] 32 (0, 0)) (by refine bq ?_; refine blk_put (cs := #[.int .i64 a1, .int .i64 a2, .int .i64 0, .int .i64 0]) ?_ 3 _ rfl; refine bq ?_; refine blk_put (cs := #[.int .i64 a1, .int .i64 a2, .int .i64 0, .int .i64 0]) ?_ 2 _ rfl; refine bq ?_; refine blk_put (cs := #[.int .i64 a1, .int .i64 0, .int .i64 0, .int .i64 0]) ?_ 1 _ rfl; refine bq ?_; refine blk_put (cs := #[.int .i64 0, .int .i64 0, .int .i64 0, .int .i64 0]) ?_ 0 _ rfl; exact bq BK511.out) hb); replace HB := Ak (below_step (bw3 HB.out GE505.out GE506.out GE511.out) hb); clear hb ho18))
  go_loopg [9, 11, 12, 13, 14, 15, 16, 17] k (fun kq v9 v11 v12 v13 v14 v15 v16 v17 w' => ∃ (x9_1 : List (List Int)) (x11_1 : Int) (x12_1 : Bool) (x13_1 : Int) (x14_1 : Int) (x15_1 : List Int) (x16_1 : Int) (x17_1 : Int) (x512002_1 : Int), v11 = .int .i64 x11_1 ∧ v12 = .bool x12_1 ∧ v13 = .int .i64 x13_1 ∧ v14 = .int .i64 x14_1 ∧ v16 = .int .i64 x16_1 ∧ v17 = .int .i64 x17_1 ∧ Aside0 (spec_LogOpen.l0 kq a2 x9_1 x11_1 x12_1 x13_1 x14_1 x15_1 x16_1 x17_1 l0_0 l0_1 a1 a2 x512002_1 0 = some (r1, r2, r3, r4, r5, r6)) ∧ Aside0 (kq ≤ k) ∧ Aside0 (Kd.S (Kd.slice 5 (Kd.int .u8)) 22 w' w.heap.size (fun k_ => Nb k_ v15) v9 x9_1) ∧ Aside0 (Kd.R (Kd.int .u8) 5 w' w.heap.size (fun _ => True) v15 x15_1) ∧ Aside0 (w'.heap[gb505]? = some (.cells #[(.slice A0_0 l0_0.length c0_0), (.slice A0_1 l0_1.length c0_1)] 31 (0, 0))) ∧ Aside0 (w'.heap[gb506]? = some (.cells #[.int .i64 0, .int .i64 0, .int .i64 0, .int .i64 0] 32 (0, 0))) ∧ Aside0 (w'.heap[gb511]? = some (.cells #[.int .i64 a1, .int .i64 a2, .int .i64 x512002_1, .int .i64 0] 32 (0, 0))) ∧ Aside0 (Below w.heap.size w w'))
  case atStart => exact ⟨(y507), (0), (true), (1), (0), (y512), (0), (a1), (0), (by first | rfl | (simp; done) | (simp [*]; done)), (by first | rfl | (simp; done) | (simp [*]; done)), (by first | rfl | (simp; done) | (simp [*]; done)), (by first | rfl | (simp; done) | (simp [*]; done)), (by first | rfl | (simp; done) | (simp [*]; done)), (by first | rfl | (simp; done) | (simp [*]; done)), H', ⟨Nat.le_refl _⟩, ⟨by refine sq ?_; exact Kd.S_mono HO509.out (fun _ hk => hk.2)⟩, ⟨rq HO514.out⟩, ⟨bq BK505.out⟩, ⟨bq BK506.out⟩, ⟨bq BK511.out⟩, ⟨bw3 HB.out GE505.out GE506.out GE511.out⟩⟩
  case round =>
   clear H'
   obtain ⟨x9_1, x11_1, x12_1, x13_1, x14_1, x15_1, x16_1, x17_1, x512002_1, rfl, rfl, rfl, rfl, rfl, rfl, HA, HK1, HO_9, HO_15, BK505, BK506, BK511, HB⟩ := hrel
   cases gk with
   | zero => exact absurd HA.out (by simp [spec_LogOpen.l0])
   | succ k1 =>
    have H := HA.out
    clear HA
    simp only [spec_LogOpen.l0] at H
    by_cases c19 : x17_1 ≤ a2
    ·rw [if_pos c19] at H
     have c19b0 := decide_eq_true c19
     clear c19
     replace H := Option.bind_eq_some_iff.mp H
     obtain ⟨⟨t518, t521⟩, A200, H⟩ := H
     (try dsimp only at H)
     have A20 := Ak A200
     clear A200
     replace H := Option.bind_eq_some_iff.mp H
     obtain ⟨⟨t522, t523, t524, t525, t528⟩, A210, H⟩ := H
     (try dsimp only at H)
     have A21 := Ak A210
     clear A210
     have HC22 := Ak H
     clear H
     have hnb23 := NB505_506.out
     have hnc23 := NB506_505.out
     have hnb24 := NB505_511.out
     have hnc24 := NB511_505.out
     have hcz25_0 : wr.cell? ⟨gb505, 0, none⟩ = some (.slice A0_0 l0_0.length c0_0) := zk0 BK505.out
     have hcz25_1 : wr.cell? ⟨gb505, 1, none⟩ = some (.slice A0_1 l0_1.length c0_1) := zk1 BK505.out
     have hfz25_0 := blk_frozen BK505.out 0
     have hfz25_1 := blk_frozen BK505.out 1
     go_upto_region 16 with (first | ((with_reducible refine gate_callee (f := 57) rfl ?_); refine goesL_ (some 43) rfl rfl Try.func57 (by kernel_rfl) rfl #[.agg #[.slice A0_0 l0_0.length c0_0, .slice A0_1 l0_1.length c0_1], .int .i64 x17_1] rfl gm ?_; (with_reducible refine (spec_ReadSector.calls k1 _ _ l0_0 _ _ l0_1 x17_1 t518 t521 _ ?side1 ?side2 ?side3 ?side4 A20.out).mono ?_); (case side1 => exact zq (Kd.C_below HR0_0.out HB.out)); (case side2 => exact HC0_0.out); (case side3 => exact zq (Kd.C_below HR0_1.out HB.out)); (case side4 => exact HC0_1.out); rintro e w26 ⟨v519, rfl, ho0, hb⟩; refine ⟨_, rfl, ?_⟩; replace HO_9 := Ak (Kd.S_elder' (sq HO_9.out) (Kd.R_base ho0) hb); have HO520 := Ak (Kd.R_lower (Kd.R_new' ho0 (Kd.R_lt (rq HO_15.out))) (below_size (bw3 HB.out GE505.out GE506.out GE511.out))); replace HO_15 := Ak (Kd.R_elder' (rq HO_15.out) (Kd.R_base ho0) hb); replace BK505 := Ak (blk_below (bq BK505.out) hb); replace BK506 := Ak (blk_below (bq BK506.out) hb); replace BK511 := Ak (blk_below (bq BK511.out) hb); replace HB := Ak (below_step (bw3 HB.out GE505.out GE506.out GE511.out) hb); obtain ⟨Ao27, co27, eo27⟩ := Kd.R_slice HO520.out; subst eo27) | ((with_reducible refine gate_callee (f := 58) rfl ?_); refine goesL_ (some 48) rfl rfl Try.func58 (by kernel_rfl) rfl #[.slice Ao27 t518.length co27] rfl gm ?_; (with_reducible refine (spec_l12Read.calls k1 _ _ t518 t522 t523 t524 t525 t528 _ ?side1 ?side2 A21.out).mono ?_); (case side1 => repeat (first | exact (Kd.R_reads' HO520.out).2.2 | (with_reducible refine Kd.C_alloc ?_ _) | (with_reducible refine Kd.C_drewN ?_ _) | (with_reducible refine Kd.C_drew ?_))); (case side2 => exact (Kd.R_reads' HO520.out).2.1); rintro e w28 ⟨v526, rfl, ho0, hb⟩; refine ⟨_, rfl, ?_⟩; replace HO_9 := Ak (Kd.S_elder' (sq HO_9.out) (Kd.R_base ho0) hb); have HO527 := Ak (Kd.R_lower (Kd.R_new' (Kd.R_new' ho0 (Kd.R_lt (rq HO_15.out))) (Kd.R_lt (rq HO520.out))) (below_size (bw3 HB.out GE505.out GE506.out GE511.out))); replace HO_15 := Ak (Kd.R_elder' (rq HO_15.out) (Kd.R_base ho0) hb); replace HO520 := Ak (Kd.R_elder' (rq HO520.out) (Kd.R_base ho0) hb); replace BK505 := Ak (blk_below (bq BK505.out) hb); replace BK506 := Ak (blk_below (bq BK506.out) hb); replace BK511 := Ak (blk_below (bq BK511.out) hb); replace HB := Ak (below_step (bw3 HB.out GE505.out GE506.out GE511.out) hb)) | ((with_reducible refine gate_dst (N := 20) rfl ?_); refine box_event ?hg (N := 20) ?hd (cs := #[.int .i64 0, .int .i64 0, .bool false, .slice none 0 0]) (t := 79) ?hr ?_; (case hd => rfl); (case hg => rfl); (case hr => first | (go_simp; done) | (go_simp; rfl)); intro gb529 hg w29 hbox hb; replace HO_9 := Ak (Kd.S_below (sq HO_9.out) hb); replace HO_15 := Ak (Kd.R_below (rq HO_15.out) hb); replace HO520 := Ak (Kd.R_below (rq HO520.out) hb); replace HO527 := Ak (Kd.R_below (rq HO527.out) hb); have BK529 := Ak (hbox); have GW529 := Ak ((zb hg (bw3 HB.out GE505.out GE506.out GE511.out))); have GE529 := Ak ((zb hg (bw3 HB.out GE505.out GE506.out GE511.out))); replace HB := Ak (below_step (bw3 HB.out GE505.out GE506.out GE511.out) hb); have NB505_529 := Ak ((zl hg (bq BK505.out))); have NB529_505 := Ak ((zm hg (bq BK505.out))); replace BK505 := Ak (blk_below (bq BK505.out) hb); have NB506_529 := Ak ((zl hg (bq BK506.out))); have NB529_506 := Ak ((zm hg (bq BK506.out))); replace BK506 := Ak (blk_below (bq BK506.out) hb); have NB511_529 := Ak ((zl hg (bq BK511.out))); have NB529_511 := Ak ((zm hg (bq BK511.out))); replace BK511 := Ak (blk_below (bq BK511.out) hb); clear hb hbox hg; have hnb30 := NB529_505.out; have hnc30 := NB505_529.out; have hnb31 := NB529_506.out; have hnc31 := NB506_529.out; have hnb32 := NB529_511.out; have hnc32 := NB511_529.out; have hcz33_0 := zk0 BK529.out; have hcz33_1 := zk1 BK529.out; have hcz33_2 := zk2 BK529.out; have hcz33_3 := zk3 BK529.out; have hfz33_0 := blk_frozen BK529.out 0; have hfz33_1 := blk_frozen BK529.out 1; have hfz33_2 := blk_frozen BK529.out 2; have hfz33_3 := blk_frozen BK529.out 3; obtain ⟨Ao34, co34, eo34⟩ := Kd.R_slice HO527.out; subst eo34))
     (try simp only [Act.put, sT, sZ, sS])
     go_cut [57] (fun v57 wc => ∃ (kq : Nat) (x57_21 : Bool), v57 = .bool x57_21 ∧ Aside0 (spec_LogOpen.j1 kq a2 x9_1 x11_1 x12_1 x13_1 x14_1 x15_1 x16_1 x17_1 t528 x57_21 l0_0 l0_1 a1 a2 x512002_1 0 t522 t523 t524 t525 = some (r1, r2, r3, r4, r5, r6)) ∧ Aside0 (kq ≤ k1) ∧ Aside0 (Kd.S (Kd.slice 5 (Kd.int .u8)) 22 wc w.heap.size (fun k_ => some k_ ≠ (u15 : Value).ownBlock ∧ some k_ ≠ ((.slice Ao34 t525.length co34) : Value).ownBlock) u9 x9_1) ∧ Aside0 (Kd.R (Kd.int .u8) 5 wc w.heap.size (fun k_ => some k_ ≠ ((.slice Ao34 t525.length co34) : Value).ownBlock) u15 x15_1) ∧ Aside0 (Kd.R (Kd.int .u8) 5 wc w.heap.size (fun k_ => some k_ ≠ (u15 : Value).ownBlock) (.slice Ao34 t525.length co34) t525) ∧ Aside0 (wc.heap[gb505]? = some (.cells #[(.slice A0_0 l0_0.length c0_0), (.slice A0_1 l0_1.length c0_1)] 31 (0, 0))) ∧ Aside0 (wc.heap[gb506]? = some (.cells #[.int .i64 0, .int .i64 0, .int .i64 0, .int .i64 0] 32 (0, 0))) ∧ Aside0 (wc.heap[gb511]? = some (.cells #[.int .i64 a1, .int .i64 a2, .int .i64 x512002_1, .int .i64 0] 32 (0, 0))) ∧ Aside0 (wc.heap[gb529]? = some (.cells #[.int .i64 t522, .int .i64 t523, .bool t524, (.slice Ao34 t525.length co34)] 79 (0, 0))) ∧ Aside0 (Below w.heap.size w wc))
     case first =>
      have H := HC22.out
      clear HC22
      by_cases c35 : t528 = true
      ·subst c35
       rw [if_pos rfl] at H
       have H' := Ak H
       clear H
       have hnb36 := NB529_505.out
       have hnc36 := NB505_529.out
       have hnb37 := NB529_506.out
       have hnc37 := NB506_529.out
       have hnb38 := NB529_511.out
       have hnc38 := NB511_529.out
       have hcz39_0 := zk0 BK529.out
       have hcz39_1 := zk1 BK529.out
       have hcz39_2 := zk2 BK529.out
       have hcz39_3 := zk3 BK529.out
       have hfz39_0 := blk_frozen BK529.out 0
       have hfz39_1 := blk_frozen BK529.out 1
       have hfz39_2 := blk_frozen BK529.out 2
       have hfz39_3 := blk_frozen BK529.out 3
       go_wp2
       go_meet
       case rel => exact ⟨_, (decide (t522 > x11_1)), (by first | rfl | (simp; done) | (simp [*]; done)), H', ⟨by have := HK1.out; first | omega | exact Nat.le_refl _⟩, ⟨by refine sq ?_; exact Kd.S_mono (Kd.S_far (p := ⟨gb529, 3, none⟩) (Kd.S_far (p := ⟨gb529, 2, none⟩) (Kd.S_far (p := ⟨gb529, 1, none⟩) (Kd.S_far (p := ⟨gb529, 0, none⟩) (Kd.S_types HO_9.out BK529.out (by decide)) (fun _ hk => hk.2) (.int .i64 t522)) (fun _ hk => hk.2) (.int .i64 t523)) (fun _ hk => hk.2) (.bool t524)) (fun _ hk => hk.2) (.slice Ao34 t525.length co34)) (fun _ hk => ⟨hk.1.1.1, hk.1.2⟩)⟩, ⟨by refine rq ?_; exact Kd.R_mono (Kd.R_far (p := ⟨gb529, 3, none⟩) (Kd.R_far (p := ⟨gb529, 2, none⟩) (Kd.R_far (p := ⟨gb529, 1, none⟩) (Kd.R_far (p := ⟨gb529, 0, none⟩) (Kd.R_types HO_15.out BK529.out (by decide)) (fun _ hk => hk.2) (.int .i64 t522)) (fun _ hk => hk.2) (.int .i64 t523)) (fun _ hk => hk.2) (.bool t524)) (fun _ hk => hk.2) (.slice Ao34 t525.length co34)) (fun _ hk => hk.1.2)⟩, ⟨by refine rq ?_; exact Kd.R_mono (Kd.R_far (p := ⟨gb529, 3, none⟩) (Kd.R_far (p := ⟨gb529, 2, none⟩) (Kd.R_far (p := ⟨gb529, 1, none⟩) (Kd.R_far (p := ⟨gb529, 0, none⟩) (Kd.R_types HO527.out BK529.out (by decide)) (fun _ hk => hk.2) (.int .i64 t522)) (fun _ hk => hk.2) (.int .i64 t523)) (fun _ hk => hk.2) (.bool t524)) (fun _ hk => hk.2) (.slice Ao34 t525.length co34)) (fun _ hk => hk.1.1.2)⟩, ⟨by refine bq ?_; refine blk_far ?_ NB505_529.out _; refine bq ?_; refine blk_far ?_ NB505_529.out _; refine bq ?_; refine blk_far ?_ NB505_529.out _; refine bq ?_; refine blk_far ?_ NB505_529.out _; exact bq BK505.out⟩, ⟨by refine bq ?_; refine blk_far ?_ NB506_529.out _; refine bq ?_; refine blk_far ?_ NB506_529.out _; refine bq ?_; refine blk_far ?_ NB506_529.out _; refine bq ?_; refine blk_far ?_ NB506_529.out _; exact bq BK506.out⟩, ⟨by refine bq ?_; refine blk_far ?_ NB511_529.out _; refine bq ?_; refine blk_far ?_ NB511_529.out _; refine bq ?_; refine blk_far ?_ NB511_529.out _; refine bq ?_; refine blk_far ?_ NB511_529.out _; exact bq BK511.out⟩, ⟨by refine bq ?_; refine blk_put (cs := #[.int .i64 t522, .int .i64 t523, .bool t524, .slice none 0 0]) ?_ 3 _ rfl; refine bq ?_; refine blk_put (cs := #[.int .i64 t522, .int .i64 t523, .bool false, .slice none 0 0]) ?_ 2 _ rfl; refine bq ?_; refine blk_put (cs := #[.int .i64 t522, .int .i64 0, .bool false, .slice none 0 0]) ?_ 1 _ rfl; refine bq ?_; refine blk_put (cs := #[.int .i64 0, .int .i64 0, .bool false, .slice none 0 0]) ?_ 0 _ rfl; exact bq BK529.out⟩, ⟨bw4 HB.out GE505.out GE506.out GE511.out GE529.out⟩⟩
      ·replace c35 := Bool.eq_false_iff.mpr c35
       subst c35
       rw [if_neg (show ¬ (false = true) by decide)] at H
       have H' := Ak H
       clear H
       go_wp2
       go_meet
       case rel => exact ⟨_, (false), (by first | rfl | (simp; done) | (simp [*]; done)), H', ⟨by have := HK1.out; first | omega | exact Nat.le_refl _⟩, ⟨by refine sq ?_; exact Kd.S_mono (Kd.S_far (p := ⟨gb529, 3, none⟩) (Kd.S_far (p := ⟨gb529, 2, none⟩) (Kd.S_far (p := ⟨gb529, 1, none⟩) (Kd.S_far (p := ⟨gb529, 0, none⟩) (Kd.S_types HO_9.out BK529.out (by decide)) (fun _ hk => hk.2) (.int .i64 t522)) (fun _ hk => hk.2) (.int .i64 t523)) (fun _ hk => hk.2) (.bool t524)) (fun _ hk => hk.2) (.slice Ao34 t525.length co34)) (fun _ hk => ⟨hk.1.1.1, hk.1.2⟩)⟩, ⟨by refine rq ?_; exact Kd.R_mono (Kd.R_far (p := ⟨gb529, 3, none⟩) (Kd.R_far (p := ⟨gb529, 2, none⟩) (Kd.R_far (p := ⟨gb529, 1, none⟩) (Kd.R_far (p := ⟨gb529, 0, none⟩) (Kd.R_types HO_15.out BK529.out (by decide)) (fun _ hk => hk.2) (.int .i64 t522)) (fun _ hk => hk.2) (.int .i64 t523)) (fun _ hk => hk.2) (.bool t524)) (fun _ hk => hk.2) (.slice Ao34 t525.length co34)) (fun _ hk => hk.1.2)⟩, ⟨by refine rq ?_; exact Kd.R_mono (Kd.R_far (p := ⟨gb529, 3, none⟩) (Kd.R_far (p := ⟨gb529, 2, none⟩) (Kd.R_far (p := ⟨gb529, 1, none⟩) (Kd.R_far (p := ⟨gb529, 0, none⟩) (Kd.R_types HO527.out BK529.out (by decide)) (fun _ hk => hk.2) (.int .i64 t522)) (fun _ hk => hk.2) (.int .i64 t523)) (fun _ hk => hk.2) (.bool t524)) (fun _ hk => hk.2) (.slice Ao34 t525.length co34)) (fun _ hk => hk.1.1.2)⟩, ⟨by refine bq ?_; refine blk_far ?_ NB505_529.out _; refine bq ?_; refine blk_far ?_ NB505_529.out _; refine bq ?_; refine blk_far ?_ NB505_529.out _; refine bq ?_; refine blk_far ?_ NB505_529.out _; exact bq BK505.out⟩, ⟨by refine bq ?_; refine blk_far ?_ NB506_529.out _; refine bq ?_; refine blk_far ?_ NB506_529.out _; refine bq ?_; refine blk_far ?_ NB506_529.out _; refine bq ?_; refine blk_far ?_ NB506_529.out _; exact bq BK506.out⟩, ⟨by refine bq ?_; refine blk_far ?_ NB511_529.out _; refine bq ?_; refine blk_far ?_ NB511_529.out _; refine bq ?_; refine blk_far ?_ NB511_529.out _; refine bq ?_; refine blk_far ?_ NB511_529.out _; exact bq BK511.out⟩, ⟨by refine bq ?_; refine blk_put (cs := #[.int .i64 t522, .int .i64 t523, .bool t524, .slice none 0 0]) ?_ 3 _ rfl; refine bq ?_; refine blk_put (cs := #[.int .i64 t522, .int .i64 t523, .bool false, .slice none 0 0]) ?_ 2 _ rfl; refine bq ?_; refine blk_put (cs := #[.int .i64 t522, .int .i64 0, .bool false, .slice none 0 0]) ?_ 1 _ rfl; refine bq ?_; refine blk_put (cs := #[.int .i64 0, .int .i64 0, .bool false, .slice none 0 0]) ?_ 0 _ rfl; exact bq BK529.out⟩, ⟨bw4 HB.out GE505.out GE506.out GE511.out GE529.out⟩⟩
     case rest =>
      clear HC22
      try clear c19b0
      obtain ⟨kq, x57_21, rfl, HA, HJ21, HO_9, HO_15, HO_530003, BK505, BK506, BK511, BK529, HB⟩ := hcut
      cases kq with
      | zero => exact absurd HA.out (by simp [spec_LogOpen.j1])
      | succ kj21 =>
       have H := HA.out
       clear HA
       simp only [spec_LogOpen.j1] at H
       have HC40 := Ak H
       clear H
       go_upto_if 57 with (fail)
       go_cut [11] (fun v11 wc => ∃ (kq : Nat) (x11_39 : Int), v11 = .int .i64 x11_39 ∧ Aside0 (spec_LogOpen.j2 kq a2 x9_1 x11_39 x12_1 x13_1 x14_1 x15_1 x16_1 x17_1 t528 l0_0 l0_1 a1 a2 x512002_1 0 t522 t523 t524 t525 = some (r1, r2, r3, r4, r5, r6)) ∧ Aside0 (kq ≤ kj21) ∧ Aside0 (Kd.S (Kd.slice 5 (Kd.int .u8)) 22 wc w.heap.size (fun k_ => some k_ ≠ (u15 : Value).ownBlock ∧ some k_ ≠ ((.slice Ao34 t525.length co34) : Value).ownBlock) u9 x9_1) ∧ Aside0 (Kd.R (Kd.int .u8) 5 wc w.heap.size (fun k_ => some k_ ≠ ((.slice Ao34 t525.length co34) : Value).ownBlock) u15 x15_1) ∧ Aside0 (Kd.R (Kd.int .u8) 5 wc w.heap.size (fun k_ => some k_ ≠ (u15 : Value).ownBlock) (.slice Ao34 t525.length co34) t525) ∧ Aside0 (wc.heap[gb505]? = some (.cells #[(.slice A0_0 l0_0.length c0_0), (.slice A0_1 l0_1.length c0_1)] 31 (0, 0))) ∧ Aside0 (wc.heap[gb506]? = some (.cells #[.int .i64 0, .int .i64 0, .int .i64 0, .int .i64 0] 32 (0, 0))) ∧ Aside0 (wc.heap[gb511]? = some (.cells #[.int .i64 a1, .int .i64 a2, .int .i64 x512002_1, .int .i64 0] 32 (0, 0))) ∧ Aside0 (wc.heap[gb529]? = some (.cells #[.int .i64 t522, .int .i64 t523, .bool t524, (.slice Ao34 t525.length co34)] 79 (0, 0))) ∧ Aside0 (Below w.heap.size w wc))
       case first =>
        have H := HC40.out
        clear HC40
        by_cases c41 : x57_21 = true
        ·subst c41
         rw [if_pos rfl] at H
         have H' := Ak H
         clear H
         have hnb42 := NB529_505.out
         have hnc42 := NB505_529.out
         have hnb43 := NB529_506.out
         have hnc43 := NB506_529.out
         have hnb44 := NB529_511.out
         have hnc44 := NB511_529.out
         have hcz45_0 : wc.cell? ⟨gb529, 0, none⟩ = some (.int .i64 t522) := zk0 BK529.out
         have hcz45_1 : wc.cell? ⟨gb529, 1, none⟩ = some (.int .i64 t523) := zk1 BK529.out
         have hcz45_2 : wc.cell? ⟨gb529, 2, none⟩ = some (.bool t524) := zk2 BK529.out
         have hcz45_3 : wc.cell? ⟨gb529, 3, none⟩ = some (.slice Ao34 t525.length co34) := zk3 BK529.out
         have hfz45_0 := blk_frozen BK529.out 0
         have hfz45_1 := blk_frozen BK529.out 1
         have hfz45_2 := blk_frozen BK529.out 2
         have hfz45_3 := blk_frozen BK529.out 3
         go_wp2
         go_meet
         case rel => exact ⟨_, (t522), (by first | rfl | (simp; done) | (simp [*]; done)), H', ⟨by have := HK1.out; have := HJ21.out; first | omega | exact Nat.le_refl _⟩, ⟨sq HO_9.out⟩, ⟨rq HO_15.out⟩, ⟨rq HO_530003.out⟩, ⟨bq BK505.out⟩, ⟨bq BK506.out⟩, ⟨bq BK511.out⟩, ⟨bq BK529.out⟩, ⟨bw4 HB.out GE505.out GE506.out GE511.out GE529.out⟩⟩
        ·replace c41 := Bool.eq_false_iff.mpr c41
         subst c41
         rw [if_neg (show ¬ (false = true) by decide)] at H
         have H' := Ak H
         clear H
         go_wp2
         go_meet
         case rel => exact ⟨_, (x11_1), (by first | rfl | (simp; done) | (simp [*]; done)), H', ⟨by have := HK1.out; have := HJ21.out; first | omega | exact Nat.le_refl _⟩, ⟨sq HO_9.out⟩, ⟨rq HO_15.out⟩, ⟨rq HO_530003.out⟩, ⟨bq BK505.out⟩, ⟨bq BK506.out⟩, ⟨bq BK511.out⟩, ⟨bq BK529.out⟩, ⟨bw4 HB.out GE505.out GE506.out GE511.out GE529.out⟩⟩
       case rest =>
        clear HC40
        try clear c19b0
        obtain ⟨kq, x11_39, rfl, HA, HJ39, HO_9, HO_15, HO_530003, BK505, BK506, BK511, BK529, HB⟩ := hcut
        cases kq with
        | zero => exact absurd HA.out (by simp [spec_LogOpen.j2])
        | succ kj39 =>
         have H := HA.out
         clear HA
         simp only [spec_LogOpen.j2] at H
         have HC46 := Ak H
         clear H
         go_upto_region 18 with (fail)
         go_cut [87] (fun v87 wc => ∃ (kq : Nat) (x87_45 : Bool), v87 = .bool x87_45 ∧ Aside0 (spec_LogOpen.j3 kq a2 x9_1 x11_39 x12_1 x13_1 x14_1 x15_1 x16_1 x17_1 x87_45 l0_0 l0_1 a1 a2 x512002_1 0 t522 t523 t524 t525 = some (r1, r2, r3, r4, r5, r6)) ∧ Aside0 (kq ≤ kj39) ∧ Aside0 (Kd.S (Kd.slice 5 (Kd.int .u8)) 22 wc w.heap.size (fun k_ => some k_ ≠ (u15 : Value).ownBlock ∧ some k_ ≠ ((.slice Ao34 t525.length co34) : Value).ownBlock) u9 x9_1) ∧ Aside0 (Kd.R (Kd.int .u8) 5 wc w.heap.size (fun k_ => some k_ ≠ ((.slice Ao34 t525.length co34) : Value).ownBlock) u15 x15_1) ∧ Aside0 (Kd.R (Kd.int .u8) 5 wc w.heap.size (fun k_ => some k_ ≠ (u15 : Value).ownBlock) (.slice Ao34 t525.length co34) t525) ∧ Aside0 (wc.heap[gb505]? = some (.cells #[(.slice A0_0 l0_0.length c0_0), (.slice A0_1 l0_1.length c0_1)] 31 (0, 0))) ∧ Aside0 (wc.heap[gb506]? = some (.cells #[.int .i64 0, .int .i64 0, .int .i64 0, .int .i64 0] 32 (0, 0))) ∧ Aside0 (wc.heap[gb511]? = some (.cells #[.int .i64 a1, .int .i64 a2, .int .i64 x512002_1, .int .i64 0] 32 (0, 0))) ∧ Aside0 (wc.heap[gb529]? = some (.cells #[.int .i64 t522, .int .i64 t523, .bool t524, (.slice Ao34 t525.length co34)] 79 (0, 0))) ∧ Aside0 (Below w.heap.size w wc))
         case first =>
          have H := HC46.out
          clear HC46
          by_cases c47 : x12_1 = true
          ·subst c47
           rw [if_pos rfl] at H
           by_cases c48 : t528 = true
           ·subst c48
            rw [if_pos rfl] at H
            by_cases c49 : t523 = x16_1
            ·rw [if_pos c49] at H
             have c49b0 : (t523 == x16_1) = true := beq_iff_eq.mpr c49
             have c49b1 : (t523 != x16_1) = false := bne_eq_false_iff_eq.mpr c49
             clear c49
             (first | rw [c49b0] | (simp only [i64_w, i32_w]; rw [c49b0]) | skip)
             by_cases c50 : t522 < x13_1
             ·rw [if_pos c50] at H
              have c50b0 := decide_eq_true c50
              clear c50
              have H' := Ak H
              clear H
              have hnb51 := NB529_505.out
              have hnc51 := NB505_529.out
              have hnb52 := NB529_506.out
              have hnc52 := NB506_529.out
              have hnb53 := NB529_511.out
              have hnc53 := NB511_529.out
              have hcz54_0 : wc.cell? ⟨gb529, 0, none⟩ = some (.int .i64 t522) := zk0 BK529.out
              have hcz54_1 : wc.cell? ⟨gb529, 1, none⟩ = some (.int .i64 t523) := zk1 BK529.out
              have hcz54_2 : wc.cell? ⟨gb529, 2, none⟩ = some (.bool t524) := zk2 BK529.out
              have hcz54_3 : wc.cell? ⟨gb529, 3, none⟩ = some (.slice Ao34 t525.length co34) := zk3 BK529.out
              have hfz54_0 := blk_frozen BK529.out 0
              have hfz54_1 := blk_frozen BK529.out 1
              have hfz54_2 := blk_frozen BK529.out 2
              have hfz54_3 := blk_frozen BK529.out 3
              go_wp2
              go_meet
              case rel => exact ⟨_, (true), (by first | rfl | (simp; done) | (simp [*]; done)), H', ⟨by have := HK1.out; have := HJ21.out; have := HJ39.out; first | omega | exact Nat.le_refl _⟩, ⟨sq HO_9.out⟩, ⟨rq HO_15.out⟩, ⟨rq HO_530003.out⟩, ⟨bq BK505.out⟩, ⟨bq BK506.out⟩, ⟨bq BK511.out⟩, ⟨bq BK529.out⟩, ⟨bw4 HB.out GE505.out GE506.out GE511.out GE529.out⟩⟩
             ·rw [if_neg c50] at H
              have c50b0 := decide_eq_false c50
              clear c50
              by_cases c55 : x14_1 > 0
              ·rw [if_pos c55] at H
               have c55b0 : decide (0 < x14_1) = true := decide_eq_true c55
               clear c55
               have H' := Ak H
               clear H
               have hnb56 := NB529_505.out
               have hnc56 := NB505_529.out
               have hnb57 := NB529_506.out
               have hnc57 := NB506_529.out
               have hnb58 := NB529_511.out
               have hnc58 := NB511_529.out
               have hcz59_0 : wc.cell? ⟨gb529, 0, none⟩ = some (.int .i64 t522) := zk0 BK529.out
               have hcz59_1 : wc.cell? ⟨gb529, 1, none⟩ = some (.int .i64 t523) := zk1 BK529.out
               have hcz59_2 : wc.cell? ⟨gb529, 2, none⟩ = some (.bool t524) := zk2 BK529.out
               have hcz59_3 : wc.cell? ⟨gb529, 3, none⟩ = some (.slice Ao34 t525.length co34) := zk3 BK529.out
               have hfz59_0 := blk_frozen BK529.out 0
               have hfz59_1 := blk_frozen BK529.out 1
               have hfz59_2 := blk_frozen BK529.out 2
               have hfz59_3 := blk_frozen BK529.out 3
               go_wp2
               go_meet
               case rel => exact ⟨_, ((t522 != x14_1)), (by first | rfl | (simp; done) | (simp [*]; done)), H', ⟨by have := HK1.out; have := HJ21.out; have := HJ39.out; first | omega | exact Nat.le_refl _⟩, ⟨sq HO_9.out⟩, ⟨rq HO_15.out⟩, ⟨rq HO_530003.out⟩, ⟨bq BK505.out⟩, ⟨bq BK506.out⟩, ⟨bq BK511.out⟩, ⟨bq BK529.out⟩, ⟨bw4 HB.out GE505.out GE506.out GE511.out GE529.out⟩⟩
              ·rw [if_neg c55] at H
               have c55b0 : decide (0 < x14_1) = false := decide_eq_false c55
               clear c55
               have H' := Ak H
               clear H
               have hnb60 := NB529_505.out
               have hnc60 := NB505_529.out
               have hnb61 := NB529_506.out
               have hnc61 := NB506_529.out
               have hnb62 := NB529_511.out
               have hnc62 := NB511_529.out
               have hcz63_0 : wc.cell? ⟨gb529, 0, none⟩ = some (.int .i64 t522) := zk0 BK529.out
               have hcz63_1 : wc.cell? ⟨gb529, 1, none⟩ = some (.int .i64 t523) := zk1 BK529.out
               have hcz63_2 : wc.cell? ⟨gb529, 2, none⟩ = some (.bool t524) := zk2 BK529.out
               have hcz63_3 : wc.cell? ⟨gb529, 3, none⟩ = some (.slice Ao34 t525.length co34) := zk3 BK529.out
               have hfz63_0 := blk_frozen BK529.out 0
               have hfz63_1 := blk_frozen BK529.out 1
               have hfz63_2 := blk_frozen BK529.out 2
               have hfz63_3 := blk_frozen BK529.out 3
               go_wp2
               go_meet
               case rel => exact ⟨_, (false), (by first | rfl | (simp; done) | (simp [*]; done)), H', ⟨by have := HK1.out; have := HJ21.out; have := HJ39.out; first | omega | exact Nat.le_refl _⟩, ⟨sq HO_9.out⟩, ⟨rq HO_15.out⟩, ⟨rq HO_530003.out⟩, ⟨bq BK505.out⟩, ⟨bq BK506.out⟩, ⟨bq BK511.out⟩, ⟨bq BK529.out⟩, ⟨bw4 HB.out GE505.out GE506.out GE511.out GE529.out⟩⟩
            ·rw [if_neg c49] at H
             have c49b0 : (t523 == x16_1) = false := beq_eq_false_iff_ne.mpr c49
             have c49b1 : (t523 != x16_1) = true := bne_iff_ne.mpr c49
             (first | rw [c49b0] | (simp only [i64_w, i32_w]; rw [c49b0]) | skip)
             have H' := Ak H
             clear H
             have hnb64 := NB529_505.out
             have hnc64 := NB505_529.out
             have hnb65 := NB529_506.out
             have hnc65 := NB506_529.out
             have hnb66 := NB529_511.out
             have hnc66 := NB511_529.out
             have hcz67_0 : wc.cell? ⟨gb529, 0, none⟩ = some (.int .i64 t522) := zk0 BK529.out
             have hcz67_1 : wc.cell? ⟨gb529, 1, none⟩ = some (.int .i64 t523) := zk1 BK529.out
             have hcz67_2 : wc.cell? ⟨gb529, 2, none⟩ = some (.bool t524) := zk2 BK529.out
             have hcz67_3 : wc.cell? ⟨gb529, 3, none⟩ = some (.slice Ao34 t525.length co34) := zk3 BK529.out
             have hfz67_0 := blk_frozen BK529.out 0
             have hfz67_1 := blk_frozen BK529.out 1
             have hfz67_2 := blk_frozen BK529.out 2
             have hfz67_3 := blk_frozen BK529.out 3
             go_wp2
             go_meet
             case rel => exact ⟨_, (true), (by first | rfl | (simp; done) | (simp [*]; done)), H', ⟨by have := HK1.out; have := HJ21.out; have := HJ39.out; first | omega | exact Nat.le_refl _⟩, ⟨sq HO_9.out⟩, ⟨rq HO_15.out⟩, ⟨rq HO_530003.out⟩, ⟨bq BK505.out⟩, ⟨bq BK506.out⟩, ⟨bq BK511.out⟩, ⟨bq BK529.out⟩, ⟨bw4 HB.out GE505.out GE506.out GE511.out GE529.out⟩⟩
           ·replace c48 := Bool.eq_false_iff.mpr c48
            subst c48
            rw [if_neg (show ¬ (false = true) by decide)] at H
            have H' := Ak H
            clear H
            go_wp2
            go_meet
            case rel => exact ⟨_, (true), (by first | rfl | (simp; done) | (simp [*]; done)), H', ⟨by have := HK1.out; have := HJ21.out; have := HJ39.out; first | omega | exact Nat.le_refl _⟩, ⟨sq HO_9.out⟩, ⟨rq HO_15.out⟩, ⟨rq HO_530003.out⟩, ⟨bq BK505.out⟩, ⟨bq BK506.out⟩, ⟨bq BK511.out⟩, ⟨bq BK529.out⟩, ⟨bw4 HB.out GE505.out GE506.out GE511.out GE529.out⟩⟩
          ·replace c47 := Bool.eq_false_iff.mpr c47
           subst c47
           rw [if_neg (show ¬ (false = true) by decide)] at H
           have H' := Ak H
           clear H
           go_wp2
           go_meet
           case rel => exact ⟨_, (true), (by first | rfl | (simp; done) | (simp [*]; done)), H', ⟨by have := HK1.out; have := HJ21.out; have := HJ39.out; first | omega | exact Nat.le_refl _⟩, ⟨sq HO_9.out⟩, ⟨rq HO_15.out⟩, ⟨rq HO_530003.out⟩, ⟨bq BK505.out⟩, ⟨bq BK506.out⟩, ⟨bq BK511.out⟩, ⟨bq BK529.out⟩, ⟨bw4 HB.out GE505.out GE506.out GE511.out GE529.out⟩⟩
         case rest =>
          clear HC46
          try clear c19b0
          try clear c49b0
          try clear c49b1
          try clear c50b0
          try clear c55b0
          obtain ⟨kq, x87_45, rfl, HA, HJ45, HO_9, HO_15, HO_530003, BK505, BK506, BK511, BK529, HB⟩ := hcut
          cases kq with
          | zero => exact absurd HA.out (by simp [spec_LogOpen.j3])
          | succ kj45 =>
           have H := HA.out
           clear HA
           simp only [spec_LogOpen.j3] at H
           by_cases c68 : x87_45 = true
           ·subst c68
            rw [if_pos rfl] at H
            have H' := Ak H
            clear H
            go_wp2
            go_roundg kj45
            case measure => have := HK1.out; have := HJ21.out; have := HJ39.out; have := HJ45.out; omega
            case rel => exact ⟨(x9_1), (x11_39), (false), (x13_1), (x14_1), (x15_1), (x16_1), (wrap64 (x17_1 + 1)), (x512002_1), (by first | rfl | (simp; done) | (simp [*]; done)), (by first | rfl | (simp; done) | (simp [*]; done)), (by first | rfl | (simp; done) | (simp [*]; done)), (by first | rfl | (simp; done) | (simp [*]; done)), (by first | rfl | (simp; done) | (simp [*]; done)), (by first | rfl | (simp; done) | (simp [*]; done)), H', ⟨by have := HK1.out; have := HJ21.out; have := HJ39.out; have := HJ45.out; omega⟩, ⟨by refine sq ?_; exact Kd.S_mono HO_9.out (fun _ hk => hk.1)⟩, ⟨by refine rq ?_; exact Kd.R_mono HO_15.out (fun _ hk => trivial)⟩, ⟨bq BK505.out⟩, ⟨bq BK506.out⟩, ⟨bq BK511.out⟩, ⟨bw4 HB.out GE505.out GE506.out GE511.out GE529.out⟩⟩
           ·replace c68 := Bool.eq_false_iff.mpr c68
            subst c68
            rw [if_neg (show ¬ (false = true) by decide)] at H
            by_cases c69 : x15_1.length + t525.length < 140737488355328
            ·rw [if_pos c69] at H
             have LMc69 := Ak c69
             clear c69
             generalize hy530 : (x15_1 ++ t525 : List Int) = y530 at H
             try rw [Option.bind_some] at H
             have Ny530 := Ak hy530.symm
             clear hy530
             by_cases c70 : t524 = true
             ·subst c70
              rw [if_pos rfl] at H
              have H' := Ak H
              clear H
              have hnb71 := NB529_505.out
              have hnc71 := NB505_529.out
              have hnb72 := NB529_506.out
              have hnc72 := NB506_529.out
              have hnb73 := NB529_511.out
              have hnc73 := NB511_529.out
              have hcz74_0 : wc.cell? ⟨gb529, 0, none⟩ = some (.int .i64 t522) := zk0 BK529.out
              have hcz74_1 : wc.cell? ⟨gb529, 1, none⟩ = some (.int .i64 t523) := zk1 BK529.out
              have hcz74_2 : wc.cell? ⟨gb529, 2, none⟩ = some (.bool true) := zk2 BK529.out
              have hcz74_3 : wc.cell? ⟨gb529, 3, none⟩ = some (.slice Ao34 t525.length co34) := zk3 BK529.out
              have hfz74_0 := blk_frozen BK529.out 0
              have hfz74_1 := blk_frozen BK529.out 1
              have hfz74_2 := blk_frozen BK529.out 2
              have hfz74_3 := blk_frozen BK529.out 3
              go_wp2_with (first | ((with_reducible refine gate_builtin (b := .append) (xs := #[.tmp 94, .tmp 96]) rfl ?_); at_builtin; refine Kd.R_append_rows (Kd.int .u8) (w0 := w) w.heap.size rfl (.tmp 94) (.tmp 96) 22 5 (.int .u8 0) 1 rfl Try.underlying22 info5 rfl (by decide) (by omega) u15 x15_1 t525 _ _ _ (fun k_ => Nb k_ (.slice Ao34 t525.length co34)) (fun _ => False) rfl rfl ?aO ?aR (fun _ _ h => h) (fun _ h => h.elim) ?aF ?aB ?aS ?aL ?_; (case aR => repeat (first | exact (Kd.R_reads' HO_530003.out).2.2 | (with_reducible refine Kd.C_alloc ?_ _) | (with_reducible refine Kd.C_drewN ?_ _) | (with_reducible refine Kd.C_drew ?_))); (case aB => exact (bw4 HB.out GE505.out GE506.out GE511.out GE529.out)); (case aF => exact (fun k_ hk => Kd.fresh' (Kd.R_lt (rq HO_530003.out)) k_ hk)); (case aO => exact (rq HO_15.out)); (case aS => exact (below_size (bw4 HB.out GE505.out GE506.out GE511.out GE529.out))); (case aL => have := LMc69.out; omega); intro v531 w75 ho hb hg hat; rw [← Ny530.out] at ho; replace HO_9 := Ak (Kd.S_after (ok := (fun k_ => Nb k_ (.slice Ao34 t525.length co34))) (by (with_reducible repeat (first | apply Kd.S_alloc | apply Kd.S_drewN | apply Kd.S_drew)); exact Kd.S_mono HO_9.out (fun _ hk => ⟨hk.2, hk.1⟩)) hg hat); replace HO_530003 := Ak (Kd.R_after (ok := (fun _ => True)) (by (with_reducible repeat (first | apply Kd.R_alloc | apply Kd.R_drewN | apply Kd.R_drew)); exact Kd.R_mono HO_530003.out (fun _ hk => ⟨trivial, hk⟩)) hg hat); replace BK505 := Ak (blk_grown (g := gb505) (o := .cells #[.slice A0_0 l0_0.length c0_0, .slice A0_1 l0_1.length c0_1] 31 (0, 0)) (bq BK505.out) hg (Kd.R_ne HO_15.out BK505.out (by decide))); replace BK506 := Ak (blk_grown (g := gb506) (o := .cells #[.int .i64 0, .int .i64 0, .int .i64 0, .int .i64 0] 32 (0, 0)) (bq BK506.out) hg (Kd.R_ne HO_15.out BK506.out (by decide))); replace BK511 := Ak (blk_grown (g := gb511) (o := .cells #[.int .i64 a1, .int .i64 a2, .int .i64 x512002_1, .int .i64 0] 32 (0, 0)) (bq BK511.out) hg (Kd.R_ne HO_15.out BK511.out (by decide))); replace BK529 := Ak (blk_grown (g := gb529) (o := .cells #[.int .i64 t522, .int .i64 t523, .bool true, .slice Ao34 t525.length co34] 79 (0, 0)) (bq BK529.out) hg (Kd.R_ne HO_15.out BK529.out (by decide))); replace HB := Ak (hb); have HO532 := Ak (ho); clear HO_15; clear ho hb hg hat; have hcz76_0 := zk0 BK529.out; have hcz76_1 := zk1 BK529.out; have hcz76_2 := zk2 BK529.out; have hcz76_3 := zk3 BK529.out; have hfz76_0 := blk_frozen BK529.out 0; have hfz76_1 := blk_frozen BK529.out 1; have hfz76_2 := blk_frozen BK529.out 2; have hfz76_3 := blk_frozen BK529.out 3))
              go_roundg kj45
              case measure => have := HK1.out; have := HJ21.out; have := HJ39.out; have := HJ45.out; omega
              case rel => exact ⟨(x9_1), (x11_39), (x12_1), (t522), (t522), (y530), (wrap64 (x16_1 + 1)), (wrap64 (x17_1 + 1)), (x512002_1), (by first | rfl | (simp; done) | (simp [*]; done)), (by first | rfl | (simp; done) | (simp [*]; done)), (by first | rfl | (simp; done) | (simp [*]; done)), (by first | rfl | (simp; done) | (simp [*]; done)), (by first | rfl | (simp; done) | (simp [*]; done)), (by first | rfl | (simp; done) | (simp [*]; done)), H', ⟨by have := HK1.out; have := HJ21.out; have := HJ39.out; have := HJ45.out; omega⟩, ⟨by refine sq ?_; exact Kd.S_mono HO_9.out (fun _ hk => hk.2)⟩, ⟨by refine rq ?_; exact Kd.R_mono HO532.out (fun _ hk => trivial)⟩, ⟨bq BK505.out⟩, ⟨bq BK506.out⟩, ⟨bq BK511.out⟩, ⟨bw4 HB.out GE505.out GE506.out GE511.out GE529.out⟩⟩
             ·replace c70 := Bool.eq_false_iff.mpr c70
              subst c70
              rw [if_neg (show ¬ (false = true) by decide)] at H
              obtain ⟨y533, hy533⟩ : ∃ y_ : List Int, y_ = (([] : List Int)) := ⟨_, rfl⟩
              replace H : (if y533.length + y530.length < 140737488355328 then (if x9_1.length < 5864062014805 then (spec_LogOpen.l0 kj45 a2 (x9_1 ++ [(y533 ++ y530)]) x11_39 x12_1 t522 0 (([] : List Int)) (wrap64 (x16_1 + 1)) (wrap64 (x17_1 + 1)) l0_0 l0_1 a1 a2 (wrap64 (x16_1 + 1)) 0) else (none)) else (none)) = some (r1, r2, r3, r4, r5, r6) := by first | (rw [hy533]; with_reducible exact H) | (have H2_ := (Option.bind_some _ _).symm.trans H; rw [hy533]; with_reducible exact H2_) | (have H2_ := (Option.bind_some _ _).symm.trans H; with_reducible exact H2_) | with_reducible exact H | (rw [hy533]; exact H) | exact H
              have Ny533 := Ak hy533
              clear hy533
              by_cases c77 : y533.length + y530.length < 140737488355328
              ·rw [if_pos c77] at H
               have LMc77 := Ak c77
               clear c77
               generalize hy536 : (y533 ++ y530 : List Int) = y536 at H
               try rw [Option.bind_some] at H
               have Ny536 := Ak hy536.symm
               clear hy536
               by_cases c78 : x9_1.length < 5864062014805
               ·rw [if_pos c78] at H
                have LMc78 := Ak c78
                clear c78
                generalize hy539 : (x9_1 ++ [y536] : List (List Int)) = y539 at H
                try rw [Option.bind_some] at H
                have Ny539 := Ak hy539.symm
                clear hy539
                obtain ⟨y542, hy542⟩ : ∃ y_ : List Int, y_ = (([] : List Int)) := ⟨_, rfl⟩
                replace H : (spec_LogOpen.l0 kj45 a2 y539 x11_39 x12_1 t522 0 y542 (wrap64 (x16_1 + 1)) (wrap64 (x17_1 + 1)) l0_0 l0_1 a1 a2 (wrap64 (x16_1 + 1)) 0) = some (r1, r2, r3, r4, r5, r6) := by first | (rw [hy542]; with_reducible exact H) | (have H2_ := (Option.bind_some _ _).symm.trans H; rw [hy542]; with_reducible exact H2_) | (have H2_ := (Option.bind_some _ _).symm.trans H; with_reducible exact H2_) | with_reducible exact H | (rw [hy542]; exact H) | exact H
                have Ny542 := Ak hy542
                clear hy542
                have H' := Ak H
                clear H
                have hnb79 := NB529_505.out
                have hnc79 := NB505_529.out
                have hnb80 := NB529_506.out
                have hnc80 := NB506_529.out
                have hnb81 := NB529_511.out
                have hnc81 := NB511_529.out
                have hcz82_0 : wc.cell? ⟨gb529, 0, none⟩ = some (.int .i64 t522) := zk0 BK529.out
                have hcz82_1 : wc.cell? ⟨gb529, 1, none⟩ = some (.int .i64 t523) := zk1 BK529.out
                have hcz82_2 : wc.cell? ⟨gb529, 2, none⟩ = some (.bool false) := zk2 BK529.out
                have hcz82_3 : wc.cell? ⟨gb529, 3, none⟩ = some (.slice Ao34 t525.length co34) := zk3 BK529.out
                have hfz82_0 := blk_frozen BK529.out 0
                have hfz82_1 := blk_frozen BK529.out 1
                have hfz82_2 := blk_frozen BK529.out 2
                have hfz82_3 := blk_frozen BK529.out 3
                go_wp2_with (first | ((with_reducible refine gate_builtin (b := .append) (xs := #[.tmp 94, .tmp 96]) rfl ?_); at_builtin; refine Kd.R_append_rows (Kd.int .u8) (w0 := w) w.heap.size rfl (.tmp 94) (.tmp 96) 22 5 (.int .u8 0) 1 rfl Try.underlying22 info5 rfl (by decide) (by omega) u15 x15_1 t525 _ _ _ (fun k_ => Nb k_ (.slice Ao34 t525.length co34)) (fun _ => False) rfl rfl ?aO ?aR (fun _ _ h => h) (fun _ h => h.elim) ?aF ?aB ?aS ?aL ?_; (case aR => repeat (first | exact (Kd.R_reads' HO_530003.out).2.2 | (with_reducible refine Kd.C_alloc ?_ _) | (with_reducible refine Kd.C_drewN ?_ _) | (with_reducible refine Kd.C_drew ?_))); (case aB => exact (bw4 HB.out GE505.out GE506.out GE511.out GE529.out)); (case aF => exact (fun k_ hk => Kd.fresh' (Kd.R_lt (rq HO_530003.out)) k_ hk)); (case aO => exact (rq HO_15.out)); (case aS => exact (below_size (bw4 HB.out GE505.out GE506.out GE511.out GE529.out))); (case aL => have := LMc69.out; omega); intro v531 w83 ho hb hg hat; rw [← Ny530.out] at ho; replace HO_9 := Ak (Kd.S_after (ok := (fun k_ => Nb k_ (.slice Ao34 t525.length co34))) (by (with_reducible repeat (first | apply Kd.S_alloc | apply Kd.S_drewN | apply Kd.S_drew)); exact Kd.S_mono HO_9.out (fun _ hk => ⟨hk.2, hk.1⟩)) hg hat); replace HO_530003 := Ak (Kd.R_after (ok := (fun _ => True)) (by (with_reducible repeat (first | apply Kd.R_alloc | apply Kd.R_drewN | apply Kd.R_drew)); exact Kd.R_mono HO_530003.out (fun _ hk => ⟨trivial, hk⟩)) hg hat); replace BK505 := Ak (blk_grown (g := gb505) (o := .cells #[.slice A0_0 l0_0.length c0_0, .slice A0_1 l0_1.length c0_1] 31 (0, 0)) (bq BK505.out) hg (Kd.R_ne HO_15.out BK505.out (by decide))); replace BK506 := Ak (blk_grown (g := gb506) (o := .cells #[.int .i64 0, .int .i64 0, .int .i64 0, .int .i64 0] 32 (0, 0)) (bq BK506.out) hg (Kd.R_ne HO_15.out BK506.out (by decide))); replace BK511 := Ak (blk_grown (g := gb511) (o := .cells #[.int .i64 a1, .int .i64 a2, .int .i64 x512002_1, .int .i64 0] 32 (0, 0)) (bq BK511.out) hg (Kd.R_ne HO_15.out BK511.out (by decide))); replace BK529 := Ak (blk_grown (g := gb529) (o := .cells #[.int .i64 t522, .int .i64 t523, .bool false, .slice Ao34 t525.length co34] 79 (0, 0)) (bq BK529.out) hg (Kd.R_ne HO_15.out BK529.out (by decide))); replace HB := Ak (hb); have HO532 := Ak (ho); clear HO_15; clear ho hb hg hat; have hcz84_0 := zk0 BK529.out; have hcz84_1 := zk1 BK529.out; have hcz84_2 := zk2 BK529.out; have hcz84_3 := zk3 BK529.out; have hfz84_0 := blk_frozen BK529.out 0; have hfz84_1 := blk_frozen BK529.out 1; have hfz84_2 := blk_frozen BK529.out 2; have hfz84_3 := blk_frozen BK529.out 3) | ((with_reducible refine gate_dst (N := 102) rfl ?_); refine Kd.R_lit (Kd.int .u8) _ 5 ?hg (N := 102) ?hd (xs := ([] : List Int)) (inner := []) (ok := fun _ => True) (okp := fun _ => True) ?hr ?hp (fun _ hk => hk) trivial (Below.refl _ _) (Nat.le_refl _) (by simp) ?_; (case hd => rfl); (case hg => rfl); (case hr => first | (go_simp; done) | (go_simp; rfl)); (case hp => exact (Reps.none _ _)); intro v534 w85 ho86 hb hg_ hnew_; clear hg_ hnew_; (first | rw [← Ny533.out] at ho86 | (simp only [Int.reduceToNat] at ho86; rw [← Ny533.out] at ho86)); replace HO_9 := Ak (Kd.S_elder' (sq HO_9.out) (Kd.R_base ho86) hb); have HO535 := Ak (Kd.R_lower (Kd.R_new' (Kd.R_new' ho86 (Kd.R_lt (rq HO_530003.out))) (Kd.R_lt (rq HO532.out))) (below_size (bw4 HB.out GE505.out GE506.out GE511.out GE529.out))); replace HO_530003 := Ak (Kd.R_elder' (rq HO_530003.out) (Kd.R_base ho86) hb); replace HO532 := Ak (Kd.R_elder' (rq HO532.out) (Kd.R_base ho86) hb); replace BK505 := Ak (blk_below (bq BK505.out) hb); replace BK506 := Ak (blk_below (bq BK506.out) hb); replace BK511 := Ak (blk_below (bq BK511.out) hb); replace BK529 := Ak (blk_below (bq BK529.out) hb); replace HB := Ak (below_step (bw4 HB.out GE505.out GE506.out GE511.out GE529.out) hb); clear hb ho86; obtain ⟨Ao88, co88, eo88⟩ := Kd.R_slice HO532.out; subst eo88) | ((with_reducible refine gate_builtin (b := .append) (xs := #[.tmp 102, .tmp 103]) rfl ?_); at_builtin; refine Kd.R_append_rows (Kd.int .u8) (w0 := w) w.heap.size rfl (.tmp 102) (.tmp 103) 22 5 (.int .u8 0) 1 rfl Try.underlying22 info5 rfl (by decide) (by omega) v534 y533 y530 _ _ _ (fun k_ => Nb k_ (.slice Ao34 t525.length co34) ∧ Nb k_ (.slice Ao88 y530.length co88)) (fun _ => False) rfl rfl ?aO ?aR (fun _ _ h => h) (fun _ h => h.elim) ?aF ?aB ?aS ?aL ?_; (case aR => repeat (first | exact (Kd.R_reads' HO532.out).2.2 | (with_reducible refine Kd.C_alloc ?_ _) | (with_reducible refine Kd.C_drewN ?_ _) | (with_reducible refine Kd.C_drew ?_))); (case aB => exact (bw4 HB.out GE505.out GE506.out GE511.out GE529.out)); (case aF => exact (fun k_ hk => ⟨Kd.fresh' (Kd.R_lt (rq HO_530003.out)) k_ hk, Kd.fresh' (Kd.R_lt (rq HO532.out)) k_ hk⟩)); (case aO => exact (by refine rq ?_; exact Kd.R_mono HO535.out (fun _ hk => ⟨hk.1.2, hk.2⟩))); (case aS => exact (below_size (bw4 HB.out GE505.out GE506.out GE511.out GE529.out))); (case aL => have := LMc77.out; omega); intro v537 w87 ho hb hg hat; rw [← Ny536.out] at ho; replace HO_9 := Ak (Kd.S_after (ok := (fun k_ => Nb k_ (.slice Ao34 t525.length co34) ∧ Nb k_ (.slice Ao88 y530.length co88))) (sq HO_9.out) hg hat); replace HO_530003 := Ak (Kd.R_after (ok := (fun k_ => Nb k_ (.slice Ao88 y530.length co88))) (by (with_reducible repeat (first | apply Kd.R_alloc | apply Kd.R_drewN | apply Kd.R_drew)); exact Kd.R_mono HO_530003.out (fun _ hk => ⟨hk.1.2, hk.2⟩)) hg hat); replace BK505 := Ak (blk_grown (g := gb505) (o := .cells #[.slice A0_0 l0_0.length c0_0, .slice A0_1 l0_1.length c0_1] 31 (0, 0)) (bq BK505.out) hg (Kd.R_ne HO535.out BK505.out (by decide))); replace BK506 := Ak (blk_grown (g := gb506) (o := .cells #[.int .i64 0, .int .i64 0, .int .i64 0, .int .i64 0] 32 (0, 0)) (bq BK506.out) hg (Kd.R_ne HO535.out BK506.out (by decide))); replace BK511 := Ak (blk_grown (g := gb511) (o := .cells #[.int .i64 a1, .int .i64 a2, .int .i64 x512002_1, .int .i64 0] 32 (0, 0)) (bq BK511.out) hg (Kd.R_ne HO535.out BK511.out (by decide))); replace BK529 := Ak (blk_grown (g := gb529) (o := .cells #[.int .i64 t522, .int .i64 t523, .bool false, .slice Ao34 t525.length co34] 79 (0, 0)) (bq BK529.out) hg (Kd.R_ne HO535.out BK529.out (by decide))); replace HO532 := Ak (Kd.R_after (ok := (fun k_ => Nb k_ (.slice Ao34 t525.length co34))) (rq HO532.out) hg hat); replace HB := Ak (hb); have HO538 := Ak (ho); clear HO535; clear ho hb hg hat; obtain ⟨Ao90, co90, eo90⟩ := Kd.R_slice HO538.out; subst eo90) | ((with_reducible refine gate_builtin (b := .append) (xs := #[.tmp 101, .tmp 105]) rfl ?_); at_builtin; refine Kd.S_append (Kd.slice 5 (Kd.int .u8)) (w0 := w) w.heap.size rfl (.tmp 101) (.tmp 105) 44 22 (.slice none 0 0) 24 rfl Try.underlying44 info22 rfl (by decide) (by omega) u9 x9_1 y536 [.slice Ao90 y536.length co90] (fun k_ => Nb k_ (.slice Ao34 t525.length co34) ∧ Nb k_ (.slice Ao88 y530.length co88)) (fun k_ => some k_ = (.slice Ao90 y536.length co90 : Value).ownBlock) rfl rfl ?aP (fun k_ hk_ => ((Kd.R_mono (ok' := fun k_ => ((fun k_ => Nb k_ (.slice Ao34 t525.length co34) ∧ Nb k_ (.slice Ao88 y530.length co88))) k_ ∧ some k_ ≠ (u9 : Value).ownBlock) (Kd.R_apart' (HO538.out) (Kd.S_typed HO_9.out) (by decide)) (fun k_ hk => ⟨⟨hk.1.1, hk.1.2⟩, hk.2⟩))).1 k_ hk_.symm) ?aF ?aO ?aB ?aS ?aL ?_; (case aP => exact Kd.M_row (Kd.R_mono (Kd.R_tight rfl (Kd.R_mono (ok' := fun k_ => ((fun k_ => Nb k_ (.slice Ao34 t525.length co34) ∧ Nb k_ (.slice Ao88 y530.length co88))) k_ ∧ some k_ ≠ (u9 : Value).ownBlock) (Kd.R_apart' (HO538.out) (Kd.S_typed HO_9.out) (by decide)) (fun k_ hk => ⟨⟨hk.1.1, hk.1.2⟩, hk.2⟩))) (fun _ h_ => h_))); (case aB => exact (bw4 HB.out GE505.out GE506.out GE511.out GE529.out)); (case aF => exact (fun k_ hk => ⟨Kd.fresh' (Kd.R_lt (rq HO_530003.out)) k_ hk, Kd.fresh' (Kd.R_lt (rq HO532.out)) k_ hk⟩)); (case aO => exact (by refine sq ?_; exact Kd.S_mono HO_9.out (fun k_ hk => ⟨⟨hk.1.1, hk.1.2⟩, fun e_ => hk.2 e_⟩))); (case aS => exact (below_size (bw4 HB.out GE505.out GE506.out GE511.out GE529.out))); (case aL => have := LMc78.out; omega); intro v540 w89 ho hb hg hat; rw [← Ny539.out] at ho; replace HO_530003 := Ak (Kd.R_over' (rq HO_530003.out) (Kd.S_typed (sq HO_9.out)) (by decide) hg); replace BK505 := Ak (blk_grown (g := gb505) (o := .cells #[.slice A0_0 l0_0.length c0_0, .slice A0_1 l0_1.length c0_1] 31 (0, 0)) (bq BK505.out) hg (Kd.S_ne HO_9.out BK505.out (by decide))); replace BK506 := Ak (blk_grown (g := gb506) (o := .cells #[.int .i64 0, .int .i64 0, .int .i64 0, .int .i64 0] 32 (0, 0)) (bq BK506.out) hg (Kd.S_ne HO_9.out BK506.out (by decide))); replace BK511 := Ak (blk_grown (g := gb511) (o := .cells #[.int .i64 a1, .int .i64 a2, .int .i64 x512002_1, .int .i64 0] 32 (0, 0)) (bq BK511.out) hg (Kd.S_ne HO_9.out BK511.out (by decide))); replace BK529 := Ak (blk_grown (g := gb529) (o := .cells #[.int .i64 t522, .int .i64 t523, .bool false, .slice Ao34 t525.length co34] 79 (0, 0)) (bq BK529.out) hg (Kd.S_ne HO_9.out BK529.out (by decide))); replace HO532 := Ak (Kd.R_over' (rq HO532.out) (Kd.S_typed (sq HO_9.out)) (by decide) hg); replace HB := Ak (hb); have HO541 := Ak (ho); clear HO_9 HO538; clear ho hb hg hat) | ((with_reducible refine gate_dst (N := 107) rfl ?_); refine Kd.R_lit (Kd.int .u8) _ 5 ?hg (N := 107) ?hd (xs := ([] : List Int)) (inner := []) (ok := fun _ => True) (okp := fun _ => True) ?hr ?hp (fun _ hk => hk) trivial (Below.refl _ _) (Nat.le_refl _) (by simp) ?_; (case hd => rfl); (case hg => rfl); (case hr => first | (go_simp; done) | (go_simp; rfl)); (case hp => exact (Reps.none _ _)); intro v543 w91 ho92 hb hg_ hnew_; clear hg_ hnew_; (first | rw [← Ny542.out] at ho92 | (simp only [Int.reduceToNat] at ho92; rw [← Ny542.out] at ho92)); replace HO541 := Ak (Kd.S_elder' (sq HO541.out) (Kd.R_base ho92) hb); have HO544 := Ak (Kd.R_lower (Kd.R_new' (Kd.R_new' ho92 (Kd.R_lt (rq HO_530003.out))) (Kd.R_lt (rq HO532.out))) (below_size (bw4 HB.out GE505.out GE506.out GE511.out GE529.out))); replace HO_530003 := Ak (Kd.R_elder' (rq HO_530003.out) (Kd.R_base ho92) hb); replace HO532 := Ak (Kd.R_elder' (rq HO532.out) (Kd.R_base ho92) hb); replace BK505 := Ak (blk_below (bq BK505.out) hb); replace BK506 := Ak (blk_below (bq BK506.out) hb); replace BK511 := Ak (blk_below (bq BK511.out) hb); replace BK529 := Ak (blk_below (bq BK529.out) hb); replace HB := Ak (below_step (bw4 HB.out GE505.out GE506.out GE511.out GE529.out) hb); clear hb ho92; have hnb93 := NB511_505.out; have hnc93 := NB505_511.out; have hnb94 := NB511_506.out; have hnc94 := NB506_511.out; have hcz95_0 := zk0 BK511.out; have hcz95_1 := zk1 BK511.out; have hcz95_2 := zk2 BK511.out; have hcz95_3 := zk3 BK511.out; have hfz95_0 := blk_frozen BK511.out 0; have hfz95_1 := blk_frozen BK511.out 1; have hfz95_2 := blk_frozen BK511.out 2; have hfz95_3 := blk_frozen BK511.out 3))
                go_roundg kj45
                case measure => have := HK1.out; have := HJ21.out; have := HJ39.out; have := HJ45.out; omega
                case rel => exact ⟨(y539), (x11_39), (x12_1), (t522), (0), (y542), (wrap64 (x16_1 + 1)), (wrap64 (x17_1 + 1)), (wrap64 (x16_1 + 1)), (by first | rfl | (simp; done) | (simp [*]; done)), (by first | rfl | (simp; done) | (simp [*]; done)), (by first | rfl | (simp; done) | (simp [*]; done)), (by first | rfl | (simp; done) | (simp [*]; done)), (by first | rfl | (simp; done) | (simp [*]; done)), (by first | rfl | (simp; done) | (simp [*]; done)), H', ⟨by have := HK1.out; have := HJ21.out; have := HJ39.out; have := HJ45.out; omega⟩, ⟨by refine sq ?_; exact Kd.S_mono (Kd.S_far (p := ⟨gb511, 2, none⟩) (Kd.S_types HO541.out BK511.out (by decide)) (fun _ hk => hk.2) (.int .i64 (wrap64 (x16_1 + 1)))) (fun _ hk => hk.1.2)⟩, ⟨by refine rq ?_; exact Kd.R_mono (Kd.R_far (p := ⟨gb511, 2, none⟩) (Kd.R_types HO544.out BK511.out (by decide)) (fun _ hk => hk.2) (.int .i64 (wrap64 (x16_1 + 1)))) (fun _ hk => trivial)⟩, ⟨by refine bq ?_; refine blk_far ?_ NB505_511.out _; exact bq BK505.out⟩, ⟨by refine bq ?_; refine blk_far ?_ NB506_511.out _; exact bq BK506.out⟩, ⟨by refine bq ?_; refine blk_put (cs := #[.int .i64 a1, .int .i64 a2, .int .i64 x512002_1, .int .i64 0]) ?_ 2 _ rfl; exact bq BK511.out⟩, ⟨bw4 HB.out GE505.out GE506.out GE511.out GE529.out⟩⟩
               ·rw [if_neg c78] at H
                exact absurd H (by simp)
              ·rw [if_neg c77] at H
               exact absurd H (by simp)
            ·rw [if_neg c69] at H
             exact absurd H (by simp)
    ·rw [if_neg c19] at H
     have c19b0 := decide_eq_false c19
     clear c19
     by_cases c96 : x11_1 = 1000000
     ·rw [if_pos c96] at H
      have c96b0 : (x11_1 == 1000000) = true := beq_iff_eq.mpr c96
      have c96b1 : (x11_1 != 1000000) = false := bne_eq_false_iff_eq.mpr c96
      clear c96
      obtain ⟨y515, hy515⟩ : ∃ y_ : List (List Int), y_ = (([] : List (List Int))) := ⟨_, rfl⟩
      replace H : (some (0, 0, 0, 0, y515, false)) = some (r1, r2, r3, r4, r5, r6) := by first | (rw [hy515]; with_reducible exact H) | (have H2_ := (Option.bind_some _ _).symm.trans H; rw [hy515]; with_reducible exact H2_) | (have H2_ := (Option.bind_some _ _).symm.trans H; with_reducible exact H2_) | with_reducible exact H | (rw [hy515]; exact H) | exact H
      have Ny515 := Ak hy515
      clear hy515
      simp only [Option.some.injEq, Prod.mk.injEq] at H
      obtain ⟨rfl, rfl, rfl, rfl, rfl, rfl⟩ := H
      go_wp2_with (first | ((with_reducible refine gate_dst (N := 113) rfl ?_); refine Kd.S_lit (Kd.slice 5 (Kd.int .u8)) _ 22 ?hg (N := 113) ?hd (xs := ([] : List (List Int))) (inner := []) (ok := fun _ => True) (okp := fun _ => True) ?hr ?hp (fun _ hk => hk) trivial (Below.refl _ _) (Nat.le_refl _) (by simp) ?_; (case hd => rfl); (case hg => rfl); (case hr => first | (go_simp; done) | (go_simp; rfl)); (case hp => exact (Reps.none _ _)); intro v516 w97 ho98 hb hg_ hnew_; clear hg_ hnew_; (first | rw [← Ny515.out] at ho98 | (simp only [Int.reduceToNat] at ho98; rw [← Ny515.out] at ho98)); have HO517 := Ak (Kd.S_lower (Kd.S_new' (Kd.S_new' ho98 (Kd.S_lt (sq HO_9.out))) (Kd.R_lt (rq HO_15.out))) (below_size (bw3 HB.out GE505.out GE506.out GE511.out))); replace HO_9 := Ak (Kd.S_elder' (sq HO_9.out) (Kd.S_base ho98) hb); replace HO_15 := Ak (Kd.R_below (rq HO_15.out) hb); replace BK505 := Ak (blk_below (bq BK505.out) hb); replace BK506 := Ak (blk_below (bq BK506.out) hb); replace BK511 := Ak (blk_below (bq BK511.out) hb); replace HB := Ak (below_step (bw3 HB.out GE505.out GE506.out GE511.out) hb); clear hb ho98; have hnb99 := NB506_505.out; have hnc99 := NB505_506.out; have hnb100 := NB506_511.out; have hnc100 := NB511_506.out; have hcz101_0 := zk0 BK506.out; have hcz101_1 := zk1 BK506.out; have hcz101_2 := zk2 BK506.out; have hcz101_3 := zk3 BK506.out; have hfz101_0 := blk_frozen BK506.out 0; have hfz101_1 := blk_frozen BK506.out 1; have hfz101_2 := blk_frozen BK506.out 2; have hfz101_3 := blk_frozen BK506.out 3))
      refine bodyPost_ret (results_ctt rfl _ _ gb506 32 #[.int .i64 0, .int .i64 0, .int .i64 0, .int .i64 0] (0, 0) _ rfl (by refine bq ?_; refine blk_put (cs := #[.int .i64 0, .int .i64 0, .int .i64 0, .int .i64 0]) ?_ 3 _ rfl; refine bq ?_; refine blk_put (cs := #[.int .i64 0, .int .i64 0, .int .i64 0, .int .i64 0]) ?_ 2 _ rfl; refine bq ?_; refine blk_put (cs := #[.int .i64 0, .int .i64 0, .int .i64 0, .int .i64 0]) ?_ 1 _ rfl; refine bq ?_; refine blk_put (cs := #[.int .i64 0, .int .i64 0, .int .i64 0, .int .i64 0]) ?_ 0 _ rfl; exact bq BK506.out) Try.underlying32 rfl (by kernel_rfl)) rfl ?_
      exact ⟨_, zw, by refine sq ?_; exact Kd.S_mono (Kd.S_far (p := ⟨gb506, 3, none⟩) (Kd.S_far (p := ⟨gb506, 2, none⟩) (Kd.S_far (p := ⟨gb506, 1, none⟩) (Kd.S_far (p := ⟨gb506, 0, none⟩) (Kd.S_types HO517.out BK506.out (by decide)) (fun _ hk => hk.2) (.int .i64 0)) (fun _ hk => hk.2) (.int .i64 0)) (fun _ hk => hk.2) (.int .i64 0)) (fun _ hk => hk.2) (.int .i64 0)) (fun _ hk => trivial), bw3 HB.out GE505.out GE506.out GE511.out⟩
     ·rw [if_neg c96] at H
      have c96b0 : (x11_1 == 1000000) = false := beq_eq_false_iff_ne.mpr c96
      have c96b1 : (x11_1 != 1000000) = true := bne_iff_ne.mpr c96
      simp only [Option.some.injEq, Prod.mk.injEq] at H
      obtain ⟨rfl, rfl, rfl, rfl, rfl, rfl⟩ := H
      have hnb102 := NB511_505.out
      have hnc102 := NB505_511.out
      have hnb103 := NB511_506.out
      have hnc103 := NB506_511.out
      have hcz104_0 : wr.cell? ⟨gb511, 0, none⟩ = some (.int .i64 a1) := zk0 BK511.out
      have hcz104_1 : wr.cell? ⟨gb511, 1, none⟩ = some (.int .i64 a2) := zk1 BK511.out
      have hcz104_2 : wr.cell? ⟨gb511, 2, none⟩ = some (.int .i64 x512002_1) := zk2 BK511.out
      have hcz104_3 : wr.cell? ⟨gb511, 3, none⟩ = some (.int .i64 0) := zk3 BK511.out
      have hfz104_0 := blk_frozen BK511.out 0
      have hfz104_1 := blk_frozen BK511.out 1
      have hfz104_2 := blk_frozen BK511.out 2
      have hfz104_3 := blk_frozen BK511.out 3
      have hnb105 := NB506_505.out
      have hnc105 := NB505_506.out
      have hcz106_0 : wr.cell? ⟨gb506, 0, none⟩ = some (.int .i64 0) := zk0 BK506.out
      have hcz106_1 : wr.cell? ⟨gb506, 1, none⟩ = some (.int .i64 0) := zk1 BK506.out
      have hcz106_2 : wr.cell? ⟨gb506, 2, none⟩ = some (.int .i64 0) := zk2 BK506.out
      have hcz106_3 : wr.cell? ⟨gb506, 3, none⟩ = some (.int .i64 0) := zk3 BK506.out
      have hfz106_0 := blk_frozen BK506.out 0
      have hfz106_1 := blk_frozen BK506.out 1
      have hfz106_2 := blk_frozen BK506.out 2
      have hfz106_3 := blk_frozen BK506.out 3
      go_wp2
      refine bodyPost_ret (results_ctt rfl _ _ gb506 32 #[.int .i64 a1, .int .i64 a2, .int .i64 x512002_1, .int .i64 (wrap64 (x11_1 + 1))] (0, 0) _ rfl (by refine bq ?_; refine blk_put (cs := #[.int .i64 a1, .int .i64 a2, .int .i64 x512002_1, .int .i64 0]) ?_ 3 _ rfl; refine bq ?_; refine blk_put (cs := #[.int .i64 a1, .int .i64 a2, .int .i64 0, .int .i64 0]) ?_ 2 _ rfl; refine bq ?_; refine blk_put (cs := #[.int .i64 a1, .int .i64 0, .int .i64 0, .int .i64 0]) ?_ 1 _ rfl; refine bq ?_; refine blk_put (cs := #[.int .i64 0, .int .i64 0, .int .i64 0, .int .i64 0]) ?_ 0 _ rfl; refine bq ?_; refine blk_far ?_ NB506_511.out _; exact bq BK506.out) Try.underlying32 rfl (by kernel_rfl)) rfl ?_
      exact ⟨_, zw, by refine sq ?_; exact Kd.S_mono (Kd.S_far (p := ⟨gb506, 3, none⟩) (Kd.S_far (p := ⟨gb506, 2, none⟩) (Kd.S_far (p := ⟨gb506, 1, none⟩) (Kd.S_far (p := ⟨gb506, 0, none⟩) (Kd.S_far (p := ⟨gb511, 3, none⟩) (Kd.S_types (Kd.S_types HO_9.out BK511.out (by decide)) BK506.out (by decide)) (fun _ hk => hk.1.2) (.int .i64 (wrap64 (x11_1 + 1)))) (fun _ hk => hk.2) (.int .i64 a1)) (fun _ hk => hk.2) (.int .i64 a2)) (fun _ hk => hk.2) (.int .i64 x512002_1)) (fun _ hk => hk.2) (.int .i64 (wrap64 (x11_1 + 1)))) (fun _ hk => trivial), bw3 HB.out GE505.out GE506.out GE511.out⟩
 ·replace c5 := Bool.eq_false_iff.mpr c5
  subst c5
  rw [if_neg (show ¬ (false = true) by decide)] at H
  simp only [Option.some.injEq, Prod.mk.injEq] at H
  obtain ⟨rfl, rfl, rfl, rfl, rfl, rfl⟩ := H
  go_enter Try.func20, Try.ntmps20
  go_wp2_with (first | ((with_reducible refine gate_dst (N := 3) rfl ?_); refine box_event ?hg (N := 3) ?hd (cs := #[.slice A0_0 l0_0.length c0_0, .slice A0_1 l0_1.length c0_1]) (t := 31) ?hr ?_; (case hd => rfl); (case hg => rfl); (case hr => first | (go_simp; done) | (go_simp; rfl)); intro gb505 hg w107 hbox hb; have BK505 := Ak (hbox); have GW505 := Ak ((zb hg (bw HB.out))); have GE505 := Ak ((zb hg (bw HB.out))); replace HB := Ak (below_step (bw HB.out) hb); clear hb hbox hg) | ((with_reducible refine gate_dst (N := 6) rfl ?_); refine box_event ?hg (N := 6) ?hd (cs := #[.int .i64 0, .int .i64 0, .int .i64 0, .int .i64 0]) (t := 32) ?hr ?_; (case hd => rfl); (case hg => rfl); (case hr => first | (go_simp; done) | (go_simp; rfl)); intro gb506 hg w108 hbox hb; have BK506 := Ak (hbox); have GW506 := Ak ((zb hg (bw1 HB.out GE505.out))); have GE506 := Ak ((zb hg (bw1 HB.out GE505.out))); replace HB := Ak (below_step (bw1 HB.out GE505.out) hb); have NB505_506 := Ak ((zl hg (bq BK505.out))); have NB506_505 := Ak ((zm hg (bq BK505.out))); replace BK505 := Ak (blk_below (bq BK505.out) hb); clear hb hbox hg) | ((with_reducible refine gate_dst (N := 22) rfl ?_); refine Kd.S_lit (Kd.slice 5 (Kd.int .u8)) _ 22 ?hg (N := 22) ?hd (xs := ([] : List (List Int))) (inner := []) (ok := fun _ => True) (okp := fun _ => True) ?hr ?hp (fun _ hk => hk) trivial (Below.refl _ _) (Nat.le_refl _) (by simp) ?_; (case hd => rfl); (case hg => rfl); (case hr => first | (go_simp; done) | (go_simp; rfl)); (case hp => exact (Reps.none _ _)); intro v508 w109 ho110 hb hg_ hnew_; clear hg_ hnew_; (first | rw [← Ny507.out] at ho110 | (simp only [Int.reduceToNat] at ho110; rw [← Ny507.out] at ho110)); have HO509 := Ak (Kd.S_lower ho110 (below_size (bw2 HB.out GE505.out GE506.out))); replace BK505 := Ak (blk_below (bq BK505.out) hb); replace BK506 := Ak (blk_below (bq BK506.out) hb); replace HB := Ak (below_step (bw2 HB.out GE505.out GE506.out) hb); clear hb ho110; have hnb111 := NB505_506.out; have hnc111 := NB506_505.out; have hcz112_0 := zk0 BK505.out; have hcz112_1 := zk1 BK505.out; have hfz112_0 := blk_frozen BK505.out 0; have hfz112_1 := blk_frozen BK505.out 1) | ((with_reducible refine gate_callee (f := 56) rfl ?_); refine goesL_ (some 26) rfl rfl Try.func56 (by kernel_rfl) rfl #[.agg #[.slice A0_0 l0_0.length c0_0, .slice A0_1 l0_1.length c0_1], .int .i64 a1, .int .i64 a2] rfl gm ?_; (with_reducible refine (spec_l12Region.calls k _ _ l0_0 _ _ l0_1 a1 a2 false _ ?side1 ?side2 ?side3 ?side4 A4.out).mono ?_); (case side1 => exact zq (Kd.C_below HR0_0.out HB.out)); (case side2 => exact HC0_0.out); (case side3 => exact zq (Kd.C_below HR0_1.out HB.out)); (case side4 => exact HC0_1.out); rintro e w113 ⟨rfl, hb⟩; refine ⟨_, rfl, ?_⟩; replace HO509 := Ak (Kd.S_below (sq HO509.out) hb); replace BK505 := Ak (blk_below (bq BK505.out) hb); replace BK506 := Ak (blk_below (bq BK506.out) hb); replace HB := Ak (below_step (bw2 HB.out GE505.out GE506.out) hb); have hcz114_0 := zk0 BK506.out; have hcz114_1 := zk1 BK506.out; have hcz114_2 := zk2 BK506.out; have hcz114_3 := zk3 BK506.out; have hfz114_0 := blk_frozen BK506.out 0; have hfz114_1 := blk_frozen BK506.out 1; have hfz114_2 := blk_frozen BK506.out 2; have hfz114_3 := blk_frozen BK506.out 3))
  refine bodyPost_ret (results_ctt rfl _ _ gb506 32 #[.int .i64 0, .int .i64 0, .int .i64 0, .int .i64 0] (0, 0) _ rfl (by refine bq ?_; refine blk_put (cs := #[.int .i64 0, .int .i64 0, .int .i64 0, .int .i64 0]) ?_ 3 _ rfl; refine bq ?_; refine blk_put (cs := #[.int .i64 0, .int .i64 0, .int .i64 0, .int .i64 0]) ?_ 2 _ rfl; refine bq ?_; refine blk_put (cs := #[.int .i64 0, .int .i64 0, .int .i64 0, .int .i64 0]) ?_ 1 _ rfl; refine bq ?_; refine blk_put (cs := #[.int .i64 0, .int .i64 0, .int .i64 0, .int .i64 0]) ?_ 0 _ rfl; exact bq BK506.out) Try.underlying32 rfl (by kernel_rfl)) rfl ?_
  exact ⟨_, zw, by refine sq ?_; exact Kd.S_mono (Kd.S_far (p := ⟨gb506, 3, none⟩) (Kd.S_far (p := ⟨gb506, 2, none⟩) (Kd.S_far (p := ⟨gb506, 1, none⟩) (Kd.S_far (p := ⟨gb506, 0, none⟩) (Kd.S_types HO509.out BK506.out (by decide)) (fun _ hk => hk.2) (.int .i64 0)) (fun _ hk => hk.2) (.int .i64 0)) (fun _ hk => hk.2) (.int .i64 0)) (fun _ hk => hk.2) (.int .i64 0)) (fun _ hk => trivial), bw2 HB.out GE505.out GE506.out⟩

def spec_l1Byte.f (s0_0 : List Int) (s0_1 : Int) (s0_2 : Int) : Option (Int × Int × Int) := if s0_1 < (s0_0.length : Int) then (if 0 ≤ s0_1 then (some (Go.bits .and .i64 (wrap64 ((Go.bits .and .i64 (Go.bits .xor .i64 ((wrap64 ((wrap64 (s0_2 * 6364136223846793005)) + 1442695040888963407)) / 8589934592) ((wrap64 ((wrap64 (s0_2 * 6364136223846793005)) + 1442695040888963407)) / 140737488355328)) 255) + (wrap64 (rd s0_0 s0_1)))) 255, wrap64 (s0_1 + 1), wrap64 ((wrap64 (s0_2 * 6364136223846793005)) + 1442695040888963407))) else (none)) else (some (Go.bits .and .i64 (Go.bits .xor .i64 ((wrap64 ((wrap64 (s0_2 * 6364136223846793005)) + 1442695040888963407)) / 8589934592) ((wrap64 ((wrap64 (s0_2 * 6364136223846793005)) + 1442695040888963407)) / 140737488355328)) 255, s0_1, wrap64 ((wrap64 (s0_2 * 6364136223846793005)) + 1442695040888963407)))
set_option maxHeartbeats 8000000 in
set_option maxRecDepth 100000 in
theorem spec_l1Byte.calls (g : Nat) (s0_0 : List Int) (s0_1 : Int) (s0_2 : Int) (r1 : Int) (r2 : Int) (r3 : Int) (w0 w : World) (hI : IsS126 w0 w g s0_0 s0_1 s0_2) (hB : Below w0.heap.size w0 w) (h : spec_l1Byte.f s0_0 s0_1 s0_2 = some (r1, r2, r3)) :
  Calls Try.prog 111 #[.pointer (some ⟨g, 0, none⟩)] w fun e w' => e = .returned (.int .i64 r1) ∧ IsS126 w0 w' g s0_0 r2 r3 ∧ Below w0.heap.size w0 w' ∧ KeepBut w w' g none := by
 have HI0 := Ak hI
 have HK := Ak (KeepBut.refl w g none)
 have HL := Ak hB.size
 clear hI
 have HW0 := Ak hB.size
 have HB := Ak hB
 clear hB
 have H := h
 unfold spec_l1Byte.f at H
 clear h
 by_cases c2 : s0_1 < (s0_0.length : Int)
 ·rw [if_pos c2] at H
  have c2b0 := decide_eq_true c2
  clear c2
  by_cases c3 : 0 ≤ s0_1
  ·rw [if_pos c3] at H
   have c3b0 := decide_eq_true c3
   clear c3
   simp only [Option.some.injEq, Prod.mk.injEq] at H
   obtain ⟨rfl, rfl, rfl⟩ := H
   obtain ⟨ASz4_0, cSz4_0, HGz4, hgz4, HSz4_0⟩ := HI0.out
   have hcz4_0 := cellS126_0 HGz4
   have hcz4_1 := cellS126_1 HGz4
   have hcz4_2 := cellS126_2 HGz4
   have hfz4_1 := blk_frozen HGz4 1
   have hfz4_2 := blk_frozen HGz4 2
   clear HGz4 hgz4
   have p545 : 0 ≤ (s0_1 : Int) := of_decide_eq_true (by first | (with_reducible assumption) | assumption)
   have q545 : s0_1 < (s0_0.length : Int) := of_decide_eq_true (by first | (with_reducible assumption) | assumption)
   obtain ⟨ad545, e545, hx545_0⟩ := Kd.at_int HSz4_0 s0_1 p545 q545
   cases e545
   have hn545_0 : ad545.block ≠ g := Nat.ne_of_lt (Nat.lt_of_lt_of_le (by have := World.block_lt_of_cell? _ _ hx545_0; first | rwa [add_block] at this | exact this) (IsS126.ge HI0.out))
   replace hx545_0 := pw_cell_below HB.out hx545_0
   replace hx545_0 := (cell_far (p := ⟨g, 2, none⟩) (by first | (rw [add_block]; exact hn545_0) | (show (Addr.add _ _).block ≠ _; rw [add_block]; exact hn545_0) | exact hn545_0) (.int .i64 (wrap64 ((wrap64 (s0_2 * 6364136223846793005)) + 1442695040888963407)))).trans hx545_0
   (try have hy545_0 := fun (n_ : Nat) => (show (((w.drewN n_).setCell ⟨g, 2, none⟩ (.int .i64 (wrap64 ((wrap64 (s0_2 * 6364136223846793005)) + 1442695040888963407))))).cell? _ = some _ from hx545_0))
   clear hn545_0
   replace p545 := eq_true p545
   replace q545 := eq_true q545
   go_enter Try.func111, Try.ntmps111
   go_wp2
   repeat (go_quiet (fail); try go_wp2)
   go_ret
   exact ⟨zw, by repeat (first | (with_reducible first | exact HI0.out | apply IsS126.alloc | apply IsS126.drewN | apply IsS126.drew | apply IsS126.set_1 | apply IsS126.set_2) | exact HI0.out), bw1 HB.out (IsS126.ge HI0.out), kq0 HK.out⟩
  ·rw [if_neg c3] at H
   exact absurd H (by simp)
 ·rw [if_neg c2] at H
  have c2b0 := decide_eq_false c2
  clear c2
  simp only [Option.some.injEq, Prod.mk.injEq] at H
  obtain ⟨rfl, rfl, rfl⟩ := H
  obtain ⟨ASz5_0, cSz5_0, HGz5, hgz5, HSz5_0⟩ := HI0.out
  have hcz5_0 := cellS126_0 HGz5
  have hcz5_1 := cellS126_1 HGz5
  have hcz5_2 := cellS126_2 HGz5
  have hfz5_1 := blk_frozen HGz5 1
  have hfz5_2 := blk_frozen HGz5 2
  clear HGz5 hgz5
  go_enter Try.func111, Try.ntmps111
  go_wp2
  repeat (go_quiet (fail); try go_wp2)
  go_ret
  exact ⟨zw, by repeat (first | (with_reducible first | exact HI0.out | apply IsS126.alloc | apply IsS126.drewN | apply IsS126.drew | apply IsS126.set_1 | apply IsS126.set_2) | exact HI0.out), bw1 HB.out (IsS126.ge HI0.out), kq0 HK.out⟩

def spec_l1Bytes.l0 : Nat → Int → List Int → Int → List Int → Int → Int → Option (List Int × Int × Int)
 | 0, _, _, _, _, _, _ => none
 | k + 1, x1, x5, x6, x1000, x1001, x1002 => if x6 < x1 then ((spec_l1Byte.f x1000 x1001 x1002).bind fun bt549 => (if x5.length < 140737488355328 then (spec_l1Bytes.l0 k x1 (x5 ++ [(bt549.1) % 256]) (wrap64 (x6 + 1)) x1000 bt549.2.1 bt549.2.2) else (none))) else (some (x5, x1001, x1002))
def spec_l1Bytes.f (k : Nat) (s0_0 : List Int) (s0_1 : Int) (s0_2 : Int) (a1 : Int) : Option (List Int × Int × Int) := spec_l1Bytes.l0 k a1 (([] : List Int)) 0 s0_0 s0_1 s0_2
set_option maxHeartbeats 8000000 in
set_option maxRecDepth 100000 in
theorem spec_l1Bytes.calls (k : Nat) (g : Nat) (s0_0 : List Int) (s0_1 : Int) (s0_2 : Int) (a1 : Int) (r1 : List Int) (r2 : Int) (r3 : Int) (w0 w : World) (hI : IsS126 w0 w g s0_0 s0_1 s0_2) (hB : Below w0.heap.size w0 w) (h : spec_l1Bytes.f k s0_0 s0_1 s0_2 a1 = some (r1, r2, r3)) :
  Calls Try.prog 63 #[.pointer (some ⟨g, 0, none⟩), .int .i64 a1] w fun e w' => ∃ v0_ : Value, e = .returned (v0_) ∧ Kd.R (Kd.int .u8) 5 w' w.heap.size (fun _ => True) v0_ r1 ∧ IsS126 w0 w' g s0_0 r2 r3 ∧ Below w0.heap.size w0 w' ∧ KeepBut w w' g none := by
 have HI0 := Ak hI
 have HK := Ak (KeepBut.refl w g none)
 have HL := Ak hB.size
 clear hI
 have HW0 := Ak hB.size
 have HB := Ak hB
 clear hB
 have H := h
 unfold spec_l1Bytes.f at H
 clear h
 obtain ⟨y546, hy546⟩ : ∃ y_ : List Int, y_ = (([] : List Int)) := ⟨_, rfl⟩
 replace H : (spec_l1Bytes.l0 k a1 y546 0 s0_0 s0_1 s0_2) = some (r1, r2, r3) := by first | (rw [hy546]; with_reducible exact H) | (have H2_ := (Option.bind_some _ _).symm.trans H; rw [hy546]; with_reducible exact H2_) | (have H2_ := (Option.bind_some _ _).symm.trans H; with_reducible exact H2_) | with_reducible exact H | (rw [hy546]; exact H) | exact H
 have Ny546 := Ak hy546
 clear hy546
 have H' := Ak H
 clear H
 go_enter Try.func63, Try.ntmps63
 go_wp2_with (first | ((with_reducible refine gate_dst (N := 7) rfl ?_); refine Kd.R_lit (Kd.int .u8) _ 5 ?hg (N := 7) ?hd (xs := ([] : List Int)) (inner := []) (ok := fun _ => True) (okp := fun _ => True) ?hr ?hp (fun _ hk => hk) trivial (Below.refl _ _) (Nat.le_refl _) (by simp) ?_; (case hd => rfl); (case hg => rfl); (case hr => first | (go_simp; done) | (go_simp; rfl)); (case hp => exact (Reps.none _ _)); intro v547 w3 ho4 hb hg_ hnew_; clear hg_ hnew_; (first | rw [← Ny546.out] at ho4 | (simp only [Int.reduceToNat] at ho4; rw [← Ny546.out] at ho4)); have HO548 := Ak (Kd.R_lower ho4 (keep_size (w := w) (g := g) (row := none) (kq0 HK.out))); replace HK := Ak (KeepBut.trans (kq0 HK.out) (KeepBut.of_below hb g none) (.inl rfl)); replace HB := Ak (below_step (bw1 HB.out (IsS126.ge HI0.out)) hb); replace HI0 := Ak (IsS126.below (by repeat (first | (with_reducible first | exact HI0.out | apply IsS126.alloc | apply IsS126.drewN | apply IsS126.drew | apply IsS126.set_1 | apply IsS126.set_2) | exact HI0.out)) hb); clear hb ho4))
 go_loopg [5, 6] k (fun kq v5 v6 w' => ∃ (x5_1 : List Int) (x6_1 : Int) (x1001_1 : Int) (x1002_1 : Int), v6 = .int .i64 x6_1 ∧ Aside0 (spec_l1Bytes.l0 kq a1 x5_1 x6_1 s0_0 x1001_1 x1002_1 = some (r1, r2, r3)) ∧ Aside0 (kq ≤ k) ∧ Aside0 (Kd.R (Kd.int .u8) 5 w' w.heap.size (fun _ => True) v5 x5_1) ∧ Aside0 (IsS126 w0 w' g s0_0 x1001_1 x1002_1) ∧ Aside0 (KeepBut w w' g none) ∧ Aside0 (Below w0.heap.size w0 w'))
 case atStart => exact ⟨(y546), (0), (s0_1), (s0_2), (by first | rfl | (simp; done) | (simp [*]; done)), H', ⟨Nat.le_refl _⟩, ⟨rq HO548.out⟩, ⟨by repeat (first | (with_reducible first | exact HI0.out | apply IsS126.alloc | apply IsS126.drewN | apply IsS126.drew | apply IsS126.set_1 | apply IsS126.set_2) | exact HI0.out)⟩, ⟨kq0 HK.out⟩, ⟨bw1 HB.out (IsS126.ge HI0.out)⟩⟩
 case round =>
  clear H'
  obtain ⟨x5_1, x6_1, x1001_1, x1002_1, rfl, HA, HK1, HO_5, HI0, HK, HB⟩ := hrel
  cases gk with
  | zero => exact absurd HA.out (by simp [spec_l1Bytes.l0])
  | succ k1 =>
   have H := HA.out
   clear HA
   simp only [spec_l1Bytes.l0] at H
   by_cases c5 : x6_1 < a1
   ·rw [if_pos c5] at H
    have c5b0 := decide_eq_true c5
    clear c5
    replace H := Option.bind_eq_some_iff.mp H
    obtain ⟨⟨t549, t550, t551⟩, A60, H⟩ := H
    (try dsimp only at H)
    have A6 := Ak A60
    clear A60
    by_cases c7 : x5_1.length < 140737488355328
    ·rw [if_pos c7] at H
     have LMc7 := Ak c7
     clear c7
     generalize hy552 : (x5_1 ++ [(t549) % 256] : List Int) = y552 at H
     try rw [Option.bind_some] at H
     have Ny552 := Ak hy552.symm
     clear hy552
     have H' := Ak H
     clear H
     go_wp2_with (first | ((with_reducible refine gate_callee (f := 111) rfl ?_); refine goesL_ (some 15) rfl rfl Try.func111 (by kernel_rfl) rfl #[.pointer (some ⟨g, 0, none⟩)] rfl gm ?_; (with_reducible refine (spec_l1Byte.calls g s0_0 x1001_1 x1002_1 t549 t550 t551 w0 _ ?side1 ?side2 A6.out).mono ?_); (case side1 => repeat (first | (with_reducible first | exact HI0.out | apply IsS126.alloc | apply IsS126.drewN | apply IsS126.drew | apply IsS126.set_1 | apply IsS126.set_2) | exact HI0.out)); (case side2 => repeat (first | (with_reducible first | exact HB.out | apply below_alloc | apply pw_below_drewN | apply below_drew1 | refine below_set ?_ (IsS126.ge HI0.out)) | exact HB.out)); rintro e w8 ⟨rfl, hi, hb, hk⟩; refine ⟨_, rfl, ?_⟩; replace HO_5 := Ak (Kd.R_mono (Kd.R_keep (IsS126.apart (show IsS126 w0 _ g s0_0 x1001_1 x1002_1 from by repeat (first | (with_reducible first | exact HI0.out | apply IsS126.alloc | apply IsS126.drewN | apply IsS126.drew | apply IsS126.set_1 | apply IsS126.set_2) | exact HI0.out)) (rq HO_5.out) (by decide)) hk (fun _ h => h.2)) (fun _ h => h.1)); replace HK := Ak (KeepBut.trans (kq0 HK.out) hk (.inl rfl)); replace HB := Ak (hb); replace HI0 := Ak (hi)) | ((with_reducible refine gate_builtin (b := .append) (xs := #[.tmp 13, .tmp 17]) rfl ?_); at_builtin; refine Kd.R_append (Kd.int .u8) w.heap.size rfl (.tmp 13) (.tmp 17) 22 5 (.int .u8 0) 1 rfl Try.underlying22 info5 rfl (by decide) (by omega) u5 x5_1 ((t549) % 256) [.int .u8 ((t549) % 256)] (fun _ => True) (fun _ => False) rfl rfl ?aP (fun _ hk => hk.elim) ?aF ?aO (Below.refl _ _) ?aS ?aL ?_; (case aP => exact rfl); (case aF => exact (fun _ _ => trivial)); (case aO => exact (rq HO_5.out)); (case aS => exact (keep_size (w := w) (g := g) (row := none) (kq0 HK.out))); (case aL => have := LMc7.out; omega); intro v553 w9 ho hb hg hat; rw [← Ny552.out] at ho; replace HB := Ak (below_weaken (bw1 HB.out (IsS126.ge HI0.out)) HL.out hb); replace HI0 := Ak (IsS126.grown (by repeat (first | (with_reducible first | exact HI0.out | apply IsS126.alloc | apply IsS126.drewN | apply IsS126.drew | apply IsS126.set_1 | apply IsS126.set_2) | exact HI0.out)) hg (IsS126.own_ne HI0.out HO_5.out (by decide))); replace HK := Ak (KeepBut.trans (kq0 HK.out) (KeepBut.of_grown hg g) (Kd.R_base2 HO_5.out)); have HO554 := Ak (ho); clear HO_5; clear ho hb hg hat))
     go_roundg k1
     case measure => have := HK1.out; omega
     case rel => exact ⟨(y552), (wrap64 (x6_1 + 1)), (t550), (t551), (by first | rfl | (simp; done) | (simp [*]; done)), H', ⟨by have := HK1.out; omega⟩, ⟨rq HO554.out⟩, ⟨by repeat (first | (with_reducible first | exact HI0.out | apply IsS126.alloc | apply IsS126.drewN | apply IsS126.drew | apply IsS126.set_1 | apply IsS126.set_2) | exact HI0.out)⟩, ⟨kq0 HK.out⟩, ⟨bw1 HB.out (IsS126.ge HI0.out)⟩⟩
    ·rw [if_neg c7] at H
     exact absurd H (by simp)
   ·rw [if_neg c5] at H
    have c5b0 := decide_eq_false c5
    clear c5
    simp only [Option.some.injEq, Prod.mk.injEq] at H
    obtain ⟨rfl, rfl, rfl⟩ := H
    go_wp2
    go_ret
    exact ⟨_, zw, rq HO_5.out, by repeat (first | (with_reducible first | exact HI0.out | apply IsS126.alloc | apply IsS126.drewN | apply IsS126.drew | apply IsS126.set_1 | apply IsS126.set_2) | exact HI0.out), bw1 HB.out (IsS126.ge HI0.out), kq0 HK.out⟩

def spec_l1Below.f (s0_0 : List Int) (s0_1 : Int) (s0_2 : Int) (a1 : Int) : Option (Int × Int × Int) := if a1 ≤ 0 then (some (0, s0_1, s0_2)) else (if a1 ≤ 256 then ((spec_l1Byte.f s0_0 s0_1 s0_2).bind fun bt555 => (if a1 = 0 then (none) else (some (Int.tmod bt555.1 a1, bt555.2.1, bt555.2.2)))) else ((spec_l1Byte.f s0_0 s0_1 s0_2).bind fun bt558 => ((spec_l1Byte.f s0_0 bt558.2.1 bt558.2.2).bind fun bt561 => ((spec_l1Byte.f s0_0 bt561.2.1 bt561.2.2).bind fun bt564 => (if a1 = 0 then (none) else (some (Int.tmod (wrap64 ((wrap64 ((wrap64 (bt558.1 * 65536)) + (wrap64 (bt561.1 * 256)))) + bt564.1)) a1, bt564.2.1, bt564.2.2)))))))
set_option maxHeartbeats 8000000 in
set_option maxRecDepth 100000 in
theorem spec_l1Below.calls (g : Nat) (s0_0 : List Int) (s0_1 : Int) (s0_2 : Int) (a1 : Int) (r1 : Int) (r2 : Int) (r3 : Int) (w0 w : World) (hI : IsS126 w0 w g s0_0 s0_1 s0_2) (hB : Below w0.heap.size w0 w) (h : spec_l1Below.f s0_0 s0_1 s0_2 a1 = some (r1, r2, r3)) :
  Calls Try.prog 86 #[.pointer (some ⟨g, 0, none⟩), .int .i64 a1] w fun e w' => e = .returned (.int .i64 r1) ∧ IsS126 w0 w' g s0_0 r2 r3 ∧ Below w0.heap.size w0 w' ∧ KeepBut w w' g none := by
 have HI0 := Ak hI
 have HK := Ak (KeepBut.refl w g none)
 have HL := Ak hB.size
 clear hI
 have HW0 := Ak hB.size
 have HB := Ak hB
 clear hB
 have H := h
 unfold spec_l1Below.f at H
 clear h
 by_cases c3 : a1 ≤ 0
 ·rw [if_pos c3] at H
  have c3b0 := decide_eq_true c3
  clear c3
  simp only [Option.some.injEq, Prod.mk.injEq] at H
  obtain ⟨rfl, rfl, rfl⟩ := H
  go_enter Try.func86, Try.ntmps86
  go_wp2
  go_ret
  exact ⟨zw, by repeat (first | (with_reducible first | exact HI0.out | apply IsS126.alloc | apply IsS126.drewN | apply IsS126.drew | apply IsS126.set_1 | apply IsS126.set_2) | exact HI0.out), bw1 HB.out (IsS126.ge HI0.out), kq0 HK.out⟩
 ·rw [if_neg c3] at H
  have c3b0 := decide_eq_false c3
  clear c3
  by_cases c4 : a1 ≤ 256
  ·rw [if_pos c4] at H
   have c4b0 := decide_eq_true c4
   clear c4
   replace H := Option.bind_eq_some_iff.mp H
   obtain ⟨⟨t555, t556, t557⟩, A50, H⟩ := H
   (try dsimp only at H)
   have A5 := Ak A50
   clear A50
   by_cases c6 : a1 = 0
   ·rw [if_pos c6] at H
    exact absurd H (by simp)
   ·rw [if_neg c6] at H
    have c6b0 : (a1 == 0) = false := beq_eq_false_iff_ne.mpr c6
    have c6b1 : (a1 != 0) = true := bne_iff_ne.mpr c6
    simp only [Option.some.injEq, Prod.mk.injEq] at H
    obtain ⟨rfl, rfl, rfl⟩ := H
    go_enter Try.func86, Try.ntmps86
    go_wp2_with (first | ((with_reducible refine gate_callee (f := 111) rfl ?_); refine goesL_ (some 13) rfl rfl Try.func111 (by kernel_rfl) rfl #[.pointer (some ⟨g, 0, none⟩)] rfl gm ?_; (with_reducible refine (spec_l1Byte.calls g s0_0 s0_1 s0_2 t555 t556 t557 w0 _ ?side1 ?side2 A5.out).mono ?_); (case side1 => repeat (first | (with_reducible first | exact HI0.out | apply IsS126.alloc | apply IsS126.drewN | apply IsS126.drew | apply IsS126.set_1 | apply IsS126.set_2) | exact HI0.out)); (case side2 => repeat (first | (with_reducible first | exact HB.out | apply below_alloc | apply pw_below_drewN | apply below_drew1 | refine below_set ?_ (IsS126.ge HI0.out)) | exact HB.out)); rintro e w7 ⟨rfl, hi, hb, hk⟩; refine ⟨_, rfl, ?_⟩; replace HK := Ak (KeepBut.trans (kq0 HK.out) hk (.inl rfl)); replace HB := Ak (hb); replace HI0 := Ak (hi)))
    go_ret
    exact ⟨zw, by repeat (first | (with_reducible first | exact HI0.out | apply IsS126.alloc | apply IsS126.drewN | apply IsS126.drew | apply IsS126.set_1 | apply IsS126.set_2) | exact HI0.out), bw1 HB.out (IsS126.ge HI0.out), kq0 HK.out⟩
  ·rw [if_neg c4] at H
   have c4b0 := decide_eq_false c4
   clear c4
   replace H := Option.bind_eq_some_iff.mp H
   obtain ⟨⟨t558, t559, t560⟩, A80, H⟩ := H
   (try dsimp only at H)
   have A8 := Ak A80
   clear A80
   replace H := Option.bind_eq_some_iff.mp H
   obtain ⟨⟨t561, t562, t563⟩, A90, H⟩ := H
   (try dsimp only at H)
   have A9 := Ak A90
   clear A90
   replace H := Option.bind_eq_some_iff.mp H
   obtain ⟨⟨t564, t565, t566⟩, A100, H⟩ := H
   (try dsimp only at H)
   have A10 := Ak A100
   clear A100
   by_cases c11 : a1 = 0
   ·rw [if_pos c11] at H
    exact absurd H (by simp)
   ·rw [if_neg c11] at H
    have c11b0 : (a1 == 0) = false := beq_eq_false_iff_ne.mpr c11
    have c11b1 : (a1 != 0) = true := bne_iff_ne.mpr c11
    simp only [Option.some.injEq, Prod.mk.injEq] at H
    obtain ⟨rfl, rfl, rfl⟩ := H
    go_enter Try.func86, Try.ntmps86
    go_wp2_with (first | ((with_reducible refine gate_callee (f := 111) rfl ?_); refine goesL_ (some 17) rfl rfl Try.func111 (by kernel_rfl) rfl #[.pointer (some ⟨g, 0, none⟩)] rfl gm ?_; (with_reducible refine (spec_l1Byte.calls g s0_0 s0_1 s0_2 t558 t559 t560 w0 _ ?side1 ?side2 A8.out).mono ?_); (case side1 => repeat (first | (with_reducible first | exact HI0.out | apply IsS126.alloc | apply IsS126.drewN | apply IsS126.drew | apply IsS126.set_1 | apply IsS126.set_2) | exact HI0.out)); (case side2 => repeat (first | (with_reducible first | exact HB.out | apply below_alloc | apply pw_below_drewN | apply below_drew1 | refine below_set ?_ (IsS126.ge HI0.out)) | exact HB.out)); rintro e w12 ⟨rfl, hi, hb, hk⟩; refine ⟨_, rfl, ?_⟩; replace HK := Ak (KeepBut.trans (kq0 HK.out) hk (.inl rfl)); replace HB := Ak (hb); replace HI0 := Ak (hi)) | ((with_reducible refine gate_callee (f := 111) rfl ?_); refine goesL_ (some 19) rfl rfl Try.func111 (by kernel_rfl) rfl #[.pointer (some ⟨g, 0, none⟩)] rfl gm ?_; (with_reducible refine (spec_l1Byte.calls g s0_0 t559 t560 t561 t562 t563 w0 _ ?side1 ?side2 A9.out).mono ?_); (case side1 => repeat (first | (with_reducible first | exact HI0.out | apply IsS126.alloc | apply IsS126.drewN | apply IsS126.drew | apply IsS126.set_1 | apply IsS126.set_2) | exact HI0.out)); (case side2 => repeat (first | (with_reducible first | exact HB.out | apply below_alloc | apply pw_below_drewN | apply below_drew1 | refine below_set ?_ (IsS126.ge HI0.out)) | exact HB.out)); rintro e w13 ⟨rfl, hi, hb, hk⟩; refine ⟨_, rfl, ?_⟩; replace HK := Ak (KeepBut.trans (kq0 HK.out) hk (.inl rfl)); replace HB := Ak (hb); replace HI0 := Ak (hi)) | ((with_reducible refine gate_callee (f := 111) rfl ?_); refine goesL_ (some 21) rfl rfl Try.func111 (by kernel_rfl) rfl #[.pointer (some ⟨g, 0, none⟩)] rfl gm ?_; (with_reducible refine (spec_l1Byte.calls g s0_0 t562 t563 t564 t565 t566 w0 _ ?side1 ?side2 A10.out).mono ?_); (case side1 => repeat (first | (with_reducible first | exact HI0.out | apply IsS126.alloc | apply IsS126.drewN | apply IsS126.drew | apply IsS126.set_1 | apply IsS126.set_2) | exact HI0.out)); (case side2 => repeat (first | (with_reducible first | exact HB.out | apply below_alloc | apply pw_below_drewN | apply below_drew1 | refine below_set ?_ (IsS126.ge HI0.out)) | exact HB.out)); rintro e w14 ⟨rfl, hi, hb, hk⟩; refine ⟨_, rfl, ?_⟩; replace HK := Ak (KeepBut.trans (kq0 HK.out) hk (.inl rfl)); replace HB := Ak (hb); replace HI0 := Ak (hi)))
    go_ret
    exact ⟨zw, by repeat (first | (with_reducible first | exact HI0.out | apply IsS126.alloc | apply IsS126.drewN | apply IsS126.drew | apply IsS126.set_1 | apply IsS126.set_2) | exact HI0.out), bw1 HB.out (IsS126.ge HI0.out), kq0 HK.out⟩

def spec_l1Int.f (s0_0 : List Int) (s0_1 : Int) (s0_2 : Int) (l1 : List Int) : Option (Int × Int × Int) := (spec_l1Below.f s0_0 s0_1 s0_2 (l1.length : Int)).bind fun bt567 => (if 0 ≤ bt567.1 then (if bt567.1 < (l1.length : Int) then (some (rd l1 bt567.1, bt567.2.1, bt567.2.2)) else (none)) else (none))
set_option maxHeartbeats 8000000 in
set_option maxRecDepth 100000 in
theorem spec_l1Int.calls (g : Nat) (s0_0 : List Int) (s0_1 : Int) (s0_2 : Int) (A1 : Option Addr) (c1 : Nat) (l1 : List Int) (r1 : Int) (r2 : Int) (r3 : Int) (w0 w : World) (hI : IsS126 w0 w g s0_0 s0_1 s0_2) (hB : Below w0.heap.size w0 w) (hr1 : Kd.C (Kd.int .i64) w A1 l1.length l1) (hc1 : l1.length ≤ c1) (hf1 : ∀ ad, A1 = some ad → 0 < l1.length → ad.block ≠ g) (h : spec_l1Int.f s0_0 s0_1 s0_2 l1 = some (r1, r2, r3)) :
  Calls Try.prog 64 #[.pointer (some ⟨g, 0, none⟩), .slice A1 l1.length c1] w fun e w' => e = .returned (.int .i64 r1) ∧ IsS126 w0 w' g s0_0 r2 r3 ∧ Below w0.heap.size w0 w' ∧ KeepBut w w' g none := by
 have HR1 := Ak hr1
 have HC1 := Ak hc1
 clear hr1 hc1
 have HI0 := Ak hI
 have HK := Ak (KeepBut.refl w g none)
 have HL := Ak hB.size
 clear hI
 have HW0 := Ak hB.size
 have HB := Ak hB
 clear hB
 have H := h
 unfold spec_l1Int.f at H
 clear h
 replace H := Option.bind_eq_some_iff.mp H
 obtain ⟨⟨t567, t568, t569⟩, A30, H⟩ := H
 (try dsimp only at H)
 have A3 := Ak A30
 clear A30
 by_cases c4 : 0 ≤ t567
 ·rw [if_pos c4] at H
  have c4b0 := decide_eq_true c4
  clear c4
  by_cases c5 : t567 < (l1.length : Int)
  ·rw [if_pos c5] at H
   have c5b0 := decide_eq_true c5
   clear c5
   simp only [Option.some.injEq, Prod.mk.injEq] at H
   obtain ⟨rfl, rfl, rfl⟩ := H
   go_enter Try.func64, Try.ntmps64
   go_wp2_with (first | ((with_reducible refine gate_callee (f := 86) rfl ?_); refine goesL_ (some 9) rfl rfl Try.func86 (by kernel_rfl) rfl #[.pointer (some ⟨g, 0, none⟩), .int .i64 (l1.length : Int)] rfl gm ?_; (with_reducible refine (spec_l1Below.calls g s0_0 s0_1 s0_2 (l1.length : Int) t567 t568 t569 w0 _ ?side1 ?side2 A3.out).mono ?_); (case side1 => repeat (first | (with_reducible first | exact HI0.out | apply IsS126.alloc | apply IsS126.drewN | apply IsS126.drew | apply IsS126.set_1 | apply IsS126.set_2) | exact HI0.out)); (case side2 => repeat (first | (with_reducible first | exact HB.out | apply below_alloc | apply pw_below_drewN | apply below_drew1 | refine below_set ?_ (IsS126.ge HI0.out)) | exact HB.out)); rintro e w6 ⟨rfl, hi, hb, hk⟩; refine ⟨_, rfl, ?_⟩; replace HK := Ak (KeepBut.trans (kq0 HK.out) hk (.inl rfl)); replace HB := Ak (hb); replace HI0 := Ak (hi); have p570 : 0 ≤ (t567 : Int) := of_decide_eq_true (by first | (with_reducible assumption) | assumption); have q570 : t567 < (l1.length : Int) := of_decide_eq_true (by first | (with_reducible assumption) | assumption); obtain ⟨ad570, e570, hx570_0⟩ := Kd.at_int HR1.out t567 p570 q570; cases e570; replace hx570_0 := keep_cell HK.out hx570_0 (by first | (rw [add_block]; exact hf1 _ rfl (by omega)) | exact hf1 _ rfl (by omega) | exact hf1 ad570 rfl (by omega)); replace p570 := eq_true p570; replace q570 := eq_true q570))
   go_ret
   exact ⟨zw, by repeat (first | (with_reducible first | exact HI0.out | apply IsS126.alloc | apply IsS126.drewN | apply IsS126.drew | apply IsS126.set_1 | apply IsS126.set_2) | exact HI0.out), bw1 HB.out (IsS126.ge HI0.out), kq0 HK.out⟩
  ·rw [if_neg c5] at H
   exact absurd H (by simp)
 ·rw [if_neg c4] at H
  exact absurd H (by simp)

def spec_l1Once.f (s0_0 : List Int) (s0_1 : Int) (s0_2 : Int) (a1 : Int) : Option (Bool × Int × Int) := (spec_l1Below.f s0_0 s0_1 s0_2 a1).bind fun bt571 => (some ((bt571.1 == 0), bt571.2.1, bt571.2.2))
set_option maxHeartbeats 8000000 in
set_option maxRecDepth 100000 in
theorem spec_l1Once.calls (g : Nat) (s0_0 : List Int) (s0_1 : Int) (s0_2 : Int) (a1 : Int) (r1 : Bool) (r2 : Int) (r3 : Int) (w0 w : World) (hI : IsS126 w0 w g s0_0 s0_1 s0_2) (hB : Below w0.heap.size w0 w) (h : spec_l1Once.f s0_0 s0_1 s0_2 a1 = some (r1, r2, r3)) :
  Calls Try.prog 85 #[.pointer (some ⟨g, 0, none⟩), .int .i64 a1] w fun e w' => e = .returned (.bool r1) ∧ IsS126 w0 w' g s0_0 r2 r3 ∧ Below w0.heap.size w0 w' ∧ KeepBut w w' g none := by
 have HI0 := Ak hI
 have HK := Ak (KeepBut.refl w g none)
 have HL := Ak hB.size
 clear hI
 have HW0 := Ak hB.size
 have HB := Ak hB
 clear hB
 have H := h
 unfold spec_l1Once.f at H
 clear h
 replace H := Option.bind_eq_some_iff.mp H
 obtain ⟨⟨t571, t572, t573⟩, A30, H⟩ := H
 (try dsimp only at H)
 have A3 := Ak A30
 clear A30
 simp only [Option.some.injEq, Prod.mk.injEq] at H
 obtain ⟨rfl, rfl, rfl⟩ := H
 go_enter Try.func85, Try.ntmps85
 go_wp2_with (first | ((with_reducible refine gate_callee (f := 86) rfl ?_); refine goesL_ (some 7) rfl rfl Try.func86 (by kernel_rfl) rfl #[.pointer (some ⟨g, 0, none⟩), .int .i64 a1] rfl gm ?_; (with_reducible refine (spec_l1Below.calls g s0_0 s0_1 s0_2 a1 t571 t572 t573 w0 _ ?side1 ?side2 A3.out).mono ?_); (case side1 => repeat (first | (with_reducible first | exact HI0.out | apply IsS126.alloc | apply IsS126.drewN | apply IsS126.drew | apply IsS126.set_1 | apply IsS126.set_2) | exact HI0.out)); (case side2 => repeat (first | (with_reducible first | exact HB.out | apply below_alloc | apply pw_below_drewN | apply below_drew1 | refine below_set ?_ (IsS126.ge HI0.out)) | exact HB.out)); rintro e w4 ⟨rfl, hi, hb, hk⟩; refine ⟨_, rfl, ?_⟩; replace HK := Ak (KeepBut.trans (kq0 HK.out) hk (.inl rfl)); replace HB := Ak (hb); replace HI0 := Ak (hi)))
 go_ret
 exact ⟨zw, by repeat (first | (with_reducible first | exact HI0.out | apply IsS126.alloc | apply IsS126.drewN | apply IsS126.drew | apply IsS126.set_1 | apply IsS126.set_2) | exact HI0.out), bw1 HB.out (IsS126.ge HI0.out), kq0 HK.out⟩

def spec_DiskNew.f (a0 : Int) : Option (List Int × (List (S96))) := (spec_l1In.f a0 1 400).bind fun t575 => (if t575 = true then (if 0 ≤ (wrap64 (a0 * 64)) then (if (wrap64 (a0 * 64) : Int).toNat ≤ 281474976710656 then (some ((List.replicate (wrap64 (a0 * 64) : Int).toNat 0), ([] : List (S96)))) else (none)) else (none)) else (some (([] : List Int), ([] : List (S96)))))
set_option maxHeartbeats 8000000 in
set_option maxRecDepth 100000 in
theorem spec_DiskNew.calls (a0 : Int) (r1 : List Int) (r2 : List (S96)) (w : World) (h : spec_DiskNew.f a0 = some (r1, r2)) :
  Calls Try.prog 109 #[.int .i64 a0] w fun e w' => ∃ v0_ v1_ : Value, e = .returned (.agg #[v0_, v1_]) ∧ Kd.R (Kd.int .u8) 5 w' w.heap.size (fun _ => True) v0_ r1 ∧ Kd.S k96 96 w' w.heap.size (fun k_ => some k_ ≠ (v0_ : Value).ownBlock) v1_ r2 ∧ Below w.heap.size w w' := by
 have hu31 := Try.underlying31
 have HB := Ak (Below.refl w.heap.size w)
 have H := h
 unfold spec_DiskNew.f at H
 clear h
 replace H := Option.bind_eq_some_iff.mp H
 obtain ⟨t575, A20, H⟩ := H
 have A2 := Ak A20
 clear A20
 by_cases c3 : t575 = true
 ·subst c3
  rw [if_pos rfl] at H
  obtain ⟨ji4, hji4⟩ : ∃ j_ : Int, (wrap64 (a0 * 64)) = j_ := ⟨_, rfl⟩
  replace H : (if 0 ≤ (ji4) then (if (ji4 : Int).toNat ≤ 281474976710656 then (some ((List.replicate (ji4 : Int).toNat 0), ([] : List (S96)))) else (none)) else (none)) = some (r1, r2) := by first | (rw [hji4] at H; exact H) | (simp only [hji4] at H ⊢; exact H)
  (try rw [hji4] at A2)
  have hji4w : (IntKind.i64.wrap (a0 * 64)) = ji4 := (i64_w _).trans hji4
  by_cases c5 : 0 ≤ (ji4)
  ·rw [if_pos c5] at H
   have c5b0 := eq_true c5
   have c5b1 := decide_eq_true c5
   clear c5
   by_cases c6 : (ji4 : Int).toNat ≤ 281474976710656
   ·rw [if_pos c6] at H
    have c6b0 := eq_true c6
    have c6b1 := decide_eq_true c6
    clear c6
    generalize hy576 : (List.replicate (ji4 : Int).toNat 0 : List Int) = y576 at H
    try rw [Option.bind_some] at H
    have Ny576 := Ak hy576.symm
    clear hy576
    simp only [Option.some.injEq, Prod.mk.injEq] at H
    obtain ⟨rfl, rfl⟩ := H
    go_enter Try.func109, Try.ntmps109
    go_wp2_with (first | ((with_reducible refine gate_dst (N := 2) rfl ?_); refine box_event ?hg (N := 2) ?hd (cs := #[.slice none 0 0, .slice none 0 0]) (t := 31) ?hr ?_; (case hd => rfl); (case hg => rfl); (case hr => first | (go_simp; done) | (go_simp; rfl)); intro gb574 hg w7 hbox hb; have BK574 := Ak (hbox); have GW574 := Ak ((zb hg (bw HB.out))); have GE574 := Ak ((zb hg (bw HB.out))); replace HB := Ak (below_step (bw HB.out) hb); clear hb hbox hg) | ((with_reducible refine gate_callee (f := 97) rfl ?_); refine goesL_ (some 4) rfl rfl Try.func97 (by kernel_rfl) rfl #[.int .i64 a0, .int .i64 1, .int .i64 400] rfl gm ?_; (with_reducible refine (spec_l1In.calls a0 1 400 true _ A2.out).mono ?_); rintro e w' ⟨rfl, ⟨nd, rfl⟩⟩; refine ⟨_, rfl, ?_⟩; (try (rw [drewN_self w7]; generalize hq_ : World.drewN w7 _ = w7; replace BK574 : Aside0 (w7.heap[gb574]? = some (.cells #[.slice none 0 0, .slice none 0 0] 31 (0, 0))) := ⟨by rw [← hq_]; exact (bq BK574.out)⟩; replace HB : Aside0 (Below w.heap.size w w7) := ⟨by rw [← hq_]; exact (bw1 HB.out GE574.out)⟩; clear hq_))) | ((with_reducible refine gate_dst (N := 9) rfl ?_); refine Kd.R_make (Kd.int .u8) _ 5 rfl (N := 9) rfl 22 _ _ rfl ji4 rfl rfl Try.underlying22 (.int .u8 0) 1 info5 rfl (by decide) (by omega) 0 (ok := fun _ => True) (okp := fun _ => True) rfl (fun _ hk => hk) trivial (of_decide_eq_true (by first | (with_reducible assumption) | assumption)) (Nat.le_trans (Nat.mul_le_mul_right _ (of_decide_eq_true (by first | (with_reducible assumption) | assumption) : ji4.toNat ≤ 281474976710656)) (by omega)) (Below.refl _ _) (Nat.le_refl _) ?_; intro v577 w8 ho9 hb hg_ hnew_; clear hg_ hnew_; (first | rw [← Ny576.out] at ho9 | (simp only [Int.reduceToNat] at ho9; rw [← Ny576.out] at ho9)); have HO578 := Ak (Kd.R_lower ho9 (below_size (bw1 HB.out GE574.out))); replace BK574 := Ak (blk_below (bq BK574.out) hb); replace HB := Ak (below_step (bw1 HB.out GE574.out) hb); clear hb ho9; obtain ⟨Ao10, co10, eo10⟩ := Kd.R_slice HO578.out; subst eo10; have hcz11_0 := zk0 BK574.out; have hcz11_1 := zk1 BK574.out; have hfz11_0 := blk_frozen BK574.out 0; have hfz11_1 := blk_frozen BK574.out 1))
    refine bodyPost_ret (results_cell_row rfl _ _ gb574 31 #[.slice Ao10 y576.length co10, .slice none 0 0] (0, 0) _ rfl (by refine bq ?_; refine blk_put (cs := #[.slice Ao10 y576.length co10, .slice none 0 0]) ?_ 1 _ rfl; refine bq ?_; refine blk_put (cs := #[.slice none 0 0, .slice none 0 0]) ?_ 0 _ rfl; exact bq BK574.out) Try.underlying31 rfl (by kernel_rfl)) rfl ?_
    exact ⟨_, _, by first | rfl | (simp [errW_none, errW_some] <;> rfl) | (simp only [← hji4]; first | rfl | (simp [errW_none, errW_some] <;> rfl)) | (simp [*, errW_none, errW_some] <;> rfl), by refine rq ?_; exact Kd.R_mono (Kd.R_far (p := ⟨gb574, 1, none⟩) (Kd.R_far (p := ⟨gb574, 0, none⟩) (Kd.R_types HO578.out BK574.out (by decide)) (fun _ hk => hk.2) (.slice Ao10 y576.length co10)) (fun _ hk => hk.2) (.slice none 0 0)) (fun _ hk => trivial), by first | exact Kd.S_nil _ _ _ _ _ | exact Kd.N_nil _ _ _ _ _ | exact Kd.V_nil _ _ _ _ _ | exact Kd.Q_nil _ _ _ _ _ | exact Kd.R_nil _ _ _ _ _, bw1 HB.out GE574.out⟩
   ·rw [if_neg c6] at H
    exact absurd H (by simp)
  ·rw [if_neg c5] at H
   exact absurd H (by simp)
 ·replace c3 := Bool.eq_false_iff.mpr c3
  subst c3
  rw [if_neg (show ¬ (false = true) by decide)] at H
  simp only [Option.some.injEq, Prod.mk.injEq] at H
  obtain ⟨rfl, rfl⟩ := H
  go_enter Try.func109, Try.ntmps109
  go_wp2_with (first | ((with_reducible refine gate_dst (N := 2) rfl ?_); refine box_event ?hg (N := 2) ?hd (cs := #[.slice none 0 0, .slice none 0 0]) (t := 31) ?hr ?_; (case hd => rfl); (case hg => rfl); (case hr => first | (go_simp; done) | (go_simp; rfl)); intro gb574 hg w12 hbox hb; have BK574 := Ak (hbox); have GW574 := Ak ((zb hg (bw HB.out))); have GE574 := Ak ((zb hg (bw HB.out))); replace HB := Ak (below_step (bw HB.out) hb); clear hb hbox hg) | ((with_reducible refine gate_callee (f := 97) rfl ?_); refine goesL_ (some 4) rfl rfl Try.func97 (by kernel_rfl) rfl #[.int .i64 a0, .int .i64 1, .int .i64 400] rfl gm ?_; (with_reducible refine (spec_l1In.calls a0 1 400 false _ A2.out).mono ?_); rintro e w' ⟨rfl, ⟨nd, rfl⟩⟩; refine ⟨_, rfl, ?_⟩; (try (rw [drewN_self w12]; generalize hq_ : World.drewN w12 _ = w12; replace BK574 : Aside0 (w12.heap[gb574]? = some (.cells #[.slice none 0 0, .slice none 0 0] 31 (0, 0))) := ⟨by rw [← hq_]; exact (bq BK574.out)⟩; replace HB : Aside0 (Below w.heap.size w w12) := ⟨by rw [← hq_]; exact (bw1 HB.out GE574.out)⟩; clear hq_)); have hcz13_0 := zk0 BK574.out; have hcz13_1 := zk1 BK574.out; have hfz13_0 := blk_frozen BK574.out 0; have hfz13_1 := blk_frozen BK574.out 1))
  refine bodyPost_ret (results_cell_row rfl _ _ gb574 31 #[.slice none 0 0, .slice none 0 0] (0, 0) _ rfl (by refine bq ?_; refine blk_put (cs := #[.slice none 0 0, .slice none 0 0]) ?_ 1 _ rfl; refine bq ?_; refine blk_put (cs := #[.slice none 0 0, .slice none 0 0]) ?_ 0 _ rfl; exact bq BK574.out) Try.underlying31 rfl (by kernel_rfl)) rfl ?_
  exact ⟨_, _, zw, by first | exact Kd.R_nil _ _ _ _ _ | exact Kd.N_nil _ _ _ _ _ | exact Kd.V_nil _ _ _ _ _ | exact Kd.Q_nil _ _ _ _ _ | exact Kd.S_nil _ _ _ _ _, by first | exact Kd.S_nil _ _ _ _ _ | exact Kd.N_nil _ _ _ _ _ | exact Kd.V_nil _ _ _ _ _ | exact Kd.Q_nil _ _ _ _ _ | exact Kd.R_nil _ _ _ _ _, bw1 HB.out GE574.out⟩

def spec_Crash.l0 : Nat → List Int → List (S96) → Int → List Int → List (S96) → List Int → List (S96) → Option (List Int × (List (S96)))
 | 0, _, _, _, _, _, _, _ => none
 | k + 1, x1, x6, x7, x525000, x525001, x533000, x533001 => if x7 < (x525001.length : Int) then (if (wrap64 (Int.tdiv x7 8)) < (x1.length : Int) then (if 0 ≤ (wrap64 (Int.tdiv x7 8)) then (if 0 ≤ (IntKind.u64.wrap (Int.tmod x7 8)) then (if (Go.bits .and .u8 (shr .u8 (rd x1 (wrap64 (Int.tdiv x7 8))) (IntKind.u64.wrap (Int.tmod x7 8))) 1) = 1 then (if 0 ≤ x7 then (if x7 < (x533001.length : Int) then (if x6.length < 4398046511104 then (spec_Crash.l0 k x1 (x6 ++ [(⟨(rd_T96 x533001 x7).f0, (rd_T96 x533001 x7).f1⟩ : S96)]) (wrap64 (x7 + 1)) x525000 x525001 x533000 x533001) else (none)) else (none)) else (none)) else (spec_Crash.l0 k x1 x6 (wrap64 (x7 + 1)) x525000 x525001 x533000 x533001)) else (none)) else (none)) else (spec_Crash.l0 k x1 x6 (wrap64 (x7 + 1)) x525000 x525001 x533000 x533001)) else ((spec_Sync.f k x533000 x6).bind fun bt542 => (some (bt542.1, bt542.2)))
def spec_Crash.f (k : Nat) (l0_0 : List Int) (l0_1 : List (S96)) (l1 : List Int) : Option (List Int × (List (S96))) := (spec_l11Copy.f k l0_0 l0_1).bind fun bt526 => ((spec_DiskOk.f k l0_0 l0_1).bind fun t533 => (if t533 = true then (spec_Crash.l0 k l1 (([] : List (S96))) 0 l0_0 l0_1 bt526.1 bt526.2) else (some (bt526.1, bt526.2))))
set_option maxHeartbeats 8000000 in
set_option maxRecDepth 100000 in
theorem spec_Crash.calls (k : Nat) (A0_0 : Option Addr) (c0_0 : Nat) (l0_0 : List Int) (A0_1 : Option Addr) (c0_1 : Nat) (l0_1 : List (S96)) (A1 : Option Addr) (c1 : Nat) (l1 : List Int) (r1 : List Int) (r2 : List (S96)) (w : World) (hr0_0 : Kd.C (Kd.int .u8) w A0_0 l0_0.length l0_0) (hc0_0 : l0_0.length ≤ c0_0) (hr0_1 : Kd.C k96 w A0_1 l0_1.length l0_1) (hc0_1 : l0_1.length ≤ c0_1) (hr1 : Kd.C (Kd.int .u8) w A1 l1.length l1) (hc1 : l1.length ≤ c1) (h : spec_Crash.f k l0_0 l0_1 l1 = some (r1, r2)) :
  Calls Try.prog 110 #[.agg #[.slice A0_0 l0_0.length c0_0, .slice A0_1 l0_1.length c0_1], .slice A1 l1.length c1] w fun e w' => ∃ v0_ v1_ : Value, e = .returned (.agg #[v0_, v1_]) ∧ Kd.R (Kd.int .u8) 5 w' w.heap.size (fun _ => True) v0_ r1 ∧ Kd.S k96 96 w' w.heap.size (fun k_ => some k_ ≠ (v0_ : Value).ownBlock) v1_ r2 ∧ Below w.heap.size w w' := by
 have hu31 := Try.underlying31
 have hu96 := Try.underlying96
 have HR0_0 := Ak hr0_0
 have HC0_0 := Ak hc0_0
 clear hr0_0 hc0_0
 have HR0_1 := Ak hr0_1
 have HC0_1 := Ak hc0_1
 clear hr0_1 hc0_1
 have HR1 := Ak hr1
 have HC1 := Ak hc1
 clear hr1 hc1
 have HB := Ak (Below.refl w.heap.size w)
 have H := h
 unfold spec_Crash.f at H
 clear h
 replace H := Option.bind_eq_some_iff.mp H
 obtain ⟨⟨t526, t529⟩, A30, H⟩ := H
 (try dsimp only at H)
 have A3 := Ak A30
 clear A30
 replace H := Option.bind_eq_some_iff.mp H
 obtain ⟨t533, A40, H⟩ := H
 have A4 := Ak A40
 clear A40
 by_cases c5 : t533 = true
 ·subst c5
  rw [if_pos rfl] at H
  obtain ⟨y534, hy534⟩ : ∃ y_ : List (S96), y_ = (([] : List (S96))) := ⟨_, rfl⟩
  replace H : (spec_Crash.l0 k l1 y534 0 l0_0 l0_1 t526 t529) = some (r1, r2) := by first | (rw [hy534]; with_reducible exact H) | (have H2_ := (Option.bind_some _ _).symm.trans H; rw [hy534]; with_reducible exact H2_) | (have H2_ := (Option.bind_some _ _).symm.trans H; with_reducible exact H2_) | with_reducible exact H | (rw [hy534]; exact H) | exact H
  have Ny534 := Ak hy534
  clear hy534
  have H' := Ak H
  clear H
  go_enter Try.func110, Try.ntmps110
  go_wp2_with (first | ((with_reducible refine gate_dst (N := 2) rfl ?_); refine box_event ?hg (N := 2) ?hd (cs := #[.slice A0_0 l0_0.length c0_0, .slice A0_1 l0_1.length c0_1]) (t := 31) ?hr ?_; (case hd => rfl); (case hg => rfl); (case hr => first | (go_simp; done) | (go_simp; rfl)); intro gb524 hg w6 hbox hb; have BK524 := Ak (hbox); have GW524 := Ak ((zb hg (bw HB.out))); have GE524 := Ak ((zb hg (bw HB.out))); replace HB := Ak (below_step (bw HB.out) hb); clear hb hbox hg) | ((with_reducible refine gate_dst (N := 4) rfl ?_); refine box_event ?hg (N := 4) ?hd (cs := #[.slice none 0 0, .slice none 0 0]) (t := 31) ?hr ?_; (case hd => rfl); (case hg => rfl); (case hr => first | (go_simp; done) | (go_simp; rfl)); intro gb525 hg w7 hbox hb; have BK525 := Ak (hbox); have GW525 := Ak ((zb hg (bw1 HB.out GE524.out))); have GE525 := Ak ((zb hg (bw1 HB.out GE524.out))); replace HB := Ak (below_step (bw1 HB.out GE524.out) hb); have NB524_525 := Ak ((zl hg (bq BK524.out))); have NB525_524 := Ak ((zm hg (bq BK524.out))); replace BK524 := Ak (blk_below (bq BK524.out) hb); clear hb hbox hg; have hnb8 := NB524_525.out; have hnc8 := NB525_524.out; have hcz9_0 := zk0 BK524.out; have hcz9_1 := zk1 BK524.out; have hfz9_0 := blk_frozen BK524.out 0; have hfz9_1 := blk_frozen BK524.out 1) | ((with_reducible refine gate_callee (f := 44) rfl ?_); refine goesL_ (some 9) rfl rfl Try.func44 (by kernel_rfl) rfl #[.agg #[.slice A0_0 l0_0.length c0_0, .slice A0_1 l0_1.length c0_1]] rfl gm ?_; (with_reducible refine (spec_l11Copy.calls k _ _ l0_0 _ _ l0_1 t526 t529 _ ?side1 ?side2 ?side3 ?side4 A3.out).mono ?_); (case side1 => exact zq (Kd.C_below HR0_0.out HB.out)); (case side2 => exact HC0_0.out); (case side3 => exact zq (Kd.C_below HR0_1.out HB.out)); (case side4 => exact HC0_1.out); rintro e w10 ⟨v527, v530, rfl, ho0, ho1, hb⟩; refine ⟨_, rfl, ?_⟩; have HO528 := Ak (Kd.R_lower (Kd.R_newM (M := fun k_ => (w.heap.size ≤ k_)) ho0 (below_size (bw2 HB.out GE524.out GE525.out)) (fun k_ h_ => h_)) (below_size (bw2 HB.out GE524.out GE525.out))); have HO531 := Ak (Kd.N_lower (Kd.N_mono (ok' := fun k_ => (w.heap.size ≤ k_) ∧ Nb k_ v527 ∧ k_ ≠ gb524 ∧ k_ ≠ gb525) (Kd.S_N (Kd.S_bound ho1)) (fun k_ hk_ => ⟨(Nat.le_trans (below_size (bw2 HB.out GE524.out GE525.out)) hk_.2.1), hk_.1, (Kd.freshB (g := gb524) (o := .cells #[.slice A0_0 l0_0.length c0_0, .slice A0_1 l0_1.length c0_1] 31 (0, 0)) (bq BK524.out) k_ hk_.2.1), (Kd.freshB (g := gb525) (o := .cells #[.slice none 0 0, .slice none 0 0] 31 (0, 0)) (bq BK525.out) k_ hk_.2.1)⟩)) (below_size (bw2 HB.out GE524.out GE525.out))); replace BK524 := Ak (blk_below (bq BK524.out) hb); replace BK525 := Ak (blk_below (bq BK525.out) hb); replace HB := Ak (below_step (bw2 HB.out GE524.out GE525.out) hb)) | ((with_reducible refine gate_dst (N := 5) rfl ?_); refine box_event ?hg (N := 5) ?hd (cs := #[.slice none 0 0, .slice none 0 0]) (t := 31) ?hr ?_; (case hd => rfl); (case hg => rfl); (case hr => first | (go_simp; done) | (go_simp; rfl)); intro gb532 hg w11 hbox hb; replace HO528 := Ak (Kd.R_below (rq HO528.out) hb); replace HO531 := Ak (Kd.N_below (Kd.N_elderB (by (with_reducible repeat (first | apply Kd.N_alloc | apply Kd.N_drewN | apply Kd.N_drew)); exact HO531.out) gb532 (Nat.le_of_eq hg.symm)) hb); have BK532 := Ak (hbox); have GW532 := Ak ((zb hg (bw2 HB.out GE524.out GE525.out))); have GE532 := Ak ((zb hg (bw2 HB.out GE524.out GE525.out))); replace HB := Ak (below_step (bw2 HB.out GE524.out GE525.out) hb); have NB524_532 := Ak ((zl hg (bq BK524.out))); have NB532_524 := Ak ((zm hg (bq BK524.out))); replace BK524 := Ak (blk_below (bq BK524.out) hb); have NB525_532 := Ak ((zl hg (bq BK525.out))); have NB532_525 := Ak ((zm hg (bq BK525.out))); replace BK525 := Ak (blk_below (bq BK525.out) hb); clear hb hbox hg; obtain ⟨Ao12, co12, eo12⟩ := Kd.R_slice HO528.out; subst eo12; have hnb13 := NB532_524.out; have hnc13 := NB524_532.out; have hnb14 := NB532_525.out; have hnc14 := NB525_532.out; have hcz15_0 := zk0 BK532.out; have hcz15_1 := zk1 BK532.out; have hfz15_0 := blk_frozen BK532.out 0; have hfz15_1 := blk_frozen BK532.out 1; obtain ⟨Ao16, co16, eo16⟩ := Kd.N_slice HO531.out; subst eo16; have hcz17_0 := zk0 BK524.out; have hcz17_1 := zk1 BK524.out; have hfz17_0 := blk_frozen BK524.out 0; have hfz17_1 := blk_frozen BK524.out 1) | ((with_reducible refine gate_callee (f := 98) rfl ?_); refine goesL_ (some 11) rfl rfl Try.func98 (by kernel_rfl) rfl #[.agg #[.slice A0_0 l0_0.length c0_0, .slice A0_1 l0_1.length c0_1]] rfl gm ?_; (with_reducible refine (spec_DiskOk.calls k _ _ l0_0 _ _ l0_1 true _ ?side1 ?side2 ?side3 ?side4 A4.out).mono ?_); (case side1 => exact Kd.C_below HR0_0.out (bw3 HB.out GE524.out GE525.out GE532.out)); (case side2 => exact HC0_0.out); (case side3 => exact Kd.C_below HR0_1.out (bw3 HB.out GE524.out GE525.out GE532.out)); (case side4 => exact HC0_1.out); rintro e w18 ⟨rfl, hb⟩; refine ⟨_, rfl, ?_⟩; replace HO528 := Ak (Kd.R_below (by (with_reducible repeat (first | apply Kd.R_alloc | apply Kd.R_drewN | apply Kd.R_drew)); exact (Kd.R_mono (Kd.R_far (p := ⟨gb532, 1, none⟩) (Kd.R_far (p := ⟨gb532, 0, none⟩) (Kd.R_types HO528.out BK532.out (by decide)) (fun _ hk => hk.2) (.slice Ao12 t526.length co12)) (fun _ hk => hk.2) (.slice Ao16 t529.length co16)) (fun _ h_ => h_.1))) hb); replace HO531 := Ak (Kd.N_below (by (with_reducible repeat (first | apply Kd.N_alloc | apply Kd.N_drewN | apply Kd.N_drew)); exact (Kd.N_mono (Kd.N_far (p := ⟨gb532, 1, none⟩) (Kd.N_far (p := ⟨gb532, 0, none⟩) (Kd.N_mono HO531.out (fun k_ hk => (⟨hk, hk.2⟩ : _ ∧ k_ ≠ gb532))) (fun _ hk => hk.2) (.slice Ao12 t526.length co12)) (fun _ hk => hk.2) (.slice Ao16 t529.length co16)) (fun _ h_ => h_.1))) hb); replace BK524 := Ak (blk_below (g := gb524) (o := .cells #[.slice A0_0 l0_0.length c0_0, .slice A0_1 l0_1.length c0_1] 31 (0, 0)) (by refine bq ?_; refine blk_far ?_ NB524_532.out _; refine bq ?_; refine blk_far ?_ NB524_532.out _; exact bq BK524.out) hb); replace BK525 := Ak (blk_below (g := gb525) (o := .cells #[.slice none 0 0, .slice none 0 0] 31 (0, 0)) (by refine bq ?_; refine blk_far ?_ NB525_532.out _; refine bq ?_; refine blk_far ?_ NB525_532.out _; exact bq BK525.out) hb); replace BK532 := Ak (blk_below (g := gb532) (o := .cells #[.slice Ao12 t526.length co12, .slice Ao16 t529.length co16] 31 (0, 0)) (by refine bq ?_; refine blk_put (cs := #[.slice Ao12 t526.length co12, .slice none 0 0]) ?_ 1 _ rfl; refine bq ?_; refine blk_put (cs := #[.slice none 0 0, .slice none 0 0]) ?_ 0 _ rfl; exact bq BK532.out) hb); replace HB := Ak (below_step (bw3 HB.out GE524.out GE525.out GE532.out) hb)) | ((with_reducible refine gate_dst (N := 14) rfl ?_); refine Kd.N_lit k96 _ 96 ?hg (N' := 14) ?hd (xs := ([] : List (S96))) (inner := []) (ok := (fun k_ => (w.heap.size ≤ k_) ∧ Nb k_ (.slice Ao12 t526.length co12) ∧ Nb k_ (.slice Ao16 t529.length co16) ∧ k_ ≠ gb524 ∧ k_ ≠ gb525 ∧ k_ ≠ gb532)) (okp := (fun k_ => (w.heap.size ≤ k_) ∧ Nb k_ (.slice Ao12 t526.length co12) ∧ Nb k_ (.slice Ao16 t529.length co16) ∧ k_ ≠ gb524 ∧ k_ ≠ gb525 ∧ k_ ≠ gb532)) ?hr ?hp (fun _ hk => hk) ((show ∀ k_, w18.heap.size ≤ k_ → (fun k_ => (w.heap.size ≤ k_) ∧ Nb k_ (.slice Ao12 t526.length co12) ∧ Nb k_ (.slice Ao16 t529.length co16) ∧ k_ ≠ gb524 ∧ k_ ≠ gb525 ∧ k_ ≠ gb532) k_ from fun k_ hk => ⟨(Nat.le_trans (below_size (bw3 HB.out GE524.out GE525.out GE532.out)) hk), Kd.fresh' (Kd.R_lt (rq HO528.out)) k_ hk, Kd.fresh' (Kd.N_lt (by (with_reducible repeat (first | apply Kd.N_alloc | apply Kd.N_drewN | apply Kd.N_drew)); exact HO531.out)) k_ hk, Kd.freshB (g := gb524) (o := .cells #[.slice A0_0 l0_0.length c0_0, .slice A0_1 l0_1.length c0_1] 31 (0, 0)) (bq BK524.out) k_ hk, Kd.freshB (g := gb525) (o := .cells #[.slice none 0 0, .slice none 0 0] 31 (0, 0)) (bq BK525.out) k_ hk, Kd.freshB (g := gb532) (o := .cells #[.slice Ao12 t526.length co12, .slice Ao16 t529.length co16] 31 (0, 0)) (bq BK532.out) k_ hk⟩) _ (Nat.le_refl _)) (Below.refl _ _) (Nat.le_refl _) (by simp) ?_; (case hd => rfl); (case hg => rfl); (case hr => first | (go_simp; done) | (go_simp; rfl)); (case hp => exact (Reps.none _ _)); intro v535 w19 ho20 hb hg_ hnew_; clear hg_ hnew_; (first | rw [← Ny534.out] at ho20 | (simp only [Int.reduceToNat] at ho20; rw [← Ny534.out] at ho20)); replace HO528 := Ak (Kd.R_below (rq HO528.out) hb); replace HO531 := Ak (Kd.N_elder' (by (with_reducible repeat (first | apply Kd.N_alloc | apply Kd.N_drewN | apply Kd.N_drew)); exact HO531.out) (Kd.N_base ho20) hb); have HO536 := Ak (Kd.N_lower ho20 (below_size (bw3 HB.out GE524.out GE525.out GE532.out))); replace BK524 := Ak (blk_below (bq BK524.out) hb); replace BK525 := Ak (blk_below (bq BK525.out) hb); replace BK532 := Ak (blk_below (bq BK532.out) hb); replace HB := Ak (below_step (bw3 HB.out GE524.out GE525.out GE532.out) hb); clear hb ho20))
  go_loopg [6, 7] k (fun kq v6 v7 w' => ∃ (x6_1 : List (S96)) (x7_1 : Int), v7 = .int .i64 x7_1 ∧ Aside0 (spec_Crash.l0 kq l1 x6_1 x7_1 l0_0 l0_1 t526 t529 = some (r1, r2)) ∧ Aside0 (kq ≤ k) ∧ Aside0 (Kd.N k96 96 w' w.heap.size (fun k_ => (w.heap.size ≤ k_) ∧ some k_ ≠ ((.slice Ao12 t526.length co12) : Value).ownBlock ∧ some k_ ≠ ((.slice Ao16 t529.length co16) : Value).ownBlock ∧ k_ ≠ gb524 ∧ k_ ≠ gb525 ∧ k_ ≠ gb532) v6 x6_1) ∧ Aside0 (Kd.R (Kd.int .u8) 5 w' w.heap.size (fun k_ => (w.heap.size ≤ k_)) (.slice Ao12 t526.length co12) t526) ∧ Aside0 (Kd.N k96 96 w' w.heap.size (fun k_ => (w.heap.size ≤ k_) ∧ Nb k_ v6 ∧ some k_ ≠ ((.slice Ao12 t526.length co12) : Value).ownBlock ∧ k_ ≠ gb524 ∧ k_ ≠ gb525 ∧ k_ ≠ gb532) (.slice Ao16 t529.length co16) t529) ∧ Aside0 (w'.heap[gb524]? = some (.cells #[(.slice A0_0 l0_0.length c0_0), (.slice A0_1 l0_1.length c0_1)] 31 (0, 0))) ∧ Aside0 (w'.heap[gb525]? = some (.cells #[(.slice none 0 0), (.slice none 0 0)] 31 (0, 0))) ∧ Aside0 (w'.heap[gb532]? = some (.cells #[(.slice Ao12 t526.length co12), (.slice Ao16 t529.length co16)] 31 (0, 0))) ∧ Aside0 (Below w.heap.size w w'))
  case atStart => exact ⟨(y534), (0), (by first | rfl | (simp; done) | (simp [*]; done)), H', ⟨Nat.le_refl _⟩, ⟨by (with_reducible repeat (first | apply Kd.N_alloc | apply Kd.N_drewN | apply Kd.N_drew)); exact HO536.out⟩, ⟨by refine rq ?_; exact Kd.R_mono HO528.out (fun _ hk => hk.1)⟩, ⟨by (with_reducible repeat (first | apply Kd.N_alloc | apply Kd.N_drewN | apply Kd.N_drew)); exact Kd.N_mono HO531.out (fun _ hk => ⟨hk.1.1.1, ⟨hk.2, ⟨hk.1.1.2.1, ⟨hk.1.1.2.2.1, ⟨hk.1.1.2.2.2, hk.1.2⟩⟩⟩⟩⟩)⟩, ⟨bq BK524.out⟩, ⟨bq BK525.out⟩, ⟨bq BK532.out⟩, ⟨bw3 HB.out GE524.out GE525.out GE532.out⟩⟩
  case round =>
   clear H'
   obtain ⟨x6_1, x7_1, rfl, HA, HK1, HO_6, HO_533000, HO_533001, BK524, BK525, BK532, HB⟩ := hrel
   cases gk with
   | zero => exact absurd HA.out (by simp [spec_Crash.l0])
   | succ k1 =>
    have H := HA.out
    clear HA
    simp only [spec_Crash.l0] at H
    by_cases c21 : x7_1 < (l0_1.length : Int)
    ·rw [if_pos c21] at H
     have c21b0 := decide_eq_true c21
     clear c21
     by_cases c22 : (wrap64 (Int.tdiv x7_1 8)) < (l1.length : Int)
     ·rw [if_pos c22] at H
      have c22b0 := decide_eq_true c22
      clear c22
      obtain ⟨ji23, hji23⟩ : ∃ j_ : Int, (wrap64 (Int.tdiv x7_1 8)) = j_ := ⟨_, rfl⟩
      replace H : (if 0 ≤ (ji23) then (if 0 ≤ (IntKind.u64.wrap (Int.tmod x7_1 8)) then (if (Go.bits .and .u8 (shr .u8 (rd l1 (ji23)) (IntKind.u64.wrap (Int.tmod x7_1 8))) 1) = 1 then (if 0 ≤ x7_1 then (if x7_1 < (t529.length : Int) then (if x6_1.length < 4398046511104 then (spec_Crash.l0 k1 l1 (x6_1 ++ [(⟨(rd_T96 t529 x7_1).f0, (rd_T96 t529 x7_1).f1⟩ : S96)]) (wrap64 (x7_1 + 1)) l0_0 l0_1 t526 t529) else (none)) else (none)) else (none)) else (spec_Crash.l0 k1 l1 x6_1 (wrap64 (x7_1 + 1)) l0_0 l0_1 t526 t529)) else (none)) else (none)) = some (r1, r2) := by first | (rw [hji23] at H; exact H) | (simp only [hji23] at H ⊢; exact H)
      (try rw [hji23] at c22b0)
      have hji23w : (IntKind.i64.wrap (Int.tdiv x7_1 8)) = ji23 := (i64_w _).trans hji23
      by_cases c24 : 0 ≤ (ji23)
      ·rw [if_pos c24] at H
       have c24b0 := decide_eq_true c24
       clear c24
       obtain ⟨ji25, hji25⟩ : ∃ j_ : Int, (IntKind.u64.wrap (Int.tmod x7_1 8)) = j_ := ⟨_, rfl⟩
       replace H : (if 0 ≤ (ji25) then (if (Go.bits .and .u8 (shr .u8 (rd l1 (ji23)) (ji25)) 1) = 1 then (if 0 ≤ x7_1 then (if x7_1 < (t529.length : Int) then (if x6_1.length < 4398046511104 then (spec_Crash.l0 k1 l1 (x6_1 ++ [(⟨(rd_T96 t529 x7_1).f0, (rd_T96 t529 x7_1).f1⟩ : S96)]) (wrap64 (x7_1 + 1)) l0_0 l0_1 t526 t529) else (none)) else (none)) else (none)) else (spec_Crash.l0 k1 l1 x6_1 (wrap64 (x7_1 + 1)) l0_0 l0_1 t526 t529)) else (none)) = some (r1, r2) := by first | (rw [hji25] at H; exact H) | (simp only [hji25] at H ⊢; exact H)
       by_cases c26 : 0 ≤ (ji25)
       ·rw [if_pos c26] at H
        have c26b0 := eq_true c26
        have c26b1 := decide_eq_true c26
        clear c26
        obtain ⟨ji27, hji27⟩ : ∃ j_ : Int, (shr .u8 (rd l1 (ji23)) (ji25)) = j_ := ⟨_, rfl⟩
        replace H : (if (Go.bits .and .u8 (ji27) 1) = 1 then (if 0 ≤ x7_1 then (if x7_1 < (t529.length : Int) then (if x6_1.length < 4398046511104 then (spec_Crash.l0 k1 l1 (x6_1 ++ [(⟨(rd_T96 t529 x7_1).f0, (rd_T96 t529 x7_1).f1⟩ : S96)]) (wrap64 (x7_1 + 1)) l0_0 l0_1 t526 t529) else (none)) else (none)) else (none)) else (spec_Crash.l0 k1 l1 x6_1 (wrap64 (x7_1 + 1)) l0_0 l0_1 t526 t529)) = some (r1, r2) := by first | (rw [hji27] at H; exact H) | (simp only [hji27] at H ⊢; exact H)
        have hji27_ : ((rd l1 (ji23)) / 2 ^ min (ji25).toNat 8) = ji27 := hji27
        have hji27z : (ji25) ≤ 8 → ((rd l1 (ji23)) / 2 ^ (ji25).toNat) = ji27 := shr_small hji27
        by_cases c28 : (Go.bits .and .u8 (ji27) 1) = 1
        ·rw [if_pos c28] at H
         have c28b0 : ((Go.bits .and .u8 (ji27) 1) == 1) = true := beq_iff_eq.mpr c28
         have c28b1 : ((Go.bits .and .u8 (ji27) 1) != 1) = false := bne_eq_false_iff_eq.mpr c28
         clear c28
         by_cases c29 : 0 ≤ x7_1
         ·rw [if_pos c29] at H
          have c29b0 := decide_eq_true c29
          clear c29
          by_cases c30 : x7_1 < (t529.length : Int)
          ·rw [if_pos c30] at H
           have c30b0 := decide_eq_true c30
           clear c30
           by_cases c31 : x6_1.length < 4398046511104
           ·rw [if_pos c31] at H
            have LMc31 := Ak c31
            clear c31
            generalize hy539 : (x6_1 ++ [(⟨(rd_T96 t529 x7_1).f0, (rd_T96 t529 x7_1).f1⟩ : S96)] : List (S96)) = y539 at H
            try rw [Option.bind_some] at H
            have Ny539 := Ak hy539.symm
            clear hy539
            have H' := Ak H
            clear H
            have hnb32 := NB524_525.out
            have hnc32 := NB525_524.out
            have hnb33 := NB524_532.out
            have hnc33 := NB532_524.out
            have hcz34_0 : wr.cell? ⟨gb524, 0, none⟩ = some (.slice A0_0 l0_0.length c0_0) := zk0 BK524.out
            have hcz34_1 : wr.cell? ⟨gb524, 1, none⟩ = some (.slice A0_1 l0_1.length c0_1) := zk1 BK524.out
            have hfz34_0 := blk_frozen BK524.out 0
            have hfz34_1 := blk_frozen BK524.out 1
            have p537 : 0 ≤ ((ji23) : Int) := of_decide_eq_true (by first | (with_reducible assumption) | assumption)
            have q537 : (ji23) < (l1.length : Int) := of_decide_eq_true (by first | (with_reducible assumption) | assumption)
            obtain ⟨ad537, e537, hx537_0⟩ := Kd.at_int HR1.out (ji23) p537 q537
            cases e537
            replace hx537_0 := (HB.out.cell (World.block_lt_of_cell? w _ hx537_0)).trans hx537_0
            replace p537 := eq_true p537
            replace q537 := eq_true q537
            have hnb35 := NB532_525.out
            have hnc35 := NB525_532.out
            have hcz36_0 : wr.cell? ⟨gb532, 0, none⟩ = some (.slice Ao12 t526.length co12) := zk0 BK532.out
            have hcz36_1 : wr.cell? ⟨gb532, 1, none⟩ = some (.slice Ao16 t529.length co16) := zk1 BK532.out
            have hfz36_0 := blk_frozen BK532.out 0
            have hfz36_1 := blk_frozen BK532.out 1
            have p538 : 0 ≤ (x7_1 : Int) := of_decide_eq_true (by first | (with_reducible assumption) | assumption)
            have q538 : x7_1 < (t529.length : Int) := of_decide_eq_true (by first | (with_reducible assumption) | assumption)
            obtain ⟨ad538, A538_1, c538_1, e538, hx538_0, hx538_1, hl538_1, hi538_1⟩ := at_T96 (Kd.N_reads' HO_533001.out).2.2 x7_1 p538 q538
            cases e538
            obtain ⟨ce538, hce538, hMe538, hcc538⟩ := Kd.N_get HO_533001.out z96 x7_1 p538 (by first | exact q538 | exact of_decide_eq_true (by first | (with_reducible assumption) | assumption) | (have e_ := (Kd.N_reads' HO_533001.out).1; omega))
            obtain ⟨ua538_1, uc538_1, rfl, ul538_1, ge538_1⟩ := k96_openF hMe538
            have hv538_1 := hcc538 1 _ rfl
            rw [add_field _ _ 1 (by omega)] at hv538_1
            replace hv538_1 := Option.some.inj (hv538_1.symm.trans hx538_1)
            injection hv538_1 with hva_ hvn_ hvc_
            rw [hva_] at ge538_1
            rw [hvc_] at ul538_1
            have HL538_1 := Ak (show Kd.V (Kd.int .u8) 5 _ w.heap.size _ _ ((rd_T96 t529 x7_1).f1) from Kd.V_mk ul538_1 ge538_1)
            clear hva_ hvn_ hvc_ ge538_1 ul538_1
            clear hcc538 hce538
            have HR538_1 := Ak hi538_1
            have HC538_1 := Ak hl538_1
            clear hi538_1 hl538_1
            replace p538 := eq_true p538
            replace q538 := eq_true q538
            go_wp2_with (first | ((with_reducible refine gate_builtin (b := .append) (xs := #[.tmp 40, .tmp 46]) rfl ?_); at_builtin; refine Kd.N_append k96 (w0 := w) w.heap.size rfl (.tmp 40) (.tmp 46) 29 96 (.agg #[(.int .i64 0), (.slice none 0 0)]) 32 rfl Try.underlying29 info96 rfl (by decide) (by omega) u6 x6_1 (⟨(rd_T96 t529 x7_1).f0, (rd_T96 t529 x7_1).f1⟩ : S96) [.int .i64 ((rd_T96 t529 x7_1).f0), .slice A538_1 ((rd_T96 t529 x7_1).f1).length c538_1] (fun k_ => (w.heap.size ≤ k_) ∧ Nb k_ (.slice Ao12 t526.length co12) ∧ some k_ ≠ (.slice (some ad538) t529.length co16 : Value).ownBlock ∧ k_ ≠ gb524 ∧ k_ ≠ gb525 ∧ k_ ≠ gb532) (fun k_ => ((fun k_ => (w.heap.size ≤ k_) ∧ Nb k_ (.slice Ao12 t526.length co12) ∧ some k_ ≠ (.slice (some ad538) t529.length co16 : Value).ownBlock ∧ k_ ≠ gb524 ∧ k_ ≠ gb525 ∧ k_ ≠ gb532)) k_ ∧ some k_ ≠ (u6 : Value).ownBlock) rfl rfl ?aP (fun _ hk => hk) ?aF ?aO ?aB ?aS ?aL ?_; (case aP => exact (k96_mkF _ _ (⟨(rd_T96 t529 x7_1).f0, (rd_T96 t529 x7_1).f1⟩ : S96) (Kd.V_reads' (Kd.V_mono (ok' := (fun k_ => ((fun k_ => (w.heap.size ≤ k_) ∧ Nb k_ (.slice Ao12 t526.length co12) ∧ some k_ ≠ (.slice (some ad538) t529.length co16 : Value).ownBlock ∧ k_ ≠ gb524 ∧ k_ ≠ gb525 ∧ k_ ≠ gb532)) k_ ∧ some k_ ≠ (u6 : Value).ownBlock)) (HL538_1.out) (fun k_ hk => ⟨⟨hk.1.1, ⟨hk.1.2.2.1, ⟨hk.2, ⟨hk.1.2.2.2.1, ⟨hk.1.2.2.2.2.1, hk.1.2.2.2.2.2⟩⟩⟩⟩⟩, hk.1.2.1⟩))).2.1 (Kd.V_F (Kd.V_mono (ok' := (fun k_ => ((fun k_ => (w.heap.size ≤ k_) ∧ Nb k_ (.slice Ao12 t526.length co12) ∧ some k_ ≠ (.slice (some ad538) t529.length co16 : Value).ownBlock ∧ k_ ≠ gb524 ∧ k_ ≠ gb525 ∧ k_ ≠ gb532)) k_ ∧ some k_ ≠ (u6 : Value).ownBlock)) (HL538_1.out) (fun k_ hk => ⟨⟨hk.1.1, ⟨hk.1.2.2.1, ⟨hk.2, ⟨hk.1.2.2.2.1, ⟨hk.1.2.2.2.2.1, hk.1.2.2.2.2.2⟩⟩⟩⟩⟩, hk.1.2.1⟩))))); (case aB => exact (bw3 HB.out GE524.out GE525.out GE532.out)); (case aF => exact (fun k_ hk => ⟨(Nat.le_trans (below_size (bw3 HB.out GE524.out GE525.out GE532.out)) hk), Kd.fresh' (Kd.R_lt (rq HO_533000.out)) k_ hk, Kd.fresh' (Kd.N_lt (by (with_reducible repeat (first | apply Kd.N_alloc | apply Kd.N_drewN | apply Kd.N_drew)); exact HO_533001.out)) k_ hk, Kd.freshB (g := gb524) (o := .cells #[.slice A0_0 l0_0.length c0_0, .slice A0_1 l0_1.length c0_1] 31 (0, 0)) (bq BK524.out) k_ hk, Kd.freshB (g := gb525) (o := .cells #[.slice none 0 0, .slice none 0 0] 31 (0, 0)) (bq BK525.out) k_ hk, Kd.freshB (g := gb532) (o := .cells #[.slice Ao12 t526.length co12, .slice (some ad538) t529.length co16] 31 (0, 0)) (bq BK532.out) k_ hk⟩)); (case aO => exact (by (with_reducible repeat (first | apply Kd.N_alloc | apply Kd.N_drewN | apply Kd.N_drew)); exact HO_6.out)); (case aS => exact (below_size (bw3 HB.out GE524.out GE525.out GE532.out))); (case aL => have := LMc31.out; omega); intro v540 w37 ho hb hg hat; rw [← Ny539.out] at ho; replace HO_533000 := Ak (Kd.R_over' (rq HO_533000.out) (Kd.N_typed (by (with_reducible repeat (first | apply Kd.N_alloc | apply Kd.N_drewN | apply Kd.N_drew)); exact HO_6.out)) (by decide) hg); replace HO_533001 := Ak (Kd.N_afterv (ok := (fun k_ => (w.heap.size ≤ k_) ∧ Nb k_ (.slice Ao12 t526.length co12) ∧ k_ ≠ gb524 ∧ k_ ≠ gb525 ∧ k_ ≠ gb532)) (by (with_reducible repeat (first | apply Kd.N_alloc | apply Kd.N_drewN | apply Kd.N_drew)); exact Kd.N_mono HO_533001.out (fun _ hk => ⟨⟨hk.1, ⟨hk.2.2.1, ⟨hk.2.2.2.1, ⟨hk.2.2.2.2.1, hk.2.2.2.2.2⟩⟩⟩⟩, hk.2.1⟩)) hg hat); replace BK524 := Ak (blk_grown (g := gb524) (o := .cells #[.slice A0_0 l0_0.length c0_0, .slice A0_1 l0_1.length c0_1] 31 (0, 0)) (bq BK524.out) hg (Kd.N_ne HO_6.out BK524.out (by decide))); replace BK525 := Ak (blk_grown (g := gb525) (o := .cells #[.slice none 0 0, .slice none 0 0] 31 (0, 0)) (bq BK525.out) hg (Kd.N_ne HO_6.out BK525.out (by decide))); replace BK532 := Ak (blk_grown (g := gb532) (o := .cells #[.slice Ao12 t526.length co12, .slice (some ad538) t529.length co16] 31 (0, 0)) (bq BK532.out) hg (Kd.N_ne HO_6.out BK532.out (by decide))); replace HL538_1 := Ak (Kd.V_afterv (ok := (fun k_ => (w.heap.size ≤ k_) ∧ Nb k_ (.slice Ao12 t526.length co12) ∧ some k_ ≠ (.slice (some ad538) t529.length co16 : Value).ownBlock ∧ k_ ≠ gb524 ∧ k_ ≠ gb525 ∧ k_ ≠ gb532)) (by (with_reducible repeat (first | apply Kd.V_alloc | apply Kd.V_drewN | apply Kd.V_drew)); exact Kd.V_mono HL538_1.out (fun _ hk => ⟨⟨hk.1.1, ⟨hk.1.2.2.1, ⟨hk.2, ⟨hk.1.2.2.2.1, ⟨hk.1.2.2.2.2.1, hk.1.2.2.2.2.2⟩⟩⟩⟩⟩, hk.1.2.1⟩)) hg hat); replace HB := Ak (hb); have HO541 := Ak (ho); clear HO_6; clear ho hb hg hat))
            go_roundg k1
            case measure => have := HK1.out; omega
            case rel => exact ⟨(y539), (wrap64 (x7_1 + 1)), (by first | rfl | (simp; done) | (simp [*]; done)), H', ⟨by have := HK1.out; omega⟩, ⟨by (with_reducible repeat (first | apply Kd.N_alloc | apply Kd.N_drewN | apply Kd.N_drew)); exact HO541.out⟩, ⟨rq HO_533000.out⟩, ⟨by (with_reducible repeat (first | apply Kd.N_alloc | apply Kd.N_drewN | apply Kd.N_drew)); exact Kd.N_mono HO_533001.out (fun _ hk => ⟨hk.1.1, ⟨hk.2, ⟨hk.1.2.1, ⟨hk.1.2.2.1, ⟨hk.1.2.2.2.1, hk.1.2.2.2.2⟩⟩⟩⟩⟩)⟩, ⟨bq BK524.out⟩, ⟨bq BK525.out⟩, ⟨bq BK532.out⟩, ⟨bw3 HB.out GE524.out GE525.out GE532.out⟩⟩
           ·rw [if_neg c31] at H
            exact absurd H (by simp)
          ·rw [if_neg c30] at H
           exact absurd H (by simp)
         ·rw [if_neg c29] at H
          exact absurd H (by simp)
        ·rw [if_neg c28] at H
         have c28b0 : ((Go.bits .and .u8 (ji27) 1) == 1) = false := beq_eq_false_iff_ne.mpr c28
         have c28b1 : ((Go.bits .and .u8 (ji27) 1) != 1) = true := bne_iff_ne.mpr c28
         have H' := Ak H
         clear H
         have hnb38 := NB524_525.out
         have hnc38 := NB525_524.out
         have hnb39 := NB524_532.out
         have hnc39 := NB532_524.out
         have hcz40_0 : wr.cell? ⟨gb524, 0, none⟩ = some (.slice A0_0 l0_0.length c0_0) := zk0 BK524.out
         have hcz40_1 : wr.cell? ⟨gb524, 1, none⟩ = some (.slice A0_1 l0_1.length c0_1) := zk1 BK524.out
         have hfz40_0 := blk_frozen BK524.out 0
         have hfz40_1 := blk_frozen BK524.out 1
         have p537 : 0 ≤ ((ji23) : Int) := of_decide_eq_true (by first | (with_reducible assumption) | assumption)
         have q537 : (ji23) < (l1.length : Int) := of_decide_eq_true (by first | (with_reducible assumption) | assumption)
         obtain ⟨ad537, e537, hx537_0⟩ := Kd.at_int HR1.out (ji23) p537 q537
         cases e537
         replace hx537_0 := (HB.out.cell (World.block_lt_of_cell? w _ hx537_0)).trans hx537_0
         replace p537 := eq_true p537
         replace q537 := eq_true q537
         go_wp2
         go_roundg k1
         case measure => have := HK1.out; omega
         case rel => exact ⟨(x6_1), (wrap64 (x7_1 + 1)), (by first | rfl | (simp; done) | (simp [*]; done)), H', ⟨by have := HK1.out; omega⟩, ⟨by (with_reducible repeat (first | apply Kd.N_alloc | apply Kd.N_drewN | apply Kd.N_drew)); exact HO_6.out⟩, ⟨rq HO_533000.out⟩, ⟨by (with_reducible repeat (first | apply Kd.N_alloc | apply Kd.N_drewN | apply Kd.N_drew)); exact HO_533001.out⟩, ⟨bq BK524.out⟩, ⟨bq BK525.out⟩, ⟨bq BK532.out⟩, ⟨bw3 HB.out GE524.out GE525.out GE532.out⟩⟩
       ·rw [if_neg c26] at H
        exact absurd H (by simp)
      ·rw [if_neg c24] at H
       exact absurd H (by simp)
     ·rw [if_neg c22] at H
      have c22b0 := decide_eq_false c22
      clear c22
      have H' := Ak H
      clear H
      have hnb41 := NB524_525.out
      have hnc41 := NB525_524.out
      have hnb42 := NB524_532.out
      have hnc42 := NB532_524.out
      have hcz43_0 : wr.cell? ⟨gb524, 0, none⟩ = some (.slice A0_0 l0_0.length c0_0) := zk0 BK524.out
      have hcz43_1 : wr.cell? ⟨gb524, 1, none⟩ = some (.slice A0_1 l0_1.length c0_1) := zk1 BK524.out
      have hfz43_0 := blk_frozen BK524.out 0
      have hfz43_1 := blk_frozen BK524.out 1
      go_wp2
      go_roundg k1
      case measure => have := HK1.out; omega
      case rel => exact ⟨(x6_1), (wrap64 (x7_1 + 1)), (by first | rfl | (simp; done) | (simp [*]; done)), H', ⟨by have := HK1.out; omega⟩, ⟨by (with_reducible repeat (first | apply Kd.N_alloc | apply Kd.N_drewN | apply Kd.N_drew)); exact HO_6.out⟩, ⟨rq HO_533000.out⟩, ⟨by (with_reducible repeat (first | apply Kd.N_alloc | apply Kd.N_drewN | apply Kd.N_drew)); exact HO_533001.out⟩, ⟨bq BK524.out⟩, ⟨bq BK525.out⟩, ⟨bq BK532.out⟩, ⟨bw3 HB.out GE524.out GE525.out GE532.out⟩⟩
    ·rw [if_neg c21] at H
     have c21b0 := decide_eq_false c21
     clear c21
     replace H := Option.bind_eq_some_iff.mp H
     obtain ⟨⟨t542, t545⟩, A440, H⟩ := H
     (try dsimp only at H)
     have A44 := Ak A440
     clear A440
     simp only [Option.some.injEq, Prod.mk.injEq] at H
     obtain ⟨rfl, rfl⟩ := H
     have hnb45 := NB524_525.out
     have hnc45 := NB525_524.out
     have hnb46 := NB524_532.out
     have hnc46 := NB532_524.out
     have hcz47_0 : wr.cell? ⟨gb524, 0, none⟩ = some (.slice A0_0 l0_0.length c0_0) := zk0 BK524.out
     have hcz47_1 : wr.cell? ⟨gb524, 1, none⟩ = some (.slice A0_1 l0_1.length c0_1) := zk1 BK524.out
     have hfz47_0 := blk_frozen BK524.out 0
     have hfz47_1 := blk_frozen BK524.out 1
     obtain ⟨Ao48, co48, eo48⟩ := Kd.N_slice HO_6.out
     subst eo48
     have hnb49 := NB532_525.out
     have hnc49 := NB525_532.out
     have hcz50_0 : wr.cell? ⟨gb532, 0, none⟩ = some (.slice Ao12 t526.length co12) := zk0 BK532.out
     have hcz50_1 : wr.cell? ⟨gb532, 1, none⟩ = some (.slice Ao16 t529.length co16) := zk1 BK532.out
     have hfz50_0 := blk_frozen BK532.out 0
     have hfz50_1 := blk_frozen BK532.out 1
     go_wp2_with (first | ((with_reducible refine gate_callee (f := 47) rfl ?_); refine goesL_ (some 51) rfl rfl Try.func47 (by kernel_rfl) rfl #[.agg #[.slice Ao12 t526.length co12, .slice Ao48 x6_1.length co48]] rfl gm ?_; (with_reducible refine (spec_Sync.calls k1 _ _ t526 _ _ x6_1 t542 t545 _ ?side1 ?side2 ?side3 ?side4 A44.out).mono ?_); (case side1 => refine (Kd.R_reads' (e := 5) (base := w.heap.size) (ok := fun k_ => (w.heap.size ≤ k_)) (n := t526.length) (c := co12) ?_).2.2; exact (by refine rq ?_; exact (Kd.R_mono (Kd.R_far (p := ⟨gb532, 1, none⟩) (Kd.R_types HO_533000.out BK532.out (by decide)) (fun _ hk => hk.2) (.slice Ao48 x6_1.length co48)) (fun _ h_ => h_.1)))); (case side2 => exact (Kd.R_reads' HO_533000.out).2.1); (case side3 => refine (Kd.N_reads' (e := 96) (base := w.heap.size) (ok := fun k_ => ((w.heap.size ≤ k_) ∧ (Nb k_ (.slice Ao12 t526.length co12) ∧ (Nb k_ (.slice Ao16 t529.length co16) ∧ (k_ ≠ gb524 ∧ (k_ ≠ gb525 ∧ k_ ≠ gb532)))))) (n := x6_1.length) (c := co48) ?_).2.2; exact (by (with_reducible repeat (first | apply Kd.N_alloc | apply Kd.N_drewN | apply Kd.N_drew)); exact (Kd.N_mono (Kd.N_far (p := ⟨gb532, 1, none⟩) (Kd.N_mono HO_6.out (fun k_ hk => (⟨hk, hk.2.2.2.2.2⟩ : _ ∧ k_ ≠ gb532))) (fun _ hk => hk.2) (.slice Ao48 x6_1.length co48)) (fun _ h_ => h_.1)))); (case side4 => exact (Kd.N_reads' HO_6.out).2.1); rintro e w51 ⟨v543, v546, rfl, ho0, ho1, hb⟩; refine ⟨_, rfl, ?_⟩; have HO544 := Ak (Kd.R_lower (Kd.R_new' (Kd.R_newM (M := fun k_ => (w.heap.size ≤ k_)) ho0 (below_size (bw3 HB.out GE524.out GE525.out GE532.out)) (fun k_ h_ => h_)) (Kd.R_lt (by (with_reducible repeat (first | apply Kd.R_alloc | apply Kd.R_drewN | apply Kd.R_drew)); exact (Kd.R_mono (Kd.R_far (p := ⟨gb532, 1, none⟩) (Kd.R_types HO_533000.out BK532.out (by decide)) (fun _ hk => hk.2) (.slice Ao48 x6_1.length co48)) (fun _ h_ => h_.1))))) (below_size (bw3 HB.out GE524.out GE525.out GE532.out))); have HO547 := Ak (Kd.S_lower (Kd.S_mono (ok' := fun k_ => (w.heap.size ≤ k_) ∧ Nb k_ v543 ∧ Nb k_ (.slice Ao48 x6_1.length co48) ∧ Nb k_ (.slice Ao12 t526.length co12) ∧ Nb k_ (.slice Ao16 t529.length co16) ∧ k_ ≠ gb524 ∧ k_ ≠ gb525 ∧ k_ ≠ gb532) (Kd.S_bound ho1) (fun k_ hk_ => ⟨(Nat.le_trans (below_size (bw3 HB.out GE524.out GE525.out GE532.out)) hk_.2.1), hk_.1, (Kd.fresh' (Kd.N_lt (by (with_reducible repeat (first | apply Kd.N_alloc | apply Kd.N_drewN | apply Kd.N_drew)); exact (Kd.N_mono (Kd.N_far (p := ⟨gb532, 1, none⟩) (Kd.N_mono HO_6.out (fun k_ hk => (⟨hk, hk.2.2.2.2.2⟩ : _ ∧ k_ ≠ gb532))) (fun _ hk => hk.2) (.slice Ao48 x6_1.length co48)) (fun _ h_ => h_.1)))) k_ hk_.2.1), (Kd.fresh' (Kd.R_lt (by (with_reducible repeat (first | apply Kd.R_alloc | apply Kd.R_drewN | apply Kd.R_drew)); exact (Kd.R_mono (Kd.R_far (p := ⟨gb532, 1, none⟩) (Kd.R_types HO_533000.out BK532.out (by decide)) (fun _ hk => hk.2) (.slice Ao48 x6_1.length co48)) (fun _ h_ => h_.1)))) k_ hk_.2.1), (Kd.fresh' (Kd.N_lt (by (with_reducible repeat (first | apply Kd.N_alloc | apply Kd.N_drewN | apply Kd.N_drew)); exact (Kd.N_mono (Kd.N_far (p := ⟨gb532, 1, none⟩) (Kd.N_mono HO_533001.out (fun k_ hk => (⟨hk, hk.2.2.2.2.2⟩ : _ ∧ k_ ≠ gb532))) (fun _ hk => hk.2) (.slice Ao48 x6_1.length co48)) (fun _ h_ => h_.1)))) k_ hk_.2.1), (Kd.freshB (g := gb524) (o := .cells #[.slice A0_0 l0_0.length c0_0, .slice A0_1 l0_1.length c0_1] 31 (0, 0)) (by refine bq ?_; refine blk_far ?_ NB524_532.out _; exact bq BK524.out) k_ hk_.2.1), (Kd.freshB (g := gb525) (o := .cells #[.slice none 0 0, .slice none 0 0] 31 (0, 0)) (by refine bq ?_; refine blk_far ?_ NB525_532.out _; exact bq BK525.out) k_ hk_.2.1), (Kd.freshB (g := gb532) (o := .cells #[.slice Ao12 t526.length co12, .slice Ao48 x6_1.length co48] 31 (0, 0)) (by refine bq ?_; refine blk_put (cs := #[.slice Ao12 t526.length co12, .slice Ao16 t529.length co16]) ?_ 1 _ rfl; exact bq BK532.out) k_ hk_.2.1)⟩)) (below_size (bw3 HB.out GE524.out GE525.out GE532.out))); replace HO_6 := Ak (Kd.N_mono (Kd.N_told (Kd.N_told (Kd.N_old (by (with_reducible repeat (first | apply Kd.N_alloc | apply Kd.N_drewN | apply Kd.N_drew)); exact (Kd.N_mono (Kd.N_far (p := ⟨gb532, 1, none⟩) (Kd.N_mono HO_6.out (fun k_ hk => (⟨hk, hk.2.2.2.2.2⟩ : _ ∧ k_ ≠ gb532))) (fun _ hk => hk.2) (.slice Ao48 x6_1.length co48)) (fun _ h_ => h_.1))) hb) (Kd.R_base ho0)) (Kd.S_base ho1)) (fun _ h_ => h_.1)); replace HO_533000 := Ak (Kd.R_elder' (by (with_reducible repeat (first | apply Kd.R_alloc | apply Kd.R_drewN | apply Kd.R_drew)); exact (Kd.R_mono (Kd.R_far (p := ⟨gb532, 1, none⟩) (Kd.R_types HO_533000.out BK532.out (by decide)) (fun _ hk => hk.2) (.slice Ao48 x6_1.length co48)) (fun _ h_ => h_.1))) (Kd.R_base ho0) hb); replace HO_533001 := Ak (Kd.N_mono (Kd.N_told (Kd.N_told (Kd.N_old (by (with_reducible repeat (first | apply Kd.N_alloc | apply Kd.N_drewN | apply Kd.N_drew)); exact (Kd.N_mono (Kd.N_far (p := ⟨gb532, 1, none⟩) (Kd.N_mono HO_533001.out (fun k_ hk => (⟨hk, hk.2.2.2.2.2⟩ : _ ∧ k_ ≠ gb532))) (fun _ hk => hk.2) (.slice Ao48 x6_1.length co48)) (fun _ h_ => h_.1))) hb) (Kd.R_base ho0)) (Kd.S_base ho1)) (fun _ h_ => h_.1)); replace BK524 := Ak (blk_below (g := gb524) (o := .cells #[.slice A0_0 l0_0.length c0_0, .slice A0_1 l0_1.length c0_1] 31 (0, 0)) (by refine bq ?_; refine blk_far ?_ NB524_532.out _; exact bq BK524.out) hb); replace BK525 := Ak (blk_below (g := gb525) (o := .cells #[.slice none 0 0, .slice none 0 0] 31 (0, 0)) (by refine bq ?_; refine blk_far ?_ NB525_532.out _; exact bq BK525.out) hb); replace BK532 := Ak (blk_below (g := gb532) (o := .cells #[.slice Ao12 t526.length co12, .slice Ao48 x6_1.length co48] 31 (0, 0)) (by refine bq ?_; refine blk_put (cs := #[.slice Ao12 t526.length co12, .slice Ao16 t529.length co16]) ?_ 1 _ rfl; exact bq BK532.out) hb); replace HB := Ak (below_step (bw3 HB.out GE524.out GE525.out GE532.out) hb); obtain ⟨Ao52, co52, eo52⟩ := Kd.R_slice HO544.out; subst eo52; have hcz53_0 := zk0 BK525.out; have hcz53_1 := zk1 BK525.out; have hfz53_0 := blk_frozen BK525.out 0; have hfz53_1 := blk_frozen BK525.out 1; obtain ⟨Ao54, co54, eo54⟩ := Kd.S_slice HO547.out; subst eo54))
     refine bodyPost_ret (results_cell_row rfl _ _ gb525 31 #[.slice Ao52 t542.length co52, .slice Ao54 t545.length co54] (0, 0) _ rfl (by refine bq ?_; refine blk_put (cs := #[.slice Ao52 t542.length co52, .slice none 0 0]) ?_ 1 _ rfl; refine bq ?_; refine blk_put (cs := #[.slice none 0 0, .slice none 0 0]) ?_ 0 _ rfl; exact bq BK525.out) Try.underlying31 rfl (by kernel_rfl)) rfl ?_
     exact ⟨_, _, zw, by refine rq ?_; exact Kd.R_mono (Kd.R_far (p := ⟨gb525, 1, none⟩) (Kd.R_far (p := ⟨gb525, 0, none⟩) (Kd.R_types HO544.out BK525.out (by decide)) (fun _ hk => hk.2) (.slice Ao52 t542.length co52)) (fun _ hk => hk.2) (.slice Ao54 t545.length co54)) (fun _ _ => trivial), by refine sq ?_; exact Kd.S_mono (Kd.S_far (p := ⟨gb525, 1, none⟩) (Kd.S_far (p := ⟨gb525, 0, none⟩) (Kd.S_mono HO547.out (fun k_ hk => (⟨hk, hk.2.2.2.2.2.2.1⟩ : _ ∧ k_ ≠ gb525))) (fun _ hk => hk.2) (.slice Ao52 t542.length co52)) (fun _ hk => hk.2) (.slice Ao54 t545.length co54)) (fun _ hk => hk.1.2.1), bw3 HB.out GE524.out GE525.out GE532.out⟩
 ·replace c5 := Bool.eq_false_iff.mpr c5
  subst c5
  rw [if_neg (show ¬ (false = true) by decide)] at H
  simp only [Option.some.injEq, Prod.mk.injEq] at H
  obtain ⟨rfl, rfl⟩ := H
  go_enter Try.func110, Try.ntmps110
  go_wp2_with (first | ((with_reducible refine gate_dst (N := 2) rfl ?_); refine box_event ?hg (N := 2) ?hd (cs := #[.slice A0_0 l0_0.length c0_0, .slice A0_1 l0_1.length c0_1]) (t := 31) ?hr ?_; (case hd => rfl); (case hg => rfl); (case hr => first | (go_simp; done) | (go_simp; rfl)); intro gb524 hg w55 hbox hb; have BK524 := Ak (hbox); have GW524 := Ak ((zb hg (bw HB.out))); have GE524 := Ak ((zb hg (bw HB.out))); replace HB := Ak (below_step (bw HB.out) hb); clear hb hbox hg) | ((with_reducible refine gate_dst (N := 4) rfl ?_); refine box_event ?hg (N := 4) ?hd (cs := #[.slice none 0 0, .slice none 0 0]) (t := 31) ?hr ?_; (case hd => rfl); (case hg => rfl); (case hr => first | (go_simp; done) | (go_simp; rfl)); intro gb525 hg w56 hbox hb; have BK525 := Ak (hbox); have GW525 := Ak ((zb hg (bw1 HB.out GE524.out))); have GE525 := Ak ((zb hg (bw1 HB.out GE524.out))); replace HB := Ak (below_step (bw1 HB.out GE524.out) hb); have NB524_525 := Ak ((zl hg (bq BK524.out))); have NB525_524 := Ak ((zm hg (bq BK524.out))); replace BK524 := Ak (blk_below (bq BK524.out) hb); clear hb hbox hg; have hnb57 := NB524_525.out; have hnc57 := NB525_524.out; have hcz58_0 := zk0 BK524.out; have hcz58_1 := zk1 BK524.out; have hfz58_0 := blk_frozen BK524.out 0; have hfz58_1 := blk_frozen BK524.out 1) | ((with_reducible refine gate_callee (f := 44) rfl ?_); refine goesL_ (some 9) rfl rfl Try.func44 (by kernel_rfl) rfl #[.agg #[.slice A0_0 l0_0.length c0_0, .slice A0_1 l0_1.length c0_1]] rfl gm ?_; (with_reducible refine (spec_l11Copy.calls k _ _ l0_0 _ _ l0_1 t526 t529 _ ?side1 ?side2 ?side3 ?side4 A3.out).mono ?_); (case side1 => exact zq (Kd.C_below HR0_0.out HB.out)); (case side2 => exact HC0_0.out); (case side3 => exact zq (Kd.C_below HR0_1.out HB.out)); (case side4 => exact HC0_1.out); rintro e w59 ⟨v527, v530, rfl, ho0, ho1, hb⟩; refine ⟨_, rfl, ?_⟩; have HO528 := Ak (Kd.R_lower (Kd.R_newM (M := fun k_ => (w.heap.size ≤ k_)) ho0 (below_size (bw2 HB.out GE524.out GE525.out)) (fun k_ h_ => h_)) (below_size (bw2 HB.out GE524.out GE525.out))); have HO531 := Ak (Kd.S_lower (Kd.S_mono (ok' := fun k_ => (w.heap.size ≤ k_) ∧ Nb k_ v527 ∧ k_ ≠ gb524 ∧ k_ ≠ gb525) (Kd.S_bound ho1) (fun k_ hk_ => ⟨(Nat.le_trans (below_size (bw2 HB.out GE524.out GE525.out)) hk_.2.1), hk_.1, (Kd.freshB (g := gb524) (o := .cells #[.slice A0_0 l0_0.length c0_0, .slice A0_1 l0_1.length c0_1] 31 (0, 0)) (bq BK524.out) k_ hk_.2.1), (Kd.freshB (g := gb525) (o := .cells #[.slice none 0 0, .slice none 0 0] 31 (0, 0)) (bq BK525.out) k_ hk_.2.1)⟩)) (below_size (bw2 HB.out GE524.out GE525.out))); replace BK524 := Ak (blk_below (bq BK524.out) hb); replace BK525 := Ak (blk_below (bq BK525.out) hb); replace HB := Ak (below_step (bw2 HB.out GE524.out GE525.out) hb)) | ((with_reducible refine gate_dst (N := 5) rfl ?_); refine box_event ?hg (N := 5) ?hd (cs := #[.slice none 0 0, .slice none 0 0]) (t := 31) ?hr ?_; (case hd => rfl); (case hg => rfl); (case hr => first | (go_simp; done) | (go_simp; rfl)); intro gb532 hg w60 hbox hb; replace HO528 := Ak (Kd.R_below (rq HO528.out) hb); replace HO531 := Ak (Kd.S_below (Kd.S_elderB (sq HO531.out) gb532 (Nat.le_of_eq hg.symm)) hb); have BK532 := Ak (hbox); have GW532 := Ak ((zb hg (bw2 HB.out GE524.out GE525.out))); have GE532 := Ak ((zb hg (bw2 HB.out GE524.out GE525.out))); replace HB := Ak (below_step (bw2 HB.out GE524.out GE525.out) hb); have NB524_532 := Ak ((zl hg (bq BK524.out))); have NB532_524 := Ak ((zm hg (bq BK524.out))); replace BK524 := Ak (blk_below (bq BK524.out) hb); have NB525_532 := Ak ((zl hg (bq BK525.out))); have NB532_525 := Ak ((zm hg (bq BK525.out))); replace BK525 := Ak (blk_below (bq BK525.out) hb); clear hb hbox hg; obtain ⟨Ao61, co61, eo61⟩ := Kd.R_slice HO528.out; subst eo61; have hnb62 := NB532_524.out; have hnc62 := NB524_532.out; have hnb63 := NB532_525.out; have hnc63 := NB525_532.out; have hcz64_0 := zk0 BK532.out; have hcz64_1 := zk1 BK532.out; have hfz64_0 := blk_frozen BK532.out 0; have hfz64_1 := blk_frozen BK532.out 1; obtain ⟨Ao65, co65, eo65⟩ := Kd.S_slice HO531.out; subst eo65; have hcz66_0 := zk0 BK524.out; have hcz66_1 := zk1 BK524.out; have hfz66_0 := blk_frozen BK524.out 0; have hfz66_1 := blk_frozen BK524.out 1) | ((with_reducible refine gate_callee (f := 98) rfl ?_); refine goesL_ (some 11) rfl rfl Try.func98 (by kernel_rfl) rfl #[.agg #[.slice A0_0 l0_0.length c0_0, .slice A0_1 l0_1.length c0_1]] rfl gm ?_; (with_reducible refine (spec_DiskOk.calls k _ _ l0_0 _ _ l0_1 false _ ?side1 ?side2 ?side3 ?side4 A4.out).mono ?_); (case side1 => exact Kd.C_below HR0_0.out (bw3 HB.out GE524.out GE525.out GE532.out)); (case side2 => exact HC0_0.out); (case side3 => exact Kd.C_below HR0_1.out (bw3 HB.out GE524.out GE525.out GE532.out)); (case side4 => exact HC0_1.out); rintro e w67 ⟨rfl, hb⟩; refine ⟨_, rfl, ?_⟩; replace HO528 := Ak (Kd.R_below (by (with_reducible repeat (first | apply Kd.R_alloc | apply Kd.R_drewN | apply Kd.R_drew)); exact (Kd.R_mono (Kd.R_far (p := ⟨gb532, 1, none⟩) (Kd.R_far (p := ⟨gb532, 0, none⟩) (Kd.R_types HO528.out BK532.out (by decide)) (fun _ hk => hk.2) (.slice Ao61 t526.length co61)) (fun _ hk => hk.2) (.slice Ao65 t529.length co65)) (fun _ h_ => h_.1))) hb); replace HO531 := Ak (Kd.S_below (by (with_reducible repeat (first | apply Kd.S_alloc | apply Kd.S_drewN | apply Kd.S_drew)); exact (Kd.S_mono (Kd.S_far (p := ⟨gb532, 1, none⟩) (Kd.S_far (p := ⟨gb532, 0, none⟩) (Kd.S_mono HO531.out (fun k_ hk => (⟨hk, hk.2⟩ : _ ∧ k_ ≠ gb532))) (fun _ hk => hk.2) (.slice Ao61 t526.length co61)) (fun _ hk => hk.2) (.slice Ao65 t529.length co65)) (fun _ h_ => h_.1))) hb); replace BK524 := Ak (blk_below (g := gb524) (o := .cells #[.slice A0_0 l0_0.length c0_0, .slice A0_1 l0_1.length c0_1] 31 (0, 0)) (by refine bq ?_; refine blk_far ?_ NB524_532.out _; refine bq ?_; refine blk_far ?_ NB524_532.out _; exact bq BK524.out) hb); replace BK525 := Ak (blk_below (g := gb525) (o := .cells #[.slice none 0 0, .slice none 0 0] 31 (0, 0)) (by refine bq ?_; refine blk_far ?_ NB525_532.out _; refine bq ?_; refine blk_far ?_ NB525_532.out _; exact bq BK525.out) hb); replace BK532 := Ak (blk_below (g := gb532) (o := .cells #[.slice Ao61 t526.length co61, .slice Ao65 t529.length co65] 31 (0, 0)) (by refine bq ?_; refine blk_put (cs := #[.slice Ao61 t526.length co61, .slice none 0 0]) ?_ 1 _ rfl; refine bq ?_; refine blk_put (cs := #[.slice none 0 0, .slice none 0 0]) ?_ 0 _ rfl; exact bq BK532.out) hb); replace HB := Ak (below_step (bw3 HB.out GE524.out GE525.out GE532.out) hb); have hcz68_0 := zk0 BK532.out; have hcz68_1 := zk1 BK532.out; have hfz68_0 := blk_frozen BK532.out 0; have hfz68_1 := blk_frozen BK532.out 1; have hcz69_0 := zk0 BK525.out; have hcz69_1 := zk1 BK525.out; have hfz69_0 := blk_frozen BK525.out 0; have hfz69_1 := blk_frozen BK525.out 1))
  refine bodyPost_ret (results_cell_row rfl _ _ gb525 31 #[.slice Ao61 t526.length co61, .slice Ao65 t529.length co65] (0, 0) _ rfl (by refine bq ?_; refine blk_put (cs := #[.slice Ao61 t526.length co61, .slice none 0 0]) ?_ 1 _ rfl; refine bq ?_; refine blk_put (cs := #[.slice none 0 0, .slice none 0 0]) ?_ 0 _ rfl; exact bq BK525.out) Try.underlying31 rfl (by kernel_rfl)) rfl ?_
  exact ⟨_, _, zw, by refine rq ?_; exact Kd.R_mono (Kd.R_far (p := ⟨gb525, 1, none⟩) (Kd.R_far (p := ⟨gb525, 0, none⟩) (Kd.R_types HO528.out BK525.out (by decide)) (fun _ hk => hk.2) (.slice Ao61 t526.length co61)) (fun _ hk => hk.2) (.slice Ao65 t529.length co65)) (fun _ _ => trivial), by refine sq ?_; exact Kd.S_mono (Kd.S_far (p := ⟨gb525, 1, none⟩) (Kd.S_far (p := ⟨gb525, 0, none⟩) (Kd.S_mono HO531.out (fun k_ hk => (⟨hk, hk.1.2.2.2⟩ : _ ∧ k_ ≠ gb525))) (fun _ hk => hk.2) (.slice Ao61 t526.length co61)) (fun _ hk => hk.2) (.slice Ao65 t529.length co65)) (fun _ hk => hk.1.1.2.1), bw3 HB.out GE524.out GE525.out GE532.out⟩

end Go.Proofs.Ytgmnphckgicadaa.PFnLog
