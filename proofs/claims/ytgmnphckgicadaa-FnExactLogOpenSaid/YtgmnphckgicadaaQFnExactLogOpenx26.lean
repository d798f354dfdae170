/- Functions that the law reaches, with their contracts. -/
import Derived.Test.YtgmnphckgicadaaQFnExactLogOpenx19
import Derived.Test.YtgmnphckgicadaaQFnExactLogOpenx20
import Derived.Test.YtgmnphckgicadaaQFnExactLogOpenx23
import Derived.Test.YtgmnphckgicadaaQFnExactLogOpenx24
import Derived.Test.YtgmnphckgicadaaQFnExactLogOpenx25
import Derived.Test.YtgmnphckgicadaaView
namespace Go.Proofs.Ytgmnphckgicadaa.PFnExactLogOpen
open Go.RowKit Go.Proofs.YtgmnphckgicadaaW.PrintWords Go.Proofs.YtgmnphckgicadaaW.PrintLast Go.Proofs.YtgmnphckgicadaaW.PrintMore
attribute [local go_sem] max2_int min2_int max_two min_two max_three min_three max_four min_four
set_option linter.unusedVariables false
set_option linter.unusedSimpArgs false

open Go.Proofs.Ytgmnphckgicadaa.View in
/-- The piece behind the first 16 bytes. -/
def impl_sectorOf.piece (x0 : List Int) (n : Int) : Option (List Int) := if 16 ≤ wrap64 (16 + n) then (if wrap64 (16 + n) ≤ (x0.length : Int) then some ((x0.take (wrap64 (16 + n)).toNat).drop (16 : Int).toNat) else none) else none
theorem impl_sectorOf.piece_some {x0 y : List Int} {n : Int} (h : impl_sectorOf.piece x0 n = some y) : 16 ≤ wrap64 (16 + n) ∧ wrap64 (16 + n) ≤ (x0.length : Int) ∧ y = (x0.take (wrap64 (16 + n)).toNat).drop (16 : Int).toNat := by
 unfold impl_sectorOf.piece at h
 split at h
 ·split at h
  ·exact ⟨by assumption, by assumption, (Option.some.inj h).symm⟩
  ·simp at h
 ·simp at h
mutual
def impl_sectorOf.j0 : Nat → List Int → Int → Bool → Int → Int → Int → Option (Int × Int × Int × List Int × Bool)
 | 0, _, _, _, _, _, _ => none
 | k + 1, x0, x5, x25, x390000, x390001, x390002 => if x25 = true then (some (0, 0, 0, ([] : List Int), false)) else ((impl_sectorOf.piece x0 x5).bind fun t392 => (if x390002 = 2 then (impl_sectorOf.j1 k x0 false x390000 x390001 x390002 t392) else (if x390002 = 1 then (impl_sectorOf.j1 k x0 (x5 != 44) x390000 x390001 x390002 t392) else (impl_sectorOf.j1 k x0 true x390000 x390001 x390002 t392))))
def impl_sectorOf.j1 : Nat → List Int → Bool → Int → Int → Int → List Int → Option (Int × Int × Int × List Int × Bool)
 | 0, _, _, _, _, _, _ => none
 | k + 1, x0, x43, x390000, x390001, x390002, x390003 => if x43 = true then (some (0, 0, 0, ([] : List Int), false)) else ((impl_sector_bytes.f k x390000 x390001 x390002 x390003).bind fun t395 => ((slices_Equal_byte_byte.f k t395 x0).bind fun t398 => (if t398 = true then (some (x390000, x390001, x390002, x390003, true)) else (some (0, 0, 0, ([] : List Int), false)))))
end
def impl_sectorOf.f (k : Nat) (l0 : List Int) : Option (Int × Int × Int × List Int × Bool) := (impl_getLow.f l0 0).bind fun t386 => ((impl_getLow.f l0 4).bind fun t387 => (if 8 < (l0.length : Int) then (if 9 < (l0.length : Int) then (if (wrap64 (rd l0 9)) > 44 then (impl_sectorOf.j0 k l0 (wrap64 (rd l0 9)) true t386 t387 (rd l0 8)) else ((impl_inRange.f t386 1 1000000).bind fun t391 => (impl_sectorOf.j0 k l0 (wrap64 (rd l0 9)) (!t391) t386 t387 (rd l0 8)))) else (none)) else (none)))
def impl_sectorOf.T1 : Bool × List (List Nat × List Nat) := (true, [([], []), ([0], [0]), ([], []), ([2, 1], [2]), ([], []), ([4], [4]), ([5], [5]), ([1, 3, 6], [1, 3, 6]), ([], []), ([8, 7, 3, 0, 1, 2, 3, 4, 5, 6, 7, 8], [7, 8])])
def impl_sectorOf.B1 : List Nat := [0, 1, 0, 7, 0, 16, 48, 127, 0, 511]
theorem impl_sectorOf.tab1 : rtab .any (opsOf Try.f108 1) = impl_sectorOf.T1 := by kernel_rfl
theorem impl_sectorOf.bits1 : waitsOk impl_sectorOf.T1.2 impl_sectorOf.B1 = true := by kernel_rfl
set_option maxHeartbeats 8000000 in
set_option maxRecDepth 100000 in
theorem impl_sectorOf.calls (k : Nat) (A0 : Option Addr) (c0 : Nat) (l0 : List Int) (r1 : Int) (r2 : Int) (r3 : Int) (r4 : List Int) (r5 : Bool) (w : World) (hr0 : Kd.C (Kd.int .u8) w A0 l0.length l0) (hc0 : l0.length ≤ c0) (h : impl_sectorOf.f k l0 = some (r1, r2, r3, r4, r5)) :
  Calls Try.prog 108 #[.slice A0 l0.length c0] w fun e w' => ∃ (A_ : Option Addr) (c_ : Nat), e = .returned (.tuple #[.agg #[.int .i64 r1, .int .i64 r2, .int .u8 r3, .slice A_ r4.length c_], .bool r5]) ∧ View.SubOf A0 c0 l0 A_ c_ r4 ∧ Below w.heap.size w w' := by
 have hu93 := Try.underlying93
 have HR0 := Ak hr0
 have HC0 := Ak hc0
 clear hr0 hc0
 have HB := Ak (Below.refl w.heap.size w)
 have H : ((impl_getLow.f l0 0).bind fun t386 => ((impl_getLow.f l0 4).bind fun t387 => (if 8 < (l0.length : Int) then (if 9 < (l0.length : Int) then (if (wrap64 (rd l0 9)) > 44 then (impl_sectorOf.j0 k l0 (wrap64 (rd l0 9)) true t386 t387 (rd l0 8)) else ((impl_inRange.f t386 1 1000000).bind fun t391 => (impl_sectorOf.j0 k l0 (wrap64 (rd l0 9)) (!t391) t386 t387 (rd l0 8)))) else (none)) else (none)))) = some (r1, r2, r3, r4, r5) := h
 clear h
 replace H := Option.bind_eq_some_iff.mp H
 obtain ⟨t386, A20, H⟩ := H
 replace H : ((impl_getLow.f l0 4).bind fun t387 => (if 8 < (l0.length : Int) then (if 9 < (l0.length : Int) then (if (wrap64 (rd l0 9)) > 44 then (impl_sectorOf.j0 k l0 (wrap64 (rd l0 9)) true t386 t387 (rd l0 8)) else ((impl_inRange.f t386 1 1000000).bind fun t391 => (impl_sectorOf.j0 k l0 (wrap64 (rd l0 9)) (!t391) t386 t387 (rd l0 8)))) else (none)) else (none))) = some (r1, r2, r3, r4, r5) := H
 have A2 := Ak A20
 clear A20
 replace H := Option.bind_eq_some_iff.mp H
 obtain ⟨t387, A30, H⟩ := H
 replace H : (if 8 < (l0.length : Int) then (if 9 < (l0.length : Int) then (if (wrap64 (rd l0 9)) > 44 then (impl_sectorOf.j0 k l0 (wrap64 (rd l0 9)) true t386 t387 (rd l0 8)) else ((impl_inRange.f t386 1 1000000).bind fun t391 => (impl_sectorOf.j0 k l0 (wrap64 (rd l0 9)) (!t391) t386 t387 (rd l0 8)))) else (none)) else (none)) = some (r1, r2, r3, r4, r5) := H
 have A3 := Ak A30
 clear A30
 by_cases c4 : 8 < (l0.length : Int)
 ·rw [if_pos c4] at H
  have c4b0 : decide (8 < (l0.length : Int)) = true := decide_eq_true c4
  have c4b1 : decide (8 < l0.length) = true := decide_eq_true (by omega)
  clear c4
  by_cases c5 : 9 < (l0.length : Int)
  ·rw [if_pos c5] at H
   have c5b0 : decide (9 < (l0.length : Int)) = true := decide_eq_true c5
   have c5b1 : decide (9 < l0.length) = true := decide_eq_true (by omega)
   clear c5
   have HC6 := Ak H
   clear H
   go_enter Try.func108, Try.ntmps108
   try go_wp2_with (first | ((with_reducible refine gate_dst (N := 2) rfl ?_); refine box_event ?hg (N := 2) ?hd (cs := #[.int .i64 0, .int .i64 0, .int .u8 0, .slice none 0 0]) (t := 93) ?hr ?_; (case hd => rfl); (case hg => rfl); (case hr => first | (go_simp; done) | (go_simp; rfl)); intro gb385 hg w7 hbox hb; have n0_ := Ak (below_step (bw HB.out) hb); have n1_ := Ak (hbox); have n2_ := Ak ((by rw [hg]; exact (below_size (bw HB.out)) : w.heap.size ≤ gb385)); have n3_ := Ak ((by rw [hg]; exact (below_size (bw HB.out)) : w.heap.size ≤ gb385)); clear HB; have HB := n0_; have BK385 := n1_; have GW385 := n2_; have GE385 := n3_; clear n0_ n1_ n2_ n3_; clear hb hbox hg))
   have n0_ := Ak (blk_drew BK385.out)
   have n1_ := Ak (below_drew1 HB.out)
   clear BK385
   clear HB
   have BK385 := n0_
   have HB := n1_
   clear n0_ n1_
   have p388 : 0 ≤ (8 : Int) := (by omega)
   have q388 : 8 < (l0.length : Int) := of_decide_eq_true (by first | (with_reducible assumption) | assumption)
   obtain ⟨ad388, e388, hx388_0⟩ := Kd.at_int HR0.out 8 p388 q388
   have hw388_0 := hx388_0
   (try rw [show ((8 : Int)).toNat = 8 from rfl] at hw388_0)
   (try rw [show 8 * 1 = 8 from rfl] at hw388_0)
   (try simp only [Nat.reduceMul, Nat.reduceEqDiff, Go.Addr.add, ↓reduceIte] at hw388_0)
   cases e388
   (try simp only [show (8 : Int).toNat = 8 from rfl, Nat.reduceMul, Nat.reduceEqDiff, Go.Addr.add, ↓reduceIte] at hx388_0)
   have qi388 : (8 < l0.length) = True := eq_true (by omega)
   (try rw [show ((8 : Int)).toNat = 8 from rfl] at hx388_0)
   replace hx388_0 := (HB.out.cell (World.block_lt_of_cell? w _ hx388_0)).trans hx388_0
   replace p388 := eq_true p388
   replace q388 := eq_true q388
   refine start_ (n := 10) (S := fun w' => w'.cell? ⟨ad388.block, ad388.off + 8, none⟩ = some (.int .u8 (rd l0 8))) (ds := []) #[false, false, false, false, false, false, false, false, false, false] (by kernel_rfl) rfl rfl (((HB.out.cell (World.block_lt_of_cell? w _ hw388_0)).trans hw388_0)) (fun hHeld => ?_); refine with_tabW impl_sectorOf.tab1 impl_sectorOf.bits1 (fun HT_ HW_ => ?_)
   generalize w7.drew = w8 at BK385 HB hx388_0 hHeld ⊢
   refine pure_ (i := 0) (N := some 6) (v := ?_) (a' := ?_) #[true, false, false, false, false, false, false, false, false, false] rfl rfl (any_of HT_.out (by kernel_rfl)) (fun _ _ _ h => h) (Or.inl ⟨by rfl, ?_⟩) ?_ ?_
   rotate_left
   ·intro w'
    go_simp
    with_reducible rfl
   rotate_left
   ·simp only [Act.put, sT, sZ, sS, i64_w, i32_w]
    rfl
   refine pure_ (i := 2) (N := some 8) (v := ?_) (a' := ?_) #[true, false, true, false, false, false, false, false, false, false] rfl rfl (any_of HT_.out (by kernel_rfl)) (fun _ _ _ h => h) (Or.inl ⟨by rfl, ?_⟩) ?_ ?_
   rotate_left
   ·intro w'
    go_simp
    with_reducible rfl
   rotate_left
   ·simp only [Act.put, sT, sZ, sS, i64_w, i32_w]
    rfl
   refine pure_ (i := 4) (N := some 10) (v := ?_) (a' := ?_) #[true, false, true, false, true, false, false, false, false, false] rfl rfl (any_of HT_.out (by kernel_rfl)) (fun _ _ _ h => h) (Or.inl ⟨by rfl, ?_⟩) ?_ ?_
   rotate_left
   ·intro w'
    go_simp
    with_reducible rfl
   rotate_left
   ·simp only [Act.put, sT, sZ, sS, i64_w, i32_w]
    rfl
   refine pure_ (i := 5) (N := some 11) (v := ?_) (a' := ?_) #[true, false, true, false, true, true, false, false, false, false] rfl rfl (any_of HT_.out (by kernel_rfl)) (fun _ _ _ h => h) (Or.inl ⟨by rfl, ?_⟩) ?_ ?_
   rotate_left
   ·intro w'
    go_simp
    with_reducible rfl
   rotate_left
   ·simp only [Act.put, sT, sZ, sS, i64_w, i32_w]
    rfl
   refine take_ (i := 6) (N := some 12) (v := ?_) (a' := ?_) #[true, false, true, false, true, true, true, false, false, false] rfl rfl (take_ofW HT_.out HW_.out (by kernel_rfl)) (fun _ _ _ h => h) (Or.inl ⟨by rfl, ?_⟩) hHeld ?_ ?_
   rotate_left
   ·intro w' s0
    go_simp
    with_reducible rfl
   rotate_left
   ·simp only [Act.put, sT, sZ, sS, i64_w, i32_w]
    rfl
   refine join_ (σ := Nat) 1 #[true, true, true, true, true, true, true, true, true, false] (fun s_ => [(7, .int .i64 t386), (9, .int .i64 t387), (4, .pointer (some ⟨s_, 0, none⟩)), (13, .agg #[.int .i64 t386, .int .i64 t387, .int .u8 (rd l0 8), .slice none 0 0])]) (fun s_ w' => (w'.cell? ⟨ad388.block, ad388.off + 8, none⟩ = some (.int .u8 (rd l0 8))) ∧ (w'.heap[gb385]? = some (.cells #[.int .i64 0, .int .i64 0, .int .u8 0, .slice none 0 0] 93 (0, 0))) ∧ (w'.heap[s_]? = some (.cells #[.int .i64 0, .int .i64 0, .int .u8 0, .slice none 0 0] 93 (0, 0))) ∧ (w.heap.size ≤ s_) ∧ (w.heap.size ≤ s_) ∧ (gb385 ≠ s_) ∧ (s_ ≠ gb385) ∧ (Below w.heap.size w w')) ?_ ?_
   rotate_left
   ·intro hCont
    refine two_ (i := 1) (j := 8) (Ni := some 7) (Nj := some 4) #[true, true, true, false, true, true, true, false, false, false] #[true, false, true, false, true, true, true, false, true, false] rfl rfl rfl rfl (two_of HT_.out (by kernel_rfl)) (by decide) (by decide) (fun K hK => ?_) (fun K hK => ?_)
    ·skip
     refine goes_ Try.func130 (by kernel_rfl) rfl #[.slice (some ad388) l0.length c0, .int .i64 0] (by rfl) rfl rfl gm ?_
     with_reducible refine (impl_getLow.calls _ _ l0 0 t386 _ ?side1 ?side2 A2.out).mono ?_
     (case side1 => repeat (first | exact (Kd.C_below HR0.out HB.out) | (with_reducible refine Kd.C_alloc ?_ _) | (with_reducible refine Kd.C_drewN ?_ _) | (with_reducible refine Kd.C_drew ?_)))
     (case side2 => exact HC0.out)
     rintro e w' ⟨rfl, ⟨nd, rfl⟩⟩
     refine ⟨_, rfl, ?_⟩
     refine hK.out _ _ (((HB.out.cell (World.block_lt_of_cell? w _ hw388_0)).trans hw388_0)) (fun hHeld => ?_)
     clear hK K
     refine norm_ (a' := ?_) ?_ ?_
     rotate_left
     ·show Act.put _ (some 7) _ = _
      simp only [Act.put, sT, sZ, sS, i64_w, i32_w]
      rfl
     refine two_ (i := 3) (j := 8) (Ni := some 9) (Nj := some 4) #[true, true, true, true, true, true, true, false, false, false] #[true, true, true, false, true, true, true, false, true, false] rfl rfl rfl rfl (two_of HT_.out (by kernel_rfl)) (by decide) (by decide) (fun K hK => ?_) (fun K hK => ?_)
     ·skip
      refine goes_ Try.func130 (by kernel_rfl) rfl #[.slice (some ad388) l0.length c0, .int .i64 4] (by rfl) rfl rfl gm ?_
      with_reducible refine (impl_getLow.calls _ _ l0 4 t387 _ ?side1 ?side2 A3.out).mono ?_
      (case side1 => repeat (first | exact (Kd.C_below HR0.out (bw1 HB.out GE385.out)) | (with_reducible refine Kd.C_alloc ?_ _) | (with_reducible refine Kd.C_drewN ?_ _) | (with_reducible refine Kd.C_drew ?_)))
      (case side2 => exact HC0.out)
      rintro e w' ⟨rfl, ⟨nd, rfl⟩⟩
      refine ⟨_, rfl, ?_⟩
      refine hK.out _ _ (((HB.out.cell (World.block_lt_of_cell? w _ hw388_0)).trans hw388_0)) (fun hHeld => ?_)
      clear hK K
      refine norm_ (a' := ?_) ?_ ?_
      rotate_left
      ·show Act.put _ (some 9) _ = _
       simp only [Act.put, sT, sZ, sS, i64_w, i32_w]
       rfl
      refine pure_ (i := 7) (N := some 13) (v := ?_) (a' := ?_) #[true, true, true, true, true, true, true, true, false, false] rfl rfl (any_of HT_.out (by kernel_rfl)) (fun _ _ _ h => h) (Or.inl ⟨by rfl, ?_⟩) ?_ ?_
      rotate_left
      ·intro w'
       go_simp
       with_reducible rfl
      rotate_left
      ·simp only [Act.put, sT, sZ, sS, i64_w, i32_w]
       rfl
      refine one_ (i := 8) (N := some 4) #[true, true, true, true, true, true, true, true, true, false] rfl rfl (one_of HT_.out (by kernel_rfl)) (by decide) (fun K hK => ?_)
      refine box_step ?hg (N := 4) ?hd (cs := #[.int .i64 0, .int .i64 0, .int .u8 0, .slice none 0 0]) (t := 93) ?hr ?_; (case hd => rfl); (case hg => rfl); (case hr => first | (go_simp; done) | (go_simp; rfl))
      intro gb389 hg w9 hbox hb
      have n0_ := Ak (blk_below (g := gb385) (o := .cells #[.int .i64 0, .int .i64 0, .int .u8 0, .slice none 0 0] 93 (0, 0)) (bq BK385.out) hb)
      have n1_ := Ak (below_step (bw1 HB.out GE385.out) hb)
      have n2_ := Ak (hbox)
      have n3_ := Ak ((by rw [hg]; exact (below_size (bw1 HB.out GE385.out)) : w.heap.size ≤ gb389))
      have n4_ := Ak ((by rw [hg]; exact (below_size (bw1 HB.out GE385.out)) : w.heap.size ≤ gb389))
      have n5_ := Ak ((by rw [hg]; exact Nat.ne_of_lt (blk_lt (g := gb385) (o := .cells #[.int .i64 0, .int .i64 0, .int .u8 0, .slice none 0 0] 93 (0, 0)) (bq BK385.out)) : gb385 ≠ gb389))
      have n6_ := Ak ((by rw [hg]; exact Nat.ne_of_gt (blk_lt (g := gb385) (o := .cells #[.int .i64 0, .int .i64 0, .int .u8 0, .slice none 0 0] 93 (0, 0)) (bq BK385.out)) : gb389 ≠ gb385))
      clear BK385
      clear HB
      have BK385 := n0_
      have HB := n1_
      have BK389 := n2_
      have GW389 := n3_
      have GE389 := n4_
      have NB385_389 := n5_
      have NB389_385 := n6_
      clear n0_ n1_ n2_ n3_ n4_ n5_ n6_
      clear hb hbox hg
      refine hK.out _ _ (((HB.out.cell (World.block_lt_of_cell? w _ hw388_0)).trans hw388_0)) (fun hHeld => ?_)
      clear hK K
      refine norm_ (a' := ?_) ?_ ?_
      rotate_left
      ·show Act.put _ (some 4) _ = _
       simp only [Act.put, sT, sZ, sS, i64_w, i32_w]
       rfl
      exact norm_ (by simp only [putAll, Act.put, sT, sZ, sS]) (hCont (gb389) _ ⟨hHeld, (bq BK385.out), (bq BK389.out), GW389.out, GE389.out, NB385_389.out, NB389_385.out, (bw2 HB.out GE385.out GE389.out)⟩)
     ·skip
      refine box_step ?hg (N := 4) ?hd (cs := #[.int .i64 0, .int .i64 0, .int .u8 0, .slice none 0 0]) (t := 93) ?hr ?_; (case hd => rfl); (case hg => rfl); (case hr => first | (go_simp; done) | (go_simp; rfl))
      intro gb389 hg w9 hbox hb
      have n0_ := Ak (blk_below (g := gb385) (o := .cells #[.int .i64 0, .int .i64 0, .int .u8 0, .slice none 0 0] 93 (0, 0)) (bq BK385.out) hb)
      have n1_ := Ak (below_step (bw1 HB.out GE385.out) hb)
      have n2_ := Ak (hbox)
      have n3_ := Ak ((by rw [hg]; exact (below_size (bw1 HB.out GE385.out)) : w.heap.size ≤ gb389))
      have n4_ := Ak ((by rw [hg]; exact (below_size (bw1 HB.out GE385.out)) : w.heap.size ≤ gb389))
      have n5_ := Ak ((by rw [hg]; exact Nat.ne_of_lt (blk_lt (g := gb385) (o := .cells #[.int .i64 0, .int .i64 0, .int .u8 0, .slice none 0 0] 93 (0, 0)) (bq BK385.out)) : gb385 ≠ gb389))
      have n6_ := Ak ((by rw [hg]; exact Nat.ne_of_gt (blk_lt (g := gb385) (o := .cells #[.int .i64 0, .int .i64 0, .int .u8 0, .slice none 0 0] 93 (0, 0)) (bq BK385.out)) : gb389 ≠ gb385))
      clear BK385
      clear HB
      have BK385 := n0_
      have HB := n1_
      have BK389 := n2_
      have GW389 := n3_
      have GE389 := n4_
      have NB385_389 := n5_
      have NB389_385 := n6_
      clear n0_ n1_ n2_ n3_ n4_ n5_ n6_
      clear hb hbox hg
      refine hK.out _ _ (((HB.out.cell (World.block_lt_of_cell? w _ hw388_0)).trans hw388_0)) (fun hHeld => ?_)
      clear hK K
      refine norm_ (a' := ?_) ?_ ?_
      rotate_left
      ·show Act.put _ (some 4) _ = _
       simp only [Act.put, sT, sZ, sS, i64_w, i32_w]
       rfl
      refine one_ (i := 3) (N := some 9) #[true, true, true, true, true, true, true, false, true, false] rfl rfl (one_of HT_.out (by kernel_rfl)) (by decide) (fun K hK => ?_)
      refine goes_ Try.func130 (by kernel_rfl) rfl #[.slice (some ad388) l0.length c0, .int .i64 4] (by rfl) rfl rfl gm ?_
      with_reducible refine (impl_getLow.calls _ _ l0 4 t387 _ ?side1 ?side2 A3.out).mono ?_
      (case side1 => repeat (first | exact (Kd.C_below HR0.out HB.out) | (with_reducible refine Kd.C_alloc ?_ _) | (with_reducible refine Kd.C_drewN ?_ _) | (with_reducible refine Kd.C_drew ?_)))
      (case side2 => exact HC0.out)
      rintro e w' ⟨rfl, ⟨nd, rfl⟩⟩
      refine ⟨_, rfl, ?_⟩
      refine hK.out _ _ (((HB.out.cell (World.block_lt_of_cell? w _ hw388_0)).trans hw388_0)) (fun hHeld => ?_)
      clear hK K
      refine norm_ (a' := ?_) ?_ ?_
      rotate_left
      ·show Act.put _ (some 9) _ = _
       simp only [Act.put, sT, sZ, sS, i64_w, i32_w]
       rfl
      refine pure_ (i := 7) (N := some 13) (v := ?_) (a' := ?_) #[true, true, true, true, true, true, true, true, true, false] rfl rfl (any_of HT_.out (by kernel_rfl)) (fun _ _ _ h => h) (Or.inl ⟨by rfl, ?_⟩) ?_ ?_
      rotate_left
      ·intro w'
       go_simp
       with_reducible rfl
      rotate_left
      ·simp only [Act.put, sT, sZ, sS, i64_w, i32_w]
       rfl
      exact norm_ (by simp only [putAll, Act.put, sT, sZ, sS]) (hCont (gb389) _ ⟨hHeld, (bq BK385.out), (bq BK389.out), GW389.out, GE389.out, NB385_389.out, NB389_385.out, (bw2 HB.out GE385.out GE389.out)⟩)
    ·skip
     refine box_step ?hg (N := 4) ?hd (cs := #[.int .i64 0, .int .i64 0, .int .u8 0, .slice none 0 0]) (t := 93) ?hr ?_; (case hd => rfl); (case hg => rfl); (case hr => first | (go_simp; done) | (go_simp; rfl))
     intro gb389 hg w9 hbox hb
     have n0_ := Ak (blk_below (g := gb385) (o := .cells #[.int .i64 0, .int .i64 0, .int .u8 0, .slice none 0 0] 93 (0, 0)) (bq BK385.out) hb)
     have n1_ := Ak (below_step (bw1 HB.out GE385.out) hb)
     have n2_ := Ak (hbox)
     have n3_ := Ak ((by rw [hg]; exact (below_size (bw1 HB.out GE385.out)) : w.heap.size ≤ gb389))
     have n4_ := Ak ((by rw [hg]; exact (below_size (bw1 HB.out GE385.out)) : w.heap.size ≤ gb389))
     have n5_ := Ak ((by rw [hg]; exact Nat.ne_of_lt (blk_lt (g := gb385) (o := .cells #[.int .i64 0, .int .i64 0, .int .u8 0, .slice none 0 0] 93 (0, 0)) (bq BK385.out)) : gb385 ≠ gb389))
     have n6_ := Ak ((by rw [hg]; exact Nat.ne_of_gt (blk_lt (g := gb385) (o := .cells #[.int .i64 0, .int .i64 0, .int .u8 0, .slice none 0 0] 93 (0, 0)) (bq BK385.out)) : gb389 ≠ gb385))
     clear BK385
     clear HB
     have BK385 := n0_
     have HB := n1_
     have BK389 := n2_
     have GW389 := n3_
     have GE389 := n4_
     have NB385_389 := n5_
     have NB389_385 := n6_
     clear n0_ n1_ n2_ n3_ n4_ n5_ n6_
     clear hb hbox hg
     refine hK.out _ _ (((HB.out.cell (World.block_lt_of_cell? w _ hw388_0)).trans hw388_0)) (fun hHeld => ?_)
     clear hK K
     refine norm_ (a' := ?_) ?_ ?_
     rotate_left
     ·show Act.put _ (some 4) _ = _
      simp only [Act.put, sT, sZ, sS, i64_w, i32_w]
      rfl
     refine one_ (i := 1) (N := some 7) #[true, true, true, false, true, true, true, false, true, false] rfl rfl (one_of HT_.out (by kernel_rfl)) (by decide) (fun K hK => ?_)
     refine goes_ Try.func130 (by kernel_rfl) rfl #[.slice (some ad388) l0.length c0, .int .i64 0] (by rfl) rfl rfl gm ?_
     with_reducible refine (impl_getLow.calls _ _ l0 0 t386 _ ?side1 ?side2 A2.out).mono ?_
     (case side1 => repeat (first | exact (Kd.C_below HR0.out HB.out) | (with_reducible refine Kd.C_alloc ?_ _) | (with_reducible refine Kd.C_drewN ?_ _) | (with_reducible refine Kd.C_drew ?_)))
     (case side2 => exact HC0.out)
     rintro e w' ⟨rfl, ⟨nd, rfl⟩⟩
     refine ⟨_, rfl, ?_⟩
     refine hK.out _ _ (((HB.out.cell (World.block_lt_of_cell? w _ hw388_0)).trans hw388_0)) (fun hHeld => ?_)
     clear hK K
     refine norm_ (a' := ?_) ?_ ?_
     rotate_left
     ·show Act.put _ (some 7) _ = _
      simp only [Act.put, sT, sZ, sS, i64_w, i32_w]
      rfl
     refine one_ (i := 3) (N := some 9) #[true, true, true, true, true, true, true, false, true, false] rfl rfl (one_of HT_.out (by kernel_rfl)) (by decide) (fun K hK => ?_)
     refine goes_ Try.func130 (by kernel_rfl) rfl #[.slice (some ad388) l0.length c0, .int .i64 4] (by rfl) rfl rfl gm ?_
     with_reducible refine (impl_getLow.calls _ _ l0 4 t387 _ ?side1 ?side2 A3.out).mono ?_
     (case side1 => repeat (first | exact (Kd.C_below HR0.out (bw2 HB.out GE385.out GE389.out)) | (with_reducible refine Kd.C_alloc ?_ _) | (with_reducible refine Kd.C_drewN ?_ _) | (with_reducible refine Kd.C_drew ?_)))
     (case side2 => exact HC0.out)
     rintro e w' ⟨rfl, ⟨nd, rfl⟩⟩
     refine ⟨_, rfl, ?_⟩
     refine hK.out _ _ (((HB.out.cell (World.block_lt_of_cell? w _ hw388_0)).trans hw388_0)) (fun hHeld => ?_)
     clear hK K
     refine norm_ (a' := ?_) ?_ ?_
     rotate_left
     ·show Act.put _ (some 9) _ = _
      simp only [Act.put, sT, sZ, sS, i64_w, i32_w]
      rfl
     refine pure_ (i := 7) (N := some 13) (v := ?_) (a' := ?_) #[true, true, true, true, true, true, true, true, true, false] rfl rfl (any_of HT_.out (by kernel_rfl)) (fun _ _ _ h => h) (Or.inl ⟨by rfl, ?_⟩) ?_ ?_
     rotate_left
     ·intro w'
      go_simp
      with_reducible rfl
     rotate_left
     ·simp only [Act.put, sT, sZ, sS, i64_w, i32_w]
      rfl
     exact norm_ (by simp only [putAll, Act.put, sT, sZ, sS]) (hCont (gb389) _ ⟨hHeld, (bq BK385.out), (bq BK389.out), GW389.out, GE389.out, NB385_389.out, NB389_385.out, (bw2 HB.out GE385.out GE389.out)⟩)
   rintro gb389 w10 ⟨hS_, h0_, h1_, h2_, h3_, h4_, h5_, h6_⟩
   have n0_ : Aside0 (w10.heap[gb385]? = some (.cells #[.int .i64 0, .int .i64 0, .int .u8 0, .slice none 0 0] 93 (0, 0))) := ⟨h0_⟩
   have n1_ : Aside0 (w10.heap[gb389]? = some (.cells #[.int .i64 0, .int .i64 0, .int .u8 0, .slice none 0 0] 93 (0, 0))) := ⟨h1_⟩
   have n2_ : Aside0 (w.heap.size ≤ gb389) := ⟨h2_⟩
   have n3_ : Aside0 (w.heap.size ≤ gb389) := ⟨h3_⟩
   have n4_ : Aside0 (gb385 ≠ gb389) := ⟨h4_⟩
   have n5_ : Aside0 (gb389 ≠ gb385) := ⟨h5_⟩
   have n6_ : Aside0 (Below w.heap.size w w10) := ⟨h6_⟩
   clear BK385
   clear HB
   clear h0_ h1_ h2_ h3_ h4_ h5_ h6_
   have BK385 := n0_
   have BK389 := n1_
   have GW389 := n2_
   have GE389 := n3_
   have NB385_389 := n4_
   have NB389_385 := n5_
   have HB := n6_
   clear n0_ n1_ n2_ n3_ n4_ n5_ n6_
   have hHeld : w10.cell? ⟨ad388.block, ad388.off + 8, none⟩ = some (.int .u8 (rd l0 8)) := hS_
   refine norm_ (a' := ?_) ?_ ?_
   rotate_left
   ·simp only [putAll, Act.put, sT, sZ, sS]
    rfl
   refine one_ (i := 9) (N := none) #[true, true, true, true, true, true, true, true, true, true] rfl rfl (one_of HT_.out (by kernel_rfl)) (by decide) (fun K hK => ?_)
   have hs11 : w10.cell? ⟨gb389, 0, none⟩ = some (.int .i64 0) := (blk_cell BK389.out 0).trans rfl
   have hfs11 := blk_frozen BK389.out 0
   have hns11_0 := NB385_389.out
   have hms11_0 := NB389_385.out
   have hs12 : w10.cell? ⟨gb389, 1, none⟩ = some (.int .i64 0) := (blk_cell BK389.out 1).trans rfl
   have hfs12 := blk_frozen BK389.out 1
   have hns12_0 := NB385_389.out
   have hms12_0 := NB389_385.out
   have hs13 : w10.cell? ⟨gb389, 2, none⟩ = some (.int .u8 0) := (blk_cell BK389.out 2).trans rfl
   have hfs13 := blk_frozen BK389.out 2
   have hns13_0 := NB385_389.out
   have hms13_0 := NB389_385.out
   have hs14 : w10.cell? ⟨gb389, 3, none⟩ = some (.slice none 0 0) := (blk_cell BK389.out 3).trans rfl
   have hfs14 := blk_frozen BK389.out 3
   have hns14_0 := NB385_389.out
   have hms14_0 := NB389_385.out
   refine skip_ (w1 := ?_) (by rfl) rfl ?_ ?_
   rotate_left
   ·go_simp
    rfl
   refine hK.out _ _ (((cell_far (p := ⟨gb389, _, none⟩) (by first | exact Nat.ne_of_lt (Nat.lt_of_lt_of_le (by have := World.block_lt_of_cell? _ _ hw388_0; first | rwa [add_block] at this | exact this) GW389.out) | (rw [add_block]; exact Nat.ne_of_lt (Nat.lt_of_lt_of_le (by have := World.block_lt_of_cell? _ _ hw388_0; first | rwa [add_block] at this | exact this) GW389.out)) | (show (Addr.add _ _).block ≠ _; rw [add_block]; exact Nat.ne_of_lt (Nat.lt_of_lt_of_le (by have := World.block_lt_of_cell? _ _ hw388_0; first | rwa [add_block] at this | exact this) GW389.out)) | (dsimp only; exact Nat.ne_of_lt (Nat.lt_of_lt_of_le (by have := World.block_lt_of_cell? _ _ hw388_0; first | rwa [add_block] at this | exact this) GW389.out))) _).trans (((cell_far (p := ⟨gb389, _, none⟩) (by first | exact Nat.ne_of_lt (Nat.lt_of_lt_of_le (by have := World.block_lt_of_cell? _ _ hw388_0; first | rwa [add_block] at this | exact this) GW389.out) | (rw [add_block]; exact Nat.ne_of_lt (Nat.lt_of_lt_of_le (by have := World.block_lt_of_cell? _ _ hw388_0; first | rwa [add_block] at this | exact this) GW389.out)) | (show (Addr.add _ _).block ≠ _; rw [add_block]; exact Nat.ne_of_lt (Nat.lt_of_lt_of_le (by have := World.block_lt_of_cell? _ _ hw388_0; first | rwa [add_block] at this | exact this) GW389.out)) | (dsimp only; exact Nat.ne_of_lt (Nat.lt_of_lt_of_le (by have := World.block_lt_of_cell? _ _ hw388_0; first | rwa [add_block] at this | exact this) GW389.out))) _).trans (((cell_far (p := ⟨gb389, _, none⟩) (by first | exact Nat.ne_of_lt (Nat.lt_of_lt_of_le (by have := World.block_lt_of_cell? _ _ hw388_0; first | rwa [add_block] at this | exact this) GW389.out) | (rw [add_block]; exact Nat.ne_of_lt (Nat.lt_of_lt_of_le (by have := World.block_lt_of_cell? _ _ hw388_0; first | rwa [add_block] at this | exact this) GW389.out)) | (show (Addr.add _ _).block ≠ _; rw [add_block]; exact Nat.ne_of_lt (Nat.lt_of_lt_of_le (by have := World.block_lt_of_cell? _ _ hw388_0; first | rwa [add_block] at this | exact this) GW389.out)) | (dsimp only; exact Nat.ne_of_lt (Nat.lt_of_lt_of_le (by have := World.block_lt_of_cell? _ _ hw388_0; first | rwa [add_block] at this | exact this) GW389.out))) _).trans (((cell_far (p := ⟨gb389, _, none⟩) (by first | exact Nat.ne_of_lt (Nat.lt_of_lt_of_le (by have := World.block_lt_of_cell? _ _ hw388_0; first | rwa [add_block] at this | exact this) GW389.out) | (rw [add_block]; exact Nat.ne_of_lt (Nat.lt_of_lt_of_le (by have := World.block_lt_of_cell? _ _ hw388_0; first | rwa [add_block] at this | exact this) GW389.out)) | (show (Addr.add _ _).block ≠ _; rw [add_block]; exact Nat.ne_of_lt (Nat.lt_of_lt_of_le (by have := World.block_lt_of_cell? _ _ hw388_0; first | rwa [add_block] at this | exact this) GW389.out)) | (dsimp only; exact Nat.ne_of_lt (Nat.lt_of_lt_of_le (by have := World.block_lt_of_cell? _ _ hw388_0; first | rwa [add_block] at this | exact this) GW389.out))) _).trans (hHeld))))))))) (fun hHeld => ?_)
   clear hK K
   refine done_ (done_of HT_.out (by kernel_rfl)) ?_
   have p390 : 0 ≤ (9 : Int) := (by omega)
   have q390 : 9 < (l0.length : Int) := of_decide_eq_true (by first | (with_reducible assumption) | assumption)
   obtain ⟨ad390, e390, hx390_0⟩ := Kd.at_int HR0.out 9 p390 q390
   obtain rfl : ad388 = ad390 := (by injection e390)
   (try simp only [show (9 : Int).toNat = 9 from rfl, Nat.reduceMul, Nat.reduceEqDiff, Go.Addr.add, ↓reduceIte] at hx390_0)
   have qi390 : (9 < l0.length) = True := eq_true (by omega)
   (try rw [show ((9 : Int)).toNat = 9 from rfl] at hx390_0)
   have hn390_0 : ad388.block ≠ gb389 := Nat.ne_of_lt (Nat.lt_of_lt_of_le (by have := World.block_lt_of_cell? _ _ hx390_0; first | rwa [add_block] at this | exact this) GW389.out)
   have hn390_1 : ad388.block ≠ gb389 := Nat.ne_of_lt (Nat.lt_of_lt_of_le (by have := World.block_lt_of_cell? _ _ hx390_0; first | rwa [add_block] at this | exact this) GW389.out)
   have hn390_2 : ad388.block ≠ gb389 := Nat.ne_of_lt (Nat.lt_of_lt_of_le (by have := World.block_lt_of_cell? _ _ hx390_0; first | rwa [add_block] at this | exact this) GW389.out)
   have hn390_3 : ad388.block ≠ gb389 := Nat.ne_of_lt (Nat.lt_of_lt_of_le (by have := World.block_lt_of_cell? _ _ hx390_0; first | rwa [add_block] at this | exact this) GW389.out)
   replace hx390_0 := (HB.out.cell (World.block_lt_of_cell? w _ hx390_0)).trans hx390_0
   replace hx390_0 := (cell_far (p := ⟨gb389, 0, none⟩) (by first | (rw [add_block]; exact hn390_0) | (show (Addr.add _ _).block ≠ _; rw [add_block]; exact hn390_0) | exact hn390_0) (.int .i64 t386)).trans hx390_0
   replace hx390_0 := (cell_far (p := ⟨gb389, 1, none⟩) (by first | (rw [add_block]; exact hn390_1) | (show (Addr.add _ _).block ≠ _; rw [add_block]; exact hn390_1) | exact hn390_1) (.int .i64 t387)).trans hx390_0
   replace hx390_0 := (cell_far (p := ⟨gb389, 2, none⟩) (by first | (rw [add_block]; exact hn390_2) | (show (Addr.add _ _).block ≠ _; rw [add_block]; exact hn390_2) | exact hn390_2) (.int .u8 (rd l0 8))).trans hx390_0
   replace hx390_0 := (cell_far (p := ⟨gb389, 3, none⟩) (by first | (rw [add_block]; exact hn390_3) | (show (Addr.add _ _).block ≠ _; rw [add_block]; exact hn390_3) | exact hn390_3) (.slice none 0 0)).trans hx390_0
   clear hn390_0
   clear hn390_1
   clear hn390_2
   clear hn390_3
   replace p390 := eq_true p390
   replace q390 := eq_true q390
   go_upto_region 3 with (fail)
   go_cut [25] (fun v25 wc => ∃ (kq : Nat) (x25_5 : Bool), v25 = .bool x25_5 ∧ Aside0 (impl_sectorOf.j0 kq l0 (wrap64 (rd l0 9)) x25_5 t386 t387 (rd l0 8) = some (r1, r2, r3, r4, r5)) ∧ Aside0 (kq ≤ k) ∧ Aside0 (wc.heap[gb385]? = some (.cells #[.int .i64 0, .int .i64 0, .int .u8 0, (.slice none 0 0)] 93 (0, 0))) ∧ Aside0 (wc.heap[gb389]? = some (.cells #[.int .i64 t386, .int .i64 t387, .int .u8 (rd l0 8), (.slice none 0 0)] 93 (0, 0))) ∧ Aside0 (Below w.heap.size w wc))
   case first =>
    have H := HC6.out
    clear HC6
    by_cases c15 : (wrap64 (rd l0 9)) > 44
    ·rw [if_pos c15] at H
     have c15b0 : decide (44 < (wrap64 (rd l0 9))) = true := decide_eq_true c15
     clear c15
     (first | rw [c15b0] | (simp only [i64_w, i32_w]; rw [c15b0]) | skip)
     have H' := Ak H
     clear H
     go_wp2
     go_meet
     case rel => exact ⟨_, (true), (by first | rfl | (simp; done) | (simp [*]; done)), H', ⟨by first | omega | exact Nat.le_refl _⟩, ⟨by (with_reducible repeat (first | refine blk_drewN ?_ _ | refine blk_drew ?_ | refine blk_alloc ?_ _)); refine blk_far ?_ NB385_389.out _; (with_reducible repeat (first | refine blk_drewN ?_ _ | refine blk_drew ?_ | refine blk_alloc ?_ _)); refine blk_far ?_ NB385_389.out _; (with_reducible repeat (first | refine blk_drewN ?_ _ | refine blk_drew ?_ | refine blk_alloc ?_ _)); refine blk_far ?_ NB385_389.out _; (with_reducible repeat (first | refine blk_drewN ?_ _ | refine blk_drew ?_ | refine blk_alloc ?_ _)); refine blk_far ?_ NB385_389.out _; (with_reducible repeat (first | refine blk_drewN ?_ _ | refine blk_drew ?_ | refine blk_alloc ?_ _)); exact BK385.out⟩, ⟨by (with_reducible repeat (first | refine blk_drewN ?_ _ | refine blk_drew ?_ | refine blk_alloc ?_ _)); refine blk_put (cs := #[.int .i64 t386, .int .i64 t387, .int .u8 (rd l0 8), .slice none 0 0]) ?_ 3 _ rfl; (with_reducible repeat (first | refine blk_drewN ?_ _ | refine blk_drew ?_ | refine blk_alloc ?_ _)); refine blk_put (cs := #[.int .i64 t386, .int .i64 t387, .int .u8 0, .slice none 0 0]) ?_ 2 _ rfl; (with_reducible repeat (first | refine blk_drewN ?_ _ | refine blk_drew ?_ | refine blk_alloc ?_ _)); refine blk_put (cs := #[.int .i64 t386, .int .i64 0, .int .u8 0, .slice none 0 0]) ?_ 1 _ rfl; (with_reducible repeat (first | refine blk_drewN ?_ _ | refine blk_drew ?_ | refine blk_alloc ?_ _)); refine blk_put (cs := #[.int .i64 0, .int .i64 0, .int .u8 0, .slice none 0 0]) ?_ 0 _ rfl; (with_reducible repeat (first | refine blk_drewN ?_ _ | refine blk_drew ?_ | refine blk_alloc ?_ _)); exact BK389.out⟩, ⟨bw2 HB.out GE385.out GE389.out⟩⟩
    ·rw [if_neg c15] at H
     have c15b0 : decide (44 < (wrap64 (rd l0 9))) = false := decide_eq_false c15
     clear c15
     (first | rw [c15b0] | (simp only [i64_w, i32_w]; rw [c15b0]) | skip)
     replace H := Option.bind_eq_some_iff.mp H
     obtain ⟨t391, A160, H⟩ := H
     replace H : (impl_sectorOf.j0 k l0 (wrap64 (rd l0 9)) (!t391) t386 t387 (rd l0 8)) = some (r1, r2, r3, r4, r5) := H
     have A16 := Ak A160
     clear A160
     have H' := Ak H
     clear H
     have hnb17 := NB389_385.out
     have hnc17 := NB385_389.out
     have hcz18_0 : w10.cell? ⟨gb389, 0, none⟩ = some (.int .i64 0) := (blk_cell BK389.out 0).trans rfl
     have hcz18_1 : w10.cell? ⟨gb389, 1, none⟩ = some (.int .i64 0) := (blk_cell BK389.out 1).trans rfl
     have hcz18_2 : w10.cell? ⟨gb389, 2, none⟩ = some (.int .u8 0) := (blk_cell BK389.out 2).trans rfl
     have hcz18_3 : w10.cell? ⟨gb389, 3, none⟩ = some (.slice none 0 0) := (blk_cell BK389.out 3).trans rfl
     have hfz18_0 := blk_frozen BK389.out 0
     have hfz18_1 := blk_frozen BK389.out 1
     have hfz18_2 := blk_frozen BK389.out 2
     have hfz18_3 := blk_frozen BK389.out 3
     go_wp2_with (first | (go_at_call 101; (with_reducible refine (impl_inRange.calls t386 1 1000000 t391 _ A16.out).mono ?_); rintro e w' ⟨rfl, ⟨nd, rfl⟩⟩))
     go_meet
     case rel => exact ⟨_, (!t391), (by first | rfl | (simp; done) | (simp [*]; done)), H', ⟨by first | omega | exact Nat.le_refl _⟩, ⟨by (with_reducible repeat (first | refine blk_drewN ?_ _ | refine blk_drew ?_ | refine blk_alloc ?_ _)); refine blk_far ?_ NB385_389.out _; (with_reducible repeat (first | refine blk_drewN ?_ _ | refine blk_drew ?_ | refine blk_alloc ?_ _)); refine blk_far ?_ NB385_389.out _; (with_reducible repeat (first | refine blk_drewN ?_ _ | refine blk_drew ?_ | refine blk_alloc ?_ _)); refine blk_far ?_ NB385_389.out _; (with_reducible repeat (first | refine blk_drewN ?_ _ | refine blk_drew ?_ | refine blk_alloc ?_ _)); refine blk_far ?_ NB385_389.out _; (with_reducible repeat (first | refine blk_drewN ?_ _ | refine blk_drew ?_ | refine blk_alloc ?_ _)); exact BK385.out⟩, ⟨by (with_reducible repeat (first | refine blk_drewN ?_ _ | refine blk_drew ?_ | refine blk_alloc ?_ _)); refine blk_put (cs := #[.int .i64 t386, .int .i64 t387, .int .u8 (rd l0 8), .slice none 0 0]) ?_ 3 _ rfl; (with_reducible repeat (first | refine blk_drewN ?_ _ | refine blk_drew ?_ | refine blk_alloc ?_ _)); refine blk_put (cs := #[.int .i64 t386, .int .i64 t387, .int .u8 0, .slice none 0 0]) ?_ 2 _ rfl; (with_reducible repeat (first | refine blk_drewN ?_ _ | refine blk_drew ?_ | refine blk_alloc ?_ _)); refine blk_put (cs := #[.int .i64 t386, .int .i64 0, .int .u8 0, .slice none 0 0]) ?_ 1 _ rfl; (with_reducible repeat (first | refine blk_drewN ?_ _ | refine blk_drew ?_ | refine blk_alloc ?_ _)); refine blk_put (cs := #[.int .i64 0, .int .i64 0, .int .u8 0, .slice none 0 0]) ?_ 0 _ rfl; (with_reducible repeat (first | refine blk_drewN ?_ _ | refine blk_drew ?_ | refine blk_alloc ?_ _)); exact BK389.out⟩, ⟨bw2 HB.out GE385.out GE389.out⟩⟩
   case rest =>
    clear HC6
    try clear q3
    try clear hx3
    try clear qi3
    try clear c4b0
    try clear c4b1
    try clear c5b0
    try clear c5b1
    try clear c15b0
    try clear hx388_0
    try clear hx390_0
    try clear q388
    try clear q390
    obtain ⟨kq, x25_5, rfl, HA, HJ5, BK385, BK389, HB⟩ := hcut
    cases kq with
    | zero => exact absurd HA.out (by simp [impl_sectorOf.j0])
    | succ kj5 =>
     have H := HA.out
     clear HA
     simp only [impl_sectorOf.j0] at H
     by_cases c19 : x25_5 = true
     ·subst c19
      have H1 : (some (0, 0, 0, ([] : List Int), false)) = some (r1, r2, r3, r4, r5) := by rw [if_pos rfl] at H; exact H
      clear H
      have H := H1
      clear H1
      simp only [Option.some.injEq, Prod.mk.injEq] at H
      obtain ⟨rfl, rfl, rfl, rfl, rfl⟩ := H
      have hnb20 := NB385_389.out
      have hnc20 := NB389_385.out
      have hcz21_0 : wc.cell? ⟨gb385, 0, none⟩ = some (.int .i64 0) := (blk_cell BK385.out 0).trans rfl
      have hcz21_1 : wc.cell? ⟨gb385, 1, none⟩ = some (.int .i64 0) := (blk_cell BK385.out 1).trans rfl
      have hcz21_2 : wc.cell? ⟨gb385, 2, none⟩ = some (.int .u8 0) := (blk_cell BK385.out 2).trans rfl
      have hcz21_3 : wc.cell? ⟨gb385, 3, none⟩ = some (.slice none 0 0) := (blk_cell BK385.out 3).trans rfl
      have hfz21_0 := blk_frozen BK385.out 0
      have hfz21_1 := blk_frozen BK385.out 1
      have hfz21_2 := blk_frozen BK385.out 2
      have hfz21_3 := blk_frozen BK385.out 3
      go_wp2
      refine bodyPost_ret (results_ct rfl _ _ gb385 93 #[.int .i64 0, .int .i64 0, .int .u8 0, .slice none 0 0] (0, 0) _ rfl (by (with_reducible repeat (first | refine blk_drewN ?_ _ | refine blk_drew ?_ | refine blk_alloc ?_ _)); refine blk_put (cs := #[.int .i64 0, .int .i64 0, .int .u8 0, .slice none 0 0]) ?_ 3 _ rfl; (with_reducible repeat (first | refine blk_drewN ?_ _ | refine blk_drew ?_ | refine blk_alloc ?_ _)); refine blk_put (cs := #[.int .i64 0, .int .i64 0, .int .u8 0, .slice none 0 0]) ?_ 2 _ rfl; (with_reducible repeat (first | refine blk_drewN ?_ _ | refine blk_drew ?_ | refine blk_alloc ?_ _)); refine blk_put (cs := #[.int .i64 0, .int .i64 0, .int .u8 0, .slice none 0 0]) ?_ 1 _ rfl; (with_reducible repeat (first | refine blk_drewN ?_ _ | refine blk_drew ?_ | refine blk_alloc ?_ _)); refine blk_put (cs := #[.int .i64 0, .int .i64 0, .int .u8 0, .slice none 0 0]) ?_ 0 _ rfl; (with_reducible repeat (first | refine blk_drewN ?_ _ | refine blk_drew ?_ | refine blk_alloc ?_ _)); exact BK385.out) Try.underlying93 rfl (by kernel_rfl)) rfl ?_
      exact ⟨none, 0, by first | rfl | (simp [errW_none, errW_some] <;> rfl) | (simp [*, errW_none, errW_some] <;> rfl), .inl ⟨rfl, rfl, rfl⟩, bw2 HB.out GE385.out GE389.out⟩
     ·replace c19 := Bool.eq_false_iff.mpr c19
      subst c19
      have H1 : ((impl_sectorOf.piece l0 (wrap64 (rd l0 9))).bind fun t392 => (if (rd l0 8) = 2 then (impl_sectorOf.j1 kj5 l0 false t386 t387 (rd l0 8) t392) else (if (rd l0 8) = 1 then (impl_sectorOf.j1 kj5 l0 ((wrap64 (rd l0 9)) != 44) t386 t387 (rd l0 8) t392) else (impl_sectorOf.j1 kj5 l0 true t386 t387 (rd l0 8) t392)))) = some (r1, r2, r3, r4, r5) := by rw [if_neg (show ¬ (false = true) by decide)] at H; exact H
      clear H
      have H := H1
      clear H1
      replace H := Option.bind_eq_some_iff.mp H
      obtain ⟨t392, A220, H⟩ := H
      replace H : (if (rd l0 8) = 2 then (impl_sectorOf.j1 kj5 l0 false t386 t387 (rd l0 8) t392) else (if (rd l0 8) = 1 then (impl_sectorOf.j1 kj5 l0 ((wrap64 (rd l0 9)) != 44) t386 t387 (rd l0 8) t392) else (impl_sectorOf.j1 kj5 l0 true t386 t387 (rd l0 8) t392))) = some (r1, r2, r3, r4, r5) := H
      have A22 := Ak A220
      clear A220
      have HC23 := Ak H
      clear H
      obtain ⟨hp1, hp2, ht3⟩ := impl_sectorOf.piece_some A22.out
      obtain ⟨i30, hi30, _, hsz30, _⟩ := info_parts info5
      obtain ⟨A30, hA30⟩ : ∃ A_, A_ = View.cutAt (some ad388) c0 (16 : Int).toNat := ⟨_, rfl⟩
      obtain ⟨c30, hc30⟩ : ∃ c_, c_ = c0 - (16 : Int).toNat := ⟨_, rfl⟩
      have hcut30 : ∀ W : World, (Instr.slice 22 (.slice (some ad388) l0.length c0) (some (.int .i64 16)) (some (.int .i64 (wrap64 (16 + (wrap64 (rd l0 9)))))) none).run Try.prog W = .ok (.slice A30 t392.length c30) W := fun W => by rw [hA30, hc30, ht3]; exact View.mid_run 22 5 Try.underlying22 hi30 hsz30 _ _ _ _ _ (by decide) hp1 hp2 HC0.out W
      have HP := Ak (show Kd.C (Kd.int .u8) w A30 t392.length t392 from by rw [hA30, ht3]; exact View.C_cut 16 (wrap64 (16 + (wrap64 (rd l0 9)))) HR0.out (by omega) (by omega) HC0.out)
      have HPc := Ak (show t392.length ≤ c30 from by rw [hc30, ht3, List.length_drop, List.length_take]; have := HC0.out; omega)
      have HPs := Ak (show View.SubOf (some ad388) c0 l0 A30 c30 t392 from .inr ⟨16, wrap64 (16 + (wrap64 (rd l0 9))), by omega, by omega, hA30, hc30, ht3⟩)
      clear hA30 hc30 ht3 hp1 hp2 hi30 hsz30
      have hnb26 := NB389_385.out
      have hnc26 := NB385_389.out
      have hcz27_0 : wc.cell? ⟨gb389, 0, none⟩ = some (.int .i64 t386) := (blk_cell BK389.out 0).trans rfl
      have hcz27_1 : wc.cell? ⟨gb389, 1, none⟩ = some (.int .i64 t387) := (blk_cell BK389.out 1).trans rfl
      have hcz27_2 : wc.cell? ⟨gb389, 2, none⟩ = some (.int .u8 (rd l0 8)) := (blk_cell BK389.out 2).trans rfl
      have hcz27_3 : wc.cell? ⟨gb389, 3, none⟩ = some (.slice none 0 0) := (blk_cell BK389.out 3).trans rfl
      have hfz27_0 := blk_frozen BK389.out 0
      have hfz27_1 := blk_frozen BK389.out 1
      have hfz27_2 := blk_frozen BK389.out 2
      have hfz27_3 := blk_frozen BK389.out 3
      go_upto_region 6 with (fail)
      (try simp only [Act.put, sT, sZ, sS])
      go_cut [43] (fun v43 wc => ∃ (kq : Nat) (x43_22 : Bool), v43 = .bool x43_22 ∧ Aside0 (impl_sectorOf.j1 kq l0 x43_22 t386 t387 (rd l0 8) t392 = some (r1, r2, r3, r4, r5)) ∧ Aside0 (kq ≤ kj5) ∧ Aside0 (wc.heap[gb385]? = some (.cells #[.int .i64 0, .int .i64 0, .int .u8 0, (.slice none 0 0)] 93 (0, 0))) ∧ Aside0 (wc.heap[gb389]? = some (.cells #[.int .i64 t386, .int .i64 t387, .int .u8 (rd l0 8), (.slice A30 t392.length c30)] 93 (0, 0))) ∧ Aside0 (Below w.heap.size w wc))
      case first =>
       have H := HC23.out
       clear HC23
       by_cases c28 : (rd l0 8) = 2
       ·rw [if_pos c28] at H
        have c28b0 : ((rd l0 8) == 2) = true := beq_iff_eq.mpr c28
        have c28b1 : ((rd l0 8) != 2) = false := bne_eq_false_iff_eq.mpr c28
        clear c28
        (first | rw [c28b0] | (simp only [i64_w, i32_w]; rw [c28b0]) | skip)
        have H' := Ak H
        clear H
        have hnb29 := NB389_385.out
        have hnc29 := NB385_389.out
        have hcz30_0 : wc.cell? ⟨gb389, 0, none⟩ = some (.int .i64 t386) := (blk_cell BK389.out 0).trans rfl
        have hcz30_1 : wc.cell? ⟨gb389, 1, none⟩ = some (.int .i64 t387) := (blk_cell BK389.out 1).trans rfl
        have hcz30_2 : wc.cell? ⟨gb389, 2, none⟩ = some (.int .u8 (rd l0 8)) := (blk_cell BK389.out 2).trans rfl
        have hcz30_3 : wc.cell? ⟨gb389, 3, none⟩ = some (.slice none 0 0) := (blk_cell BK389.out 3).trans rfl
        have hfz30_0 := blk_frozen BK389.out 0
        have hfz30_1 := blk_frozen BK389.out 1
        have hfz30_2 := blk_frozen BK389.out 2
        have hfz30_3 := blk_frozen BK389.out 3
        go_wp2
        go_meet
        case rel => exact ⟨_, (false), (by first | rfl | (simp; done) | (simp [*]; done)), H', ⟨by have := HJ5.out; first | omega | exact Nat.le_refl _⟩, ⟨by (with_reducible repeat (first | refine blk_drewN ?_ _ | refine blk_drew ?_ | refine blk_alloc ?_ _)); refine blk_far ?_ NB385_389.out _; (with_reducible repeat (first | refine blk_drewN ?_ _ | refine blk_drew ?_ | refine blk_alloc ?_ _)); exact BK385.out⟩, ⟨by (with_reducible repeat (first | refine blk_drewN ?_ _ | refine blk_drew ?_ | refine blk_alloc ?_ _)); refine blk_put (cs := #[.int .i64 t386, .int .i64 t387, .int .u8 (rd l0 8), .slice none 0 0]) ?_ 3 _ rfl; (with_reducible repeat (first | refine blk_drewN ?_ _ | refine blk_drew ?_ | refine blk_alloc ?_ _)); exact BK389.out⟩, ⟨bw2 HB.out GE385.out GE389.out⟩⟩
       ·rw [if_neg c28] at H
        have c28b0 : ((rd l0 8) == 2) = false := beq_eq_false_iff_ne.mpr c28
        have c28b1 : ((rd l0 8) != 2) = true := bne_iff_ne.mpr c28
        (first | rw [c28b0] | (simp only [i64_w, i32_w]; rw [c28b0]) | skip)
        by_cases c31 : (rd l0 8) = 1
        ·rw [if_pos c31] at H
         have c31b0 : ((rd l0 8) == 1) = true := beq_iff_eq.mpr c31
         have c31b1 : ((rd l0 8) != 1) = false := bne_eq_false_iff_eq.mpr c31
         clear c31
         have H' := Ak H
         clear H
         have hnb32 := NB389_385.out
         have hnc32 := NB385_389.out
         have hcz33_0 : wc.cell? ⟨gb389, 0, none⟩ = some (.int .i64 t386) := (blk_cell BK389.out 0).trans rfl
         have hcz33_1 : wc.cell? ⟨gb389, 1, none⟩ = some (.int .i64 t387) := (blk_cell BK389.out 1).trans rfl
         have hcz33_2 : wc.cell? ⟨gb389, 2, none⟩ = some (.int .u8 (rd l0 8)) := (blk_cell BK389.out 2).trans rfl
         have hcz33_3 : wc.cell? ⟨gb389, 3, none⟩ = some (.slice none 0 0) := (blk_cell BK389.out 3).trans rfl
         have hfz33_0 := blk_frozen BK389.out 0
         have hfz33_1 := blk_frozen BK389.out 1
         have hfz33_2 := blk_frozen BK389.out 2
         have hfz33_3 := blk_frozen BK389.out 3
         go_wp2
         go_meet
         case rel => exact ⟨_, (((wrap64 (rd l0 9)) != 44)), (by first | rfl | (simp; done) | (simp [*]; done)), H', ⟨by have := HJ5.out; first | omega | exact Nat.le_refl _⟩, ⟨by (with_reducible repeat (first | refine blk_drewN ?_ _ | refine blk_drew ?_ | refine blk_alloc ?_ _)); refine blk_far ?_ NB385_389.out _; (with_reducible repeat (first | refine blk_drewN ?_ _ | refine blk_drew ?_ | refine blk_alloc ?_ _)); exact BK385.out⟩, ⟨by (with_reducible repeat (first | refine blk_drewN ?_ _ | refine blk_drew ?_ | refine blk_alloc ?_ _)); refine blk_put (cs := #[.int .i64 t386, .int .i64 t387, .int .u8 (rd l0 8), .slice none 0 0]) ?_ 3 _ rfl; (with_reducible repeat (first | refine blk_drewN ?_ _ | refine blk_drew ?_ | refine blk_alloc ?_ _)); exact BK389.out⟩, ⟨bw2 HB.out GE385.out GE389.out⟩⟩
        ·rw [if_neg c31] at H
         have c31b0 : ((rd l0 8) == 1) = false := beq_eq_false_iff_ne.mpr c31
         have c31b1 : ((rd l0 8) != 1) = true := bne_iff_ne.mpr c31
         have H' := Ak H
         clear H
         have hnb34 := NB389_385.out
         have hnc34 := NB385_389.out
         have hcz35_0 : wc.cell? ⟨gb389, 0, none⟩ = some (.int .i64 t386) := (blk_cell BK389.out 0).trans rfl
         have hcz35_1 : wc.cell? ⟨gb389, 1, none⟩ = some (.int .i64 t387) := (blk_cell BK389.out 1).trans rfl
         have hcz35_2 : wc.cell? ⟨gb389, 2, none⟩ = some (.int .u8 (rd l0 8)) := (blk_cell BK389.out 2).trans rfl
         have hcz35_3 : wc.cell? ⟨gb389, 3, none⟩ = some (.slice none 0 0) := (blk_cell BK389.out 3).trans rfl
         have hfz35_0 := blk_frozen BK389.out 0
         have hfz35_1 := blk_frozen BK389.out 1
         have hfz35_2 := blk_frozen BK389.out 2
         have hfz35_3 := blk_frozen BK389.out 3
         go_wp2
         go_meet
         case rel => exact ⟨_, (true), (by first | rfl | (simp; done) | (simp [*]; done)), H', ⟨by have := HJ5.out; first | omega | exact Nat.le_refl _⟩, ⟨by (with_reducible repeat (first | refine blk_drewN ?_ _ | refine blk_drew ?_ | refine blk_alloc ?_ _)); refine blk_far ?_ NB385_389.out _; (with_reducible repeat (first | refine blk_drewN ?_ _ | refine blk_drew ?_ | refine blk_alloc ?_ _)); exact BK385.out⟩, ⟨by (with_reducible repeat (first | refine blk_drewN ?_ _ | refine blk_drew ?_ | refine blk_alloc ?_ _)); refine blk_put (cs := #[.int .i64 t386, .int .i64 t387, .int .u8 (rd l0 8), .slice none 0 0]) ?_ 3 _ rfl; (with_reducible repeat (first | refine blk_drewN ?_ _ | refine blk_drew ?_ | refine blk_alloc ?_ _)); exact BK389.out⟩, ⟨bw2 HB.out GE385.out GE389.out⟩⟩
      case rest =>
       clear HC23
       try clear q3
       try clear hx3
       try clear qi3
       try clear c4b0
       try clear c4b1
       try clear c5b0
       try clear c5b1
       try clear c15b0
       try clear c28b0
       try clear c28b1
       try clear c31b0
       try clear c31b1
       try clear hx388_0
       try clear hx390_0
       try clear q3
       try clear q388
       try clear q390
       obtain ⟨kq, x43_22, rfl, HA, HJ22, BK385, BK389, HB⟩ := hcut
       cases kq with
       | zero => exact absurd HA.out (by simp [impl_sectorOf.j1])
       | succ kj22 =>
        have H := HA.out
        clear HA
        simp only [impl_sectorOf.j1] at H
        by_cases c36 : x43_22 = true
        ·subst c36
         have H1 : (some (0, 0, 0, ([] : List Int), false)) = some (r1, r2, r3, r4, r5) := by rw [if_pos rfl] at H; exact H
         clear H
         have H := H1
         clear H1
         simp only [Option.some.injEq, Prod.mk.injEq] at H
         obtain ⟨rfl, rfl, rfl, rfl, rfl⟩ := H
         have hnb37 := NB385_389.out
         have hnc37 := NB389_385.out
         have hcz38_0 : wc.cell? ⟨gb385, 0, none⟩ = some (.int .i64 0) := (blk_cell BK385.out 0).trans rfl
         have hcz38_1 : wc.cell? ⟨gb385, 1, none⟩ = some (.int .i64 0) := (blk_cell BK385.out 1).trans rfl
         have hcz38_2 : wc.cell? ⟨gb385, 2, none⟩ = some (.int .u8 0) := (blk_cell BK385.out 2).trans rfl
         have hcz38_3 : wc.cell? ⟨gb385, 3, none⟩ = some (.slice none 0 0) := (blk_cell BK385.out 3).trans rfl
         have hfz38_0 := blk_frozen BK385.out 0
         have hfz38_1 := blk_frozen BK385.out 1
         have hfz38_2 := blk_frozen BK385.out 2
         have hfz38_3 := blk_frozen BK385.out 3
         go_wp2
         refine bodyPost_ret (results_ct rfl _ _ gb385 93 #[.int .i64 0, .int .i64 0, .int .u8 0, .slice none 0 0] (0, 0) _ rfl (by (with_reducible repeat (first | refine blk_drewN ?_ _ | refine blk_drew ?_ | refine blk_alloc ?_ _)); refine blk_put (cs := #[.int .i64 0, .int .i64 0, .int .u8 0, .slice none 0 0]) ?_ 3 _ rfl; (with_reducible repeat (first | refine blk_drewN ?_ _ | refine blk_drew ?_ | refine blk_alloc ?_ _)); refine blk_put (cs := #[.int .i64 0, .int .i64 0, .int .u8 0, .slice none 0 0]) ?_ 2 _ rfl; (with_reducible repeat (first | refine blk_drewN ?_ _ | refine blk_drew ?_ | refine blk_alloc ?_ _)); refine blk_put (cs := #[.int .i64 0, .int .i64 0, .int .u8 0, .slice none 0 0]) ?_ 1 _ rfl; (with_reducible repeat (first | refine blk_drewN ?_ _ | refine blk_drew ?_ | refine blk_alloc ?_ _)); refine blk_put (cs := #[.int .i64 0, .int .i64 0, .int .u8 0, .slice none 0 0]) ?_ 0 _ rfl; (with_reducible repeat (first | refine blk_drewN ?_ _ | refine blk_drew ?_ | refine blk_alloc ?_ _)); exact BK385.out) Try.underlying93 rfl (by kernel_rfl)) rfl ?_
         exact ⟨none, 0, by first | rfl | (simp [errW_none, errW_some] <;> rfl) | (simp [*, errW_none, errW_some] <;> rfl), .inl ⟨rfl, rfl, rfl⟩, bw2 HB.out GE385.out GE389.out⟩
        ·replace c36 := Bool.eq_false_iff.mpr c36
         subst c36
         have H1 : ((impl_sector_bytes.f kj22 t386 t387 (rd l0 8) t392).bind fun t395 => ((slices_Equal_byte_byte.f kj22 t395 l0).bind fun t398 => (if t398 = true then (some (t386, t387, (rd l0 8), t392, true)) else (some (0, 0, 0, ([] : List Int), false))))) = some (r1, r2, r3, r4, r5) := by rw [if_neg (show ¬ (false = true) by decide)] at H; exact H
         clear H
         have H := H1
         clear H1
         replace H := Option.bind_eq_some_iff.mp H
         obtain ⟨t395, A390, H⟩ := H
         replace H : ((slices_Equal_byte_byte.f kj22 t395 l0).bind fun t398 => (if t398 = true then (some (t386, t387, (rd l0 8), t392, true)) else (some (0, 0, 0, ([] : List Int), false)))) = some (r1, r2, r3, r4, r5) := H
         have A39 := Ak A390
         clear A390
         replace H := Option.bind_eq_some_iff.mp H
         obtain ⟨t398, A400, H⟩ := H
         replace H : (if t398 = true then (some (t386, t387, (rd l0 8), t392, true)) else (some (0, 0, 0, ([] : List Int), false))) = some (r1, r2, r3, r4, r5) := H
         have A40 := Ak A400
         clear A400
         by_cases c41 : t398 = true
         ·subst c41
          have H1 : (some (t386, t387, (rd l0 8), t392, true)) = some (r1, r2, r3, r4, r5) := by rw [if_pos rfl] at H; exact H
          clear H
          have H := H1
          clear H1
          simp only [Option.some.injEq, Prod.mk.injEq] at H
          obtain ⟨rfl, rfl, rfl, rfl, rfl⟩ := H
          have hnb42 := NB389_385.out
          have hnc42 := NB385_389.out
          have hcz43_0 : wc.cell? ⟨gb389, 0, none⟩ = some (.int .i64 t386) := (blk_cell BK389.out 0).trans rfl
          have hcz43_1 : wc.cell? ⟨gb389, 1, none⟩ = some (.int .i64 t387) := (blk_cell BK389.out 1).trans rfl
          have hcz43_2 : wc.cell? ⟨gb389, 2, none⟩ = some (.int .u8 (rd l0 8)) := (blk_cell BK389.out 2).trans rfl
          have hcz43_3 : wc.cell? ⟨gb389, 3, none⟩ = some (.slice A30 t392.length c30) := (blk_cell BK389.out 3).trans rfl
          have hfz43_0 := blk_frozen BK389.out 0
          have hfz43_1 := blk_frozen BK389.out 1
          have hfz43_2 := blk_frozen BK389.out 2
          have hfz43_3 := blk_frozen BK389.out 3
          go_wp2_with (first | ((with_reducible refine gate_callee (f := 66) rfl ?_); refine goesL_ (some 46) rfl rfl Try.func66 (by kernel_rfl) rfl #[.agg #[.int .i64 t386, .int .i64 t387, .int .u8 (rd l0 8), .slice A30 t392.length c30]] rfl gm ?_; (with_reducible refine (impl_sector_bytes.calls kj22 t386 t387 (rd l0 8) _ _ t392 t395 _ ?side1 ?side2 A39.out).mono ?_); (case side1 => repeat (first | exact (Kd.C_below HP.out HB.out) | (with_reducible refine Kd.C_alloc ?_ _) | (with_reducible refine Kd.C_drewN ?_ _) | (with_reducible refine Kd.C_drew ?_))); (case side2 => exact HPc.out); rintro e w44 ⟨v396, rfl, ho0, hb⟩; refine ⟨_, rfl, ?_⟩; have n1_ := Ak (Kd.R_lower ho0 (below_size (bw2 HB.out GE385.out GE389.out))); have n2_ := Ak (blk_below (g := gb385) (o := .cells #[.int .i64 0, .int .i64 0, .int .u8 0, .slice none 0 0] 93 (0, 0)) (bq BK385.out) hb); have n3_ := Ak (blk_below (g := gb389) (o := .cells #[.int .i64 t386, .int .i64 t387, .int .u8 (rd l0 8), .slice A30 t392.length c30] 93 (0, 0)) (bq BK389.out) hb); have n4_ := Ak (below_step (bw2 HB.out GE385.out GE389.out) hb); clear BK385; clear BK389; clear HB; have HO397 := n1_; have BK385 := n2_; have BK389 := n3_; have HB := n4_; clear n1_ n2_ n3_ n4_; obtain ⟨Ao45, co45, eo45⟩ := Kd.R_slice HO397.out; subst eo45) | ((with_reducible refine gate_callee (f := 131) rfl ?_); refine goesL_ (some 48) rfl rfl Try.func131 (by kernel_rfl) rfl #[.slice Ao45 t395.length co45, .slice (some ad388) l0.length c0] rfl gm ?_; (with_reducible refine (slices_Equal_byte_byte.calls kj22 _ _ t395 _ _ l0 true _ ?side1 ?side2 ?side3 ?side4 A40.out).mono ?_); (case side1 => repeat (first | exact (Kd.R_reads' HO397.out).2.2 | (with_reducible refine Kd.C_alloc ?_ _) | (with_reducible refine Kd.C_drewN ?_ _) | (with_reducible refine Kd.C_drew ?_))); (case side2 => exact (Kd.R_reads' HO397.out).2.1); (case side3 => repeat (first | exact (Kd.C_below HR0.out HB.out) | (with_reducible refine Kd.C_alloc ?_ _) | (with_reducible refine Kd.C_drewN ?_ _) | (with_reducible refine Kd.C_drew ?_))); (case side4 => exact HC0.out); rintro e w' ⟨rfl, ⟨nd, rfl⟩⟩; refine ⟨_, rfl, ?_⟩; (try (rw [drewN_self w44]; generalize hq_ : World.drewN w44 _ = w44; have n0_ : Aside0 (Kd.R (Kd.int .u8) 5 w44 w.heap.size (fun _ => True) (.slice Ao45 t395.length co45) t395) := ⟨by rw [← hq_]; exact (by (with_reducible repeat (first | apply Kd.R_alloc | apply Kd.R_drewN | apply Kd.R_drew)); exact Kd.R_mono HO397.out (fun _ hk => trivial))⟩; have n2_ : Aside0 (w44.heap[gb385]? = some (.cells #[.int .i64 0, .int .i64 0, .int .u8 0, .slice none 0 0] 93 (0, 0))) := ⟨by rw [← hq_]; exact (bq BK385.out)⟩; have n3_ : Aside0 (w44.heap[gb389]? = some (.cells #[.int .i64 t386, .int .i64 t387, .int .u8 (rd l0 8), .slice A30 t392.length c30] 93 (0, 0))) := ⟨by rw [← hq_]; exact (bq BK389.out)⟩; have n4_ : Aside0 (Below w.heap.size w w44) := ⟨by rw [← hq_]; exact (bw2 HB.out GE385.out GE389.out)⟩; clear HO397 BK385 BK389 HB hq_; have HO397 := n0_; have BK385 := n2_; have BK389 := n3_; have HB := n4_; clear n0_ n2_ n3_ n4_)); have hcz46_0 : w44.cell? ⟨gb389, 0, none⟩ = some (.int .i64 t386) := (blk_cell BK389.out 0).trans rfl; have hcz46_1 : w44.cell? ⟨gb389, 1, none⟩ = some (.int .i64 t387) := (blk_cell BK389.out 1).trans rfl; have hcz46_2 : w44.cell? ⟨gb389, 2, none⟩ = some (.int .u8 (rd l0 8)) := (blk_cell BK389.out 2).trans rfl; have hcz46_3 : w44.cell? ⟨gb389, 3, none⟩ = some (.slice A30 t392.length c30) := (blk_cell BK389.out 3).trans rfl; have hfz46_0 := blk_frozen BK389.out 0; have hfz46_1 := blk_frozen BK389.out 1; have hfz46_2 := blk_frozen BK389.out 2; have hfz46_3 := blk_frozen BK389.out 3; have hcz47_0 : w44.cell? ⟨gb385, 0, none⟩ = some (.int .i64 0) := (blk_cell BK385.out 0).trans rfl; have hcz47_1 : w44.cell? ⟨gb385, 1, none⟩ = some (.int .i64 0) := (blk_cell BK385.out 1).trans rfl; have hcz47_2 : w44.cell? ⟨gb385, 2, none⟩ = some (.int .u8 0) := (blk_cell BK385.out 2).trans rfl; have hcz47_3 : w44.cell? ⟨gb385, 3, none⟩ = some (.slice none 0 0) := (blk_cell BK385.out 3).trans rfl; have hfz47_0 := blk_frozen BK385.out 0; have hfz47_1 := blk_frozen BK385.out 1; have hfz47_2 := blk_frozen BK385.out 2; have hfz47_3 := blk_frozen BK385.out 3))
          refine bodyPost_ret (results_ct rfl _ _ gb385 93 #[.int .i64 t386, .int .i64 t387, .int .u8 (rd l0 8), .slice A30 t392.length c30] (0, 0) _ rfl (by (with_reducible repeat (first | refine blk_drewN ?_ _ | refine blk_drew ?_ | refine blk_alloc ?_ _)); refine blk_put (cs := #[.int .i64 t386, .int .i64 t387, .int .u8 (rd l0 8), .slice none 0 0]) ?_ 3 _ rfl; (with_reducible repeat (first | refine blk_drewN ?_ _ | refine blk_drew ?_ | refine blk_alloc ?_ _)); refine blk_put (cs := #[.int .i64 t386, .int .i64 t387, .int .u8 0, .slice none 0 0]) ?_ 2 _ rfl; (with_reducible repeat (first | refine blk_drewN ?_ _ | refine blk_drew ?_ | refine blk_alloc ?_ _)); refine blk_put (cs := #[.int .i64 t386, .int .i64 0, .int .u8 0, .slice none 0 0]) ?_ 1 _ rfl; (with_reducible repeat (first | refine blk_drewN ?_ _ | refine blk_drew ?_ | refine blk_alloc ?_ _)); refine blk_put (cs := #[.int .i64 0, .int .i64 0, .int .u8 0, .slice none 0 0]) ?_ 0 _ rfl; (with_reducible repeat (first | refine blk_drewN ?_ _ | refine blk_drew ?_ | refine blk_alloc ?_ _)); exact BK385.out) Try.underlying93 rfl (by kernel_rfl)) rfl ?_
          exact ⟨_, _, by first | rfl | (simp [errW_none, errW_some] <;> rfl) | (simp [*, errW_none, errW_some] <;> rfl), HPs.out, bw2 HB.out GE385.out GE389.out⟩
         ·replace c41 := Bool.eq_false_iff.mpr c41
          subst c41
          have H1 : (some (0, 0, 0, ([] : List Int), false)) = some (r1, r2, r3, r4, r5) := by rw [if_neg (show ¬ (false = true) by decide)] at H; exact H
          clear H
          have H := H1
          clear H1
          simp only [Option.some.injEq, Prod.mk.injEq] at H
          obtain ⟨rfl, rfl, rfl, rfl, rfl⟩ := H
          have hnb48 := NB389_385.out
          have hnc48 := NB385_389.out
          have hcz49_0 : wc.cell? ⟨gb389, 0, none⟩ = some (.int .i64 t386) := (blk_cell BK389.out 0).trans rfl
          have hcz49_1 : wc.cell? ⟨gb389, 1, none⟩ = some (.int .i64 t387) := (blk_cell BK389.out 1).trans rfl
          have hcz49_2 : wc.cell? ⟨gb389, 2, none⟩ = some (.int .u8 (rd l0 8)) := (blk_cell BK389.out 2).trans rfl
          have hcz49_3 : wc.cell? ⟨gb389, 3, none⟩ = some (.slice A30 t392.length c30) := (blk_cell BK389.out 3).trans rfl
          have hfz49_0 := blk_frozen BK389.out 0
          have hfz49_1 := blk_frozen BK389.out 1
          have hfz49_2 := blk_frozen BK389.out 2
          have hfz49_3 := blk_frozen BK389.out 3
          go_wp2_with (first | ((with_reducible refine gate_callee (f := 66) rfl ?_); refine goesL_ (some 46) rfl rfl Try.func66 (by kernel_rfl) rfl #[.agg #[.int .i64 t386, .int .i64 t387, .int .u8 (rd l0 8), .slice A30 t392.length c30]] rfl gm ?_; (with_reducible refine (impl_sector_bytes.calls kj22 t386 t387 (rd l0 8) _ _ t392 t395 _ ?side1 ?side2 A39.out).mono ?_); (case side1 => repeat (first | exact (Kd.C_below HP.out HB.out) | (with_reducible refine Kd.C_alloc ?_ _) | (with_reducible refine Kd.C_drewN ?_ _) | (with_reducible refine Kd.C_drew ?_))); (case side2 => exact HPc.out); rintro e w50 ⟨v396, rfl, ho0, hb⟩; refine ⟨_, rfl, ?_⟩; have n1_ := Ak (Kd.R_lower ho0 (below_size (bw2 HB.out GE385.out GE389.out))); have n2_ := Ak (blk_below (g := gb385) (o := .cells #[.int .i64 0, .int .i64 0, .int .u8 0, .slice none 0 0] 93 (0, 0)) (bq BK385.out) hb); have n3_ := Ak (blk_below (g := gb389) (o := .cells #[.int .i64 t386, .int .i64 t387, .int .u8 (rd l0 8), .slice A30 t392.length c30] 93 (0, 0)) (bq BK389.out) hb); have n4_ := Ak (below_step (bw2 HB.out GE385.out GE389.out) hb); clear BK385; clear BK389; clear HB; have HO397 := n1_; have BK385 := n2_; have BK389 := n3_; have HB := n4_; clear n1_ n2_ n3_ n4_; obtain ⟨Ao51, co51, eo51⟩ := Kd.R_slice HO397.out; subst eo51) | ((with_reducible refine gate_callee (f := 131) rfl ?_); refine goesL_ (some 48) rfl rfl Try.func131 (by kernel_rfl) rfl #[.slice Ao51 t395.length co51, .slice (some ad388) l0.length c0] rfl gm ?_; (with_reducible refine (slices_Equal_byte_byte.calls kj22 _ _ t395 _ _ l0 false _ ?side1 ?side2 ?side3 ?side4 A40.out).mono ?_); (case side1 => repeat (first | exact (Kd.R_reads' HO397.out).2.2 | (with_reducible refine Kd.C_alloc ?_ _) | (with_reducible refine Kd.C_drewN ?_ _) | (with_reducible refine Kd.C_drew ?_))); (case side2 => exact (Kd.R_reads' HO397.out).2.1); (case side3 => repeat (first | exact (Kd.C_below HR0.out HB.out) | (with_reducible refine Kd.C_alloc ?_ _) | (with_reducible refine Kd.C_drewN ?_ _) | (with_reducible refine Kd.C_drew ?_))); (case side4 => exact HC0.out); rintro e w' ⟨rfl, ⟨nd, rfl⟩⟩; refine ⟨_, rfl, ?_⟩; (try (rw [drewN_self w50]; generalize hq_ : World.drewN w50 _ = w50; have n0_ : Aside0 (Kd.R (Kd.int .u8) 5 w50 w.heap.size (fun _ => True) (.slice Ao51 t395.length co51) t395) := ⟨by rw [← hq_]; exact (by (with_reducible repeat (first | apply Kd.R_alloc | apply Kd.R_drewN | apply Kd.R_drew)); exact Kd.R_mono HO397.out (fun _ hk => trivial))⟩; have n2_ : Aside0 (w50.heap[gb385]? = some (.cells #[.int .i64 0, .int .i64 0, .int .u8 0, .slice none 0 0] 93 (0, 0))) := ⟨by rw [← hq_]; exact (bq BK385.out)⟩; have n3_ : Aside0 (w50.heap[gb389]? = some (.cells #[.int .i64 t386, .int .i64 t387, .int .u8 (rd l0 8), .slice A30 t392.length c30] 93 (0, 0))) := ⟨by rw [← hq_]; exact (bq BK389.out)⟩; have n4_ : Aside0 (Below w.heap.size w w50) := ⟨by rw [← hq_]; exact (bw2 HB.out GE385.out GE389.out)⟩; clear HO397 BK385 BK389 HB hq_; have HO397 := n0_; have BK385 := n2_; have BK389 := n3_; have HB := n4_; clear n0_ n2_ n3_ n4_)); have hcz52_0 : w50.cell? ⟨gb385, 0, none⟩ = some (.int .i64 0) := (blk_cell BK385.out 0).trans rfl; have hcz52_1 : w50.cell? ⟨gb385, 1, none⟩ = some (.int .i64 0) := (blk_cell BK385.out 1).trans rfl; have hcz52_2 : w50.cell? ⟨gb385, 2, none⟩ = some (.int .u8 0) := (blk_cell BK385.out 2).trans rfl; have hcz52_3 : w50.cell? ⟨gb385, 3, none⟩ = some (.slice none 0 0) := (blk_cell BK385.out 3).trans rfl; have hfz52_0 := blk_frozen BK385.out 0; have hfz52_1 := blk_frozen BK385.out 1; have hfz52_2 := blk_frozen BK385.out 2; have hfz52_3 := blk_frozen BK385.out 3))
          refine bodyPost_ret (results_ct rfl _ _ gb385 93 #[.int .i64 0, .int .i64 0, .int .u8 0, .slice none 0 0] (0, 0) _ rfl (by (with_reducible repeat (first | refine blk_drewN ?_ _ | refine blk_drew ?_ | refine blk_alloc ?_ _)); refine blk_put (cs := #[.int .i64 0, .int .i64 0, .int .u8 0, .slice none 0 0]) ?_ 3 _ rfl; (with_reducible repeat (first | refine blk_drewN ?_ _ | refine blk_drew ?_ | refine blk_alloc ?_ _)); refine blk_put (cs := #[.int .i64 0, .int .i64 0, .int .u8 0, .slice none 0 0]) ?_ 2 _ rfl; (with_reducible repeat (first | refine blk_drewN ?_ _ | refine blk_drew ?_ | refine blk_alloc ?_ _)); refine blk_put (cs := #[.int .i64 0, .int .i64 0, .int .u8 0, .slice none 0 0]) ?_ 1 _ rfl; (with_reducible repeat (first | refine blk_drewN ?_ _ | refine blk_drew ?_ | refine blk_alloc ?_ _)); refine blk_put (cs := #[.int .i64 0, .int .i64 0, .int .u8 0, .slice none 0 0]) ?_ 0 _ rfl; (with_reducible repeat (first | refine blk_drewN ?_ _ | refine blk_drew ?_ | refine blk_alloc ?_ _)); exact BK385.out) Try.underlying93 rfl (by kernel_rfl)) rfl ?_
          exact ⟨none, 0, by first | rfl | (simp [errW_none, errW_some] <;> rfl) | (simp [*, errW_none, errW_some] <;> rfl), .inl ⟨rfl, rfl, rfl⟩, bw2 HB.out GE385.out GE389.out⟩
  ·rw [if_neg c5] at H
   exact absurd H (by simp)
 ·rw [if_neg c4] at H
  exact absurd H (by simp)

end Go.Proofs.Ytgmnphckgicadaa.PFnExactLogOpen

