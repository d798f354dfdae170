/- The functions that the law FnDisk reaches, each with what it computes and its contract. -/
import Derived.Test.YtinilabmffjnaaaQFnDiskx0
import Derived.Test.YtinilabmffjnaaaQFnDiskx1
import Derived.Test.YtinilabmffjnaaaQFnDiskx2
import Derived.Test.YtinilabmffjnaaaQFnDiskx9
import Derived.Test.YtinilabmffjnaaaQFnDiskx10
import Derived.Test.YtinilabmffjnaaaQFnDiskx11
import Derived.Test.YtinilabmffjnaaaQFnDiskx12
import Derived.Test.YtinilabmffjnaaaQFnDiskx16
import Derived.Test.YtinilabmffjnaaaQFnDiskx17
namespace Go.Proofs.Ytinilabmffjnaaa.PFnDisk
open Go.RowKit Go.Proofs.YtinilabmffjnaaaW.PrintWords Go.Proofs.YtinilabmffjnaaaW.PrintLast Go.Proofs.YtinilabmffjnaaaW.PrintMore
attribute [local go_sem] max2_int min2_int max_two min_two max_three min_three max_four min_four
set_option linter.unusedVariables false
set_option linter.unusedSimpArgs false

mutual
def laws_FnDisk.j0 : Nat → List Int → Bool → List Int → List (S34) → List Int → List (S34) → Option (Bool)
 | 0, _, _, _, _, _, _ => none
 | k + 1, x4, x51, x391000, x391001, x400000, x400001 => if x51 = true then (some false) else ((impl_Crash.f k x391000 x391001 x4).bind fun bt417 => (if (bt417.1.length : Int) = (x391000.length : Int) then (laws_FnDisk.j1 k ((x400000.length : Int) != (x391000.length : Int)) x391000 x391001 x400000 x400001 bt417.1 bt417.2) else (laws_FnDisk.j1 k true x391000 x391001 x400000 x400001 bt417.1 bt417.2)))
def laws_FnDisk.j1 : Nat → Bool → List Int → List (S34) → List Int → List (S34) → List Int → List (S34) → Option (Bool)
 | 0, _, _, _, _, _, _, _ => none
 | k + 1, x70, x391000, x391001, x400000, x400001, x424000, x424001 => if x70 = true then (some false) else (laws_FnDisk.l0 k 0 x391000 x391001 x400000 x400001 x424000 x424001)
def laws_FnDisk.l0 : Nat → Int → List Int → List (S34) → List Int → List (S34) → List Int → List (S34) → Option (Bool)
 | 0, _, _, _, _, _, _, _ => none
 | k + 1, x7, x391000, x391001, x400000, x400001, x424000, x424001 => if x7 < (wrap64 ((x391000.length : Int) / 64)) then (if 0 ≤ (wrap64 (x7 * 64)) then (if (wrap64 (x7 * 64)) ≤ (wrap64 ((wrap64 (x7 + 1)) * 64)) then (if (wrap64 ((wrap64 (x7 + 1)) * 64)) ≤ (x424000.length : Int) then ((some ((x424000.take ((wrap64 ((wrap64 (x7 + 1)) * 64)) : Int).toNat).drop ((wrap64 (x7 * 64)) : Int).toNat : List Int)).bind fun y424 => (if (wrap64 ((wrap64 (x7 + 1)) * 64)) ≤ (x391000.length : Int) then ((laws_sameBytes.f k y424 ((x391000.take ((wrap64 ((wrap64 (x7 + 1)) * 64)) : Int).toNat).drop ((wrap64 (x7 * 64)) : Int).toNat)).bind fun t432 => (laws_FnDisk.l1 k x7 y424 t432 0 x391000 x391001 x400000 x400001 x424000 x424001)) else (none))) else (none)) else (none)) else (none)) else (some ((x424001.length : Int) == 0))
def laws_FnDisk.l1 : Nat → Int → List Int → Bool → Int → List Int → List (S34) → List Int → List (S34) → List Int → List (S34) → Option (Bool)
 | 0, _, _, _, _, _, _, _, _, _, _ => none
 | k + 1, x7, x8, x9, x10, x391000, x391001, x400000, x400001, x424000, x424001 => if x10 < (x391001.length : Int) then (if x9 = true then (laws_FnDisk.l1 k x7 x8 true (wrap64 (x10 + 1)) x391000 x391001 x400000 x400001 x424000 x424001) else (if 0 ≤ x10 then (if ((rd_T34 x391001 x10).f0) = x7 then ((laws_sameBytes.f k x8 ((rd_T34 x391001 x10).f1)).bind fun t435 => (laws_FnDisk.l1 k x7 x8 t435 (wrap64 (x10 + 1)) x391000 x391001 x400000 x400001 x424000 x424001)) else (laws_FnDisk.l1 k x7 x8 false (wrap64 (x10 + 1)) x391000 x391001 x400000 x400001 x424000 x424001)) else (none))) else ((impl_ReadSector.f k x391000 x391001 x7).bind fun bt436 => (if x9 = true then (if bt436.2 = true then (if 0 ≤ (wrap64 (x7 * 64)) then (if (wrap64 (x7 * 64)) ≤ (wrap64 ((wrap64 (x7 + 1)) * 64)) then (if (wrap64 ((wrap64 (x7 + 1)) * 64)) ≤ (x400000.length : Int) then ((laws_sameBytes.f k bt436.1 ((x400000.take ((wrap64 ((wrap64 (x7 + 1)) * 64)) : Int).toNat).drop ((wrap64 (x7 * 64)) : Int).toNat)).bind fun t444 => (if t444 = true then (laws_FnDisk.l0 k (wrap64 (x7 + 1)) x391000 x391001 x400000 x400001 x424000 x424001) else (some false))) else (none)) else (none)) else (none)) else (some false)) else (some false)))
end
def laws_FnDisk.f (k : Nat) (l0 : List Int) : Option (Bool) := (laws_big.f l0).bind fun t380 => (if t380 = true then (some true) else ((spec_DrawCrash.f k l0).bind fun bt381 => ((spec_DiskOk.f k bt381.1 bt381.2.1).bind fun t391 => (if t391 = true then ((impl_Sync.f k bt381.1 bt381.2.1).bind fun bt393 => (if (bt393.2.length : Int) = 0 then ((impl_Crash.f k bt393.1 bt393.2 bt381.2.2).bind fun bt400 => ((laws_sameBytes.f k bt400.1 bt393.1).bind fun t406 => (if t406 = true then ((impl_Crash.f k bt381.1 bt381.2.1 (([255, 255, 255] : List Int))).bind fun bt410 => ((laws_sameBytes.f k bt410.1 bt393.1).bind fun t416 => (laws_FnDisk.j0 k bt381.2.2 (!t416) bt381.1 bt381.2.1 bt393.1 bt393.2))) else (laws_FnDisk.j0 k bt381.2.2 true bt381.1 bt381.2.1 bt393.1 bt393.2)))) else (laws_FnDisk.j0 k bt381.2.2 true bt381.1 bt381.2.1 bt393.1 bt393.2))) else ((impl_DiskOk.f k bt381.1 bt381.2.1).bind fun t392 => (some (!t392)))))))
def laws_FnDisk.T7 : Bool × List (List Nat × List Nat) := (true, [([], []), ([0], [0]), ([1], [1]), ([2], [2]), ([3], [3]), ([4], [4]), ([4], [4]), ([5, 6, 4, 4], [4, 5, 6]), ([7, 4], [4, 7]), ([4], [4]), ([9, 4], [4, 9]), ([8, 10, 7, 4], [4, 8, 10]), ([11, 4], [4, 11]), ([4, 12], [4, 12]), ([13, 11], [13]), ([14], [14]), ([14], [14]), ([15, 16, 14, 14], [14, 15, 16]), ([17, 14], [14, 17]), ([14], [14]), ([19, 14], [14, 19]), ([18, 20, 17, 14], [14, 18, 20]), ([21, 14], [14, 21]), ([14, 22], [14, 22])])
def laws_FnDisk.B7 : List Nat := [0, 1, 3, 7, 15, 31, 31, 127, 255, 31, 543, 2047, 4095, 8191, 16383, 32767, 32767, 131071, 262143, 32767, 557055, 2097151, 4194303, 8388607]
theorem laws_FnDisk.tab7 : rtab .any (opsOf Try.f3 7) = laws_FnDisk.T7 := by kernel_rfl
theorem laws_FnDisk.bits7 : waitsOk laws_FnDisk.T7.2 laws_FnDisk.B7 = true := by kernel_rfl
set_option maxHeartbeats 8000000 in
set_option maxRecDepth 100000 in
theorem laws_FnDisk.calls (k : Nat) (A0 : Option Addr) (c0 : Nat) (l0 : List Int) (r : Bool) (w : World) (hr0 : Kd.C (Kd.int .u8) w A0 l0.length l0) (hc0 : l0.length ≤ c0) (h : laws_FnDisk.f k l0 = some r) (hrt : r = true) :
  Calls Try.prog 3 #[.slice A0 l0.length c0] w fun e w' => e = .returned (.bool r) ∧ Below w.heap.size w w' := by
 have hu26 := Try.underlying26
 have hfd0 : ∀ (u v : Value) (w : World), Sem.run Try.prog (Instr.field 26 (.agg #[u, v]) 0) w = .ok u w := fun _ _ _ => by kernel_rfl
 have hfd1 : ∀ (u v : Value) (w : World), Sem.run Try.prog (Instr.field 26 (.agg #[u, v]) 1) w = .ok v w := fun _ _ _ => by kernel_rfl
 have HR0 := Ak hr0
 have HC0 := Ak hc0
 clear hr0 hc0
 have HB := Ak (Below.refl w.heap.size w)
 have H : ((laws_big.f l0).bind fun t380 => (if t380 = true then (some true) else ((spec_DrawCrash.f k l0).bind fun bt381 => ((spec_DiskOk.f k bt381.1 bt381.2.1).bind fun t391 => (if t391 = true then ((impl_Sync.f k bt381.1 bt381.2.1).bind fun bt393 => (if (bt393.2.length : Int) = 0 then ((impl_Crash.f k bt393.1 bt393.2 bt381.2.2).bind fun bt400 => ((laws_sameBytes.f k bt400.1 bt393.1).bind fun t406 => (if t406 = true then ((impl_Crash.f k bt381.1 bt381.2.1 (([255, 255, 255] : List Int))).bind fun bt410 => ((laws_sameBytes.f k bt410.1 bt393.1).bind fun t416 => (laws_FnDisk.j0 k bt381.2.2 (!t416) bt381.1 bt381.2.1 bt393.1 bt393.2))) else (laws_FnDisk.j0 k bt381.2.2 true bt381.1 bt381.2.1 bt393.1 bt393.2)))) else (laws_FnDisk.j0 k bt381.2.2 true bt381.1 bt381.2.1 bt393.1 bt393.2))) else ((impl_DiskOk.f k bt381.1 bt381.2.1).bind fun t392 => (some (!t392)))))))) = some r := h
 clear h
 replace H := Option.bind_eq_some_iff.mp H
 obtain ⟨t380, A20, H⟩ := H
 replace H : (if t380 = true then (some true) else ((spec_DrawCrash.f k l0).bind fun bt381 => ((spec_DiskOk.f k bt381.1 bt381.2.1).bind fun t391 => (if t391 = true then ((impl_Sync.f k bt381.1 bt381.2.1).bind fun bt393 => (if (bt393.2.length : Int) = 0 then ((impl_Crash.f k bt393.1 bt393.2 bt381.2.2).bind fun bt400 => ((laws_sameBytes.f k bt400.1 bt393.1).bind fun t406 => (if t406 = true then ((impl_Crash.f k bt381.1 bt381.2.1 (([255, 255, 255] : List Int))).bind fun bt410 => ((laws_sameBytes.f k bt410.1 bt393.1).bind fun t416 => (laws_FnDisk.j0 k bt381.2.2 (!t416) bt381.1 bt381.2.1 bt393.1 bt393.2))) else (laws_FnDisk.j0 k bt381.2.2 true bt381.1 bt381.2.1 bt393.1 bt393.2)))) else (laws_FnDisk.j0 k bt381.2.2 true bt381.1 bt381.2.1 bt393.1 bt393.2))) else ((impl_DiskOk.f k bt381.1 bt381.2.1).bind fun t392 => (some (!t392))))))) = some r := H
 have A2 := Ak A20
 clear A20
 by_cases c3 : t380 = true
 ·subst c3
  have H1 : (some true) = some r := by rw [if_pos rfl] at H; exact H
  clear H
  have H := H1
  clear H1
  obtain rfl := Option.some.inj H
  go_enter Try.func3, Try.ntmps3
  go_wp2_with (first | ((with_reducible refine gate_callee (f := 11) rfl ?_); refine goesL_ (some 14) rfl rfl Try.func11 (by kernel_rfl) rfl #[.slice A0 l0.length c0] rfl gm ?_; (with_reducible refine (laws_big.calls _ _ l0 true _ ?side1 ?side2 A2.out).mono ?_); (case side1 => repeat (first | exact HR0.out | (with_reducible refine Kd.C_alloc ?_ _) | (with_reducible refine Kd.C_drewN ?_ _) | (with_reducible refine Kd.C_drew ?_))); (case side2 => exact HC0.out); rintro e w' ⟨rfl, ⟨nd, rfl⟩⟩; refine ⟨_, rfl, ?_⟩))
  go_ret
  exact ⟨by first | rfl | (simp [errW_none, errW_some] <;> rfl) | (simp [*, errW_none, errW_some] <;> rfl), bw HB.out⟩
 ·replace c3 := Bool.eq_false_iff.mpr c3
  subst c3
  have H1 : ((spec_DrawCrash.f k l0).bind fun bt381 => ((spec_DiskOk.f k bt381.1 bt381.2.1).bind fun t391 => (if t391 = true then ((impl_Sync.f k bt381.1 bt381.2.1).bind fun bt393 => (if (bt393.2.length : Int) = 0 then ((impl_Crash.f k bt393.1 bt393.2 bt381.2.2).bind fun bt400 => ((laws_sameBytes.f k bt400.1 bt393.1).bind fun t406 => (if t406 = true then ((impl_Crash.f k bt381.1 bt381.2.1 (([255, 255, 255] : List Int))).bind fun bt410 => ((laws_sameBytes.f k bt410.1 bt393.1).bind fun t416 => (laws_FnDisk.j0 k bt381.2.2 (!t416) bt381.1 bt381.2.1 bt393.1 bt393.2))) else (laws_FnDisk.j0 k bt381.2.2 true bt381.1 bt381.2.1 bt393.1 bt393.2)))) else (laws_FnDisk.j0 k bt381.2.2 true bt381.1 bt381.2.1 bt393.1 bt393.2))) else ((impl_DiskOk.f k bt381.1 bt381.2.1).bind fun t392 => (some (!t392)))))) = some r := by rw [if_neg (show ¬ (false = true) by decide)] at H; exact H
  clear H
  have H := H1
  clear H1
  replace H := Option.bind_eq_some_iff.mp H
  obtain ⟨⟨t381, t384, t387⟩, A40, H⟩ := H
  replace H : ((spec_DiskOk.f k t381 t384).bind fun t391 => (if t391 = true then ((impl_Sync.f k t381 t384).bind fun bt393 => (if (bt393.2.length : Int) = 0 then ((impl_Crash.f k bt393.1 bt393.2 t387).bind fun bt400 => ((laws_sameBytes.f k bt400.1 bt393.1).bind fun t406 => (if t406 = true then ((impl_Crash.f k t381 t384 (([255, 255, 255] : List Int))).bind fun bt410 => ((laws_sameBytes.f k bt410.1 bt393.1).bind fun t416 => (laws_FnDisk.j0 k t387 (!t416) t381 t384 bt393.1 bt393.2))) else (laws_FnDisk.j0 k t387 true t381 t384 bt393.1 bt393.2)))) else (laws_FnDisk.j0 k t387 true t381 t384 bt393.1 bt393.2))) else ((impl_DiskOk.f k t381 t384).bind fun t392 => (some (!t392))))) = some r := H
  have A4 := Ak A40
  clear A40
  replace H := Option.bind_eq_some_iff.mp H
  obtain ⟨t391, A50, H⟩ := H
  replace H : (if t391 = true then ((impl_Sync.f k t381 t384).bind fun bt393 => (if (bt393.2.length : Int) = 0 then ((impl_Crash.f k bt393.1 bt393.2 t387).bind fun bt400 => ((laws_sameBytes.f k bt400.1 bt393.1).bind fun t406 => (if t406 = true then ((impl_Crash.f k t381 t384 (([255, 255, 255] : List Int))).bind fun bt410 => ((laws_sameBytes.f k bt410.1 bt393.1).bind fun t416 => (laws_FnDisk.j0 k t387 (!t416) t381 t384 bt393.1 bt393.2))) else (laws_FnDisk.j0 k t387 true t381 t384 bt393.1 bt393.2)))) else (laws_FnDisk.j0 k t387 true t381 t384 bt393.1 bt393.2))) else ((impl_DiskOk.f k t381 t384).bind fun t392 => (some (!t392)))) = some r := H
  have A5 := Ak A50
  clear A50
  by_cases c6 : t391 = true
  ·subst c6
   have H1 : ((impl_Sync.f k t381 t384).bind fun bt393 => (if (bt393.2.length : Int) = 0 then ((impl_Crash.f k bt393.1 bt393.2 t387).bind fun bt400 => ((laws_sameBytes.f k bt400.1 bt393.1).bind fun t406 => (if t406 = true then ((impl_Crash.f k t381 t384 (([255, 255, 255] : List Int))).bind fun bt410 => ((laws_sameBytes.f k bt410.1 bt393.1).bind fun t416 => (laws_FnDisk.j0 k t387 (!t416) t381 t384 bt393.1 bt393.2))) else (laws_FnDisk.j0 k t387 true t381 t384 bt393.1 bt393.2)))) else (laws_FnDisk.j0 k t387 true t381 t384 bt393.1 bt393.2))) = some r := by rw [if_pos rfl] at H; exact H
   clear H
   have H := H1
   clear H1
   replace H := Option.bind_eq_some_iff.mp H
   obtain ⟨⟨t393, t396⟩, A70, H⟩ := H
   replace H : (if (t396.length : Int) = 0 then ((impl_Crash.f k t393 t396 t387).bind fun bt400 => ((laws_sameBytes.f k bt400.1 t393).bind fun t406 => (if t406 = true then ((impl_Crash.f k t381 t384 (([255, 255, 255] : List Int))).bind fun bt410 => ((laws_sameBytes.f k bt410.1 t393).bind fun t416 => (laws_FnDisk.j0 k t387 (!t416) t381 t384 t393 t396))) else (laws_FnDisk.j0 k t387 true t381 t384 t393 t396)))) else (laws_FnDisk.j0 k t387 true t381 t384 t393 t396)) = some r := H
   have A7 := Ak A70
   clear A70
   have HC8 := Ak H
   clear H
   go_enter Try.func3, Try.ntmps3
   go_upto_region 7 with (first | ((with_reducible refine gate_callee (f := 11) rfl ?_); refine goesL_ (some 14) rfl rfl Try.func11 (by kernel_rfl) rfl #[.slice A0 l0.length c0] rfl gm ?_; (with_reducible refine (laws_big.calls _ _ l0 false _ ?side1 ?side2 A2.out).mono ?_); (case side1 => repeat (first | exact HR0.out | (with_reducible refine Kd.C_alloc ?_ _) | (with_reducible refine Kd.C_drewN ?_ _) | (with_reducible refine Kd.C_drew ?_))); (case side2 => exact HC0.out); rintro e w' ⟨rfl, ⟨nd, rfl⟩⟩; refine ⟨_, rfl, ?_⟩) | ((with_reducible refine gate_callee (f := 12) rfl ?_); refine goesL_ (some 17) rfl rfl Try.func12 (by kernel_rfl) rfl #[.slice A0 l0.length c0] rfl gm ?_; (with_reducible refine (spec_DrawCrash.calls k _ _ l0 t381 t384 t387 _ ?side1 ?side2 A4.out).mono ?_); (case side1 => repeat (first | exact HR0.out | (with_reducible refine Kd.C_alloc ?_ _) | (with_reducible refine Kd.C_drewN ?_ _) | (with_reducible refine Kd.C_drew ?_))); (case side2 => exact HC0.out); rintro e w9 ⟨v382, v385, v388, rfl, ho0, ho1, ho2, hb⟩; refine ⟨_, rfl, ?_⟩; have n0_ := Ak (Kd.Q_lower ho0 (below_size (bw HB.out))); have n1_ := Ak (Kd.S_lower ho1 (below_size (bw HB.out))); have n2_ := Ak (Kd.R_lower ho2 (below_size (bw HB.out))); have n3_ := Ak (below_step (bw HB.out) hb); clear HB; have HO383 := n0_; have HO386 := n1_; have HO389 := n2_; have HB := n3_; clear n0_ n1_ n2_ n3_) | ((with_reducible refine gate_dst (N := 3) rfl ?_); (try (refine gate_guard (by rfl) ?_; dsimp only)); refine box_event ?hg (N := 3) ?hd (cs := #[.slice none 0 0, .slice none 0 0]) (t := 26) ?hr ?_; (case hd => rfl); (case hg => rfl); (case hr => first | (go_simp; done) | (go_simp; rfl)); intro gb390 hg w10 hbox hb; have n0_ := Ak (Kd.Q_below (qq HO383.out) hb); have n1_ := Ak (Kd.S_below (sq HO386.out) hb); have n2_ := Ak (Kd.R_below (rq HO389.out) hb); have n3_ := Ak (below_step (bw HB.out) hb); have n4_ := Ak (hbox); have n5_ := Ak ((by rw [hg]; exact (below_size (bw HB.out)) : w.heap.size ≤ gb390)); have n6_ := Ak ((by rw [hg]; exact (below_size (bw HB.out)) : w.heap.size ≤ gb390)); clear HO383; clear HO386; clear HO389; clear HB; have HO383 := n0_; have HO386 := n1_; have HO389 := n2_; have HB := n3_; have BK390 := n4_; have GW390 := n5_; have GE390 := n6_; clear n0_ n1_ n2_ n3_ n4_ n5_ n6_; clear hb hbox hg; obtain ⟨Ao11, co11, eo11, _⟩ := Kd.Q_slice HO383.out; subst eo11; have hcz12_0 : w10.cell? ⟨gb390, 0, none⟩ = some (.slice none 0 0) := (blk_cell BK390.out 0).trans rfl; have hcz12_1 : w10.cell? ⟨gb390, 1, none⟩ = some (.slice none 0 0) := (blk_cell BK390.out 1).trans rfl; have hfz12_0 := blk_frozen BK390.out 0; have hfz12_1 := blk_frozen BK390.out 1; obtain ⟨Ao13, co13, eo13⟩ := Kd.S_slice HO386.out; subst eo13) | ((with_reducible refine gate_callee (f := 13) rfl ?_); refine goesL_ (some 21) rfl rfl Try.func13 (by kernel_rfl) rfl #[.agg #[.slice Ao11 t381.length co11, .slice Ao13 t384.length co13]] rfl gm ?_; (with_reducible refine (spec_DiskOk.calls k _ _ t381 _ _ t384 true _ ?side1 ?side2 ?side3 ?side4 A5.out).mono ?_); (case side1 => refine (Kd.Q_reads' (e := 5) (base := w.heap.size) (ok := fun k_ => some k_ ≠ (v388 : Value).ownBlock) (n := t381.length) (c := co11) ?_).2.2; exact (by (with_reducible repeat (first | apply Kd.Q_alloc | apply Kd.Q_drewN | apply Kd.Q_drew)); exact (Kd.Q_mono (Kd.Q_far (p := ⟨gb390, 1, none⟩) (Kd.Q_far (p := ⟨gb390, 0, none⟩) (Kd.Q_types HO383.out BK390.out (by decide)) (fun _ hk => hk.2) (.slice Ao11 t381.length co11)) (fun _ hk => hk.2) (.slice Ao13 t384.length co13)) (fun _ h_ => h_.1)))); (case side2 => exact (Kd.Q_reads' HO383.out).2.1); (case side3 => refine (Kd.S_reads' (e := 34) (base := w.heap.size) (ok := fun k_ => (some k_ ≠ (.slice Ao11 t381.length co11 : Value).ownBlock ∧ some k_ ≠ (v388 : Value).ownBlock)) (n := t384.length) (c := co13) ?_).2.2; exact (by (with_reducible repeat (first | apply Kd.S_alloc | apply Kd.S_drewN | apply Kd.S_drew)); exact (Kd.S_mono (Kd.S_far (p := ⟨gb390, 1, none⟩) (Kd.S_far (p := ⟨gb390, 0, none⟩) (Kd.S_types HO386.out BK390.out (by decide)) (fun _ hk => hk.2) (.slice Ao11 t381.length co11)) (fun _ hk => hk.2) (.slice Ao13 t384.length co13)) (fun _ h_ => h_.1)))); (case side4 => exact (Kd.S_reads' HO386.out).2.1); rintro e w14 ⟨rfl, hb⟩; refine ⟨_, rfl, ?_⟩; have n0_ := Ak (Kd.Q_below (by (with_reducible repeat (first | apply Kd.Q_alloc | apply Kd.Q_drewN | apply Kd.Q_drew)); exact (Kd.Q_mono (Kd.Q_far (p := ⟨gb390, 1, none⟩) (Kd.Q_far (p := ⟨gb390, 0, none⟩) (Kd.Q_types HO383.out BK390.out (by decide)) (fun _ hk => hk.2) (.slice Ao11 t381.length co11)) (fun _ hk => hk.2) (.slice Ao13 t384.length co13)) (fun _ h_ => h_.1))) hb); have n1_ := Ak (Kd.S_below (by (with_reducible repeat (first | apply Kd.S_alloc | apply Kd.S_drewN | apply Kd.S_drew)); exact (Kd.S_mono (Kd.S_far (p := ⟨gb390, 1, none⟩) (Kd.S_far (p := ⟨gb390, 0, none⟩) (Kd.S_types HO386.out BK390.out (by decide)) (fun _ hk => hk.2) (.slice Ao11 t381.length co11)) (fun _ hk => hk.2) (.slice Ao13 t384.length co13)) (fun _ h_ => h_.1))) hb); have n2_ := Ak (Kd.R_below (by (with_reducible repeat (first | apply Kd.R_alloc | apply Kd.R_drewN | apply Kd.R_drew)); exact (Kd.R_mono (Kd.R_far (p := ⟨gb390, 1, none⟩) (Kd.R_far (p := ⟨gb390, 0, none⟩) (Kd.R_types HO389.out BK390.out (by decide)) (fun _ hk => hk.2) (.slice Ao11 t381.length co11)) (fun _ hk => hk.2) (.slice Ao13 t384.length co13)) (fun _ h_ => h_.1))) hb); have n3_ := Ak (blk_below (g := gb390) (o := .cells #[.slice Ao11 t381.length co11, .slice Ao13 t384.length co13] 26 (0, 0)) (by (with_reducible repeat (first | refine blk_drewN ?_ _ | refine blk_drew ?_ | refine blk_alloc ?_ _)); refine blk_put (cs := #[.slice Ao11 t381.length co11, .slice none 0 0]) ?_ 1 _ rfl; (with_reducible repeat (first | refine blk_drewN ?_ _ | refine blk_drew ?_ | refine blk_alloc ?_ _)); refine blk_put (cs := #[.slice none 0 0, .slice none 0 0]) ?_ 0 _ rfl; (with_reducible repeat (first | refine blk_drewN ?_ _ | refine blk_drew ?_ | refine blk_alloc ?_ _)); exact BK390.out) hb); have n4_ := Ak (below_step (bw1 HB.out GE390.out) hb); clear HO383; clear HO386; clear HO389; clear BK390; clear HB; have HO383 := n0_; have HO386 := n1_; have HO389 := n2_; have BK390 := n3_; have HB := n4_; clear n0_ n1_ n2_ n3_ n4_; have hcz15_0 : w14.cell? ⟨gb390, 0, none⟩ = some (.slice Ao11 t381.length co11) := (blk_cell BK390.out 0).trans rfl; have hcz15_1 : w14.cell? ⟨gb390, 1, none⟩ = some (.slice Ao13 t384.length co13) := (blk_cell BK390.out 1).trans rfl; have hfz15_0 := blk_frozen BK390.out 0; have hfz15_1 := blk_frozen BK390.out 1) | ((with_reducible refine gate_callee (f := 15) rfl ?_); refine goesL_ (some 27) rfl rfl Try.func15 (by kernel_rfl) rfl #[.agg #[.slice Ao11 t381.length co11, .slice Ao13 t384.length co13]] rfl gm ?_; (with_reducible refine (impl_Sync.calls k _ _ t381 _ _ t384 t393 t396 _ ?side1 ?side2 ?side3 ?side4 A7.out).mono ?_); (case side1 => repeat (first | exact (Kd.Q_reads' HO383.out).2.2 | (with_reducible refine Kd.C_alloc ?_ _) | (with_reducible refine Kd.C_drewN ?_ _) | (with_reducible refine Kd.C_drew ?_))); (case side2 => exact (Kd.Q_reads' HO383.out).2.1); (case side3 => repeat (first | exact (Kd.S_reads' HO386.out).2.2 | (with_reducible refine Kd.C_alloc ?_ _) | (with_reducible refine Kd.C_drewN ?_ _) | (with_reducible refine Kd.C_drew ?_))); (case side4 => exact (Kd.S_reads' HO386.out).2.1); rintro e w16 ⟨v394, v397, rfl, ho0, ho1, hb⟩; refine ⟨_, rfl, ?_⟩; have n0_ := Ak (Kd.Q_elder' (qq HO383.out) (Kd.R_base ho0) hb); have n1_ := Ak (Kd.S_mono (Kd.S_told (Kd.S_told (Kd.S_old (sq HO386.out) hb) (Kd.R_base ho0)) (Kd.S_base ho1)) (fun _ h_ => h_.1)); have n2_ := Ak (Kd.R_elder' (rq HO389.out) (Kd.R_base ho0) hb); have n3_ := Ak (Kd.R_lower (Kd.R_new' (Kd.R_new' ho0 (Kd.Q_lt (qq HO383.out))) (Kd.R_lt (rq HO389.out))) (below_size (bw1 HB.out GE390.out))); have n4_ := Ak (Kd.S_lower (Kd.S_new' (Kd.S_new' (Kd.S_new' ho1 (Kd.Q_lt (qq HO383.out))) (Kd.S_lt (sq HO386.out))) (Kd.R_lt (rq HO389.out))) (below_size (bw1 HB.out GE390.out))); have n5_ := Ak (blk_below (g := gb390) (o := .cells #[.slice Ao11 t381.length co11, .slice Ao13 t384.length co13] 26 (0, 0)) (bq BK390.out) hb); have n6_ := Ak (below_step (bw1 HB.out GE390.out) hb); clear HO383; clear HO386; clear HO389; clear BK390; clear HB; have HO383 := n0_; have HO386 := n1_; have HO389 := n2_; have HO395 := n3_; have HO398 := n4_; have BK390 := n5_; have HB := n6_; clear n0_ n1_ n2_ n3_ n4_ n5_ n6_) | ((with_reducible refine gate_dst (N := 5) rfl ?_); (try (refine gate_guard (by rfl) ?_; dsimp only)); refine box_event ?hg (N := 5) ?hd (cs := #[.slice none 0 0, .slice none 0 0]) (t := 26) ?hr ?_; (case hd => rfl); (case hg => rfl); (case hr => first | (go_simp; done) | (go_simp; rfl)); intro gb399 hg w17 hbox hb; have n0_ := Ak (Kd.Q_below (qq HO383.out) hb); have n1_ := Ak (Kd.S_below (sq HO386.out) hb); have n2_ := Ak (Kd.R_below (rq HO389.out) hb); have n3_ := Ak (Kd.R_below (rq HO395.out) hb); have n4_ := Ak (Kd.S_below (sq HO398.out) hb); have n5_ := Ak (blk_below (g := gb390) (o := .cells #[.slice Ao11 t381.length co11, .slice Ao13 t384.length co13] 26 (0, 0)) (bq BK390.out) hb); have n6_ := Ak (below_step (bw1 HB.out GE390.out) hb); have n7_ := Ak (hbox); have n8_ := Ak ((by rw [hg]; exact (below_size (bw1 HB.out GE390.out)) : w.heap.size ≤ gb399)); have n9_ := Ak ((by rw [hg]; exact (below_size (bw1 HB.out GE390.out)) : w.heap.size ≤ gb399)); have n10_ := Ak ((by rw [hg]; exact Nat.ne_of_lt (blk_lt (g := gb390) (o := .cells #[.slice Ao11 t381.length co11, .slice Ao13 t384.length co13] 26 (0, 0)) (bq BK390.out)) : gb390 ≠ gb399)); have n11_ := Ak ((by rw [hg]; exact Nat.ne_of_gt (blk_lt (g := gb390) (o := .cells #[.slice Ao11 t381.length co11, .slice Ao13 t384.length co13] 26 (0, 0)) (bq BK390.out)) : gb399 ≠ gb390)); clear HO383; clear HO386; clear HO389; clear HO395; clear HO398; clear BK390; clear HB; have HO383 := n0_; have HO386 := n1_; have HO389 := n2_; have HO395 := n3_; have HO398 := n4_; have BK390 := n5_; have HB := n6_; have BK399 := n7_; have GW399 := n8_; have GE399 := n9_; have NB390_399 := n10_; have NB399_390 := n11_; clear n0_ n1_ n2_ n3_ n4_ n5_ n6_ n7_ n8_ n9_ n10_ n11_; clear hb hbox hg; obtain ⟨Ao18, co18, eo18⟩ := Kd.R_slice HO395.out; subst eo18; have hnb19 := NB399_390.out; have hnc19 := NB390_399.out; have hcz20_0 : w17.cell? ⟨gb399, 0, none⟩ = some (.slice none 0 0) := (blk_cell BK399.out 0).trans rfl; have hcz20_1 : w17.cell? ⟨gb399, 1, none⟩ = some (.slice none 0 0) := (blk_cell BK399.out 1).trans rfl; have hfz20_0 := blk_frozen BK399.out 0; have hfz20_1 := blk_frozen BK399.out 1; obtain ⟨Ao21, co21, eo21⟩ := Kd.S_slice HO398.out; subst eo21))
   (try simp only [Act.put, sT, sZ, sS])
   go_cut [51] (fun v51 wc => ∃ (kq : Nat) (x51_7 : Bool), v51 = .bool x51_7 ∧ Aside0 (laws_FnDisk.j0 kq t387 x51_7 t381 t384 t393 t396 = some r) ∧ Aside0 (kq ≤ k) ∧ Aside0 (Kd.R (Kd.int .u8) 5 wc w.heap.size (fun k_ => some k_ ≠ ((.slice Ao11 t381.length co11) : Value).ownBlock ∧ some k_ ≠ ((.slice Ao18 t393.length co18) : Value).ownBlock) v388 t387) ∧ Aside0 (Kd.Q (Kd.int .u8) 5 wc w.heap.size (fun k_ => some k_ ≠ (v388 : Value).ownBlock ∧ some k_ ≠ ((.slice Ao18 t393.length co18) : Value).ownBlock) (.slice Ao11 t381.length co11) t381) ∧ Aside0 (Kd.S k34 34 wc w.heap.size (fun k_ => some k_ ≠ (v388 : Value).ownBlock ∧ some k_ ≠ ((.slice Ao11 t381.length co11) : Value).ownBlock ∧ some k_ ≠ ((.slice Ao18 t393.length co18) : Value).ownBlock ∧ some k_ ≠ ((.slice Ao21 t396.length co21) : Value).ownBlock) (.slice Ao13 t384.length co13) t384) ∧ Aside0 (Kd.Q (Kd.int .u8) 5 wc w.heap.size (fun k_ => some k_ ≠ (v388 : Value).ownBlock ∧ some k_ ≠ ((.slice Ao11 t381.length co11) : Value).ownBlock) (.slice Ao18 t393.length co18) t393) ∧ Aside0 (Kd.S k34 34 wc w.heap.size (fun k_ => some k_ ≠ (v388 : Value).ownBlock ∧ some k_ ≠ ((.slice Ao11 t381.length co11) : Value).ownBlock ∧ some k_ ≠ ((.slice Ao13 t384.length co13) : Value).ownBlock ∧ some k_ ≠ ((.slice Ao18 t393.length co18) : Value).ownBlock) (.slice Ao21 t396.length co21) t396) ∧ Aside0 (wc.heap[gb390]? = some (.cells #[(.slice Ao11 t381.length co11), (.slice Ao13 t384.length co13)] 26 (0, 0))) ∧ Aside0 (wc.heap[gb399]? = some (.cells #[(.slice Ao18 t393.length co18), (.slice Ao21 t396.length co21)] 26 (0, 0))) ∧ Aside0 (Below w.heap.size w wc))
   case first =>
    have H := HC8.out
    clear HC8
    by_cases c22 : (t396.length : Int) = 0
    ·rw [if_pos c22] at H
     have c22b0 : ((t396.length : Int) == 0) = true := beq_iff_eq.mpr c22
     have c22b1 : ((t396.length : Int) != 0) = false := bne_eq_false_iff_eq.mpr c22
     clear c22
     (first | rw [c22b0] | (simp only [i64_w, i32_w]; rw [c22b0]) | skip)
     replace H := Option.bind_eq_some_iff.mp H
     obtain ⟨⟨t400, t403⟩, A230, H⟩ := H
     replace H : ((laws_sameBytes.f k t400 t393).bind fun t406 => (if t406 = true then ((impl_Crash.f k t381 t384 (([255, 255, 255] : List Int))).bind fun bt410 => ((laws_sameBytes.f k bt410.1 t393).bind fun t416 => (laws_FnDisk.j0 k t387 (!t416) t381 t384 t393 t396))) else (laws_FnDisk.j0 k t387 true t381 t384 t393 t396))) = some r := H
     have A23 := Ak A230
     clear A230
     replace H := Option.bind_eq_some_iff.mp H
     obtain ⟨t406, A240, H⟩ := H
     replace H : (if t406 = true then ((impl_Crash.f k t381 t384 (([255, 255, 255] : List Int))).bind fun bt410 => ((laws_sameBytes.f k bt410.1 t393).bind fun t416 => (laws_FnDisk.j0 k t387 (!t416) t381 t384 t393 t396))) else (laws_FnDisk.j0 k t387 true t381 t384 t393 t396)) = some r := H
     have A24 := Ak A240
     clear A240
     by_cases c25 : t406 = true
     ·subst c25
      have H1 : ((impl_Crash.f k t381 t384 (([255, 255, 255] : List Int))).bind fun bt410 => ((laws_sameBytes.f k bt410.1 t393).bind fun t416 => (laws_FnDisk.j0 k t387 (!t416) t381 t384 t393 t396))) = some r := by rw [if_pos rfl] at H; exact H
      clear H
      have H := H1
      clear H1
      obtain ⟨y407, hy407⟩ : ∃ y_ : List Int, y_ = (([255, 255, 255] : List Int)) := ⟨_, rfl⟩
      replace H : ((impl_Crash.f k t381 t384 y407).bind fun bt410 => ((laws_sameBytes.f k bt410.1 t393).bind fun t416 => (laws_FnDisk.j0 k t387 (!t416) t381 t384 t393 t396))) = some r := by first | (rw [hy407]; with_reducible exact H) | (have H2_ := (Option.bind_some _ _).symm.trans H; rw [hy407]; with_reducible exact H2_) | (have H2_ := (Option.bind_some _ _).symm.trans H; with_reducible exact H2_) | with_reducible exact H | (rw [hy407]; exact H) | exact H
      have Ny407 := Ak hy407
      clear hy407
      replace H := Option.bind_eq_some_iff.mp H
      obtain ⟨⟨t410, t413⟩, A260, H⟩ := H
      replace H : ((laws_sameBytes.f k t410 t393).bind fun t416 => (laws_FnDisk.j0 k t387 (!t416) t381 t384 t393 t396)) = some r := H
      have A26 := Ak A260
      clear A260
      replace H := Option.bind_eq_some_iff.mp H
      obtain ⟨t416, A270, H⟩ := H
      replace H : (laws_FnDisk.j0 k t387 (!t416) t381 t384 t393 t396) = some r := H
      have A27 := Ak A270
      clear A270
      have H' := Ak H
      clear H
      try go_wp2
      have n0_ : Aside0 (Kd.Q (Kd.int .u8) 5 ((w17.setCell ⟨gb399, 0, none⟩ (.slice Ao18 t393.length co18)).setCell ⟨gb399, 1, none⟩ (.slice Ao21 t396.length co21)) w.heap.size (fun k_ => some k_ ≠ (v388 : Value).ownBlock ∧ some k_ ≠ (.slice Ao18 t393.length co18 : Value).ownBlock) (.slice Ao11 t381.length co11) t381) := ⟨by (with_reducible repeat (first | apply Kd.Q_alloc | apply Kd.Q_drewN | apply Kd.Q_drew)); exact Kd.Q_mono (Kd.Q_far (p := ⟨gb399, 1, none⟩) (Kd.Q_far (p := ⟨gb399, 0, none⟩) (Kd.Q_types HO383.out BK399.out (by decide)) (fun _ hk => hk.2) (.slice Ao18 t393.length co18)) (fun _ hk => hk.2) (.slice Ao21 t396.length co21)) (fun _ hk => ⟨hk.1.1, hk.1.2⟩)⟩
      have n1_ : Aside0 (Kd.S k34 34 ((w17.setCell ⟨gb399, 0, none⟩ (.slice Ao18 t393.length co18)).setCell ⟨gb399, 1, none⟩ (.slice Ao21 t396.length co21)) w.heap.size (fun k_ => some k_ ≠ (.slice Ao11 t381.length co11 : Value).ownBlock ∧ some k_ ≠ (v388 : Value).ownBlock ∧ some k_ ≠ (.slice Ao18 t393.length co18 : Value).ownBlock ∧ some k_ ≠ (.slice Ao21 t396.length co21 : Value).ownBlock) (.slice Ao13 t384.length co13) t384) := ⟨by (with_reducible repeat (first | apply Kd.S_alloc | apply Kd.S_drewN | apply Kd.S_drew)); exact Kd.S_mono (Kd.S_far (p := ⟨gb399, 1, none⟩) (Kd.S_far (p := ⟨gb399, 0, none⟩) (Kd.S_types HO386.out BK399.out (by decide)) (fun _ hk => hk.2) (.slice Ao18 t393.length co18)) (fun _ hk => hk.2) (.slice Ao21 t396.length co21)) (fun _ hk => ⟨hk.1.1.1.1, ⟨hk.1.1.1.2, ⟨hk.1.1.2, hk.1.2⟩⟩⟩)⟩
      have n2_ : Aside0 (Kd.R (Kd.int .u8) 5 ((w17.setCell ⟨gb399, 0, none⟩ (.slice Ao18 t393.length co18)).setCell ⟨gb399, 1, none⟩ (.slice Ao21 t396.length co21)) w.heap.size (fun k_ => some k_ ≠ (.slice Ao11 t381.length co11 : Value).ownBlock ∧ some k_ ≠ (.slice Ao18 t393.length co18 : Value).ownBlock) v388 t387) := ⟨by (with_reducible repeat (first | apply Kd.R_alloc | apply Kd.R_drewN | apply Kd.R_drew)); exact Kd.R_mono (Kd.R_far (p := ⟨gb399, 1, none⟩) (Kd.R_far (p := ⟨gb399, 0, none⟩) (Kd.R_types HO389.out BK399.out (by decide)) (fun _ hk => hk.2) (.slice Ao18 t393.length co18)) (fun _ hk => hk.2) (.slice Ao21 t396.length co21)) (fun _ hk => ⟨hk.1.1, hk.1.2⟩)⟩
      have n3_ : Aside0 (Kd.R (Kd.int .u8) 5 ((w17.setCell ⟨gb399, 0, none⟩ (.slice Ao18 t393.length co18)).setCell ⟨gb399, 1, none⟩ (.slice Ao21 t396.length co21)) w.heap.size (fun k_ => some k_ ≠ (.slice Ao11 t381.length co11 : Value).ownBlock ∧ some k_ ≠ (v388 : Value).ownBlock) (.slice Ao18 t393.length co18) t393) := ⟨by (with_reducible repeat (first | apply Kd.R_alloc | apply Kd.R_drewN | apply Kd.R_drew)); exact Kd.R_mono (Kd.R_far (p := ⟨gb399, 1, none⟩) (Kd.R_far (p := ⟨gb399, 0, none⟩) (Kd.R_types HO395.out BK399.out (by decide)) (fun _ hk => hk.2) (.slice Ao18 t393.length co18)) (fun _ hk => hk.2) (.slice Ao21 t396.length co21)) (fun _ hk => ⟨hk.1.1.2, hk.1.2⟩)⟩
      have n4_ : Aside0 (Kd.S k34 34 ((w17.setCell ⟨gb399, 0, none⟩ (.slice Ao18 t393.length co18)).setCell ⟨gb399, 1, none⟩ (.slice Ao21 t396.length co21)) w.heap.size (fun k_ => some k_ ≠ (.slice Ao11 t381.length co11 : Value).ownBlock ∧ some k_ ≠ (.slice Ao13 t384.length co13 : Value).ownBlock ∧ some k_ ≠ (v388 : Value).ownBlock ∧ some k_ ≠ (.slice Ao18 t393.length co18 : Value).ownBlock) (.slice Ao21 t396.length co21) t396) := ⟨by (with_reducible repeat (first | apply Kd.S_alloc | apply Kd.S_drewN | apply Kd.S_drew)); exact Kd.S_mono (Kd.S_far (p := ⟨gb399, 1, none⟩) (Kd.S_far (p := ⟨gb399, 0, none⟩) (Kd.S_types HO398.out BK399.out (by decide)) (fun _ hk => hk.2) (.slice Ao18 t393.length co18)) (fun _ hk => hk.2) (.slice Ao21 t396.length co21)) (fun _ hk => ⟨hk.1.1.1.2, ⟨hk.1.1.2, ⟨hk.1.2, hk.1.1.1.1⟩⟩⟩)⟩
      have n5_ : Aside0 (((w17.setCell ⟨gb399, 0, none⟩ (.slice Ao18 t393.length co18)).setCell ⟨gb399, 1, none⟩ (.slice Ao21 t396.length co21)).heap[gb390]? = some (.cells #[.slice Ao11 t381.length co11, .slice Ao13 t384.length co13] 26 (0, 0))) := ⟨by (with_reducible repeat (first | refine blk_drewN ?_ _ | refine blk_drew ?_ | refine blk_alloc ?_ _)); refine blk_far ?_ NB390_399.out _; (with_reducible repeat (first | refine blk_drewN ?_ _ | refine blk_drew ?_ | refine blk_alloc ?_ _)); refine blk_far ?_ NB390_399.out _; (with_reducible repeat (first | refine blk_drewN ?_ _ | refine blk_drew ?_ | refine blk_alloc ?_ _)); exact BK390.out⟩
      have n6_ : Aside0 (((w17.setCell ⟨gb399, 0, none⟩ (.slice Ao18 t393.length co18)).setCell ⟨gb399, 1, none⟩ (.slice Ao21 t396.length co21)).heap[gb399]? = some (.cells #[.slice Ao18 t393.length co18, .slice Ao21 t396.length co21] 26 (0, 0))) := ⟨by (with_reducible repeat (first | refine blk_drewN ?_ _ | refine blk_drew ?_ | refine blk_alloc ?_ _)); refine blk_put (cs := #[.slice Ao18 t393.length co18, .slice none 0 0]) ?_ 1 _ rfl; (with_reducible repeat (first | refine blk_drewN ?_ _ | refine blk_drew ?_ | refine blk_alloc ?_ _)); refine blk_put (cs := #[.slice none 0 0, .slice none 0 0]) ?_ 0 _ rfl; (with_reducible repeat (first | refine blk_drewN ?_ _ | refine blk_drew ?_ | refine blk_alloc ?_ _)); exact BK399.out⟩
      have n7_ : Aside0 (Below w.heap.size w ((w17.setCell ⟨gb399, 0, none⟩ (.slice Ao18 t393.length co18)).setCell ⟨gb399, 1, none⟩ (.slice Ao21 t396.length co21))) := ⟨bw2 HB.out GE390.out GE399.out⟩
      (try clear HO383)
      (try clear HO386)
      (try clear HO389)
      (try clear HO395)
      (try clear HO398)
      (try clear BK390)
      (try clear BK399)
      (try clear HB)
      generalize ((w17.setCell ⟨gb399, 0, none⟩ (.slice Ao18 t393.length co18)).setCell ⟨gb399, 1, none⟩ (.slice Ao21 t396.length co21)) = w28 at n0_ n1_ n2_ n3_ n4_ n5_ n6_ n7_ ⊢
      have HO383 := n0_
      have HO386 := n1_
      have HO389 := n2_
      have HO395 := n3_
      have HO398 := n4_
      have BK390 := n5_
      have BK399 := n6_
      have HB := n7_
      clear n0_ n1_ n2_ n3_ n4_ n5_ n6_ n7_
      have n0_ := Ak (Kd.Q_drew HO383.out)
      have n1_ := Ak (Kd.S_drew HO386.out)
      have n2_ := Ak (Kd.R_drew HO389.out)
      have n3_ := Ak (Kd.R_drew HO395.out)
      have n4_ := Ak (Kd.S_drew HO398.out)
      have n5_ := Ak (blk_drew BK390.out)
      have n6_ := Ak (blk_drew BK399.out)
      have n7_ := Ak (below_drew1 HB.out)
      clear HO383
      clear HO386
      clear HO389
      clear HO395
      clear HO398
      clear BK390
      clear BK399
      clear HB
      have HO383 := n0_
      have HO386 := n1_
      have HO389 := n2_
      have HO395 := n3_
      have HO398 := n4_
      have BK390 := n5_
      have BK399 := n6_
      have HB := n7_
      clear n0_ n1_ n2_ n3_ n4_ n5_ n6_ n7_
      obtain ⟨Ao30, co30, eo30⟩ := Kd.R_slice HO389.out
      (first | subst eo30 | (injection eo30 with f1_ f2_ f3_; have f4_ := f1_.symm; have f5_ := f3_.symm; clear f1_ f2_ f3_; subst f4_; subst f5_))
      refine start_ (n := 24) (S := fun w' => w'.cell? ⟨gb399, 0, none⟩ = some (.slice Ao18 t393.length co18) ∧ w'.cell? ⟨gb399, 1, none⟩ = some (.slice Ao21 t396.length co21) ∧ w'.cell? ⟨gb390, 0, none⟩ = some (.slice Ao11 t381.length co11) ∧ w'.cell? ⟨gb390, 1, none⟩ = some (.slice Ao13 t384.length co13)) (ds := []) #[false, false, false, false, false, false, false, false, false, false, false, false, false, false, false, false, false, false, false, false, false, false, false, false] (by kernel_rfl) rfl rfl ⟨(blk_cell BK399.out 0).trans rfl, (blk_cell BK399.out 1).trans rfl, (blk_cell BK390.out 0).trans rfl, (blk_cell BK390.out 1).trans rfl⟩ (fun hHeld => ?_); refine with_tabW laws_FnDisk.tab7 laws_FnDisk.bits7 (fun HT_ HW_ => ?_)
      generalize w28.drew = w29 at HO383 HO386 HO389 HO395 HO398 BK390 BK399 HB hHeld ⊢
      refine pure_ (i := 0) (N := some 28) (v := ?_) (a' := ?_) #[true, false, false, false, false, false, false, false, false, false, false, false, false, false, false, false, false, false, false, false, false, false, false, false] rfl rfl (any_of HT_.out (by kernel_rfl)) (fun _ _ _ h => h) (Or.inl ⟨by rfl, ?_⟩) ?_ ?_
      rotate_left
      ·intro w'
       go_simp
       with_reducible rfl
      rotate_left
      ·simp only [Act.put, sT, sZ, sS, i64_w, i32_w]
       rfl
      refine take_ (i := 1) (N := some 29) (v := ?_) (a' := ?_) #[true, true, false, false, false, false, false, false, false, false, false, false, false, false, false, false, false, false, false, false, false, false, false, false] rfl rfl (take_ofW HT_.out HW_.out (by kernel_rfl)) (fun _ _ _ h => h) (Or.inl ⟨by rfl, ?_⟩) hHeld ?_ ?_
      rotate_left
      ·rintro w' ⟨s0, s1, s2, s3⟩
       go_simp
       with_reducible rfl
      rotate_left
      ·simp only [Act.put, sT, sZ, sS, i64_w, i32_w]
       rfl
      refine pure_ (i := 2) (N := some 30) (v := ?_) (a' := ?_) #[true, true, true, false, false, false, false, false, false, false, false, false, false, false, false, false, false, false, false, false, false, false, false, false] rfl rfl (any_of HT_.out (by kernel_rfl)) (fun _ _ _ h => h) (Or.inl ⟨by rfl, ?_⟩) ?_ ?_
      rotate_left
      ·intro w'
       go_simp
       with_reducible rfl
      rotate_left
      ·simp only [Act.put, sT, sZ, sS, i64_w, i32_w]
       rfl
      refine pure_ (i := 3) (N := some 31) (v := ?_) (a' := ?_) #[true, true, true, true, false, false, false, false, false, false, false, false, false, false, false, false, false, false, false, false, false, false, false, false] rfl rfl (any_of HT_.out (by kernel_rfl)) (fun _ _ _ h => h) (Or.inl ⟨by rfl, ?_⟩) ?_ ?_
      rotate_left
      ·intro w'
       go_simp
       with_reducible rfl
      rotate_left
      ·simp only [Act.put, sT, sZ, sS, i64_w, i32_w]
       rfl
      refine pure_ (i := 4) (N := some 32) (v := ?_) (a' := ?_) #[true, true, true, true, true, false, false, false, false, false, false, false, false, false, false, false, false, false, false, false, false, false, false, false] rfl rfl (any_of HT_.out (by kernel_rfl)) (fun _ _ _ h => h) (Or.inl ⟨by rfl, ?_⟩) ?_ ?_
      rotate_left
      ·intro w'
       go_simp
       with_reducible rfl
      rotate_left
      ·simp only [Act.put, sT, sZ, sS, i64_w, i32_w]
       rfl
      refine pure_ (i := 6) (N := some 34) (v := ?_) (a' := ?_) #[true, true, true, true, true, false, true, false, false, false, false, false, false, false, false, false, false, false, false, false, false, false, false, false] rfl rfl (any_of HT_.out (by kernel_rfl)) (fun _ _ _ h => h) (Or.inl ⟨by rfl, ?_⟩) ?_ ?_
      rotate_left
      ·intro w'
       go_simp
       with_reducible rfl
      rotate_left
      ·simp only [Act.put, sT, sZ, sS, i64_w, i32_w]
       rfl
      refine pure_ (i := 9) (N := some 37) (v := ?_) (a' := ?_) #[true, true, true, true, true, false, true, false, false, true, false, false, false, false, false, false, false, false, false, false, false, false, false, false] rfl rfl (any_of HT_.out (by kernel_rfl)) (fun _ _ _ h => h) (Or.inl ⟨by rfl, ?_⟩) ?_ ?_
      rotate_left
      ·intro w'
       go_simp
       with_reducible rfl
      rotate_left
      ·simp only [Act.put, sT, sZ, sS, i64_w, i32_w]
       rfl
      refine take_ (i := 5) (N := some 33) (v := ?_) (a' := ?_) #[true, true, true, true, true, true, true, false, false, true, false, false, false, false, false, false, false, false, false, false, false, false, false, false] rfl rfl (take_ofW HT_.out HW_.out (by kernel_rfl)) (fun _ _ _ h => h) (Or.inl ⟨by rfl, ?_⟩) hHeld ?_ ?_
      rotate_left
      ·rintro w' ⟨s0, s1, s2, s3⟩
       go_simp
       with_reducible rfl
      rotate_left
      ·simp only [Act.put, sT, sZ, sS, i64_w, i32_w]
       rfl
      refine take_ (i := 10) (N := some 38) (v := ?_) (a' := ?_) #[true, true, true, true, true, true, true, false, false, true, true, false, false, false, false, false, false, false, false, false, false, false, false, false] rfl rfl (take_ofW HT_.out HW_.out (by kernel_rfl)) (fun _ _ _ h => h) (Or.inl ⟨by rfl, ?_⟩) hHeld ?_ ?_
      rotate_left
      ·rintro w' ⟨s0, s1, s2, s3⟩
       go_simp
       with_reducible rfl
      rotate_left
      ·simp only [Act.put, sT, sZ, sS, i64_w, i32_w]
       rfl
      refine one_ (i := 7) (N := some 35) #[true, true, true, true, true, true, true, true, false, true, true, false, false, false, false, false, false, false, false, false, false, false, false, false] rfl rfl (one_of HT_.out (by kernel_rfl)) (by decide) (fun K hK => ?_)
      refine goes_ Try.func17 (by kernel_rfl) rfl #[.agg #[.slice Ao18 t393.length co18, .slice Ao21 t396.length co21], .slice Ao30 t387.length co30] (by rfl) rfl rfl gm ?_
      with_reducible refine (impl_Crash.calls k _ _ t393 _ _ t396 _ _ t387 t400 t403 _ ?side1 ?side2 ?side3 ?side4 ?side5 ?side6 A23.out).mono ?_
      (case side1 => repeat (first | exact (Kd.R_reads' HO395.out).2.2 | (with_reducible refine Kd.C_alloc ?_ _) | (with_reducible refine Kd.C_drewN ?_ _) | (with_reducible refine Kd.C_drew ?_)))
      (case side2 => exact (Kd.R_reads' HO395.out).2.1)
      (case side3 => repeat (first | exact (Kd.S_reads' HO398.out).2.2 | (with_reducible refine Kd.C_alloc ?_ _) | (with_reducible refine Kd.C_drewN ?_ _) | (with_reducible refine Kd.C_drew ?_)))
      (case side4 => exact (Kd.S_reads' HO398.out).2.1)
      (case side5 => repeat (first | exact (Kd.R_reads' HO389.out).2.2 | (with_reducible refine Kd.C_alloc ?_ _) | (with_reducible refine Kd.C_drewN ?_ _) | (with_reducible refine Kd.C_drew ?_)))
      (case side6 => exact (Kd.R_reads' HO389.out).2.1)
      rintro e w31 ⟨v401, v404, rfl, ho0, ho1, hb⟩
      refine ⟨_, rfl, ?_⟩
      have n0_ := Ak (Kd.Q_elder' (qq HO383.out) (Kd.R_base ho0) hb)
      have n1_ := Ak (Kd.S_mono (Kd.S_told (Kd.S_told (Kd.S_old (sq HO386.out) hb) (Kd.R_base ho0)) (Kd.S_base ho1)) (fun _ h_ => h_.1))
      have n2_ := Ak (Kd.R_elder' (rq HO389.out) (Kd.R_base ho0) hb)
      have n3_ := Ak (Kd.R_elder' (rq HO395.out) (Kd.R_base ho0) hb)
      have n4_ := Ak (Kd.S_mono (Kd.S_told (Kd.S_told (Kd.S_old (sq HO398.out) hb) (Kd.R_base ho0)) (Kd.S_base ho1)) (fun _ h_ => h_.1))
      have n5_ := Ak (Kd.R_lower (Kd.R_new' (Kd.R_new' (Kd.R_new' ho0 (Kd.Q_lt (qq HO383.out))) (Kd.R_lt (rq HO389.out))) (Kd.R_lt (rq HO395.out))) (below_size (bw2 HB.out GE390.out GE399.out)))
      have n6_ := Ak (Kd.S_lower (Kd.S_new' (Kd.S_new' (Kd.S_new' (Kd.S_new' (Kd.S_new' ho1 (Kd.Q_lt (qq HO383.out))) (Kd.S_lt (sq HO386.out))) (Kd.R_lt (rq HO389.out))) (Kd.R_lt (rq HO395.out))) (Kd.S_lt (sq HO398.out))) (below_size (bw2 HB.out GE390.out GE399.out)))
      have n7_ := Ak (blk_below (g := gb390) (o := .cells #[.slice Ao11 t381.length co11, .slice Ao13 t384.length co13] 26 (0, 0)) (bq BK390.out) hb)
      have n8_ := Ak (blk_below (g := gb399) (o := .cells #[.slice Ao18 t393.length co18, .slice Ao21 t396.length co21] 26 (0, 0)) (bq BK399.out) hb)
      have n9_ := Ak (below_step (bw2 HB.out GE390.out GE399.out) hb)
      clear HO383
      clear HO386
      clear HO389
      clear HO395
      clear HO398
      clear BK390
      clear BK399
      clear HB
      have HO383 := n0_
      have HO386 := n1_
      have HO389 := n2_
      have HO395 := n3_
      have HO398 := n4_
      have HO402 := n5_
      have HO405 := n6_
      have BK390 := n7_
      have BK399 := n8_
      have HB := n9_
      clear n0_ n1_ n2_ n3_ n4_ n5_ n6_ n7_ n8_ n9_
      obtain ⟨Ao32, co32, eo32⟩ := Kd.R_slice HO402.out
      (first | subst eo32 | (injection eo32 with f1_ f2_ f3_; have f4_ := f1_.symm; have f5_ := f3_.symm; clear f1_ f2_ f3_; subst f4_; subst f5_))
      refine hK.out _ _ ⟨(blk_cell BK399.out 0).trans rfl, (blk_cell BK399.out 1).trans rfl, (blk_cell BK390.out 0).trans rfl, (blk_cell BK390.out 1).trans rfl⟩ (fun hHeld => ?_)
      clear hK K
      refine norm_ (a' := ?_) ?_ ?_
      rotate_left
      ·show Act.put _ (some 35) _ = _
       simp only [Act.put, sT, sZ, sS, i64_w, i32_w]
       rfl
      refine pure_ (i := 8) (N := some 36) (v := ?_) (a' := ?_) #[true, true, true, true, true, true, true, true, true, true, true, false, false, false, false, false, false, false, false, false, false, false, false, false] rfl rfl (any_of HT_.out (by kernel_rfl)) (fun _ _ _ h => h) (Or.inl ⟨by rfl, ?_⟩) ?_ ?_
      rotate_left
      ·intro w'
       go_simp
       with_reducible rfl
      rotate_left
      ·simp only [Act.put, sT, sZ, sS, i64_w, i32_w]
       rfl
      refine one_ (i := 11) (N := some 39) #[true, true, true, true, true, true, true, true, true, true, true, true, false, false, false, false, false, false, false, false, false, false, false, false] rfl rfl (one_of HT_.out (by kernel_rfl)) (by decide) (fun K hK => ?_)
      refine goes_ Try.func16 (by kernel_rfl) rfl #[.slice Ao32 t400.length co32, .slice Ao18 t393.length co18] (by rfl) rfl rfl gm ?_
      with_reducible refine (laws_sameBytes.calls k _ _ t400 _ _ t393 true _ ?side1 ?side2 ?side3 ?side4 A24.out).mono ?_
      (case side1 => repeat (first | exact (Kd.R_reads' HO402.out).2.2 | (with_reducible refine Kd.C_alloc ?_ _) | (with_reducible refine Kd.C_drewN ?_ _) | (with_reducible refine Kd.C_drew ?_)))
      (case side2 => exact (Kd.R_reads' HO402.out).2.1)
      (case side3 => repeat (first | exact (Kd.R_reads' HO395.out).2.2 | (with_reducible refine Kd.C_alloc ?_ _) | (with_reducible refine Kd.C_drewN ?_ _) | (with_reducible refine Kd.C_drew ?_)))
      (case side4 => exact (Kd.R_reads' HO395.out).2.1)
      rintro e w' ⟨rfl, ⟨nd, rfl⟩⟩
      refine ⟨_, rfl, ?_⟩
      refine hK.out _ _ ⟨(blk_cell BK399.out 0).trans rfl, (blk_cell BK399.out 1).trans rfl, (blk_cell BK390.out 0).trans rfl, (blk_cell BK390.out 1).trans rfl⟩ (fun hHeld => ?_)
      clear hK K
      refine norm_ (a' := ?_) ?_ ?_
      rotate_left
      ·show Act.put _ (some 39) _ = _
       simp only [Act.put, sT, sZ, sS, i64_w, i32_w]
       rfl
      refine pure_ (i := 12) (N := some 40) (v := ?_) (a' := ?_) #[true, true, true, true, true, true, true, true, true, true, true, true, true, false, false, false, false, false, false, false, false, false, false, false] rfl rfl (any_of HT_.out (by kernel_rfl)) (fun _ _ _ h => h) (Or.inl ⟨by rfl, ?_⟩) ?_ ?_
      rotate_left
      ·intro w'
       go_simp
       with_reducible rfl
      rotate_left
      ·simp only [Act.put, sT, sZ, sS, i64_w, i32_w]
       rfl
      refine pure_ (i := 13) (N := some 41) (v := ?_) (a' := ?_) #[true, true, true, true, true, true, true, true, true, true, true, true, true, true, false, false, false, false, false, false, false, false, false, false] rfl rfl (any_of HT_.out (by kernel_rfl)) (fun _ _ _ h => h) (Or.inl ⟨by rfl, ?_⟩) ?_ ?_
      rotate_left
      ·intro w'
       go_simp
       with_reducible rfl
      rotate_left
      ·simp only [Act.put, sT, sZ, sS, i64_w, i32_w]
       rfl
      refine pure_ (i := 14) (N := some 42) (v := ?_) (a' := ?_) #[true, true, true, true, true, true, true, true, true, true, true, true, true, true, true, false, false, false, false, false, false, false, false, false] rfl rfl (any_of HT_.out (by kernel_rfl)) (fun _ _ _ h => h) (Or.inl ⟨by rfl, ?_⟩) ?_ ?_
      rotate_left
      ·intro w'
       go_simp
       with_reducible rfl
      rotate_left
      ·simp only [Act.put, sT, sZ, sS, i64_w, i32_w]
       rfl
      refine pure_ (i := 19) (N := some 47) (v := ?_) (a' := ?_) #[true, true, true, true, true, true, true, true, true, true, true, true, true, true, true, false, false, false, false, true, false, false, false, false] rfl rfl (any_of HT_.out (by kernel_rfl)) (fun _ _ _ h => h) (Or.inl ⟨by rfl, ?_⟩) ?_ ?_
      rotate_left
      ·intro w'
       go_simp
       with_reducible rfl
      rotate_left
      ·simp only [Act.put, sT, sZ, sS, i64_w, i32_w]
       rfl
      refine take_ (i := 15) (N := some 43) (v := ?_) (a' := ?_) #[true, true, true, true, true, true, true, true, true, true, true, true, true, true, true, true, false, false, false, true, false, false, false, false] rfl rfl (take_ofW HT_.out HW_.out (by kernel_rfl)) (fun _ _ _ h => h) (Or.inl ⟨by rfl, ?_⟩) hHeld ?_ ?_
      rotate_left
      ·rintro w' ⟨s0, s1, s2, s3⟩
       go_simp
       with_reducible rfl
      rotate_left
      ·simp only [Act.put, sT, sZ, sS, i64_w, i32_w]
       rfl
      refine take_ (i := 20) (N := some 48) (v := ?_) (a' := ?_) #[true, true, true, true, true, true, true, true, true, true, true, true, true, true, true, true, false, false, false, true, true, false, false, false] rfl rfl (take_ofW HT_.out HW_.out (by kernel_rfl)) (fun _ _ _ h => h) (Or.inl ⟨by rfl, ?_⟩) hHeld ?_ ?_
      rotate_left
      ·rintro w' ⟨s0, s1, s2, s3⟩
       go_simp
       with_reducible rfl
      rotate_left
      ·simp only [Act.put, sT, sZ, sS, i64_w, i32_w]
       rfl
      refine one_ (i := 16) (N := some 44) #[true, true, true, true, true, true, true, true, true, true, true, true, true, true, true, true, true, false, false, true, true, false, false, false] rfl rfl (one_of HT_.out (by kernel_rfl)) (by decide) (fun K hK => ?_)
      refine Kd.R_lit_step (Kd.int .u8) _ 5 ?hg (N := 44) ?hd (xs := ([255, 255, 255] : List Int)) (inner := [.int .u8 255, .int .u8 255, .int .u8 255]) (ok := fun _ => True) (okp := fun _ => True) ?hr ?hp (fun _ hk => hk) trivial (Below.refl _ _) (Nat.le_refl _) (by simp) ?_; (case hd => rfl); (case hg => rfl); (case hr => first | (go_simp; done) | (go_simp; rfl)); (case hp => exact (Reps.one (show Kd.M (Kd.int .u8) _ _ _ 255 [.int .u8 255] from rfl) (Reps.one (show Kd.M (Kd.int .u8) _ _ _ 255 [.int .u8 255] from rfl) (Reps.one (show Kd.M (Kd.int .u8) _ _ _ 255 [.int .u8 255] from rfl) (Reps.none _ _)))))
      intro v408 w33 ho34 hb hg_ hnew_
      clear hg_ hnew_
      (first | rw [← Ny407.out] at ho34 | (simp only [Int.reduceToNat] at ho34; rw [← Ny407.out] at ho34))
      have n0_ := Ak (Kd.Q_elder' (qq HO383.out) (Kd.R_base ho34) hb)
      have n1_ := Ak (Kd.S_elder' (sq HO386.out) (Kd.R_base ho34) hb)
      have n2_ := Ak (Kd.R_elder' (rq HO389.out) (Kd.R_base ho34) hb)
      have n3_ := Ak (Kd.R_elder' (rq HO395.out) (Kd.R_base ho34) hb)
      have n4_ := Ak (Kd.S_elder' (sq HO398.out) (Kd.R_base ho34) hb)
      have n5_ := Ak (Kd.R_elder' (rq HO402.out) (Kd.R_base ho34) hb)
      have n6_ := Ak (Kd.S_elder' (sq HO405.out) (Kd.R_base ho34) hb)
      have n7_ := Ak (Kd.R_lower (Kd.R_new' (Kd.R_new' (Kd.R_new' (Kd.R_new' ho34 (Kd.Q_lt (qq HO383.out))) (Kd.R_lt (rq HO389.out))) (Kd.R_lt (rq HO395.out))) (Kd.R_lt (rq HO402.out))) (below_size (bw2 HB.out GE390.out GE399.out)))
      have n8_ := Ak (blk_below (g := gb390) (o := .cells #[.slice Ao11 t381.length co11, .slice Ao13 t384.length co13] 26 (0, 0)) (bq BK390.out) hb)
      have n9_ := Ak (blk_below (g := gb399) (o := .cells #[.slice Ao18 t393.length co18, .slice Ao21 t396.length co21] 26 (0, 0)) (bq BK399.out) hb)
      have n10_ := Ak (below_step (bw2 HB.out GE390.out GE399.out) hb)
      clear HO383
      clear HO386
      clear HO389
      clear HO395
      clear HO398
      clear HO402
      clear HO405
      clear BK390
      clear BK399
      clear HB
      have HO383 := n0_
      have HO386 := n1_
      have HO389 := n2_
      have HO395 := n3_
      have HO398 := n4_
      have HO402 := n5_
      have HO405 := n6_
      have HO409 := n7_
      have BK390 := n8_
      have BK399 := n9_
      have HB := n10_
      clear n0_ n1_ n2_ n3_ n4_ n5_ n6_ n7_ n8_ n9_ n10_
      clear hb ho34
      obtain ⟨Ao35, co35, eo35⟩ := Kd.R_slice HO409.out
      (first | subst eo35 | (injection eo35 with f1_ f2_ f3_; have f4_ := f1_.symm; have f5_ := f3_.symm; clear f1_ f2_ f3_; subst f4_; subst f5_))
      refine hK.out _ _ ⟨(blk_cell BK399.out 0).trans rfl, (blk_cell BK399.out 1).trans rfl, (blk_cell BK390.out 0).trans rfl, (blk_cell BK390.out 1).trans rfl⟩ (fun hHeld => ?_)
      clear hK K
      refine norm_ (a' := ?_) ?_ ?_
      rotate_left
      ·show Act.put _ (some 44) _ = _
       simp only [Act.put, sT, sZ, sS, i64_w, i32_w]
       rfl
      refine one_ (i := 17) (N := some 45) #[true, true, true, true, true, true, true, true, true, true, true, true, true, true, true, true, true, true, false, true, true, false, false, false] rfl rfl (one_of HT_.out (by kernel_rfl)) (by decide) (fun K hK => ?_)
      refine goes_ Try.func17 (by kernel_rfl) rfl #[.agg #[.slice Ao11 t381.length co11, .slice Ao13 t384.length co13], .slice Ao35 y407.length co35] (by rfl) rfl rfl gm ?_
      with_reducible refine (impl_Crash.calls k _ _ t381 _ _ t384 _ _ y407 t410 t413 _ ?side1 ?side2 ?side3 ?side4 ?side5 ?side6 A26.out).mono ?_
      (case side1 => repeat (first | exact (Kd.Q_reads' HO383.out).2.2 | (with_reducible refine Kd.C_alloc ?_ _) | (with_reducible refine Kd.C_drewN ?_ _) | (with_reducible refine Kd.C_drew ?_)))
      (case side2 => exact (Kd.Q_reads' HO383.out).2.1)
      (case side3 => repeat (first | exact (Kd.S_reads' HO386.out).2.2 | (with_reducible refine Kd.C_alloc ?_ _) | (with_reducible refine Kd.C_drewN ?_ _) | (with_reducible refine Kd.C_drew ?_)))
      (case side4 => exact (Kd.S_reads' HO386.out).2.1)
      (case side5 => repeat (first | exact (Kd.R_reads' HO409.out).2.2 | (with_reducible refine Kd.C_alloc ?_ _) | (with_reducible refine Kd.C_drewN ?_ _) | (with_reducible refine Kd.C_drew ?_)))
      (case side6 => exact (Kd.R_reads' HO409.out).2.1)
      rintro e w36 ⟨v411, v414, rfl, ho0, ho1, hb⟩
      refine ⟨_, rfl, ?_⟩
      have n0_ := Ak (Kd.Q_elder' (qq HO383.out) (Kd.R_base ho0) hb)
      have n1_ := Ak (Kd.S_mono (Kd.S_told (Kd.S_told (Kd.S_old (sq HO386.out) hb) (Kd.R_base ho0)) (Kd.S_base ho1)) (fun _ h_ => h_.1))
      have n2_ := Ak (Kd.R_elder' (rq HO389.out) (Kd.R_base ho0) hb)
      have n3_ := Ak (Kd.R_elder' (rq HO395.out) (Kd.R_base ho0) hb)
      have n4_ := Ak (Kd.S_mono (Kd.S_told (Kd.S_told (Kd.S_old (sq HO398.out) hb) (Kd.R_base ho0)) (Kd.S_base ho1)) (fun _ h_ => h_.1))
      have n5_ := Ak (Kd.R_elder' (rq HO402.out) (Kd.R_base ho0) hb)
      have n6_ := Ak (Kd.S_mono (Kd.S_told (Kd.S_told (Kd.S_old (sq HO405.out) hb) (Kd.R_base ho0)) (Kd.S_base ho1)) (fun _ h_ => h_.1))
      have n7_ := Ak (Kd.R_elder' (rq HO409.out) (Kd.R_base ho0) hb)
      have n8_ := Ak (Kd.R_lower (Kd.R_new' (Kd.R_new' (Kd.R_new' (Kd.R_new' (Kd.R_new' ho0 (Kd.Q_lt (qq HO383.out))) (Kd.R_lt (rq HO389.out))) (Kd.R_lt (rq HO395.out))) (Kd.R_lt (rq HO402.out))) (Kd.R_lt (rq HO409.out))) (below_size (bw2 HB.out GE390.out GE399.out)))
      have n9_ := Ak (Kd.S_lower (Kd.S_new' (Kd.S_new' (Kd.S_new' (Kd.S_new' (Kd.S_new' (Kd.S_new' (Kd.S_new' (Kd.S_new' ho1 (Kd.Q_lt (qq HO383.out))) (Kd.S_lt (sq HO386.out))) (Kd.R_lt (rq HO389.out))) (Kd.R_lt (rq HO395.out))) (Kd.S_lt (sq HO398.out))) (Kd.R_lt (rq HO402.out))) (Kd.S_lt (sq HO405.out))) (Kd.R_lt (rq HO409.out))) (below_size (bw2 HB.out GE390.out GE399.out)))
      have n10_ := Ak (blk_below (g := gb390) (o := .cells #[.slice Ao11 t381.length co11, .slice Ao13 t384.length co13] 26 (0, 0)) (bq BK390.out) hb)
      have n11_ := Ak (blk_below (g := gb399) (o := .cells #[.slice Ao18 t393.length co18, .slice Ao21 t396.length co21] 26 (0, 0)) (bq BK399.out) hb)
      have n12_ := Ak (below_step (bw2 HB.out GE390.out GE399.out) hb)
      clear HO383
      clear HO386
      clear HO389
      clear HO395
      clear HO398
      clear HO402
      clear HO405
      clear HO409
      clear BK390
      clear BK399
      clear HB
      have HO383 := n0_
      have HO386 := n1_
      have HO389 := n2_
      have HO395 := n3_
      have HO398 := n4_
      have HO402 := n5_
      have HO405 := n6_
      have HO409 := n7_
      have HO412 := n8_
      have HO415 := n9_
      have BK390 := n10_
      have BK399 := n11_
      have HB := n12_
      clear n0_ n1_ n2_ n3_ n4_ n5_ n6_ n7_ n8_ n9_ n10_ n11_ n12_
      obtain ⟨Ao37, co37, eo37⟩ := Kd.R_slice HO412.out
      (first | subst eo37 | (injection eo37 with f1_ f2_ f3_; have f4_ := f1_.symm; have f5_ := f3_.symm; clear f1_ f2_ f3_; subst f4_; subst f5_))
      refine hK.out _ _ ⟨(blk_cell BK399.out 0).trans rfl, (blk_cell BK399.out 1).trans rfl, (blk_cell BK390.out 0).trans rfl, (blk_cell BK390.out 1).trans rfl⟩ (fun hHeld => ?_)
      clear hK K
      refine norm_ (a' := ?_) ?_ ?_
      rotate_left
      ·show Act.put _ (some 45) _ = _
       simp only [Act.put, sT, sZ, sS, i64_w, i32_w]
       rfl
      refine pure_ (i := 18) (N := some 46) (v := ?_) (a' := ?_) #[true, true, true, true, true, true, true, true, true, true, true, true, true, true, true, true, true, true, true, true, true, false, false, false] rfl rfl (any_of HT_.out (by kernel_rfl)) (fun _ _ _ h => h) (Or.inl ⟨by rfl, ?_⟩) ?_ ?_
      rotate_left
      ·intro w'
       go_simp
       with_reducible rfl
      rotate_left
      ·simp only [Act.put, sT, sZ, sS, i64_w, i32_w]
       rfl
      refine one_ (i := 21) (N := some 49) #[true, true, true, true, true, true, true, true, true, true, true, true, true, true, true, true, true, true, true, true, true, true, false, false] rfl rfl (one_of HT_.out (by kernel_rfl)) (by decide) (fun K hK => ?_)
      refine goes_ Try.func16 (by kernel_rfl) rfl #[.slice Ao37 t410.length co37, .slice Ao18 t393.length co18] (by rfl) rfl rfl gm ?_
      with_reducible refine (laws_sameBytes.calls k _ _ t410 _ _ t393 t416 _ ?side1 ?side2 ?side3 ?side4 A27.out).mono ?_
      (case side1 => repeat (first | exact (Kd.R_reads' HO412.out).2.2 | (with_reducible refine Kd.C_alloc ?_ _) | (with_reducible refine Kd.C_drewN ?_ _) | (with_reducible refine Kd.C_drew ?_)))
      (case side2 => exact (Kd.R_reads' HO412.out).2.1)
      (case side3 => repeat (first | exact (Kd.R_reads' HO395.out).2.2 | (with_reducible refine Kd.C_alloc ?_ _) | (with_reducible refine Kd.C_drewN ?_ _) | (with_reducible refine Kd.C_drew ?_)))
      (case side4 => exact (Kd.R_reads' HO395.out).2.1)
      rintro e w' ⟨rfl, ⟨nd, rfl⟩⟩
      refine ⟨_, rfl, ?_⟩
      refine hK.out _ _ ⟨(blk_cell BK399.out 0).trans rfl, (blk_cell BK399.out 1).trans rfl, (blk_cell BK390.out 0).trans rfl, (blk_cell BK390.out 1).trans rfl⟩ (fun hHeld => ?_)
      clear hK K
      refine norm_ (a' := ?_) ?_ ?_
      rotate_left
      ·show Act.put _ (some 49) _ = _
       simp only [Act.put, sT, sZ, sS, i64_w, i32_w]
       rfl
      refine pure_ (i := 22) (N := some 50) (v := ?_) (a' := ?_) #[true, true, true, true, true, true, true, true, true, true, true, true, true, true, true, true, true, true, true, true, true, true, true, false] rfl rfl (any_of HT_.out (by kernel_rfl)) (fun _ _ _ h => h) (Or.inl ⟨by rfl, ?_⟩) ?_ ?_
      rotate_left
      ·intro w'
       go_simp
       with_reducible rfl
      rotate_left
      ·simp only [Act.put, sT, sZ, sS, i64_w, i32_w]
       rfl
      refine pure_ (i := 23) (N := some 51) (v := ?_) (a' := ?_) #[true, true, true, true, true, true, true, true, true, true, true, true, true, true, true, true, true, true, true, true, true, true, true, true] rfl rfl (any_of HT_.out (by kernel_rfl)) (fun _ _ _ h => h) (Or.inl ⟨by rfl, ?_⟩) ?_ ?_
      rotate_left
      ·intro w'
       go_simp
       with_reducible rfl
      rotate_left
      ·simp only [Act.put, sT, sZ, sS, i64_w, i32_w]
       rfl
      refine done_ (done_of HT_.out (by kernel_rfl)) ?_
      try go_wp2
      go_meet
      case rel => exact ⟨_, (!t416), (by first | rfl | (simp; done) | (simp [*]; done)), H', ⟨by first | omega | exact Nat.le_refl _⟩, ⟨by (with_reducible repeat (first | apply Kd.R_alloc | apply Kd.R_drewN | apply Kd.R_drew)); exact Kd.R_mono HO389.out (fun _ hk => ⟨hk.1.1.1.1, hk.1.1.1.2⟩)⟩, ⟨by (with_reducible repeat (first | apply Kd.Q_alloc | apply Kd.Q_drewN | apply Kd.Q_drew)); exact Kd.Q_mono HO383.out (fun _ hk => ⟨hk.1.1.1.1, hk.1.1.1.2⟩)⟩, ⟨by (with_reducible repeat (first | apply Kd.S_alloc | apply Kd.S_drewN | apply Kd.S_drew)); exact Kd.S_mono HO386.out (fun _ hk => ⟨hk.1.1.1.1.1.2.1, ⟨hk.1.1.1.1.1.1, ⟨hk.1.1.1.1.1.2.2.1, hk.1.1.1.1.1.2.2.2⟩⟩⟩)⟩, ⟨Kd.Q_of_R (by (with_reducible repeat (first | apply Kd.R_alloc | apply Kd.R_drewN | apply Kd.R_drew)); exact Kd.R_mono HO395.out (fun _ hk => ⟨hk.1.1.1.2, hk.1.1.1.1⟩))⟩, ⟨by (with_reducible repeat (first | apply Kd.S_alloc | apply Kd.S_drewN | apply Kd.S_drew)); exact Kd.S_mono HO398.out (fun _ hk => ⟨hk.1.1.1.1.1.2.2.1, ⟨hk.1.1.1.1.1.1, ⟨hk.1.1.1.1.1.2.1, hk.1.1.1.1.1.2.2.2⟩⟩⟩)⟩, ⟨bq BK390.out⟩, ⟨bq BK399.out⟩, ⟨bw2 HB.out GE390.out GE399.out⟩⟩
     ·replace c25 := Bool.eq_false_iff.mpr c25
      subst c25
      have H1 : (laws_FnDisk.j0 k t387 true t381 t384 t393 t396) = some r := by rw [if_neg (show ¬ (false = true) by decide)] at H; exact H
      clear H
      exact by (cases k with | zero => exact absurd H1 (by simp [laws_FnDisk.j0]) | succ q_ => (exact absurd ((Option.some.inj (show some false = some r from by simpa only [laws_FnDisk.j0, if_true] using H1)).trans hrt) (by decide)))
    ·rw [if_neg c22] at H
     have c22b0 : ((t396.length : Int) == 0) = false := beq_eq_false_iff_ne.mpr c22
     have c22b1 : ((t396.length : Int) != 0) = true := bne_iff_ne.mpr c22
     have c22b2 : ¬ (t396 = []) := fun h_ => c22 (by rw [h_]; rfl)
     (first | rw [c22b0] | (simp only [i64_w, i32_w]; rw [c22b0]) | skip)
     have H' := Ak H
     clear H
     try go_wp2
     have n0_ : Aside0 (Kd.Q (Kd.int .u8) 5 ((w17.setCell ⟨gb399, 0, none⟩ (.slice Ao18 t393.length co18)).setCell ⟨gb399, 1, none⟩ (.slice Ao21 t396.length co21)) w.heap.size (fun k_ => some k_ ≠ (v388 : Value).ownBlock ∧ some k_ ≠ (.slice Ao18 t393.length co18 : Value).ownBlock) (.slice Ao11 t381.length co11) t381) := ⟨by (with_reducible repeat (first | apply Kd.Q_alloc | apply Kd.Q_drewN | apply Kd.Q_drew)); exact Kd.Q_mono (Kd.Q_far (p := ⟨gb399, 1, none⟩) (Kd.Q_far (p := ⟨gb399, 0, none⟩) (Kd.Q_types HO383.out BK399.out (by decide)) (fun _ hk => hk.2) (.slice Ao18 t393.length co18)) (fun _ hk => hk.2) (.slice Ao21 t396.length co21)) (fun _ hk => ⟨hk.1.1, hk.1.2⟩)⟩
     have n1_ : Aside0 (Kd.S k34 34 ((w17.setCell ⟨gb399, 0, none⟩ (.slice Ao18 t393.length co18)).setCell ⟨gb399, 1, none⟩ (.slice Ao21 t396.length co21)) w.heap.size (fun k_ => some k_ ≠ (.slice Ao11 t381.length co11 : Value).ownBlock ∧ some k_ ≠ (v388 : Value).ownBlock ∧ some k_ ≠ (.slice Ao18 t393.length co18 : Value).ownBlock ∧ some k_ ≠ (.slice Ao21 t396.length co21 : Value).ownBlock) (.slice Ao13 t384.length co13) t384) := ⟨by (with_reducible repeat (first | apply Kd.S_alloc | apply Kd.S_drewN | apply Kd.S_drew)); exact Kd.S_mono (Kd.S_far (p := ⟨gb399, 1, none⟩) (Kd.S_far (p := ⟨gb399, 0, none⟩) (Kd.S_types HO386.out BK399.out (by decide)) (fun _ hk => hk.2) (.slice Ao18 t393.length co18)) (fun _ hk => hk.2) (.slice Ao21 t396.length co21)) (fun _ hk => ⟨hk.1.1.1.1, ⟨hk.1.1.1.2, ⟨hk.1.1.2, hk.1.2⟩⟩⟩)⟩
     have n2_ : Aside0 (Kd.R (Kd.int .u8) 5 ((w17.setCell ⟨gb399, 0, none⟩ (.slice Ao18 t393.length co18)).setCell ⟨gb399, 1, none⟩ (.slice Ao21 t396.length co21)) w.heap.size (fun k_ => some k_ ≠ (.slice Ao11 t381.length co11 : Value).ownBlock ∧ some k_ ≠ (.slice Ao18 t393.length co18 : Value).ownBlock) v388 t387) := ⟨by (with_reducible repeat (first | apply Kd.R_alloc | apply Kd.R_drewN | apply Kd.R_drew)); exact Kd.R_mono (Kd.R_far (p := ⟨gb399, 1, none⟩) (Kd.R_far (p := ⟨gb399, 0, none⟩) (Kd.R_types HO389.out BK399.out (by decide)) (fun _ hk => hk.2) (.slice Ao18 t393.length co18)) (fun _ hk => hk.2) (.slice Ao21 t396.length co21)) (fun _ hk => ⟨hk.1.1, hk.1.2⟩)⟩
     have n3_ : Aside0 (Kd.R (Kd.int .u8) 5 ((w17.setCell ⟨gb399, 0, none⟩ (.slice Ao18 t393.length co18)).setCell ⟨gb399, 1, none⟩ (.slice Ao21 t396.length co21)) w.heap.size (fun k_ => some k_ ≠ (.slice Ao11 t381.length co11 : Value).ownBlock ∧ some k_ ≠ (v388 : Value).ownBlock) (.slice Ao18 t393.length co18) t393) := ⟨by (with_reducible repeat (first | apply Kd.R_alloc | apply Kd.R_drewN | apply Kd.R_drew)); exact Kd.R_mono (Kd.R_far (p := ⟨gb399, 1, none⟩) (Kd.R_far (p := ⟨gb399, 0, none⟩) (Kd.R_types HO395.out BK399.out (by decide)) (fun _ hk => hk.2) (.slice Ao18 t393.length co18)) (fun _ hk => hk.2) (.slice Ao21 t396.length co21)) (fun _ hk => ⟨hk.1.1.2, hk.1.2⟩)⟩
     have n4_ : Aside0 (Kd.S k34 34 ((w17.setCell ⟨gb399, 0, none⟩ (.slice Ao18 t393.length co18)).setCell ⟨gb399, 1, none⟩ (.slice Ao21 t396.length co21)) w.heap.size (fun k_ => some k_ ≠ (.slice Ao11 t381.length co11 : Value).ownBlock ∧ some k_ ≠ (.slice Ao13 t384.length co13 : Value).ownBlock ∧ some k_ ≠ (v388 : Value).ownBlock ∧ some k_ ≠ (.slice Ao18 t393.length co18 : Value).ownBlock) (.slice Ao21 t396.length co21) t396) := ⟨by (with_reducible repeat (first | apply Kd.S_alloc | apply Kd.S_drewN | apply Kd.S_drew)); exact Kd.S_mono (Kd.S_far (p := ⟨gb399, 1, none⟩) (Kd.S_far (p := ⟨gb399, 0, none⟩) (Kd.S_types HO398.out BK399.out (by decide)) (fun _ hk => hk.2) (.slice Ao18 t393.length co18)) (fun _ hk => hk.2) (.slice Ao21 t396.length co21)) (fun _ hk => ⟨hk.1.1.1.2, ⟨hk.1.1.2, ⟨hk.1.2, hk.1.1.1.1⟩⟩⟩)⟩
     have n5_ : Aside0 (((w17.setCell ⟨gb399, 0, none⟩ (.slice Ao18 t393.length co18)).setCell ⟨gb399, 1, none⟩ (.slice Ao21 t396.length co21)).heap[gb390]? = some (.cells #[.slice Ao11 t381.length co11, .slice Ao13 t384.length co13] 26 (0, 0))) := ⟨by (with_reducible repeat (first | refine blk_drewN ?_ _ | refine blk_drew ?_ | refine blk_alloc ?_ _)); refine blk_far ?_ NB390_399.out _; (with_reducible repeat (first | refine blk_drewN ?_ _ | refine blk_drew ?_ | refine blk_alloc ?_ _)); refine blk_far ?_ NB390_399.out _; (with_reducible repeat (first | refine blk_drewN ?_ _ | refine blk_drew ?_ | refine blk_alloc ?_ _)); exact BK390.out⟩
     have n6_ : Aside0 (((w17.setCell ⟨gb399, 0, none⟩ (.slice Ao18 t393.length co18)).setCell ⟨gb399, 1, none⟩ (.slice Ao21 t396.length co21)).heap[gb399]? = some (.cells #[.slice Ao18 t393.length co18, .slice Ao21 t396.length co21] 26 (0, 0))) := ⟨by (with_reducible repeat (first | refine blk_drewN ?_ _ | refine blk_drew ?_ | refine blk_alloc ?_ _)); refine blk_put (cs := #[.slice Ao18 t393.length co18, .slice none 0 0]) ?_ 1 _ rfl; (with_reducible repeat (first | refine blk_drewN ?_ _ | refine blk_drew ?_ | refine blk_alloc ?_ _)); refine blk_put (cs := #[.slice none 0 0, .slice none 0 0]) ?_ 0 _ rfl; (with_reducible repeat (first | refine blk_drewN ?_ _ | refine blk_drew ?_ | refine blk_alloc ?_ _)); exact BK399.out⟩
     have n7_ : Aside0 (Below w.heap.size w ((w17.setCell ⟨gb399, 0, none⟩ (.slice Ao18 t393.length co18)).setCell ⟨gb399, 1, none⟩ (.slice Ao21 t396.length co21))) := ⟨bw2 HB.out GE390.out GE399.out⟩
     (try clear HO383)
     (try clear HO386)
     (try clear HO389)
     (try clear HO395)
     (try clear HO398)
     (try clear BK390)
     (try clear BK399)
     (try clear HB)
     generalize ((w17.setCell ⟨gb399, 0, none⟩ (.slice Ao18 t393.length co18)).setCell ⟨gb399, 1, none⟩ (.slice Ao21 t396.length co21)) = w43 at n0_ n1_ n2_ n3_ n4_ n5_ n6_ n7_ ⊢
     have HO383 := n0_
     have HO386 := n1_
     have HO389 := n2_
     have HO395 := n3_
     have HO398 := n4_
     have BK390 := n5_
     have BK399 := n6_
     have HB := n7_
     clear n0_ n1_ n2_ n3_ n4_ n5_ n6_ n7_
     have n0_ := Ak (Kd.Q_drew HO383.out)
     have n1_ := Ak (Kd.S_drew HO386.out)
     have n2_ := Ak (Kd.R_drew HO389.out)
     have n3_ := Ak (Kd.R_drew HO395.out)
     have n4_ := Ak (Kd.S_drew HO398.out)
     have n5_ := Ak (blk_drew BK390.out)
     have n6_ := Ak (blk_drew BK399.out)
     have n7_ := Ak (below_drew1 HB.out)
     clear HO383
     clear HO386
     clear HO389
     clear HO395
     clear HO398
     clear BK390
     clear BK399
     clear HB
     have HO383 := n0_
     have HO386 := n1_
     have HO389 := n2_
     have HO395 := n3_
     have HO398 := n4_
     have BK390 := n5_
     have BK399 := n6_
     have HB := n7_
     clear n0_ n1_ n2_ n3_ n4_ n5_ n6_ n7_
     refine start_ (n := 24) (S := fun w' => w'.cell? ⟨gb399, 0, none⟩ = some (.slice Ao18 t393.length co18) ∧ w'.cell? ⟨gb399, 1, none⟩ = some (.slice Ao21 t396.length co21)) (ds := []) #[false, false, false, false, false, false, false, false, false, false, false, false, false, false, false, false, false, false, false, false, false, false, false, false] (by kernel_rfl) rfl rfl ⟨(blk_cell BK399.out 0).trans rfl, (blk_cell BK399.out 1).trans rfl⟩ (fun hHeld => ?_); refine with_tabW laws_FnDisk.tab7 laws_FnDisk.bits7 (fun HT_ HW_ => ?_)
     generalize w43.drew = w44 at HO383 HO386 HO389 HO395 HO398 BK390 BK399 HB hHeld ⊢
     refine pure_ (i := 0) (N := some 28) (v := ?_) (a' := ?_) #[true, false, false, false, false, false, false, false, false, false, false, false, false, false, false, false, false, false, false, false, false, false, false, false] rfl rfl (any_of HT_.out (by kernel_rfl)) (fun _ _ _ h => h) (Or.inl ⟨by rfl, ?_⟩) ?_ ?_
     rotate_left
     ·intro w'
      go_simp
      with_reducible rfl
     rotate_left
     ·simp only [Act.put, sT, sZ, sS, i64_w, i32_w]
      rfl
     refine take_ (i := 1) (N := some 29) (v := ?_) (a' := ?_) #[true, true, false, false, false, false, false, false, false, false, false, false, false, false, false, false, false, false, false, false, false, false, false, false] rfl rfl (take_ofW HT_.out HW_.out (by kernel_rfl)) (fun _ _ _ h => h) (Or.inl ⟨by rfl, ?_⟩) hHeld ?_ ?_
     rotate_left
     ·rintro w' ⟨s0, s1⟩
      go_simp
      with_reducible rfl
     rotate_left
     ·simp only [Act.put, sT, sZ, sS, i64_w, i32_w]
      rfl
     refine pure_ (i := 2) (N := some 30) (v := ?_) (a' := ?_) #[true, true, true, false, false, false, false, false, false, false, false, false, false, false, false, false, false, false, false, false, false, false, false, false] rfl rfl (any_of HT_.out (by kernel_rfl)) (fun _ _ _ h => h) (Or.inl ⟨by rfl, ?_⟩) ?_ ?_
     rotate_left
     ·intro w'
      go_simp
      with_reducible rfl
     rotate_left
     ·simp only [Act.put, sT, sZ, sS, i64_w, i32_w]
      rfl
     refine pure_ (i := 3) (N := some 31) (v := ?_) (a' := ?_) #[true, true, true, true, false, false, false, false, false, false, false, false, false, false, false, false, false, false, false, false, false, false, false, false] rfl rfl (any_of HT_.out (by kernel_rfl)) (fun _ _ _ h => h) (Or.inl ⟨by rfl, ?_⟩) ?_ ?_
     rotate_left
     ·intro w'
      go_simp
      with_reducible rfl
     rotate_left
     ·simp only [Act.put, sT, sZ, sS, i64_w, i32_w]
      rfl
     refine pure_ (i := 4) (N := some 32) (v := ?_) (a' := ?_) #[true, true, true, true, true, false, false, false, false, false, false, false, false, false, false, false, false, false, false, false, false, false, false, false] rfl rfl (any_of HT_.out (by kernel_rfl)) (fun _ _ _ h => h) (Or.inl ⟨by rfl, ?_⟩) ?_ ?_
     rotate_left
     ·intro w'
      go_simp
      with_reducible rfl
     rotate_left
     ·simp only [Act.put, sT, sZ, sS, i64_w, i32_w]
      rfl
     refine pure_ (i := 5) (N := some 33) (v := undef) (a' := ?_) #[true, true, true, true, true, true, false, false, false, false, false, false, false, false, false, false, false, false, false, false, false, false, false, false] rfl rfl (any_of HT_.out (by kernel_rfl)) (fun _ _ _ h => h) (Or.inr ⟨by rfl, rfl⟩) ?_ ?_
     rotate_left
     ·simp only [Act.put, sT, sZ, sS, i64_w, i32_w]
      rfl
     refine pure_ (i := 6) (N := some 34) (v := undef) (a' := ?_) #[true, true, true, true, true, true, true, false, false, false, false, false, false, false, false, false, false, false, false, false, false, false, false, false] rfl rfl (any_of HT_.out (by kernel_rfl)) (fun _ _ _ h => h) (Or.inr ⟨by rfl, rfl⟩) ?_ ?_
     rotate_left
     ·simp only [Act.put, sT, sZ, sS, i64_w, i32_w]
      rfl
     refine pure_ (i := 7) (N := some 35) (v := undef) (a' := ?_) #[true, true, true, true, true, true, true, true, false, false, false, false, false, false, false, false, false, false, false, false, false, false, false, false] rfl rfl (any_of HT_.out (by kernel_rfl)) (fun _ _ _ h => h) (Or.inr ⟨by rfl, rfl⟩) ?_ ?_
     rotate_left
     ·simp only [Act.put, sT, sZ, sS, i64_w, i32_w]
      rfl
     refine pure_ (i := 8) (N := some 36) (v := undef) (a' := ?_) #[true, true, true, true, true, true, true, true, true, false, false, false, false, false, false, false, false, false, false, false, false, false, false, false] rfl rfl (any_of HT_.out (by kernel_rfl)) (fun _ _ _ h => h) (Or.inr ⟨by rfl, rfl⟩) ?_ ?_
     rotate_left
     ·simp only [Act.put, sT, sZ, sS, i64_w, i32_w]
      rfl
     refine pure_ (i := 9) (N := some 37) (v := undef) (a' := ?_) #[true, true, true, true, true, true, true, true, true, true, false, false, false, false, false, false, false, false, false, false, false, false, false, false] rfl rfl (any_of HT_.out (by kernel_rfl)) (fun _ _ _ h => h) (Or.inr ⟨by rfl, rfl⟩) ?_ ?_
     rotate_left
     ·simp only [Act.put, sT, sZ, sS, i64_w, i32_w]
      rfl
     refine pure_ (i := 10) (N := some 38) (v := undef) (a' := ?_) #[true, true, true, true, true, true, true, true, true, true, true, false, false, false, false, false, false, false, false, false, false, false, false, false] rfl rfl (any_of HT_.out (by kernel_rfl)) (fun _ _ _ h => h) (Or.inr ⟨by rfl, rfl⟩) ?_ ?_
     rotate_left
     ·simp only [Act.put, sT, sZ, sS, i64_w, i32_w]
      rfl
     refine pure_ (i := 11) (N := some 39) (v := undef) (a' := ?_) #[true, true, true, true, true, true, true, true, true, true, true, true, false, false, false, false, false, false, false, false, false, false, false, false] rfl rfl (any_of HT_.out (by kernel_rfl)) (fun _ _ _ h => h) (Or.inr ⟨by rfl, rfl⟩) ?_ ?_
     rotate_left
     ·simp only [Act.put, sT, sZ, sS, i64_w, i32_w]
      rfl
     refine pure_ (i := 12) (N := some 40) (v := undef) (a' := ?_) #[true, true, true, true, true, true, true, true, true, true, true, true, true, false, false, false, false, false, false, false, false, false, false, false] rfl rfl (any_of HT_.out (by kernel_rfl)) (fun _ _ _ h => h) (Or.inr ⟨by rfl, rfl⟩) ?_ ?_
     rotate_left
     ·simp only [Act.put, sT, sZ, sS, i64_w, i32_w]
      rfl
     refine pure_ (i := 13) (N := some 41) (v := ?_) (a' := ?_) #[true, true, true, true, true, true, true, true, true, true, true, true, true, true, false, false, false, false, false, false, false, false, false, false] rfl rfl (any_of HT_.out (by kernel_rfl)) (fun _ _ _ h => h) (Or.inl ⟨by rfl, ?_⟩) ?_ ?_
     rotate_left
     ·intro w'
      go_simp
      with_reducible rfl
     rotate_left
     ·simp only [Act.put, sT, sZ, sS, i64_w, i32_w]
      rfl
     refine pure_ (i := 14) (N := some 42) (v := ?_) (a' := ?_) #[true, true, true, true, true, true, true, true, true, true, true, true, true, true, true, false, false, false, false, false, false, false, false, false] rfl rfl (any_of HT_.out (by kernel_rfl)) (fun _ _ _ h => h) (Or.inl ⟨by rfl, ?_⟩) ?_ ?_
     rotate_left
     ·intro w'
      go_simp
      with_reducible rfl
     rotate_left
     ·simp only [Act.put, sT, sZ, sS, i64_w, i32_w]
      rfl
     refine pure_ (i := 15) (N := some 43) (v := undef) (a' := ?_) #[true, true, true, true, true, true, true, true, true, true, true, true, true, true, true, true, false, false, false, false, false, false, false, false] rfl rfl (any_of HT_.out (by kernel_rfl)) (fun _ _ _ h => h) (Or.inr ⟨by rfl, rfl⟩) ?_ ?_
     rotate_left
     ·simp only [Act.put, sT, sZ, sS, i64_w, i32_w]
      rfl
     refine pure_ (i := 16) (N := some 44) (v := undef) (a' := ?_) #[true, true, true, true, true, true, true, true, true, true, true, true, true, true, true, true, true, false, false, false, false, false, false, false] rfl rfl (any_of HT_.out (by kernel_rfl)) (fun _ _ _ h => h) (Or.inr ⟨by rfl, rfl⟩) ?_ ?_
     rotate_left
     ·simp only [Act.put, sT, sZ, sS, i64_w, i32_w]
      rfl
     refine pure_ (i := 17) (N := some 45) (v := undef) (a' := ?_) #[true, true, true, true, true, true, true, true, true, true, true, true, true, true, true, true, true, true, false, false, false, false, false, false] rfl rfl (any_of HT_.out (by kernel_rfl)) (fun _ _ _ h => h) (Or.inr ⟨by rfl, rfl⟩) ?_ ?_
     rotate_left
     ·simp only [Act.put, sT, sZ, sS, i64_w, i32_w]
      rfl
     refine pure_ (i := 18) (N := some 46) (v := undef) (a' := ?_) #[true, true, true, true, true, true, true, true, true, true, true, true, true, true, true, true, true, true, true, false, false, false, false, false] rfl rfl (any_of HT_.out (by kernel_rfl)) (fun _ _ _ h => h) (Or.inr ⟨by rfl, rfl⟩) ?_ ?_
     rotate_left
     ·simp only [Act.put, sT, sZ, sS, i64_w, i32_w]
      rfl
     refine pure_ (i := 19) (N := some 47) (v := undef) (a' := ?_) #[true, true, true, true, true, true, true, true, true, true, true, true, true, true, true, true, true, true, true, true, false, false, false, false] rfl rfl (any_of HT_.out (by kernel_rfl)) (fun _ _ _ h => h) (Or.inr ⟨by rfl, rfl⟩) ?_ ?_
     rotate_left
     ·simp only [Act.put, sT, sZ, sS, i64_w, i32_w]
      rfl
     refine pure_ (i := 20) (N := some 48) (v := undef) (a' := ?_) #[true, true, true, true, true, true, true, true, true, true, true, true, true, true, true, true, true, true, true, true, true, false, false, false] rfl rfl (any_of HT_.out (by kernel_rfl)) (fun _ _ _ h => h) (Or.inr ⟨by rfl, rfl⟩) ?_ ?_
     rotate_left
     ·simp only [Act.put, sT, sZ, sS, i64_w, i32_w]
      rfl
     refine pure_ (i := 21) (N := some 49) (v := undef) (a' := ?_) #[true, true, true, true, true, true, true, true, true, true, true, true, true, true, true, true, true, true, true, true, true, true, false, false] rfl rfl (any_of HT_.out (by kernel_rfl)) (fun _ _ _ h => h) (Or.inr ⟨by rfl, rfl⟩) ?_ ?_
     rotate_left
     ·simp only [Act.put, sT, sZ, sS, i64_w, i32_w]
      rfl
     refine pure_ (i := 22) (N := some 50) (v := undef) (a' := ?_) #[true, true, true, true, true, true, true, true, true, true, true, true, true, true, true, true, true, true, true, true, true, true, true, false] rfl rfl (any_of HT_.out (by kernel_rfl)) (fun _ _ _ h => h) (Or.inr ⟨by rfl, rfl⟩) ?_ ?_
     rotate_left
     ·simp only [Act.put, sT, sZ, sS, i64_w, i32_w]
      rfl
     refine pure_ (i := 23) (N := some 51) (v := ?_) (a' := ?_) #[true, true, true, true, true, true, true, true, true, true, true, true, true, true, true, true, true, true, true, true, true, true, true, true] rfl rfl (any_of HT_.out (by kernel_rfl)) (fun _ _ _ h => h) (Or.inl ⟨by rfl, ?_⟩) ?_ ?_
     rotate_left
     ·intro w'
      go_simp
      with_reducible rfl
     rotate_left
     ·simp only [Act.put, sT, sZ, sS, i64_w, i32_w]
      rfl
     refine done_ (done_of HT_.out (by kernel_rfl)) ?_
     try go_wp2
     go_meet
     case rel => exact ⟨_, (true), (by first | rfl | (simp; done) | (simp [*]; done)), H', ⟨by first | omega | exact Nat.le_refl _⟩, ⟨rq HO389.out⟩, ⟨qq HO383.out⟩, ⟨by (with_reducible repeat (first | apply Kd.S_alloc | apply Kd.S_drewN | apply Kd.S_drew)); exact Kd.S_mono HO386.out (fun _ hk => ⟨hk.2.1, ⟨hk.1, ⟨hk.2.2.1, hk.2.2.2⟩⟩⟩)⟩, ⟨Kd.Q_of_R (by (with_reducible repeat (first | apply Kd.R_alloc | apply Kd.R_drewN | apply Kd.R_drew)); exact Kd.R_mono HO395.out (fun _ hk => ⟨hk.2, hk.1⟩))⟩, ⟨by (with_reducible repeat (first | apply Kd.S_alloc | apply Kd.S_drewN | apply Kd.S_drew)); exact Kd.S_mono HO398.out (fun _ hk => ⟨hk.2.2.1, ⟨hk.1, ⟨hk.2.1, hk.2.2.2⟩⟩⟩)⟩, ⟨bq BK390.out⟩, ⟨bq BK399.out⟩, ⟨bw2 HB.out GE390.out GE399.out⟩⟩
   case rest =>
    clear HC8
    try clear c22b0
    try clear c22b1
    try clear c22b2
    obtain ⟨kq, x51_7, rfl, HA, HJ7, HO_4, HO_391000, HO_391001, HO_400000, HO_400001, BK390, BK399, HB⟩ := hcut
    cases kq with
    | zero => exact absurd HA.out (by simp [laws_FnDisk.j0])
    | succ kj7 =>
     have H := HA.out
     clear HA
     simp only [laws_FnDisk.j0] at H
     by_cases c45 : x51_7 = true
     ·subst c45
      have H1 : (some false) = some r := by rw [if_pos rfl] at H; exact H
      clear H
      have H := H1
      clear H1
      exact absurd ((Option.some.inj H).trans hrt) (by decide)
     ·replace c45 := Bool.eq_false_iff.mpr c45
      subst c45
      have H1 : ((impl_Crash.f kj7 t381 t384 t387).bind fun bt417 => (if (bt417.1.length : Int) = (t381.length : Int) then (laws_FnDisk.j1 kj7 ((t393.length : Int) != (t381.length : Int)) t381 t384 t393 t396 bt417.1 bt417.2) else (laws_FnDisk.j1 kj7 true t381 t384 t393 t396 bt417.1 bt417.2))) = some r := by rw [if_neg (show ¬ (false = true) by decide)] at H; exact H
      clear H
      have H := H1
      clear H1
      replace H := Option.bind_eq_some_iff.mp H
      obtain ⟨⟨t417, t420⟩, A460, H⟩ := H
      replace H : (if (t417.length : Int) = (t381.length : Int) then (laws_FnDisk.j1 kj7 ((t393.length : Int) != (t381.length : Int)) t381 t384 t393 t396 t417 t420) else (laws_FnDisk.j1 kj7 true t381 t384 t393 t396 t417 t420)) = some r := H
      have A46 := Ak A460
      clear A460
      have HC47 := Ak H
      clear H
      have hnb48 := NB390_399.out
      have hnc48 := NB399_390.out
      have hcz49_0 : wc.cell? ⟨gb390, 0, none⟩ = some (.slice Ao11 t381.length co11) := (blk_cell BK390.out 0).trans rfl
      have hcz49_1 : wc.cell? ⟨gb390, 1, none⟩ = some (.slice Ao13 t384.length co13) := (blk_cell BK390.out 1).trans rfl
      have hfz49_0 := blk_frozen BK390.out 0
      have hfz49_1 := blk_frozen BK390.out 1
      obtain ⟨Ao50, co50, eo50⟩ := Kd.R_slice HO_4.out
      subst eo50
      go_upto_region 10 with (first | ((with_reducible refine gate_callee (f := 17) rfl ?_); refine goesL_ (some 54) rfl rfl Try.func17 (by kernel_rfl) rfl #[.agg #[.slice Ao11 t381.length co11, .slice Ao13 t384.length co13], .slice Ao50 t387.length co50] rfl gm ?_; (with_reducible refine (impl_Crash.calls kj7 _ _ t381 _ _ t384 _ _ t387 t417 t420 _ ?side1 ?side2 ?side3 ?side4 ?side5 ?side6 A46.out).mono ?_); (case side1 => repeat (first | exact (Kd.Q_reads' HO_391000.out).2.2 | (with_reducible refine Kd.C_alloc ?_ _) | (with_reducible refine Kd.C_drewN ?_ _) | (with_reducible refine Kd.C_drew ?_))); (case side2 => exact (Kd.Q_reads' HO_391000.out).2.1); (case side3 => repeat (first | exact (Kd.S_reads' HO_391001.out).2.2 | (with_reducible refine Kd.C_alloc ?_ _) | (with_reducible refine Kd.C_drewN ?_ _) | (with_reducible refine Kd.C_drew ?_))); (case side4 => exact (Kd.S_reads' HO_391001.out).2.1); (case side5 => repeat (first | exact (Kd.R_reads' HO_4.out).2.2 | (with_reducible refine Kd.C_alloc ?_ _) | (with_reducible refine Kd.C_drewN ?_ _) | (with_reducible refine Kd.C_drew ?_))); (case side6 => exact (Kd.R_reads' HO_4.out).2.1); rintro e w51 ⟨v418, v421, rfl, ho0, ho1, hb⟩; refine ⟨_, rfl, ?_⟩; have n0_ := Ak (Kd.R_elder' (rq HO_4.out) (Kd.R_base ho0) hb); have n1_ := Ak (Kd.Q_elder' (qq HO_391000.out) (Kd.R_base ho0) hb); have n2_ := Ak (Kd.S_mono (Kd.S_told (Kd.S_told (Kd.S_old (sq HO_391001.out) hb) (Kd.R_base ho0)) (Kd.S_base ho1)) (fun _ h_ => h_.1)); have n3_ := Ak (Kd.Q_elder' (qq HO_400000.out) (Kd.R_base ho0) hb); have n4_ := Ak (Kd.S_mono (Kd.S_told (Kd.S_told (Kd.S_old (sq HO_400001.out) hb) (Kd.R_base ho0)) (Kd.S_base ho1)) (fun _ h_ => h_.1)); have n5_ := Ak (Kd.R_lower (Kd.R_new' (Kd.R_new' (Kd.R_new' ho0 (Kd.R_lt (rq HO_4.out))) (Kd.Q_lt (qq HO_391000.out))) (Kd.Q_lt (qq HO_400000.out))) (below_size (bw2 HB.out GE390.out GE399.out))); have n6_ := Ak (Kd.S_lower (Kd.S_new' (Kd.S_new' (Kd.S_new' (Kd.S_new' (Kd.S_new' ho1 (Kd.R_lt (rq HO_4.out))) (Kd.Q_lt (qq HO_391000.out))) (Kd.S_lt (sq HO_391001.out))) (Kd.Q_lt (qq HO_400000.out))) (Kd.S_lt (sq HO_400001.out))) (below_size (bw2 HB.out GE390.out GE399.out))); have n7_ := Ak (blk_below (g := gb390) (o := .cells #[.slice Ao11 t381.length co11, .slice Ao13 t384.length co13] 26 (0, 0)) (bq BK390.out) hb); have n8_ := Ak (blk_below (g := gb399) (o := .cells #[.slice Ao18 t393.length co18, .slice Ao21 t396.length co21] 26 (0, 0)) (bq BK399.out) hb); have n9_ := Ak (below_step (bw2 HB.out GE390.out GE399.out) hb); clear HO_4; clear HO_391000; clear HO_391001; clear HO_400000; clear HO_400001; clear BK390; clear BK399; clear HB; have HO_4 := n0_; have HO_391000 := n1_; have HO_391001 := n2_; have HO_400000 := n3_; have HO_400001 := n4_; have HO419 := n5_; have HO422 := n6_; have BK390 := n7_; have BK399 := n8_; have HB := n9_; clear n0_ n1_ n2_ n3_ n4_ n5_ n6_ n7_ n8_ n9_) | ((with_reducible refine gate_dst (N := 6) rfl ?_); (try (refine gate_guard (by rfl) ?_; dsimp only)); refine box_event ?hg (N := 6) ?hd (cs := #[.slice none 0 0, .slice none 0 0]) (t := 26) ?hr ?_; (case hd => rfl); (case hg => rfl); (case hr => first | (go_simp; done) | (go_simp; rfl)); intro gb423 hg w52 hbox hb; have n0_ := Ak (Kd.R_below (rq HO_4.out) hb); have n1_ := Ak (Kd.Q_below (qq HO_391000.out) hb); have n2_ := Ak (Kd.S_below (sq HO_391001.out) hb); have n3_ := Ak (Kd.Q_below (qq HO_400000.out) hb); have n4_ := Ak (Kd.S_below (sq HO_400001.out) hb); have n5_ := Ak (Kd.R_below (rq HO419.out) hb); have n6_ := Ak (Kd.S_below (sq HO422.out) hb); have n7_ := Ak (blk_below (g := gb390) (o := .cells #[.slice Ao11 t381.length co11, .slice Ao13 t384.length co13] 26 (0, 0)) (bq BK390.out) hb); have n8_ := Ak (blk_below (g := gb399) (o := .cells #[.slice Ao18 t393.length co18, .slice Ao21 t396.length co21] 26 (0, 0)) (bq BK399.out) hb); have n9_ := Ak (below_step (bw2 HB.out GE390.out GE399.out) hb); have n10_ := Ak (hbox); have n11_ := Ak ((by rw [hg]; exact (below_size (bw2 HB.out GE390.out GE399.out)) : w.heap.size ≤ gb423)); have n12_ := Ak ((by rw [hg]; exact (below_size (bw2 HB.out GE390.out GE399.out)) : w.heap.size ≤ gb423)); have n13_ := Ak ((by rw [hg]; exact Nat.ne_of_lt (blk_lt (g := gb390) (o := .cells #[.slice Ao11 t381.length co11, .slice Ao13 t384.length co13] 26 (0, 0)) (bq BK390.out)) : gb390 ≠ gb423)); have n14_ := Ak ((by rw [hg]; exact Nat.ne_of_gt (blk_lt (g := gb390) (o := .cells #[.slice Ao11 t381.length co11, .slice Ao13 t384.length co13] 26 (0, 0)) (bq BK390.out)) : gb423 ≠ gb390)); have n15_ := Ak ((by rw [hg]; exact Nat.ne_of_lt (blk_lt (g := gb399) (o := .cells #[.slice Ao18 t393.length co18, .slice Ao21 t396.length co21] 26 (0, 0)) (bq BK399.out)) : gb399 ≠ gb423)); have n16_ := Ak ((by rw [hg]; exact Nat.ne_of_gt (blk_lt (g := gb399) (o := .cells #[.slice Ao18 t393.length co18, .slice Ao21 t396.length co21] 26 (0, 0)) (bq BK399.out)) : gb423 ≠ gb399)); clear HO_4; clear HO_391000; clear HO_391001; clear HO_400000; clear HO_400001; clear HO419; clear HO422; clear BK390; clear BK399; clear HB; have HO_4 := n0_; have HO_391000 := n1_; have HO_391001 := n2_; have HO_400000 := n3_; have HO_400001 := n4_; have HO419 := n5_; have HO422 := n6_; have BK390 := n7_; have BK399 := n8_; have HB := n9_; have BK423 := n10_; have GW423 := n11_; have GE423 := n12_; have NB390_423 := n13_; have NB423_390 := n14_; have NB399_423 := n15_; have NB423_399 := n16_; clear n0_ n1_ n2_ n3_ n4_ n5_ n6_ n7_ n8_ n9_ n10_ n11_ n12_ n13_ n14_ n15_ n16_; clear hb hbox hg; obtain ⟨Ao53, co53, eo53⟩ := Kd.R_slice HO419.out; subst eo53; have hnb54 := NB423_390.out; have hnc54 := NB390_423.out; have hnb55 := NB423_399.out; have hnc55 := NB399_423.out; have hcz56_0 : w52.cell? ⟨gb423, 0, none⟩ = some (.slice none 0 0) := (blk_cell BK423.out 0).trans rfl; have hcz56_1 : w52.cell? ⟨gb423, 1, none⟩ = some (.slice none 0 0) := (blk_cell BK423.out 1).trans rfl; have hfz56_0 := blk_frozen BK423.out 0; have hfz56_1 := blk_frozen BK423.out 1; obtain ⟨Ao57, co57, eo57⟩ := Kd.S_slice HO422.out; subst eo57))
      (try simp only [Act.put, sT, sZ, sS])
      go_cut [70] (fun v70 wc => ∃ (kq : Nat) (x70_46 : Bool), v70 = .bool x70_46 ∧ Aside0 (laws_FnDisk.j1 kq x70_46 t381 t384 t393 t396 t417 t420 = some r) ∧ Aside0 (kq ≤ kj7) ∧ Aside0 (Kd.Q (Kd.int .u8) 5 wc w.heap.size (fun k_ => some k_ ≠ ((.slice Ao18 t393.length co18) : Value).ownBlock ∧ some k_ ≠ ((.slice Ao53 t417.length co53) : Value).ownBlock) (.slice Ao11 t381.length co11) t381) ∧ Aside0 (Kd.S k34 34 wc w.heap.size (fun k_ => some k_ ≠ ((.slice Ao11 t381.length co11) : Value).ownBlock ∧ some k_ ≠ ((.slice Ao18 t393.length co18) : Value).ownBlock ∧ some k_ ≠ ((.slice Ao21 t396.length co21) : Value).ownBlock ∧ some k_ ≠ ((.slice Ao53 t417.length co53) : Value).ownBlock ∧ some k_ ≠ ((.slice Ao57 t420.length co57) : Value).ownBlock) (.slice Ao13 t384.length co13) t384) ∧ Aside0 (Kd.Q (Kd.int .u8) 5 wc w.heap.size (fun k_ => some k_ ≠ ((.slice Ao11 t381.length co11) : Value).ownBlock ∧ some k_ ≠ ((.slice Ao53 t417.length co53) : Value).ownBlock) (.slice Ao18 t393.length co18) t393) ∧ Aside0 (Kd.S k34 34 wc w.heap.size (fun k_ => some k_ ≠ ((.slice Ao11 t381.length co11) : Value).ownBlock ∧ some k_ ≠ ((.slice Ao13 t384.length co13) : Value).ownBlock ∧ some k_ ≠ ((.slice Ao18 t393.length co18) : Value).ownBlock ∧ some k_ ≠ ((.slice Ao53 t417.length co53) : Value).ownBlock ∧ some k_ ≠ ((.slice Ao57 t420.length co57) : Value).ownBlock) (.slice Ao21 t396.length co21) t396) ∧ Aside0 (Kd.Q (Kd.int .u8) 5 wc w.heap.size (fun k_ => some k_ ≠ ((.slice Ao11 t381.length co11) : Value).ownBlock ∧ some k_ ≠ ((.slice Ao18 t393.length co18) : Value).ownBlock) (.slice Ao53 t417.length co53) t417) ∧ Aside0 (Kd.S k34 34 wc w.heap.size (fun k_ => some k_ ≠ ((.slice Ao11 t381.length co11) : Value).ownBlock ∧ some k_ ≠ ((.slice Ao13 t384.length co13) : Value).ownBlock ∧ some k_ ≠ ((.slice Ao18 t393.length co18) : Value).ownBlock ∧ some k_ ≠ ((.slice Ao21 t396.length co21) : Value).ownBlock ∧ some k_ ≠ ((.slice Ao53 t417.length co53) : Value).ownBlock) (.slice Ao57 t420.length co57) t420) ∧ Aside0 (wc.heap[gb390]? = some (.cells #[(.slice Ao11 t381.length co11), (.slice Ao13 t384.length co13)] 26 (0, 0))) ∧ Aside0 (wc.heap[gb399]? = some (.cells #[(.slice Ao18 t393.length co18), (.slice Ao21 t396.length co21)] 26 (0, 0))) ∧ Aside0 (wc.heap[gb423]? = some (.cells #[(.slice Ao53 t417.length co53), (.slice Ao57 t420.length co57)] 26 (0, 0))) ∧ Aside0 (Below w.heap.size w wc))
      case first =>
       have H := HC47.out
       clear HC47
       by_cases c58 : (t417.length : Int) = (t381.length : Int)
       ·rw [if_pos c58] at H
        have c58b0 : ((t417.length : Int) == (t381.length : Int)) = true := beq_iff_eq.mpr c58
        have c58b1 : ((t417.length : Int) != (t381.length : Int)) = false := bne_eq_false_iff_eq.mpr c58
        have c58b2 : (t417.length == t381.length) = true := by first | simpa using c58 | (simp at c58 ⊢; omega)
        clear c58
        (first | rw [c58b0] | (simp only [i64_w, i32_w]; rw [c58b0]) | skip)
        have H' := Ak H
        clear H
        have hnb59 := NB423_390.out
        have hnc59 := NB390_423.out
        have hnb60 := NB423_399.out
        have hnc60 := NB399_423.out
        have hcz61_0 : w52.cell? ⟨gb423, 0, none⟩ = some (.slice none 0 0) := (blk_cell BK423.out 0).trans rfl
        have hcz61_1 : w52.cell? ⟨gb423, 1, none⟩ = some (.slice none 0 0) := (blk_cell BK423.out 1).trans rfl
        have hfz61_0 := blk_frozen BK423.out 0
        have hfz61_1 := blk_frozen BK423.out 1
        have hnb62 := NB390_399.out
        have hnc62 := NB399_390.out
        have hcz63_0 : w52.cell? ⟨gb390, 0, none⟩ = some (.slice Ao11 t381.length co11) := (blk_cell BK390.out 0).trans rfl
        have hcz63_1 : w52.cell? ⟨gb390, 1, none⟩ = some (.slice Ao13 t384.length co13) := (blk_cell BK390.out 1).trans rfl
        have hfz63_0 := blk_frozen BK390.out 0
        have hfz63_1 := blk_frozen BK390.out 1
        have hcz64_0 : w52.cell? ⟨gb399, 0, none⟩ = some (.slice Ao18 t393.length co18) := (blk_cell BK399.out 0).trans rfl
        have hcz64_1 : w52.cell? ⟨gb399, 1, none⟩ = some (.slice Ao21 t396.length co21) := (blk_cell BK399.out 1).trans rfl
        have hfz64_0 := blk_frozen BK399.out 0
        have hfz64_1 := blk_frozen BK399.out 1
        go_wp2
        go_meet
        case rel => exact ⟨_, (((t393.length : Int) != (t381.length : Int))), (by first | rfl | (simp; done) | (simp [*]; done)), H', ⟨by have := HJ7.out; first | omega | exact Nat.le_refl _⟩, ⟨by (with_reducible repeat (first | apply Kd.Q_alloc | apply Kd.Q_drewN | apply Kd.Q_drew)); exact Kd.Q_mono (Kd.Q_far (p := ⟨gb423, 1, none⟩) (Kd.Q_far (p := ⟨gb423, 0, none⟩) (Kd.Q_types HO_391000.out BK423.out (by decide)) (fun _ hk => hk.2) (.slice Ao53 t417.length co53)) (fun _ hk => hk.2) (.slice Ao57 t420.length co57)) (fun _ hk => ⟨hk.1.1.2, hk.1.2⟩)⟩, ⟨by (with_reducible repeat (first | apply Kd.S_alloc | apply Kd.S_drewN | apply Kd.S_drew)); exact Kd.S_mono (Kd.S_far (p := ⟨gb423, 1, none⟩) (Kd.S_far (p := ⟨gb423, 0, none⟩) (Kd.S_types HO_391001.out BK423.out (by decide)) (fun _ hk => hk.2) (.slice Ao53 t417.length co53)) (fun _ hk => hk.2) (.slice Ao57 t420.length co57)) (fun _ hk => ⟨hk.1.1.1.2.1, ⟨hk.1.1.1.2.2.1, ⟨hk.1.1.1.2.2.2, ⟨hk.1.1.2, hk.1.2⟩⟩⟩⟩)⟩, ⟨by (with_reducible repeat (first | apply Kd.Q_alloc | apply Kd.Q_drewN | apply Kd.Q_drew)); exact Kd.Q_mono (Kd.Q_far (p := ⟨gb423, 1, none⟩) (Kd.Q_far (p := ⟨gb423, 0, none⟩) (Kd.Q_types HO_400000.out BK423.out (by decide)) (fun _ hk => hk.2) (.slice Ao53 t417.length co53)) (fun _ hk => hk.2) (.slice Ao57 t420.length co57)) (fun _ hk => ⟨hk.1.1.2, hk.1.2⟩)⟩, ⟨by (with_reducible repeat (first | apply Kd.S_alloc | apply Kd.S_drewN | apply Kd.S_drew)); exact Kd.S_mono (Kd.S_far (p := ⟨gb423, 1, none⟩) (Kd.S_far (p := ⟨gb423, 0, none⟩) (Kd.S_types HO_400001.out BK423.out (by decide)) (fun _ hk => hk.2) (.slice Ao53 t417.length co53)) (fun _ hk => hk.2) (.slice Ao57 t420.length co57)) (fun _ hk => ⟨hk.1.1.1.2.1, ⟨hk.1.1.1.2.2.1, ⟨hk.1.1.1.2.2.2, ⟨hk.1.1.2, hk.1.2⟩⟩⟩⟩)⟩, ⟨Kd.Q_of_R (by (with_reducible repeat (first | apply Kd.R_alloc | apply Kd.R_drewN | apply Kd.R_drew)); exact Kd.R_mono (Kd.R_far (p := ⟨gb423, 1, none⟩) (Kd.R_far (p := ⟨gb423, 0, none⟩) (Kd.R_types HO419.out BK423.out (by decide)) (fun _ hk => hk.2) (.slice Ao53 t417.length co53)) (fun _ hk => hk.2) (.slice Ao57 t420.length co57)) (fun _ hk => ⟨hk.1.1.2, hk.1.2⟩))⟩, ⟨by (with_reducible repeat (first | apply Kd.S_alloc | apply Kd.S_drewN | apply Kd.S_drew)); exact Kd.S_mono (Kd.S_far (p := ⟨gb423, 1, none⟩) (Kd.S_far (p := ⟨gb423, 0, none⟩) (Kd.S_types HO422.out BK423.out (by decide)) (fun _ hk => hk.2) (.slice Ao53 t417.length co53)) (fun _ hk => hk.2) (.slice Ao57 t420.length co57)) (fun _ hk => ⟨hk.1.1.1.1.2, ⟨hk.1.1.1.2, ⟨hk.1.1.2, ⟨hk.1.2, hk.1.1.1.1.1.1⟩⟩⟩⟩)⟩, ⟨by (with_reducible repeat (first | refine blk_drewN ?_ _ | refine blk_drew ?_ | refine blk_alloc ?_ _)); refine blk_far ?_ NB390_423.out _; (with_reducible repeat (first | refine blk_drewN ?_ _ | refine blk_drew ?_ | refine blk_alloc ?_ _)); refine blk_far ?_ NB390_423.out _; (with_reducible repeat (first | refine blk_drewN ?_ _ | refine blk_drew ?_ | refine blk_alloc ?_ _)); exact BK390.out⟩, ⟨by (with_reducible repeat (first | refine blk_drewN ?_ _ | refine blk_drew ?_ | refine blk_alloc ?_ _)); refine blk_far ?_ NB399_423.out _; (with_reducible repeat (first | refine blk_drewN ?_ _ | refine blk_drew ?_ | refine blk_alloc ?_ _)); refine blk_far ?_ NB399_423.out _; (with_reducible repeat (first | refine blk_drewN ?_ _ | refine blk_drew ?_ | refine blk_alloc ?_ _)); exact BK399.out⟩, ⟨by (with_reducible repeat (first | refine blk_drewN ?_ _ | refine blk_drew ?_ | refine blk_alloc ?_ _)); refine blk_put (cs := #[.slice Ao53 t417.length co53, .slice none 0 0]) ?_ 1 _ rfl; (with_reducible repeat (first | refine blk_drewN ?_ _ | refine blk_drew ?_ | refine blk_alloc ?_ _)); refine blk_put (cs := #[.slice none 0 0, .slice none 0 0]) ?_ 0 _ rfl; (with_reducible repeat (first | refine blk_drewN ?_ _ | refine blk_drew ?_ | refine blk_alloc ?_ _)); exact BK423.out⟩, ⟨bw3 HB.out GE390.out GE399.out GE423.out⟩⟩
       ·rw [if_neg c58] at H
        have c58b0 : ((t417.length : Int) == (t381.length : Int)) = false := beq_eq_false_iff_ne.mpr c58
        have c58b1 : ((t417.length : Int) != (t381.length : Int)) = true := bne_iff_ne.mpr c58
        have c58b2 : (t417.length == t381.length) = false := by first | simpa using c58 | (simp at c58 ⊢; omega)
        (first | rw [c58b0] | (simp only [i64_w, i32_w]; rw [c58b0]) | skip)
        have H' := Ak H
        clear H
        have hnb65 := NB423_390.out
        have hnc65 := NB390_423.out
        have hnb66 := NB423_399.out
        have hnc66 := NB399_423.out
        have hcz67_0 : w52.cell? ⟨gb423, 0, none⟩ = some (.slice none 0 0) := (blk_cell BK423.out 0).trans rfl
        have hcz67_1 : w52.cell? ⟨gb423, 1, none⟩ = some (.slice none 0 0) := (blk_cell BK423.out 1).trans rfl
        have hfz67_0 := blk_frozen BK423.out 0
        have hfz67_1 := blk_frozen BK423.out 1
        have hnb68 := NB390_399.out
        have hnc68 := NB399_390.out
        have hcz69_0 : w52.cell? ⟨gb390, 0, none⟩ = some (.slice Ao11 t381.length co11) := (blk_cell BK390.out 0).trans rfl
        have hcz69_1 : w52.cell? ⟨gb390, 1, none⟩ = some (.slice Ao13 t384.length co13) := (blk_cell BK390.out 1).trans rfl
        have hfz69_0 := blk_frozen BK390.out 0
        have hfz69_1 := blk_frozen BK390.out 1
        go_wp2
        go_meet
        case rel => exact ⟨_, (true), (by first | rfl | (simp; done) | (simp [*]; done)), H', ⟨by have := HJ7.out; first | omega | exact Nat.le_refl _⟩, ⟨by (with_reducible repeat (first | apply Kd.Q_alloc | apply Kd.Q_drewN | apply Kd.Q_drew)); exact Kd.Q_mono (Kd.Q_far (p := ⟨gb423, 1, none⟩) (Kd.Q_far (p := ⟨gb423, 0, none⟩) (Kd.Q_types HO_391000.out BK423.out (by decide)) (fun _ hk => hk.2) (.slice Ao53 t417.length co53)) (fun _ hk => hk.2) (.slice Ao57 t420.length co57)) (fun _ hk => ⟨hk.1.1.2, hk.1.2⟩)⟩, ⟨by (with_reducible repeat (first | apply Kd.S_alloc | apply Kd.S_drewN | apply Kd.S_drew)); exact Kd.S_mono (Kd.S_far (p := ⟨gb423, 1, none⟩) (Kd.S_far (p := ⟨gb423, 0, none⟩) (Kd.S_types HO_391001.out BK423.out (by decide)) (fun _ hk => hk.2) (.slice Ao53 t417.length co53)) (fun _ hk => hk.2) (.slice Ao57 t420.length co57)) (fun _ hk => ⟨hk.1.1.1.2.1, ⟨hk.1.1.1.2.2.1, ⟨hk.1.1.1.2.2.2, ⟨hk.1.1.2, hk.1.2⟩⟩⟩⟩)⟩, ⟨by (with_reducible repeat (first | apply Kd.Q_alloc | apply Kd.Q_drewN | apply Kd.Q_drew)); exact Kd.Q_mono (Kd.Q_far (p := ⟨gb423, 1, none⟩) (Kd.Q_far (p := ⟨gb423, 0, none⟩) (Kd.Q_types HO_400000.out BK423.out (by decide)) (fun _ hk => hk.2) (.slice Ao53 t417.length co53)) (fun _ hk => hk.2) (.slice Ao57 t420.length co57)) (fun _ hk => ⟨hk.1.1.2, hk.1.2⟩)⟩, ⟨by (with_reducible repeat (first | apply Kd.S_alloc | apply Kd.S_drewN | apply Kd.S_drew)); exact Kd.S_mono (Kd.S_far (p := ⟨gb423, 1, none⟩) (Kd.S_far (p := ⟨gb423, 0, none⟩) (Kd.S_types HO_400001.out BK423.out (by decide)) (fun _ hk => hk.2) (.slice Ao53 t417.length co53)) (fun _ hk => hk.2) (.slice Ao57 t420.length co57)) (fun _ hk => ⟨hk.1.1.1.2.1, ⟨hk.1.1.1.2.2.1, ⟨hk.1.1.1.2.2.2, ⟨hk.1.1.2, hk.1.2⟩⟩⟩⟩)⟩, ⟨Kd.Q_of_R (by (with_reducible repeat (first | apply Kd.R_alloc | apply Kd.R_drewN | apply Kd.R_drew)); exact Kd.R_mono (Kd.R_far (p := ⟨gb423, 1, none⟩) (Kd.R_far (p := ⟨gb423, 0, none⟩) (Kd.R_types HO419.out BK423.out (by decide)) (fun _ hk => hk.2) (.slice Ao53 t417.length co53)) (fun _ hk => hk.2) (.slice Ao57 t420.length co57)) (fun _ hk => ⟨hk.1.1.2, hk.1.2⟩))⟩, ⟨by (with_reducible repeat (first | apply Kd.S_alloc | apply Kd.S_drewN | apply Kd.S_drew)); exact Kd.S_mono (Kd.S_far (p := ⟨gb423, 1, none⟩) (Kd.S_far (p := ⟨gb423, 0, none⟩) (Kd.S_types HO422.out BK423.out (by decide)) (fun _ hk => hk.2) (.slice Ao53 t417.length co53)) (fun _ hk => hk.2) (.slice Ao57 t420.length co57)) (fun _ hk => ⟨hk.1.1.1.1.2, ⟨hk.1.1.1.2, ⟨hk.1.1.2, ⟨hk.1.2, hk.1.1.1.1.1.1⟩⟩⟩⟩)⟩, ⟨by (with_reducible repeat (first | refine blk_drewN ?_ _ | refine blk_drew ?_ | refine blk_alloc ?_ _)); refine blk_far ?_ NB390_423.out _; (with_reducible repeat (first | refine blk_drewN ?_ _ | refine blk_drew ?_ | refine blk_alloc ?_ _)); refine blk_far ?_ NB390_423.out _; (with_reducible repeat (first | refine blk_drewN ?_ _ | refine blk_drew ?_ | refine blk_alloc ?_ _)); exact BK390.out⟩, ⟨by (with_reducible repeat (first | refine blk_drewN ?_ _ | refine blk_drew ?_ | refine blk_alloc ?_ _)); refine blk_far ?_ NB399_423.out _; (with_reducible repeat (first | refine blk_drewN ?_ _ | refine blk_drew ?_ | refine blk_alloc ?_ _)); refine blk_far ?_ NB399_423.out _; (with_reducible repeat (first | refine blk_drewN ?_ _ | refine blk_drew ?_ | refine blk_alloc ?_ _)); exact BK399.out⟩, ⟨by (with_reducible repeat (first | refine blk_drewN ?_ _ | refine blk_drew ?_ | refine blk_alloc ?_ _)); refine blk_put (cs := #[.slice Ao53 t417.length co53, .slice none 0 0]) ?_ 1 _ rfl; (with_reducible repeat (first | refine blk_drewN ?_ _ | refine blk_drew ?_ | refine blk_alloc ?_ _)); refine blk_put (cs := #[.slice none 0 0, .slice none 0 0]) ?_ 0 _ rfl; (with_reducible repeat (first | refine blk_drewN ?_ _ | refine blk_drew ?_ | refine blk_alloc ?_ _)); exact BK423.out⟩, ⟨bw3 HB.out GE390.out GE399.out GE423.out⟩⟩
      case rest =>
       clear HC47
       try clear c22b0
       try clear c22b1
       try clear c22b2
       try clear c58b0
       try clear c58b1
       try clear c58b2
       obtain ⟨kq, x70_46, rfl, HA, HJ46, HO_391000, HO_391001, HO_400000, HO_400001, HO_424000, HO_424001, BK390, BK399, BK423, HB⟩ := hcut
       cases kq with
       | zero => exact absurd HA.out (by simp [laws_FnDisk.j1])
       | succ kj46 =>
        have H := HA.out
        clear HA
        simp only [laws_FnDisk.j1] at H
        by_cases c70 : x70_46 = true
        ·subst c70
         have H1 : (some false) = some r := by rw [if_pos rfl] at H; exact H
         clear H
         have H := H1
         clear H1
         exact absurd ((Option.some.inj H).trans hrt) (by decide)
        ·replace c70 := Bool.eq_false_iff.mpr c70
         subst c70
         have H1 : (laws_FnDisk.l0 kj46 0 t381 t384 t393 t396 t417 t420) = some r := by rw [if_neg (show ¬ (false = true) by decide)] at H; exact H
         clear H
         have H := H1
         clear H1
         have H' := Ak H
         clear H
         go_wp2
         go_loopg [7] kj46 (fun kq v7 w' => ∃ (x7_3 : Int), v7 = .int .i64 x7_3 ∧ Aside0 (laws_FnDisk.l0 kq x7_3 t381 t384 t393 t396 t417 t420 = some r) ∧ Aside0 (kq ≤ kj46) ∧ Aside0 (Kd.Q (Kd.int .u8) 5 w' w.heap.size (fun k_ => some k_ ≠ ((.slice Ao18 t393.length co18) : Value).ownBlock ∧ some k_ ≠ ((.slice Ao53 t417.length co53) : Value).ownBlock) (.slice Ao11 t381.length co11) t381) ∧ Aside0 (Kd.S k34 34 w' w.heap.size (fun k_ => some k_ ≠ ((.slice Ao11 t381.length co11) : Value).ownBlock ∧ some k_ ≠ ((.slice Ao18 t393.length co18) : Value).ownBlock ∧ some k_ ≠ ((.slice Ao21 t396.length co21) : Value).ownBlock ∧ some k_ ≠ ((.slice Ao53 t417.length co53) : Value).ownBlock ∧ some k_ ≠ ((.slice Ao57 t420.length co57) : Value).ownBlock) (.slice Ao13 t384.length co13) t384) ∧ Aside0 (Kd.Q (Kd.int .u8) 5 w' w.heap.size (fun k_ => some k_ ≠ ((.slice Ao11 t381.length co11) : Value).ownBlock ∧ some k_ ≠ ((.slice Ao53 t417.length co53) : Value).ownBlock) (.slice Ao18 t393.length co18) t393) ∧ Aside0 (Kd.S k34 34 w' w.heap.size (fun k_ => some k_ ≠ ((.slice Ao11 t381.length co11) : Value).ownBlock ∧ some k_ ≠ ((.slice Ao13 t384.length co13) : Value).ownBlock ∧ some k_ ≠ ((.slice Ao18 t393.length co18) : Value).ownBlock ∧ some k_ ≠ ((.slice Ao53 t417.length co53) : Value).ownBlock ∧ some k_ ≠ ((.slice Ao57 t420.length co57) : Value).ownBlock) (.slice Ao21 t396.length co21) t396) ∧ Aside0 (Kd.Q (Kd.int .u8) 5 w' w.heap.size (fun k_ => some k_ ≠ ((.slice Ao11 t381.length co11) : Value).ownBlock ∧ some k_ ≠ ((.slice Ao18 t393.length co18) : Value).ownBlock) (.slice Ao53 t417.length co53) t417) ∧ Aside0 (Kd.S k34 34 w' w.heap.size (fun k_ => some k_ ≠ ((.slice Ao11 t381.length co11) : Value).ownBlock ∧ some k_ ≠ ((.slice Ao13 t384.length co13) : Value).ownBlock ∧ some k_ ≠ ((.slice Ao18 t393.length co18) : Value).ownBlock ∧ some k_ ≠ ((.slice Ao21 t396.length co21) : Value).ownBlock ∧ some k_ ≠ ((.slice Ao53 t417.length co53) : Value).ownBlock) (.slice Ao57 t420.length co57) t420) ∧ Aside0 (w'.heap[gb390]? = some (.cells #[(.slice Ao11 t381.length co11), (.slice Ao13 t384.length co13)] 26 (0, 0))) ∧ Aside0 (w'.heap[gb399]? = some (.cells #[(.slice Ao18 t393.length co18), (.slice Ao21 t396.length co21)] 26 (0, 0))) ∧ Aside0 (w'.heap[gb423]? = some (.cells #[(.slice Ao53 t417.length co53), (.slice Ao57 t420.length co57)] 26 (0, 0))) ∧ Aside0 (Below w.heap.size w w'))
         case atStart => exact ⟨(0), (by first | rfl | (simp; done) | (simp [*]; done)), H', ⟨Nat.le_refl _⟩, ⟨qq HO_391000.out⟩, ⟨sq HO_391001.out⟩, ⟨qq HO_400000.out⟩, ⟨sq HO_400001.out⟩, ⟨qq HO_424000.out⟩, ⟨sq HO_424001.out⟩, ⟨bq BK390.out⟩, ⟨bq BK399.out⟩, ⟨bq BK423.out⟩, ⟨bw3 HB.out GE390.out GE399.out GE423.out⟩⟩
         case round =>
          clear H'
          try clear c22b0
          try clear c22b1
          try clear c22b2
          try clear c58b0
          try clear c58b1
          try clear c58b2
          obtain ⟨x7_3, rfl, HA, HK3, HO_391000, HO_391001, HO_400000, HO_400001, HO_424000, HO_424001, BK390, BK399, BK423, HB⟩ := hrel
          cases gk with
          | zero => exact absurd HA.out (by simp [laws_FnDisk.l0])
          | succ k3 =>
           have H := HA.out
           clear HA
           simp only [laws_FnDisk.l0] at H
           by_cases c71 : x7_3 < (wrap64 ((t381.length : Int) / 64))
           ·rw [if_pos c71] at H
            have c71b0 : decide (x7_3 < (wrap64 ((t381.length : Int) / 64))) = true := decide_eq_true c71
            clear c71
            obtain ⟨ji72, hji72⟩ : ∃ j_ : Int, (wrap64 (x7_3 * 64)) = j_ := ⟨_, rfl⟩
            replace H : (if 0 ≤ (ji72) then (if (ji72) ≤ (wrap64 ((wrap64 (x7_3 + 1)) * 64)) then (if (wrap64 ((wrap64 (x7_3 + 1)) * 64)) ≤ (t417.length : Int) then ((some ((t417.take ((wrap64 ((wrap64 (x7_3 + 1)) * 64)) : Int).toNat).drop ((ji72) : Int).toNat : List Int)).bind fun y424 => (if (wrap64 ((wrap64 (x7_3 + 1)) * 64)) ≤ (t381.length : Int) then ((laws_sameBytes.f k3 y424 ((t381.take ((wrap64 ((wrap64 (x7_3 + 1)) * 64)) : Int).toNat).drop ((ji72) : Int).toNat)).bind fun t432 => (laws_FnDisk.l1 k3 x7_3 y424 t432 0 t381 t384 t393 t396 t417 t420)) else (none))) else (none)) else (none)) else (none)) = some r := by first | (rw [hji72] at H; exact H) | (simp only [hji72] at H ⊢; exact H)
            have hji72w : (IntKind.i64.wrap (x7_3 * 64)) = ji72 := (i64_w _).trans hji72
            by_cases c73 : 0 ≤ (ji72)
            ·rw [if_pos c73] at H
             have c73b0 := eq_true c73
             have c73b1 : decide (0 ≤ (ji72)) = true := decide_eq_true c73
             clear c73
             by_cases c74 : (ji72) ≤ (wrap64 ((wrap64 (x7_3 + 1)) * 64))
             ·rw [if_pos c74] at H
              have c74b0 := eq_true c74
              have c74b1 : decide ((ji72) ≤ (wrap64 ((wrap64 (x7_3 + 1)) * 64))) = true := decide_eq_true c74
              by_cases c75 : (wrap64 ((wrap64 (x7_3 + 1)) * 64)) ≤ (t417.length : Int)
              ·rw [if_pos c75] at H
               have c75b0 := eq_true c75
               have c75b1 : decide ((wrap64 ((wrap64 (x7_3 + 1)) * 64)) ≤ (t417.length : Int)) = true := decide_eq_true c75
               obtain ⟨y424, hy424⟩ : ∃ y_ : List Int, y_ = ((t417.take ((wrap64 ((wrap64 (x7_3 + 1)) * 64)) : Int).toNat).drop ((ji72) : Int).toNat) := ⟨_, rfl⟩
               replace H : (if (wrap64 ((wrap64 (x7_3 + 1)) * 64)) ≤ (t381.length : Int) then ((laws_sameBytes.f k3 y424 ((t381.take ((wrap64 ((wrap64 (x7_3 + 1)) * 64)) : Int).toNat).drop ((ji72) : Int).toNat)).bind fun t432 => (laws_FnDisk.l1 k3 x7_3 y424 t432 0 t381 t384 t393 t396 t417 t420)) else (none)) = some r := by first | (rw [hy424]; with_reducible exact H) | (have H2_ := (Option.bind_some _ _).symm.trans H; rw [hy424]; with_reducible exact H2_) | (have H2_ := (Option.bind_some _ _).symm.trans H; with_reducible exact H2_) | with_reducible exact H | (rw [hy424]; exact H) | exact H
               have Ny424 := Ak hy424
               clear hy424
               have c76b0 := eq_true (of_decide_eq_true (by first | (with_reducible assumption) | assumption) : 0 ≤ (ji72))
               have c77b0 := eq_true (of_decide_eq_true (by first | (with_reducible assumption) | assumption) : (ji72) ≤ (wrap64 ((wrap64 (x7_3 + 1)) * 64)))
               by_cases c78 : (wrap64 ((wrap64 (x7_3 + 1)) * 64)) ≤ (t381.length : Int)
               ·rw [if_pos c78] at H
                have c78b0 := eq_true c78
                have c78b1 : decide ((wrap64 ((wrap64 (x7_3 + 1)) * 64)) ≤ (t381.length : Int)) = true := decide_eq_true c78
                obtain ⟨y428, hy428⟩ : ∃ y_ : List Int, y_ = ((t381.take ((wrap64 ((wrap64 (x7_3 + 1)) * 64)) : Int).toNat).drop ((ji72) : Int).toNat) := ⟨_, rfl⟩
                replace H : ((laws_sameBytes.f k3 y424 y428).bind fun t432 => (laws_FnDisk.l1 k3 x7_3 y424 t432 0 t381 t384 t393 t396 t417 t420)) = some r := by first | (rw [hy428]; with_reducible exact H) | (have H2_ := (Option.bind_some _ _).symm.trans H; rw [hy428]; with_reducible exact H2_) | (have H2_ := (Option.bind_some _ _).symm.trans H; with_reducible exact H2_) | with_reducible exact H | (rw [hy428]; exact H) | exact H
                have Ny428 := Ak hy428
                clear hy428
                replace H := Option.bind_eq_some_iff.mp H
                obtain ⟨t432, A790, H⟩ := H
                replace H : (laws_FnDisk.l1 k3 x7_3 y424 t432 0 t381 t384 t393 t396 t417 t420) = some r := H
                have A79 := Ak A790
                clear A790
                have H' := Ak H
                clear H
                have hnb80 := NB390_399.out
                have hnc80 := NB399_390.out
                have hnb81 := NB390_423.out
                have hnc81 := NB423_390.out
                have hcz82_0 : wr.cell? ⟨gb390, 0, none⟩ = some (.slice Ao11 t381.length co11) := (blk_cell BK390.out 0).trans rfl
                have hcz82_1 : wr.cell? ⟨gb390, 1, none⟩ = some (.slice Ao13 t384.length co13) := (blk_cell BK390.out 1).trans rfl
                have hfz82_0 := blk_frozen BK390.out 0
                have hfz82_1 := blk_frozen BK390.out 1
                have hnb83 := NB423_399.out
                have hnc83 := NB399_423.out
                have hcz84_0 : wr.cell? ⟨gb423, 0, none⟩ = some (.slice Ao53 t417.length co53) := (blk_cell BK423.out 0).trans rfl
                have hcz84_1 : wr.cell? ⟨gb423, 1, none⟩ = some (.slice Ao57 t420.length co57) := (blk_cell BK423.out 1).trans rfl
                have hfz84_0 := blk_frozen BK423.out 0
                have hfz84_1 := blk_frozen BK423.out 1
                have q85 : ((wrap64 ((wrap64 (x7_3 + 1)) * 64)) : Int) ≤ ((t417.length : Int) : Int) := of_decide_eq_true (by first | (with_reducible assumption) | assumption)
                obtain ⟨i085, hi085, _, hsz85, _⟩ := info_parts info5
                have hroom85 : t417.length ≤ co53 := (Kd.Q_reads' HO_424000.out).2.1
                have hC85 : Kd.C (Kd.int .u8) _ Ao53 t417.length t417 := (Kd.Q_reads' HO_424000.out).2.2
                have ql85 : ((ji72) : Int) ≤ ((wrap64 ((wrap64 (x7_3 + 1)) * 64)) : Int) := of_decide_eq_true (by first | (with_reducible assumption) | assumption)
                have q085 : (0 : Int) ≤ ((ji72) : Int) := of_decide_eq_true (by first | (with_reducible assumption) | assumption)
                have hcut85 := cut_mid (P := Try.prog) 22 5 .i64 .i64 Try.underlying22 hi085 1 hsz85 Ao53 t417.length co53 (ji72) (wrap64 ((wrap64 (x7_3 + 1)) * 64)) q085 ql85 q85 hroom85
                have hr85 := Kd.C_mid (lo := ((ji72) : Int).toNat) (hi := ((wrap64 ((wrap64 (x7_3 + 1)) * 64)) : Int).toNat) (c := co53) hC85 (by omega) (by omega) hroom85
                obtain ⟨A85, hA85⟩ : ∃ A1, A1 = (if co53 = ((ji72) : Int).toNat then Ao53 else (Ao53 : Option Addr).map (·.add (((ji72) : Int).toNat * 1))) := ⟨_, rfl⟩
                obtain ⟨c85, hc85⟩ : ∃ c1, c1 = co53 - ((ji72) : Int).toNat := ⟨_, rfl⟩
                have hy85 : y424.length = ((wrap64 ((wrap64 (x7_3 + 1)) * 64)) : Int).toNat - ((ji72) : Int).toNat := (by rw [Ny424.out, List.length_drop, List.length_take] <;> omega)
                rw [show ((t417).take ((wrap64 ((wrap64 (x7_3 + 1)) * 64)) : Int).toNat).drop ((ji72) : Int).toNat = y424 from Ny424.out.symm] at hr85
                replace hr85 : Kd.C (Kd.int .u8) _ A85 y424.length y424 := (by rw [hA85]; exact hr85)
                rw [← hy85, ← hA85, ← hc85] at hcut85
                have HR427 := Ak hr85
                have HC427 := Ak (show y424.length ≤ c85 from by rw [hy85, hc85]; exact Nat.sub_le_sub_right (Nat.le_trans (by omega) hroom85) _)
                clear hr85 hC85 hroom85 hi085 hsz85 hc85
                have KY85 := Ak hy85
                have KA85 := Ak hA85
                clear hy85 hA85
                have KL85 := Ak (show ((wrap64 ((wrap64 (x7_3 + 1)) * 64)) : Int).toNat ≤ t417.length from by omega)
                have KM85 := Ak (show ((ji72) : Int).toNat ≤ ((wrap64 ((wrap64 (x7_3 + 1)) * 64)) : Int).toNat from by omega)
                replace q85 := eq_true q85
                have q86 : ((wrap64 ((wrap64 (x7_3 + 1)) * 64)) : Int) ≤ ((t381.length : Int) : Int) := of_decide_eq_true (by first | (with_reducible assumption) | assumption)
                obtain ⟨i086, hi086, _, hsz86, _⟩ := info_parts info5
                have hroom86 : t381.length ≤ co11 := (Kd.Q_reads' HO_391000.out).2.1
                have hC86 : Kd.C (Kd.int .u8) _ Ao11 t381.length t381 := (Kd.Q_reads' HO_391000.out).2.2
                have ql86 : ((ji72) : Int) ≤ ((wrap64 ((wrap64 (x7_3 + 1)) * 64)) : Int) := of_decide_eq_true (by first | (with_reducible assumption) | assumption)
                have q086 : (0 : Int) ≤ ((ji72) : Int) := of_decide_eq_true (by first | (with_reducible assumption) | assumption)
                have hcut86 := cut_mid (P := Try.prog) 22 5 .i64 .i64 Try.underlying22 hi086 1 hsz86 Ao11 t381.length co11 (ji72) (wrap64 ((wrap64 (x7_3 + 1)) * 64)) q086 ql86 q86 hroom86
                have hr86 := Kd.C_mid (lo := ((ji72) : Int).toNat) (hi := ((wrap64 ((wrap64 (x7_3 + 1)) * 64)) : Int).toNat) (c := co11) hC86 (by omega) (by omega) hroom86
                obtain ⟨A86, hA86⟩ : ∃ A1, A1 = (if co11 = ((ji72) : Int).toNat then Ao11 else (Ao11 : Option Addr).map (·.add (((ji72) : Int).toNat * 1))) := ⟨_, rfl⟩
                obtain ⟨c86, hc86⟩ : ∃ c1, c1 = co11 - ((ji72) : Int).toNat := ⟨_, rfl⟩
                have hy86 : y428.length = ((wrap64 ((wrap64 (x7_3 + 1)) * 64)) : Int).toNat - ((ji72) : Int).toNat := (by rw [Ny428.out, List.length_drop, List.length_take] <;> omega)
                rw [show ((t381).take ((wrap64 ((wrap64 (x7_3 + 1)) * 64)) : Int).toNat).drop ((ji72) : Int).toNat = y428 from Ny428.out.symm] at hr86
                replace hr86 : Kd.C (Kd.int .u8) _ A86 y428.length y428 := (by rw [hA86]; exact hr86)
                rw [← hy86, ← hA86, ← hc86] at hcut86
                have HR431 := Ak hr86
                have HC431 := Ak (show y428.length ≤ c86 from by rw [hy86, hc86]; exact Nat.sub_le_sub_right (Nat.le_trans (by omega) hroom86) _)
                clear hr86 hC86 hroom86 hi086 hsz86 hc86
                have KY86 := Ak hy86
                have KA86 := Ak hA86
                clear hy86 hA86
                have KL86 := Ak (show ((wrap64 ((wrap64 (x7_3 + 1)) * 64)) : Int).toNat ≤ t381.length from by omega)
                have KM86 := Ak (show ((ji72) : Int).toNat ≤ ((wrap64 ((wrap64 (x7_3 + 1)) * 64)) : Int).toNat from by omega)
                replace q86 := eq_true q86
                go_wp2_with (first | ((with_reducible refine gate_callee (f := 16) rfl ?_); refine goesL_ (some 96) rfl rfl Try.func16 (by kernel_rfl) rfl #[.slice A85 y424.length c85, .slice A86 y428.length c86] rfl gm ?_; (with_reducible refine (laws_sameBytes.calls k3 _ _ y424 _ _ y428 t432 _ ?side1 ?side2 ?side3 ?side4 A79.out).mono ?_); (case side1 => repeat (first | exact (by repeat (first | (with_reducible exact HR427.out) | (with_reducible refine Kd.C_alloc ?_ _) | (with_reducible refine Kd.C_drewN ?_ _) | (with_reducible refine Kd.C_drew ?_) | exact HR427.out)) | (with_reducible refine Kd.C_alloc ?_ _) | (with_reducible refine Kd.C_drewN ?_ _) | (with_reducible refine Kd.C_drew ?_))); (case side2 => exact HC427.out); (case side3 => repeat (first | exact (by repeat (first | (with_reducible exact HR431.out) | (with_reducible refine Kd.C_alloc ?_ _) | (with_reducible refine Kd.C_drewN ?_ _) | (with_reducible refine Kd.C_drew ?_) | exact HR431.out)) | (with_reducible refine Kd.C_alloc ?_ _) | (with_reducible refine Kd.C_drewN ?_ _) | (with_reducible refine Kd.C_drew ?_))); (case side4 => exact HC431.out); rintro e w' ⟨rfl, ⟨nd, rfl⟩⟩; refine ⟨_, rfl, ?_⟩))
                go_loopg [9, 10] k3 (fun kq v9 v10 w' => ∃ (x9_4 : Bool) (x10_4 : Int), v9 = .bool x9_4 ∧ v10 = .int .i64 x10_4 ∧ Aside0 (laws_FnDisk.l1 kq x7_3 y424 x9_4 x10_4 t381 t384 t393 t396 t417 t420 = some r) ∧ Aside0 (kq ≤ k3) ∧ Aside0 (Kd.Q (Kd.int .u8) 5 w' w.heap.size (fun k_ => some k_ ≠ ((.slice Ao18 t393.length co18) : Value).ownBlock ∧ some k_ ≠ ((.slice Ao53 t417.length co53) : Value).ownBlock) (.slice Ao11 t381.length co11) t381) ∧ Aside0 (Kd.S k34 34 w' w.heap.size (fun k_ => some k_ ≠ ((.slice Ao11 t381.length co11) : Value).ownBlock ∧ some k_ ≠ ((.slice Ao18 t393.length co18) : Value).ownBlock ∧ some k_ ≠ ((.slice Ao21 t396.length co21) : Value).ownBlock ∧ some k_ ≠ ((.slice Ao53 t417.length co53) : Value).ownBlock ∧ some k_ ≠ ((.slice Ao57 t420.length co57) : Value).ownBlock) (.slice Ao13 t384.length co13) t384) ∧ Aside0 (Kd.Q (Kd.int .u8) 5 w' w.heap.size (fun k_ => some k_ ≠ ((.slice Ao11 t381.length co11) : Value).ownBlock ∧ some k_ ≠ ((.slice Ao53 t417.length co53) : Value).ownBlock) (.slice Ao18 t393.length co18) t393) ∧ Aside0 (Kd.S k34 34 w' w.heap.size (fun k_ => some k_ ≠ ((.slice Ao11 t381.length co11) : Value).ownBlock ∧ some k_ ≠ ((.slice Ao13 t384.length co13) : Value).ownBlock ∧ some k_ ≠ ((.slice Ao18 t393.length co18) : Value).ownBlock ∧ some k_ ≠ ((.slice Ao53 t417.length co53) : Value).ownBlock ∧ some k_ ≠ ((.slice Ao57 t420.length co57) : Value).ownBlock) (.slice Ao21 t396.length co21) t396) ∧ Aside0 (Kd.Q (Kd.int .u8) 5 w' w.heap.size (fun k_ => some k_ ≠ ((.slice Ao11 t381.length co11) : Value).ownBlock ∧ some k_ ≠ ((.slice Ao18 t393.length co18) : Value).ownBlock) (.slice Ao53 t417.length co53) t417) ∧ Aside0 (Kd.S k34 34 w' w.heap.size (fun k_ => some k_ ≠ ((.slice Ao11 t381.length co11) : Value).ownBlock ∧ some k_ ≠ ((.slice Ao13 t384.length co13) : Value).ownBlock ∧ some k_ ≠ ((.slice Ao18 t393.length co18) : Value).ownBlock ∧ some k_ ≠ ((.slice Ao21 t396.length co21) : Value).ownBlock ∧ some k_ ≠ ((.slice Ao53 t417.length co53) : Value).ownBlock) (.slice Ao57 t420.length co57) t420) ∧ Aside0 (w'.heap[gb390]? = some (.cells #[(.slice Ao11 t381.length co11), (.slice Ao13 t384.length co13)] 26 (0, 0))) ∧ Aside0 (w'.heap[gb399]? = some (.cells #[(.slice Ao18 t393.length co18), (.slice Ao21 t396.length co21)] 26 (0, 0))) ∧ Aside0 (w'.heap[gb423]? = some (.cells #[(.slice Ao53 t417.length co53), (.slice Ao57 t420.length co57)] 26 (0, 0))) ∧ Aside0 (Kd.C (Kd.int .u8) w' A85 y424.length y424) ∧ Aside0 (Kd.C (Kd.int .u8) w' A86 y428.length y428) ∧ Aside0 (Below w.heap.size w w'))
                case atStart => exact ⟨(t432), (0), (by first | rfl | (simp; done) | (simp [*]; done)), (by first | rfl | (simp; done) | (simp [*]; done)), H', ⟨Nat.le_refl _⟩, ⟨qq HO_391000.out⟩, ⟨sq HO_391001.out⟩, ⟨qq HO_400000.out⟩, ⟨sq HO_400001.out⟩, ⟨qq HO_424000.out⟩, ⟨sq HO_424001.out⟩, ⟨bq BK390.out⟩, ⟨bq BK399.out⟩, ⟨bq BK423.out⟩, ⟨by repeat (first | (with_reducible exact HR427.out) | (with_reducible refine Kd.C_alloc ?_ _) | (with_reducible refine Kd.C_drewN ?_ _) | (with_reducible refine Kd.C_drew ?_) | exact HR427.out)⟩, ⟨by repeat (first | (with_reducible exact HR431.out) | (with_reducible refine Kd.C_alloc ?_ _) | (with_reducible refine Kd.C_drewN ?_ _) | (with_reducible refine Kd.C_drew ?_) | exact HR431.out)⟩, ⟨bw3 HB.out GE390.out GE399.out GE423.out⟩⟩
                case round =>
                 clear H'
                 try clear q8
                 try clear c22b0
                 try clear c22b1
                 try clear c22b2
                 try clear c58b0
                 try clear c58b1
                 try clear c58b2
                 try clear c71b0
                 try clear c73b0
                 try clear c73b1
                 try clear c74b0
                 try clear c74b1
                 try clear c75b0
                 try clear c75b1
                 try clear c76b0
                 try clear c77b0
                 try clear c78b0
                 try clear c78b1
                 try clear q85
                 try clear q86
                 try clear q085
                 try clear q086
                 try clear q85
                 try clear q86
                 obtain ⟨x9_4, x10_4, rfl, rfl, HA, HK4, HO_391000, HO_391001, HO_400000, HO_400001, HO_424000, HO_424001, BK390, BK399, BK423, HR427, HR431, HB⟩ := hrel
                 cases gk with
                 | zero => exact absurd HA.out (by simp [laws_FnDisk.l1])
                 | succ k4 =>
                  have H := HA.out
                  clear HA
                  simp only [laws_FnDisk.l1] at H
                  by_cases c87 : x10_4 < (t384.length : Int)
                  ·rw [if_pos c87] at H
                   have c87b0 : decide (x10_4 < (t384.length : Int)) = true := decide_eq_true c87
                   clear c87
                   by_cases c88 : x9_4 = true
                   ·subst c88
                    have H1 : (laws_FnDisk.l1 k4 x7_3 y424 true (wrap64 (x10_4 + 1)) t381 t384 t393 t396 t417 t420) = some r := by rw [if_pos rfl] at H; exact H
                    clear H
                    have H := H1
                    clear H1
                    have H' := Ak H
                    clear H
                    have hnb89 := NB390_399.out
                    have hnc89 := NB399_390.out
                    have hnb90 := NB390_423.out
                    have hnc90 := NB423_390.out
                    have hcz91_0 : wr.cell? ⟨gb390, 0, none⟩ = some (.slice Ao11 t381.length co11) := (blk_cell BK390.out 0).trans rfl
                    have hcz91_1 : wr.cell? ⟨gb390, 1, none⟩ = some (.slice Ao13 t384.length co13) := (blk_cell BK390.out 1).trans rfl
                    have hfz91_0 := blk_frozen BK390.out 0
                    have hfz91_1 := blk_frozen BK390.out 1
                    go_wp2
                    go_roundg k4
                    case measure => have := HJ7.out; have := HJ46.out; have := HK3.out; have := HK4.out; omega
                    case rel => exact ⟨(true), (wrap64 (x10_4 + 1)), (by first | rfl | (simp; done) | (simp [*]; done)), (by first | rfl | (simp; done) | (simp [*]; done)), H', ⟨by have := HJ7.out; have := HJ46.out; have := HK3.out; have := HK4.out; omega⟩, ⟨qq HO_391000.out⟩, ⟨sq HO_391001.out⟩, ⟨qq HO_400000.out⟩, ⟨sq HO_400001.out⟩, ⟨qq HO_424000.out⟩, ⟨sq HO_424001.out⟩, ⟨bq BK390.out⟩, ⟨bq BK399.out⟩, ⟨bq BK423.out⟩, ⟨by repeat (first | (with_reducible exact HR427.out) | (with_reducible refine Kd.C_alloc ?_ _) | (with_reducible refine Kd.C_drewN ?_ _) | (with_reducible refine Kd.C_drew ?_) | exact HR427.out)⟩, ⟨by repeat (first | (with_reducible exact HR431.out) | (with_reducible refine Kd.C_alloc ?_ _) | (with_reducible refine Kd.C_drewN ?_ _) | (with_reducible refine Kd.C_drew ?_) | exact HR431.out)⟩, ⟨bw3 HB.out GE390.out GE399.out GE423.out⟩⟩
                   ·replace c88 := Bool.eq_false_iff.mpr c88
                    subst c88
                    have H1 : (if 0 ≤ x10_4 then (if ((rd_T34 t384 x10_4).f0) = x7_3 then ((laws_sameBytes.f k4 y424 ((rd_T34 t384 x10_4).f1)).bind fun t435 => (laws_FnDisk.l1 k4 x7_3 y424 t435 (wrap64 (x10_4 + 1)) t381 t384 t393 t396 t417 t420)) else (laws_FnDisk.l1 k4 x7_3 y424 false (wrap64 (x10_4 + 1)) t381 t384 t393 t396 t417 t420)) else (none)) = some r := by rw [if_neg (show ¬ (false = true) by decide)] at H; exact H
                    clear H
                    have H := H1
                    clear H1
                    by_cases c92 : 0 ≤ x10_4
                    ·rw [if_pos c92] at H
                     have c92b0 : decide (0 ≤ x10_4) = true := decide_eq_true c92
                     clear c92
                     by_cases c93 : ((rd_T34 t384 x10_4).f0) = x7_3
                     ·rw [if_pos c93] at H
                      have c93b0 : (((rd_T34 t384 x10_4).f0) == x7_3) = true := beq_iff_eq.mpr c93
                      have c93b1 : (((rd_T34 t384 x10_4).f0) != x7_3) = false := bne_eq_false_iff_eq.mpr c93
                      clear c93
                      replace H := Option.bind_eq_some_iff.mp H
                      obtain ⟨t435, A940, H⟩ := H
                      replace H : (laws_FnDisk.l1 k4 x7_3 y424 t435 (wrap64 (x10_4 + 1)) t381 t384 t393 t396 t417 t420) = some r := H
                      have A94 := Ak A940
                      clear A940
                      have H' := Ak H
                      clear H
                      have hnb95 := NB390_399.out
                      have hnc95 := NB399_390.out
                      have hnb96 := NB390_423.out
                      have hnc96 := NB423_390.out
                      have hcz97_0 : wr.cell? ⟨gb390, 0, none⟩ = some (.slice Ao11 t381.length co11) := (blk_cell BK390.out 0).trans rfl
                      have hcz97_1 : wr.cell? ⟨gb390, 1, none⟩ = some (.slice Ao13 t384.length co13) := (blk_cell BK390.out 1).trans rfl
                      have hfz97_0 := blk_frozen BK390.out 0
                      have hfz97_1 := blk_frozen BK390.out 1
                      have p433 : 0 ≤ (x10_4 : Int) := of_decide_eq_true (by first | (with_reducible assumption) | assumption)
                      have q433 : x10_4 < (t384.length : Int) := of_decide_eq_true (by first | (with_reducible assumption) | assumption)
                      obtain ⟨ad433, A433_1, c433_1, e433, hx433_0, hx433_1, hl433_1, hi433_1⟩ := at_T34 (Kd.S_reads' HO_391001.out).2.2 x10_4 p433 q433
                      cases e433
                      obtain ⟨ce433, hce433, hMe433, hcc433⟩ := Kd.S_get HO_391001.out z34 x10_4 p433 (by first | exact q433 | exact of_decide_eq_true (by first | (with_reducible assumption) | assumption) | (have e_ := (Kd.S_reads' HO_391001.out).1; omega))
                      obtain ⟨ve433_1, rfl, ge433_1⟩ := k34_openM hMe433
                      have hv433_1 := hcc433 1 _ rfl
                      rw [add_field _ _ 1 (by omega)] at hv433_1
                      replace hv433_1 := Option.some.inj (hv433_1.symm.trans hx433_1)
                      rw [hv433_1] at ge433_1
                      have HL433_1 := Ak (show Kd.R (Kd.int .u8) 5 _ _ _ _ ((rd_T34 t384 x10_4).f1) from ge433_1)
                      clear hv433_1 ge433_1
                      clear hcc433 hce433
                      have HR433_1 := Ak hi433_1
                      have HC433_1 := Ak hl433_1
                      clear hi433_1 hl433_1
                      replace p433 := eq_true p433
                      replace q433 := eq_true q433
                      have p434 : 0 ≤ (x10_4 : Int) := of_decide_eq_true (by first | (with_reducible assumption) | assumption)
                      have q434 : x10_4 < (t384.length : Int) := of_decide_eq_true (by first | (with_reducible assumption) | assumption)
                      obtain ⟨ad434, A434_1, c434_1, e434, hx434_0, hx434_1, hl434_1, hi434_1⟩ := at_T34 (Kd.S_reads' HO_391001.out).2.2 x10_4 p434 q434
                      obtain rfl : ad433 = ad434 := (by injection e434)
                      obtain ⟨ce434, hce434, hMe434, hcc434⟩ := Kd.S_get HO_391001.out z34 x10_4 p434 (by first | exact q434 | exact of_decide_eq_true (by first | (with_reducible assumption) | assumption) | (have e_ := (Kd.S_reads' HO_391001.out).1; omega))
                      obtain ⟨ve434_1, rfl, ge434_1⟩ := k34_openM hMe434
                      have hv434_1 := hcc434 1 _ rfl
                      rw [add_field _ _ 1 (by omega)] at hv434_1
                      replace hv434_1 := Option.some.inj (hv434_1.symm.trans hx434_1)
                      rw [hv434_1] at ge434_1
                      have HL434_1 := Ak (show Kd.R (Kd.int .u8) 5 _ _ _ _ ((rd_T34 t384 x10_4).f1) from ge434_1)
                      clear hv434_1 ge434_1
                      clear hcc434 hce434
                      have HR434_1 := Ak hi434_1
                      have HC434_1 := Ak hl434_1
                      clear hi434_1 hl434_1
                      replace p434 := eq_true p434
                      replace q434 := eq_true q434
                      have ea_ := Option.some.inj (hx433_1.symm.trans hx434_1)
                      injection ea_ with ea_ en_ ec_
                      subst ea_
                      subst ec_
                      clear en_
                      go_wp2_with (first | (go_at_call 16; (with_reducible refine (laws_sameBytes.calls k4 _ _ y424 _ _ ((rd_T34 t384 x10_4).f1) t435 _ ?side1 ?side2 ?side3 ?side4 A94.out).mono ?_); (case side1 => repeat (first | exact HR427.out | exact (Kd.C_below HR427.out HB.out) | (with_reducible refine Kd.C_alloc ?_ _) | (with_reducible refine Kd.C_drewN ?_ _) | (with_reducible refine Kd.C_drew ?_))); (case side2 => exact HC427.out); (case side3 => repeat (first | exact (by repeat (first | (with_reducible exact HR434_1.out) | (with_reducible refine Kd.C_alloc ?_ _) | (with_reducible refine Kd.C_drewN ?_ _) | (with_reducible refine Kd.C_drew ?_) | exact HR434_1.out)) | (with_reducible refine Kd.C_alloc ?_ _) | (with_reducible refine Kd.C_drewN ?_ _) | (with_reducible refine Kd.C_drew ?_))); (case side4 => exact HC434_1.out); rintro e w' ⟨rfl, ⟨nd, rfl⟩⟩))
                      go_roundg k4
                      case measure => have := HJ7.out; have := HJ46.out; have := HK3.out; have := HK4.out; omega
                      case rel => exact ⟨(t435), (wrap64 (x10_4 + 1)), (by first | rfl | (simp; done) | (simp [*]; done)), (by first | rfl | (simp; done) | (simp [*]; done)), H', ⟨by have := HJ7.out; have := HJ46.out; have := HK3.out; have := HK4.out; omega⟩, ⟨qq HO_391000.out⟩, ⟨sq HO_391001.out⟩, ⟨qq HO_400000.out⟩, ⟨sq HO_400001.out⟩, ⟨qq HO_424000.out⟩, ⟨sq HO_424001.out⟩, ⟨bq BK390.out⟩, ⟨bq BK399.out⟩, ⟨bq BK423.out⟩, ⟨by repeat (first | (with_reducible exact HR427.out) | (with_reducible refine Kd.C_alloc ?_ _) | (with_reducible refine Kd.C_drewN ?_ _) | (with_reducible refine Kd.C_drew ?_) | exact HR427.out)⟩, ⟨by repeat (first | (with_reducible exact HR431.out) | (with_reducible refine Kd.C_alloc ?_ _) | (with_reducible refine Kd.C_drewN ?_ _) | (with_reducible refine Kd.C_drew ?_) | exact HR431.out)⟩, ⟨bw3 HB.out GE390.out GE399.out GE423.out⟩⟩
                     ·rw [if_neg c93] at H
                      have c93b0 : (((rd_T34 t384 x10_4).f0) == x7_3) = false := beq_eq_false_iff_ne.mpr c93
                      have c93b1 : (((rd_T34 t384 x10_4).f0) != x7_3) = true := bne_iff_ne.mpr c93
                      have H' := Ak H
                      clear H
                      have hnb98 := NB390_399.out
                      have hnc98 := NB399_390.out
                      have hnb99 := NB390_423.out
                      have hnc99 := NB423_390.out
                      have hcz100_0 : wr.cell? ⟨gb390, 0, none⟩ = some (.slice Ao11 t381.length co11) := (blk_cell BK390.out 0).trans rfl
                      have hcz100_1 : wr.cell? ⟨gb390, 1, none⟩ = some (.slice Ao13 t384.length co13) := (blk_cell BK390.out 1).trans rfl
                      have hfz100_0 := blk_frozen BK390.out 0
                      have hfz100_1 := blk_frozen BK390.out 1
                      have p433 : 0 ≤ (x10_4 : Int) := of_decide_eq_true (by first | (with_reducible assumption) | assumption)
                      have q433 : x10_4 < (t384.length : Int) := of_decide_eq_true (by first | (with_reducible assumption) | assumption)
                      obtain ⟨ad433, A433_1, c433_1, e433, hx433_0, hx433_1, hl433_1, hi433_1⟩ := at_T34 (Kd.S_reads' HO_391001.out).2.2 x10_4 p433 q433
                      cases e433
                      obtain ⟨ce433, hce433, hMe433, hcc433⟩ := Kd.S_get HO_391001.out z34 x10_4 p433 (by first | exact q433 | exact of_decide_eq_true (by first | (with_reducible assumption) | assumption) | (have e_ := (Kd.S_reads' HO_391001.out).1; omega))
                      obtain ⟨ve433_1, rfl, ge433_1⟩ := k34_openM hMe433
                      have hv433_1 := hcc433 1 _ rfl
                      rw [add_field _ _ 1 (by omega)] at hv433_1
                      replace hv433_1 := Option.some.inj (hv433_1.symm.trans hx433_1)
                      rw [hv433_1] at ge433_1
                      have HL433_1 := Ak (show Kd.R (Kd.int .u8) 5 _ _ _ _ ((rd_T34 t384 x10_4).f1) from ge433_1)
                      clear hv433_1 ge433_1
                      clear hcc433 hce433
                      have HR433_1 := Ak hi433_1
                      have HC433_1 := Ak hl433_1
                      clear hi433_1 hl433_1
                      replace p433 := eq_true p433
                      replace q433 := eq_true q433
                      go_wp2
                      go_roundg k4
                      case measure => have := HJ7.out; have := HJ46.out; have := HK3.out; have := HK4.out; omega
                      case rel => exact ⟨(false), (wrap64 (x10_4 + 1)), (by first | rfl | (simp; done) | (simp [*]; done)), (by first | rfl | (simp; done) | (simp [*]; done)), H', ⟨by have := HJ7.out; have := HJ46.out; have := HK3.out; have := HK4.out; omega⟩, ⟨qq HO_391000.out⟩, ⟨sq HO_391001.out⟩, ⟨qq HO_400000.out⟩, ⟨sq HO_400001.out⟩, ⟨qq HO_424000.out⟩, ⟨sq HO_424001.out⟩, ⟨bq BK390.out⟩, ⟨bq BK399.out⟩, ⟨bq BK423.out⟩, ⟨by repeat (first | (with_reducible exact HR427.out) | (with_reducible refine Kd.C_alloc ?_ _) | (with_reducible refine Kd.C_drewN ?_ _) | (with_reducible refine Kd.C_drew ?_) | exact HR427.out)⟩, ⟨by repeat (first | (with_reducible exact HR431.out) | (with_reducible refine Kd.C_alloc ?_ _) | (with_reducible refine Kd.C_drewN ?_ _) | (with_reducible refine Kd.C_drew ?_) | exact HR431.out)⟩, ⟨bw3 HB.out GE390.out GE399.out GE423.out⟩⟩
                    ·rw [if_neg c92] at H
                     exact absurd H (by simp)
                  ·rw [if_neg c87] at H
                   have c87b0 : decide (x10_4 < (t384.length : Int)) = false := decide_eq_false c87
                   clear c87
                   replace H := Option.bind_eq_some_iff.mp H
                   obtain ⟨⟨t436, t439⟩, A1010, H⟩ := H
                   replace H : (if x9_4 = true then (if t439 = true then (if 0 ≤ (wrap64 (x7_3 * 64)) then (if (wrap64 (x7_3 * 64)) ≤ (wrap64 ((wrap64 (x7_3 + 1)) * 64)) then (if (wrap64 ((wrap64 (x7_3 + 1)) * 64)) ≤ (t393.length : Int) then ((laws_sameBytes.f k4 t436 ((t393.take ((wrap64 ((wrap64 (x7_3 + 1)) * 64)) : Int).toNat).drop ((wrap64 (x7_3 * 64)) : Int).toNat)).bind fun t444 => (if t444 = true then (laws_FnDisk.l0 k4 (wrap64 (x7_3 + 1)) t381 t384 t393 t396 t417 t420) else (some false))) else (none)) else (none)) else (none)) else (some false)) else (some false)) = some r := H
                   have A101 := Ak A1010
                   clear A1010
                   by_cases c102 : x9_4 = true
                   ·subst c102
                    have H1 : (if t439 = true then (if 0 ≤ (wrap64 (x7_3 * 64)) then (if (wrap64 (x7_3 * 64)) ≤ (wrap64 ((wrap64 (x7_3 + 1)) * 64)) then (if (wrap64 ((wrap64 (x7_3 + 1)) * 64)) ≤ (t393.length : Int) then ((laws_sameBytes.f k4 t436 ((t393.take ((wrap64 ((wrap64 (x7_3 + 1)) * 64)) : Int).toNat).drop ((wrap64 (x7_3 * 64)) : Int).toNat)).bind fun t444 => (if t444 = true then (laws_FnDisk.l0 k4 (wrap64 (x7_3 + 1)) t381 t384 t393 t396 t417 t420) else (some false))) else (none)) else (none)) else (none)) else (some false)) = some r := by rw [if_pos rfl] at H; exact H
                    clear H
                    have H := H1
                    clear H1
                    by_cases c103 : t439 = true
                    ·subst c103
                     have H1 : (if 0 ≤ (wrap64 (x7_3 * 64)) then (if (wrap64 (x7_3 * 64)) ≤ (wrap64 ((wrap64 (x7_3 + 1)) * 64)) then (if (wrap64 ((wrap64 (x7_3 + 1)) * 64)) ≤ (t393.length : Int) then ((laws_sameBytes.f k4 t436 ((t393.take ((wrap64 ((wrap64 (x7_3 + 1)) * 64)) : Int).toNat).drop ((wrap64 (x7_3 * 64)) : Int).toNat)).bind fun t444 => (if t444 = true then (laws_FnDisk.l0 k4 (wrap64 (x7_3 + 1)) t381 t384 t393 t396 t417 t420) else (some false))) else (none)) else (none)) else (none)) = some r := by rw [if_pos rfl] at H; exact H
                     clear H
                     have H := H1
                     clear H1
                     obtain ⟨ji104, hji104⟩ : ∃ j_ : Int, (wrap64 (x7_3 * 64)) = j_ := ⟨_, rfl⟩
                     replace H : (if 0 ≤ (ji104) then (if (ji104) ≤ (wrap64 ((wrap64 (x7_3 + 1)) * 64)) then (if (wrap64 ((wrap64 (x7_3 + 1)) * 64)) ≤ (t393.length : Int) then ((laws_sameBytes.f k4 t436 ((t393.take ((wrap64 ((wrap64 (x7_3 + 1)) * 64)) : Int).toNat).drop ((ji104) : Int).toNat)).bind fun t444 => (if t444 = true then (laws_FnDisk.l0 k4 (wrap64 (x7_3 + 1)) t381 t384 t393 t396 t417 t420) else (some false))) else (none)) else (none)) else (none)) = some r := by first | (rw [hji104] at H; exact H) | (simp only [hji104] at H ⊢; exact H)
                     (try rw [hji104] at A101)
                     have hji104w : (IntKind.i64.wrap (x7_3 * 64)) = ji104 := (i64_w _).trans hji104
                     (try clear hji72w)
                     (try clear hji72)
                     by_cases c105 : 0 ≤ (ji104)
                     ·rw [if_pos c105] at H
                      have c105b0 := eq_true c105
                      have c105b1 : decide (0 ≤ (ji104)) = true := decide_eq_true c105
                      clear c105
                      by_cases c106 : (ji104) ≤ (wrap64 ((wrap64 (x7_3 + 1)) * 64))
                      ·rw [if_pos c106] at H
                       have c106b0 := eq_true c106
                       have c106b1 : decide ((ji104) ≤ (wrap64 ((wrap64 (x7_3 + 1)) * 64))) = true := decide_eq_true c106
                       by_cases c107 : (wrap64 ((wrap64 (x7_3 + 1)) * 64)) ≤ (t393.length : Int)
                       ·rw [if_pos c107] at H
                        have c107b0 := eq_true c107
                        have c107b1 : decide ((wrap64 ((wrap64 (x7_3 + 1)) * 64)) ≤ (t393.length : Int)) = true := decide_eq_true c107
                        obtain ⟨y440, hy440⟩ : ∃ y_ : List Int, y_ = ((t393.take ((wrap64 ((wrap64 (x7_3 + 1)) * 64)) : Int).toNat).drop ((ji104) : Int).toNat) := ⟨_, rfl⟩
                        replace H : ((laws_sameBytes.f k4 t436 y440).bind fun t444 => (if t444 = true then (laws_FnDisk.l0 k4 (wrap64 (x7_3 + 1)) t381 t384 t393 t396 t417 t420) else (some false))) = some r := by first | (rw [hy440]; with_reducible exact H) | (have H2_ := (Option.bind_some _ _).symm.trans H; rw [hy440]; with_reducible exact H2_) | (have H2_ := (Option.bind_some _ _).symm.trans H; with_reducible exact H2_) | with_reducible exact H | (rw [hy440]; exact H) | exact H
                        have Ny440 := Ak hy440
                        clear hy440
                        replace H := Option.bind_eq_some_iff.mp H
                        obtain ⟨t444, A1080, H⟩ := H
                        replace H : (if t444 = true then (laws_FnDisk.l0 k4 (wrap64 (x7_3 + 1)) t381 t384 t393 t396 t417 t420) else (some false)) = some r := H
                        have A108 := Ak A1080
                        clear A1080
                        by_cases c109 : t444 = true
                        ·subst c109
                         have H1 : (laws_FnDisk.l0 k4 (wrap64 (x7_3 + 1)) t381 t384 t393 t396 t417 t420) = some r := by rw [if_pos rfl] at H; exact H
                         clear H
                         have H := H1
                         clear H1
                         have H' := Ak H
                         clear H
                         have hnb110 := NB390_399.out
                         have hnc110 := NB399_390.out
                         have hnb111 := NB390_423.out
                         have hnc111 := NB423_390.out
                         have hcz112_0 : wr.cell? ⟨gb390, 0, none⟩ = some (.slice Ao11 t381.length co11) := (blk_cell BK390.out 0).trans rfl
                         have hcz112_1 : wr.cell? ⟨gb390, 1, none⟩ = some (.slice Ao13 t384.length co13) := (blk_cell BK390.out 1).trans rfl
                         have hfz112_0 := blk_frozen BK390.out 0
                         have hfz112_1 := blk_frozen BK390.out 1
                         go_wp2_with (first | ((with_reducible refine gate_callee (f := 18) rfl ?_); refine goesL_ (some 128) rfl rfl Try.func18 (by kernel_rfl) rfl #[.agg #[.slice Ao11 t381.length co11, .slice Ao13 t384.length co13], .int .i64 x7_3] rfl gm ?_; (with_reducible refine (impl_ReadSector.calls k4 _ _ t381 _ _ t384 x7_3 t436 true _ ?side1 ?side2 ?side3 ?side4 A101.out).mono ?_); (case side1 => repeat (first | exact (Kd.Q_reads' HO_391000.out).2.2 | (with_reducible refine Kd.C_alloc ?_ _) | (with_reducible refine Kd.C_drewN ?_ _) | (with_reducible refine Kd.C_drew ?_))); (case side2 => exact (Kd.Q_reads' HO_391000.out).2.1); (case side3 => repeat (first | exact (Kd.S_reads' HO_391001.out).2.2 | (with_reducible refine Kd.C_alloc ?_ _) | (with_reducible refine Kd.C_drewN ?_ _) | (with_reducible refine Kd.C_drew ?_))); (case side4 => exact (Kd.S_reads' HO_391001.out).2.1); rintro e w113 ⟨v437, rfl, ho0, hb⟩; refine ⟨_, rfl, ?_⟩; have n0_ := Ak (Kd.Q_elder' (qq HO_391000.out) (Kd.R_base ho0) hb); have n1_ := Ak (Kd.S_elder' (sq HO_391001.out) (Kd.R_base ho0) hb); have n2_ := Ak (Kd.Q_elder' (qq HO_400000.out) (Kd.R_base ho0) hb); have n3_ := Ak (Kd.S_elder' (sq HO_400001.out) (Kd.R_base ho0) hb); have n4_ := Ak (Kd.Q_elder' (qq HO_424000.out) (Kd.R_base ho0) hb); have n5_ := Ak (Kd.S_elder' (sq HO_424001.out) (Kd.R_base ho0) hb); have n6_ := Ak (Kd.R_lower (Kd.R_new' (Kd.R_new' (Kd.R_new' ho0 (Kd.Q_lt (qq HO_391000.out))) (Kd.Q_lt (qq HO_400000.out))) (Kd.Q_lt (qq HO_424000.out))) (below_size (bw3 HB.out GE390.out GE399.out GE423.out))); have n7_ := Ak (blk_below (g := gb390) (o := .cells #[.slice Ao11 t381.length co11, .slice Ao13 t384.length co13] 26 (0, 0)) (bq BK390.out) hb); have n8_ := Ak (blk_below (g := gb399) (o := .cells #[.slice Ao18 t393.length co18, .slice Ao21 t396.length co21] 26 (0, 0)) (bq BK399.out) hb); have n9_ := Ak (blk_below (g := gb423) (o := .cells #[.slice Ao53 t417.length co53, .slice Ao57 t420.length co57] 26 (0, 0)) (bq BK423.out) hb); have n10_ := Ak (Kd.C_below (by repeat (first | (with_reducible exact HR427.out) | (with_reducible refine Kd.C_alloc ?_ _) | (with_reducible refine Kd.C_drewN ?_ _) | (with_reducible refine Kd.C_drew ?_) | exact HR427.out)) hb); have n11_ := Ak (Kd.C_below (by repeat (first | (with_reducible exact HR431.out) | (with_reducible refine Kd.C_alloc ?_ _) | (with_reducible refine Kd.C_drewN ?_ _) | (with_reducible refine Kd.C_drew ?_) | exact HR431.out)) hb); have n12_ := Ak (below_step (bw3 HB.out GE390.out GE399.out GE423.out) hb); clear HO_391000; clear HO_391001; clear HO_400000; clear HO_400001; clear HO_424000; clear HO_424001; clear BK390; clear BK399; clear BK423; clear HR427; clear HR431; clear HB; have HO_391000 := n0_; have HO_391001 := n1_; have HO_400000 := n2_; have HO_400001 := n3_; have HO_424000 := n4_; have HO_424001 := n5_; have HO438 := n6_; have BK390 := n7_; have BK399 := n8_; have BK423 := n9_; have HR427 := n10_; have HR431 := n11_; have HB := n12_; clear n0_ n1_ n2_ n3_ n4_ n5_ n6_ n7_ n8_ n9_ n10_ n11_ n12_; have hnb114 := NB399_423.out; have hnc114 := NB423_399.out; have hcz115_0 : w113.cell? ⟨gb399, 0, none⟩ = some (.slice Ao18 t393.length co18) := (blk_cell BK399.out 0).trans rfl; have hcz115_1 : w113.cell? ⟨gb399, 1, none⟩ = some (.slice Ao21 t396.length co21) := (blk_cell BK399.out 1).trans rfl; have hfz115_0 := blk_frozen BK399.out 0; have hfz115_1 := blk_frozen BK399.out 1; have q116 : ((wrap64 ((wrap64 (x7_3 + 1)) * 64)) : Int) ≤ ((t393.length : Int) : Int) := of_decide_eq_true (by first | (with_reducible assumption) | assumption); obtain ⟨i0116, hi0116, _, hsz116, _⟩ := info_parts info5; have hroom116 : t393.length ≤ co18 := (Kd.Q_reads' HO_400000.out).2.1; have hC116 : Kd.C (Kd.int .u8) _ Ao18 t393.length t393 := (Kd.Q_reads' HO_400000.out).2.2; have ql116 : ((ji104) : Int) ≤ ((wrap64 ((wrap64 (x7_3 + 1)) * 64)) : Int) := of_decide_eq_true (by first | (with_reducible assumption) | assumption); have q0116 : (0 : Int) ≤ ((ji104) : Int) := of_decide_eq_true (by first | (with_reducible assumption) | assumption); have hcut116 := cut_mid (P := Try.prog) 22 5 .i64 .i64 Try.underlying22 hi0116 1 hsz116 Ao18 t393.length co18 (ji104) (wrap64 ((wrap64 (x7_3 + 1)) * 64)) q0116 ql116 q116 hroom116; have hr116 := Kd.C_mid (lo := ((ji104) : Int).toNat) (hi := ((wrap64 ((wrap64 (x7_3 + 1)) * 64)) : Int).toNat) (c := co18) hC116 (by omega) (by omega) hroom116; obtain ⟨A116, hA116⟩ : ∃ A1, A1 = (if co18 = ((ji104) : Int).toNat then Ao18 else (Ao18 : Option Addr).map (·.add (((ji104) : Int).toNat * 1))) := ⟨_, rfl⟩; obtain ⟨c116, hc116⟩ : ∃ c1, c1 = co18 - ((ji104) : Int).toNat := ⟨_, rfl⟩; have hy116 : y440.length = ((wrap64 ((wrap64 (x7_3 + 1)) * 64)) : Int).toNat - ((ji104) : Int).toNat := (by rw [Ny440.out, List.length_drop, List.length_take] <;> omega); rw [show ((t393).take ((wrap64 ((wrap64 (x7_3 + 1)) * 64)) : Int).toNat).drop ((ji104) : Int).toNat = y440 from Ny440.out.symm] at hr116; replace hr116 : Kd.C (Kd.int .u8) _ A116 y440.length y440 := (by rw [hA116]; exact hr116); rw [← hy116, ← hA116, ← hc116] at hcut116; have HR443 := Ak hr116; have HC443 := Ak (show y440.length ≤ c116 from by rw [hy116, hc116]; exact Nat.sub_le_sub_right (Nat.le_trans (by omega) hroom116) _); clear hr116 hC116 hroom116 hi0116 hsz116 hc116; have KY116 := Ak hy116; have KA116 := Ak hA116; clear hy116 hA116; have KL116 := Ak (show ((wrap64 ((wrap64 (x7_3 + 1)) * 64)) : Int).toNat ≤ t393.length from by omega); have KM116 := Ak (show ((ji104) : Int).toNat ≤ ((wrap64 ((wrap64 (x7_3 + 1)) * 64)) : Int).toNat from by omega); replace q116 := eq_true q116; obtain ⟨Ao117, co117, eo117⟩ := Kd.R_slice HO438.out; subst eo117) | (go_at_call 16; (with_reducible refine (laws_sameBytes.calls k4 _ _ t436 _ _ y440 true _ ?side1 ?side2 ?side3 ?side4 A108.out).mono ?_); (case side1 => repeat (first | exact (Kd.R_reads' HO438.out).2.2 | (with_reducible refine Kd.C_alloc ?_ _) | (with_reducible refine Kd.C_drewN ?_ _) | (with_reducible refine Kd.C_drew ?_))); (case side2 => exact (Kd.R_reads' HO438.out).2.1); (case side3 => repeat (first | exact (by repeat (first | (with_reducible exact HR443.out) | (with_reducible refine Kd.C_alloc ?_ _) | (with_reducible refine Kd.C_drewN ?_ _) | (with_reducible refine Kd.C_drew ?_) | exact HR443.out)) | (with_reducible refine Kd.C_alloc ?_ _) | (with_reducible refine Kd.C_drewN ?_ _) | (with_reducible refine Kd.C_drew ?_))); (case side4 => exact HC443.out); rintro e w' ⟨rfl, ⟨nd, rfl⟩⟩))
                         go_roundg k4
                         case measure => have := HJ7.out; have := HJ46.out; have := HK3.out; have := HK4.out; omega
                         case rel => exact ⟨(wrap64 (x7_3 + 1)), (by first | rfl | (simp; done) | (simp [*]; done)), H', ⟨by have := HJ7.out; have := HJ46.out; have := HK3.out; have := HK4.out; omega⟩, ⟨by (with_reducible repeat (first | apply Kd.Q_alloc | apply Kd.Q_drewN | apply Kd.Q_drew)); exact Kd.Q_mono HO_391000.out (fun _ hk => ⟨hk.1.1, hk.1.2⟩)⟩, ⟨by (with_reducible repeat (first | apply Kd.S_alloc | apply Kd.S_drewN | apply Kd.S_drew)); exact Kd.S_mono HO_391001.out (fun _ hk => ⟨hk.1.1, ⟨hk.1.2.1, ⟨hk.1.2.2.1, ⟨hk.1.2.2.2.1, hk.1.2.2.2.2⟩⟩⟩⟩)⟩, ⟨by (with_reducible repeat (first | apply Kd.Q_alloc | apply Kd.Q_drewN | apply Kd.Q_drew)); exact Kd.Q_mono HO_400000.out (fun _ hk => ⟨hk.1.1, hk.1.2⟩)⟩, ⟨by (with_reducible repeat (first | apply Kd.S_alloc | apply Kd.S_drewN | apply Kd.S_drew)); exact Kd.S_mono HO_400001.out (fun _ hk => ⟨hk.1.1, ⟨hk.1.2.1, ⟨hk.1.2.2.1, ⟨hk.1.2.2.2.1, hk.1.2.2.2.2⟩⟩⟩⟩)⟩, ⟨by (with_reducible repeat (first | apply Kd.Q_alloc | apply Kd.Q_drewN | apply Kd.Q_drew)); exact Kd.Q_mono HO_424000.out (fun _ hk => ⟨hk.1.1, hk.1.2⟩)⟩, ⟨by (with_reducible repeat (first | apply Kd.S_alloc | apply Kd.S_drewN | apply Kd.S_drew)); exact Kd.S_mono HO_424001.out (fun _ hk => ⟨hk.1.1, ⟨hk.1.2.1, ⟨hk.1.2.2.1, ⟨hk.1.2.2.2.1, hk.1.2.2.2.2⟩⟩⟩⟩)⟩, ⟨bq BK390.out⟩, ⟨bq BK399.out⟩, ⟨bq BK423.out⟩, ⟨bw3 HB.out GE390.out GE399.out GE423.out⟩⟩
                        ·replace c109 := Bool.eq_false_iff.mpr c109
                         subst c109
                         have H1 : (some false) = some r := by rw [if_neg (show ¬ (false = true) by decide)] at H; exact H
                         clear H
                         have H := H1
                         clear H1
                         exact absurd ((Option.some.inj H).trans hrt) (by decide)
                       ·rw [if_neg c107] at H
                        exact absurd H (by simp)
                      ·rw [if_neg c106] at H
                       exact absurd H (by simp)
                     ·rw [if_neg c105] at H
                      exact absurd H (by simp)
                    ·replace c103 := Bool.eq_false_iff.mpr c103
                     subst c103
                     have H1 : (some false) = some r := by rw [if_neg (show ¬ (false = true) by decide)] at H; exact H
                     clear H
                     have H := H1
                     clear H1
                     exact absurd ((Option.some.inj H).trans hrt) (by decide)
                   ·replace c102 := Bool.eq_false_iff.mpr c102
                    subst c102
                    have H1 : (some false) = some r := by rw [if_neg (show ¬ (false = true) by decide)] at H; exact H
                    clear H
                    have H := H1
                    clear H1
                    exact absurd ((Option.some.inj H).trans hrt) (by decide)
               ·rw [if_neg c78] at H
                exact absurd H (by simp)
              ·rw [if_neg c75] at H
               exact absurd H (by simp)
             ·rw [if_neg c74] at H
              exact absurd H (by simp)
            ·rw [if_neg c73] at H
             exact absurd H (by simp)
           ·rw [if_neg c71] at H
            have c71b0 : decide (x7_3 < (wrap64 ((t381.length : Int) / 64))) = false := decide_eq_false c71
            clear c71
            obtain rfl := Option.some.inj H
            have hnb134 := NB390_399.out
            have hnc134 := NB399_390.out
            have hnb135 := NB390_423.out
            have hnc135 := NB423_390.out
            have hcz136_0 : wr.cell? ⟨gb390, 0, none⟩ = some (.slice Ao11 t381.length co11) := (blk_cell BK390.out 0).trans rfl
            have hcz136_1 : wr.cell? ⟨gb390, 1, none⟩ = some (.slice Ao13 t384.length co13) := (blk_cell BK390.out 1).trans rfl
            have hfz136_0 := blk_frozen BK390.out 0
            have hfz136_1 := blk_frozen BK390.out 1
            have hnb137 := NB423_399.out
            have hnc137 := NB399_423.out
            have hcz138_0 : wr.cell? ⟨gb423, 0, none⟩ = some (.slice Ao53 t417.length co53) := (blk_cell BK423.out 0).trans rfl
            have hcz138_1 : wr.cell? ⟨gb423, 1, none⟩ = some (.slice Ao57 t420.length co57) := (blk_cell BK423.out 1).trans rfl
            have hfz138_0 := blk_frozen BK423.out 0
            have hfz138_1 := blk_frozen BK423.out 1
            go_wp2
            go_ret
            exact ⟨by first | rfl | (simp [errW_none, errW_some] <;> rfl) | (simp [*, errW_none, errW_some] <;> rfl), bw3 HB.out GE390.out GE399.out GE423.out⟩
  ·replace c6 := Bool.eq_false_iff.mpr c6
   subst c6
   have H1 : ((impl_DiskOk.f k t381 t384).bind fun t392 => (some (!t392))) = some r := by rw [if_neg (show ¬ (false = true) by decide)] at H; exact H
   clear H
   have H := H1
   clear H1
   replace H := Option.bind_eq_some_iff.mp H
   obtain ⟨t392, A1390, H⟩ := H
   replace H : (some (!t392)) = some r := H
   have A139 := Ak A1390
   clear A1390
   obtain rfl := Option.some.inj H
   go_enter Try.func3, Try.ntmps3
   go_wp2_with (first | ((with_reducible refine gate_callee (f := 11) rfl ?_); refine goesL_ (some 14) rfl rfl Try.func11 (by kernel_rfl) rfl #[.slice A0 l0.length c0] rfl gm ?_; (with_reducible refine (laws_big.calls _ _ l0 false _ ?side1 ?side2 A2.out).mono ?_); (case side1 => repeat (first | exact HR0.out | (with_reducible refine Kd.C_alloc ?_ _) | (with_reducible refine Kd.C_drewN ?_ _) | (with_reducible refine Kd.C_drew ?_))); (case side2 => exact HC0.out); rintro e w' ⟨rfl, ⟨nd, rfl⟩⟩; refine ⟨_, rfl, ?_⟩) | ((with_reducible refine gate_callee (f := 12) rfl ?_); refine goesL_ (some 17) rfl rfl Try.func12 (by kernel_rfl) rfl #[.slice A0 l0.length c0] rfl gm ?_; (with_reducible refine (spec_DrawCrash.calls k _ _ l0 t381 t384 t387 _ ?side1 ?side2 A4.out).mono ?_); (case side1 => repeat (first | exact HR0.out | (with_reducible refine Kd.C_alloc ?_ _) | (with_reducible refine Kd.C_drewN ?_ _) | (with_reducible refine Kd.C_drew ?_))); (case side2 => exact HC0.out); rintro e w140 ⟨v382, v385, v388, rfl, ho0, ho1, ho2, hb⟩; refine ⟨_, rfl, ?_⟩; have n0_ := Ak (Kd.Q_lower ho0 (below_size (bw HB.out))); have n1_ := Ak (Kd.S_lower ho1 (below_size (bw HB.out))); have n2_ := Ak (Kd.R_lower ho2 (below_size (bw HB.out))); have n3_ := Ak (below_step (bw HB.out) hb); clear HB; have HO383 := n0_; have HO386 := n1_; have HO389 := n2_; have HB := n3_; clear n0_ n1_ n2_ n3_) | ((with_reducible refine gate_dst (N := 3) rfl ?_); (try (refine gate_guard (by rfl) ?_; dsimp only)); refine box_event ?hg (N := 3) ?hd (cs := #[.slice none 0 0, .slice none 0 0]) (t := 26) ?hr ?_; (case hd => rfl); (case hg => rfl); (case hr => first | (go_simp; done) | (go_simp; rfl)); intro gb390 hg w141 hbox hb; have n0_ := Ak (Kd.Q_below (qq HO383.out) hb); have n1_ := Ak (Kd.S_below (sq HO386.out) hb); have n2_ := Ak (Kd.R_below (rq HO389.out) hb); have n3_ := Ak (below_step (bw HB.out) hb); have n4_ := Ak (hbox); have n5_ := Ak ((by rw [hg]; exact (below_size (bw HB.out)) : w.heap.size ≤ gb390)); have n6_ := Ak ((by rw [hg]; exact (below_size (bw HB.out)) : w.heap.size ≤ gb390)); clear HO383; clear HO386; clear HO389; clear HB; have HO383 := n0_; have HO386 := n1_; have HO389 := n2_; have HB := n3_; have BK390 := n4_; have GW390 := n5_; have GE390 := n6_; clear n0_ n1_ n2_ n3_ n4_ n5_ n6_; clear hb hbox hg; obtain ⟨Ao142, co142, eo142, _⟩ := Kd.Q_slice HO383.out; subst eo142; have hcz143_0 : w141.cell? ⟨gb390, 0, none⟩ = some (.slice none 0 0) := (blk_cell BK390.out 0).trans rfl; have hcz143_1 : w141.cell? ⟨gb390, 1, none⟩ = some (.slice none 0 0) := (blk_cell BK390.out 1).trans rfl; have hfz143_0 := blk_frozen BK390.out 0; have hfz143_1 := blk_frozen BK390.out 1; obtain ⟨Ao144, co144, eo144⟩ := Kd.S_slice HO386.out; subst eo144) | ((with_reducible refine gate_callee (f := 13) rfl ?_); refine goesL_ (some 21) rfl rfl Try.func13 (by kernel_rfl) rfl #[.agg #[.slice Ao142 t381.length co142, .slice Ao144 t384.length co144]] rfl gm ?_; (with_reducible refine (spec_DiskOk.calls k _ _ t381 _ _ t384 false _ ?side1 ?side2 ?side3 ?side4 A5.out).mono ?_); (case side1 => refine (Kd.Q_reads' (e := 5) (base := w.heap.size) (ok := fun k_ => some k_ ≠ (v388 : Value).ownBlock) (n := t381.length) (c := co142) ?_).2.2; exact (by (with_reducible repeat (first | apply Kd.Q_alloc | apply Kd.Q_drewN | apply Kd.Q_drew)); exact (Kd.Q_mono (Kd.Q_far (p := ⟨gb390, 1, none⟩) (Kd.Q_far (p := ⟨gb390, 0, none⟩) (Kd.Q_types HO383.out BK390.out (by decide)) (fun _ hk => hk.2) (.slice Ao142 t381.length co142)) (fun _ hk => hk.2) (.slice Ao144 t384.length co144)) (fun _ h_ => h_.1)))); (case side2 => exact (Kd.Q_reads' HO383.out).2.1); (case side3 => refine (Kd.S_reads' (e := 34) (base := w.heap.size) (ok := fun k_ => (some k_ ≠ (.slice Ao142 t381.length co142 : Value).ownBlock ∧ some k_ ≠ (v388 : Value).ownBlock)) (n := t384.length) (c := co144) ?_).2.2; exact (by (with_reducible repeat (first | apply Kd.S_alloc | apply Kd.S_drewN | apply Kd.S_drew)); exact (Kd.S_mono (Kd.S_far (p := ⟨gb390, 1, none⟩) (Kd.S_far (p := ⟨gb390, 0, none⟩) (Kd.S_types HO386.out BK390.out (by decide)) (fun _ hk => hk.2) (.slice Ao142 t381.length co142)) (fun _ hk => hk.2) (.slice Ao144 t384.length co144)) (fun _ h_ => h_.1)))); (case side4 => exact (Kd.S_reads' HO386.out).2.1); rintro e w145 ⟨rfl, hb⟩; refine ⟨_, rfl, ?_⟩; have n0_ := Ak (Kd.Q_below (by (with_reducible repeat (first | apply Kd.Q_alloc | apply Kd.Q_drewN | apply Kd.Q_drew)); exact (Kd.Q_mono (Kd.Q_far (p := ⟨gb390, 1, none⟩) (Kd.Q_far (p := ⟨gb390, 0, none⟩) (Kd.Q_types HO383.out BK390.out (by decide)) (fun _ hk => hk.2) (.slice Ao142 t381.length co142)) (fun _ hk => hk.2) (.slice Ao144 t384.length co144)) (fun _ h_ => h_.1))) hb); have n1_ := Ak (Kd.S_below (by (with_reducible repeat (first | apply Kd.S_alloc | apply Kd.S_drewN | apply Kd.S_drew)); exact (Kd.S_mono (Kd.S_far (p := ⟨gb390, 1, none⟩) (Kd.S_far (p := ⟨gb390, 0, none⟩) (Kd.S_types HO386.out BK390.out (by decide)) (fun _ hk => hk.2) (.slice Ao142 t381.length co142)) (fun _ hk => hk.2) (.slice Ao144 t384.length co144)) (fun _ h_ => h_.1))) hb); have n2_ := Ak (Kd.R_below (by (with_reducible repeat (first | apply Kd.R_alloc | apply Kd.R_drewN | apply Kd.R_drew)); exact (Kd.R_mono (Kd.R_far (p := ⟨gb390, 1, none⟩) (Kd.R_far (p := ⟨gb390, 0, none⟩) (Kd.R_types HO389.out BK390.out (by decide)) (fun _ hk => hk.2) (.slice Ao142 t381.length co142)) (fun _ hk => hk.2) (.slice Ao144 t384.length co144)) (fun _ h_ => h_.1))) hb); have n3_ := Ak (blk_below (g := gb390) (o := .cells #[.slice Ao142 t381.length co142, .slice Ao144 t384.length co144] 26 (0, 0)) (by (with_reducible repeat (first | refine blk_drewN ?_ _ | refine blk_drew ?_ | refine blk_alloc ?_ _)); refine blk_put (cs := #[.slice Ao142 t381.length co142, .slice none 0 0]) ?_ 1 _ rfl; (with_reducible repeat (first | refine blk_drewN ?_ _ | refine blk_drew ?_ | refine blk_alloc ?_ _)); refine blk_put (cs := #[.slice none 0 0, .slice none 0 0]) ?_ 0 _ rfl; (with_reducible repeat (first | refine blk_drewN ?_ _ | refine blk_drew ?_ | refine blk_alloc ?_ _)); exact BK390.out) hb); have n4_ := Ak (below_step (bw1 HB.out GE390.out) hb); clear HO383; clear HO386; clear HO389; clear BK390; clear HB; have HO383 := n0_; have HO386 := n1_; have HO389 := n2_; have BK390 := n3_; have HB := n4_; clear n0_ n1_ n2_ n3_ n4_; have hcz146_0 : w145.cell? ⟨gb390, 0, none⟩ = some (.slice Ao142 t381.length co142) := (blk_cell BK390.out 0).trans rfl; have hcz146_1 : w145.cell? ⟨gb390, 1, none⟩ = some (.slice Ao144 t384.length co144) := (blk_cell BK390.out 1).trans rfl; have hfz146_0 := blk_frozen BK390.out 0; have hfz146_1 := blk_frozen BK390.out 1) | ((with_reducible refine gate_callee (f := 14) rfl ?_); refine goesL_ (some 24) rfl rfl Try.func14 (by kernel_rfl) rfl #[.agg #[.slice Ao142 t381.length co142, .slice Ao144 t384.length co144]] rfl gm ?_; (with_reducible refine (impl_DiskOk.calls k _ _ t381 _ _ t384 t392 _ ?side1 ?side2 ?side3 ?side4 A139.out).mono ?_); (case side1 => repeat (first | exact (Kd.Q_reads' HO383.out).2.2 | (with_reducible refine Kd.C_alloc ?_ _) | (with_reducible refine Kd.C_drewN ?_ _) | (with_reducible refine Kd.C_drew ?_))); (case side2 => exact (Kd.Q_reads' HO383.out).2.1); (case side3 => repeat (first | exact (Kd.S_reads' HO386.out).2.2 | (with_reducible refine Kd.C_alloc ?_ _) | (with_reducible refine Kd.C_drewN ?_ _) | (with_reducible refine Kd.C_drew ?_))); (case side4 => exact (Kd.S_reads' HO386.out).2.1); rintro e w147 ⟨rfl, hb⟩; refine ⟨_, rfl, ?_⟩; have n0_ := Ak (Kd.Q_below (qq HO383.out) hb); have n1_ := Ak (Kd.S_below (sq HO386.out) hb); have n2_ := Ak (Kd.R_below (rq HO389.out) hb); have n3_ := Ak (blk_below (g := gb390) (o := .cells #[.slice Ao142 t381.length co142, .slice Ao144 t384.length co144] 26 (0, 0)) (bq BK390.out) hb); have n4_ := Ak (below_step (bw1 HB.out GE390.out) hb); clear HO383; clear HO386; clear HO389; clear BK390; clear HB; have HO383 := n0_; have HO386 := n1_; have HO389 := n2_; have BK390 := n3_; have HB := n4_; clear n0_ n1_ n2_ n3_ n4_))
   go_ret
   exact ⟨by first | rfl | (simp [errW_none, errW_some] <;> rfl) | (simp [*, errW_none, errW_some] <;> rfl), bw1 HB.out GE390.out⟩

/-- THE ONE PURE STATEMENT of laws_FnDisk: yours. -/
def laws_FnDisk.Pure : Prop := ∀ (l0 : List Int), l0.length ≤ maxLen → l0.length * 1 ≤ 140737488351232 → (∀ x ∈ l0, (Lit.int .u8 x).wf = true) → ∃ k, laws_FnDisk.f k l0 = some true
theorem laws_FnDisk.walk (P : laws_FnDisk.Pure) (a0 : Option Addr) (len0 cap0 : Nat) (z0 : List Int) (w : World) (w0 : (a0 = none ∧ len0 = 0 ∧ cap0 = 0 ∧ z0 = []) ∨ ∃ x, a0 = some x ∧ len0 ≤ cap0 ∧ cap0 ≤ maxLen ∧ z0.length = cap0 ∧ (∀ i, i < z0.length → w.cell? (x.add i) = some (.int .u8 (z0.getD i 0))) ∧ ∀ n ∈ z0, (Lit.int .u8 n).wf = true) (y0 : len0 * 1 ≤ 140737488351232) :
  Calls Try.prog 3 #[.slice a0 len0 cap0] w fun e w' => e = .returned (.bool true) ∧ Below w.heap.size w w' := by
 obtain ⟨l0, rfl, hr0, hm0, hw0, hc0⟩ := ReadsInt.ofRowC w0
 obtain ⟨k, h⟩ := P l0 hm0 y0 hw0
 refine (laws_FnDisk.calls k _ _ l0 true w (Kd.C_of_reads (d := (0 : Int)) (h1 := fun _ => rfl) hr0) hc0 h rfl).mono ?_
 rintro e w' ⟨rfl, hd⟩
 exact ⟨rfl, hd⟩

end Go.Proofs.Ytinilabmffjnaaa.PFnDisk
