/- Functions that the law reaches, with their contracts. -/
import Derived.Test.YtgmnphckgicadaaQFnExactLogOpenx3
import Derived.Test.YtgmnphckgicadaaQFnExactLogOpenx6
import Derived.Test.YtgmnphckgicadaaQFnExactLogOpenx17
import Derived.Test.YtgmnphckgicadaaQFnExactLogOpenx28
import Derived.Test.YtgmnphckgicadaaQFnExactLogOpenx29
import Derived.Test.YtgmnphckgicadaaQFnExactLogOpenx30
namespace Go.Proofs.Ytgmnphckgicadaa.PFnExactLogOpen
open Go.RowKit Go.Proofs.YtgmnphckgicadaaW.PrintWords Go.Proofs.YtgmnphckgicadaaW.PrintLast Go.Proofs.YtgmnphckgicadaaW.PrintMore
attribute [local go_sem] max2_int min2_int max_two min_two max_three min_three max_four min_four
set_option linter.unusedVariables false
set_option linter.unusedSimpArgs false

mutual
def laws_FnExactLogOpen.j0 : Nat → Int → Int → List (List Int) → Bool → List (List Int) → Bool → Bool → List Int → List (S115) → Int → Int → Int → Int → List Int → List (S96) → Int → Int → Int → Int → Option (Bool)
 | 0, _, _, _, _, _, _, _, _, _, _, _, _, _, _, _, _, _, _, _ => none
 | k + 1, x1, x2, x9, x10, x13, x14, x59, x448000, x448001, x464000, x464001, x464002, x464003, x471000, x471001, x480000, x480001, x480002, x480003 => if x59 = true then (some false) else ((laws_toDisk.f k x448000 x448001).bind fun bt482 => ((laws_eqDisk.f k x471000 x471001 bt482.1 bt482.2).bind fun t488 => (if t488 = true then ((laws_markDisk.f k x471000 x471001 1).bind fun bt489 => (if bt489.1 < 0 then (laws_FnExactLogOpen.j1 k x1 x2 x9 x10 x13 true x448000 x448001 x464000 x464001 x464002 x464003) else ((laws_eqLog.f x480000 x480001 x480002 x480003 x464000 x464001 x464002 x464003).bind fun t491 => (if t491 = true then ((laws_eqByteSS.f k x13 x9).bind fun t492 => (if t492 = true then (laws_FnExactLogOpen.j1 k x1 x2 x9 x10 x13 (x14 != x10) x448000 x448001 x464000 x464001 x464002 x464003) else (laws_FnExactLogOpen.j1 k x1 x2 x9 x10 x13 true x448000 x448001 x464000 x464001 x464002 x464003))) else (laws_FnExactLogOpen.j1 k x1 x2 x9 x10 x13 true x448000 x448001 x464000 x464001 x464002 x464003))))) else (some false))))
def laws_FnExactLogOpen.j1 : Nat → Int → Int → List (List Int) → Bool → List (List Int) → Bool → List Int → List (S115) → Int → Int → Int → Int → Option (Bool)
 | 0, _, _, _, _, _, _, _, _, _, _, _, _ => none
 | k + 1, x1, x2, x9, x10, x13, x86, x448000, x448001, x464000, x464001, x464002, x464003 => if x86 = true then (some false) else ((laws_markByteSS.f k x13 1).bind fun bm => ((laws_heldByteSS.f k bm.2 1).bind fun t494 => (if t494 < 0 then (some false) else (if t494 = bm.1 then ((laws_toDisk.f k x448000 x448001).bind fun bt495 => ((impl_LogOpen.f k bt495.1 bt495.2 x1 x2).bind fun bt501 => ((laws_eqLog.f bt501.1 bt501.2.1 bt501.2.2.1 bt501.2.2.2.1 x464000 x464001 x464002 x464003).bind fun t510 => (if t510 = true then ((laws_eqByteSS.f k bt501.2.2.2.2.1 x9).bind fun t511 => (if t511 = true then (laws_FnExactLogOpen.j2 k bm.2 bm.1 (bt501.2.2.2.2.2 != x10)) else (laws_FnExactLogOpen.j2 k bm.2 bm.1 true))) else (laws_FnExactLogOpen.j2 k bm.2 bm.1 true))))) else (some false)))))
def laws_FnExactLogOpen.j2 : Nat → List (List Int) → Int → Bool → Option (Bool)
 | 0, _, _, _ => none
 | k + 1, x13, x16, x121 => if x121 = true then (some false) else ((laws_heldByteSS.f k x13 1).bind fun t512 => (if t512 < 0 then (some false) else (if t512 = x16 then (some true) else (some false))))
end
def laws_FnExactLogOpen.f (k : Nat) (l0_0 : List Int) (l0_1 : List (S115)) (a1 : Int) (a2 : Int) : Option (Bool) := (laws_szDisk.f k l0_0 l0_1 1048576).bind fun t448 => (if t448 < 0 then (some true) else ((laws_toDisk.f k l0_0 l0_1).bind fun bt449 => ((spec_LogOpen.f k bt449.1 bt449.2 a1 a2).bind fun bt455 => ((laws_toDisk.f k l0_0 l0_1).bind fun bt464 => ((impl_LogOpen.f k bt464.1 bt464.2 a1 a2).bind fun bt471 => ((laws_eqLog.f bt471.1 bt471.2.1 bt471.2.2.1 bt471.2.2.2.1 bt455.1 bt455.2.1 bt455.2.2.1 bt455.2.2.2.1).bind fun t480 => (if t480 = true then ((laws_eqByteSS.f k bt471.2.2.2.2.1 bt455.2.2.2.2.1).bind fun t481 => (if t481 = true then (laws_FnExactLogOpen.j0 k a1 a2 bt455.2.2.2.2.1 bt455.2.2.2.2.2 bt471.2.2.2.2.1 bt471.2.2.2.2.2 (bt471.2.2.2.2.2 != bt455.2.2.2.2.2) l0_0 l0_1 bt455.1 bt455.2.1 bt455.2.2.1 bt455.2.2.2.1 bt464.1 bt464.2 bt471.1 bt471.2.1 bt471.2.2.1 bt471.2.2.2.1) else (laws_FnExactLogOpen.j0 k a1 a2 bt455.2.2.2.2.1 bt455.2.2.2.2.2 bt471.2.2.2.2.1 bt471.2.2.2.2.2 true l0_0 l0_1 bt455.1 bt455.2.1 bt455.2.2.1 bt455.2.2.2.1 bt464.1 bt464.2 bt471.1 bt471.2.1 bt471.2.2.1 bt471.2.2.2.1))) else (laws_FnExactLogOpen.j0 k a1 a2 bt455.2.2.2.2.1 bt455.2.2.2.2.2 bt471.2.2.2.2.1 bt471.2.2.2.2.2 true l0_0 l0_1 bt455.1 bt455.2.1 bt455.2.2.1 bt455.2.2.2.1 bt464.1 bt464.2 bt471.1 bt471.2.1 bt471.2.2.1 bt471.2.2.2.1))))))))
theorem lo_name1 {W w2 : World} {b0 bw : Nat} {okx okw : Nat → Prop} {u vx vw : Value} {lx : List S96} {lw : List (List Int)} (hb : Below W.heap.size W w2) (hx : Kd.S k96 96 w2 W.heap.size okx vx lx) (hw : Kd.S (Kd.slice 5 (Kd.int .u8)) 22 W bw okw vw lw) (hu : ∀ k, u.ownBlock = some k → W.heap.size ≤ k) (hl : b0 ≤ W.heap.size) :
  ∃ N : Nat, b0 ≤ N ∧ Kd.S k96 96 w2 N okx vx lx ∧ Kd.S (Kd.slice 5 (Kd.int .u8)) 22 w2 bw (fun k => (okw k ∧ k < N) ∧ some k ≠ u.ownBlock) vw lw := ⟨_, hl, hx, Kd.S_elder' (Kd.S_mono (Kd.S_bound hw) (fun _ h => ⟨h.1, h.2.2.1⟩)) hu hb⟩
theorem lo_name3 {W w2 : World} {b0 bw bx : Nat} {okx okw okg : Nat → Prop} {vx vw vg : Value} {lx : List S96} {lw lg : List (List Int)} (hb : Below W.heap.size W w2) (hg : Kd.S (Kd.slice 5 (Kd.int .u8)) 22 w2 W.heap.size okg vg lg) (hx : Kd.S k96 96 W bx okx vx lx) (hw : Kd.S (Kd.slice 5 (Kd.int .u8)) 22 W bw okw vw lw) (hl : b0 ≤ W.heap.size) :
  ∃ N : Nat, b0 ≤ N ∧ Kd.S (Kd.slice 5 (Kd.int .u8)) 22 w2 N okg vg lg ∧ Kd.S k96 96 w2 bx (fun k => okx k ∧ k < N) vx lx ∧ Kd.S (Kd.slice 5 (Kd.int .u8)) 22 w2 bw (fun k => (okw k ∧ k < N) ∧ some k ≠ vg.ownBlock) vw lw := ⟨_, hl, hg, Kd.S_below (Kd.S_mono (Kd.S_bound hx) (fun _ h => ⟨h.1, h.2.2.1⟩)) hb, Kd.S_elder' (Kd.S_mono (Kd.S_bound hw) (fun _ h => ⟨h.1, h.2.2.1⟩)) (Kd.S_base hg) hb⟩
set_option maxHeartbeats 8000000 in
set_option maxRecDepth 100000 in
theorem laws_FnExactLogOpen.calls (k : Nat) (A0_0 : Option Addr) (c0_0 : Nat) (l0_0 : List Int) (A0_1 : Option Addr) (c0_1 : Nat) (l0_1 : List (S115)) (a1 : Int) (a2 : Int) (r : Bool) (w : World) (hr0_0 : Kd.C (Kd.int .u8) w A0_0 l0_0.length l0_0) (hc0_0 : l0_0.length ≤ c0_0) (hr0_1 : Kd.C k115 w A0_1 l0_1.length l0_1) (hc0_1 : l0_1.length ≤ c0_1) (h : laws_FnExactLogOpen.f k l0_0 l0_1 a1 a2 = some r) (hrt : r = true) :
  Calls Try.prog 4 #[.agg #[.slice A0_0 l0_0.length c0_0, .slice A0_1 l0_1.length c0_1], .int .i64 a1, .int .i64 a2] w fun e w' => e = .returned (.bool r) ∧ Below w.heap.size w w' := by
 have hu25 := Try.underlying25
 have hu32 := Try.underlying32
 have hu31 := Try.underlying31
 have HR0_0 := Ak hr0_0
 have HC0_0 := Ak hc0_0
 clear hr0_0 hc0_0
 have HR0_1 := Ak hr0_1
 have HC0_1 := Ak hc0_1
 clear hr0_1 hc0_1
 have HB := Ak (Below.refl w.heap.size w)
 have H : ((laws_szDisk.f k l0_0 l0_1 1048576).bind fun t448 => (if t448 < 0 then (some true) else ((laws_toDisk.f k l0_0 l0_1).bind fun bt449 => ((spec_LogOpen.f k bt449.1 bt449.2 a1 a2).bind fun bt455 => ((laws_toDisk.f k l0_0 l0_1).bind fun bt464 => ((impl_LogOpen.f k bt464.1 bt464.2 a1 a2).bind fun bt471 => ((laws_eqLog.f bt471.1 bt471.2.1 bt471.2.2.1 bt471.2.2.2.1 bt455.1 bt455.2.1 bt455.2.2.1 bt455.2.2.2.1).bind fun t480 => (if t480 = true then ((laws_eqByteSS.f k bt471.2.2.2.2.1 bt455.2.2.2.2.1).bind fun t481 => (if t481 = true then (laws_FnExactLogOpen.j0 k a1 a2 bt455.2.2.2.2.1 bt455.2.2.2.2.2 bt471.2.2.2.2.1 bt471.2.2.2.2.2 (bt471.2.2.2.2.2 != bt455.2.2.2.2.2) l0_0 l0_1 bt455.1 bt455.2.1 bt455.2.2.1 bt455.2.2.2.1 bt464.1 bt464.2 bt471.1 bt471.2.1 bt471.2.2.1 bt471.2.2.2.1) else (laws_FnExactLogOpen.j0 k a1 a2 bt455.2.2.2.2.1 bt455.2.2.2.2.2 bt471.2.2.2.2.1 bt471.2.2.2.2.2 true l0_0 l0_1 bt455.1 bt455.2.1 bt455.2.2.1 bt455.2.2.2.1 bt464.1 bt464.2 bt471.1 bt471.2.1 bt471.2.2.1 bt471.2.2.2.1))) else (laws_FnExactLogOpen.j0 k a1 a2 bt455.2.2.2.2.1 bt455.2.2.2.2.2 bt471.2.2.2.2.1 bt471.2.2.2.2.2 true l0_0 l0_1 bt455.1 bt455.2.1 bt455.2.2.1 bt455.2.2.2.1 bt464.1 bt464.2 bt471.1 bt471.2.1 bt471.2.2.1 bt471.2.2.2.1))))))))) = some r := h
 clear h
 replace H := Option.bind_eq_some_iff.mp H
 obtain ⟨t448, A40, H⟩ := H
 replace H : (if t448 < 0 then (some true) else ((laws_toDisk.f k l0_0 l0_1).bind fun bt449 => ((spec_LogOpen.f k bt449.1 bt449.2 a1 a2).bind fun bt455 => ((laws_toDisk.f k l0_0 l0_1).bind fun bt464 => ((impl_LogOpen.f k bt464.1 bt464.2 a1 a2).bind fun bt471 => ((laws_eqLog.f bt471.1 bt471.2.1 bt471.2.2.1 bt471.2.2.2.1 bt455.1 bt455.2.1 bt455.2.2.1 bt455.2.2.2.1).bind fun t480 => (if t480 = true then ((laws_eqByteSS.f k bt471.2.2.2.2.1 bt455.2.2.2.2.1).bind fun t481 => (if t481 = true then (laws_FnExactLogOpen.j0 k a1 a2 bt455.2.2.2.2.1 bt455.2.2.2.2.2 bt471.2.2.2.2.1 bt471.2.2.2.2.2 (bt471.2.2.2.2.2 != bt455.2.2.2.2.2) l0_0 l0_1 bt455.1 bt455.2.1 bt455.2.2.1 bt455.2.2.2.1 bt464.1 bt464.2 bt471.1 bt471.2.1 bt471.2.2.1 bt471.2.2.2.1) else (laws_FnExactLogOpen.j0 k a1 a2 bt455.2.2.2.2.1 bt455.2.2.2.2.2 bt471.2.2.2.2.1 bt471.2.2.2.2.2 true l0_0 l0_1 bt455.1 bt455.2.1 bt455.2.2.1 bt455.2.2.2.1 bt464.1 bt464.2 bt471.1 bt471.2.1 bt471.2.2.1 bt471.2.2.2.1))) else (laws_FnExactLogOpen.j0 k a1 a2 bt455.2.2.2.2.1 bt455.2.2.2.2.2 bt471.2.2.2.2.1 bt471.2.2.2.2.2 true l0_0 l0_1 bt455.1 bt455.2.1 bt455.2.2.1 bt455.2.2.2.1 bt464.1 bt464.2 bt471.1 bt471.2.1 bt471.2.2.1 bt471.2.2.2.1)))))))) = some r := H
 have A4 := Ak A40
 clear A40
 by_cases c5 : t448 < 0
 ·rw [if_pos c5] at H
  have c5b0 : decide (t448 < 0) = true := decide_eq_true c5
  clear c5
  obtain rfl := Option.some.inj H
  go_enter Try.func4, Try.ntmps4
  go_wp2_with (first | ((with_reducible refine gate_dst (N := 3) rfl ?_); refine box_event ?hg (N := 3) ?hd (cs := #[.slice A0_0 l0_0.length c0_0, .slice A0_1 l0_1.length c0_1]) (t := 25) ?hr ?_; (case hd => rfl); (case hg => rfl); (case hr => first | (go_simp; done) | (go_simp; rfl)); intro gb447 hg w6 hbox hb; have n0_ := Ak (below_step (bw HB.out) hb); have n1_ := Ak (hbox); have n2_ := Ak ((by rw [hg]; exact (below_size (bw HB.out)) : w.heap.size ≤ gb447)); have n3_ := Ak ((by rw [hg]; exact (below_size (bw HB.out)) : w.heap.size ≤ gb447)); clear HB; have HB := n0_; have BK447 := n1_; have GW447 := n2_; have GE447 := n3_; clear n0_ n1_ n2_ n3_; clear hb hbox hg; have hcz7_0 : w6.cell? ⟨gb447, 0, none⟩ = some (.slice A0_0 l0_0.length c0_0) := (blk_cell BK447.out 0).trans rfl; have hcz7_1 : w6.cell? ⟨gb447, 1, none⟩ = some (.slice A0_1 l0_1.length c0_1) := (blk_cell BK447.out 1).trans rfl; have hfz7_0 := blk_frozen BK447.out 0; have hfz7_1 := blk_frozen BK447.out 1) | ((with_reducible refine gate_callee (f := 8) rfl ?_); refine goesL_ (some 23) rfl rfl Try.func8 (by kernel_rfl) rfl #[.agg #[.slice A0_0 l0_0.length c0_0, .slice A0_1 l0_1.length c0_1], .int .i64 1048576] rfl gm ?_; (with_reducible refine (laws_szDisk.calls k _ _ l0_0 _ _ l0_1 1048576 t448 _ ?side1 ?side2 ?side3 ?side4 A4.out).mono ?_); (case side1 => repeat (first | exact (Kd.C_below HR0_0.out HB.out) | (with_reducible refine Kd.C_alloc ?_ _) | (with_reducible refine Kd.C_drewN ?_ _) | (with_reducible refine Kd.C_drew ?_))); (case side2 => exact HC0_0.out); (case side3 => repeat (first | exact (Kd.C_below HR0_1.out HB.out) | (with_reducible refine Kd.C_alloc ?_ _) | (with_reducible refine Kd.C_drewN ?_ _) | (with_reducible refine Kd.C_drew ?_))); (case side4 => exact HC0_1.out); rintro e w8 ⟨rfl, hb⟩; refine ⟨_, rfl, ?_⟩; have n0_ := Ak (blk_below (g := gb447) (o := .cells #[.slice A0_0 l0_0.length c0_0, .slice A0_1 l0_1.length c0_1] 25 (0, 0)) (bq BK447.out) hb); have n1_ := Ak (below_step (bw1 HB.out GE447.out) hb); clear BK447; clear HB; have BK447 := n0_; have HB := n1_; clear n0_ n1_))
  go_ret
  exact ⟨by first | rfl | (simp [errW_none, errW_some] <;> rfl) | (simp [*, errW_none, errW_some] <;> rfl), bw1 HB.out GE447.out⟩
 ·rw [if_neg c5] at H
  have c5b0 : decide (t448 < 0) = false := decide_eq_false c5
  clear c5
  replace H := Option.bind_eq_some_iff.mp H
  obtain ⟨⟨t449, t452⟩, A90, H⟩ := H
  replace H : ((spec_LogOpen.f k t449 t452 a1 a2).bind fun bt455 => ((laws_toDisk.f k l0_0 l0_1).bind fun bt464 => ((impl_LogOpen.f k bt464.1 bt464.2 a1 a2).bind fun bt471 => ((laws_eqLog.f bt471.1 bt471.2.1 bt471.2.2.1 bt471.2.2.2.1 bt455.1 bt455.2.1 bt455.2.2.1 bt455.2.2.2.1).bind fun t480 => (if t480 = true then ((laws_eqByteSS.f k bt471.2.2.2.2.1 bt455.2.2.2.2.1).bind fun t481 => (if t481 = true then (laws_FnExactLogOpen.j0 k a1 a2 bt455.2.2.2.2.1 bt455.2.2.2.2.2 bt471.2.2.2.2.1 bt471.2.2.2.2.2 (bt471.2.2.2.2.2 != bt455.2.2.2.2.2) l0_0 l0_1 bt455.1 bt455.2.1 bt455.2.2.1 bt455.2.2.2.1 bt464.1 bt464.2 bt471.1 bt471.2.1 bt471.2.2.1 bt471.2.2.2.1) else (laws_FnExactLogOpen.j0 k a1 a2 bt455.2.2.2.2.1 bt455.2.2.2.2.2 bt471.2.2.2.2.1 bt471.2.2.2.2.2 true l0_0 l0_1 bt455.1 bt455.2.1 bt455.2.2.1 bt455.2.2.2.1 bt464.1 bt464.2 bt471.1 bt471.2.1 bt471.2.2.1 bt471.2.2.2.1))) else (laws_FnExactLogOpen.j0 k a1 a2 bt455.2.2.2.2.1 bt455.2.2.2.2.2 bt471.2.2.2.2.1 bt471.2.2.2.2.2 true l0_0 l0_1 bt455.1 bt455.2.1 bt455.2.2.1 bt455.2.2.2.1 bt464.1 bt464.2 bt471.1 bt471.2.1 bt471.2.2.1 bt471.2.2.2.1)))))) = some r := H
  have A9 := Ak A90
  clear A90
  replace H := Option.bind_eq_some_iff.mp H
  obtain ⟨⟨t455, t456, t457, t458, t459, t462⟩, A100, H⟩ := H
  replace H : ((laws_toDisk.f k l0_0 l0_1).bind fun bt464 => ((impl_LogOpen.f k bt464.1 bt464.2 a1 a2).bind fun bt471 => ((laws_eqLog.f bt471.1 bt471.2.1 bt471.2.2.1 bt471.2.2.2.1 t455 t456 t457 t458).bind fun t480 => (if t480 = true then ((laws_eqByteSS.f k bt471.2.2.2.2.1 t459).bind fun t481 => (if t481 = true then (laws_FnExactLogOpen.j0 k a1 a2 t459 t462 bt471.2.2.2.2.1 bt471.2.2.2.2.2 (bt471.2.2.2.2.2 != t462) l0_0 l0_1 t455 t456 t457 t458 bt464.1 bt464.2 bt471.1 bt471.2.1 bt471.2.2.1 bt471.2.2.2.1) else (laws_FnExactLogOpen.j0 k a1 a2 t459 t462 bt471.2.2.2.2.1 bt471.2.2.2.2.2 true l0_0 l0_1 t455 t456 t457 t458 bt464.1 bt464.2 bt471.1 bt471.2.1 bt471.2.2.1 bt471.2.2.2.1))) else (laws_FnExactLogOpen.j0 k a1 a2 t459 t462 bt471.2.2.2.2.1 bt471.2.2.2.2.2 true l0_0 l0_1 t455 t456 t457 t458 bt464.1 bt464.2 bt471.1 bt471.2.1 bt471.2.2.1 bt471.2.2.2.1))))) = some r := H
  have A10 := Ak A100
  clear A100
  replace H := Option.bind_eq_some_iff.mp H
  obtain ⟨⟨t464, t467⟩, A110, H⟩ := H
  replace H : ((impl_LogOpen.f k t464 t467 a1 a2).bind fun bt471 => ((laws_eqLog.f bt471.1 bt471.2.1 bt471.2.2.1 bt471.2.2.2.1 t455 t456 t457 t458).bind fun t480 => (if t480 = true then ((laws_eqByteSS.f k bt471.2.2.2.2.1 t459).bind fun t481 => (if t481 = true then (laws_FnExactLogOpen.j0 k a1 a2 t459 t462 bt471.2.2.2.2.1 bt471.2.2.2.2.2 (bt471.2.2.2.2.2 != t462) l0_0 l0_1 t455 t456 t457 t458 t464 t467 bt471.1 bt471.2.1 bt471.2.2.1 bt471.2.2.2.1) else (laws_FnExactLogOpen.j0 k a1 a2 t459 t462 bt471.2.2.2.2.1 bt471.2.2.2.2.2 true l0_0 l0_1 t455 t456 t457 t458 t464 t467 bt471.1 bt471.2.1 bt471.2.2.1 bt471.2.2.2.1))) else (laws_FnExactLogOpen.j0 k a1 a2 t459 t462 bt471.2.2.2.2.1 bt471.2.2.2.2.2 true l0_0 l0_1 t455 t456 t457 t458 t464 t467 bt471.1 bt471.2.1 bt471.2.2.1 bt471.2.2.2.1)))) = some r := H
  have A11 := Ak A110
  clear A110
  replace H := Option.bind_eq_some_iff.mp H
  obtain ⟨⟨t471, t472, t473, t474, t475, t478⟩, A120, H⟩ := H
  replace H : ((laws_eqLog.f t471 t472 t473 t474 t455 t456 t457 t458).bind fun t480 => (if t480 = true then ((laws_eqByteSS.f k t475 t459).bind fun t481 => (if t481 = true then (laws_FnExactLogOpen.j0 k a1 a2 t459 t462 t475 t478 (t478 != t462) l0_0 l0_1 t455 t456 t457 t458 t464 t467 t471 t472 t473 t474) else (laws_FnExactLogOpen.j0 k a1 a2 t459 t462 t475 t478 true l0_0 l0_1 t455 t456 t457 t458 t464 t467 t471 t472 t473 t474))) else (laws_FnExactLogOpen.j0 k a1 a2 t459 t462 t475 t478 true l0_0 l0_1 t455 t456 t457 t458 t464 t467 t471 t472 t473 t474))) = some r := H
  have A12 := Ak A120
  clear A120
  have HC13 := Ak H
  clear H
  go_enter Try.func4, Try.ntmps4
  go_upto_region 8 with (first | ((with_reducible refine gate_dst (N := 3) rfl ?_); refine box_event ?hg (N := 3) ?hd (cs := #[.slice A0_0 l0_0.length c0_0, .slice A0_1 l0_1.length c0_1]) (t := 25) ?hr ?_; (case hd => rfl); (case hg => rfl); (case hr => first | (go_simp; done) | (go_simp; rfl)); intro gb447 hg w14 hbox hb; have n0_ := Ak (below_step (bw HB.out) hb); have n1_ := Ak (hbox); have n2_ := Ak ((by rw [hg]; exact (below_size (bw HB.out)) : w.heap.size ≤ gb447)); have n3_ := Ak ((by rw [hg]; exact (below_size (bw HB.out)) : w.heap.size ≤ gb447)); clear HB; have HB := n0_; have BK447 := n1_; have GW447 := n2_; have GE447 := n3_; clear n0_ n1_ n2_ n3_; clear hb hbox hg; have hcz15_0 : w14.cell? ⟨gb447, 0, none⟩ = some (.slice A0_0 l0_0.length c0_0) := (blk_cell BK447.out 0).trans rfl; have hcz15_1 : w14.cell? ⟨gb447, 1, none⟩ = some (.slice A0_1 l0_1.length c0_1) := (blk_cell BK447.out 1).trans rfl; have hfz15_0 := blk_frozen BK447.out 0; have hfz15_1 := blk_frozen BK447.out 1) | ((with_reducible refine gate_callee (f := 8) rfl ?_); refine goesL_ (some 23) rfl rfl Try.func8 (by kernel_rfl) rfl #[.agg #[.slice A0_0 l0_0.length c0_0, .slice A0_1 l0_1.length c0_1], .int .i64 1048576] rfl gm ?_; (with_reducible refine (laws_szDisk.calls k _ _ l0_0 _ _ l0_1 1048576 t448 _ ?side1 ?side2 ?side3 ?side4 A4.out).mono ?_); (case side1 => repeat (first | exact (Kd.C_below HR0_0.out HB.out) | (with_reducible refine Kd.C_alloc ?_ _) | (with_reducible refine Kd.C_drewN ?_ _) | (with_reducible refine Kd.C_drew ?_))); (case side2 => exact HC0_0.out); (case side3 => repeat (first | exact (Kd.C_below HR0_1.out HB.out) | (with_reducible refine Kd.C_alloc ?_ _) | (with_reducible refine Kd.C_drewN ?_ _) | (with_reducible refine Kd.C_drew ?_))); (case side4 => exact HC0_1.out); rintro e w16 ⟨rfl, hb⟩; refine ⟨_, rfl, ?_⟩; have n0_ := Ak (blk_below (g := gb447) (o := .cells #[.slice A0_0 l0_0.length c0_0, .slice A0_1 l0_1.length c0_1] 25 (0, 0)) (bq BK447.out) hb); have n1_ := Ak (below_step (bw1 HB.out GE447.out) hb); clear BK447; clear HB; have BK447 := n0_; have HB := n1_; clear n0_ n1_; have hcz17_0 : w16.cell? ⟨gb447, 0, none⟩ = some (.slice A0_0 l0_0.length c0_0) := (blk_cell BK447.out 0).trans rfl; have hcz17_1 : w16.cell? ⟨gb447, 1, none⟩ = some (.slice A0_1 l0_1.length c0_1) := (blk_cell BK447.out 1).trans rfl; have hfz17_0 := blk_frozen BK447.out 0; have hfz17_1 := blk_frozen BK447.out 1) | ((with_reducible refine gate_callee (f := 10) rfl ?_); refine goesL_ (some 28) rfl rfl Try.func10 (by kernel_rfl) rfl #[.agg #[.slice A0_0 l0_0.length c0_0, .slice A0_1 l0_1.length c0_1]] rfl gm ?_; (with_reducible refine (laws_toDisk.calls k _ _ l0_0 _ _ l0_1 t449 t452 _ ?side1 ?side2 ?side3 ?side4 A9.out).mono ?_); (case side1 => repeat (first | exact (Kd.C_below HR0_0.out HB.out) | (with_reducible refine Kd.C_alloc ?_ _) | (with_reducible refine Kd.C_drewN ?_ _) | (with_reducible refine Kd.C_drew ?_))); (case side2 => exact HC0_0.out); (case side3 => repeat (first | exact (Kd.C_below HR0_1.out HB.out) | (with_reducible refine Kd.C_alloc ?_ _) | (with_reducible refine Kd.C_drewN ?_ _) | (with_reducible refine Kd.C_drew ?_))); (case side4 => exact HC0_1.out); rintro e w18 ⟨v450, v453, rfl, ho0, ho1, hb⟩; refine ⟨_, rfl, ?_⟩; have n0_ := Ak (Kd.R_lower ho0 (below_size (bw1 HB.out GE447.out))); have n1_ := Ak (Kd.S_lower ho1 (below_size (bw1 HB.out GE447.out))); have n2_ := Ak (blk_below (g := gb447) (o := .cells #[.slice A0_0 l0_0.length c0_0, .slice A0_1 l0_1.length c0_1] 25 (0, 0)) (bq BK447.out) hb); have n3_ := Ak (below_step (bw1 HB.out GE447.out) hb); clear BK447; clear HB; have HO451 := n0_; have HO454 := n1_; have BK447 := n2_; have HB := n3_; clear n0_ n1_ n2_ n3_; obtain ⟨Ao19, co19, eo19⟩ := Kd.R_slice HO451.out; subst eo19; obtain ⟨Ao20, co20, eo20⟩ := Kd.S_slice HO454.out; subst eo20) | ((with_reducible refine gate_callee (f := 20) rfl ?_); refine goesL_ (some 31) rfl rfl Try.func20 (by kernel_rfl) rfl #[.agg #[.slice Ao19 t449.length co19, .slice Ao20 t452.length co20], .int .i64 a1, .int .i64 a2] rfl gm ?_; (with_reducible refine (spec_LogOpen.calls k _ _ t449 _ _ t452 a1 a2 t455 t456 t457 t458 t459 t462 _ ?side1 ?side2 ?side3 ?side4 A10.out).mono ?_); (case side1 => repeat (first | exact (Kd.R_reads' HO451.out).2.2 | (with_reducible refine Kd.C_alloc ?_ _) | (with_reducible refine Kd.C_drewN ?_ _) | (with_reducible refine Kd.C_drew ?_))); (case side2 => exact (Kd.R_reads' HO451.out).2.1); (case side3 => repeat (first | exact (Kd.S_reads' HO454.out).2.2 | (with_reducible refine Kd.C_alloc ?_ _) | (with_reducible refine Kd.C_drewN ?_ _) | (with_reducible refine Kd.C_drew ?_))); (case side4 => exact (Kd.S_reads' HO454.out).2.1); rintro e w21 ⟨v460, rfl, ho0, hb⟩; refine ⟨_, rfl, ?_⟩; have n0_ := Ak (Kd.R_below (rq HO451.out) hb); have n1_ := Ak (Kd.S_below (sq HO454.out) hb); have n2_ := Ak (Kd.S_lower (Kd.S_new' ho0 (Kd.R_lt (rq HO451.out))) (below_size (bw1 HB.out GE447.out))); have n3_ := Ak (blk_below (g := gb447) (o := .cells #[.slice A0_0 l0_0.length c0_0, .slice A0_1 l0_1.length c0_1] 25 (0, 0)) (bq BK447.out) hb); have n4_ := Ak (below_step (bw1 HB.out GE447.out) hb); clear HO451; clear HO454; clear BK447; clear HB; have HO451 := n0_; have HO454 := n1_; have HO461 := n2_; have BK447 := n3_; have HB := n4_; clear n0_ n1_ n2_ n3_ n4_) | ((with_reducible refine gate_dst (N := 8) rfl ?_); refine box_event ?hg (N := 8) ?hd (cs := #[.int .i64 0, .int .i64 0, .int .i64 0, .int .i64 0]) (t := 32) ?hr ?_; (case hd => rfl); (case hg => rfl); (case hr => first | (go_simp; done) | (go_simp; rfl)); intro gb463 hg w22 hbox hb; have n0_ := Ak (Kd.R_below (rq HO451.out) hb); have n1_ := Ak (Kd.S_below (sq HO454.out) hb); have n2_ := Ak (Kd.S_below (sq HO461.out) hb); have n3_ := Ak (blk_below (g := gb447) (o := .cells #[.slice A0_0 l0_0.length c0_0, .slice A0_1 l0_1.length c0_1] 25 (0, 0)) (bq BK447.out) hb); have n4_ := Ak (below_step (bw1 HB.out GE447.out) hb); have n5_ := Ak (hbox); have n6_ := Ak ((by rw [hg]; exact (below_size (bw1 HB.out GE447.out)) : w.heap.size ≤ gb463)); have n7_ := Ak ((by rw [hg]; exact (below_size (bw1 HB.out GE447.out)) : w.heap.size ≤ gb463)); have n8_ := Ak ((by rw [hg]; exact Nat.ne_of_lt (blk_lt (g := gb447) (o := .cells #[.slice A0_0 l0_0.length c0_0, .slice A0_1 l0_1.length c0_1] 25 (0, 0)) (bq BK447.out)) : gb447 ≠ gb463)); have n9_ := Ak ((by rw [hg]; exact Nat.ne_of_gt (blk_lt (g := gb447) (o := .cells #[.slice A0_0 l0_0.length c0_0, .slice A0_1 l0_1.length c0_1] 25 (0, 0)) (bq BK447.out)) : gb463 ≠ gb447)); clear HO451; clear HO454; clear HO461; clear BK447; clear HB; have HO451 := n0_; have HO454 := n1_; have HO461 := n2_; have BK447 := n3_; have HB := n4_; have BK463 := n5_; have GW463 := n6_; have GE463 := n7_; have NB447_463 := n8_; have NB463_447 := n9_; clear n0_ n1_ n2_ n3_ n4_ n5_ n6_ n7_ n8_ n9_; clear hb hbox hg; have hnb23 := NB463_447.out; have hnc23 := NB447_463.out; have hcz24_0 : w22.cell? ⟨gb463, 0, none⟩ = some (.int .i64 0) := (blk_cell BK463.out 0).trans rfl; have hcz24_1 : w22.cell? ⟨gb463, 1, none⟩ = some (.int .i64 0) := (blk_cell BK463.out 1).trans rfl; have hcz24_2 : w22.cell? ⟨gb463, 2, none⟩ = some (.int .i64 0) := (blk_cell BK463.out 2).trans rfl; have hcz24_3 : w22.cell? ⟨gb463, 3, none⟩ = some (.int .i64 0) := (blk_cell BK463.out 3).trans rfl; have hfz24_0 := blk_frozen BK463.out 0; have hfz24_1 := blk_frozen BK463.out 1; have hfz24_2 := blk_frozen BK463.out 2; have hfz24_3 := blk_frozen BK463.out 3; have hcz25_0 : w22.cell? ⟨gb447, 0, none⟩ = some (.slice A0_0 l0_0.length c0_0) := (blk_cell BK447.out 0).trans rfl; have hcz25_1 : w22.cell? ⟨gb447, 1, none⟩ = some (.slice A0_1 l0_1.length c0_1) := (blk_cell BK447.out 1).trans rfl; have hfz25_0 := blk_frozen BK447.out 0; have hfz25_1 := blk_frozen BK447.out 1) | ((with_reducible refine gate_callee (f := 10) rfl ?_); refine goesL_ (some 36) rfl rfl Try.func10 (by kernel_rfl) rfl #[.agg #[.slice A0_0 l0_0.length c0_0, .slice A0_1 l0_1.length c0_1]] rfl gm ?_; (with_reducible refine (laws_toDisk.calls k _ _ l0_0 _ _ l0_1 t464 t467 _ ?side1 ?side2 ?side3 ?side4 A11.out).mono ?_); (case side1 => exact Kd.C_below HR0_0.out (bw2 HB.out GE447.out GE463.out)); (case side2 => exact HC0_0.out); (case side3 => exact Kd.C_below HR0_1.out (bw2 HB.out GE447.out GE463.out)); (case side4 => exact HC0_1.out); rintro e w26 ⟨v465, v468, rfl, ho0, ho1, hb⟩; refine ⟨_, rfl, ?_⟩; have n0_ := Ak (Kd.R_elder' (by (with_reducible repeat (first | apply Kd.R_alloc | apply Kd.R_drewN | apply Kd.R_drew)); exact (Kd.R_mono (Kd.R_far (p := ⟨gb463, 3, none⟩) (Kd.R_far (p := ⟨gb463, 2, none⟩) (Kd.R_far (p := ⟨gb463, 1, none⟩) (Kd.R_far (p := ⟨gb463, 0, none⟩) (Kd.R_types HO451.out BK463.out (by decide)) (fun _ hk => hk.2) (.int .i64 t455)) (fun _ hk => hk.2) (.int .i64 t456)) (fun _ hk => hk.2) (.int .i64 t457)) (fun _ hk => hk.2) (.int .i64 t458)) (fun _ h_ => h_.1))) (Kd.R_base ho0) hb); have n1_ := Ak (Kd.S_mono (Kd.S_told (Kd.S_told (Kd.S_old (by (with_reducible repeat (first | apply Kd.S_alloc | apply Kd.S_drewN | apply Kd.S_drew)); exact (Kd.S_mono (Kd.S_far (p := ⟨gb463, 3, none⟩) (Kd.S_far (p := ⟨gb463, 2, none⟩) (Kd.S_far (p := ⟨gb463, 1, none⟩) (Kd.S_far (p := ⟨gb463, 0, none⟩) (Kd.S_types HO454.out BK463.out (by decide)) (fun _ hk => hk.2) (.int .i64 t455)) (fun _ hk => hk.2) (.int .i64 t456)) (fun _ hk => hk.2) (.int .i64 t457)) (fun _ hk => hk.2) (.int .i64 t458)) (fun _ h_ => h_.1))) hb) (Kd.R_base ho0)) (Kd.S_base ho1)) (fun _ h_ => h_.1)); obtain ⟨N1_, LN1_, n4_, n2_⟩ := lo_name1 (b0 := w.heap.size) hb (Kd.S_new' (Kd.S_new' ho1 (Kd.R_lt (by (with_reducible repeat (first | apply Kd.R_alloc | apply Kd.R_drewN | apply Kd.R_drew)); exact (Kd.R_mono (Kd.R_far (p := ⟨gb463, 3, none⟩) (Kd.R_far (p := ⟨gb463, 2, none⟩) (Kd.R_far (p := ⟨gb463, 1, none⟩) (Kd.R_far (p := ⟨gb463, 0, none⟩) (Kd.R_types HO451.out BK463.out (by decide)) (fun _ hk => hk.2) (.int .i64 t455)) (fun _ hk => hk.2) (.int .i64 t456)) (fun _ hk => hk.2) (.int .i64 t457)) (fun _ hk => hk.2) (.int .i64 t458)) (fun _ h_ => h_.1))))) (Kd.S_lt (by (with_reducible repeat (first | apply Kd.S_alloc | apply Kd.S_drewN | apply Kd.S_drew)); exact (Kd.S_mono (Kd.S_far (p := ⟨gb463, 3, none⟩) (Kd.S_far (p := ⟨gb463, 2, none⟩) (Kd.S_far (p := ⟨gb463, 1, none⟩) (Kd.S_far (p := ⟨gb463, 0, none⟩) (Kd.S_types HO454.out BK463.out (by decide)) (fun _ hk => hk.2) (.int .i64 t455)) (fun _ hk => hk.2) (.int .i64 t456)) (fun _ hk => hk.2) (.int .i64 t457)) (fun _ hk => hk.2) (.int .i64 t458)) (fun _ h_ => h_.1))))) (by (with_reducible repeat (first | apply Kd.S_alloc | apply Kd.S_drewN | apply Kd.S_drew)); exact (Kd.S_mono (Kd.S_far (p := ⟨gb463, 3, none⟩) (Kd.S_far (p := ⟨gb463, 2, none⟩) (Kd.S_far (p := ⟨gb463, 1, none⟩) (Kd.S_far (p := ⟨gb463, 0, none⟩) (Kd.S_types HO461.out BK463.out (by decide)) (fun _ hk => hk.2) (.int .i64 t455)) (fun _ hk => hk.2) (.int .i64 t456)) (fun _ hk => hk.2) (.int .i64 t457)) (fun _ hk => hk.2) (.int .i64 t458)) (fun _ h_ => h_.1))) (Kd.R_base ho0) (below_size (bw2 HB.out GE447.out GE463.out)); have n3_ := Ak (Kd.R_lower (Kd.R_new' ho0 (Kd.R_lt (by (with_reducible repeat (first | apply Kd.R_alloc | apply Kd.R_drewN | apply Kd.R_drew)); exact (Kd.R_mono (Kd.R_far (p := ⟨gb463, 3, none⟩) (Kd.R_far (p := ⟨gb463, 2, none⟩) (Kd.R_far (p := ⟨gb463, 1, none⟩) (Kd.R_far (p := ⟨gb463, 0, none⟩) (Kd.R_types HO451.out BK463.out (by decide)) (fun _ hk => hk.2) (.int .i64 t455)) (fun _ hk => hk.2) (.int .i64 t456)) (fun _ hk => hk.2) (.int .i64 t457)) (fun _ hk => hk.2) (.int .i64 t458)) (fun _ h_ => h_.1))))) (below_size (bw2 HB.out GE447.out GE463.out))); have LN1_ := Ak LN1_; have n4_ := Ak n4_; have n2_ := Ak n2_; have n5_ := Ak (blk_below (g := gb447) (o := .cells #[.slice A0_0 l0_0.length c0_0, .slice A0_1 l0_1.length c0_1] 25 (0, 0)) (by (with_reducible repeat (first | refine blk_drewN ?_ _ | refine blk_drew ?_ | refine blk_alloc ?_ _)); refine blk_far ?_ NB447_463.out _; (with_reducible repeat (first | refine blk_drewN ?_ _ | refine blk_drew ?_ | refine blk_alloc ?_ _)); refine blk_far ?_ NB447_463.out _; (with_reducible repeat (first | refine blk_drewN ?_ _ | refine blk_drew ?_ | refine blk_alloc ?_ _)); refine blk_far ?_ NB447_463.out _; (with_reducible repeat (first | refine blk_drewN ?_ _ | refine blk_drew ?_ | refine blk_alloc ?_ _)); refine blk_far ?_ NB447_463.out _; (with_reducible repeat (first | refine blk_drewN ?_ _ | refine blk_drew ?_ | refine blk_alloc ?_ _)); exact BK447.out) hb); have n6_ := Ak (blk_below (g := gb463) (o := .cells #[.int .i64 t455, .int .i64 t456, .int .i64 t457, .int .i64 t458] 32 (0, 0)) (by (with_reducible repeat (first | refine blk_drewN ?_ _ | refine blk_drew ?_ | refine blk_alloc ?_ _)); refine blk_put (cs := #[.int .i64 t455, .int .i64 t456, .int .i64 t457, .int .i64 0]) ?_ 3 _ rfl; (with_reducible repeat (first | refine blk_drewN ?_ _ | refine blk_drew ?_ | refine blk_alloc ?_ _)); refine blk_put (cs := #[.int .i64 t455, .int .i64 t456, .int .i64 0, .int .i64 0]) ?_ 2 _ rfl; (with_reducible repeat (first | refine blk_drewN ?_ _ | refine blk_drew ?_ | refine blk_alloc ?_ _)); refine blk_put (cs := #[.int .i64 t455, .int .i64 0, .int .i64 0, .int .i64 0]) ?_ 1 _ rfl; (with_reducible repeat (first | refine blk_drewN ?_ _ | refine blk_drew ?_ | refine blk_alloc ?_ _)); refine blk_put (cs := #[.int .i64 0, .int .i64 0, .int .i64 0, .int .i64 0]) ?_ 0 _ rfl; (with_reducible repeat (first | refine blk_drewN ?_ _ | refine blk_drew ?_ | refine blk_alloc ?_ _)); exact BK463.out) hb); have n7_ := Ak (below_step (bw2 HB.out GE447.out GE463.out) hb); clear HO451; clear HO454; clear HO461; clear BK447; clear BK463; clear HB; have HO451 := n0_; have HO454 := n1_; have HO461 := n2_; have HO466 := n3_; have HO469 := n4_; have BK447 := n5_; have BK463 := n6_; have HB := n7_; clear n0_ n1_ n2_ n3_ n4_ n5_ n6_ n7_) | ((with_reducible refine gate_dst (N := 11) rfl ?_); refine box_event ?hg (N := 11) ?hd (cs := #[.slice none 0 0, .slice none 0 0]) (t := 31) ?hr ?_; (case hd => rfl); (case hg => rfl); (case hr => first | (go_simp; done) | (go_simp; rfl)); intro gb470 hg w27 hbox hb; have n0_ := Ak (Kd.R_below (rq HO451.out) hb); have n1_ := Ak (Kd.S_below (sq HO454.out) hb); have n2_ := Ak (Kd.S_below (sq HO461.out) hb); have n3_ := Ak (Kd.R_below (rq HO466.out) hb); have n4_ := Ak (Kd.S_below (sq HO469.out) hb); have n5_ := Ak (blk_below (g := gb447) (o := .cells #[.slice A0_0 l0_0.length c0_0, .slice A0_1 l0_1.length c0_1] 25 (0, 0)) (bq BK447.out) hb); have n6_ := Ak (blk_below (g := gb463) (o := .cells #[.int .i64 t455, .int .i64 t456, .int .i64 t457, .int .i64 t458] 32 (0, 0)) (bq BK463.out) hb); have n7_ := Ak (below_step (bw2 HB.out GE447.out GE463.out) hb); have n8_ := Ak (hbox); have n9_ := Ak ((by rw [hg]; exact (below_size (bw2 HB.out GE447.out GE463.out)) : w.heap.size ≤ gb470)); have n10_ := Ak ((by rw [hg]; exact (below_size (bw2 HB.out GE447.out GE463.out)) : w.heap.size ≤ gb470)); have n11_ := Ak ((by rw [hg]; exact Nat.ne_of_lt (blk_lt (g := gb447) (o := .cells #[.slice A0_0 l0_0.length c0_0, .slice A0_1 l0_1.length c0_1] 25 (0, 0)) (bq BK447.out)) : gb447 ≠ gb470)); have n12_ := Ak ((by rw [hg]; exact Nat.ne_of_gt (blk_lt (g := gb447) (o := .cells #[.slice A0_0 l0_0.length c0_0, .slice A0_1 l0_1.length c0_1] 25 (0, 0)) (bq BK447.out)) : gb470 ≠ gb447)); have n13_ := Ak ((by rw [hg]; exact Nat.ne_of_lt (blk_lt (g := gb463) (o := .cells #[.int .i64 t455, .int .i64 t456, .int .i64 t457, .int .i64 t458] 32 (0, 0)) (bq BK463.out)) : gb463 ≠ gb470)); have n14_ := Ak ((by rw [hg]; exact Nat.ne_of_gt (blk_lt (g := gb463) (o := .cells #[.int .i64 t455, .int .i64 t456, .int .i64 t457, .int .i64 t458] 32 (0, 0)) (bq BK463.out)) : gb470 ≠ gb463)); clear HO451; clear HO454; clear HO461; clear HO466; clear HO469; clear BK447; clear BK463; clear HB; have HO451 := n0_; have HO454 := n1_; have HO461 := n2_; have HO466 := n3_; have HO469 := n4_; have BK447 := n5_; have BK463 := n6_; have HB := n7_; have BK470 := n8_; have GW470 := n9_; have GE470 := n10_; have NB447_470 := n11_; have NB470_447 := n12_; have NB463_470 := n13_; have NB470_463 := n14_; clear n0_ n1_ n2_ n3_ n4_ n5_ n6_ n7_ n8_ n9_ n10_ n11_ n12_ n13_ n14_; clear hb hbox hg; obtain ⟨Ao28, co28, eo28⟩ := Kd.R_slice HO466.out; subst eo28; have hnb29 := NB470_447.out; have hnc29 := NB447_470.out; have hnb30 := NB470_463.out; have hnc30 := NB463_470.out; have hcz31_0 : w27.cell? ⟨gb470, 0, none⟩ = some (.slice none 0 0) := (blk_cell BK470.out 0).trans rfl; have hcz31_1 : w27.cell? ⟨gb470, 1, none⟩ = some (.slice none 0 0) := (blk_cell BK470.out 1).trans rfl; have hfz31_0 := blk_frozen BK470.out 0; have hfz31_1 := blk_frozen BK470.out 1; obtain ⟨Ao32, co32, eo32⟩ := Kd.S_slice HO469.out; subst eo32) | ((with_reducible refine gate_callee (f := 21) rfl ?_); refine goesL_ (some 41) rfl rfl Try.func21 (by kernel_rfl) rfl #[.agg #[.slice Ao28 t464.length co28, .slice Ao32 t467.length co32], .int .i64 a1, .int .i64 a2] rfl gm ?_; (with_reducible refine (impl_LogOpen.calls k _ _ t464 _ _ t467 a1 a2 t471 t472 t473 t474 t475 t478 _ ?side1 ?side2 ?side3 ?side4 A12.out).mono ?_); (case side1 => refine (Kd.R_reads' (e := 5) (base := w.heap.size) (ok := fun k_ => (True ∧ some k_ ≠ (.slice Ao19 t449.length co19 : Value).ownBlock)) (n := t464.length) (c := co28) ?_).2.2; exact (by (with_reducible repeat (first | apply Kd.R_alloc | apply Kd.R_drewN | apply Kd.R_drew)); exact (Kd.R_mono (Kd.R_far (p := ⟨gb470, 1, none⟩) (Kd.R_far (p := ⟨gb470, 0, none⟩) (Kd.R_types HO466.out BK470.out (by decide)) (fun _ hk => hk.2) (.slice Ao28 t464.length co28)) (fun _ hk => hk.2) (.slice Ao32 t467.length co32)) (fun _ h_ => h_.1)))); (case side2 => exact (Kd.R_reads' HO466.out).2.1); (case side3 => refine (Kd.S_reads' (e := 96) (base := N1_) (ok := fun k_ => ((some k_ ≠ (.slice Ao28 t464.length co28 : Value).ownBlock ∧ some k_ ≠ (.slice Ao19 t449.length co19 : Value).ownBlock) ∧ some k_ ≠ (.slice Ao20 t452.length co20 : Value).ownBlock)) (n := t467.length) (c := co32) ?_).2.2; exact (by (with_reducible repeat (first | apply Kd.S_alloc | apply Kd.S_drewN | apply Kd.S_drew)); exact (Kd.S_mono (Kd.S_far (p := ⟨gb470, 1, none⟩) (Kd.S_far (p := ⟨gb470, 0, none⟩) (Kd.S_types HO469.out BK470.out (by decide)) (fun _ hk => hk.2) (.slice Ao28 t464.length co28)) (fun _ hk => hk.2) (.slice Ao32 t467.length co32)) (fun k_ hk_ => by (revert hk_; (try simp only [and_imp]); intros; (repeat' (first | (with_reducible assumption) | (with_reducible refine And.intro ?_ ?_) | trivial))))))); (case side4 => exact (Kd.S_reads' HO469.out).2.1); rintro e w33 ⟨v476, rfl, ho0, hb⟩; refine ⟨_, rfl, ?_⟩; have n0_ := Ak (Kd.R_below (by (with_reducible repeat (first | apply Kd.R_alloc | apply Kd.R_drewN | apply Kd.R_drew)); exact (Kd.R_mono (Kd.R_far (p := ⟨gb470, 1, none⟩) (Kd.R_far (p := ⟨gb470, 0, none⟩) (Kd.R_types HO451.out BK470.out (by decide)) (fun _ hk => hk.2) (.slice Ao28 t464.length co28)) (fun _ hk => hk.2) (.slice Ao32 t467.length co32)) (fun _ h_ => h_.1))) hb); have n1_ := Ak (Kd.S_below (by (with_reducible repeat (first | apply Kd.S_alloc | apply Kd.S_drewN | apply Kd.S_drew)); exact (Kd.S_mono (Kd.S_far (p := ⟨gb470, 1, none⟩) (Kd.S_far (p := ⟨gb470, 0, none⟩) (Kd.S_types HO454.out BK470.out (by decide)) (fun _ hk => hk.2) (.slice Ao28 t464.length co28)) (fun _ hk => hk.2) (.slice Ao32 t467.length co32)) (fun _ h_ => h_.1))) hb); obtain ⟨N3_, LN3_, n5_, n4_, n2_⟩ := lo_name3 (b0 := w.heap.size) hb (Kd.S_new' (Kd.S_new' (Kd.S_new' ho0 (Kd.R_lt (by (with_reducible repeat (first | apply Kd.R_alloc | apply Kd.R_drewN | apply Kd.R_drew)); exact (Kd.R_mono (Kd.R_far (p := ⟨gb470, 1, none⟩) (Kd.R_far (p := ⟨gb470, 0, none⟩) (Kd.R_types HO451.out BK470.out (by decide)) (fun _ hk => hk.2) (.slice Ao28 t464.length co28)) (fun _ hk => hk.2) (.slice Ao32 t467.length co32)) (fun _ h_ => h_.1))))) (Kd.S_lt (by (with_reducible repeat (first | apply Kd.S_alloc | apply Kd.S_drewN | apply Kd.S_drew)); exact (Kd.S_mono (Kd.S_far (p := ⟨gb470, 1, none⟩) (Kd.S_far (p := ⟨gb470, 0, none⟩) (Kd.S_types HO461.out BK470.out (by decide)) (fun _ hk => hk.2) (.slice Ao28 t464.length co28)) (fun _ hk => hk.2) (.slice Ao32 t467.length co32)) (fun _ h_ => h_.1))))) (Kd.R_lt (by (with_reducible repeat (first | apply Kd.R_alloc | apply Kd.R_drewN | apply Kd.R_drew)); exact (Kd.R_mono (Kd.R_far (p := ⟨gb470, 1, none⟩) (Kd.R_far (p := ⟨gb470, 0, none⟩) (Kd.R_types HO466.out BK470.out (by decide)) (fun _ hk => hk.2) (.slice Ao28 t464.length co28)) (fun _ hk => hk.2) (.slice Ao32 t467.length co32)) (fun _ h_ => h_.1))))) (by (with_reducible repeat (first | apply Kd.S_alloc | apply Kd.S_drewN | apply Kd.S_drew)); exact (Kd.S_mono (Kd.S_far (p := ⟨gb470, 1, none⟩) (Kd.S_far (p := ⟨gb470, 0, none⟩) (Kd.S_types HO469.out BK470.out (by decide)) (fun _ hk => hk.2) (.slice Ao28 t464.length co28)) (fun _ hk => hk.2) (.slice Ao32 t467.length co32)) (fun _ h_ => h_.1))) (by (with_reducible repeat (first | apply Kd.S_alloc | apply Kd.S_drewN | apply Kd.S_drew)); exact (Kd.S_mono (Kd.S_far (p := ⟨gb470, 1, none⟩) (Kd.S_far (p := ⟨gb470, 0, none⟩) (Kd.S_types HO461.out BK470.out (by decide)) (fun _ hk => hk.2) (.slice Ao28 t464.length co28)) (fun _ hk => hk.2) (.slice Ao32 t467.length co32)) (fun _ h_ => h_.1))) (below_size (bw3 HB.out GE447.out GE463.out GE470.out)); have n3_ := Ak (Kd.R_below (by (with_reducible repeat (first | apply Kd.R_alloc | apply Kd.R_drewN | apply Kd.R_drew)); exact (Kd.R_mono (Kd.R_far (p := ⟨gb470, 1, none⟩) (Kd.R_far (p := ⟨gb470, 0, none⟩) (Kd.R_types HO466.out BK470.out (by decide)) (fun _ hk => hk.2) (.slice Ao28 t464.length co28)) (fun _ hk => hk.2) (.slice Ao32 t467.length co32)) (fun _ h_ => h_.1))) hb); have n4_ := Ak n4_; have n2_ := Ak n2_; have LN3_ := Ak LN3_; have n5_ := Ak n5_; have n6_ := Ak (blk_below (g := gb447) (o := .cells #[.slice A0_0 l0_0.length c0_0, .slice A0_1 l0_1.length c0_1] 25 (0, 0)) (by (with_reducible repeat (first | refine blk_drewN ?_ _ | refine blk_drew ?_ | refine blk_alloc ?_ _)); refine blk_far ?_ NB447_470.out _; (with_reducible repeat (first | refine blk_drewN ?_ _ | refine blk_drew ?_ | refine blk_alloc ?_ _)); refine blk_far ?_ NB447_470.out _; (with_reducible repeat (first | refine blk_drewN ?_ _ | refine blk_drew ?_ | refine blk_alloc ?_ _)); exact BK447.out) hb); have n7_ := Ak (blk_below (g := gb463) (o := .cells #[.int .i64 t455, .int .i64 t456, .int .i64 t457, .int .i64 t458] 32 (0, 0)) (by (with_reducible repeat (first | refine blk_drewN ?_ _ | refine blk_drew ?_ | refine blk_alloc ?_ _)); refine blk_far ?_ NB463_470.out _; (with_reducible repeat (first | refine blk_drewN ?_ _ | refine blk_drew ?_ | refine blk_alloc ?_ _)); refine blk_far ?_ NB463_470.out _; (with_reducible repeat (first | refine blk_drewN ?_ _ | refine blk_drew ?_ | refine blk_alloc ?_ _)); exact BK463.out) hb); have n8_ := Ak (blk_below (g := gb470) (o := .cells #[.slice Ao28 t464.length co28, .slice Ao32 t467.length co32] 31 (0, 0)) (by (with_reducible repeat (first | refine blk_drewN ?_ _ | refine blk_drew ?_ | refine blk_alloc ?_ _)); refine blk_put (cs := #[.slice Ao28 t464.length co28, .slice none 0 0]) ?_ 1 _ rfl; (with_reducible repeat (first | refine blk_drewN ?_ _ | refine blk_drew ?_ | refine blk_alloc ?_ _)); refine blk_put (cs := #[.slice none 0 0, .slice none 0 0]) ?_ 0 _ rfl; (with_reducible repeat (first | refine blk_drewN ?_ _ | refine blk_drew ?_ | refine blk_alloc ?_ _)); exact BK470.out) hb); have n9_ := Ak (below_step (bw3 HB.out GE447.out GE463.out GE470.out) hb); clear HO451; clear HO454; clear HO461; clear HO466; clear HO469; clear BK447; clear BK463; clear BK470; clear HB; have HO451 := n0_; have HO454 := n1_; have HO461 := n2_; have HO466 := n3_; have HO469 := n4_; have HO477 := n5_; have BK447 := n6_; have BK463 := n7_; have BK470 := n8_; have HB := n9_; clear n0_ n1_ n2_ n3_ n4_ n5_ n6_ n7_ n8_ n9_) | ((with_reducible refine gate_dst (N := 12) rfl ?_); refine box_event ?hg (N := 12) ?hd (cs := #[.int .i64 0, .int .i64 0, .int .i64 0, .int .i64 0]) (t := 32) ?hr ?_; (case hd => rfl); (case hg => rfl); (case hr => first | (go_simp; done) | (go_simp; rfl)); intro gb479 hg w34 hbox hb; have n0_ := Ak (Kd.R_below (rq HO451.out) hb); have n1_ := Ak (Kd.S_below (sq HO454.out) hb); have n2_ := Ak (Kd.S_below (sq HO461.out) hb); have n3_ := Ak (Kd.R_below (rq HO466.out) hb); have n4_ := Ak (Kd.S_below (sq HO469.out) hb); have n5_ := Ak (Kd.S_below (sq HO477.out) hb); have n6_ := Ak (blk_below (g := gb447) (o := .cells #[.slice A0_0 l0_0.length c0_0, .slice A0_1 l0_1.length c0_1] 25 (0, 0)) (bq BK447.out) hb); have n7_ := Ak (blk_below (g := gb463) (o := .cells #[.int .i64 t455, .int .i64 t456, .int .i64 t457, .int .i64 t458] 32 (0, 0)) (bq BK463.out) hb); have n8_ := Ak (blk_below (g := gb470) (o := .cells #[.slice Ao28 t464.length co28, .slice Ao32 t467.length co32] 31 (0, 0)) (bq BK470.out) hb); have n9_ := Ak (below_step (bw3 HB.out GE447.out GE463.out GE470.out) hb); have n10_ := Ak (hbox); have n11_ := Ak ((by rw [hg]; exact (below_size (bw3 HB.out GE447.out GE463.out GE470.out)) : w.heap.size ≤ gb479)); have n12_ := Ak ((by rw [hg]; exact (below_size (bw3 HB.out GE447.out GE463.out GE470.out)) : w.heap.size ≤ gb479)); have n13_ := Ak ((by rw [hg]; exact Nat.ne_of_lt (blk_lt (g := gb447) (o := .cells #[.slice A0_0 l0_0.length c0_0, .slice A0_1 l0_1.length c0_1] 25 (0, 0)) (bq BK447.out)) : gb447 ≠ gb479)); have n14_ := Ak ((by rw [hg]; exact Nat.ne_of_gt (blk_lt (g := gb447) (o := .cells #[.slice A0_0 l0_0.length c0_0, .slice A0_1 l0_1.length c0_1] 25 (0, 0)) (bq BK447.out)) : gb479 ≠ gb447)); have n15_ := Ak ((by rw [hg]; exact Nat.ne_of_lt (blk_lt (g := gb463) (o := .cells #[.int .i64 t455, .int .i64 t456, .int .i64 t457, .int .i64 t458] 32 (0, 0)) (bq BK463.out)) : gb463 ≠ gb479)); have n16_ := Ak ((by rw [hg]; exact Nat.ne_of_gt (blk_lt (g := gb463) (o := .cells #[.int .i64 t455, .int .i64 t456, .int .i64 t457, .int .i64 t458] 32 (0, 0)) (bq BK463.out)) : gb479 ≠ gb463)); have n17_ := Ak ((by rw [hg]; exact Nat.ne_of_lt (blk_lt (g := gb470) (o := .cells #[.slice Ao28 t464.length co28, .slice Ao32 t467.length co32] 31 (0, 0)) (bq BK470.out)) : gb470 ≠ gb479)); have n18_ := Ak ((by rw [hg]; exact Nat.ne_of_gt (blk_lt (g := gb470) (o := .cells #[.slice Ao28 t464.length co28, .slice Ao32 t467.length co32] 31 (0, 0)) (bq BK470.out)) : gb479 ≠ gb470)); clear HO451; clear HO454; clear HO461; clear HO466; clear HO469; clear HO477; clear BK447; clear BK463; clear BK470; clear HB; have HO451 := n0_; have HO454 := n1_; have HO461 := n2_; have HO466 := n3_; have HO469 := n4_; have HO477 := n5_; have BK447 := n6_; have BK463 := n7_; have BK470 := n8_; have HB := n9_; have BK479 := n10_; have GW479 := n11_; have GE479 := n12_; have NB447_479 := n13_; have NB479_447 := n14_; have NB463_479 := n15_; have NB479_463 := n16_; have NB470_479 := n17_; have NB479_470 := n18_; clear n0_ n1_ n2_ n3_ n4_ n5_ n6_ n7_ n8_ n9_ n10_ n11_ n12_ n13_ n14_ n15_ n16_ n17_ n18_; clear hb hbox hg; have hnb35 := NB479_447.out; have hnc35 := NB447_479.out; have hnb36 := NB479_463.out; have hnc36 := NB463_479.out; have hnb37 := NB479_470.out; have hnc37 := NB470_479.out; have hcz38_0 : w34.cell? ⟨gb479, 0, none⟩ = some (.int .i64 0) := (blk_cell BK479.out 0).trans rfl; have hcz38_1 : w34.cell? ⟨gb479, 1, none⟩ = some (.int .i64 0) := (blk_cell BK479.out 1).trans rfl; have hcz38_2 : w34.cell? ⟨gb479, 2, none⟩ = some (.int .i64 0) := (blk_cell BK479.out 2).trans rfl; have hcz38_3 : w34.cell? ⟨gb479, 3, none⟩ = some (.int .i64 0) := (blk_cell BK479.out 3).trans rfl; have hfz38_0 := blk_frozen BK479.out 0; have hfz38_1 := blk_frozen BK479.out 1; have hfz38_2 := blk_frozen BK479.out 2; have hfz38_3 := blk_frozen BK479.out 3))
  (try simp only [Act.put, sT, sZ, sS])
  go_cut [59] (fun v59 wc => ∃ (kq : Nat) (x59_12 : Bool), v59 = .bool x59_12 ∧ Aside0 (laws_FnExactLogOpen.j0 kq a1 a2 t459 t462 t475 t478 x59_12 l0_0 l0_1 t455 t456 t457 t458 t464 t467 t471 t472 t473 t474 = some r) ∧ Aside0 (kq ≤ k) ∧ Aside0 (Kd.S (Kd.slice 5 (Kd.int .u8)) 22 wc w.heap.size (fun k_ => some k_ ≠ (v476 : Value).ownBlock ∧ some k_ ≠ ((.slice Ao28 t464.length co28) : Value).ownBlock ∧ k_ < N1_ ∧ k_ < N3_) v460 t459) ∧ Aside0 (Kd.S (Kd.slice 5 (Kd.int .u8)) 22 wc N3_ (fun k_ => some k_ ≠ (v460 : Value).ownBlock ∧ some k_ ≠ ((.slice Ao28 t464.length co28) : Value).ownBlock) v476 t475) ∧ Aside0 (Kd.R (Kd.int .u8) 5 wc w.heap.size (fun _ => True) (.slice Ao28 t464.length co28) t464) ∧ Aside0 (Kd.S k96 96 wc N1_ (fun k_ => some k_ ≠ ((.slice Ao28 t464.length co28) : Value).ownBlock ∧ k_ < N3_) (.slice Ao32 t467.length co32) t467) ∧ Aside0 (wc.heap[gb447]? = some (.cells #[(.slice A0_0 l0_0.length c0_0), (.slice A0_1 l0_1.length c0_1)] 25 (0, 0))) ∧ Aside0 (wc.heap[gb463]? = some (.cells #[.int .i64 t455, .int .i64 t456, .int .i64 t457, .int .i64 t458] 32 (0, 0))) ∧ Aside0 (wc.heap[gb470]? = some (.cells #[(.slice Ao28 t464.length co28), (.slice Ao32 t467.length co32)] 31 (0, 0))) ∧ Aside0 (wc.heap[gb479]? = some (.cells #[.int .i64 t471, .int .i64 t472, .int .i64 t473, .int .i64 t474] 32 (0, 0))) ∧ Aside0 (Below w.heap.size w wc))
  case first =>
   have H := HC13.out
   clear HC13
   replace H := Option.bind_eq_some_iff.mp H
   obtain ⟨t480, A390, H⟩ := H
   replace H : (if t480 = true then ((laws_eqByteSS.f k t475 t459).bind fun t481 => (if t481 = true then (laws_FnExactLogOpen.j0 k a1 a2 t459 t462 t475 t478 (t478 != t462) l0_0 l0_1 t455 t456 t457 t458 t464 t467 t471 t472 t473 t474) else (laws_FnExactLogOpen.j0 k a1 a2 t459 t462 t475 t478 true l0_0 l0_1 t455 t456 t457 t458 t464 t467 t471 t472 t473 t474))) else (laws_FnExactLogOpen.j0 k a1 a2 t459 t462 t475 t478 true l0_0 l0_1 t455 t456 t457 t458 t464 t467 t471 t472 t473 t474)) = some r := H
   have A39 := Ak A390
   clear A390
   by_cases c40 : t480 = true
   ·subst c40
    have H1 : ((laws_eqByteSS.f k t475 t459).bind fun t481 => (if t481 = true then (laws_FnExactLogOpen.j0 k a1 a2 t459 t462 t475 t478 (t478 != t462) l0_0 l0_1 t455 t456 t457 t458 t464 t467 t471 t472 t473 t474) else (laws_FnExactLogOpen.j0 k a1 a2 t459 t462 t475 t478 true l0_0 l0_1 t455 t456 t457 t458 t464 t467 t471 t472 t473 t474))) = some r := by rw [if_pos rfl] at H; exact H
    clear H
    have H := H1
    clear H1
    replace H := Option.bind_eq_some_iff.mp H
    obtain ⟨t481, A410, H⟩ := H
    replace H : (if t481 = true then (laws_FnExactLogOpen.j0 k a1 a2 t459 t462 t475 t478 (t478 != t462) l0_0 l0_1 t455 t456 t457 t458 t464 t467 t471 t472 t473 t474) else (laws_FnExactLogOpen.j0 k a1 a2 t459 t462 t475 t478 true l0_0 l0_1 t455 t456 t457 t458 t464 t467 t471 t472 t473 t474)) = some r := H
    have A41 := Ak A410
    clear A410
    by_cases c42 : t481 = true
    ·subst c42
     have H1 : (laws_FnExactLogOpen.j0 k a1 a2 t459 t462 t475 t478 (t478 != t462) l0_0 l0_1 t455 t456 t457 t458 t464 t467 t471 t472 t473 t474) = some r := by rw [if_pos rfl] at H; exact H
     clear H
     have H := H1
     clear H1
     have H' := Ak H
     clear H
     have hnb43 := NB479_447.out
     have hnc43 := NB447_479.out
     have hnb44 := NB479_463.out
     have hnc44 := NB463_479.out
     have hnb45 := NB479_470.out
     have hnc45 := NB470_479.out
     have hcz46_0 : w34.cell? ⟨gb479, 0, none⟩ = some (.int .i64 0) := (blk_cell BK479.out 0).trans rfl
     have hcz46_1 : w34.cell? ⟨gb479, 1, none⟩ = some (.int .i64 0) := (blk_cell BK479.out 1).trans rfl
     have hcz46_2 : w34.cell? ⟨gb479, 2, none⟩ = some (.int .i64 0) := (blk_cell BK479.out 2).trans rfl
     have hcz46_3 : w34.cell? ⟨gb479, 3, none⟩ = some (.int .i64 0) := (blk_cell BK479.out 3).trans rfl
     have hfz46_0 := blk_frozen BK479.out 0
     have hfz46_1 := blk_frozen BK479.out 1
     have hfz46_2 := blk_frozen BK479.out 2
     have hfz46_3 := blk_frozen BK479.out 3
     have hnb47 := NB463_447.out
     have hnc47 := NB447_463.out
     have hnb48 := NB463_470.out
     have hnc48 := NB470_463.out
     have hcz49_0 : w34.cell? ⟨gb463, 0, none⟩ = some (.int .i64 t455) := (blk_cell BK463.out 0).trans rfl
     have hcz49_1 : w34.cell? ⟨gb463, 1, none⟩ = some (.int .i64 t456) := (blk_cell BK463.out 1).trans rfl
     have hcz49_2 : w34.cell? ⟨gb463, 2, none⟩ = some (.int .i64 t457) := (blk_cell BK463.out 2).trans rfl
     have hcz49_3 : w34.cell? ⟨gb463, 3, none⟩ = some (.int .i64 t458) := (blk_cell BK463.out 3).trans rfl
     have hfz49_0 := blk_frozen BK463.out 0
     have hfz49_1 := blk_frozen BK463.out 1
     have hfz49_2 := blk_frozen BK463.out 2
     have hfz49_3 := blk_frozen BK463.out 3
     go_wp2_with (first | ((with_reducible refine gate_callee (f := 15) rfl ?_); refine goesL_ (some 47) rfl rfl Try.func15 (by kernel_rfl) rfl #[.agg #[.int .i64 t471, .int .i64 t472, .int .i64 t473, .int .i64 t474], .agg #[.int .i64 t455, .int .i64 t456, .int .i64 t457, .int .i64 t458]] rfl gm ?_; (with_reducible refine (laws_eqLog.calls t471 t472 t473 t474 t455 t456 t457 t458 true _ A39.out).mono ?_); rintro e w50 ⟨rfl, hb⟩; refine ⟨_, rfl, ?_⟩; have n0_ := Ak (Kd.R_below (by (with_reducible repeat (first | apply Kd.R_alloc | apply Kd.R_drewN | apply Kd.R_drew)); exact (Kd.R_mono (Kd.R_far (p := ⟨gb479, 3, none⟩) (Kd.R_far (p := ⟨gb479, 2, none⟩) (Kd.R_far (p := ⟨gb479, 1, none⟩) (Kd.R_far (p := ⟨gb479, 0, none⟩) (Kd.R_types HO451.out BK479.out (by decide)) (fun _ hk => hk.2) (.int .i64 t471)) (fun _ hk => hk.2) (.int .i64 t472)) (fun _ hk => hk.2) (.int .i64 t473)) (fun _ hk => hk.2) (.int .i64 t474)) (fun _ h_ => h_.1))) hb); have n1_ := Ak (Kd.S_below (by (with_reducible repeat (first | apply Kd.S_alloc | apply Kd.S_drewN | apply Kd.S_drew)); exact (Kd.S_mono (Kd.S_far (p := ⟨gb479, 3, none⟩) (Kd.S_far (p := ⟨gb479, 2, none⟩) (Kd.S_far (p := ⟨gb479, 1, none⟩) (Kd.S_far (p := ⟨gb479, 0, none⟩) (Kd.S_types HO454.out BK479.out (by decide)) (fun _ hk => hk.2) (.int .i64 t471)) (fun _ hk => hk.2) (.int .i64 t472)) (fun _ hk => hk.2) (.int .i64 t473)) (fun _ hk => hk.2) (.int .i64 t474)) (fun _ h_ => h_.1))) hb); have n2_ := Ak (Kd.S_below (by (with_reducible repeat (first | apply Kd.S_alloc | apply Kd.S_drewN | apply Kd.S_drew)); exact (Kd.S_mono (Kd.S_far (p := ⟨gb479, 3, none⟩) (Kd.S_far (p := ⟨gb479, 2, none⟩) (Kd.S_far (p := ⟨gb479, 1, none⟩) (Kd.S_far (p := ⟨gb479, 0, none⟩) (Kd.S_types HO461.out BK479.out (by decide)) (fun _ hk => hk.2) (.int .i64 t471)) (fun _ hk => hk.2) (.int .i64 t472)) (fun _ hk => hk.2) (.int .i64 t473)) (fun _ hk => hk.2) (.int .i64 t474)) (fun _ h_ => h_.1))) hb); have n3_ := Ak (Kd.R_below (by (with_reducible repeat (first | apply Kd.R_alloc | apply Kd.R_drewN | apply Kd.R_drew)); exact (Kd.R_mono (Kd.R_far (p := ⟨gb479, 3, none⟩) (Kd.R_far (p := ⟨gb479, 2, none⟩) (Kd.R_far (p := ⟨gb479, 1, none⟩) (Kd.R_far (p := ⟨gb479, 0, none⟩) (Kd.R_types HO466.out BK479.out (by decide)) (fun _ hk => hk.2) (.int .i64 t471)) (fun _ hk => hk.2) (.int .i64 t472)) (fun _ hk => hk.2) (.int .i64 t473)) (fun _ hk => hk.2) (.int .i64 t474)) (fun _ h_ => h_.1))) hb); have n4_ := Ak (Kd.S_below (by (with_reducible repeat (first | apply Kd.S_alloc | apply Kd.S_drewN | apply Kd.S_drew)); exact (Kd.S_mono (Kd.S_far (p := ⟨gb479, 3, none⟩) (Kd.S_far (p := ⟨gb479, 2, none⟩) (Kd.S_far (p := ⟨gb479, 1, none⟩) (Kd.S_far (p := ⟨gb479, 0, none⟩) (Kd.S_types HO469.out BK479.out (by decide)) (fun _ hk => hk.2) (.int .i64 t471)) (fun _ hk => hk.2) (.int .i64 t472)) (fun _ hk => hk.2) (.int .i64 t473)) (fun _ hk => hk.2) (.int .i64 t474)) (fun _ h_ => h_.1))) hb); have n5_ := Ak (Kd.S_below (by (with_reducible repeat (first | apply Kd.S_alloc | apply Kd.S_drewN | apply Kd.S_drew)); exact (Kd.S_mono (Kd.S_far (p := ⟨gb479, 3, none⟩) (Kd.S_far (p := ⟨gb479, 2, none⟩) (Kd.S_far (p := ⟨gb479, 1, none⟩) (Kd.S_far (p := ⟨gb479, 0, none⟩) (Kd.S_types HO477.out BK479.out (by decide)) (fun _ hk => hk.2) (.int .i64 t471)) (fun _ hk => hk.2) (.int .i64 t472)) (fun _ hk => hk.2) (.int .i64 t473)) (fun _ hk => hk.2) (.int .i64 t474)) (fun _ h_ => h_.1))) hb); have n6_ := Ak (blk_below (g := gb447) (o := .cells #[.slice A0_0 l0_0.length c0_0, .slice A0_1 l0_1.length c0_1] 25 (0, 0)) (by (with_reducible repeat (first | refine blk_drewN ?_ _ | refine blk_drew ?_ | refine blk_alloc ?_ _)); refine blk_far ?_ NB447_479.out _; (with_reducible repeat (first | refine blk_drewN ?_ _ | refine blk_drew ?_ | refine blk_alloc ?_ _)); refine blk_far ?_ NB447_479.out _; (with_reducible repeat (first | refine blk_drewN ?_ _ | refine blk_drew ?_ | refine blk_alloc ?_ _)); refine blk_far ?_ NB447_479.out _; (with_reducible repeat (first | refine blk_drewN ?_ _ | refine blk_drew ?_ | refine blk_alloc ?_ _)); refine blk_far ?_ NB447_479.out _; (with_reducible repeat (first | refine blk_drewN ?_ _ | refine blk_drew ?_ | refine blk_alloc ?_ _)); exact BK447.out) hb); have n7_ := Ak (blk_below (g := gb463) (o := .cells #[.int .i64 t455, .int .i64 t456, .int .i64 t457, .int .i64 t458] 32 (0, 0)) (by (with_reducible repeat (first | refine blk_drewN ?_ _ | refine blk_drew ?_ | refine blk_alloc ?_ _)); refine blk_far ?_ NB463_479.out _; (with_reducible repeat (first | refine blk_drewN ?_ _ | refine blk_drew ?_ | refine blk_alloc ?_ _)); refine blk_far ?_ NB463_479.out _; (with_reducible repeat (first | refine blk_drewN ?_ _ | refine blk_drew ?_ | refine blk_alloc ?_ _)); refine blk_far ?_ NB463_479.out _; (with_reducible repeat (first | refine blk_drewN ?_ _ | refine blk_drew ?_ | refine blk_alloc ?_ _)); refine blk_far ?_ NB463_479.out _; (with_reducible repeat (first | refine blk_drewN ?_ _ | refine blk_drew ?_ | refine blk_alloc ?_ _)); exact BK463.out) hb); have n8_ := Ak (blk_below (g := gb470) (o := .cells #[.slice Ao28 t464.length co28, .slice Ao32 t467.length co32] 31 (0, 0)) (by (with_reducible repeat (first | refine blk_drewN ?_ _ | refine blk_drew ?_ | refine blk_alloc ?_ _)); refine blk_far ?_ NB470_479.out _; (with_reducible repeat (first | refine blk_drewN ?_ _ | refine blk_drew ?_ | refine blk_alloc ?_ _)); refine blk_far ?_ NB470_479.out _; (with_reducible repeat (first | refine blk_drewN ?_ _ | refine blk_drew ?_ | refine blk_alloc ?_ _)); refine blk_far ?_ NB470_479.out _; (with_reducible repeat (first | refine blk_drewN ?_ _ | refine blk_drew ?_ | refine blk_alloc ?_ _)); refine blk_far ?_ NB470_479.out _; (with_reducible repeat (first | refine blk_drewN ?_ _ | refine blk_drew ?_ | refine blk_alloc ?_ _)); exact BK470.out) hb); have n9_ := Ak (blk_below (g := gb479) (o := .cells #[.int .i64 t471, .int .i64 t472, .int .i64 t473, .int .i64 t474] 32 (0, 0)) (by (with_reducible repeat (first | refine blk_drewN ?_ _ | refine blk_drew ?_ | refine blk_alloc ?_ _)); refine blk_put (cs := #[.int .i64 t471, .int .i64 t472, .int .i64 t473, .int .i64 0]) ?_ 3 _ rfl; (with_reducible repeat (first | refine blk_drewN ?_ _ | refine blk_drew ?_ | refine blk_alloc ?_ _)); refine blk_put (cs := #[.int .i64 t471, .int .i64 t472, .int .i64 0, .int .i64 0]) ?_ 2 _ rfl; (with_reducible repeat (first | refine blk_drewN ?_ _ | refine blk_drew ?_ | refine blk_alloc ?_ _)); refine blk_put (cs := #[.int .i64 t471, .int .i64 0, .int .i64 0, .int .i64 0]) ?_ 1 _ rfl; (with_reducible repeat (first | refine blk_drewN ?_ _ | refine blk_drew ?_ | refine blk_alloc ?_ _)); refine blk_put (cs := #[.int .i64 0, .int .i64 0, .int .i64 0, .int .i64 0]) ?_ 0 _ rfl; (with_reducible repeat (first | refine blk_drewN ?_ _ | refine blk_drew ?_ | refine blk_alloc ?_ _)); exact BK479.out) hb); have n10_ := Ak (below_step (bw4 HB.out GE447.out GE463.out GE470.out GE479.out) hb); clear HO451; clear HO454; clear HO461; clear HO466; clear HO469; clear HO477; clear BK447; clear BK463; clear BK470; clear BK479; clear HB; have HO451 := n0_; have HO454 := n1_; have HO461 := n2_; have HO466 := n3_; have HO469 := n4_; have HO477 := n5_; have BK447 := n6_; have BK463 := n7_; have BK470 := n8_; have BK479 := n9_; have HB := n10_; clear n0_ n1_ n2_ n3_ n4_ n5_ n6_ n7_ n8_ n9_ n10_; obtain ⟨Ao51, co51, eo51⟩ := Kd.S_slice HO477.out; subst eo51; obtain ⟨Ao52, co52, eo52⟩ := Kd.S_slice HO461.out; subst eo52) | (go_at_call 22; (with_reducible refine (laws_eqByteSS.calls k _ _ t475 _ _ t459 true _ ?side1 ?side2 ?side3 ?side4 A41.out).mono ?_); (case side1 => repeat (first | exact (Kd.S_reads' HO477.out).2.2 | (with_reducible refine Kd.C_alloc ?_ _) | (with_reducible refine Kd.C_drewN ?_ _) | (with_reducible refine Kd.C_drew ?_))); (case side2 => exact (Kd.S_reads' HO477.out).2.1); (case side3 => repeat (first | exact (Kd.S_reads' HO461.out).2.2 | (with_reducible refine Kd.C_alloc ?_ _) | (with_reducible refine Kd.C_drewN ?_ _) | (with_reducible refine Kd.C_drew ?_))); (case side4 => exact (Kd.S_reads' HO461.out).2.1); rintro e w' ⟨rfl, ⟨nd, rfl⟩⟩))
     go_meet
     case rel => exact ⟨_, ((t478 != t462)), (by first | rfl | (simp; done) | (simp [*]; done)), H', ⟨by first | omega | exact Nat.le_refl _⟩, ⟨by (with_reducible repeat (first | apply Kd.S_alloc | apply Kd.S_drewN | apply Kd.S_drew)); exact Kd.S_mono HO461.out (fun k_ hk_ => by (revert hk_; (try simp only [and_imp]); intros; (repeat' (first | (with_reducible assumption) | (with_reducible refine And.intro ?_ ?_) | trivial))))⟩, ⟨by (with_reducible repeat (first | apply Kd.S_alloc | apply Kd.S_drewN | apply Kd.S_drew)); exact Kd.S_mono HO477.out (fun k_ hk_ => by (revert hk_; (try simp only [and_imp]); intros; (repeat' (first | (with_reducible assumption) | (with_reducible refine And.intro ?_ ?_) | trivial))))⟩, ⟨by (with_reducible repeat (first | apply Kd.R_alloc | apply Kd.R_drewN | apply Kd.R_drew)); exact Kd.R_mono HO466.out (fun _ hk => trivial)⟩, ⟨by (with_reducible repeat (first | apply Kd.S_alloc | apply Kd.S_drewN | apply Kd.S_drew)); exact Kd.S_mono HO469.out (fun k_ hk_ => by (revert hk_; (try simp only [and_imp]); intros; (repeat' (first | (with_reducible assumption) | (with_reducible refine And.intro ?_ ?_) | trivial))))⟩, ⟨bq BK447.out⟩, ⟨bq BK463.out⟩, ⟨bq BK470.out⟩, ⟨bq BK479.out⟩, ⟨bw4 HB.out GE447.out GE463.out GE470.out GE479.out⟩⟩
    ·replace c42 := Bool.eq_false_iff.mpr c42
     subst c42
     have H1 : (laws_FnExactLogOpen.j0 k a1 a2 t459 t462 t475 t478 true l0_0 l0_1 t455 t456 t457 t458 t464 t467 t471 t472 t473 t474) = some r := by rw [if_neg (show ¬ (false = true) by decide)] at H; exact H
     clear H
     exact by (cases k with | zero => exact absurd H1 (by simp [laws_FnExactLogOpen.j0]) | succ q_ => (exact absurd ((Option.some.inj (show some false = some r from by simpa only [laws_FnExactLogOpen.j0, if_true] using H1)).trans hrt) (by decide)))
   ·replace c40 := Bool.eq_false_iff.mpr c40
    subst c40
    have H1 : (laws_FnExactLogOpen.j0 k a1 a2 t459 t462 t475 t478 true l0_0 l0_1 t455 t456 t457 t458 t464 t467 t471 t472 t473 t474) = some r := by rw [if_neg (show ¬ (false = true) by decide)] at H; exact H
    clear H
    exact by (cases k with | zero => exact absurd H1 (by simp [laws_FnExactLogOpen.j0]) | succ q_ => (exact absurd ((Option.some.inj (show some false = some r from by simpa only [laws_FnExactLogOpen.j0, if_true] using H1)).trans hrt) (by decide)))
  case rest =>
   clear HC13
   try clear c5b0
   obtain ⟨kq, x59_12, rfl, HA, HJ12, HO_9, HO_13, HO_471000, HO_471001, BK447, BK463, BK470, BK479, HB⟩ := hcut
   cases kq with
   | zero => exact absurd HA.out (by simp [laws_FnExactLogOpen.j0])
   | succ kj12 =>
    have H := HA.out
    clear HA
    simp only [laws_FnExactLogOpen.j0] at H
    by_cases c71 : x59_12 = true
    ·subst c71
     have H1 : (some false) = some r := by rw [if_pos rfl] at H; exact H
     clear H
     have H := H1
     clear H1
     exact absurd ((Option.some.inj H).trans hrt) (by decide)
    ·replace c71 := Bool.eq_false_iff.mpr c71
     subst c71
     have H1 : ((laws_toDisk.f kj12 l0_0 l0_1).bind fun bt482 => ((laws_eqDisk.f kj12 t464 t467 bt482.1 bt482.2).bind fun t488 => (if t488 = true then ((laws_markDisk.f kj12 t464 t467 1).bind fun bt489 => (if bt489.1 < 0 then (laws_FnExactLogOpen.j1 kj12 a1 a2 t459 t462 t475 true l0_0 l0_1 t455 t456 t457 t458) else ((laws_eqLog.f t471 t472 t473 t474 t455 t456 t457 t458).bind fun t491 => (if t491 = true then ((laws_eqByteSS.f kj12 t475 t459).bind fun t492 => (if t492 = true then (laws_FnExactLogOpen.j1 kj12 a1 a2 t459 t462 t475 (t478 != t462) l0_0 l0_1 t455 t456 t457 t458) else (laws_FnExactLogOpen.j1 kj12 a1 a2 t459 t462 t475 true l0_0 l0_1 t455 t456 t457 t458))) else (laws_FnExactLogOpen.j1 kj12 a1 a2 t459 t462 t475 true l0_0 l0_1 t455 t456 t457 t458))))) else (some false)))) = some r := by rw [if_neg (show ¬ (false = true) by decide)] at H; exact H
     clear H
     have H := H1
     clear H1
     replace H := Option.bind_eq_some_iff.mp H
     obtain ⟨⟨t482, t485⟩, A720, H⟩ := H
     replace H : ((laws_eqDisk.f kj12 t464 t467 t482 t485).bind fun t488 => (if t488 = true then ((laws_markDisk.f kj12 t464 t467 1).bind fun bt489 => (if bt489.1 < 0 then (laws_FnExactLogOpen.j1 kj12 a1 a2 t459 t462 t475 true l0_0 l0_1 t455 t456 t457 t458) else ((laws_eqLog.f t471 t472 t473 t474 t455 t456 t457 t458).bind fun t491 => (if t491 = true then ((laws_eqByteSS.f kj12 t475 t459).bind fun t492 => (if t492 = true then (laws_FnExactLogOpen.j1 kj12 a1 a2 t459 t462 t475 (t478 != t462) l0_0 l0_1 t455 t456 t457 t458) else (laws_FnExactLogOpen.j1 kj12 a1 a2 t459 t462 t475 true l0_0 l0_1 t455 t456 t457 t458))) else (laws_FnExactLogOpen.j1 kj12 a1 a2 t459 t462 t475 true l0_0 l0_1 t455 t456 t457 t458))))) else (some false))) = some r := H
     have A72 := Ak A720
     clear A720
     replace H := Option.bind_eq_some_iff.mp H
     obtain ⟨t488, A730, H⟩ := H
     replace H : (if t488 = true then ((laws_markDisk.f kj12 t464 t467 1).bind fun bt489 => (if bt489.1 < 0 then (laws_FnExactLogOpen.j1 kj12 a1 a2 t459 t462 t475 true l0_0 l0_1 t455 t456 t457 t458) else ((laws_eqLog.f t471 t472 t473 t474 t455 t456 t457 t458).bind fun t491 => (if t491 = true then ((laws_eqByteSS.f kj12 t475 t459).bind fun t492 => (if t492 = true then (laws_FnExactLogOpen.j1 kj12 a1 a2 t459 t462 t475 (t478 != t462) l0_0 l0_1 t455 t456 t457 t458) else (laws_FnExactLogOpen.j1 kj12 a1 a2 t459 t462 t475 true l0_0 l0_1 t455 t456 t457 t458))) else (laws_FnExactLogOpen.j1 kj12 a1 a2 t459 t462 t475 true l0_0 l0_1 t455 t456 t457 t458))))) else (some false)) = some r := H
     have A73 := Ak A730
     clear A730
     by_cases c74 : t488 = true
     ·subst c74
      have H1 : ((laws_markDisk.f kj12 t464 t467 1).bind fun bt489 => (if bt489.1 < 0 then (laws_FnExactLogOpen.j1 kj12 a1 a2 t459 t462 t475 true l0_0 l0_1 t455 t456 t457 t458) else ((laws_eqLog.f t471 t472 t473 t474 t455 t456 t457 t458).bind fun t491 => (if t491 = true then ((laws_eqByteSS.f kj12 t475 t459).bind fun t492 => (if t492 = true then (laws_FnExactLogOpen.j1 kj12 a1 a2 t459 t462 t475 (t478 != t462) l0_0 l0_1 t455 t456 t457 t458) else (laws_FnExactLogOpen.j1 kj12 a1 a2 t459 t462 t475 true l0_0 l0_1 t455 t456 t457 t458))) else (laws_FnExactLogOpen.j1 kj12 a1 a2 t459 t462 t475 true l0_0 l0_1 t455 t456 t457 t458))))) = some r := by rw [if_pos rfl] at H; exact H
      clear H
      have H := H1
      clear H1
      replace H := Option.bind_eq_some_iff.mp H
      obtain ⟨⟨t489, t490, y490⟩, A750, H⟩ := H
      replace H : (if t489 < 0 then (laws_FnExactLogOpen.j1 kj12 a1 a2 t459 t462 t475 true l0_0 l0_1 t455 t456 t457 t458) else ((laws_eqLog.f t471 t472 t473 t474 t455 t456 t457 t458).bind fun t491 => (if t491 = true then ((laws_eqByteSS.f kj12 t475 t459).bind fun t492 => (if t492 = true then (laws_FnExactLogOpen.j1 kj12 a1 a2 t459 t462 t475 (t478 != t462) l0_0 l0_1 t455 t456 t457 t458) else (laws_FnExactLogOpen.j1 kj12 a1 a2 t459 t462 t475 true l0_0 l0_1 t455 t456 t457 t458))) else (laws_FnExactLogOpen.j1 kj12 a1 a2 t459 t462 t475 true l0_0 l0_1 t455 t456 t457 t458)))) = some r := H
      have A75 := Ak A750
      clear A750
      have HC76 := Ak H
      clear H
      try go_wp2
      have n0_ := Ak (Kd.S_drew HO_9.out)
      have n1_ := Ak (Kd.S_drew HO_13.out)
      have n2_ := Ak (Kd.R_drew HO_471000.out)
      have n3_ := Ak (Kd.S_drew HO_471001.out)
      have n4_ := Ak (blk_drew BK447.out)
      have n5_ := Ak (blk_drew BK463.out)
      have n6_ := Ak (blk_drew BK470.out)
      have n7_ := Ak (blk_drew BK479.out)
      have n8_ := Ak (below_drew1 HB.out)
      clear HO_9
      clear HO_13
      clear HO_471000
      clear HO_471001
      clear BK447
      clear BK463
      clear BK470
      clear BK479
      clear HB
      have HO_9 := n0_
      have HO_13 := n1_
      have HO_471000 := n2_
      have HO_471001 := n3_
      have BK447 := n4_
      have BK463 := n5_
      have BK470 := n6_
      have BK479 := n7_
      have HB := n8_
      clear n0_ n1_ n2_ n3_ n4_ n5_ n6_ n7_ n8_
      refine start_ (n := 5) (S := fun w' => w'.cell? ⟨gb470, 0, none⟩ = some (.slice Ao28 t464.length co28) ∧ w'.cell? ⟨gb470, 1, none⟩ = some (.slice Ao32 t467.length co32) ∧ w'.cell? ⟨gb447, 0, none⟩ = some (.slice A0_0 l0_0.length c0_0) ∧ w'.cell? ⟨gb447, 1, none⟩ = some (.slice A0_1 l0_1.length c0_1)) (ds := []) #[false, false, false, false, false] (by kernel_rfl) rfl rfl ⟨(blk_cell BK470.out 0).trans rfl, (blk_cell BK470.out 1).trans rfl, (blk_cell BK447.out 0).trans rfl, (blk_cell BK447.out 1).trans rfl⟩ (fun hHeld => ?_)
      generalize wc.drew = w77 at HO_9 HO_13 HO_471000 HO_471001 BK447 BK463 BK470 BK479 HB hHeld ⊢
      refine take_ (i := 0) (N := some 60) (v := ?_) (a' := ?_) #[true, false, false, false, false] rfl rfl (by kernel_rfl) (fun _ _ _ h => h) (Or.inl ⟨by rfl, ?_⟩) hHeld ?_ ?_
      rotate_left
      ·rintro w' ⟨s0, s1, s2, s3⟩
       go_simp
       with_reducible rfl
      rotate_left
      ·simp only [Act.put, sT, sZ, sS, i64_w, i32_w]
       rfl
      refine take_ (i := 1) (N := some 61) (v := ?_) (a' := ?_) #[true, true, false, false, false] rfl rfl (by kernel_rfl) (fun _ _ _ h => h) (Or.inl ⟨by rfl, ?_⟩) hHeld ?_ ?_
      rotate_left
      ·rintro w' ⟨s0, s1, s2, s3⟩
       go_simp
       with_reducible rfl
      rotate_left
      ·simp only [Act.put, sT, sZ, sS, i64_w, i32_w]
       rfl
      refine one_ (i := 2) (N := some 62) #[true, true, true, false, false] rfl rfl (by kernel_rfl) (by decide) (fun K hK => ?_)
      refine goes_ Try.func10 (by kernel_rfl) rfl #[.agg #[.slice A0_0 l0_0.length c0_0, .slice A0_1 l0_1.length c0_1]] (by rfl) rfl rfl gm ?_
      with_reducible refine (laws_toDisk.calls kj12 _ _ l0_0 _ _ l0_1 t482 t485 _ ?side1 ?side2 ?side3 ?side4 A72.out).mono ?_
      (case side1 => repeat (first | exact (Kd.C_below HR0_0.out HB.out) | (with_reducible refine Kd.C_alloc ?_ _) | (with_reducible refine Kd.C_drewN ?_ _) | (with_reducible refine Kd.C_drew ?_)))
      (case side2 => exact HC0_0.out)
      (case side3 => repeat (first | exact (Kd.C_below HR0_1.out HB.out) | (with_reducible refine Kd.C_alloc ?_ _) | (with_reducible refine Kd.C_drewN ?_ _) | (with_reducible refine Kd.C_drew ?_)))
      (case side4 => exact HC0_1.out)
      rintro e w78 ⟨v483, v486, rfl, ho0, ho1, hb⟩
      refine ⟨_, rfl, ?_⟩
      have n0_ := Ak (Kd.S_elder' (sq HO_9.out) (Kd.R_base ho0) hb)
      have n1_ := Ak (Kd.S_elder' (sq HO_13.out) (Kd.R_base ho0) hb)
      have n2_ := Ak (Kd.R_elder' (rq HO_471000.out) (Kd.R_base ho0) hb)
      have n3_ := Ak (Kd.S_mono (Kd.S_told (Kd.S_told (Kd.S_old (sq HO_471001.out) hb) (Kd.R_base ho0)) (Kd.S_base ho1)) (fun _ h_ => h_.1))
      have n4_ := Ak (Kd.R_lower (Kd.R_new' ho0 (Kd.R_lt (rq HO_471000.out))) (below_size (bw4 HB.out GE447.out GE463.out GE470.out GE479.out)))
      have n5_ := Ak (Kd.S_lower (Kd.S_new' (Kd.S_new' ho1 (Kd.R_lt (rq HO_471000.out))) (Kd.S_lt (sq HO_471001.out))) (below_size (bw4 HB.out GE447.out GE463.out GE470.out GE479.out)))
      have n6_ := Ak (blk_below (g := gb447) (o := .cells #[.slice A0_0 l0_0.length c0_0, .slice A0_1 l0_1.length c0_1] 25 (0, 0)) (bq BK447.out) hb)
      have n7_ := Ak (blk_below (g := gb463) (o := .cells #[.int .i64 t455, .int .i64 t456, .int .i64 t457, .int .i64 t458] 32 (0, 0)) (bq BK463.out) hb)
      have n8_ := Ak (blk_below (g := gb470) (o := .cells #[.slice Ao28 t464.length co28, .slice Ao32 t467.length co32] 31 (0, 0)) (bq BK470.out) hb)
      have n9_ := Ak (blk_below (g := gb479) (o := .cells #[.int .i64 t471, .int .i64 t472, .int .i64 t473, .int .i64 t474] 32 (0, 0)) (bq BK479.out) hb)
      have n10_ := Ak (below_step (bw4 HB.out GE447.out GE463.out GE470.out GE479.out) hb)
      clear HO_9
      clear HO_13
      clear HO_471000
      clear HO_471001
      clear BK447
      clear BK463
      clear BK470
      clear BK479
      clear HB
      have HO_9 := n0_
      have HO_13 := n1_
      have HO_471000 := n2_
      have HO_471001 := n3_
      have HO484 := n4_
      have HO487 := n5_
      have BK447 := n6_
      have BK463 := n7_
      have BK470 := n8_
      have BK479 := n9_
      have HB := n10_
      clear n0_ n1_ n2_ n3_ n4_ n5_ n6_ n7_ n8_ n9_ n10_
      obtain ⟨Ao79, co79, eo79⟩ := Kd.R_slice HO484.out
      (first | subst eo79 | (injection eo79 with f1_ f2_ f3_; have f4_ := f1_.symm; have f5_ := f3_.symm; clear f1_ f2_ f3_; subst f4_; subst f5_))
      obtain ⟨Ao80, co80, eo80⟩ := Kd.S_slice HO487.out
      (first | subst eo80 | (injection eo80 with f1_ f2_ f3_; have f4_ := f1_.symm; have f5_ := f3_.symm; clear f1_ f2_ f3_; subst f4_; subst f5_))
      refine hK.out _ _ ⟨(blk_cell BK470.out 0).trans rfl, (blk_cell BK470.out 1).trans rfl, (blk_cell BK447.out 0).trans rfl, (blk_cell BK447.out 1).trans rfl⟩ (fun hHeld => ?_)
      clear hK K
      refine norm_ (a' := ?_) ?_ ?_
      rotate_left
      ·show Act.put _ (some 62) _ = _
       simp only [Act.put, sT, sZ, sS, i64_w, i32_w]
       rfl
      refine one_ (i := 3) (N := some 63) #[true, true, true, true, false] rfl rfl (by kernel_rfl) (by decide) (fun K hK => ?_)
      refine goes_ Try.func14 (by kernel_rfl) rfl #[.agg #[.slice Ao28 t464.length co28, .slice Ao32 t467.length co32], .agg #[.slice Ao79 t482.length co79, .slice Ao80 t485.length co80]] (by rfl) rfl rfl gm ?_
      with_reducible refine (laws_eqDisk.calls kj12 _ _ t464 _ _ t467 _ _ t482 _ _ t485 true _ ?side1 ?side2 ?side3 ?side4 ?side5 ?side6 ?side7 ?side8 A73.out).mono ?_
      (case side1 => repeat (first | exact (Kd.R_reads' HO_471000.out).2.2 | (with_reducible refine Kd.C_alloc ?_ _) | (with_reducible refine Kd.C_drewN ?_ _) | (with_reducible refine Kd.C_drew ?_)))
      (case side2 => exact (Kd.R_reads' HO_471000.out).2.1)
      (case side3 => repeat (first | exact (Kd.S_reads' HO_471001.out).2.2 | (with_reducible refine Kd.C_alloc ?_ _) | (with_reducible refine Kd.C_drewN ?_ _) | (with_reducible refine Kd.C_drew ?_)))
      (case side4 => exact (Kd.S_reads' HO_471001.out).2.1)
      (case side5 => repeat (first | exact (Kd.R_reads' HO484.out).2.2 | (with_reducible refine Kd.C_alloc ?_ _) | (with_reducible refine Kd.C_drewN ?_ _) | (with_reducible refine Kd.C_drew ?_)))
      (case side6 => exact (Kd.R_reads' HO484.out).2.1)
      (case side7 => repeat (first | exact (Kd.S_reads' HO487.out).2.2 | (with_reducible refine Kd.C_alloc ?_ _) | (with_reducible refine Kd.C_drewN ?_ _) | (with_reducible refine Kd.C_drew ?_)))
      (case side8 => exact (Kd.S_reads' HO487.out).2.1)
      rintro e w81 ⟨rfl, hb⟩
      refine ⟨_, rfl, ?_⟩
      have n0_ := Ak (Kd.S_below (sq HO_9.out) hb)
      have n1_ := Ak (Kd.S_below (sq HO_13.out) hb)
      have n2_ := Ak (Kd.R_below (rq HO_471000.out) hb)
      have n3_ := Ak (Kd.S_below (sq HO_471001.out) hb)
      have n4_ := Ak (Kd.R_below (rq HO484.out) hb)
      have n5_ := Ak (Kd.S_below (sq HO487.out) hb)
      have n6_ := Ak (blk_below (g := gb447) (o := .cells #[.slice A0_0 l0_0.length c0_0, .slice A0_1 l0_1.length c0_1] 25 (0, 0)) (bq BK447.out) hb)
      have n7_ := Ak (blk_below (g := gb463) (o := .cells #[.int .i64 t455, .int .i64 t456, .int .i64 t457, .int .i64 t458] 32 (0, 0)) (bq BK463.out) hb)
      have n8_ := Ak (blk_below (g := gb470) (o := .cells #[.slice Ao28 t464.length co28, .slice Ao32 t467.length co32] 31 (0, 0)) (bq BK470.out) hb)
      have n9_ := Ak (blk_below (g := gb479) (o := .cells #[.int .i64 t471, .int .i64 t472, .int .i64 t473, .int .i64 t474] 32 (0, 0)) (bq BK479.out) hb)
      have n10_ := Ak (below_step (bw4 HB.out GE447.out GE463.out GE470.out GE479.out) hb)
      clear HO_9
      clear HO_13
      clear HO_471000
      clear HO_471001
      clear HO484
      clear HO487
      clear BK447
      clear BK463
      clear BK470
      clear BK479
      clear HB
      have HO_9 := n0_
      have HO_13 := n1_
      have HO_471000 := n2_
      have HO_471001 := n3_
      have HO484 := n4_
      have HO487 := n5_
      have BK447 := n6_
      have BK463 := n7_
      have BK470 := n8_
      have BK479 := n9_
      have HB := n10_
      clear n0_ n1_ n2_ n3_ n4_ n5_ n6_ n7_ n8_ n9_ n10_
      refine hK.out _ _ ⟨(blk_cell BK470.out 0).trans rfl, (blk_cell BK470.out 1).trans rfl, (blk_cell BK447.out 0).trans rfl, (blk_cell BK447.out 1).trans rfl⟩ (fun hHeld => ?_)
      clear hK K
      refine norm_ (a' := ?_) ?_ ?_
      rotate_left
      ·show Act.put _ (some 63) _ = _
       simp only [Act.put, sT, sZ, sS, i64_w, i32_w]
       rfl
      refine pure_ (i := 4) (N := some 64) (v := ?_) (a' := ?_) #[true, true, true, true, true] rfl rfl (by kernel_rfl) (fun _ _ _ h => h) (Or.inl ⟨by rfl, ?_⟩) ?_ ?_
      rotate_left
      ·intro w'
       go_simp
       with_reducible rfl
      rotate_left
      ·simp only [Act.put, sT, sZ, sS, i64_w, i32_w]
       rfl
      refine done_ (by kernel_rfl) ?_
      have hnb82 := NB470_447.out
      have hnc82 := NB447_470.out
      have hnb83 := NB470_463.out
      have hnc83 := NB463_470.out
      have hnb84 := NB470_479.out
      have hnc84 := NB479_470.out
      have hcz85_0 : w81.cell? ⟨gb470, 0, none⟩ = some (.slice Ao28 t464.length co28) := (blk_cell BK470.out 0).trans rfl
      have hcz85_1 : w81.cell? ⟨gb470, 1, none⟩ = some (.slice Ao32 t467.length co32) := (blk_cell BK470.out 1).trans rfl
      have hfz85_0 := blk_frozen BK470.out 0
      have hfz85_1 := blk_frozen BK470.out 1
      go_upto_region 14 with (first | ((with_reducible refine gate_callee (f := 17) rfl ?_); refine goesL_ (some 67) rfl rfl Try.func17 (by kernel_rfl) rfl #[.agg #[.slice Ao28 t464.length co28, .slice Ao32 t467.length co32], .int .i64 1] rfl gm ?_; (with_reducible refine (laws_markDisk.calls kj12 (fun k_ => some k_ = (.slice Ao28 t464.length co28 : Value).ownBlock) (fun k_ => some k_ ≠ (.slice Ao28 t464.length co28 : Value).ownBlock ∧ N1_ ≤ k_ ∧ k_ < N3_) (.slice Ao28 t464.length co28) (.slice Ao32 t467.length co32) t464 t467 1 t489 t490 y490 w _ ?side1 ?side2 ?side3 ?side4 A75.out).mono ?_); (case side1 => repeat (first | (with_reducible first | exact HB.out | apply below_alloc | apply pw_below_drewN | apply below_drew1 | refine below_set ?_ GE447.out | refine below_set ?_ GE463.out | refine below_set ?_ GE470.out | refine below_set ?_ GE479.out) | exact HB.out)); (case side2 => exact Kd.R_tight rfl (rq HO_471000.out)); (case side3 => exact Kd.S_lower (Kd.S_mono (ok' := (fun k_ => some k_ ≠ (.slice Ao28 t464.length co28 : Value).ownBlock ∧ N1_ ≤ k_ ∧ k_ < N3_)) (Kd.S_bound (sq HO_471001.out)) (fun k_ hk_ => by (revert hk_; (try simp only [and_imp]); intros; (repeat' (first | (with_reducible assumption) | (with_reducible refine And.intro ?_ ?_) | trivial))))) LN1_.out); (case side4 => exact fun k_ hk_ => hk_.1); rintro e w86 ⟨rfl, hy0, hyS, hyL, hb, hkp⟩; refine ⟨_, rfl, ?_⟩; have HXL := Ak hyL; have n0_ := Ak (Kd.S_kept (sq HO_9.out) hkp (fun k_ hk_ hs_ => (hs_.elim (fun e_ => by (revert hk_; simp only [and_imp]; intros; exact absurd e_ (by with_reducible assumption))) (fun r_ => by (obtain ⟨⟨_, h1_, h2_⟩, _⟩ := r_; revert hk_; simp only [and_imp]; intros; exact absurd h1_ (Nat.not_le_of_lt (by with_reducible assumption))))))); have n1_ := Ak (Kd.S_mono (Kd.S_kept (Kd.S_bound (sq HO_13.out)) hkp (fun k_ hk_ hs_ => (hs_.elim (fun e_ => by (revert hk_; simp only [and_imp]; intros; exact absurd e_ (by with_reducible assumption))) (fun r_ => by (obtain ⟨⟨_, h1_, h2_⟩, _⟩ := r_; revert hk_; simp only [and_imp]; intros; exact absurd h2_ (Nat.not_lt_of_le (by with_reducible assumption))))))) (fun _ h_ => h_.1)); have n2_ := Ak (Kd.R_reok rfl hy0 (fun k_ e_ => HO_471000.out.1 k_ e_)); have n3_ := Ak (hyS); have n4_ := Ak (blk_kept (bq BK447.out) hkp (fun hs_ => hs_.elim (fun e_ => (Kd.R_ne HO_471000.out (bq BK447.out) (by decide)) e_) (fun r_ => RowIn.ne (bq BK447.out) (by decide) r_))); have n5_ := Ak (blk_kept (bq BK463.out) hkp (fun hs_ => hs_.elim (fun e_ => (Kd.R_ne HO_471000.out (bq BK463.out) (by decide)) e_) (fun r_ => RowIn.ne (bq BK463.out) (by decide) r_))); have n6_ := Ak (blk_kept (bq BK470.out) hkp (fun hs_ => hs_.elim (fun e_ => (Kd.R_ne HO_471000.out (bq BK470.out) (by decide)) e_) (fun r_ => RowIn.ne (bq BK470.out) (by decide) r_))); have n7_ := Ak (blk_kept (bq BK479.out) hkp (fun hs_ => hs_.elim (fun e_ => (Kd.R_ne HO_471000.out (bq BK479.out) (by decide)) e_) (fun r_ => RowIn.ne (bq BK479.out) (by decide) r_))); have n8_ := Ak (hb); clear HO_9; clear HO_13; clear HO_471000; clear HO_471001; clear BK447; clear BK463; clear BK470; clear BK479; clear HB; have HO_9 := n0_; have HO_13 := n1_; have HO_471000 := n2_; have HO_471001 := n3_; have BK447 := n4_; have BK463 := n5_; have BK470 := n6_; have BK479 := n7_; have HB := n8_; clear n0_ n1_ n2_ n3_ n4_ n5_ n6_ n7_ n8_; clear hb hkp))
      (try simp only [Act.put, sT, sZ, sS])
      go_cut [86] (fun v86 wc => ∃ (kq : Nat) (x86_75 : Bool), v86 = .bool x86_75 ∧ Aside0 (laws_FnExactLogOpen.j1 kq a1 a2 t459 t462 t475 x86_75 l0_0 l0_1 t455 t456 t457 t458 = some r) ∧ Aside0 (kq ≤ kj12) ∧ Aside0 (Kd.S (Kd.slice 5 (Kd.int .u8)) 22 wc w.heap.size (fun k_ => some k_ ≠ (v476 : Value).ownBlock ∧ some k_ ≠ ((.slice Ao28 t464.length co28) : Value).ownBlock ∧ k_ < N1_ ∧ k_ < N3_) v460 t459) ∧ Aside0 (Kd.S (Kd.slice 5 (Kd.int .u8)) 22 wc N3_ (fun k_ => some k_ ≠ (v460 : Value).ownBlock ∧ some k_ ≠ ((.slice Ao28 t464.length co28) : Value).ownBlock) v476 t475) ∧ Aside0 (Kd.R (Kd.int .u8) 5 wc w.heap.size (fun _ => True) (.slice Ao28 t464.length co28) t490) ∧ Aside0 (Kd.S k96 96 wc w.heap.size (fun k_ => some k_ ≠ ((.slice Ao28 t464.length co28) : Value).ownBlock ∧ N1_ ≤ k_ ∧ k_ < N3_) (.slice Ao32 t467.length co32) y490) ∧ Aside0 (wc.heap[gb447]? = some (.cells #[(.slice A0_0 l0_0.length c0_0), (.slice A0_1 l0_1.length c0_1)] 25 (0, 0))) ∧ Aside0 (wc.heap[gb463]? = some (.cells #[.int .i64 t455, .int .i64 t456, .int .i64 t457, .int .i64 t458] 32 (0, 0))) ∧ Aside0 (wc.heap[gb470]? = some (.cells #[(.slice Ao28 t464.length co28), (.slice Ao32 t467.length co32)] 31 (0, 0))) ∧ Aside0 (wc.heap[gb479]? = some (.cells #[.int .i64 t471, .int .i64 t472, .int .i64 t473, .int .i64 t474] 32 (0, 0))) ∧ Aside0 (Below w.heap.size w wc))
      case first =>
       have H := HC76.out
       clear HC76
       by_cases c87 : t489 < 0
       ·rw [if_pos c87] at H
        have c87b0 : decide (t489 < 0) = true := decide_eq_true c87
        clear c87
        (first | rw [c87b0] | (simp only [i64_w, i32_w]; rw [c87b0]) | skip)
        have H' := Ak H
        clear H
        go_wp2
        go_meet
        case rel => exact ⟨_, (true), (by first | rfl | (simp; done) | (simp [*]; done)), H', ⟨by have := HJ12.out; first | omega | exact Nat.le_refl _⟩, ⟨by (with_reducible repeat (first | apply Kd.S_alloc | apply Kd.S_drewN | apply Kd.S_drew)); exact Kd.S_mono HO_9.out (fun k_ hk_ => by (revert hk_; (try simp only [and_imp]); intros; (repeat' (first | (with_reducible assumption) | (with_reducible refine And.intro ?_ ?_) | trivial))))⟩, ⟨by (with_reducible repeat (first | apply Kd.S_alloc | apply Kd.S_drewN | apply Kd.S_drew)); exact Kd.S_mono HO_13.out (fun k_ hk_ => by (revert hk_; (try simp only [and_imp]); intros; (repeat' (first | (with_reducible assumption) | (with_reducible refine And.intro ?_ ?_) | trivial))))⟩, ⟨by (with_reducible repeat (first | apply Kd.R_alloc | apply Kd.R_drewN | apply Kd.R_drew)); exact Kd.R_mono HO_471000.out (fun _ hk => trivial)⟩, ⟨by (with_reducible repeat (first | apply Kd.S_alloc | apply Kd.S_drewN | apply Kd.S_drew)); exact Kd.S_mono HO_471001.out (fun k_ hk_ => by (revert hk_; (try simp only [and_imp]); intros; (repeat' (first | (with_reducible assumption) | (with_reducible refine And.intro ?_ ?_) | trivial))))⟩, ⟨bq BK447.out⟩, ⟨bq BK463.out⟩, ⟨bq BK470.out⟩, ⟨bq BK479.out⟩, ⟨bw4 HB.out GE447.out GE463.out GE470.out GE479.out⟩⟩
       ·rw [if_neg c87] at H
        have c87b0 : decide (t489 < 0) = false := decide_eq_false c87
        clear c87
        (first | rw [c87b0] | (simp only [i64_w, i32_w]; rw [c87b0]) | skip)
        replace H := Option.bind_eq_some_iff.mp H
        obtain ⟨t491, A880, H⟩ := H
        replace H : (if t491 = true then ((laws_eqByteSS.f kj12 t475 t459).bind fun t492 => (if t492 = true then (laws_FnExactLogOpen.j1 kj12 a1 a2 t459 t462 t475 (t478 != t462) l0_0 l0_1 t455 t456 t457 t458) else (laws_FnExactLogOpen.j1 kj12 a1 a2 t459 t462 t475 true l0_0 l0_1 t455 t456 t457 t458))) else (laws_FnExactLogOpen.j1 kj12 a1 a2 t459 t462 t475 true l0_0 l0_1 t455 t456 t457 t458)) = some r := H
        have A88 := Ak A880
        clear A880
        by_cases c89 : t491 = true
        ·subst c89
         have H1 : ((laws_eqByteSS.f kj12 t475 t459).bind fun t492 => (if t492 = true then (laws_FnExactLogOpen.j1 kj12 a1 a2 t459 t462 t475 (t478 != t462) l0_0 l0_1 t455 t456 t457 t458) else (laws_FnExactLogOpen.j1 kj12 a1 a2 t459 t462 t475 true l0_0 l0_1 t455 t456 t457 t458))) = some r := by rw [if_pos rfl] at H; exact H
         clear H
         have H := H1
         clear H1
         replace H := Option.bind_eq_some_iff.mp H
         obtain ⟨t492, A900, H⟩ := H
         replace H : (if t492 = true then (laws_FnExactLogOpen.j1 kj12 a1 a2 t459 t462 t475 (t478 != t462) l0_0 l0_1 t455 t456 t457 t458) else (laws_FnExactLogOpen.j1 kj12 a1 a2 t459 t462 t475 true l0_0 l0_1 t455 t456 t457 t458)) = some r := H
         have A90 := Ak A900
         clear A900
         by_cases c91 : t492 = true
         ·subst c91
          have H1 : (laws_FnExactLogOpen.j1 kj12 a1 a2 t459 t462 t475 (t478 != t462) l0_0 l0_1 t455 t456 t457 t458) = some r := by rw [if_pos rfl] at H; exact H
          clear H
          have H := H1
          clear H1
          have H' := Ak H
          clear H
          have hnb92 := NB479_447.out
          have hnc92 := NB447_479.out
          have hnb93 := NB479_463.out
          have hnc93 := NB463_479.out
          have hnb94 := NB479_470.out
          have hnc94 := NB470_479.out
          have hcz95_0 : w86.cell? ⟨gb479, 0, none⟩ = some (.int .i64 t471) := (blk_cell BK479.out 0).trans rfl
          have hcz95_1 : w86.cell? ⟨gb479, 1, none⟩ = some (.int .i64 t472) := (blk_cell BK479.out 1).trans rfl
          have hcz95_2 : w86.cell? ⟨gb479, 2, none⟩ = some (.int .i64 t473) := (blk_cell BK479.out 2).trans rfl
          have hcz95_3 : w86.cell? ⟨gb479, 3, none⟩ = some (.int .i64 t474) := (blk_cell BK479.out 3).trans rfl
          have hfz95_0 := blk_frozen BK479.out 0
          have hfz95_1 := blk_frozen BK479.out 1
          have hfz95_2 := blk_frozen BK479.out 2
          have hfz95_3 := blk_frozen BK479.out 3
          have hnb96 := NB463_447.out
          have hnc96 := NB447_463.out
          have hnb97 := NB463_470.out
          have hnc97 := NB470_463.out
          have hcz98_0 : w86.cell? ⟨gb463, 0, none⟩ = some (.int .i64 t455) := (blk_cell BK463.out 0).trans rfl
          have hcz98_1 : w86.cell? ⟨gb463, 1, none⟩ = some (.int .i64 t456) := (blk_cell BK463.out 1).trans rfl
          have hcz98_2 : w86.cell? ⟨gb463, 2, none⟩ = some (.int .i64 t457) := (blk_cell BK463.out 2).trans rfl
          have hcz98_3 : w86.cell? ⟨gb463, 3, none⟩ = some (.int .i64 t458) := (blk_cell BK463.out 3).trans rfl
          have hfz98_0 := blk_frozen BK463.out 0
          have hfz98_1 := blk_frozen BK463.out 1
          have hfz98_2 := blk_frozen BK463.out 2
          have hfz98_3 := blk_frozen BK463.out 3
          go_wp2_with (first | (go_at_call 15; (with_reducible refine (laws_eqLog.calls t471 t472 t473 t474 t455 t456 t457 t458 true _ A88.out).mono ?_); rintro e w99 ⟨rfl, hb⟩; have n0_ := Ak (Kd.S_below (sq HO_9.out) hb); have n1_ := Ak (Kd.S_below (sq HO_13.out) hb); have n2_ := Ak (Kd.R_below (rq HO_471000.out) hb); have n3_ := Ak (Kd.S_below (sq HO_471001.out) hb); have n6_ := Ak (blk_below (g := gb447) (o := .cells #[.slice A0_0 l0_0.length c0_0, .slice A0_1 l0_1.length c0_1] 25 (0, 0)) (bq BK447.out) hb); have n7_ := Ak (blk_below (g := gb463) (o := .cells #[.int .i64 t455, .int .i64 t456, .int .i64 t457, .int .i64 t458] 32 (0, 0)) (bq BK463.out) hb); have n8_ := Ak (blk_below (g := gb470) (o := .cells #[.slice Ao28 t464.length co28, .slice Ao32 t467.length co32] 31 (0, 0)) (bq BK470.out) hb); have n9_ := Ak (blk_below (g := gb479) (o := .cells #[.int .i64 t471, .int .i64 t472, .int .i64 t473, .int .i64 t474] 32 (0, 0)) (bq BK479.out) hb); have n10_ := Ak (below_step (bw4 HB.out GE447.out GE463.out GE470.out GE479.out) hb); clear HO_9; clear HO_13; clear HO_471000; clear HO_471001; clear BK447; clear BK463; clear BK470; clear BK479; clear HB; have HO_9 := n0_; have HO_13 := n1_; have HO_471000 := n2_; have HO_471001 := n3_; have BK447 := n6_; have BK463 := n7_; have BK470 := n8_; have BK479 := n9_; have HB := n10_; clear n0_ n1_ n2_ n3_ n6_ n7_ n8_ n9_ n10_; obtain ⟨Ao100, co100, eo100⟩ := Kd.S_slice HO_13.out; subst eo100; obtain ⟨Ao101, co101, eo101⟩ := Kd.S_slice HO_9.out; subst eo101) | (go_at_call 22; (with_reducible refine (laws_eqByteSS.calls kj12 _ _ t475 _ _ t459 true _ ?side1 ?side2 ?side3 ?side4 A90.out).mono ?_); (case side1 => repeat (first | exact (Kd.S_reads' HO_13.out).2.2 | (with_reducible refine Kd.C_alloc ?_ _) | (with_reducible refine Kd.C_drewN ?_ _) | (with_reducible refine Kd.C_drew ?_))); (case side2 => exact (Kd.S_reads' HO_13.out).2.1); (case side3 => repeat (first | exact (Kd.S_reads' HO_9.out).2.2 | (with_reducible refine Kd.C_alloc ?_ _) | (with_reducible refine Kd.C_drewN ?_ _) | (with_reducible refine Kd.C_drew ?_))); (case side4 => exact (Kd.S_reads' HO_9.out).2.1); rintro e w' ⟨rfl, ⟨nd, rfl⟩⟩))
          go_meet
          case rel => exact ⟨_, ((t478 != t462)), (by first | rfl | (simp; done) | (simp [*]; done)), H', ⟨by have := HJ12.out; first | omega | exact Nat.le_refl _⟩, ⟨by (with_reducible repeat (first | apply Kd.S_alloc | apply Kd.S_drewN | apply Kd.S_drew)); exact Kd.S_mono HO_9.out (fun k_ hk_ => by (revert hk_; (try simp only [and_imp]); intros; (repeat' (first | (with_reducible assumption) | (with_reducible refine And.intro ?_ ?_) | trivial))))⟩, ⟨by (with_reducible repeat (first | apply Kd.S_alloc | apply Kd.S_drewN | apply Kd.S_drew)); exact Kd.S_mono HO_13.out (fun k_ hk_ => by (revert hk_; (try simp only [and_imp]); intros; (repeat' (first | (with_reducible assumption) | (with_reducible refine And.intro ?_ ?_) | trivial))))⟩, ⟨by (with_reducible repeat (first | apply Kd.R_alloc | apply Kd.R_drewN | apply Kd.R_drew)); exact Kd.R_mono HO_471000.out (fun _ hk => trivial)⟩, ⟨by (with_reducible repeat (first | apply Kd.S_alloc | apply Kd.S_drewN | apply Kd.S_drew)); exact Kd.S_mono HO_471001.out (fun k_ hk_ => by (revert hk_; (try simp only [and_imp]); intros; (repeat' (first | (with_reducible assumption) | (with_reducible refine And.intro ?_ ?_) | trivial))))⟩, ⟨bq BK447.out⟩, ⟨bq BK463.out⟩, ⟨bq BK470.out⟩, ⟨bq BK479.out⟩, ⟨bw4 HB.out GE447.out GE463.out GE470.out GE479.out⟩⟩
         ·replace c91 := Bool.eq_false_iff.mpr c91
          subst c91
          have H1 : (laws_FnExactLogOpen.j1 kj12 a1 a2 t459 t462 t475 true l0_0 l0_1 t455 t456 t457 t458) = some r := by rw [if_neg (show ¬ (false = true) by decide)] at H; exact H
          clear H
          exact by (cases kj12 with | zero => exact absurd H1 (by simp [laws_FnExactLogOpen.j1]) | succ q_ => (exact absurd ((Option.some.inj (show some false = some r from by simpa only [laws_FnExactLogOpen.j1, if_true] using H1)).trans hrt) (by decide)))
        ·replace c89 := Bool.eq_false_iff.mpr c89
         subst c89
         have H1 : (laws_FnExactLogOpen.j1 kj12 a1 a2 t459 t462 t475 true l0_0 l0_1 t455 t456 t457 t458) = some r := by rw [if_neg (show ¬ (false = true) by decide)] at H; exact H
         clear H
         exact by (cases kj12 with | zero => exact absurd H1 (by simp [laws_FnExactLogOpen.j1]) | succ q_ => (exact absurd ((Option.some.inj (show some false = some r from by simpa only [laws_FnExactLogOpen.j1, if_true] using H1)).trans hrt) (by decide)))
      case rest =>
       clear HC76
       try clear c5b0
       try clear c87b0
       obtain ⟨kq, x86_75, rfl, HA, HJ75, HO_9, HO_13, HO_471000, HO_471001, BK447, BK463, BK470, BK479, HB⟩ := hcut
       have hl471000_75 := (Kd.R_reads' HO_471000.out).1
       rw [hl471000_75] at HO_471000
       (try simp only [hl471000_75])
       (try simp only [hl471000_75] at BK447)
       (try simp only [hl471000_75] at BK463)
       (try simp only [hl471000_75] at BK470)
       (try simp only [hl471000_75] at BK479)
       (try simp only [hl471000_75] at HO_9)
       (try simp only [hl471000_75] at HO_13)
       (try simp only [hl471000_75] at HO_471001)
       cases kq with
       | zero => exact absurd HA.out (by simp [laws_FnExactLogOpen.j1])
       | succ kj75 =>
        have H := HA.out
        clear HA
        simp only [laws_FnExactLogOpen.j1] at H
        by_cases c120 : x86_75 = true
        ·subst c120
         have H1 : (some false) = some r := by rw [if_pos rfl] at H; exact H
         clear H
         have H := H1
         clear H1
         exact absurd ((Option.some.inj H).trans hrt) (by decide)
        ·replace c120 := Bool.eq_false_iff.mpr c120
         subst c120
         have H1 : ((laws_markByteSS.f kj75 t475 1).bind fun bm => ((laws_heldByteSS.f kj75 bm.2 1).bind fun t494 => (if t494 < 0 then (some false) else (if t494 = bm.1 then ((laws_toDisk.f kj75 l0_0 l0_1).bind fun bt495 => ((impl_LogOpen.f kj75 bt495.1 bt495.2 a1 a2).bind fun bt501 => ((laws_eqLog.f bt501.1 bt501.2.1 bt501.2.2.1 bt501.2.2.2.1 t455 t456 t457 t458).bind fun t510 => (if t510 = true then ((laws_eqByteSS.f kj75 bt501.2.2.2.2.1 t459).bind fun t511 => (if t511 = true then (laws_FnExactLogOpen.j2 kj75 bm.2 bm.1 (bt501.2.2.2.2.2 != t462)) else (laws_FnExactLogOpen.j2 kj75 bm.2 bm.1 true))) else (laws_FnExactLogOpen.j2 kj75 bm.2 bm.1 true))))) else (some false))))) = some r := by rw [if_neg (show ¬ (false = true) by decide)] at H; exact H
         clear H
         have H := H1
         clear H1
         replace H := Option.bind_eq_some_iff.mp H
         obtain ⟨⟨t493, y493⟩, A1210, H⟩ := H
         replace H : ((laws_heldByteSS.f kj75 y493 1).bind fun t494 => (if t494 < 0 then (some false) else (if t494 = t493 then ((laws_toDisk.f kj75 l0_0 l0_1).bind fun bt495 => ((impl_LogOpen.f kj75 bt495.1 bt495.2 a1 a2).bind fun bt501 => ((laws_eqLog.f bt501.1 bt501.2.1 bt501.2.2.1 bt501.2.2.2.1 t455 t456 t457 t458).bind fun t510 => (if t510 = true then ((laws_eqByteSS.f kj75 bt501.2.2.2.2.1 t459).bind fun t511 => (if t511 = true then (laws_FnExactLogOpen.j2 kj75 y493 t493 (bt501.2.2.2.2.2 != t462)) else (laws_FnExactLogOpen.j2 kj75 y493 t493 true))) else (laws_FnExactLogOpen.j2 kj75 y493 t493 true))))) else (some false)))) = some r := H
         have A121 := Ak A1210
         clear A1210
         replace H := Option.bind_eq_some_iff.mp H
         obtain ⟨t494, A1220, H⟩ := H
         replace H : (if t494 < 0 then (some false) else (if t494 = t493 then ((laws_toDisk.f kj75 l0_0 l0_1).bind fun bt495 => ((impl_LogOpen.f kj75 bt495.1 bt495.2 a1 a2).bind fun bt501 => ((laws_eqLog.f bt501.1 bt501.2.1 bt501.2.2.1 bt501.2.2.2.1 t455 t456 t457 t458).bind fun t510 => (if t510 = true then ((laws_eqByteSS.f kj75 bt501.2.2.2.2.1 t459).bind fun t511 => (if t511 = true then (laws_FnExactLogOpen.j2 kj75 y493 t493 (bt501.2.2.2.2.2 != t462)) else (laws_FnExactLogOpen.j2 kj75 y493 t493 true))) else (laws_FnExactLogOpen.j2 kj75 y493 t493 true))))) else (some false))) = some r := H
         have A122 := Ak A1220
         clear A1220
         by_cases c123 : t494 < 0
         ·rw [if_pos c123] at H
          have c123b0 : decide (t494 < 0) = true := decide_eq_true c123
          clear c123
          exact absurd ((Option.some.inj H).trans hrt) (by decide)
         ·rw [if_neg c123] at H
          have c123b0 : decide (t494 < 0) = false := decide_eq_false c123
          clear c123
          by_cases c125 : t494 = t493
          ·rw [if_pos c125] at H
           have c125b0 : (t494 == t493) = true := beq_iff_eq.mpr c125
           have c125b1 : (t494 != t493) = false := bne_eq_false_iff_eq.mpr c125
           clear c125
           replace H := Option.bind_eq_some_iff.mp H
           obtain ⟨⟨t495, t498⟩, A1260, H⟩ := H
           replace H : ((impl_LogOpen.f kj75 t495 t498 a1 a2).bind fun bt501 => ((laws_eqLog.f bt501.1 bt501.2.1 bt501.2.2.1 bt501.2.2.2.1 t455 t456 t457 t458).bind fun t510 => (if t510 = true then ((laws_eqByteSS.f kj75 bt501.2.2.2.2.1 t459).bind fun t511 => (if t511 = true then (laws_FnExactLogOpen.j2 kj75 y493 t493 (bt501.2.2.2.2.2 != t462)) else (laws_FnExactLogOpen.j2 kj75 y493 t493 true))) else (laws_FnExactLogOpen.j2 kj75 y493 t493 true)))) = some r := H
           have A126 := Ak A1260
           clear A1260
           replace H := Option.bind_eq_some_iff.mp H
           obtain ⟨⟨t501, t502, t503, t504, t505, t508⟩, A1270, H⟩ := H
           replace H : ((laws_eqLog.f t501 t502 t503 t504 t455 t456 t457 t458).bind fun t510 => (if t510 = true then ((laws_eqByteSS.f kj75 t505 t459).bind fun t511 => (if t511 = true then (laws_FnExactLogOpen.j2 kj75 y493 t493 (t508 != t462)) else (laws_FnExactLogOpen.j2 kj75 y493 t493 true))) else (laws_FnExactLogOpen.j2 kj75 y493 t493 true))) = some r := H
           have A127 := Ak A1270
           clear A1270
           have HC128 := Ak H
           clear H
           obtain ⟨Ao129, co129, eo129⟩ := Kd.S_slice HO_13.out
           subst eo129
           go_upto_region 25 with (first | ((with_reducible refine gate_callee (f := 23) rfl ?_); refine goesL_ (some 89) rfl rfl Try.func23 (by kernel_rfl) rfl #[.slice Ao129 t475.length co129, .int .i64 1] rfl gm ?_; (with_reducible refine (laws_markByteSS.calls kj75 (fun k_ => (some k_ ≠ (v460 : Value).ownBlock ∧ some k_ ≠ ((.slice Ao28 t490.length co28) : Value).ownBlock) ∧ N3_ ≤ k_) (.slice Ao129 t475.length co129) t475 1 t493 y493 w _ ?side1 ?side2 A121.out).mono ?_); (case side1 => repeat (first | (with_reducible first | exact HB.out | apply below_alloc | apply pw_below_drewN | apply below_drew1) | exact HB.out)); (case side2 => exact Kd.S_lower (Kd.S_mono (Kd.S_bound (sq HO_13.out)) (fun k_ hk_ => ⟨hk_.1, hk_.2.1⟩)) LN3_.out); rintro e wm ⟨rfl, hyS, hyL, hb, hkp⟩; refine ⟨_, rfl, ?_⟩; have HYL := Ak hyL; have n0_ := Ak (Kd.S_kept (sq HO_9.out) hkp (fun k_ hk_ hs_ => by (obtain ⟨⟨_, h1_⟩, _⟩ := hs_; revert hk_; simp only [and_imp]; intros; exact absurd h1_ (Nat.not_le_of_lt (by with_reducible assumption))))); have n1_ := Ak (Kd.S_kept (sq HO_471001.out) hkp (fun k_ hk_ hs_ => by (obtain ⟨⟨_, h1_⟩, _⟩ := hs_; revert hk_; simp only [and_imp]; intros; exact absurd h1_ (Nat.not_le_of_lt (by with_reducible assumption))))); have n2_ := Ak (Kd.R_mono (Kd.R_kept (Kd.R_tight rfl (rq HO_471000.out)) hkp (fun k_ hk_ hs_ => by (obtain ⟨⟨h1_, _⟩, _⟩ := hs_; revert h1_; simp only [and_imp]; intros; exact absurd hk_ (by with_reducible assumption)))) (fun _ _ => trivial)); have n3_ := Ak (hyS); have n4_ := Ak (blk_kept (bq BK447.out) hkp (RowInB.ne (bq BK447.out) (by decide))); have n5_ := Ak (blk_kept (bq BK463.out) hkp (RowInB.ne (bq BK463.out) (by decide))); have n6_ := Ak (blk_kept (bq BK470.out) hkp (RowInB.ne (bq BK470.out) (by decide))); have n7_ := Ak (blk_kept (bq BK479.out) hkp (RowInB.ne (bq BK479.out) (by decide))); have n8_ := Ak (hb); clear HO_9; clear HO_471001; clear HO_471000; clear HO_13; clear BK447; clear BK463; clear BK470; clear BK479; clear HB; have HO_9 := n0_; have HO_471001 := n1_; have HO_471000 := n2_; have HO_13 := n3_; have BK447 := n4_; have BK463 := n5_; have BK470 := n6_; have BK479 := n7_; have HB := n8_; clear n0_ n1_ n2_ n3_ n4_ n5_ n6_ n7_ n8_; clear hb hkp) | ((with_reducible refine gate_callee (f := 24) rfl ?_); refine goesL_ (some 92) rfl rfl Try.func24 (by kernel_rfl) rfl #[.slice Ao129 y493.length co129, .int .i64 1] rfl (by (try simp only [List.map_toArray, List.map_cons, List.map_nil]); first | done | (rw [show y493.length = t475.length from HYL.out]; first | done | rfl) | rfl | (simp only [List.length_drop, List.length_take]; rfl)) ?_; (with_reducible refine (laws_heldByteSS.calls kj75 _ _ y493 1 t494 _ ?side1 ?side2 A122.out).mono ?_); (case side1 => repeat (first | exact (Kd.S_reads' HO_13.out).2.2 | (with_reducible refine Kd.C_alloc ?_ _) | (with_reducible refine Kd.C_drewN ?_ _) | (with_reducible refine Kd.C_drew ?_))); (case side2 => first | exact (Kd.S_reads' HO_13.out).2.1 | (rw [show y493.length = t475.length from HYL.out]; exact (Kd.S_reads' HO_13.out).2.1)); rintro e w' ⟨rfl, ⟨nd, rfl⟩⟩; refine ⟨_, rfl, ?_⟩; (try (rw [drewN_self wm]; generalize hq_ : World.drewN wm _ = wm; have n0_ : Aside0 (Kd.S (Kd.slice 5 (Kd.int .u8)) 22 wm w.heap.size (fun k_ => some k_ ≠ (.slice Ao28 t490.length co28 : Value).ownBlock ∧ some k_ ≠ (v460 : Value).ownBlock) (.slice Ao129 t475.length co129) y493) := ⟨by rw [← hq_]; exact (by (with_reducible repeat (first | apply Kd.S_alloc | apply Kd.S_drewN | apply Kd.S_drew)); exact Kd.S_mono HO_13.out (fun _ hk => ⟨hk.2, hk.1⟩))⟩; have n1_ : Aside0 (Kd.R (Kd.int .u8) 5 wm w.heap.size (fun _ => True) (.slice Ao28 t490.length co28) t490) := ⟨by rw [← hq_]; exact (rq HO_471000.out)⟩; have n2_ : Aside0 (Kd.S k96 96 wm w.heap.size (fun k_ => some k_ ≠ (.slice Ao28 t490.length co28 : Value).ownBlock) (.slice Ao32 t467.length co32) y490) := ⟨by rw [← hq_]; exact (sq HO_471001.out)⟩; have n3_ : Aside0 (Kd.S (Kd.slice 5 (Kd.int .u8)) 22 wm w.heap.size (fun k_ => some k_ ≠ (.slice Ao129 t475.length co129 : Value).ownBlock ∧ some k_ ≠ (.slice Ao28 t490.length co28 : Value).ownBlock) v460 t459) := ⟨by rw [← hq_]; exact (sq HO_9.out)⟩; have n4_ : Aside0 (wm.heap[gb447]? = some (.cells #[.slice A0_0 l0_0.length c0_0, .slice A0_1 l0_1.length c0_1] 25 (0, 0))) := ⟨by rw [← hq_]; exact (bq BK447.out)⟩; have n5_ : Aside0 (wm.heap[gb463]? = some (.cells #[.int .i64 t455, .int .i64 t456, .int .i64 t457, .int .i64 t458] 32 (0, 0))) := ⟨by rw [← hq_]; exact (bq BK463.out)⟩; have n6_ : Aside0 (wm.heap[gb470]? = some (.cells #[.slice Ao28 t490.length co28, .slice Ao32 t467.length co32] 31 (0, 0))) := ⟨by rw [← hq_]; exact (bq BK470.out)⟩; have n7_ : Aside0 (wm.heap[gb479]? = some (.cells #[.int .i64 t471, .int .i64 t472, .int .i64 t473, .int .i64 t474] 32 (0, 0))) := ⟨by rw [← hq_]; exact (bq BK479.out)⟩; have n8_ : Aside0 (Below w.heap.size w wm) := ⟨by rw [← hq_]; exact (bw4 HB.out GE447.out GE463.out GE470.out GE479.out)⟩; clear HO_13 HO_471000 HO_471001 HO_9 BK447 BK463 BK470 BK479 HB hq_; have HO_13 := n0_; have HO_471000 := n1_; have HO_471001 := n2_; have HO_9 := n3_; have BK447 := n4_; have BK463 := n5_; have BK470 := n6_; have BK479 := n7_; have HB := n8_; clear n0_ n1_ n2_ n3_ n4_ n5_ n6_ n7_ n8_)); have hnb130 := NB447_463.out; have hnc130 := NB463_447.out; have hnb131 := NB447_470.out; have hnc131 := NB470_447.out; have hnb132 := NB447_479.out; have hnc132 := NB479_447.out; have hcz133_0 : wm.cell? ⟨gb447, 0, none⟩ = some (.slice A0_0 l0_0.length c0_0) := (blk_cell BK447.out 0).trans rfl; have hcz133_1 : wm.cell? ⟨gb447, 1, none⟩ = some (.slice A0_1 l0_1.length c0_1) := (blk_cell BK447.out 1).trans rfl; have hfz133_0 := blk_frozen BK447.out 0; have hfz133_1 := blk_frozen BK447.out 1) | ((with_reducible refine gate_callee (f := 10) rfl ?_); refine goesL_ (some 100) rfl rfl Try.func10 (by kernel_rfl) rfl #[.agg #[.slice A0_0 l0_0.length c0_0, .slice A0_1 l0_1.length c0_1]] rfl gm ?_; (with_reducible refine (laws_toDisk.calls kj75 _ _ l0_0 _ _ l0_1 t495 t498 _ ?side1 ?side2 ?side3 ?side4 A126.out).mono ?_); (case side1 => repeat (first | exact (Kd.C_below HR0_0.out HB.out) | (with_reducible refine Kd.C_alloc ?_ _) | (with_reducible refine Kd.C_drewN ?_ _) | (with_reducible refine Kd.C_drew ?_))); (case side2 => exact HC0_0.out); (case side3 => repeat (first | exact (Kd.C_below HR0_1.out HB.out) | (with_reducible refine Kd.C_alloc ?_ _) | (with_reducible refine Kd.C_drewN ?_ _) | (with_reducible refine Kd.C_drew ?_))); (case side4 => exact HC0_1.out); rintro e w134 ⟨v496, v499, rfl, ho0, ho1, hb⟩; refine ⟨_, rfl, ?_⟩; have n0_ := Ak (Kd.S_elder' (sq HO_9.out) (Kd.R_base ho0) hb); have n1_ := Ak (Kd.S_elder' (sq HO_13.out) (Kd.R_base ho0) hb); have n2_ := Ak (Kd.R_elder' (rq HO_471000.out) (Kd.R_base ho0) hb); have n3_ := Ak (Kd.S_mono (Kd.S_told (Kd.S_told (Kd.S_old (sq HO_471001.out) hb) (Kd.R_base ho0)) (Kd.S_base ho1)) (fun _ h_ => h_.1)); have n4_ := Ak (Kd.R_lower (Kd.R_new' ho0 (Kd.R_lt (rq HO_471000.out))) (below_size (bw4 HB.out GE447.out GE463.out GE470.out GE479.out))); have n5_ := Ak (Kd.S_lower (Kd.S_new' (Kd.S_new' ho1 (Kd.R_lt (rq HO_471000.out))) (Kd.S_lt (sq HO_471001.out))) (below_size (bw4 HB.out GE447.out GE463.out GE470.out GE479.out))); have n6_ := Ak (blk_below (g := gb447) (o := .cells #[.slice A0_0 l0_0.length c0_0, .slice A0_1 l0_1.length c0_1] 25 (0, 0)) (bq BK447.out) hb); have n7_ := Ak (blk_below (g := gb463) (o := .cells #[.int .i64 t455, .int .i64 t456, .int .i64 t457, .int .i64 t458] 32 (0, 0)) (bq BK463.out) hb); have n8_ := Ak (blk_below (g := gb470) (o := .cells #[.slice Ao28 t490.length co28, .slice Ao32 t467.length co32] 31 (0, 0)) (bq BK470.out) hb); have n9_ := Ak (blk_below (g := gb479) (o := .cells #[.int .i64 t471, .int .i64 t472, .int .i64 t473, .int .i64 t474] 32 (0, 0)) (bq BK479.out) hb); have n10_ := Ak (below_step (bw4 HB.out GE447.out GE463.out GE470.out GE479.out) hb); clear HO_9; clear HO_13; clear HO_471000; clear HO_471001; clear BK447; clear BK463; clear BK470; clear BK479; clear HB; have HO_9 := n0_; have HO_13 := n1_; have HO_471000 := n2_; have HO_471001 := n3_; have HO497 := n4_; have HO500 := n5_; have BK447 := n6_; have BK463 := n7_; have BK470 := n8_; have BK479 := n9_; have HB := n10_; clear n0_ n1_ n2_ n3_ n4_ n5_ n6_ n7_ n8_ n9_ n10_; obtain ⟨Ao135, co135, eo135⟩ := Kd.R_slice HO497.out; subst eo135; obtain ⟨Ao136, co136, eo136⟩ := Kd.S_slice HO500.out; subst eo136) | ((with_reducible refine gate_callee (f := 21) rfl ?_); refine goesL_ (some 103) rfl rfl Try.func21 (by kernel_rfl) rfl #[.agg #[.slice Ao135 t495.length co135, .slice Ao136 t498.length co136], .int .i64 a1, .int .i64 a2] rfl gm ?_; (with_reducible refine (impl_LogOpen.calls kj75 _ _ t495 _ _ t498 a1 a2 t501 t502 t503 t504 t505 t508 _ ?side1 ?side2 ?side3 ?side4 A127.out).mono ?_); (case side1 => repeat (first | exact (Kd.R_reads' HO497.out).2.2 | (with_reducible refine Kd.C_alloc ?_ _) | (with_reducible refine Kd.C_drewN ?_ _) | (with_reducible refine Kd.C_drew ?_))); (case side2 => exact (Kd.R_reads' HO497.out).2.1); (case side3 => repeat (first | exact (Kd.S_reads' HO500.out).2.2 | (with_reducible refine Kd.C_alloc ?_ _) | (with_reducible refine Kd.C_drewN ?_ _) | (with_reducible refine Kd.C_drew ?_))); (case side4 => exact (Kd.S_reads' HO500.out).2.1); rintro e w137 ⟨v506, rfl, ho0, hb⟩; refine ⟨_, rfl, ?_⟩; have n0_ := Ak (Kd.S_elder' (sq HO_9.out) (Kd.S_base ho0) hb); have n1_ := Ak (Kd.S_elder' (sq HO_13.out) (Kd.S_base ho0) hb); have n2_ := Ak (Kd.R_below (rq HO_471000.out) hb); have n3_ := Ak (Kd.S_below (sq HO_471001.out) hb); have n4_ := Ak (Kd.R_below (rq HO497.out) hb); have n5_ := Ak (Kd.S_below (sq HO500.out) hb); have n6_ := Ak (Kd.S_lower (Kd.S_new' (Kd.S_new' (Kd.S_new' (Kd.S_new' ho0 (Kd.S_lt (sq HO_9.out))) (Kd.S_lt (sq HO_13.out))) (Kd.R_lt (rq HO_471000.out))) (Kd.R_lt (rq HO497.out))) (below_size (bw4 HB.out GE447.out GE463.out GE470.out GE479.out))); have n7_ := Ak (blk_below (g := gb447) (o := .cells #[.slice A0_0 l0_0.length c0_0, .slice A0_1 l0_1.length c0_1] 25 (0, 0)) (bq BK447.out) hb); have n8_ := Ak (blk_below (g := gb463) (o := .cells #[.int .i64 t455, .int .i64 t456, .int .i64 t457, .int .i64 t458] 32 (0, 0)) (bq BK463.out) hb); have n9_ := Ak (blk_below (g := gb470) (o := .cells #[.slice Ao28 t490.length co28, .slice Ao32 t467.length co32] 31 (0, 0)) (bq BK470.out) hb); have n10_ := Ak (blk_below (g := gb479) (o := .cells #[.int .i64 t471, .int .i64 t472, .int .i64 t473, .int .i64 t474] 32 (0, 0)) (bq BK479.out) hb); have n11_ := Ak (below_step (bw4 HB.out GE447.out GE463.out GE470.out GE479.out) hb); clear HO_9; clear HO_13; clear HO_471000; clear HO_471001; clear HO497; clear HO500; clear BK447; clear BK463; clear BK470; clear BK479; clear HB; have HO_9 := n0_; have HO_13 := n1_; have HO_471000 := n2_; have HO_471001 := n3_; have HO497 := n4_; have HO500 := n5_; have HO507 := n6_; have BK447 := n7_; have BK463 := n8_; have BK470 := n9_; have BK479 := n10_; have HB := n11_; clear n0_ n1_ n2_ n3_ n4_ n5_ n6_ n7_ n8_ n9_ n10_ n11_) | ((with_reducible refine gate_dst (N := 18) rfl ?_); refine box_event ?hg (N := 18) ?hd (cs := #[.int .i64 0, .int .i64 0, .int .i64 0, .int .i64 0]) (t := 32) ?hr ?_; (case hd => rfl); (case hg => rfl); (case hr => first | (go_simp; done) | (go_simp; rfl)); intro gb509 hg w138 hbox hb; have n0_ := Ak (Kd.S_below (sq HO_9.out) hb); have n1_ := Ak (Kd.S_below (sq HO_13.out) hb); have n2_ := Ak (Kd.R_below (rq HO_471000.out) hb); have n3_ := Ak (Kd.S_below (sq HO_471001.out) hb); have n4_ := Ak (Kd.R_below (rq HO497.out) hb); have n5_ := Ak (Kd.S_below (sq HO500.out) hb); have n6_ := Ak (Kd.S_below (sq HO507.out) hb); have n7_ := Ak (blk_below (g := gb447) (o := .cells #[.slice A0_0 l0_0.length c0_0, .slice A0_1 l0_1.length c0_1] 25 (0, 0)) (bq BK447.out) hb); have n8_ := Ak (blk_below (g := gb463) (o := .cells #[.int .i64 t455, .int .i64 t456, .int .i64 t457, .int .i64 t458] 32 (0, 0)) (bq BK463.out) hb); have n9_ := Ak (blk_below (g := gb470) (o := .cells #[.slice Ao28 t490.length co28, .slice Ao32 t467.length co32] 31 (0, 0)) (bq BK470.out) hb); have n10_ := Ak (blk_below (g := gb479) (o := .cells #[.int .i64 t471, .int .i64 t472, .int .i64 t473, .int .i64 t474] 32 (0, 0)) (bq BK479.out) hb); have n11_ := Ak (below_step (bw4 HB.out GE447.out GE463.out GE470.out GE479.out) hb); have n12_ := Ak (hbox); have n13_ := Ak ((by rw [hg]; exact (below_size (bw4 HB.out GE447.out GE463.out GE470.out GE479.out)) : w.heap.size ≤ gb509)); have n14_ := Ak ((by rw [hg]; exact (below_size (bw4 HB.out GE447.out GE463.out GE470.out GE479.out)) : w.heap.size ≤ gb509)); have n15_ := Ak ((by rw [hg]; exact Nat.ne_of_lt (blk_lt (g := gb447) (o := .cells #[.slice A0_0 l0_0.length c0_0, .slice A0_1 l0_1.length c0_1] 25 (0, 0)) (bq BK447.out)) : gb447 ≠ gb509)); have n16_ := Ak ((by rw [hg]; exact Nat.ne_of_gt (blk_lt (g := gb447) (o := .cells #[.slice A0_0 l0_0.length c0_0, .slice A0_1 l0_1.length c0_1] 25 (0, 0)) (bq BK447.out)) : gb509 ≠ gb447)); have n17_ := Ak ((by rw [hg]; exact Nat.ne_of_lt (blk_lt (g := gb463) (o := .cells #[.int .i64 t455, .int .i64 t456, .int .i64 t457, .int .i64 t458] 32 (0, 0)) (bq BK463.out)) : gb463 ≠ gb509)); have n18_ := Ak ((by rw [hg]; exact Nat.ne_of_gt (blk_lt (g := gb463) (o := .cells #[.int .i64 t455, .int .i64 t456, .int .i64 t457, .int .i64 t458] 32 (0, 0)) (bq BK463.out)) : gb509 ≠ gb463)); have n19_ := Ak ((by rw [hg]; exact Nat.ne_of_lt (blk_lt (g := gb470) (o := .cells #[.slice Ao28 t490.length co28, .slice Ao32 t467.length co32] 31 (0, 0)) (bq BK470.out)) : gb470 ≠ gb509)); have n20_ := Ak ((by rw [hg]; exact Nat.ne_of_gt (blk_lt (g := gb470) (o := .cells #[.slice Ao28 t490.length co28, .slice Ao32 t467.length co32] 31 (0, 0)) (bq BK470.out)) : gb509 ≠ gb470)); have n21_ := Ak ((by rw [hg]; exact Nat.ne_of_lt (blk_lt (g := gb479) (o := .cells #[.int .i64 t471, .int .i64 t472, .int .i64 t473, .int .i64 t474] 32 (0, 0)) (bq BK479.out)) : gb479 ≠ gb509)); have n22_ := Ak ((by rw [hg]; exact Nat.ne_of_gt (blk_lt (g := gb479) (o := .cells #[.int .i64 t471, .int .i64 t472, .int .i64 t473, .int .i64 t474] 32 (0, 0)) (bq BK479.out)) : gb509 ≠ gb479)); clear HO_9; clear HO_13; clear HO_471000; clear HO_471001; clear HO497; clear HO500; clear HO507; clear BK447; clear BK463; clear BK470; clear BK479; clear HB; have HO_9 := n0_; have HO_13 := n1_; have HO_471000 := n2_; have HO_471001 := n3_; have HO497 := n4_; have HO500 := n5_; have HO507 := n6_; have BK447 := n7_; have BK463 := n8_; have BK470 := n9_; have BK479 := n10_; have HB := n11_; have BK509 := n12_; have GW509 := n13_; have GE509 := n14_; have NB447_509 := n15_; have NB509_447 := n16_; have NB463_509 := n17_; have NB509_463 := n18_; have NB470_509 := n19_; have NB509_470 := n20_; have NB479_509 := n21_; have NB509_479 := n22_; clear n0_ n1_ n2_ n3_ n4_ n5_ n6_ n7_ n8_ n9_ n10_ n11_ n12_ n13_ n14_ n15_ n16_ n17_ n18_ n19_ n20_ n21_ n22_; clear hb hbox hg; have hnb139 := NB509_447.out; have hnc139 := NB447_509.out; have hnb140 := NB509_463.out; have hnc140 := NB463_509.out; have hnb141 := NB509_470.out; have hnc141 := NB470_509.out; have hnb142 := NB509_479.out; have hnc142 := NB479_509.out; have hcz143_0 : w138.cell? ⟨gb509, 0, none⟩ = some (.int .i64 0) := (blk_cell BK509.out 0).trans rfl; have hcz143_1 : w138.cell? ⟨gb509, 1, none⟩ = some (.int .i64 0) := (blk_cell BK509.out 1).trans rfl; have hcz143_2 : w138.cell? ⟨gb509, 2, none⟩ = some (.int .i64 0) := (blk_cell BK509.out 2).trans rfl; have hcz143_3 : w138.cell? ⟨gb509, 3, none⟩ = some (.int .i64 0) := (blk_cell BK509.out 3).trans rfl; have hfz143_0 := blk_frozen BK509.out 0; have hfz143_1 := blk_frozen BK509.out 1; have hfz143_2 := blk_frozen BK509.out 2; have hfz143_3 := blk_frozen BK509.out 3))
           (try simp only [Act.put, sT, sZ, sS])
           go_cut [121] (fun v121 wc => ∃ (kq : Nat) (x121_127 : Bool), v121 = .bool x121_127 ∧ Aside0 (laws_FnExactLogOpen.j2 kq y493 t493 x121_127 = some r) ∧ Aside0 (kq ≤ kj75) ∧ Aside0 (Kd.S (Kd.slice 5 (Kd.int .u8)) 22 wc w.heap.size (fun k_ => some k_ ≠ ((.slice Ao28 t490.length co28) : Value).ownBlock ∧ N3_ ≤ k_) (.slice Ao129 t475.length co129) y493) ∧ Aside0 (Kd.R (Kd.int .u8) 5 wc w.heap.size (fun _ => True) (.slice Ao28 t490.length co28) t490) ∧ Aside0 (Kd.S k96 96 wc w.heap.size (fun k_ => some k_ ≠ ((.slice Ao28 t490.length co28) : Value).ownBlock ∧ N1_ ≤ k_ ∧ k_ < N3_) (.slice Ao32 t467.length co32) y490) ∧ Aside0 (wc.heap[gb447]? = some (.cells #[(.slice A0_0 l0_0.length c0_0), (.slice A0_1 l0_1.length c0_1)] 25 (0, 0))) ∧ Aside0 (wc.heap[gb463]? = some (.cells #[.int .i64 t455, .int .i64 t456, .int .i64 t457, .int .i64 t458] 32 (0, 0))) ∧ Aside0 (wc.heap[gb470]? = some (.cells #[(.slice Ao28 t490.length co28), (.slice Ao32 t467.length co32)] 31 (0, 0))) ∧ Aside0 (wc.heap[gb479]? = some (.cells #[.int .i64 t471, .int .i64 t472, .int .i64 t473, .int .i64 t474] 32 (0, 0))) ∧ Aside0 (wc.heap[gb509]? = some (.cells #[.int .i64 t501, .int .i64 t502, .int .i64 t503, .int .i64 t504] 32 (0, 0))) ∧ Aside0 (Below w.heap.size w wc))
           case first =>
            have H := HC128.out
            clear HC128
            replace H := Option.bind_eq_some_iff.mp H
            obtain ⟨t510, A1440, H⟩ := H
            replace H : (if t510 = true then ((laws_eqByteSS.f kj75 t505 t459).bind fun t511 => (if t511 = true then (laws_FnExactLogOpen.j2 kj75 y493 t493 (t508 != t462)) else (laws_FnExactLogOpen.j2 kj75 y493 t493 true))) else (laws_FnExactLogOpen.j2 kj75 y493 t493 true)) = some r := H
            have A144 := Ak A1440
            clear A1440
            by_cases c145 : t510 = true
            ·subst c145
             have H1 : ((laws_eqByteSS.f kj75 t505 t459).bind fun t511 => (if t511 = true then (laws_FnExactLogOpen.j2 kj75 y493 t493 (t508 != t462)) else (laws_FnExactLogOpen.j2 kj75 y493 t493 true))) = some r := by rw [if_pos rfl] at H; exact H
             clear H
             have H := H1
             clear H1
             replace H := Option.bind_eq_some_iff.mp H
             obtain ⟨t511, A1460, H⟩ := H
             replace H : (if t511 = true then (laws_FnExactLogOpen.j2 kj75 y493 t493 (t508 != t462)) else (laws_FnExactLogOpen.j2 kj75 y493 t493 true)) = some r := H
             have A146 := Ak A1460
             clear A1460
             by_cases c147 : t511 = true
             ·subst c147
              have H1 : (laws_FnExactLogOpen.j2 kj75 y493 t493 (t508 != t462)) = some r := by rw [if_pos rfl] at H; exact H
              clear H
              have H := H1
              clear H1
              have H' := Ak H
              clear H
              have hnb148 := NB509_447.out
              have hnc148 := NB447_509.out
              have hnb149 := NB509_463.out
              have hnc149 := NB463_509.out
              have hnb150 := NB509_470.out
              have hnc150 := NB470_509.out
              have hnb151 := NB509_479.out
              have hnc151 := NB479_509.out
              have hcz152_0 : w138.cell? ⟨gb509, 0, none⟩ = some (.int .i64 0) := (blk_cell BK509.out 0).trans rfl
              have hcz152_1 : w138.cell? ⟨gb509, 1, none⟩ = some (.int .i64 0) := (blk_cell BK509.out 1).trans rfl
              have hcz152_2 : w138.cell? ⟨gb509, 2, none⟩ = some (.int .i64 0) := (blk_cell BK509.out 2).trans rfl
              have hcz152_3 : w138.cell? ⟨gb509, 3, none⟩ = some (.int .i64 0) := (blk_cell BK509.out 3).trans rfl
              have hfz152_0 := blk_frozen BK509.out 0
              have hfz152_1 := blk_frozen BK509.out 1
              have hfz152_2 := blk_frozen BK509.out 2
              have hfz152_3 := blk_frozen BK509.out 3
              have hnb153 := NB463_447.out
              have hnc153 := NB447_463.out
              have hnb154 := NB463_470.out
              have hnc154 := NB470_463.out
              have hnb155 := NB463_479.out
              have hnc155 := NB479_463.out
              have hcz156_0 : w138.cell? ⟨gb463, 0, none⟩ = some (.int .i64 t455) := (blk_cell BK463.out 0).trans rfl
              have hcz156_1 : w138.cell? ⟨gb463, 1, none⟩ = some (.int .i64 t456) := (blk_cell BK463.out 1).trans rfl
              have hcz156_2 : w138.cell? ⟨gb463, 2, none⟩ = some (.int .i64 t457) := (blk_cell BK463.out 2).trans rfl
              have hcz156_3 : w138.cell? ⟨gb463, 3, none⟩ = some (.int .i64 t458) := (blk_cell BK463.out 3).trans rfl
              have hfz156_0 := blk_frozen BK463.out 0
              have hfz156_1 := blk_frozen BK463.out 1
              have hfz156_2 := blk_frozen BK463.out 2
              have hfz156_3 := blk_frozen BK463.out 3
              go_wp2_with (first | ((with_reducible refine gate_callee (f := 15) rfl ?_); refine goesL_ (some 109) rfl rfl Try.func15 (by kernel_rfl) rfl #[.agg #[.int .i64 t501, .int .i64 t502, .int .i64 t503, .int .i64 t504], .agg #[.int .i64 t455, .int .i64 t456, .int .i64 t457, .int .i64 t458]] rfl gm ?_; (with_reducible refine (laws_eqLog.calls t501 t502 t503 t504 t455 t456 t457 t458 true _ A144.out).mono ?_); rintro e w157 ⟨rfl, hb⟩; refine ⟨_, rfl, ?_⟩; have n0_ := Ak (Kd.S_below (by (with_reducible repeat (first | apply Kd.S_alloc | apply Kd.S_drewN | apply Kd.S_drew)); exact (Kd.S_mono (Kd.S_far (p := ⟨gb509, 3, none⟩) (Kd.S_far (p := ⟨gb509, 2, none⟩) (Kd.S_far (p := ⟨gb509, 1, none⟩) (Kd.S_far (p := ⟨gb509, 0, none⟩) (Kd.S_types HO_9.out BK509.out (by decide)) (fun _ hk => hk.2) (.int .i64 t501)) (fun _ hk => hk.2) (.int .i64 t502)) (fun _ hk => hk.2) (.int .i64 t503)) (fun _ hk => hk.2) (.int .i64 t504)) (fun _ h_ => h_.1))) hb); have n1_ := Ak (Kd.S_below (by (with_reducible repeat (first | apply Kd.S_alloc | apply Kd.S_drewN | apply Kd.S_drew)); exact (Kd.S_mono (Kd.S_far (p := ⟨gb509, 3, none⟩) (Kd.S_far (p := ⟨gb509, 2, none⟩) (Kd.S_far (p := ⟨gb509, 1, none⟩) (Kd.S_far (p := ⟨gb509, 0, none⟩) (Kd.S_types HO_13.out BK509.out (by decide)) (fun _ hk => hk.2) (.int .i64 t501)) (fun _ hk => hk.2) (.int .i64 t502)) (fun _ hk => hk.2) (.int .i64 t503)) (fun _ hk => hk.2) (.int .i64 t504)) (fun _ h_ => h_.1))) hb); have n2_ := Ak (Kd.R_below (by (with_reducible repeat (first | apply Kd.R_alloc | apply Kd.R_drewN | apply Kd.R_drew)); exact (Kd.R_mono (Kd.R_far (p := ⟨gb509, 3, none⟩) (Kd.R_far (p := ⟨gb509, 2, none⟩) (Kd.R_far (p := ⟨gb509, 1, none⟩) (Kd.R_far (p := ⟨gb509, 0, none⟩) (Kd.R_types HO_471000.out BK509.out (by decide)) (fun _ hk => hk.2) (.int .i64 t501)) (fun _ hk => hk.2) (.int .i64 t502)) (fun _ hk => hk.2) (.int .i64 t503)) (fun _ hk => hk.2) (.int .i64 t504)) (fun _ h_ => h_.1))) hb); have n3_ := Ak (Kd.S_below (by (with_reducible repeat (first | apply Kd.S_alloc | apply Kd.S_drewN | apply Kd.S_drew)); exact (Kd.S_mono (Kd.S_far (p := ⟨gb509, 3, none⟩) (Kd.S_far (p := ⟨gb509, 2, none⟩) (Kd.S_far (p := ⟨gb509, 1, none⟩) (Kd.S_far (p := ⟨gb509, 0, none⟩) (Kd.S_types HO_471001.out BK509.out (by decide)) (fun _ hk => hk.2) (.int .i64 t501)) (fun _ hk => hk.2) (.int .i64 t502)) (fun _ hk => hk.2) (.int .i64 t503)) (fun _ hk => hk.2) (.int .i64 t504)) (fun _ h_ => h_.1))) hb); have n4_ := Ak (Kd.R_below (by (with_reducible repeat (first | apply Kd.R_alloc | apply Kd.R_drewN | apply Kd.R_drew)); exact (Kd.R_mono (Kd.R_far (p := ⟨gb509, 3, none⟩) (Kd.R_far (p := ⟨gb509, 2, none⟩) (Kd.R_far (p := ⟨gb509, 1, none⟩) (Kd.R_far (p := ⟨gb509, 0, none⟩) (Kd.R_types HO497.out BK509.out (by decide)) (fun _ hk => hk.2) (.int .i64 t501)) (fun _ hk => hk.2) (.int .i64 t502)) (fun _ hk => hk.2) (.int .i64 t503)) (fun _ hk => hk.2) (.int .i64 t504)) (fun _ h_ => h_.1))) hb); have n5_ := Ak (Kd.S_below (by (with_reducible repeat (first | apply Kd.S_alloc | apply Kd.S_drewN | apply Kd.S_drew)); exact (Kd.S_mono (Kd.S_far (p := ⟨gb509, 3, none⟩) (Kd.S_far (p := ⟨gb509, 2, none⟩) (Kd.S_far (p := ⟨gb509, 1, none⟩) (Kd.S_far (p := ⟨gb509, 0, none⟩) (Kd.S_types HO500.out BK509.out (by decide)) (fun _ hk => hk.2) (.int .i64 t501)) (fun _ hk => hk.2) (.int .i64 t502)) (fun _ hk => hk.2) (.int .i64 t503)) (fun _ hk => hk.2) (.int .i64 t504)) (fun _ h_ => h_.1))) hb); have n6_ := Ak (Kd.S_below (by (with_reducible repeat (first | apply Kd.S_alloc | apply Kd.S_drewN | apply Kd.S_drew)); exact (Kd.S_mono (Kd.S_far (p := ⟨gb509, 3, none⟩) (Kd.S_far (p := ⟨gb509, 2, none⟩) (Kd.S_far (p := ⟨gb509, 1, none⟩) (Kd.S_far (p := ⟨gb509, 0, none⟩) (Kd.S_types HO507.out BK509.out (by decide)) (fun _ hk => hk.2) (.int .i64 t501)) (fun _ hk => hk.2) (.int .i64 t502)) (fun _ hk => hk.2) (.int .i64 t503)) (fun _ hk => hk.2) (.int .i64 t504)) (fun _ h_ => h_.1))) hb); have n7_ := Ak (blk_below (g := gb447) (o := .cells #[.slice A0_0 l0_0.length c0_0, .slice A0_1 l0_1.length c0_1] 25 (0, 0)) (by (with_reducible repeat (first | refine blk_drewN ?_ _ | refine blk_drew ?_ | refine blk_alloc ?_ _)); refine blk_far ?_ NB447_509.out _; (with_reducible repeat (first | refine blk_drewN ?_ _ | refine blk_drew ?_ | refine blk_alloc ?_ _)); refine blk_far ?_ NB447_509.out _; (with_reducible repeat (first | refine blk_drewN ?_ _ | refine blk_drew ?_ | refine blk_alloc ?_ _)); refine blk_far ?_ NB447_509.out _; (with_reducible repeat (first | refine blk_drewN ?_ _ | refine blk_drew ?_ | refine blk_alloc ?_ _)); refine blk_far ?_ NB447_509.out _; (with_reducible repeat (first | refine blk_drewN ?_ _ | refine blk_drew ?_ | refine blk_alloc ?_ _)); exact BK447.out) hb); have n8_ := Ak (blk_below (g := gb463) (o := .cells #[.int .i64 t455, .int .i64 t456, .int .i64 t457, .int .i64 t458] 32 (0, 0)) (by (with_reducible repeat (first | refine blk_drewN ?_ _ | refine blk_drew ?_ | refine blk_alloc ?_ _)); refine blk_far ?_ NB463_509.out _; (with_reducible repeat (first | refine blk_drewN ?_ _ | refine blk_drew ?_ | refine blk_alloc ?_ _)); refine blk_far ?_ NB463_509.out _; (with_reducible repeat (first | refine blk_drewN ?_ _ | refine blk_drew ?_ | refine blk_alloc ?_ _)); refine blk_far ?_ NB463_509.out _; (with_reducible repeat (first | refine blk_drewN ?_ _ | refine blk_drew ?_ | refine blk_alloc ?_ _)); refine blk_far ?_ NB463_509.out _; (with_reducible repeat (first | refine blk_drewN ?_ _ | refine blk_drew ?_ | refine blk_alloc ?_ _)); exact BK463.out) hb); have n9_ := Ak (blk_below (g := gb470) (o := .cells #[.slice Ao28 t490.length co28, .slice Ao32 t467.length co32] 31 (0, 0)) (by (with_reducible repeat (first | refine blk_drewN ?_ _ | refine blk_drew ?_ | refine blk_alloc ?_ _)); refine blk_far ?_ NB470_509.out _; (with_reducible repeat (first | refine blk_drewN ?_ _ | refine blk_drew ?_ | refine blk_alloc ?_ _)); refine blk_far ?_ NB470_509.out _; (with_reducible repeat (first | refine blk_drewN ?_ _ | refine blk_drew ?_ | refine blk_alloc ?_ _)); refine blk_far ?_ NB470_509.out _; (with_reducible repeat (first | refine blk_drewN ?_ _ | refine blk_drew ?_ | refine blk_alloc ?_ _)); refine blk_far ?_ NB470_509.out _; (with_reducible repeat (first | refine blk_drewN ?_ _ | refine blk_drew ?_ | refine blk_alloc ?_ _)); exact BK470.out) hb); have n10_ := Ak (blk_below (g := gb479) (o := .cells #[.int .i64 t471, .int .i64 t472, .int .i64 t473, .int .i64 t474] 32 (0, 0)) (by (with_reducible repeat (first | refine blk_drewN ?_ _ | refine blk_drew ?_ | refine blk_alloc ?_ _)); refine blk_far ?_ NB479_509.out _; (with_reducible repeat (first | refine blk_drewN ?_ _ | refine blk_drew ?_ | refine blk_alloc ?_ _)); refine blk_far ?_ NB479_509.out _; (with_reducible repeat (first | refine blk_drewN ?_ _ | refine blk_drew ?_ | refine blk_alloc ?_ _)); refine blk_far ?_ NB479_509.out _; (with_reducible repeat (first | refine blk_drewN ?_ _ | refine blk_drew ?_ | refine blk_alloc ?_ _)); refine blk_far ?_ NB479_509.out _; (with_reducible repeat (first | refine blk_drewN ?_ _ | refine blk_drew ?_ | refine blk_alloc ?_ _)); exact BK479.out) hb); have n11_ := Ak (blk_below (g := gb509) (o := .cells #[.int .i64 t501, .int .i64 t502, .int .i64 t503, .int .i64 t504] 32 (0, 0)) (by (with_reducible repeat (first | refine blk_drewN ?_ _ | refine blk_drew ?_ | refine blk_alloc ?_ _)); refine blk_put (cs := #[.int .i64 t501, .int .i64 t502, .int .i64 t503, .int .i64 0]) ?_ 3 _ rfl; (with_reducible repeat (first | refine blk_drewN ?_ _ | refine blk_drew ?_ | refine blk_alloc ?_ _)); refine blk_put (cs := #[.int .i64 t501, .int .i64 t502, .int .i64 0, .int .i64 0]) ?_ 2 _ rfl; (with_reducible repeat (first | refine blk_drewN ?_ _ | refine blk_drew ?_ | refine blk_alloc ?_ _)); refine blk_put (cs := #[.int .i64 t501, .int .i64 0, .int .i64 0, .int .i64 0]) ?_ 1 _ rfl; (with_reducible repeat (first | refine blk_drewN ?_ _ | refine blk_drew ?_ | refine blk_alloc ?_ _)); refine blk_put (cs := #[.int .i64 0, .int .i64 0, .int .i64 0, .int .i64 0]) ?_ 0 _ rfl; (with_reducible repeat (first | refine blk_drewN ?_ _ | refine blk_drew ?_ | refine blk_alloc ?_ _)); exact BK509.out) hb); have n12_ := Ak (below_step (by repeat (first | (with_reducible first | exact HB.out | apply below_alloc | apply pw_below_drewN | apply below_drew1 | refine below_set ?_ GE447.out | refine below_set ?_ GE463.out | refine below_set ?_ GE470.out | refine below_set ?_ GE479.out | refine below_set ?_ GE509.out) | exact HB.out)) hb); clear HO_9; clear HO_13; clear HO_471000; clear HO_471001; clear HO497; clear HO500; clear HO507; clear BK447; clear BK463; clear BK470; clear BK479; clear BK509; clear HB; have HO_9 := n0_; have HO_13 := n1_; have HO_471000 := n2_; have HO_471001 := n3_; have HO497 := n4_; have HO500 := n5_; have HO507 := n6_; have BK447 := n7_; have BK463 := n8_; have BK470 := n9_; have BK479 := n10_; have BK509 := n11_; have HB := n12_; clear n0_ n1_ n2_ n3_ n4_ n5_ n6_ n7_ n8_ n9_ n10_ n11_ n12_; obtain ⟨Ao158, co158, eo158⟩ := Kd.S_slice HO507.out; subst eo158; obtain ⟨Ao159, co159, eo159⟩ := Kd.S_slice HO_9.out; subst eo159) | (go_at_call 22; (with_reducible refine (laws_eqByteSS.calls kj75 _ _ t505 _ _ t459 true _ ?side1 ?side2 ?side3 ?side4 A146.out).mono ?_); (case side1 => repeat (first | exact (Kd.S_reads' HO507.out).2.2 | (with_reducible refine Kd.C_alloc ?_ _) | (with_reducible refine Kd.C_drewN ?_ _) | (with_reducible refine Kd.C_drew ?_))); (case side2 => exact (Kd.S_reads' HO507.out).2.1); (case side3 => repeat (first | exact (Kd.S_reads' HO_9.out).2.2 | (with_reducible refine Kd.C_alloc ?_ _) | (with_reducible refine Kd.C_drewN ?_ _) | (with_reducible refine Kd.C_drew ?_))); (case side4 => exact (Kd.S_reads' HO_9.out).2.1); rintro e w' ⟨rfl, ⟨nd, rfl⟩⟩))
              go_meet
              case rel => exact ⟨_, ((t508 != t462)), (by first | rfl | (simp; done) | (simp [*]; done)), H', ⟨by have := HJ12.out; have := HJ75.out; first | omega | exact Nat.le_refl _⟩, ⟨by (try simp only [hl471000_75]); (with_reducible repeat (first | apply Kd.S_alloc | apply Kd.S_drewN | apply Kd.S_drew)); exact Kd.S_mono HO_13.out (fun k_ hk_ => by (revert hk_; (try simp only [and_imp]); intros; (repeat' (first | (with_reducible assumption) | (with_reducible refine And.intro ?_ ?_) | trivial))))⟩, ⟨by (try simp only [hl471000_75]); (with_reducible repeat (first | apply Kd.R_alloc | apply Kd.R_drewN | apply Kd.R_drew)); exact Kd.R_mono HO_471000.out (fun _ hk => trivial)⟩, ⟨by (try simp only [hl471000_75]); (with_reducible repeat (first | apply Kd.S_alloc | apply Kd.S_drewN | apply Kd.S_drew)); exact Kd.S_mono HO_471001.out (fun k_ hk_ => by (revert hk_; (try simp only [and_imp]); intros; (repeat' (first | (with_reducible assumption) | (with_reducible refine And.intro ?_ ?_) | trivial))))⟩, ⟨by (try simp only [hl471000_75]); (with_reducible repeat (first | refine blk_drewN ?_ _ | refine blk_drew ?_ | refine blk_alloc ?_ _)); exact BK447.out⟩, ⟨by (try simp only [hl471000_75]); (with_reducible repeat (first | refine blk_drewN ?_ _ | refine blk_drew ?_ | refine blk_alloc ?_ _)); exact BK463.out⟩, ⟨by (try simp only [hl471000_75]); (with_reducible repeat (first | refine blk_drewN ?_ _ | refine blk_drew ?_ | refine blk_alloc ?_ _)); exact BK470.out⟩, ⟨by (try simp only [hl471000_75]); (with_reducible repeat (first | refine blk_drewN ?_ _ | refine blk_drew ?_ | refine blk_alloc ?_ _)); exact BK479.out⟩, ⟨by (try simp only [hl471000_75]); (with_reducible repeat (first | refine blk_drewN ?_ _ | refine blk_drew ?_ | refine blk_alloc ?_ _)); exact BK509.out⟩, ⟨by repeat (first | (with_reducible first | exact HB.out | apply below_alloc | apply pw_below_drewN | apply below_drew1 | refine below_set ?_ GE447.out | refine below_set ?_ GE463.out | refine below_set ?_ GE470.out | refine below_set ?_ GE479.out | refine below_set ?_ GE509.out) | exact HB.out)⟩⟩
             ·replace c147 := Bool.eq_false_iff.mpr c147
              subst c147
              have H1 : (laws_FnExactLogOpen.j2 kj75 y493 t493 true) = some r := by rw [if_neg (show ¬ (false = true) by decide)] at H; exact H
              clear H
              exact by (cases kj75 with | zero => exact absurd H1 (by simp [laws_FnExactLogOpen.j2]) | succ q_ => (exact absurd ((Option.some.inj (show some false = some r from by simpa only [laws_FnExactLogOpen.j2, if_true] using H1)).trans hrt) (by decide)))
            ·replace c145 := Bool.eq_false_iff.mpr c145
             subst c145
             have H1 : (laws_FnExactLogOpen.j2 kj75 y493 t493 true) = some r := by rw [if_neg (show ¬ (false = true) by decide)] at H; exact H
             clear H
             exact by (cases kj75 with | zero => exact absurd H1 (by simp [laws_FnExactLogOpen.j2]) | succ q_ => (exact absurd ((Option.some.inj (show some false = some r from by simpa only [laws_FnExactLogOpen.j2, if_true] using H1)).trans hrt) (by decide)))
           case rest =>
            clear HC128
            try clear c5b0
            try clear c87b0
            try clear c123b0
            try clear c125b0
            try clear c125b1
            obtain ⟨kq, x121_127, rfl, HA, HJ127, HO_13, HO_471000, HO_471001, BK447, BK463, BK470, BK479, BK509, HB⟩ := hcut
            cases kq with
            | zero => exact absurd HA.out (by simp [laws_FnExactLogOpen.j2])
            | succ kj127 =>
             have H := HA.out
             clear HA
             simp only [laws_FnExactLogOpen.j2] at H
             by_cases c182 : x121_127 = true
             ·subst c182
              have H1 : (some false) = some r := by rw [if_pos rfl] at H; exact H
              clear H
              have H := H1
              clear H1
              exact absurd ((Option.some.inj H).trans hrt) (by decide)
             ·replace c182 := Bool.eq_false_iff.mpr c182
              subst c182
              have H1 : ((laws_heldByteSS.f kj127 y493 1).bind fun t512 => (if t512 < 0 then (some false) else (if t512 = t493 then (some true) else (some false)))) = some r := by rw [if_neg (show ¬ (false = true) by decide)] at H; exact H
              clear H
              have H := H1
              clear H1
              replace H := Option.bind_eq_some_iff.mp H
              obtain ⟨t512, A1830, H⟩ := H
              replace H : (if t512 < 0 then (some false) else (if t512 = t493 then (some true) else (some false))) = some r := H
              have A183 := Ak A1830
              clear A1830
              by_cases c184 : t512 < 0
              ·rw [if_pos c184] at H
               have c184b0 : decide (t512 < 0) = true := decide_eq_true c184
               clear c184
               exact absurd ((Option.some.inj H).trans hrt) (by decide)
              ·rw [if_neg c184] at H
               have c184b0 : decide (t512 < 0) = false := decide_eq_false c184
               clear c184
               by_cases c185 : t512 = t493
               ·rw [if_pos c185] at H
                have c185b0 : (t512 == t493) = true := beq_iff_eq.mpr c185
                have c185b1 : (t512 != t493) = false := bne_eq_false_iff_eq.mpr c185
                clear c185
                obtain rfl := Option.some.inj H
                go_wp2_with (first | ((with_reducible refine gate_callee (f := 24) rfl ?_); refine goesL_ (some 124) rfl rfl Try.func24 (by kernel_rfl) rfl #[.slice Ao129 y493.length co129, .int .i64 1] rfl (by (try simp only [List.map_toArray, List.map_cons, List.map_nil]); first | done | (rw [show y493.length = t475.length from HYL.out]; first | done | rfl) | rfl | (simp only [List.length_drop, List.length_take]; rfl)) ?_; (with_reducible refine (laws_heldByteSS.calls kj127 _ _ y493 1 t512 _ ?side1 ?side2 A183.out).mono ?_); (case side1 => repeat (first | exact (Kd.S_reads' HO_13.out).2.2 | (with_reducible refine Kd.C_alloc ?_ _) | (with_reducible refine Kd.C_drewN ?_ _) | (with_reducible refine Kd.C_drew ?_))); (case side2 => first | exact (Kd.S_reads' HO_13.out).2.1 | (rw [show y493.length = t475.length from HYL.out]; exact (Kd.S_reads' HO_13.out).2.1)); rintro e w' ⟨rfl, ⟨nd, rfl⟩⟩; refine ⟨_, rfl, ?_⟩))
                go_ret
                exact ⟨by first | rfl | (simp [errW_none, errW_some] <;> rfl) | (simp [*, errW_none, errW_some] <;> rfl), by repeat (first | (with_reducible first | exact HB.out | apply below_alloc | apply pw_below_drewN | apply below_drew1 | refine below_set ?_ GE447.out | refine below_set ?_ GE463.out | refine below_set ?_ GE470.out | refine below_set ?_ GE479.out | refine below_set ?_ GE509.out) | exact HB.out)⟩
               ·rw [if_neg c185] at H
                have c185b0 : (t512 == t493) = false := beq_eq_false_iff_ne.mpr c185
                have c185b1 : (t512 != t493) = true := bne_iff_ne.mpr c185
                exact absurd ((Option.some.inj H).trans hrt) (by decide)
          ·rw [if_neg c125] at H
           have c125b0 : (t494 == t493) = false := beq_eq_false_iff_ne.mpr c125
           have c125b1 : (t494 != t493) = true := bne_iff_ne.mpr c125
           exact absurd ((Option.some.inj H).trans hrt) (by decide)
     ·replace c74 := Bool.eq_false_iff.mpr c74
      subst c74
      have H1 : (some false) = some r := by rw [if_neg (show ¬ (false = true) by decide)] at H; exact H
      clear H
      have H := H1
      clear H1
      exact absurd ((Option.some.inj H).trans hrt) (by decide)

end Go.Proofs.Ytgmnphckgicadaa.PFnExactLogOpen

