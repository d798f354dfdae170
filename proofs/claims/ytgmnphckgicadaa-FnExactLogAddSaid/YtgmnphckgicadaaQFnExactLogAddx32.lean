/- Functions that the law reaches, with their contracts. -/
import Derived.Test.YtgmnphckgicadaaQFnExactLogAddx2
import Derived.Test.YtgmnphckgicadaaQFnExactLogAddx12
import Derived.Test.YtgmnphckgicadaaQFnExactLogAddx25
import Derived.Test.YtgmnphckgicadaaQFnExactLogAddx28
import Derived.Test.YtgmnphckgicadaaQFnExactLogAddx30
import Derived.Test.YtgmnphckgicadaaQFnExactLogAddx31
import Derived.Test.YtgmnphckgicadaaLatt
namespace Go.Proofs.Ytgmnphckgicadaa.PFnExactLogAdd
open Go.RowKit Go.Proofs.YtgmnphckgicadaaW.PrintWords Go.Proofs.YtgmnphckgicadaaW.PrintLast Go.Proofs.YtgmnphckgicadaaW.PrintMore
attribute [local go_sem] max2_int min2_int max_two min_two max_three min_three max_four min_four
set_option linter.unusedVariables false
set_option linter.unusedSimpArgs false

mutual
def laws_FnExactLogAdd.j0 : Nat → List Int → Bool → List Int → Bool → Bool → List Int → List (S115) → Int → Int → Int → Int → List Int → List (S96) → Int → Int → Int → Int → List Int → List (S96) → List Int → List (S96) → Int → Int → Int → Int → Option (Bool)
 | 0, _, _, _, _, _, _, _, _, _, _, _, _, _, _, _, _, _, _, _, _, _, _, _, _, _ => none
 | k + 1, x2, x10, x12, x15, x68, x456000, x456001, x457000, x457001, x457002, x457003, x483000, x483001, x484000, x484001, x484002, x484003, x491000, x491001, x510000, x510001, x511000, x511001, x511002, x511003 => if x68 = true then (some false) else ((laws_toDisk.f k x456000 x456001).bind fun bt513 => ((laws_eqDisk.f k x491000 x491001 bt513.1 bt513.2).bind fun t519 => (if t519 = true then ((laws_toByteS.f k x2).bind fun t520 => ((laws_eqByteS.f k x12 t520).bind fun t523 => (if t523 = true then ((laws_markDisk.f k x491000 x491001 1).bind fun bt524 => ((laws_markByteS.f k x12 bt524.1).bind fun bt526 => (if bt526.1 < 0 then (laws_FnExactLogAdd.j1 k x2 x10 true x456000 x456001 x457000 x457001 x457002 x457003 x483000 x483001 x484000 x484001 x484002 x484003 x510000 x510001) else ((laws_eqDisk.f k x510000 x510001 x483000 x483001).bind fun t528 => (if t528 = true then ((laws_eqLog.f x511000 x511001 x511002 x511003 x484000 x484001 x484002 x484003).bind fun t529 => (if t529 = true then (laws_FnExactLogAdd.j1 k x2 x10 (x15 != x10) x456000 x456001 x457000 x457001 x457002 x457003 x483000 x483001 x484000 x484001 x484002 x484003 x510000 x510001) else (laws_FnExactLogAdd.j1 k x2 x10 true x456000 x456001 x457000 x457001 x457002 x457003 x483000 x483001 x484000 x484001 x484002 x484003 x510000 x510001))) else (laws_FnExactLogAdd.j1 k x2 x10 true x456000 x456001 x457000 x457001 x457002 x457003 x483000 x483001 x484000 x484001 x484002 x484003 x510000 x510001)))))) else (some false)))) else (some false))))
def laws_FnExactLogAdd.j1 : Nat → List Int → Bool → Bool → List Int → List (S115) → Int → Int → Int → Int → List Int → List (S96) → Int → Int → Int → Int → List Int → List (S96) → Option (Bool)
 | 0, _, _, _, _, _, _, _, _, _, _, _, _, _, _, _, _, _ => none
 | k + 1, x2, x10, x103, x456000, x456001, x457000, x457001, x457002, x457003, x483000, x483001, x484000, x484001, x484002, x484003, x510000, x510001 => if x103 = true then (some false) else ((laws_markDisk.f k x510000 x510001 1).bind fun bt530 => ((laws_heldDisk.f k bt530.2.1 bt530.2.2 1).bind fun t532 => (if t532 < 0 then (some false) else (if t532 = bt530.1 then ((laws_toDisk.f k x456000 x456001).bind fun bt533 => ((laws_toLog.f x457000 x457001 x457002 x457003).bind fun bt539 => ((laws_toByteS.f k x2).bind fun t543 => ((impl_LogAdd.f k bt533.1 bt533.2 bt539.1 bt539.2.1 bt539.2.2.1 bt539.2.2.2 t543).bind fun bt546 => ((laws_eqDisk.f k bt546.1 bt546.2.1 x483000 x483001).bind fun t559 => (if t559 = true then ((laws_eqLog.f bt546.2.2.1 bt546.2.2.2.1 bt546.2.2.2.2.1 bt546.2.2.2.2.2.1 x484000 x484001 x484002 x484003).bind fun t560 => (if t560 = true then (laws_FnExactLogAdd.j2 k bt530.1 (bt546.2.2.2.2.2.2 != x10) bt530.2.1 bt530.2.2) else (laws_FnExactLogAdd.j2 k bt530.1 true bt530.2.1 bt530.2.2))) else (laws_FnExactLogAdd.j2 k bt530.1 true bt530.2.1 bt530.2.2))))))) else (some false)))))
def laws_FnExactLogAdd.j2 : Nat → Int → Bool → List Int → List (S96) → Option (Bool)
 | 0, _, _, _, _ => none
 | k + 1, x17, x140, x510000, x510001 => if x140 = true then (some false) else ((laws_heldDisk.f k x510000 x510001 1).bind fun t561 => (if t561 < 0 then (some false) else (if t561 = x17 then (some true) else (some false))))
end
def laws_FnExactLogAdd.f (k : Nat) (l0_0 : List Int) (l0_1 : List (S115)) (a1_0 : Int) (a1_1 : Int) (a1_2 : Int) (a1_3 : Int) (l2 : List Int) : Option (Bool) := if (l2.length : Int) > 1048576 then (some true) else ((laws_szDisk.f k l0_0 l0_1 1048576).bind fun t457 => (if t457 < 0 then (some true) else ((laws_toDisk.f k l0_0 l0_1).bind fun bt458 => ((laws_toLog.f a1_0 a1_1 a1_2 a1_3).bind fun bt464 => ((laws_toByteS.f k l2).bind fun t468 => ((spec_LogAdd.f k bt458.1 bt458.2 bt464.1 bt464.2.1 bt464.2.2.1 bt464.2.2.2 t468).bind fun bt471 => ((laws_toDisk.f k l0_0 l0_1).bind fun bt484 => ((laws_toByteS.f k l2).bind fun t491 => ((laws_toLog.f a1_0 a1_1 a1_2 a1_3).bind fun bt494 => ((impl_LogAdd.f k bt484.1 bt484.2 bt494.1 bt494.2.1 bt494.2.2.1 bt494.2.2.2 t491).bind fun bt498 => ((laws_eqDisk.f k bt498.1 bt498.2.1 bt471.1 bt471.2.1).bind fun t511 => (if t511 = true then ((laws_eqLog.f bt498.2.2.1 bt498.2.2.2.1 bt498.2.2.2.2.1 bt498.2.2.2.2.2.1 bt471.2.2.1 bt471.2.2.2.1 bt471.2.2.2.2.1 bt471.2.2.2.2.2.1).bind fun t512 => (if t512 = true then (laws_FnExactLogAdd.j0 k l2 bt471.2.2.2.2.2.2 t491 bt498.2.2.2.2.2.2 (bt498.2.2.2.2.2.2 != bt471.2.2.2.2.2.2) l0_0 l0_1 a1_0 a1_1 a1_2 a1_3 bt471.1 bt471.2.1 bt471.2.2.1 bt471.2.2.2.1 bt471.2.2.2.2.1 bt471.2.2.2.2.2.1 bt484.1 bt484.2 bt498.1 bt498.2.1 bt498.2.2.1 bt498.2.2.2.1 bt498.2.2.2.2.1 bt498.2.2.2.2.2.1) else (laws_FnExactLogAdd.j0 k l2 bt471.2.2.2.2.2.2 t491 bt498.2.2.2.2.2.2 true l0_0 l0_1 a1_0 a1_1 a1_2 a1_3 bt471.1 bt471.2.1 bt471.2.2.1 bt471.2.2.2.1 bt471.2.2.2.2.1 bt471.2.2.2.2.2.1 bt484.1 bt484.2 bt498.1 bt498.2.1 bt498.2.2.1 bt498.2.2.2.1 bt498.2.2.2.2.1 bt498.2.2.2.2.2.1))) else (laws_FnExactLogAdd.j0 k l2 bt471.2.2.2.2.2.2 t491 bt498.2.2.2.2.2.2 true l0_0 l0_1 a1_0 a1_1 a1_2 a1_3 bt471.1 bt471.2.1 bt471.2.2.1 bt471.2.2.2.1 bt471.2.2.2.2.1 bt471.2.2.2.2.2.1 bt484.1 bt484.2 bt498.1 bt498.2.1 bt498.2.2.1 bt498.2.2.2.1 bt498.2.2.2.2.1 bt498.2.2.2.2.2.1)))))))))))))
def laws_FnExactLogAdd.T7 : Bool × List (List Nat × List Nat) := (true, [([], []), ([0], [0]), ([], []), ([2, 1], [2]), ([], []), ([4, 3], [4]), ([1, 3, 5, 5], [1, 3, 5]), ([6], [6]), ([7], [7]), ([7], [7]), ([7], [7]), ([], []), ([], []), ([11, 8, 6, 0, 1, 2, 3, 4, 5, 6, 7, 8, 11, 12], [8, 11]), ([12, 9, 13, 0, 1, 2, 3, 4, 5, 6, 7, 8, 9, 11, 12, 13], [9, 12]), ([10, 14, 0, 1, 2, 3, 4, 5, 6, 7, 8, 9, 10, 11, 12, 13, 14], [10])])
def laws_FnExactLogAdd.B7 : List Nat := [0, 1, 0, 7, 0, 31, 63, 127, 255, 255, 255, 0, 0, 6655, 15359, 32767]
theorem laws_FnExactLogAdd.tab7 : rtab .any (opsOf Try.f3 7) = laws_FnExactLogAdd.T7 := by kernel_rfl
theorem laws_FnExactLogAdd.bits7 : waitsOk laws_FnExactLogAdd.T7.2 laws_FnExactLogAdd.B7 = true := by kernel_rfl
def laws_FnExactLogAdd.T10 : Bool × List (List Nat × List Nat) := (true, [([], []), ([], []), ([1], [1]), ([], []), ([0, 2, 3, 2], [0, 2, 3]), ([4], [4]), ([5], [5]), ([5], [5]), ([5], [5]), ([], []), ([], []), ([9, 6, 4, 0, 1, 2, 3, 4, 5, 6, 9, 10], [6, 9]), ([10, 7, 11, 0, 1, 2, 3, 4, 5, 6, 7, 9, 10, 11], [7, 10]), ([8, 12, 0, 1, 2, 3, 4, 5, 6, 7, 8, 9, 10, 11, 12], [8])])
def laws_FnExactLogAdd.B10 : List Nat := [0, 0, 2, 0, 15, 31, 63, 63, 63, 0, 0, 1663, 3839, 8191]
theorem laws_FnExactLogAdd.tab10 : rtab .any (opsOf Try.f3 10) = laws_FnExactLogAdd.T10 := by kernel_rfl
theorem laws_FnExactLogAdd.bits10 : waitsOk laws_FnExactLogAdd.T10.2 laws_FnExactLogAdd.B10 = true := by kernel_rfl
def laws_FnExactLogAdd.T30 : Bool × List (List Nat × List Nat) := (true, [([], []), ([0], [0]), ([], []), ([2, 1], [2]), ([], []), ([4, 3], [4]), ([1, 3, 5, 5], [1, 3, 5]), ([6], [6]), ([7], [7]), ([7], [7]), ([7], [7]), ([], []), ([], []), ([11, 8, 6, 0, 1, 2, 3, 4, 5, 6, 7, 8, 11, 12], [8, 11]), ([12, 9, 13, 0, 1, 2, 3, 4, 5, 6, 7, 8, 9, 11, 12, 13], [9, 12]), ([10, 14, 0, 1, 2, 3, 4, 5, 6, 7, 8, 9, 10, 11, 12, 13, 14], [10])])
def laws_FnExactLogAdd.B30 : List Nat := [0, 1, 0, 7, 0, 31, 63, 127, 255, 255, 255, 0, 0, 6655, 15359, 32767]
theorem laws_FnExactLogAdd.tab30 : rtab .any (opsOf Try.f3 30) = laws_FnExactLogAdd.T30 := by kernel_rfl
theorem laws_FnExactLogAdd.bits30 : waitsOk laws_FnExactLogAdd.T30.2 laws_FnExactLogAdd.B30 = true := by kernel_rfl
theorem S_new_name2 {W w2 : World} {b0 bw : Nat} {okx okw : Nat → Prop} {vx vw : Value} {lx lw : List S96} (_ : Below W.heap.size W w2) (hx : Kd.S k96 96 w2 W.heap.size okx vx lx) (hw : Kd.S k96 96 w2 bw (fun k => okw k ∧ k < W.heap.size) vw lw) (hl : b0 ≤ W.heap.size) :
  ∃ N : Nat, b0 ≤ N ∧ Kd.S k96 96 w2 N okx vx lx ∧ Kd.S k96 96 w2 bw (fun k => okw k ∧ k < N) vw lw := ⟨_, hl, hx, hw⟩
set_option maxHeartbeats 8000000 in
set_option maxRecDepth 100000 in
theorem laws_FnExactLogAdd.calls (k : Nat) (A0_0 : Option Addr) (c0_0 : Nat) (l0_0 : List Int) (A0_1 : Option Addr) (c0_1 : Nat) (l0_1 : List (S115)) (a1_0 : Int) (a1_1 : Int) (a1_2 : Int) (a1_3 : Int) (A2 : Option Addr) (c2 : Nat) (l2 : List Int) (r : Bool) (w : World) (hr0_0 : Kd.C (Kd.int .u8) w A0_0 l0_0.length l0_0) (hc0_0 : l0_0.length ≤ c0_0) (hr0_1 : Kd.C k115 w A0_1 l0_1.length l0_1) (hc0_1 : l0_1.length ≤ c0_1) (hr2 : Kd.C (Kd.int .u8) w A2 l2.length l2) (hc2 : l2.length ≤ c2) (h : laws_FnExactLogAdd.f k l0_0 l0_1 a1_0 a1_1 a1_2 a1_3 l2 = some r) (hrt : r = true) :
  Calls Try.prog 3 #[.agg #[.slice A0_0 l0_0.length c0_0, .slice A0_1 l0_1.length c0_1], .agg #[.int .i64 a1_0, .int .i64 a1_1, .int .i64 a1_2, .int .i64 a1_3], .slice A2 l2.length c2] w fun e w' => e = .returned (.bool r) ∧ Below w.heap.size w w' := by
 have hu25 := Try.underlying25
 have hu27 := Try.underlying27
 have hu31 := Try.underlying31
 have hu32 := Try.underlying32
 have HR0_0 := Ak hr0_0
 have HC0_0 := Ak hc0_0
 clear hr0_0 hc0_0
 have HR0_1 := Ak hr0_1
 have HC0_1 := Ak hc0_1
 clear hr0_1 hc0_1
 have HR2 := Ak hr2
 have HC2 := Ak hc2
 clear hr2 hc2
 have HB := Ak (Below.refl w.heap.size w)
 have H : (if (l2.length : Int) > 1048576 then (some true) else ((laws_szDisk.f k l0_0 l0_1 1048576).bind fun t457 => (if t457 < 0 then (some true) else ((laws_toDisk.f k l0_0 l0_1).bind fun bt458 => ((laws_toLog.f a1_0 a1_1 a1_2 a1_3).bind fun bt464 => ((laws_toByteS.f k l2).bind fun t468 => ((spec_LogAdd.f k bt458.1 bt458.2 bt464.1 bt464.2.1 bt464.2.2.1 bt464.2.2.2 t468).bind fun bt471 => ((laws_toDisk.f k l0_0 l0_1).bind fun bt484 => ((laws_toByteS.f k l2).bind fun t491 => ((laws_toLog.f a1_0 a1_1 a1_2 a1_3).bind fun bt494 => ((impl_LogAdd.f k bt484.1 bt484.2 bt494.1 bt494.2.1 bt494.2.2.1 bt494.2.2.2 t491).bind fun bt498 => ((laws_eqDisk.f k bt498.1 bt498.2.1 bt471.1 bt471.2.1).bind fun t511 => (if t511 = true then ((laws_eqLog.f bt498.2.2.1 bt498.2.2.2.1 bt498.2.2.2.2.1 bt498.2.2.2.2.2.1 bt471.2.2.1 bt471.2.2.2.1 bt471.2.2.2.2.1 bt471.2.2.2.2.2.1).bind fun t512 => (if t512 = true then (laws_FnExactLogAdd.j0 k l2 bt471.2.2.2.2.2.2 t491 bt498.2.2.2.2.2.2 (bt498.2.2.2.2.2.2 != bt471.2.2.2.2.2.2) l0_0 l0_1 a1_0 a1_1 a1_2 a1_3 bt471.1 bt471.2.1 bt471.2.2.1 bt471.2.2.2.1 bt471.2.2.2.2.1 bt471.2.2.2.2.2.1 bt484.1 bt484.2 bt498.1 bt498.2.1 bt498.2.2.1 bt498.2.2.2.1 bt498.2.2.2.2.1 bt498.2.2.2.2.2.1) else (laws_FnExactLogAdd.j0 k l2 bt471.2.2.2.2.2.2 t491 bt498.2.2.2.2.2.2 true l0_0 l0_1 a1_0 a1_1 a1_2 a1_3 bt471.1 bt471.2.1 bt471.2.2.1 bt471.2.2.2.1 bt471.2.2.2.2.1 bt471.2.2.2.2.2.1 bt484.1 bt484.2 bt498.1 bt498.2.1 bt498.2.2.1 bt498.2.2.2.1 bt498.2.2.2.2.1 bt498.2.2.2.2.2.1))) else (laws_FnExactLogAdd.j0 k l2 bt471.2.2.2.2.2.2 t491 bt498.2.2.2.2.2.2 true l0_0 l0_1 a1_0 a1_1 a1_2 a1_3 bt471.1 bt471.2.1 bt471.2.2.1 bt471.2.2.2.1 bt471.2.2.2.2.1 bt471.2.2.2.2.2.1 bt484.1 bt484.2 bt498.1 bt498.2.1 bt498.2.2.1 bt498.2.2.2.1 bt498.2.2.2.2.1 bt498.2.2.2.2.2.1)))))))))))))) = some r := h
 clear h
 by_cases c4 : (l2.length : Int) > 1048576
 ·rw [if_pos c4] at H
  have c4b0 : decide (1048576 < (l2.length : Int)) = true := decide_eq_true c4
  have c4b1 : decide (1048576 < l2.length) = true := decide_eq_true (by omega)
  clear c4
  obtain rfl := Option.some.inj H
  go_enter Try.func3, Try.ntmps3
  go_wp2_with (first | ((with_reducible refine gate_dst (N := 3) rfl ?_); refine box_event ?hg (N := 3) ?hd (cs := #[.slice A0_0 l0_0.length c0_0, .slice A0_1 l0_1.length c0_1]) (t := 25) ?hr ?_; (case hd => rfl); (case hg => rfl); (case hr => first | (go_simp; done) | (go_simp; rfl)); intro gb455 hg w5 hbox hb; have BK455 := Ak (hbox); have GW455 := Ak (zb hg (bw HB.out)); have GE455 := Ak (zb hg (bw HB.out)); replace HB := Ak (below_step (bw HB.out) hb); clear hb hbox hg) | ((with_reducible refine gate_dst (N := 4) rfl ?_); refine box_event ?hg (N := 4) ?hd (cs := #[.int .i64 a1_0, .int .i64 a1_1, .int .i64 a1_2, .int .i64 a1_3]) (t := 27) ?hr ?_; (case hd => rfl); (case hg => rfl); (case hr => first | (go_simp; done) | (go_simp; rfl)); intro gb456 hg w6 hbox hb; have BK456 := Ak (hbox); have GW456 := Ak (zb hg (bw1 HB.out GE455.out)); have GE456 := Ak (zb hg (bw1 HB.out GE455.out)); replace HB := Ak (below_step (bw1 HB.out GE455.out) hb); have NB455_456 := Ak (zl hg (bq BK455.out)); have NB456_455 := Ak (zm hg (bq BK455.out)); replace BK455 := Ak (blk_below (bq BK455.out) hb); clear hb hbox hg))
  go_ret
  exact ⟨zw, bw2 HB.out GE455.out GE456.out⟩
 ·rw [if_neg c4] at H
  have c4b0 : decide (1048576 < (l2.length : Int)) = false := decide_eq_false c4
  have c4b1 : decide (1048576 < l2.length) = false := decide_eq_false (by omega)
  clear c4
  replace H := Option.bind_eq_some_iff.mp H
  obtain ⟨t457, A70, H⟩ := H
  have A7 := Ak A70
  clear A70
  by_cases c8 : t457 < 0
  ·rw [if_pos c8] at H
   have c8b0 : decide (t457 < 0) = true := decide_eq_true c8
   clear c8
   obtain rfl := Option.some.inj H
   go_enter Try.func3, Try.ntmps3
   go_wp2_with (first | ((with_reducible refine gate_dst (N := 3) rfl ?_); refine box_event ?hg (N := 3) ?hd (cs := #[.slice A0_0 l0_0.length c0_0, .slice A0_1 l0_1.length c0_1]) (t := 25) ?hr ?_; (case hd => rfl); (case hg => rfl); (case hr => first | (go_simp; done) | (go_simp; rfl)); intro gb455 hg w9 hbox hb; have BK455 := Ak (hbox); have GW455 := Ak (zb hg (bw HB.out)); have GE455 := Ak (zb hg (bw HB.out)); replace HB := Ak (below_step (bw HB.out) hb); clear hb hbox hg) | ((with_reducible refine gate_dst (N := 4) rfl ?_); refine box_event ?hg (N := 4) ?hd (cs := #[.int .i64 a1_0, .int .i64 a1_1, .int .i64 a1_2, .int .i64 a1_3]) (t := 27) ?hr ?_; (case hd => rfl); (case hg => rfl); (case hr => first | (go_simp; done) | (go_simp; rfl)); intro gb456 hg w10 hbox hb; have BK456 := Ak (hbox); have GW456 := Ak (zb hg (bw1 HB.out GE455.out)); have GE456 := Ak (zb hg (bw1 HB.out GE455.out)); replace HB := Ak (below_step (bw1 HB.out GE455.out) hb); have NB455_456 := Ak (zl hg (bq BK455.out)); have NB456_455 := Ak (zm hg (bq BK455.out)); replace BK455 := Ak (blk_below (bq BK455.out) hb); clear hb hbox hg; have hnb11 := NB455_456.out; have hnc11 := NB456_455.out; have hcz12_0 := zk0 BK455.out; have hcz12_1 := zk1 BK455.out; have hfz12_0 := blk_frozen BK455.out 0; have hfz12_1 := blk_frozen BK455.out 1) | ((with_reducible refine gate_callee (f := 8) rfl ?_); refine goesL_ (some 27) rfl rfl Try.func8 (by kernel_rfl) rfl #[.agg #[.slice A0_0 l0_0.length c0_0, .slice A0_1 l0_1.length c0_1], .int .i64 1048576] rfl gm ?_; (with_reducible refine (laws_szDisk.calls k _ _ l0_0 _ _ l0_1 1048576 t457 _ ?side1 ?side2 ?side3 ?side4 A7.out).mono ?_); (case side1 => exact zq (Kd.C_below HR0_0.out HB.out)); (case side2 => exact HC0_0.out); (case side3 => exact zq (Kd.C_below HR0_1.out HB.out)); (case side4 => exact HC0_1.out); rintro e w13 ⟨rfl, hb⟩; refine ⟨_, rfl, ?_⟩; replace BK455 := Ak (blk_below (bq BK455.out) hb); replace BK456 := Ak (blk_below (bq BK456.out) hb); replace HB := Ak (below_step (bw2 HB.out GE455.out GE456.out) hb)))
   go_ret
   exact ⟨zw, bw2 HB.out GE455.out GE456.out⟩
  ·rw [if_neg c8] at H
   have c8b0 : decide (t457 < 0) = false := decide_eq_false c8
   clear c8
   replace H := Option.bind_eq_some_iff.mp H
   obtain ⟨⟨t458, t461⟩, A140, H⟩ := H
   (try dsimp only at H)
   have A14 := Ak A140
   clear A140
   replace H := Option.bind_eq_some_iff.mp H
   obtain ⟨⟨t464, t465, t466, t467⟩, A150, H⟩ := H
   (try dsimp only at H)
   have A15 := Ak A150
   clear A150
   replace H := Option.bind_eq_some_iff.mp H
   obtain ⟨t468, A160, H⟩ := H
   have A16 := Ak A160
   clear A160
   replace H := Option.bind_eq_some_iff.mp H
   obtain ⟨⟨t471, t474, t477, t478, t479, t480, t481⟩, A170, H⟩ := H
   (try dsimp only at H)
   have A17 := Ak A170
   clear A170
   replace H := Option.bind_eq_some_iff.mp H
   obtain ⟨⟨t484, t487⟩, A180, H⟩ := H
   (try dsimp only at H)
   have A18 := Ak A180
   clear A180
   replace H := Option.bind_eq_some_iff.mp H
   obtain ⟨t491, A190, H⟩ := H
   have A19 := Ak A190
   clear A190
   replace H := Option.bind_eq_some_iff.mp H
   obtain ⟨⟨t494, t495, t496, t497⟩, A200, H⟩ := H
   (try dsimp only at H)
   have A20 := Ak A200
   clear A200
   replace H := Option.bind_eq_some_iff.mp H
   obtain ⟨⟨t498, t501, t504, t505, t506, t507, t508⟩, A210, H⟩ := H
   (try dsimp only at H)
   have A21 := Ak A210
   clear A210
   have HC22 := Ak H
   clear H
   go_enter Try.func3, Try.ntmps3
   try go_wp2_with (first | ((with_reducible refine gate_dst (N := 3) rfl ?_); refine box_event ?hg (N := 3) ?hd (cs := #[.slice A0_0 l0_0.length c0_0, .slice A0_1 l0_1.length c0_1]) (t := 25) ?hr ?_; (case hd => rfl); (case hg => rfl); (case hr => first | (go_simp; done) | (go_simp; rfl)); intro gb455 hg w23 hbox hb; have BK455 := Ak (hbox); have GW455 := Ak (zb hg (bw HB.out)); have GE455 := Ak (zb hg (bw HB.out)); replace HB := Ak (below_step (bw HB.out) hb); clear hb hbox hg) | ((with_reducible refine gate_dst (N := 4) rfl ?_); refine box_event ?hg (N := 4) ?hd (cs := #[.int .i64 a1_0, .int .i64 a1_1, .int .i64 a1_2, .int .i64 a1_3]) (t := 27) ?hr ?_; (case hd => rfl); (case hg => rfl); (case hr => first | (go_simp; done) | (go_simp; rfl)); intro gb456 hg w24 hbox hb; have BK456 := Ak (hbox); have GW456 := Ak (zb hg (bw1 HB.out GE455.out)); have GE456 := Ak (zb hg (bw1 HB.out GE455.out)); replace HB := Ak (below_step (bw1 HB.out GE455.out) hb); have NB455_456 := Ak (zl hg (bq BK455.out)); have NB456_455 := Ak (zm hg (bq BK455.out)); replace BK455 := Ak (blk_below (bq BK455.out) hb); clear hb hbox hg; have hnb25 := NB455_456.out; have hnc25 := NB456_455.out; have hcz26_0 := zk0 BK455.out; have hcz26_1 := zk1 BK455.out; have hfz26_0 := blk_frozen BK455.out 0; have hfz26_1 := blk_frozen BK455.out 1) | ((with_reducible refine gate_callee (f := 8) rfl ?_); refine goesL_ (some 27) rfl rfl Try.func8 (by kernel_rfl) rfl #[.agg #[.slice A0_0 l0_0.length c0_0, .slice A0_1 l0_1.length c0_1], .int .i64 1048576] rfl gm ?_; (with_reducible refine (laws_szDisk.calls k _ _ l0_0 _ _ l0_1 1048576 t457 _ ?side1 ?side2 ?side3 ?side4 A7.out).mono ?_); (case side1 => exact zq (Kd.C_below HR0_0.out HB.out)); (case side2 => exact HC0_0.out); (case side3 => exact zq (Kd.C_below HR0_1.out HB.out)); (case side4 => exact HC0_1.out); rintro e w27 ⟨rfl, hb⟩; refine ⟨_, rfl, ?_⟩; replace BK455 := Ak (blk_below (bq BK455.out) hb); replace BK456 := Ak (blk_below (bq BK456.out) hb); replace HB := Ak (below_step (bw2 HB.out GE455.out GE456.out) hb)))
   replace BK455 := Ak (blk_drew BK455.out)
   replace BK456 := Ak (blk_drew BK456.out)
   replace HB := Ak (below_drew1 HB.out)
   refine start_ (n := 16) (S := fun w' => w'.cell? ⟨gb455, 0, none⟩ = some (.slice A0_0 l0_0.length c0_0) ∧ w'.cell? ⟨gb455, 1, none⟩ = some (.slice A0_1 l0_1.length c0_1) ∧ w'.cell? ⟨gb456, 0, none⟩ = some (.int .i64 a1_0) ∧ w'.cell? ⟨gb456, 1, none⟩ = some (.int .i64 a1_1) ∧ w'.cell? ⟨gb456, 2, none⟩ = some (.int .i64 a1_2) ∧ w'.cell? ⟨gb456, 3, none⟩ = some (.int .i64 a1_3)) (ds := []) #[false, false, false, false, false, false, false, false, false, false, false, false, false, false, false, false] (by kernel_rfl) rfl rfl ⟨zk0 BK455.out, zk1 BK455.out, zk0 BK456.out, zk1 BK456.out, zk2 BK456.out, zk3 BK456.out⟩ (fun hHeld => ?_); refine with_tabW laws_FnExactLogAdd.tab7 laws_FnExactLogAdd.bits7 (fun HT_ HW_ => ?_)
   generalize w27.drew = w28 at BK455 BK456 HB hHeld ⊢
   refine pure_ (i := 4) (N := some 35) (v := ?_) (a' := ?_) #[false, false, false, false, true, false, false, false, false, false, false, false, false, false, false, false] rfl rfl (any_of HT_.out (by kernel_rfl)) (fun _ _ _ h => h) (Or.inl ⟨by rfl, ?_⟩) ?_ ?_
   rotate_left
   ·intro w'
    go_simp
    with_reducible rfl
   rotate_left
   ·simp only [Act.put, sT, sZ, sS, i64_w, i32_w]
    rfl
   refine take_ (i := 0) (N := some 31) (v := ?_) (a' := ?_) #[true, false, false, false, true, false, false, false, false, false, false, false, false, false, false, false] rfl rfl (take_ofW HT_.out HW_.out (by kernel_rfl)) (fun _ _ _ h => h) (Or.inl ⟨by rfl, ?_⟩) hHeld ?_ ?_
   rotate_left
   ·rintro w' ⟨s0, s1, s2, s3, s4, s5⟩
    go_simp
    with_reducible rfl
   rotate_left
   ·simp only [Act.put, sT, sZ, sS, i64_w, i32_w]
    rfl
   refine take_ (i := 2) (N := some 33) (v := ?_) (a' := ?_) #[true, false, true, false, true, false, false, false, false, false, false, false, false, false, false, false] rfl rfl (take_ofW HT_.out HW_.out (by kernel_rfl)) (fun _ _ _ h => h) (Or.inl ⟨by rfl, ?_⟩) hHeld ?_ ?_
   rotate_left
   ·rintro w' ⟨s0, s1, s2, s3, s4, s5⟩
    go_simp
    with_reducible rfl
   rotate_left
   ·simp only [Act.put, sT, sZ, sS, i64_w, i32_w]
    rfl
   refine join_ (σ := Value × Value × Value × Value × Value × Nat × Nat) 3 #[true, true, true, true, true, true, true, true, true, true, true, true, true, false, false, false] (fun s_ => [(32, .agg #[s_.1, s_.2.1]), (34, .agg #[.int .i64 t464, .int .i64 t465, .int .i64 t466, .int .i64 t467]), (36, s_.2.2.1), (37, .tuple #[.agg #[s_.2.2.2.1, s_.2.2.2.2.1], .agg #[.int .i64 t477, .int .i64 t478, .int .i64 t479, .int .i64 t480], .bool t481]), (8, .pointer (some ⟨s_.2.2.2.2.2.1, 0, none⟩)), (9, .pointer (some ⟨s_.2.2.2.2.2.2, 0, none⟩)), (30, .tuple #[.agg #[s_.2.2.2.1, s_.2.2.2.2.1], .agg #[.int .i64 t477, .int .i64 t478, .int .i64 t479, .int .i64 t480], .bool t481]), (38, .agg #[s_.2.2.2.1, s_.2.2.2.2.1]), (39, .agg #[.int .i64 t477, .int .i64 t478, .int .i64 t479, .int .i64 t480]), (40, .bool t481)]) (fun s_ w' => (w'.cell? ⟨gb455, 0, none⟩ = some (.slice A0_0 l0_0.length c0_0) ∧ w'.cell? ⟨gb455, 1, none⟩ = some (.slice A0_1 l0_1.length c0_1) ∧ w'.cell? ⟨gb456, 0, none⟩ = some (.int .i64 a1_0) ∧ w'.cell? ⟨gb456, 1, none⟩ = some (.int .i64 a1_1) ∧ w'.cell? ⟨gb456, 2, none⟩ = some (.int .i64 a1_2) ∧ w'.cell? ⟨gb456, 3, none⟩ = some (.int .i64 a1_3)) ∧ (Kd.R (Kd.int .u8) 5 w' w.heap.size (fun k_ => some k_ ≠ (s_.2.2.1 : Value).ownBlock ∧ some k_ ≠ (s_.2.2.2.1 : Value).ownBlock) s_.1 t458) ∧ (Kd.S k96 96 w' w.heap.size (fun k_ => some k_ ≠ (s_.1 : Value).ownBlock ∧ some k_ ≠ (s_.2.2.1 : Value).ownBlock ∧ some k_ ≠ (s_.2.2.2.1 : Value).ownBlock ∧ some k_ ≠ (s_.2.2.2.2.1 : Value).ownBlock) s_.2.1 t461) ∧ (Kd.R (Kd.int .u8) 5 w' w.heap.size (fun k_ => some k_ ≠ (s_.1 : Value).ownBlock ∧ some k_ ≠ (s_.2.2.2.1 : Value).ownBlock) s_.2.2.1 t468) ∧ (Kd.R (Kd.int .u8) 5 w' w.heap.size (fun k_ => some k_ ≠ (s_.1 : Value).ownBlock ∧ some k_ ≠ (s_.2.2.1 : Value).ownBlock) s_.2.2.2.1 t471) ∧ (Kd.S k96 96 w' w.heap.size (fun k_ => some k_ ≠ (s_.1 : Value).ownBlock ∧ some k_ ≠ (s_.2.1 : Value).ownBlock ∧ some k_ ≠ (s_.2.2.1 : Value).ownBlock ∧ some k_ ≠ (s_.2.2.2.1 : Value).ownBlock) s_.2.2.2.2.1 t474) ∧ (w'.heap[gb455]? = some (.cells #[.slice A0_0 l0_0.length c0_0, .slice A0_1 l0_1.length c0_1] 25 (0, 0))) ∧ (w'.heap[gb456]? = some (.cells #[.int .i64 a1_0, .int .i64 a1_1, .int .i64 a1_2, .int .i64 a1_3] 27 (0, 0))) ∧ (w'.heap[s_.2.2.2.2.2.1]? = some (.cells #[.slice none 0 0, .slice none 0 0] 31 (0, 0))) ∧ (w'.heap[s_.2.2.2.2.2.2]? = some (.cells #[.int .i64 0, .int .i64 0, .int .i64 0, .int .i64 0] 32 (0, 0))) ∧ (w.heap.size ≤ s_.2.2.2.2.2.1) ∧ (w.heap.size ≤ s_.2.2.2.2.2.1) ∧ (gb455 ≠ s_.2.2.2.2.2.1) ∧ (s_.2.2.2.2.2.1 ≠ gb455) ∧ (gb456 ≠ s_.2.2.2.2.2.1) ∧ (s_.2.2.2.2.2.1 ≠ gb456) ∧ (s_.2.2.2.2.2.2 ≠ s_.2.2.2.2.2.1) ∧ (s_.2.2.2.2.2.1 ≠ s_.2.2.2.2.2.2) ∧ (w.heap.size ≤ s_.2.2.2.2.2.2) ∧ (w.heap.size ≤ s_.2.2.2.2.2.2) ∧ (gb455 ≠ s_.2.2.2.2.2.2) ∧ (s_.2.2.2.2.2.2 ≠ gb455) ∧ (gb456 ≠ s_.2.2.2.2.2.2) ∧ (s_.2.2.2.2.2.2 ≠ gb456) ∧ (Below w.heap.size w w')) ?_ ?_
   rotate_left
   ·intro hJ1_3_5_6_11_12
    have hsz_ := below_size HB.out
    have hS_ : ∀ w', Below w28.heap.size w28 w' → (w'.cell? ⟨gb455, 0, none⟩ = some (.slice A0_0 l0_0.length c0_0) ∧ w'.cell? ⟨gb455, 1, none⟩ = some (.slice A0_1 l0_1.length c0_1) ∧ w'.cell? ⟨gb456, 0, none⟩ = some (.int .i64 a1_0) ∧ w'.cell? ⟨gb456, 1, none⟩ = some (.int .i64 a1_1) ∧ w'.cell? ⟨gb456, 2, none⟩ = some (.int .i64 a1_2) ∧ w'.cell? ⟨gb456, 3, none⟩ = some (.int .i64 a1_3)) := fun w' hb_ => ⟨(blk_cell (blk_below BK455.out hb_) 0).trans rfl, (blk_cell (blk_below BK455.out hb_) 1).trans rfl, (blk_cell (blk_below BK456.out hb_) 0).trans rfl, (blk_cell (blk_below BK456.out hb_) 1).trans rfl, (blk_cell (blk_below BK456.out hb_) 2).trans rfl, (blk_cell (blk_below BK456.out hb_) 3).trans rfl⟩
    refine Latt.lattice_ (fuel := 3) (k := 4) 4 (fun p => match p with | 0 => 1 | 1 => 3 | 2 => 5 | _ => 6) (fun p => match p with | 0 => 32 | 1 => 34 | 2 => 36 | _ => 37) 11 12 8 9 #[.slice none 0 0, .slice none 0 0] #[.int .i64 0, .int .i64 0, .int .i64 0, .int .i64 0] 31 32
     (fun a_ p ac w' => match p with
      | 0 => ac = a_
      | 1 => ∃ v459 v462 : Value, ac = (a_.put (some 32) (.agg #[v459, v462])) ∧ Kd.R (Kd.int .u8) 5 w' w28.heap.size (fun _ => True) v459 t458 ∧ Kd.S k96 96 w' w28.heap.size (fun k_ => Nb k_ v459) v462 t461
      | 2 => ∃ v459 v462 : Value, ac = ((a_.put (some 32) (.agg #[v459, v462])).put (some 34) (.agg #[.int .i64 t464, .int .i64 t465, .int .i64 t466, .int .i64 t467])) ∧ Kd.R (Kd.int .u8) 5 w' w28.heap.size (fun _ => True) v459 t458 ∧ Kd.S k96 96 w' w28.heap.size (fun k_ => Nb k_ v459) v462 t461
      | 3 => ∃ v459 v462 v469 : Value, ac = (((a_.put (some 32) (.agg #[v459, v462])).put (some 34) (.agg #[.int .i64 t464, .int .i64 t465, .int .i64 t466, .int .i64 t467])).put (some 36) (v469)) ∧ Kd.R (Kd.int .u8) 5 w' w28.heap.size (fun k_ => Nb k_ v469) v459 t458 ∧ Kd.S k96 96 w' w28.heap.size (fun k_ => Nb k_ v459 ∧ Nb k_ v469) v462 t461 ∧ Kd.R (Kd.int .u8) 5 w' w28.heap.size (fun k_ => Nb k_ v459) v469 t468
      | 4 => ∃ v459 v462 v469 v472 v475 : Value, ac = ((((a_.put (some 32) (.agg #[v459, v462])).put (some 34) (.agg #[.int .i64 t464, .int .i64 t465, .int .i64 t466, .int .i64 t467])).put (some 36) (v469)).put (some 37) (.tuple #[.agg #[v472, v475], .agg #[.int .i64 t477, .int .i64 t478, .int .i64 t479, .int .i64 t480], .bool t481])) ∧ Kd.R (Kd.int .u8) 5 w' w28.heap.size (fun k_ => Nb k_ v469 ∧ Nb k_ v472) v459 t458 ∧ Kd.S k96 96 w' w28.heap.size (fun k_ => Nb k_ v459 ∧ Nb k_ v469 ∧ Nb k_ v472 ∧ Nb k_ v475) v462 t461 ∧ Kd.R (Kd.int .u8) 5 w' w28.heap.size (fun k_ => Nb k_ v459 ∧ Nb k_ v472) v469 t468 ∧ Kd.R (Kd.int .u8) 5 w' w28.heap.size (fun k_ => Nb k_ v459 ∧ Nb k_ v469) v472 t471 ∧ Kd.S k96 96 w' w28.heap.size (fun k_ => Nb k_ v459 ∧ Nb k_ v462 ∧ Nb k_ v469 ∧ Nb k_ v472) v475 t474
      | _ => ∃ v459 v462 v469 v472 v475 : Value, ac = ((((((((a_.put (some 32) (.agg #[v459, v462])).put (some 34) (.agg #[.int .i64 t464, .int .i64 t465, .int .i64 t466, .int .i64 t467])).put (some 36) (v469)).put (some 37) (.tuple #[.agg #[v472, v475], .agg #[.int .i64 t477, .int .i64 t478, .int .i64 t479, .int .i64 t480], .bool t481])).put (some 30) (.tuple #[.agg #[v472, v475], .agg #[.int .i64 t477, .int .i64 t478, .int .i64 t479, .int .i64 t480], .bool t481])).put (some 38) (.agg #[v472, v475])).put (some 39) (.agg #[.int .i64 t477, .int .i64 t478, .int .i64 t479, .int .i64 t480])).put (some 40) (.bool t481)) ∧ Kd.R (Kd.int .u8) 5 w' w28.heap.size (fun k_ => Nb k_ v469 ∧ Nb k_ v472) v459 t458 ∧ Kd.S k96 96 w' w28.heap.size (fun k_ => Nb k_ v459 ∧ Nb k_ v469 ∧ Nb k_ v472 ∧ Nb k_ v475) v462 t461 ∧ Kd.R (Kd.int .u8) 5 w' w28.heap.size (fun k_ => Nb k_ v459 ∧ Nb k_ v472) v469 t468 ∧ Kd.R (Kd.int .u8) 5 w' w28.heap.size (fun k_ => Nb k_ v459 ∧ Nb k_ v469) v472 t471 ∧ Kd.S k96 96 w' w28.heap.size (fun k_ => Nb k_ v459 ∧ Nb k_ v462 ∧ Nb k_ v469 ∧ Nb k_ v472) v475 t474)
     (fun p b1 b2 => match p with | 0 => #[true, false, true, false, true, false, false, false, false, false, false, b1, b2, false, false, false] | 1 => #[true, true, true, false, true, false, false, false, false, false, false, b1, b2, false, false, false] | 2 => #[true, true, true, true, true, false, false, false, false, false, false, b1, b2, false, false, false] | 3 => #[true, true, true, true, true, true, false, false, false, false, false, b1, b2, false, false, false] | 4 => #[true, true, true, true, true, true, true, false, false, false, false, b1, b2, false, false, false] | _ => #[true, true, true, true, true, true, true, true, true, true, true, b1, b2, false, false, false])
     hS_ (by decide) ?hI ?hr ?hr2 ?hL ?hL1 ?hL2 ?hcall ?hb1 ?hb2 ?hpost rfl ?hfin
    case hI =>
     intro p ac w1_ w2_ h_ hb_
     rcases p with _ | _ | _ | _ | _ | _
     ·exact h_
     ·obtain ⟨v459, v462, h_, HO460, HO463⟩ := h_
      exact ⟨v459, v462, h_, Kd.R_below HO460 hb_, Kd.S_below HO463 hb_⟩
     ·obtain ⟨v459, v462, h_, HO460, HO463⟩ := h_
      exact ⟨v459, v462, h_, Kd.R_below HO460 hb_, Kd.S_below HO463 hb_⟩
     ·obtain ⟨v459, v462, v469, h_, HO460, HO463, HO470⟩ := h_
      exact ⟨v459, v462, v469, h_, Kd.R_below HO460 hb_, Kd.S_below HO463 hb_, Kd.R_below HO470 hb_⟩
     ·obtain ⟨v459, v462, v469, v472, v475, h_, HO460, HO463, HO470, HO473, HO476⟩ := h_
      exact ⟨v459, v462, v469, v472, v475, h_, Kd.R_below HO460 hb_, Kd.S_below HO463 hb_, Kd.R_below HO470 hb_, Kd.R_below HO473 hb_, Kd.S_below HO476 hb_⟩
     ·obtain ⟨v459, v462, v469, v472, v475, h_, HO460, HO463, HO470, HO473, HO476⟩ := h_
      exact ⟨v459, v462, v469, v472, v475, h_, Kd.R_below HO460 hb_, Kd.S_below HO463 hb_, Kd.R_below HO470 hb_, Kd.R_below HO473 hb_, Kd.S_below HO476 hb_⟩
    case hr =>
     intro p hp_ b1 b2
     have hp2_ : p = 0 ∨ p = 1 ∨ p = 2 ∨ p = 3 := by omega
     rcases hp2_ with rfl | rfl | rfl | rfl <;> cases b1 <;> cases b2 <;> exact Latt.ready_of HT_.out (by kernel_rfl)
    case hr2 =>
     intro b1 b2 h_
     cases b1 <;> cases b2 <;> first | exact absurd h_ (by decide) | exact Latt.ready_of HT_.out (by kernel_rfl)
    case hL =>
     intro p hp_ b1 b2
     have hp2_ : p = 0 ∨ p = 1 ∨ p = 2 ∨ p = 3 := by omega
     rcases hp2_ with rfl | rfl | rfl | rfl <;> rfl
    case hL1 =>
     intro p hp_ b2
     have hp2_ : p = 0 ∨ p = 1 ∨ p = 2 ∨ p = 3 ∨ p = 4 ∨ p = 5 := by omega
     rcases hp2_ with rfl | rfl | rfl | rfl | rfl | rfl <;> rfl
    case hL2 =>
     intro p hp_ b1
     have hp2_ : p = 0 ∨ p = 1 ∨ p = 2 ∨ p = 3 ∨ p = 4 ∨ p = 5 := by omega
     rcases hp2_ with rfl | rfl | rfl | rfl | rfl | rfl <;> rfl
    case hcall =>
     intro p hp_
     have hp2_ : p = 0 ∨ p = 1 ∨ p = 2 ∨ p = 3 := by omega
     rcases hp2_ with rfl | rfl | rfl | rfl
     ·refine ⟨_, 10, _, _, _, rfl, rfl, rfl, rfl, Try.func10, (by kernel_rfl), rfl, rfl, (by decide), (by decide), ?_⟩
      intro ac w1_ hb0_ h_
      obtain rfl : ac = _ := h_
      have HB := Ak (below_step HB.out hb0_)
      refine Latt.calls_args (as' := #[.agg #[.slice A0_0 l0_0.length c0_0, .slice A0_1 l0_1.length c0_1]]) (by first | rfl | (simp only [Act.put, sT, sZ, sS, List.map_toArray, List.map_cons, List.map_nil]; rfl)) ?_
      with_reducible refine (laws_toDisk.calls k _ _ l0_0 _ _ l0_1 t458 t461 _ ?side1 ?side2 ?side3 ?side4 A14.out).mono ?_
      (case side1 => exact zq (Kd.C_below HR0_0.out HB.out))
      (case side2 => exact HC0_0.out)
      (case side3 => exact zq (Kd.C_below HR0_1.out HB.out))
      (case side4 => exact HC0_1.out)
      rintro e w2_ ⟨v459, v462, rfl, ho0, ho1, hb⟩
      refine ⟨_, rfl, hb, v459, v462, rfl, ?_, ?_⟩
      ·exact Kd.R_lower ho0 (below_size hb0_)
      ·exact Kd.S_lower (Kd.S_mono (Kd.S_bound ho1) (fun k_ hk_ => zs hk_)) (below_size hb0_)
     ·refine ⟨_, 11, _, _, _, rfl, rfl, rfl, rfl, Try.func11, (by kernel_rfl), rfl, rfl, (by decide), (by decide), ?_⟩
      intro ac w1_ hb0_ h_
      obtain ⟨v459, v462, rfl, HO460, HO463⟩ := h_
      have HO460 := Ak HO460
      have HO463 := Ak HO463
      have HB := Ak (below_step HB.out hb0_)
      refine Latt.calls_args (as' := #[.agg #[.int .i64 a1_0, .int .i64 a1_1, .int .i64 a1_2, .int .i64 a1_3]]) (by first | rfl | (simp only [Act.put, sT, sZ, sS, List.map_toArray, List.map_cons, List.map_nil]; rfl)) ?_
      with_reducible refine (laws_toLog.calls a1_0 a1_1 a1_2 a1_3 t464 t465 t466 t467 _ A15.out).mono ?_
      rintro e w2_ ⟨rfl, hb⟩
      refine ⟨_, rfl, hb, v459, v462, rfl, ?_, ?_⟩
      ·exact Kd.R_below HO460.out hb
      ·exact Kd.S_below HO463.out hb
     ·refine ⟨_, 12, _, _, _, rfl, rfl, rfl, rfl, Try.func12, (by kernel_rfl), rfl, rfl, (by decide), (by decide), ?_⟩
      intro ac w1_ hb0_ h_
      obtain ⟨v459, v462, rfl, HO460, HO463⟩ := h_
      have HO460 := Ak HO460
      have HO463 := Ak HO463
      have HB := Ak (below_step HB.out hb0_)
      refine Latt.calls_args (as' := #[.slice A2 l2.length c2]) (by first | rfl | (simp only [Act.put, sT, sZ, sS, List.map_toArray, List.map_cons, List.map_nil]; rfl)) ?_
      with_reducible refine (laws_toByteS.calls k _ _ l2 t468 _ ?side1 ?side2 A16.out).mono ?_
      (case side1 => exact zq (Kd.C_below HR2.out HB.out))
      (case side2 => exact HC2.out)
      rintro e w2_ ⟨v469, rfl, ho0, hb⟩
      refine ⟨_, rfl, hb, v459, v462, v469, rfl, ?_, ?_, ?_⟩
      ·exact Kd.R_mono (Kd.R_old HO460.out hb) (fun k_ hk_ => by (have a0_ := Latt.old_ne hk_.2 (Kd.R_base ho0); exact zs hk_))
      ·exact Kd.S_mono (Kd.S_old HO463.out hb) (fun k_ hk_ => by (have a0_ := Latt.old_ne hk_.2 (Kd.R_base ho0); exact zs hk_))
      ·exact Kd.R_lower (Kd.R_mono (Kd.R_bound ho0) (fun k_ hk_ => by (have a0_ := Kd.fresh' (Kd.R_lt HO460.out) k_ hk_.2.1; exact zs hk_))) (below_size hb0_)
     ·refine ⟨_, 9, _, _, _, rfl, rfl, rfl, rfl, Try.func9, (by kernel_rfl), rfl, rfl, (by decide), (by decide), ?_⟩
      intro ac w1_ hb0_ h_
      obtain ⟨v459, v462, v469, rfl, HO460, HO463, HO470⟩ := h_
      have HO460 := Ak HO460
      have HO463 := Ak HO463
      have HO470 := Ak HO470
      have HB := Ak (below_step HB.out hb0_)
      obtain ⟨Ao33, co33, eo33⟩ := Kd.R_slice HO460.out
      subst eo33
      obtain ⟨Ao34, co34, eo34⟩ := Kd.S_slice HO463.out
      subst eo34
      obtain ⟨Ao35, co35, eo35⟩ := Kd.R_slice HO470.out
      subst eo35
      refine Latt.calls_args (as' := #[.agg #[.slice Ao33 t458.length co33, .slice Ao34 t461.length co34], .agg #[.int .i64 t464, .int .i64 t465, .int .i64 t466, .int .i64 t467], .slice Ao35 t468.length co35]) (by first | rfl | (simp only [Act.put, sT, sZ, sS, List.map_toArray, List.map_cons, List.map_nil]; rfl)) ?_
      with_reducible refine (spec_LogAdd.calls k _ _ t458 _ _ t461 t464 t465 t466 t467 _ _ t468 t471 t474 t477 t478 t479 t480 t481 _ ?side1 ?side2 ?side3 ?side4 ?side5 ?side6 A17.out).mono ?_
      (case side1 => repeat (first | exact (Kd.R_reads' HO460.out).2.2 | (with_reducible refine Kd.C_alloc ?_ _) | (with_reducible refine Kd.C_drewN ?_ _) | (with_reducible refine Kd.C_drew ?_)))
      (case side2 => exact (Kd.R_reads' HO460.out).2.1)
      (case side3 => repeat (first | exact (Kd.S_reads' HO463.out).2.2 | (with_reducible refine Kd.C_alloc ?_ _) | (with_reducible refine Kd.C_drewN ?_ _) | (with_reducible refine Kd.C_drew ?_)))
      (case side4 => exact (Kd.S_reads' HO463.out).2.1)
      (case side5 => repeat (first | exact (Kd.R_reads' HO470.out).2.2 | (with_reducible refine Kd.C_alloc ?_ _) | (with_reducible refine Kd.C_drewN ?_ _) | (with_reducible refine Kd.C_drew ?_)))
      (case side6 => exact (Kd.R_reads' HO470.out).2.1)
      rintro e w2_ ⟨v472, v475, rfl, ho0, ho1, hb⟩
      refine ⟨_, rfl, hb, (.slice Ao33 t458.length co33), (.slice Ao34 t461.length co34), (.slice Ao35 t468.length co35), v472, v475, rfl, ?_, ?_, ?_, ?_, ?_⟩
      ·exact Kd.R_mono (Kd.R_old HO460.out hb) (fun k_ hk_ => by (have a0_ := Latt.old_ne hk_.2 (Kd.R_base ho0); exact zs hk_))
      ·exact Kd.S_mono (Kd.S_old HO463.out hb) (fun k_ hk_ => by (have a0_ := Latt.old_ne hk_.2 (Kd.R_base ho0); have a1_ := Latt.old_ne hk_.2 (Kd.S_base ho1); exact zs hk_))
      ·exact Kd.R_mono (Kd.R_old HO470.out hb) (fun k_ hk_ => by (have a0_ := Latt.old_ne hk_.2 (Kd.R_base ho0); exact zs hk_))
      ·exact Kd.R_lower (Kd.R_mono (Kd.R_bound ho0) (fun k_ hk_ => by (have a0_ := Kd.fresh' (Kd.R_lt HO460.out) k_ hk_.2.1; have a1_ := Kd.fresh' (Kd.R_lt HO470.out) k_ hk_.2.1; exact zs hk_))) (below_size hb0_)
      ·exact Kd.S_lower (Kd.S_mono (Kd.S_bound ho1) (fun k_ hk_ => by (have a0_ := Kd.fresh' (Kd.R_lt HO460.out) k_ hk_.2.1; have a1_ := Kd.fresh' (Kd.S_lt HO463.out) k_ hk_.2.1; have a2_ := Kd.fresh' (Kd.R_lt HO470.out) k_ hk_.2.1; exact zs hk_))) (below_size hb0_)
    case hb1 => exact ⟨_, rfl, rfl, rfl, fun a_ w1_ => by first | (go_simp; done) | (go_simp; rfl)⟩
    case hb2 => exact ⟨_, rfl, rfl, rfl, fun a_ w1_ => by first | (go_simp; done) | (go_simp; rfl)⟩
    case hpost =>
     intro b1 b2 o1 o2 fu ac w1_ e1_ e2_ hs_ h_ hk_
     obtain ⟨v459, v462, v469, v472, v475, rfl, HO460, HO463, HO470, HO473, HO476⟩ := h_
     rcases o1 with _ | g1_ <;> rcases o2 with _ | g2_
     ·subst e1_; subst e2_
      refine norm_ (a' := ?_) ?_ ?_
      rotate_left
      ·simp only [Latt.bx, Act.put, sT, sZ, sS]
       rfl
      refine pure_ (i := 7) (N := some 30) (v := ?_) (a' := ?_) #[true, true, true, true, true, true, true, true, false, false, false, false, false, false, false, false] rfl rfl (any_of HT_.out (by kernel_rfl)) (fun _ _ _ h => h) (Or.inl ⟨by rfl, ?_⟩) ?_ ?_
      rotate_left
      ·intro w'
       go_simp
       with_reducible rfl
      rotate_left
      ·simp only [Act.put, sT, sZ, sS, i64_w, i32_w]
       rfl
      refine pure_ (i := 8) (N := some 38) (v := ?_) (a' := ?_) #[true, true, true, true, true, true, true, true, true, false, false, false, false, false, false, false] rfl rfl (any_of HT_.out (by kernel_rfl)) (fun _ _ _ h => h) (Or.inl ⟨by rfl, ?_⟩) ?_ ?_
      rotate_left
      ·intro w'
       go_simp
       with_reducible rfl
      rotate_left
      ·simp only [Act.put, sT, sZ, sS, i64_w, i32_w]
       rfl
      refine pure_ (i := 9) (N := some 39) (v := ?_) (a' := ?_) #[true, true, true, true, true, true, true, true, true, true, false, false, false, false, false, false] rfl rfl (any_of HT_.out (by kernel_rfl)) (fun _ _ _ h => h) (Or.inl ⟨by rfl, ?_⟩) ?_ ?_
      rotate_left
      ·intro w'
       go_simp
       with_reducible rfl
      rotate_left
      ·simp only [Act.put, sT, sZ, sS, i64_w, i32_w]
       rfl
      refine pure_ (i := 10) (N := some 40) (v := ?_) (a' := ?_) #[true, true, true, true, true, true, true, true, true, true, true, false, false, false, false, false] rfl rfl (any_of HT_.out (by kernel_rfl)) (fun _ _ _ h => h) (Or.inl ⟨by rfl, ?_⟩) ?_ ?_
      rotate_left
      ·intro w'
       go_simp
       with_reducible rfl
      rotate_left
      ·simp only [Act.put, sT, sZ, sS, i64_w, i32_w]
       rfl
      exact norm_ (by first | (simp only [Latt.bx, Act.put, sT, sZ, sS]; done) | (simp only [Latt.bx, Act.put, sT, sZ, sS]; rfl)) (hk_ _ ⟨v459, v462, v469, v472, v475, rfl, HO460, HO463, HO470, HO473, HO476⟩)
     ·subst e1_; subst e2_
      refine norm_ (a' := ?_) ?_ ?_
      rotate_left
      ·simp only [Latt.bx, Act.put, sT, sZ, sS]
       rfl
      refine pure_ (i := 7) (N := some 30) (v := ?_) (a' := ?_) #[true, true, true, true, true, true, true, true, false, false, false, false, true, false, false, false] rfl rfl (any_of HT_.out (by kernel_rfl)) (fun _ _ _ h => h) (Or.inl ⟨by rfl, ?_⟩) ?_ ?_
      rotate_left
      ·intro w'
       go_simp
       with_reducible rfl
      rotate_left
      ·simp only [Act.put, sT, sZ, sS, i64_w, i32_w]
       rfl
      refine pure_ (i := 8) (N := some 38) (v := ?_) (a' := ?_) #[true, true, true, true, true, true, true, true, true, false, false, false, true, false, false, false] rfl rfl (any_of HT_.out (by kernel_rfl)) (fun _ _ _ h => h) (Or.inl ⟨by rfl, ?_⟩) ?_ ?_
      rotate_left
      ·intro w'
       go_simp
       with_reducible rfl
      rotate_left
      ·simp only [Act.put, sT, sZ, sS, i64_w, i32_w]
       rfl
      refine pure_ (i := 9) (N := some 39) (v := ?_) (a' := ?_) #[true, true, true, true, true, true, true, true, true, true, false, false, true, false, false, false] rfl rfl (any_of HT_.out (by kernel_rfl)) (fun _ _ _ h => h) (Or.inl ⟨by rfl, ?_⟩) ?_ ?_
      rotate_left
      ·intro w'
       go_simp
       with_reducible rfl
      rotate_left
      ·simp only [Act.put, sT, sZ, sS, i64_w, i32_w]
       rfl
      refine pure_ (i := 10) (N := some 40) (v := ?_) (a' := ?_) #[true, true, true, true, true, true, true, true, true, true, true, false, true, false, false, false] rfl rfl (any_of HT_.out (by kernel_rfl)) (fun _ _ _ h => h) (Or.inl ⟨by rfl, ?_⟩) ?_ ?_
      rotate_left
      ·intro w'
       go_simp
       with_reducible rfl
      rotate_left
      ·simp only [Act.put, sT, sZ, sS, i64_w, i32_w]
       rfl
      exact norm_ (by first | (simp only [Latt.bx, Act.put, sT, sZ, sS]; done) | (simp only [Latt.bx, Act.put, sT, sZ, sS]; rfl)) (hk_ _ ⟨v459, v462, v469, v472, v475, rfl, HO460, HO463, HO470, HO473, HO476⟩)
     ·subst e1_; subst e2_
      refine norm_ (a' := ?_) ?_ ?_
      rotate_left
      ·simp only [Latt.bx, Act.put, sT, sZ, sS]
       rfl
      refine pure_ (i := 7) (N := some 30) (v := ?_) (a' := ?_) #[true, true, true, true, true, true, true, true, false, false, false, true, false, false, false, false] rfl rfl (any_of HT_.out (by kernel_rfl)) (fun _ _ _ h => h) (Or.inl ⟨by rfl, ?_⟩) ?_ ?_
      rotate_left
      ·intro w'
       go_simp
       with_reducible rfl
      rotate_left
      ·simp only [Act.put, sT, sZ, sS, i64_w, i32_w]
       rfl
      refine pure_ (i := 8) (N := some 38) (v := ?_) (a' := ?_) #[true, true, true, true, true, true, true, true, true, false, false, true, false, false, false, false] rfl rfl (any_of HT_.out (by kernel_rfl)) (fun _ _ _ h => h) (Or.inl ⟨by rfl, ?_⟩) ?_ ?_
      rotate_left
      ·intro w'
       go_simp
       with_reducible rfl
      rotate_left
      ·simp only [Act.put, sT, sZ, sS, i64_w, i32_w]
       rfl
      refine pure_ (i := 9) (N := some 39) (v := ?_) (a' := ?_) #[true, true, true, true, true, true, true, true, true, true, false, true, false, false, false, false] rfl rfl (any_of HT_.out (by kernel_rfl)) (fun _ _ _ h => h) (Or.inl ⟨by rfl, ?_⟩) ?_ ?_
      rotate_left
      ·intro w'
       go_simp
       with_reducible rfl
      rotate_left
      ·simp only [Act.put, sT, sZ, sS, i64_w, i32_w]
       rfl
      refine pure_ (i := 10) (N := some 40) (v := ?_) (a' := ?_) #[true, true, true, true, true, true, true, true, true, true, true, true, false, false, false, false] rfl rfl (any_of HT_.out (by kernel_rfl)) (fun _ _ _ h => h) (Or.inl ⟨by rfl, ?_⟩) ?_ ?_
      rotate_left
      ·intro w'
       go_simp
       with_reducible rfl
      rotate_left
      ·simp only [Act.put, sT, sZ, sS, i64_w, i32_w]
       rfl
      exact norm_ (by first | (simp only [Latt.bx, Act.put, sT, sZ, sS]; done) | (simp only [Latt.bx, Act.put, sT, sZ, sS]; rfl)) (hk_ _ ⟨v459, v462, v469, v472, v475, rfl, HO460, HO463, HO470, HO473, HO476⟩)
     ·subst e1_; subst e2_
      refine norm_ (a' := ?_) ?_ ?_
      rotate_left
      ·simp only [Latt.bx, Act.put, sT, sZ, sS]
       rfl
      refine pure_ (i := 7) (N := some 30) (v := ?_) (a' := ?_) #[true, true, true, true, true, true, true, true, false, false, false, true, true, false, false, false] rfl rfl (any_of HT_.out (by kernel_rfl)) (fun _ _ _ h => h) (Or.inl ⟨by rfl, ?_⟩) ?_ ?_
      rotate_left
      ·intro w'
       go_simp
       with_reducible rfl
      rotate_left
      ·simp only [Act.put, sT, sZ, sS, i64_w, i32_w]
       rfl
      refine pure_ (i := 8) (N := some 38) (v := ?_) (a' := ?_) #[true, true, true, true, true, true, true, true, true, false, false, true, true, false, false, false] rfl rfl (any_of HT_.out (by kernel_rfl)) (fun _ _ _ h => h) (Or.inl ⟨by rfl, ?_⟩) ?_ ?_
      rotate_left
      ·intro w'
       go_simp
       with_reducible rfl
      rotate_left
      ·simp only [Act.put, sT, sZ, sS, i64_w, i32_w]
       rfl
      refine pure_ (i := 9) (N := some 39) (v := ?_) (a' := ?_) #[true, true, true, true, true, true, true, true, true, true, false, true, true, false, false, false] rfl rfl (any_of HT_.out (by kernel_rfl)) (fun _ _ _ h => h) (Or.inl ⟨by rfl, ?_⟩) ?_ ?_
      rotate_left
      ·intro w'
       go_simp
       with_reducible rfl
      rotate_left
      ·simp only [Act.put, sT, sZ, sS, i64_w, i32_w]
       rfl
      refine pure_ (i := 10) (N := some 40) (v := ?_) (a' := ?_) #[true, true, true, true, true, true, true, true, true, true, true, true, true, false, false, false] rfl rfl (any_of HT_.out (by kernel_rfl)) (fun _ _ _ h => h) (Or.inl ⟨by rfl, ?_⟩) ?_ ?_
      rotate_left
      ·intro w'
       go_simp
       with_reducible rfl
      rotate_left
      ·simp only [Act.put, sT, sZ, sS, i64_w, i32_w]
       rfl
      exact norm_ (by first | (simp only [Latt.bx, Act.put, sT, sZ, sS]; done) | (simp only [Latt.bx, Act.put, sT, sZ, sS]; rfl)) (hk_ _ ⟨v459, v462, v469, v472, v475, rfl, HO460, HO463, HO470, HO473, HO476⟩)
    case hfin =>
     intro ac w1_ g1_ g2_ hb_ h_ hg1_ hg2_ hne_ hx1_ hx2_
     obtain ⟨v459, v462, v469, v472, v475, rfl, HO460, HO463, HO470, HO473, HO476⟩ := h_
     exact norm_ (by first | (simp only [putAll, Act.put, sT, sZ, sS]; done) | (simp only [putAll, Act.put, sT, sZ, sS]; rfl)) (hJ1_3_5_6_11_12 (v459, v462, v469, v472, v475, g1_, g2_) _ ⟨hS_ _ hb_, Kd.R_lower HO460 hsz_, Kd.S_lower HO463 hsz_, Kd.R_lower HO470 hsz_, Kd.R_lower HO473 hsz_, Kd.S_lower HO476 hsz_, blk_below BK455.out hb_, blk_below BK456.out hb_, hx1_, hx2_, Nat.le_trans hsz_ hg1_, Nat.le_trans hsz_ hg1_, Nat.ne_of_lt (Nat.lt_of_lt_of_le (blk_lt BK455.out) hg1_), Nat.ne_of_gt (Nat.lt_of_lt_of_le (blk_lt BK455.out) hg1_), Nat.ne_of_lt (Nat.lt_of_lt_of_le (blk_lt BK456.out) hg1_), Nat.ne_of_gt (Nat.lt_of_lt_of_le (blk_lt BK456.out) hg1_), hne_.symm, hne_, Nat.le_trans hsz_ hg2_, Nat.le_trans hsz_ hg2_, Nat.ne_of_lt (Nat.lt_of_lt_of_le (blk_lt BK455.out) hg2_), Nat.ne_of_gt (Nat.lt_of_lt_of_le (blk_lt BK455.out) hg2_), Nat.ne_of_lt (Nat.lt_of_lt_of_le (blk_lt BK456.out) hg2_), Nat.ne_of_gt (Nat.lt_of_lt_of_le (blk_lt BK456.out) hg2_), below_step HB.out hb_⟩)
   rintro ⟨v459, v462, v469, v472, v475, gb482, gb483⟩ w38 ⟨hS_, h0_, h1_, h2_, h3_, h4_, h5_, h6_, h7_, h8_, h9_, h10_, h11_, h12_, h13_, h14_, h15_, h16_, h17_, h18_, h19_, h20_, h21_, h22_, h23_⟩
   have HO460 : Aside0 (Kd.R (Kd.int .u8) 5 w38 w.heap.size (fun k_ => Nb k_ v469 ∧ Nb k_ v472) v459 t458) := ⟨h0_⟩
   have HO463 : Aside0 (Kd.S k96 96 w38 w.heap.size (fun k_ => Nb k_ v459 ∧ Nb k_ v469 ∧ Nb k_ v472 ∧ Nb k_ v475) v462 t461) := ⟨h1_⟩
   have HO470 : Aside0 (Kd.R (Kd.int .u8) 5 w38 w.heap.size (fun k_ => Nb k_ v459 ∧ Nb k_ v472) v469 t468) := ⟨h2_⟩
   have HO473 : Aside0 (Kd.R (Kd.int .u8) 5 w38 w.heap.size (fun k_ => Nb k_ v459 ∧ Nb k_ v469) v472 t471) := ⟨h3_⟩
   have HO476 : Aside0 (Kd.S k96 96 w38 w.heap.size (fun k_ => Nb k_ v459 ∧ Nb k_ v462 ∧ Nb k_ v469 ∧ Nb k_ v472) v475 t474) := ⟨h4_⟩
   replace BK455 : Aside0 (w38.heap[gb455]? = some (.cells #[.slice A0_0 l0_0.length c0_0, .slice A0_1 l0_1.length c0_1] 25 (0, 0))) := ⟨h5_⟩
   replace BK456 : Aside0 (w38.heap[gb456]? = some (.cells #[.int .i64 a1_0, .int .i64 a1_1, .int .i64 a1_2, .int .i64 a1_3] 27 (0, 0))) := ⟨h6_⟩
   have BK482 : Aside0 (w38.heap[gb482]? = some (.cells #[.slice none 0 0, .slice none 0 0] 31 (0, 0))) := ⟨h7_⟩
   have BK483 : Aside0 (w38.heap[gb483]? = some (.cells #[.int .i64 0, .int .i64 0, .int .i64 0, .int .i64 0] 32 (0, 0))) := ⟨h8_⟩
   have GW482 : Aside0 (w.heap.size ≤ gb482) := ⟨h9_⟩
   have GE482 : Aside0 (w.heap.size ≤ gb482) := ⟨h10_⟩
   have NB455_482 : Aside0 (gb455 ≠ gb482) := ⟨h11_⟩
   have NB482_455 : Aside0 (gb482 ≠ gb455) := ⟨h12_⟩
   have NB456_482 : Aside0 (gb456 ≠ gb482) := ⟨h13_⟩
   have NB482_456 : Aside0 (gb482 ≠ gb456) := ⟨h14_⟩
   have NB483_482 : Aside0 (gb483 ≠ gb482) := ⟨h15_⟩
   have NB482_483 : Aside0 (gb482 ≠ gb483) := ⟨h16_⟩
   have GW483 : Aside0 (w.heap.size ≤ gb483) := ⟨h17_⟩
   have GE483 : Aside0 (w.heap.size ≤ gb483) := ⟨h18_⟩
   have NB455_483 : Aside0 (gb455 ≠ gb483) := ⟨h19_⟩
   have NB483_455 : Aside0 (gb483 ≠ gb455) := ⟨h20_⟩
   have NB456_483 : Aside0 (gb456 ≠ gb483) := ⟨h21_⟩
   have NB483_456 : Aside0 (gb483 ≠ gb456) := ⟨h22_⟩
   replace HB : Aside0 (Below w.heap.size w w38) := ⟨h23_⟩
   clear h0_ h1_ h2_ h3_ h4_ h5_ h6_ h7_ h8_ h9_ h10_ h11_ h12_ h13_ h14_ h15_ h16_ h17_ h18_ h19_ h20_ h21_ h22_ h23_
   have hHeld : w38.cell? ⟨gb455, 0, none⟩ = some (.slice A0_0 l0_0.length c0_0) ∧ w38.cell? ⟨gb455, 1, none⟩ = some (.slice A0_1 l0_1.length c0_1) ∧ w38.cell? ⟨gb456, 0, none⟩ = some (.int .i64 a1_0) ∧ w38.cell? ⟨gb456, 1, none⟩ = some (.int .i64 a1_1) ∧ w38.cell? ⟨gb456, 2, none⟩ = some (.int .i64 a1_2) ∧ w38.cell? ⟨gb456, 3, none⟩ = some (.int .i64 a1_3) := hS_
   obtain ⟨Ao39, co39, eo39⟩ := Kd.R_slice HO473.out
   (first | subst eo39 | (injection eo39 with f1_ f2_ f3_; have f4_ := f1_.symm; have f5_ := f3_.symm; clear f1_ f2_ f3_; subst f4_; subst f5_))
   obtain ⟨Ao41, co41, eo41⟩ := Kd.S_slice HO476.out
   (first | subst eo41 | (injection eo41 with f1_ f2_ f3_; have f4_ := f1_.symm; have f5_ := f3_.symm; clear f1_ f2_ f3_; subst f4_; subst f5_))
   refine norm_ (a' := ?_) ?_ ?_
   rotate_left
   ·simp only [putAll, Act.put, sT, sZ, sS]
    rfl
   refine one_ (i := 13) (N := none) #[true, true, true, true, true, true, true, true, true, true, true, true, true, true, false, false] rfl rfl (one_of HT_.out (by kernel_rfl)) (by decide) (fun K hK => ?_)
   have hs40 := zk0 BK482.out
   have hfs40 := blk_frozen BK482.out 0
   have hns40_0 := NB455_482.out
   have hns40_1 := NB456_482.out
   have hns40_3 := NB483_482.out
   have hms40_0 := NB482_455.out
   have hms40_1 := NB482_456.out
   have hms40_3 := NB482_483.out
   have hs42 := zk1 BK482.out
   have hfs42 := blk_frozen BK482.out 1
   refine skip_ (w1 := ?_) (by rfl) rfl ?_ ?_
   rotate_left
   ·go_simp
    rfl
   refine hK.out _ _ ⟨(zg NB455_482.out hHeld.1), (zg NB455_482.out hHeld.2.1), (zg NB456_482.out hHeld.2.2.1), (zg NB456_482.out hHeld.2.2.2.1), (zg NB456_482.out hHeld.2.2.2.2.1), (zg NB456_482.out hHeld.2.2.2.2.2)⟩ (fun hHeld => ?_)
   clear hK K
   refine one_ (i := 14) (N := none) #[true, true, true, true, true, true, true, true, true, true, true, true, true, true, true, false] rfl rfl (one_of HT_.out (by kernel_rfl)) (by decide) (fun K hK => ?_)
   have hs43 := zk0 BK483.out
   have hfs43 := blk_frozen BK483.out 0
   have hns43_0 := NB455_483.out
   have hns43_1 := NB456_483.out
   have hns43_2 := NB482_483.out
   have hms43_0 := NB483_455.out
   have hms43_1 := NB483_456.out
   have hms43_2 := NB483_482.out
   have hs44 := zk1 BK483.out
   have hfs44 := blk_frozen BK483.out 1
   have hs45 := zk2 BK483.out
   have hfs45 := blk_frozen BK483.out 2
   have hs46 := zk3 BK483.out
   have hfs46 := blk_frozen BK483.out 3
   refine skip_ (w1 := ?_) (by rfl) rfl ?_ ?_
   rotate_left
   ·go_simp
    rfl
   refine hK.out _ _ ⟨((cell_far (p := ⟨gb483, _, none⟩) NB455_483.out _).trans (((cell_far (p := ⟨gb483, _, none⟩) NB455_483.out _).trans ((zg NB455_483.out hHeld.1))))), ((cell_far (p := ⟨gb483, _, none⟩) NB455_483.out _).trans (((cell_far (p := ⟨gb483, _, none⟩) NB455_483.out _).trans ((zg NB455_483.out hHeld.2.1))))), ((cell_far (p := ⟨gb483, _, none⟩) NB456_483.out _).trans (((cell_far (p := ⟨gb483, _, none⟩) NB456_483.out _).trans ((zg NB456_483.out hHeld.2.2.1))))), ((cell_far (p := ⟨gb483, _, none⟩) NB456_483.out _).trans (((cell_far (p := ⟨gb483, _, none⟩) NB456_483.out _).trans ((zg NB456_483.out hHeld.2.2.2.1))))), ((cell_far (p := ⟨gb483, _, none⟩) NB456_483.out _).trans (((cell_far (p := ⟨gb483, _, none⟩) NB456_483.out _).trans ((zg NB456_483.out hHeld.2.2.2.2.1))))), ((cell_far (p := ⟨gb483, _, none⟩) NB456_483.out _).trans (((cell_far (p := ⟨gb483, _, none⟩) NB456_483.out _).trans ((zg NB456_483.out hHeld.2.2.2.2.2)))))⟩ (fun hHeld => ?_)
   clear hK K
   refine pure_ (i := 15) (N := some 10) (v := ?_) (a' := ?_) #[true, true, true, true, true, true, true, true, true, true, true, true, true, true, true, true] rfl rfl (any_of HT_.out (by kernel_rfl)) (fun _ _ _ h => h) (Or.inl ⟨by rfl, ?_⟩) ?_ ?_
   rotate_left
   ·intro w'
    go_simp
    with_reducible rfl
   rotate_left
   ·simp only [Act.put, sT, sZ, sS, i64_w, i32_w]
    rfl
   refine done_ (done_of HT_.out (by kernel_rfl)) ?_
   have hnb47 := NB455_482.out
   have hnc47 := NB482_455.out
   have hnb48 := NB455_483.out
   have hnc48 := NB483_455.out
   have hcz49_0 := zk0 BK455.out
   have hcz49_1 := zk1 BK455.out
   have hfz49_0 := blk_frozen BK455.out 0
   have hfz49_1 := blk_frozen BK455.out 1
   try go_wp2_with (first | ((with_reducible refine gate_callee (f := 10) rfl ?_); refine goesL_ (some 42) rfl rfl Try.func10 (by kernel_rfl) rfl #[.agg #[.slice A0_0 l0_0.length c0_0, .slice A0_1 l0_1.length c0_1]] rfl gm ?_; (with_reducible refine (laws_toDisk.calls k _ _ l0_0 _ _ l0_1 t484 t487 _ ?side1 ?side2 ?side3 ?side4 A18.out).mono ?_); (case side1 => exact Kd.C_below HR0_0.out (bw4 HB.out GE455.out GE456.out GE482.out GE483.out)); (case side2 => exact HC0_0.out); (case side3 => exact Kd.C_below HR0_1.out (bw4 HB.out GE455.out GE456.out GE482.out GE483.out)); (case side4 => exact HC0_1.out); rintro e w50 ⟨v485, v488, rfl, ho0, ho1, hb⟩; refine ⟨_, rfl, ?_⟩; have n0_ := Ak (Kd.R_elder' (by (with_reducible repeat (first | apply Kd.R_alloc | apply Kd.R_drewN | apply Kd.R_drew)); exact (Kd.R_mono (Kd.R_mono (Kd.R_far (p := ⟨gb483, 3, none⟩) (Kd.R_far (p := ⟨gb483, 2, none⟩) (Kd.R_far (p := ⟨gb483, 1, none⟩) (Kd.R_far (p := ⟨gb483, 0, none⟩) (Kd.R_far (p := ⟨gb482, 1, none⟩) (Kd.R_far (p := ⟨gb482, 0, none⟩) (Kd.R_types (Kd.R_types HO460.out BK482.out (by decide)) BK483.out (by decide)) (fun _ hk => hk.1.2) (.slice Ao39 t471.length co39)) (fun _ hk => hk.1.2) (.slice Ao41 t474.length co41)) (fun _ hk => hk.2) (.int .i64 t477)) (fun _ hk => hk.2) (.int .i64 t478)) (fun _ hk => hk.2) (.int .i64 t479)) (fun _ hk => hk.2) (.int .i64 t480)) (fun _ h_ => h_.1)) (fun _ h_ => h_.1))) (Kd.R_base ho0) hb); have n1_ := Ak (Kd.S_mono (Kd.S_told (Kd.S_told (Kd.S_old (by (with_reducible repeat (first | apply Kd.S_alloc | apply Kd.S_drewN | apply Kd.S_drew)); exact (Kd.S_mono (Kd.S_mono (Kd.S_far (p := ⟨gb483, 3, none⟩) (Kd.S_far (p := ⟨gb483, 2, none⟩) (Kd.S_far (p := ⟨gb483, 1, none⟩) (Kd.S_far (p := ⟨gb483, 0, none⟩) (Kd.S_far (p := ⟨gb482, 1, none⟩) (Kd.S_far (p := ⟨gb482, 0, none⟩) (Kd.S_types (Kd.S_types HO463.out BK482.out (by decide)) BK483.out (by decide)) (fun _ hk => hk.1.2) (.slice Ao39 t471.length co39)) (fun _ hk => hk.1.2) (.slice Ao41 t474.length co41)) (fun _ hk => hk.2) (.int .i64 t477)) (fun _ hk => hk.2) (.int .i64 t478)) (fun _ hk => hk.2) (.int .i64 t479)) (fun _ hk => hk.2) (.int .i64 t480)) (fun _ h_ => h_.1)) (fun _ h_ => h_.1))) hb) (Kd.R_base ho0)) (Kd.S_base ho1)) (fun _ h_ => h_.1)); have n2_ := Ak (Kd.R_elder' (by (with_reducible repeat (first | apply Kd.R_alloc | apply Kd.R_drewN | apply Kd.R_drew)); exact (Kd.R_mono (Kd.R_mono (Kd.R_far (p := ⟨gb483, 3, none⟩) (Kd.R_far (p := ⟨gb483, 2, none⟩) (Kd.R_far (p := ⟨gb483, 1, none⟩) (Kd.R_far (p := ⟨gb483, 0, none⟩) (Kd.R_far (p := ⟨gb482, 1, none⟩) (Kd.R_far (p := ⟨gb482, 0, none⟩) (Kd.R_types (Kd.R_types HO470.out BK482.out (by decide)) BK483.out (by decide)) (fun _ hk => hk.1.2) (.slice Ao39 t471.length co39)) (fun _ hk => hk.1.2) (.slice Ao41 t474.length co41)) (fun _ hk => hk.2) (.int .i64 t477)) (fun _ hk => hk.2) (.int .i64 t478)) (fun _ hk => hk.2) (.int .i64 t479)) (fun _ hk => hk.2) (.int .i64 t480)) (fun _ h_ => h_.1)) (fun _ h_ => h_.1))) (Kd.R_base ho0) hb); have n3_ := Ak (Kd.R_elder' (by (with_reducible repeat (first | apply Kd.R_alloc | apply Kd.R_drewN | apply Kd.R_drew)); exact (Kd.R_mono (Kd.R_mono (Kd.R_far (p := ⟨gb483, 3, none⟩) (Kd.R_far (p := ⟨gb483, 2, none⟩) (Kd.R_far (p := ⟨gb483, 1, none⟩) (Kd.R_far (p := ⟨gb483, 0, none⟩) (Kd.R_far (p := ⟨gb482, 1, none⟩) (Kd.R_far (p := ⟨gb482, 0, none⟩) (Kd.R_types (Kd.R_types HO473.out BK482.out (by decide)) BK483.out (by decide)) (fun _ hk => hk.1.2) (.slice Ao39 t471.length co39)) (fun _ hk => hk.1.2) (.slice Ao41 t474.length co41)) (fun _ hk => hk.2) (.int .i64 t477)) (fun _ hk => hk.2) (.int .i64 t478)) (fun _ hk => hk.2) (.int .i64 t479)) (fun _ hk => hk.2) (.int .i64 t480)) (fun _ h_ => h_.1)) (fun _ h_ => h_.1))) (Kd.R_base ho0) hb); have n4_ := Ak (Kd.S_told (Kd.S_told (Kd.S_old (by (with_reducible repeat (first | apply Kd.S_alloc | apply Kd.S_drewN | apply Kd.S_drew)); exact (Kd.S_mono (Kd.S_mono (Kd.S_far (p := ⟨gb483, 3, none⟩) (Kd.S_far (p := ⟨gb483, 2, none⟩) (Kd.S_far (p := ⟨gb483, 1, none⟩) (Kd.S_far (p := ⟨gb483, 0, none⟩) (Kd.S_far (p := ⟨gb482, 1, none⟩) (Kd.S_far (p := ⟨gb482, 0, none⟩) (Kd.S_types (Kd.S_types HO476.out BK482.out (by decide)) BK483.out (by decide)) (fun _ hk => hk.1.2) (.slice Ao39 t471.length co39)) (fun _ hk => hk.1.2) (.slice Ao41 t474.length co41)) (fun _ hk => hk.2) (.int .i64 t477)) (fun _ hk => hk.2) (.int .i64 t478)) (fun _ hk => hk.2) (.int .i64 t479)) (fun _ hk => hk.2) (.int .i64 t480)) (fun _ h_ => h_.1)) (fun _ h_ => h_.1))) hb) (Kd.R_base ho0)) (Kd.S_base ho1)); have n5_ := Ak (Kd.R_lower (Kd.R_new' (Kd.R_new' (Kd.R_new' ho0 (Kd.R_lt (by (with_reducible repeat (first | apply Kd.R_alloc | apply Kd.R_drewN | apply Kd.R_drew)); exact (Kd.R_mono (Kd.R_mono (Kd.R_far (p := ⟨gb483, 3, none⟩) (Kd.R_far (p := ⟨gb483, 2, none⟩) (Kd.R_far (p := ⟨gb483, 1, none⟩) (Kd.R_far (p := ⟨gb483, 0, none⟩) (Kd.R_far (p := ⟨gb482, 1, none⟩) (Kd.R_far (p := ⟨gb482, 0, none⟩) (Kd.R_types (Kd.R_types HO460.out BK482.out (by decide)) BK483.out (by decide)) (fun _ hk => hk.1.2) (.slice Ao39 t471.length co39)) (fun _ hk => hk.1.2) (.slice Ao41 t474.length co41)) (fun _ hk => hk.2) (.int .i64 t477)) (fun _ hk => hk.2) (.int .i64 t478)) (fun _ hk => hk.2) (.int .i64 t479)) (fun _ hk => hk.2) (.int .i64 t480)) (fun _ h_ => h_.1)) (fun _ h_ => h_.1))))) (Kd.R_lt (by (with_reducible repeat (first | apply Kd.R_alloc | apply Kd.R_drewN | apply Kd.R_drew)); exact (Kd.R_mono (Kd.R_mono (Kd.R_far (p := ⟨gb483, 3, none⟩) (Kd.R_far (p := ⟨gb483, 2, none⟩) (Kd.R_far (p := ⟨gb483, 1, none⟩) (Kd.R_far (p := ⟨gb483, 0, none⟩) (Kd.R_far (p := ⟨gb482, 1, none⟩) (Kd.R_far (p := ⟨gb482, 0, none⟩) (Kd.R_types (Kd.R_types HO470.out BK482.out (by decide)) BK483.out (by decide)) (fun _ hk => hk.1.2) (.slice Ao39 t471.length co39)) (fun _ hk => hk.1.2) (.slice Ao41 t474.length co41)) (fun _ hk => hk.2) (.int .i64 t477)) (fun _ hk => hk.2) (.int .i64 t478)) (fun _ hk => hk.2) (.int .i64 t479)) (fun _ hk => hk.2) (.int .i64 t480)) (fun _ h_ => h_.1)) (fun _ h_ => h_.1))))) (Kd.R_lt (by (with_reducible repeat (first | apply Kd.R_alloc | apply Kd.R_drewN | apply Kd.R_drew)); exact (Kd.R_mono (Kd.R_mono (Kd.R_far (p := ⟨gb483, 3, none⟩) (Kd.R_far (p := ⟨gb483, 2, none⟩) (Kd.R_far (p := ⟨gb483, 1, none⟩) (Kd.R_far (p := ⟨gb483, 0, none⟩) (Kd.R_far (p := ⟨gb482, 1, none⟩) (Kd.R_far (p := ⟨gb482, 0, none⟩) (Kd.R_types (Kd.R_types HO473.out BK482.out (by decide)) BK483.out (by decide)) (fun _ hk => hk.1.2) (.slice Ao39 t471.length co39)) (fun _ hk => hk.1.2) (.slice Ao41 t474.length co41)) (fun _ hk => hk.2) (.int .i64 t477)) (fun _ hk => hk.2) (.int .i64 t478)) (fun _ hk => hk.2) (.int .i64 t479)) (fun _ hk => hk.2) (.int .i64 t480)) (fun _ h_ => h_.1)) (fun _ h_ => h_.1))))) (below_size (bw4 HB.out GE455.out GE456.out GE482.out GE483.out))); have n6_ := Ak (Kd.S_new' (Kd.S_new' (Kd.S_new' (Kd.S_new' (Kd.S_new' ho1 (Kd.R_lt (by (with_reducible repeat (first | apply Kd.R_alloc | apply Kd.R_drewN | apply Kd.R_drew)); exact (Kd.R_mono (Kd.R_mono (Kd.R_far (p := ⟨gb483, 3, none⟩) (Kd.R_far (p := ⟨gb483, 2, none⟩) (Kd.R_far (p := ⟨gb483, 1, none⟩) (Kd.R_far (p := ⟨gb483, 0, none⟩) (Kd.R_far (p := ⟨gb482, 1, none⟩) (Kd.R_far (p := ⟨gb482, 0, none⟩) (Kd.R_types (Kd.R_types HO460.out BK482.out (by decide)) BK483.out (by decide)) (fun _ hk => hk.1.2) (.slice Ao39 t471.length co39)) (fun _ hk => hk.1.2) (.slice Ao41 t474.length co41)) (fun _ hk => hk.2) (.int .i64 t477)) (fun _ hk => hk.2) (.int .i64 t478)) (fun _ hk => hk.2) (.int .i64 t479)) (fun _ hk => hk.2) (.int .i64 t480)) (fun _ h_ => h_.1)) (fun _ h_ => h_.1))))) (Kd.S_lt (by (with_reducible repeat (first | apply Kd.S_alloc | apply Kd.S_drewN | apply Kd.S_drew)); exact (Kd.S_mono (Kd.S_mono (Kd.S_far (p := ⟨gb483, 3, none⟩) (Kd.S_far (p := ⟨gb483, 2, none⟩) (Kd.S_far (p := ⟨gb483, 1, none⟩) (Kd.S_far (p := ⟨gb483, 0, none⟩) (Kd.S_far (p := ⟨gb482, 1, none⟩) (Kd.S_far (p := ⟨gb482, 0, none⟩) (Kd.S_types (Kd.S_types HO463.out BK482.out (by decide)) BK483.out (by decide)) (fun _ hk => hk.1.2) (.slice Ao39 t471.length co39)) (fun _ hk => hk.1.2) (.slice Ao41 t474.length co41)) (fun _ hk => hk.2) (.int .i64 t477)) (fun _ hk => hk.2) (.int .i64 t478)) (fun _ hk => hk.2) (.int .i64 t479)) (fun _ hk => hk.2) (.int .i64 t480)) (fun _ h_ => h_.1)) (fun _ h_ => h_.1))))) (Kd.R_lt (by (with_reducible repeat (first | apply Kd.R_alloc | apply Kd.R_drewN | apply Kd.R_drew)); exact (Kd.R_mono (Kd.R_mono (Kd.R_far (p := ⟨gb483, 3, none⟩) (Kd.R_far (p := ⟨gb483, 2, none⟩) (Kd.R_far (p := ⟨gb483, 1, none⟩) (Kd.R_far (p := ⟨gb483, 0, none⟩) (Kd.R_far (p := ⟨gb482, 1, none⟩) (Kd.R_far (p := ⟨gb482, 0, none⟩) (Kd.R_types (Kd.R_types HO470.out BK482.out (by decide)) BK483.out (by decide)) (fun _ hk => hk.1.2) (.slice Ao39 t471.length co39)) (fun _ hk => hk.1.2) (.slice Ao41 t474.length co41)) (fun _ hk => hk.2) (.int .i64 t477)) (fun _ hk => hk.2) (.int .i64 t478)) (fun _ hk => hk.2) (.int .i64 t479)) (fun _ hk => hk.2) (.int .i64 t480)) (fun _ h_ => h_.1)) (fun _ h_ => h_.1))))) (Kd.R_lt (by (with_reducible repeat (first | apply Kd.R_alloc | apply Kd.R_drewN | apply Kd.R_drew)); exact (Kd.R_mono (Kd.R_mono (Kd.R_far (p := ⟨gb483, 3, none⟩) (Kd.R_far (p := ⟨gb483, 2, none⟩) (Kd.R_far (p := ⟨gb483, 1, none⟩) (Kd.R_far (p := ⟨gb483, 0, none⟩) (Kd.R_far (p := ⟨gb482, 1, none⟩) (Kd.R_far (p := ⟨gb482, 0, none⟩) (Kd.R_types (Kd.R_types HO473.out BK482.out (by decide)) BK483.out (by decide)) (fun _ hk => hk.1.2) (.slice Ao39 t471.length co39)) (fun _ hk => hk.1.2) (.slice Ao41 t474.length co41)) (fun _ hk => hk.2) (.int .i64 t477)) (fun _ hk => hk.2) (.int .i64 t478)) (fun _ hk => hk.2) (.int .i64 t479)) (fun _ hk => hk.2) (.int .i64 t480)) (fun _ h_ => h_.1)) (fun _ h_ => h_.1))))) (Kd.S_lt (by (with_reducible repeat (first | apply Kd.S_alloc | apply Kd.S_drewN | apply Kd.S_drew)); exact (Kd.S_mono (Kd.S_mono (Kd.S_far (p := ⟨gb483, 3, none⟩) (Kd.S_far (p := ⟨gb483, 2, none⟩) (Kd.S_far (p := ⟨gb483, 1, none⟩) (Kd.S_far (p := ⟨gb483, 0, none⟩) (Kd.S_far (p := ⟨gb482, 1, none⟩) (Kd.S_far (p := ⟨gb482, 0, none⟩) (Kd.S_types (Kd.S_types HO476.out BK482.out (by decide)) BK483.out (by decide)) (fun _ hk => hk.1.2) (.slice Ao39 t471.length co39)) (fun _ hk => hk.1.2) (.slice Ao41 t474.length co41)) (fun _ hk => hk.2) (.int .i64 t477)) (fun _ hk => hk.2) (.int .i64 t478)) (fun _ hk => hk.2) (.int .i64 t479)) (fun _ hk => hk.2) (.int .i64 t480)) (fun _ h_ => h_.1)) (fun _ h_ => h_.1))))); have n7_ := Ak (blk_below (g := gb455) (o := .cells #[.slice A0_0 l0_0.length c0_0, .slice A0_1 l0_1.length c0_1] 25 (0, 0)) (by refine bq ?_; refine blk_far ?_ NB455_483.out _; refine bq ?_; refine blk_far ?_ NB455_483.out _; refine bq ?_; refine blk_far ?_ NB455_483.out _; refine bq ?_; refine blk_far ?_ NB455_483.out _; refine bq ?_; refine blk_far ?_ NB455_482.out _; refine bq ?_; refine blk_far ?_ NB455_482.out _; exact bq BK455.out) hb); have n8_ := Ak (blk_below (g := gb456) (o := .cells #[.int .i64 a1_0, .int .i64 a1_1, .int .i64 a1_2, .int .i64 a1_3] 27 (0, 0)) (by refine bq ?_; refine blk_far ?_ NB456_483.out _; refine bq ?_; refine blk_far ?_ NB456_483.out _; refine bq ?_; refine blk_far ?_ NB456_483.out _; refine bq ?_; refine blk_far ?_ NB456_483.out _; refine bq ?_; refine blk_far ?_ NB456_482.out _; refine bq ?_; refine blk_far ?_ NB456_482.out _; exact bq BK456.out) hb); have n9_ := Ak (blk_below (g := gb482) (o := .cells #[.slice Ao39 t471.length co39, .slice Ao41 t474.length co41] 31 (0, 0)) (by refine bq ?_; refine blk_far ?_ NB482_483.out _; refine bq ?_; refine blk_far ?_ NB482_483.out _; refine bq ?_; refine blk_far ?_ NB482_483.out _; refine bq ?_; refine blk_far ?_ NB482_483.out _; refine bq ?_; refine blk_put (cs := #[.slice Ao39 t471.length co39, .slice none 0 0]) ?_ 1 _ rfl; refine bq ?_; refine blk_put (cs := #[.slice none 0 0, .slice none 0 0]) ?_ 0 _ rfl; exact bq BK482.out) hb); have n10_ := Ak (blk_below (g := gb483) (o := .cells #[.int .i64 t477, .int .i64 t478, .int .i64 t479, .int .i64 t480] 32 (0, 0)) (by refine bq ?_; refine blk_put (cs := #[.int .i64 t477, .int .i64 t478, .int .i64 t479, .int .i64 0]) ?_ 3 _ rfl; refine bq ?_; refine blk_put (cs := #[.int .i64 t477, .int .i64 t478, .int .i64 0, .int .i64 0]) ?_ 2 _ rfl; refine bq ?_; refine blk_put (cs := #[.int .i64 t477, .int .i64 0, .int .i64 0, .int .i64 0]) ?_ 1 _ rfl; refine bq ?_; refine blk_put (cs := #[.int .i64 0, .int .i64 0, .int .i64 0, .int .i64 0]) ?_ 0 _ rfl; refine bq ?_; refine blk_far ?_ NB483_482.out _; refine bq ?_; refine blk_far ?_ NB483_482.out _; exact bq BK483.out) hb); have n11_ := Ak (below_step (bw4 HB.out GE455.out GE456.out GE482.out GE483.out) hb); obtain ⟨N1_, LN1_, n6_, n4_⟩ := S_new_name2 (b0 := w.heap.size) hb n6_.out n4_.out ((below_size (bw4 HB.out GE455.out GE456.out GE482.out GE483.out))); have LN1_ := Ak LN1_; have n6_ := Ak n6_; have n4_ := Ak n4_; clear HO460; clear HO463; clear HO470; clear HO473; clear HO476; clear BK455; clear BK456; clear BK482; clear BK483; clear HB; have HO460 := n0_; have HO463 := n1_; have HO470 := n2_; have HO473 := n3_; have HO476 := n4_; have HO486 := n5_; have HO489 := n6_; have BK455 := n7_; have BK456 := n8_; have BK482 := n9_; have BK483 := n10_; have HB := n11_; clear n0_ n1_ n2_ n3_ n4_ n5_ n6_ n7_ n8_ n9_ n10_ n11_) | ((with_reducible refine gate_dst (N := 11) rfl ?_); refine box_event ?hg (N := 11) ?hd (cs := #[.slice none 0 0, .slice none 0 0]) (t := 31) ?hr ?_; (case hd => rfl); (case hg => rfl); (case hr => first | (go_simp; done) | (go_simp; rfl)); intro gb490 hg w51 hbox hb; replace HO460 := Ak (Kd.R_below (rq HO460.out) hb); replace HO463 := Ak (Kd.S_below (sq HO463.out) hb); replace HO470 := Ak (Kd.R_below (rq HO470.out) hb); replace HO473 := Ak (Kd.R_below (rq HO473.out) hb); replace HO476 := Ak (Kd.S_below (sq HO476.out) hb); replace HO486 := Ak (Kd.R_below (rq HO486.out) hb); replace HO489 := Ak (Kd.S_below (sq HO489.out) hb); have BK490 := Ak (hbox); have GW490 := Ak (zb hg (bw4 HB.out GE455.out GE456.out GE482.out GE483.out)); have GE490 := Ak (zb hg (bw4 HB.out GE455.out GE456.out GE482.out GE483.out)); replace HB := Ak (below_step (bw4 HB.out GE455.out GE456.out GE482.out GE483.out) hb); have NB455_490 := Ak (zl hg (bq BK455.out)); have NB490_455 := Ak (zm hg (bq BK455.out)); replace BK455 := Ak (blk_below (bq BK455.out) hb); have NB456_490 := Ak (zl hg (bq BK456.out)); have NB490_456 := Ak (zm hg (bq BK456.out)); replace BK456 := Ak (blk_below (bq BK456.out) hb); have NB482_490 := Ak (zl hg (bq BK482.out)); have NB490_482 := Ak (zm hg (bq BK482.out)); replace BK482 := Ak (blk_below (bq BK482.out) hb); have NB483_490 := Ak (zl hg (bq BK483.out)); have NB490_483 := Ak (zm hg (bq BK483.out)); replace BK483 := Ak (blk_below (bq BK483.out) hb); clear hb hbox hg; obtain ⟨Ao52, co52, eo52⟩ := Kd.R_slice HO486.out; subst eo52; have hnb53 := NB490_455.out; have hnc53 := NB455_490.out; have hnb54 := NB490_456.out; have hnc54 := NB456_490.out; have hnb55 := NB490_482.out; have hnc55 := NB482_490.out; have hnb56 := NB490_483.out; have hnc56 := NB483_490.out; have hcz57_0 := zk0 BK490.out; have hcz57_1 := zk1 BK490.out; have hfz57_0 := blk_frozen BK490.out 0; have hfz57_1 := blk_frozen BK490.out 1; obtain ⟨Ao58, co58, eo58⟩ := Kd.S_slice HO489.out; subst eo58) | ((with_reducible refine gate_callee (f := 12) rfl ?_); refine goesL_ (some 44) rfl rfl Try.func12 (by kernel_rfl) rfl #[.slice A2 l2.length c2] rfl gm ?_; (with_reducible refine (laws_toByteS.calls k _ _ l2 t491 _ ?side1 ?side2 A19.out).mono ?_); (case side1 => exact Kd.C_below HR2.out (bw5 HB.out GE455.out GE456.out GE482.out GE483.out GE490.out)); (case side2 => exact HC2.out); rintro e w59 ⟨v492, rfl, ho0, hb⟩; refine ⟨_, rfl, ?_⟩; replace HO463 := Ak (Kd.S_elder' (by (with_reducible repeat (first | apply Kd.S_alloc | apply Kd.S_drewN | apply Kd.S_drew)); exact (Kd.S_mono (Kd.S_far (p := ⟨gb490, 1, none⟩) (Kd.S_far (p := ⟨gb490, 0, none⟩) (Kd.S_types HO463.out BK490.out (by decide)) (fun _ hk => hk.2) (.slice Ao52 t484.length co52)) (fun _ hk => hk.2) (.slice Ao58 t487.length co58)) (fun _ h_ => h_.1))) (Kd.R_base ho0) hb); replace HO476 := Ak (Kd.S_elder' (by (with_reducible repeat (first | apply Kd.S_alloc | apply Kd.S_drewN | apply Kd.S_drew)); exact (Kd.S_mono (Kd.S_far (p := ⟨gb490, 1, none⟩) (Kd.S_far (p := ⟨gb490, 0, none⟩) (Kd.S_types HO476.out BK490.out (by decide)) (fun _ hk => hk.2) (.slice Ao52 t484.length co52)) (fun _ hk => hk.2) (.slice Ao58 t487.length co58)) (fun _ h_ => h_.1))) (Kd.R_base ho0) hb); replace HO489 := Ak (Kd.S_elder' (by (with_reducible repeat (first | apply Kd.S_alloc | apply Kd.S_drewN | apply Kd.S_drew)); exact (Kd.S_mono (Kd.S_far (p := ⟨gb490, 1, none⟩) (Kd.S_far (p := ⟨gb490, 0, none⟩) (Kd.S_types HO489.out BK490.out (by decide)) (fun _ hk => hk.2) (.slice Ao52 t484.length co52)) (fun _ hk => hk.2) (.slice Ao58 t487.length co58)) (fun _ h_ => h_.1))) (Kd.R_base ho0) hb); have HO493 := Ak (Kd.R_lower (Kd.R_new' (Kd.R_new' (Kd.R_new' (Kd.R_new' ho0 (Kd.R_lt (by (with_reducible repeat (first | apply Kd.R_alloc | apply Kd.R_drewN | apply Kd.R_drew)); exact (Kd.R_mono (Kd.R_far (p := ⟨gb490, 1, none⟩) (Kd.R_far (p := ⟨gb490, 0, none⟩) (Kd.R_types HO460.out BK490.out (by decide)) (fun _ hk => hk.2) (.slice Ao52 t484.length co52)) (fun _ hk => hk.2) (.slice Ao58 t487.length co58)) (fun _ h_ => h_.1))))) (Kd.R_lt (by (with_reducible repeat (first | apply Kd.R_alloc | apply Kd.R_drewN | apply Kd.R_drew)); exact (Kd.R_mono (Kd.R_far (p := ⟨gb490, 1, none⟩) (Kd.R_far (p := ⟨gb490, 0, none⟩) (Kd.R_types HO470.out BK490.out (by decide)) (fun _ hk => hk.2) (.slice Ao52 t484.length co52)) (fun _ hk => hk.2) (.slice Ao58 t487.length co58)) (fun _ h_ => h_.1))))) (Kd.R_lt (by (with_reducible repeat (first | apply Kd.R_alloc | apply Kd.R_drewN | apply Kd.R_drew)); exact (Kd.R_mono (Kd.R_far (p := ⟨gb490, 1, none⟩) (Kd.R_far (p := ⟨gb490, 0, none⟩) (Kd.R_types HO473.out BK490.out (by decide)) (fun _ hk => hk.2) (.slice Ao52 t484.length co52)) (fun _ hk => hk.2) (.slice Ao58 t487.length co58)) (fun _ h_ => h_.1))))) (Kd.R_lt (by (with_reducible repeat (first | apply Kd.R_alloc | apply Kd.R_drewN | apply Kd.R_drew)); exact (Kd.R_mono (Kd.R_far (p := ⟨gb490, 1, none⟩) (Kd.R_far (p := ⟨gb490, 0, none⟩) (Kd.R_types HO486.out BK490.out (by decide)) (fun _ hk => hk.2) (.slice Ao52 t484.length co52)) (fun _ hk => hk.2) (.slice Ao58 t487.length co58)) (fun _ h_ => h_.1))))) (below_size (bw5 HB.out GE455.out GE456.out GE482.out GE483.out GE490.out))); replace HO460 := Ak (Kd.R_elder' (by (with_reducible repeat (first | apply Kd.R_alloc | apply Kd.R_drewN | apply Kd.R_drew)); exact (Kd.R_mono (Kd.R_far (p := ⟨gb490, 1, none⟩) (Kd.R_far (p := ⟨gb490, 0, none⟩) (Kd.R_types HO460.out BK490.out (by decide)) (fun _ hk => hk.2) (.slice Ao52 t484.length co52)) (fun _ hk => hk.2) (.slice Ao58 t487.length co58)) (fun _ h_ => h_.1))) (Kd.R_base ho0) hb); replace HO470 := Ak (Kd.R_elder' (by (with_reducible repeat (first | apply Kd.R_alloc | apply Kd.R_drewN | apply Kd.R_drew)); exact (Kd.R_mono (Kd.R_far (p := ⟨gb490, 1, none⟩) (Kd.R_far (p := ⟨gb490, 0, none⟩) (Kd.R_types HO470.out BK490.out (by decide)) (fun _ hk => hk.2) (.slice Ao52 t484.length co52)) (fun _ hk => hk.2) (.slice Ao58 t487.length co58)) (fun _ h_ => h_.1))) (Kd.R_base ho0) hb); replace HO473 := Ak (Kd.R_elder' (by (with_reducible repeat (first | apply Kd.R_alloc | apply Kd.R_drewN | apply Kd.R_drew)); exact (Kd.R_mono (Kd.R_far (p := ⟨gb490, 1, none⟩) (Kd.R_far (p := ⟨gb490, 0, none⟩) (Kd.R_types HO473.out BK490.out (by decide)) (fun _ hk => hk.2) (.slice Ao52 t484.length co52)) (fun _ hk => hk.2) (.slice Ao58 t487.length co58)) (fun _ h_ => h_.1))) (Kd.R_base ho0) hb); replace HO486 := Ak (Kd.R_elder' (by (with_reducible repeat (first | apply Kd.R_alloc | apply Kd.R_drewN | apply Kd.R_drew)); exact (Kd.R_mono (Kd.R_far (p := ⟨gb490, 1, none⟩) (Kd.R_far (p := ⟨gb490, 0, none⟩) (Kd.R_types HO486.out BK490.out (by decide)) (fun _ hk => hk.2) (.slice Ao52 t484.length co52)) (fun _ hk => hk.2) (.slice Ao58 t487.length co58)) (fun _ h_ => h_.1))) (Kd.R_base ho0) hb); replace BK455 := Ak (blk_below (g := gb455) (o := .cells #[.slice A0_0 l0_0.length c0_0, .slice A0_1 l0_1.length c0_1] 25 (0, 0)) (by refine bq ?_; refine blk_far ?_ NB455_490.out _; refine bq ?_; refine blk_far ?_ NB455_490.out _; exact bq BK455.out) hb); replace BK456 := Ak (blk_below (g := gb456) (o := .cells #[.int .i64 a1_0, .int .i64 a1_1, .int .i64 a1_2, .int .i64 a1_3] 27 (0, 0)) (by refine bq ?_; refine blk_far ?_ NB456_490.out _; refine bq ?_; refine blk_far ?_ NB456_490.out _; exact bq BK456.out) hb); replace BK482 := Ak (blk_below (g := gb482) (o := .cells #[.slice Ao39 t471.length co39, .slice Ao41 t474.length co41] 31 (0, 0)) (by refine bq ?_; refine blk_far ?_ NB482_490.out _; refine bq ?_; refine blk_far ?_ NB482_490.out _; exact bq BK482.out) hb); replace BK483 := Ak (blk_below (g := gb483) (o := .cells #[.int .i64 t477, .int .i64 t478, .int .i64 t479, .int .i64 t480] 32 (0, 0)) (by refine bq ?_; refine blk_far ?_ NB483_490.out _; refine bq ?_; refine blk_far ?_ NB483_490.out _; exact bq BK483.out) hb); replace BK490 := Ak (blk_below (g := gb490) (o := .cells #[.slice Ao52 t484.length co52, .slice Ao58 t487.length co58] 31 (0, 0)) (by refine bq ?_; refine blk_put (cs := #[.slice Ao52 t484.length co52, .slice none 0 0]) ?_ 1 _ rfl; refine bq ?_; refine blk_put (cs := #[.slice none 0 0, .slice none 0 0]) ?_ 0 _ rfl; exact bq BK490.out) hb); replace HB := Ak (below_step (bw5 HB.out GE455.out GE456.out GE482.out GE483.out GE490.out) hb); obtain ⟨Ao60, co60, eo60⟩ := Kd.R_slice HO493.out; subst eo60))
   replace HO460 := Ak (Kd.R_drew HO460.out)
   replace HO463 := Ak (Kd.S_drew HO463.out)
   replace HO470 := Ak (Kd.R_drew HO470.out)
   replace HO473 := Ak (Kd.R_drew HO473.out)
   replace HO476 := Ak (Kd.S_drew HO476.out)
   replace HO486 := Ak (Kd.R_drew HO486.out)
   replace HO489 := Ak (Kd.S_drew HO489.out)
   replace HO493 := Ak (Kd.R_drew HO493.out)
   replace BK455 := Ak (blk_drew BK455.out)
   replace BK456 := Ak (blk_drew BK456.out)
   replace BK482 := Ak (blk_drew BK482.out)
   replace BK483 := Ak (blk_drew BK483.out)
   replace BK490 := Ak (blk_drew BK490.out)
   replace HB := Ak (below_drew1 HB.out)
   refine start_ (n := 14) (S := fun w' => w'.cell? ⟨gb490, 0, none⟩ = some (.slice Ao52 t484.length co52) ∧ w'.cell? ⟨gb490, 1, none⟩ = some (.slice Ao58 t487.length co58) ∧ w'.cell? ⟨gb456, 0, none⟩ = some (.int .i64 a1_0) ∧ w'.cell? ⟨gb456, 1, none⟩ = some (.int .i64 a1_1) ∧ w'.cell? ⟨gb456, 2, none⟩ = some (.int .i64 a1_2) ∧ w'.cell? ⟨gb456, 3, none⟩ = some (.int .i64 a1_3)) (ds := []) #[false, false, false, false, false, false, false, false, false, false, false, false, false, false] (by kernel_rfl) rfl rfl ⟨zk0 BK490.out, zk1 BK490.out, zk0 BK456.out, zk1 BK456.out, zk2 BK456.out, zk3 BK456.out⟩ (fun hHeld => ?_); refine with_tabW laws_FnExactLogAdd.tab10 laws_FnExactLogAdd.bits10 (fun HT_ HW_ => ?_)
   generalize w59.drew = w61 at HO460 HO463 HO470 HO473 HO476 HO486 HO489 HO493 BK455 BK456 BK482 BK483 BK490 HB hHeld ⊢
   refine pure_ (i := 3) (N := some 49) (v := ?_) (a' := ?_) #[false, false, false, true, false, false, false, false, false, false, false, false, false, false] rfl rfl (any_of HT_.out (by kernel_rfl)) (fun _ _ _ h => h) (Or.inl ⟨by rfl, ?_⟩) ?_ ?_
   rotate_left
   ·intro w'
    go_simp
    with_reducible rfl
   rotate_left
   ·simp only [Act.put, sT, sZ, sS, i64_w, i32_w]
    rfl
   refine take_ (i := 0) (N := some 46) (v := ?_) (a' := ?_) #[true, false, false, true, false, false, false, false, false, false, false, false, false, false] rfl rfl (take_ofW HT_.out HW_.out (by kernel_rfl)) (fun _ _ _ h => h) (Or.inl ⟨by rfl, ?_⟩) hHeld ?_ ?_
   rotate_left
   ·rintro w' ⟨s0, s1, s2, s3, s4, s5⟩
    go_simp
    with_reducible rfl
   rotate_left
   ·simp only [Act.put, sT, sZ, sS, i64_w, i32_w]
    rfl
   refine take_ (i := 1) (N := some 47) (v := ?_) (a' := ?_) #[true, true, false, true, false, false, false, false, false, false, false, false, false, false] rfl rfl (take_ofW HT_.out HW_.out (by kernel_rfl)) (fun _ _ _ h => h) (Or.inl ⟨by rfl, ?_⟩) hHeld ?_ ?_
   rotate_left
   ·rintro w' ⟨s0, s1, s2, s3, s4, s5⟩
    go_simp
    with_reducible rfl
   rotate_left
   ·simp only [Act.put, sT, sZ, sS, i64_w, i32_w]
    rfl
   obtain ⟨N3_, hN3_⟩ : ∃ n_, n_ = w61.heap.size := ⟨_, rfl⟩
   have LN3_ := Ak (show w.heap.size ≤ N3_ from by rw [hN3_]; exact below_size HB.out)
   refine join_ (σ := Value × Value × Nat × Nat) 3 #[true, true, true, true, true, true, true, true, true, true, true, false, false, false] (fun s_ => [(48, .agg #[.int .i64 t494, .int .i64 t495, .int .i64 t496, .int .i64 t497]), (50, .tuple #[.agg #[s_.1, s_.2.1], .agg #[.int .i64 t504, .int .i64 t505, .int .i64 t506, .int .i64 t507], .bool t508]), (13, .pointer (some ⟨s_.2.2.1, 0, none⟩)), (14, .pointer (some ⟨s_.2.2.2, 0, none⟩)), (45, .tuple #[.agg #[s_.1, s_.2.1], .agg #[.int .i64 t504, .int .i64 t505, .int .i64 t506, .int .i64 t507], .bool t508]), (51, .agg #[s_.1, s_.2.1]), (52, .agg #[.int .i64 t504, .int .i64 t505, .int .i64 t506, .int .i64 t507]), (53, .bool t508)]) (fun s_ w' => (w'.cell? ⟨gb490, 0, none⟩ = some (.slice Ao52 t484.length co52) ∧ w'.cell? ⟨gb490, 1, none⟩ = some (.slice Ao58 t487.length co58) ∧ w'.cell? ⟨gb456, 0, none⟩ = some (.int .i64 a1_0) ∧ w'.cell? ⟨gb456, 1, none⟩ = some (.int .i64 a1_1) ∧ w'.cell? ⟨gb456, 2, none⟩ = some (.int .i64 a1_2) ∧ w'.cell? ⟨gb456, 3, none⟩ = some (.int .i64 a1_3)) ∧ (Kd.R (Kd.int .u8) 5 w' w.heap.size (fun k_ => Nb k_ v469 ∧ Nb k_ (.slice Ao39 t471.length co39) ∧ Nb k_ (.slice Ao52 t484.length co52) ∧ Nb k_ (.slice Ao60 t491.length co60) ∧ some k_ ≠ (s_.1 : Value).ownBlock) v459 t458) ∧ (Kd.S k96 96 w' w.heap.size (fun k_ => Nb k_ v459 ∧ Nb k_ v469 ∧ Nb k_ (.slice Ao39 t471.length co39) ∧ Nb k_ (.slice Ao41 t474.length co41) ∧ Nb k_ (.slice Ao52 t484.length co52) ∧ Nb k_ (.slice Ao58 t487.length co58) ∧ Nb k_ (.slice Ao60 t491.length co60) ∧ some k_ ≠ (s_.1 : Value).ownBlock ∧ some k_ ≠ (s_.2.1 : Value).ownBlock) v462 t461) ∧ (Kd.R (Kd.int .u8) 5 w' w.heap.size (fun k_ => Nb k_ v459 ∧ Nb k_ (.slice Ao39 t471.length co39) ∧ Nb k_ (.slice Ao52 t484.length co52) ∧ Nb k_ (.slice Ao60 t491.length co60) ∧ some k_ ≠ (s_.1 : Value).ownBlock) v469 t468) ∧ (Kd.R (Kd.int .u8) 5 w' w.heap.size (fun k_ => Nb k_ v459 ∧ Nb k_ v469 ∧ Nb k_ (.slice Ao52 t484.length co52) ∧ Nb k_ (.slice Ao60 t491.length co60) ∧ some k_ ≠ (s_.1 : Value).ownBlock) (.slice Ao39 t471.length co39) t471) ∧ (Kd.S k96 96 w' w.heap.size (fun k_ => Nb k_ v459 ∧ Nb k_ v462 ∧ Nb k_ v469 ∧ Nb k_ (.slice Ao39 t471.length co39) ∧ Nb k_ (.slice Ao52 t484.length co52) ∧ Nb k_ (.slice Ao58 t487.length co58) ∧ Nb k_ (.slice Ao60 t491.length co60) ∧ some k_ ≠ (s_.1 : Value).ownBlock ∧ some k_ ≠ (s_.2.1 : Value).ownBlock ∧ k_ < N1_ ∧ k_ < N3_) (.slice Ao41 t474.length co41) t474) ∧ (Kd.R (Kd.int .u8) 5 w' w.heap.size (fun k_ => Nb k_ v459 ∧ Nb k_ v469 ∧ Nb k_ (.slice Ao39 t471.length co39) ∧ Nb k_ (.slice Ao60 t491.length co60) ∧ some k_ ≠ (s_.1 : Value).ownBlock) (.slice Ao52 t484.length co52) t484) ∧ (Kd.S k96 96 w' N1_ (fun k_ => Nb k_ v459 ∧ Nb k_ v462 ∧ Nb k_ v469 ∧ Nb k_ (.slice Ao39 t471.length co39) ∧ Nb k_ (.slice Ao41 t474.length co41) ∧ Nb k_ (.slice Ao52 t484.length co52) ∧ Nb k_ (.slice Ao60 t491.length co60) ∧ some k_ ≠ (s_.1 : Value).ownBlock ∧ some k_ ≠ (s_.2.1 : Value).ownBlock ∧ k_ < N3_) (.slice Ao58 t487.length co58) t487) ∧ (Kd.R (Kd.int .u8) 5 w' w.heap.size (fun k_ => Nb k_ v459 ∧ Nb k_ v469 ∧ Nb k_ (.slice Ao39 t471.length co39) ∧ Nb k_ (.slice Ao52 t484.length co52) ∧ some k_ ≠ (s_.1 : Value).ownBlock) (.slice Ao60 t491.length co60) t491) ∧ (Kd.R (Kd.int .u8) 5 w' w.heap.size (fun k_ => Nb k_ v459 ∧ Nb k_ v469 ∧ Nb k_ (.slice Ao39 t471.length co39) ∧ Nb k_ (.slice Ao52 t484.length co52) ∧ Nb k_ (.slice Ao60 t491.length co60)) s_.1 t498) ∧ (Kd.S k96 96 w' N3_ (fun k_ => Nb k_ v459 ∧ Nb k_ v462 ∧ Nb k_ v469 ∧ Nb k_ (.slice Ao39 t471.length co39) ∧ Nb k_ (.slice Ao41 t474.length co41) ∧ Nb k_ (.slice Ao52 t484.length co52) ∧ Nb k_ (.slice Ao58 t487.length co58) ∧ Nb k_ (.slice Ao60 t491.length co60) ∧ some k_ ≠ (s_.1 : Value).ownBlock) s_.2.1 t501) ∧ (w'.heap[gb455]? = some (.cells #[.slice A0_0 l0_0.length c0_0, .slice A0_1 l0_1.length c0_1] 25 (0, 0))) ∧ (w'.heap[gb456]? = some (.cells #[.int .i64 a1_0, .int .i64 a1_1, .int .i64 a1_2, .int .i64 a1_3] 27 (0, 0))) ∧ (w'.heap[gb482]? = some (.cells #[.slice Ao39 t471.length co39, .slice Ao41 t474.length co41] 31 (0, 0))) ∧ (w'.heap[gb483]? = some (.cells #[.int .i64 t477, .int .i64 t478, .int .i64 t479, .int .i64 t480] 32 (0, 0))) ∧ (w'.heap[gb490]? = some (.cells #[.slice Ao52 t484.length co52, .slice Ao58 t487.length co58] 31 (0, 0))) ∧ (w'.heap[s_.2.2.1]? = some (.cells #[.slice none 0 0, .slice none 0 0] 31 (0, 0))) ∧ (w'.heap[s_.2.2.2]? = some (.cells #[.int .i64 0, .int .i64 0, .int .i64 0, .int .i64 0] 32 (0, 0))) ∧ (w.heap.size ≤ s_.2.2.1) ∧ (w.heap.size ≤ s_.2.2.1) ∧ (gb455 ≠ s_.2.2.1) ∧ (s_.2.2.1 ≠ gb455) ∧ (gb456 ≠ s_.2.2.1) ∧ (s_.2.2.1 ≠ gb456) ∧ (gb482 ≠ s_.2.2.1) ∧ (s_.2.2.1 ≠ gb482) ∧ (gb483 ≠ s_.2.2.1) ∧ (s_.2.2.1 ≠ gb483) ∧ (gb490 ≠ s_.2.2.1) ∧ (s_.2.2.1 ≠ gb490) ∧ (s_.2.2.2 ≠ s_.2.2.1) ∧ (s_.2.2.1 ≠ s_.2.2.2) ∧ (w.heap.size ≤ s_.2.2.2) ∧ (w.heap.size ≤ s_.2.2.2) ∧ (gb455 ≠ s_.2.2.2) ∧ (s_.2.2.2 ≠ gb455) ∧ (gb456 ≠ s_.2.2.2) ∧ (s_.2.2.2 ≠ gb456) ∧ (gb482 ≠ s_.2.2.2) ∧ (s_.2.2.2 ≠ gb482) ∧ (gb483 ≠ s_.2.2.2) ∧ (s_.2.2.2 ≠ gb483) ∧ (gb490 ≠ s_.2.2.2) ∧ (s_.2.2.2 ≠ gb490) ∧ (Below w.heap.size w w')) ?_ ?_
   rotate_left
   ·intro hJ2_4_9_10
    have hsz_ := below_size HB.out
    have hS_ : ∀ w', Below w61.heap.size w61 w' → (w'.cell? ⟨gb490, 0, none⟩ = some (.slice Ao52 t484.length co52) ∧ w'.cell? ⟨gb490, 1, none⟩ = some (.slice Ao58 t487.length co58) ∧ w'.cell? ⟨gb456, 0, none⟩ = some (.int .i64 a1_0) ∧ w'.cell? ⟨gb456, 1, none⟩ = some (.int .i64 a1_1) ∧ w'.cell? ⟨gb456, 2, none⟩ = some (.int .i64 a1_2) ∧ w'.cell? ⟨gb456, 3, none⟩ = some (.int .i64 a1_3)) := fun w' hb_ => ⟨(blk_cell (blk_below BK490.out hb_) 0).trans rfl, (blk_cell (blk_below BK490.out hb_) 1).trans rfl, (blk_cell (blk_below BK456.out hb_) 0).trans rfl, (blk_cell (blk_below BK456.out hb_) 1).trans rfl, (blk_cell (blk_below BK456.out hb_) 2).trans rfl, (blk_cell (blk_below BK456.out hb_) 3).trans rfl⟩
    refine Latt.lattice_ (fuel := 3) (k := 4) 2 (fun p => match p with | 0 => 2 | _ => 4) (fun p => match p with | 0 => 48 | _ => 50) 9 10 13 14 #[.slice none 0 0, .slice none 0 0] #[.int .i64 0, .int .i64 0, .int .i64 0, .int .i64 0] 31 32
     (fun a_ p ac w' => match p with
      | 0 => ac = a_
      | 1 => ac = (a_.put (some 48) (.agg #[.int .i64 t494, .int .i64 t495, .int .i64 t496, .int .i64 t497]))
      | 2 => ∃ v499 v502 : Value, ac = ((a_.put (some 48) (.agg #[.int .i64 t494, .int .i64 t495, .int .i64 t496, .int .i64 t497])).put (some 50) (.tuple #[.agg #[v499, v502], .agg #[.int .i64 t504, .int .i64 t505, .int .i64 t506, .int .i64 t507], .bool t508])) ∧ Kd.R (Kd.int .u8) 5 w' w61.heap.size (fun _ => True) v499 t498 ∧ Kd.S k96 96 w' w61.heap.size (fun k_ => Nb k_ v499) v502 t501
      | _ => ∃ v499 v502 : Value, ac = ((((((a_.put (some 48) (.agg #[.int .i64 t494, .int .i64 t495, .int .i64 t496, .int .i64 t497])).put (some 50) (.tuple #[.agg #[v499, v502], .agg #[.int .i64 t504, .int .i64 t505, .int .i64 t506, .int .i64 t507], .bool t508])).put (some 45) (.tuple #[.agg #[v499, v502], .agg #[.int .i64 t504, .int .i64 t505, .int .i64 t506, .int .i64 t507], .bool t508])).put (some 51) (.agg #[v499, v502])).put (some 52) (.agg #[.int .i64 t504, .int .i64 t505, .int .i64 t506, .int .i64 t507])).put (some 53) (.bool t508)) ∧ Kd.R (Kd.int .u8) 5 w' w61.heap.size (fun _ => True) v499 t498 ∧ Kd.S k96 96 w' w61.heap.size (fun k_ => Nb k_ v499) v502 t501)
     (fun p b1 b2 => match p with | 0 => #[true, true, false, true, false, false, false, false, false, b1, b2, false, false, false] | 1 => #[true, true, true, true, false, false, false, false, false, b1, b2, false, false, false] | 2 => #[true, true, true, true, true, false, false, false, false, b1, b2, false, false, false] | _ => #[true, true, true, true, true, true, true, true, true, b1, b2, false, false, false])
     hS_ (by decide) ?hI ?hr ?hr2 ?hL ?hL1 ?hL2 ?hcall ?hb1 ?hb2 ?hpost rfl ?hfin
    case hI =>
     intro p ac w1_ w2_ h_ hb_
     rcases p with _ | _ | _ | _
     ·exact h_
     ·obtain h_ := h_
      exact h_
     ·obtain ⟨v499, v502, h_, HO500, HO503⟩ := h_
      exact ⟨v499, v502, h_, Kd.R_below HO500 hb_, Kd.S_below HO503 hb_⟩
     ·obtain ⟨v499, v502, h_, HO500, HO503⟩ := h_
      exact ⟨v499, v502, h_, Kd.R_below HO500 hb_, Kd.S_below HO503 hb_⟩
    case hr =>
     intro p hp_ b1 b2
     have hp2_ : p = 0 ∨ p = 1 := by omega
     rcases hp2_ with rfl | rfl <;> cases b1 <;> cases b2 <;> exact Latt.ready_of HT_.out (by kernel_rfl)
    case hr2 =>
     intro b1 b2 h_
     cases b1 <;> cases b2 <;> first | exact absurd h_ (by decide) | exact Latt.ready_of HT_.out (by kernel_rfl)
    case hL =>
     intro p hp_ b1 b2
     have hp2_ : p = 0 ∨ p = 1 := by omega
     rcases hp2_ with rfl | rfl <;> rfl
    case hL1 =>
     intro p hp_ b2
     have hp2_ : p = 0 ∨ p = 1 ∨ p = 2 ∨ p = 3 := by omega
     rcases hp2_ with rfl | rfl | rfl | rfl <;> rfl
    case hL2 =>
     intro p hp_ b1
     have hp2_ : p = 0 ∨ p = 1 ∨ p = 2 ∨ p = 3 := by omega
     rcases hp2_ with rfl | rfl | rfl | rfl <;> rfl
    case hcall =>
     intro p hp_
     have hp2_ : p = 0 ∨ p = 1 := by omega
     rcases hp2_ with rfl | rfl
     ·refine ⟨_, 11, _, _, _, rfl, rfl, rfl, rfl, Try.func11, (by kernel_rfl), rfl, rfl, (by decide), (by decide), ?_⟩
      intro ac w1_ hb0_ h_
      obtain rfl : ac = _ := h_
      have HB := Ak (below_step HB.out hb0_)
      refine Latt.calls_args (as' := #[.agg #[.int .i64 a1_0, .int .i64 a1_1, .int .i64 a1_2, .int .i64 a1_3]]) (by first | rfl | (simp only [Act.put, sT, sZ, sS, List.map_toArray, List.map_cons, List.map_nil]; rfl)) ?_
      with_reducible refine (laws_toLog.calls a1_0 a1_1 a1_2 a1_3 t494 t495 t496 t497 _ A20.out).mono ?_
      rintro e w2_ ⟨rfl, hb⟩
      exact ⟨_, rfl, hb, rfl⟩
     ·refine ⟨_, 13, _, _, _, rfl, rfl, rfl, rfl, Try.func13, (by kernel_rfl), rfl, rfl, (by decide), (by decide), ?_⟩
      intro ac w1_ hb0_ h_
      obtain rfl := h_
      have HO486 := Ak (Kd.R_below HO486.out hb0_)
      have HO489 := Ak (Kd.S_below HO489.out hb0_)
      have HO493 := Ak (Kd.R_below HO493.out hb0_)
      have HB := Ak (below_step HB.out hb0_)
      refine Latt.calls_args (as' := #[.agg #[.slice Ao52 t484.length co52, .slice Ao58 t487.length co58], .agg #[.int .i64 t494, .int .i64 t495, .int .i64 t496, .int .i64 t497], .slice Ao60 t491.length co60]) (by first | rfl | (simp only [Act.put, sT, sZ, sS, List.map_toArray, List.map_cons, List.map_nil]; rfl)) ?_
      with_reducible refine (impl_LogAdd.calls k _ _ t484 _ _ t487 t494 t495 t496 t497 _ _ t491 t498 t501 t504 t505 t506 t507 t508 _ ?side1 ?side2 ?side3 ?side4 ?side5 ?side6 A21.out).mono ?_
      (case side1 => repeat (first | exact (Kd.R_reads' HO486.out).2.2 | (with_reducible refine Kd.C_alloc ?_ _) | (with_reducible refine Kd.C_drewN ?_ _) | (with_reducible refine Kd.C_drew ?_)))
      (case side2 => exact (Kd.R_reads' HO486.out).2.1)
      (case side3 => repeat (first | exact (Kd.S_reads' HO489.out).2.2 | (with_reducible refine Kd.C_alloc ?_ _) | (with_reducible refine Kd.C_drewN ?_ _) | (with_reducible refine Kd.C_drew ?_)))
      (case side4 => exact (Kd.S_reads' HO489.out).2.1)
      (case side5 => repeat (first | exact (Kd.R_reads' HO493.out).2.2 | (with_reducible refine Kd.C_alloc ?_ _) | (with_reducible refine Kd.C_drewN ?_ _) | (with_reducible refine Kd.C_drew ?_)))
      (case side6 => exact (Kd.R_reads' HO493.out).2.1)
      rintro e w2_ ⟨v499, v502, rfl, ho0, ho1, hb⟩
      refine ⟨_, rfl, hb, v499, v502, rfl, ?_, ?_⟩
      ·exact Kd.R_lower ho0 (below_size hb0_)
      ·exact Kd.S_lower (Kd.S_mono (Kd.S_bound ho1) (fun k_ hk_ => zs hk_)) (below_size hb0_)
    case hb1 => exact ⟨_, rfl, rfl, rfl, fun a_ w1_ => by first | (go_simp; done) | (go_simp; rfl)⟩
    case hb2 => exact ⟨_, rfl, rfl, rfl, fun a_ w1_ => by first | (go_simp; done) | (go_simp; rfl)⟩
    case hpost =>
     intro b1 b2 o1 o2 fu ac w1_ e1_ e2_ hs_ h_ hk_
     obtain ⟨v499, v502, rfl, HO500, HO503⟩ := h_
     rcases o1 with _ | g1_ <;> rcases o2 with _ | g2_
     ·subst e1_; subst e2_
      refine norm_ (a' := ?_) ?_ ?_
      rotate_left
      ·simp only [Latt.bx, Act.put, sT, sZ, sS]
       rfl
      refine pure_ (i := 5) (N := some 45) (v := ?_) (a' := ?_) #[true, true, true, true, true, true, false, false, false, false, false, false, false, false] rfl rfl (any_of HT_.out (by kernel_rfl)) (fun _ _ _ h => h) (Or.inl ⟨by rfl, ?_⟩) ?_ ?_
      rotate_left
      ·intro w'
       go_simp
       with_reducible rfl
      rotate_left
      ·simp only [Act.put, sT, sZ, sS, i64_w, i32_w]
       rfl
      refine pure_ (i := 6) (N := some 51) (v := ?_) (a' := ?_) #[true, true, true, true, true, true, true, false, false, false, false, false, false, false] rfl rfl (any_of HT_.out (by kernel_rfl)) (fun _ _ _ h => h) (Or.inl ⟨by rfl, ?_⟩) ?_ ?_
      rotate_left
      ·intro w'
       go_simp
       with_reducible rfl
      rotate_left
      ·simp only [Act.put, sT, sZ, sS, i64_w, i32_w]
       rfl
      refine pure_ (i := 7) (N := some 52) (v := ?_) (a' := ?_) #[true, true, true, true, true, true, true, true, false, false, false, false, false, false] rfl rfl (any_of HT_.out (by kernel_rfl)) (fun _ _ _ h => h) (Or.inl ⟨by rfl, ?_⟩) ?_ ?_
      rotate_left
      ·intro w'
       go_simp
       with_reducible rfl
      rotate_left
      ·simp only [Act.put, sT, sZ, sS, i64_w, i32_w]
       rfl
      refine pure_ (i := 8) (N := some 53) (v := ?_) (a' := ?_) #[true, true, true, true, true, true, true, true, true, false, false, false, false, false] rfl rfl (any_of HT_.out (by kernel_rfl)) (fun _ _ _ h => h) (Or.inl ⟨by rfl, ?_⟩) ?_ ?_
      rotate_left
      ·intro w'
       go_simp
       with_reducible rfl
      rotate_left
      ·simp only [Act.put, sT, sZ, sS, i64_w, i32_w]
       rfl
      exact norm_ (by first | (simp only [Latt.bx, Act.put, sT, sZ, sS]; done) | (simp only [Latt.bx, Act.put, sT, sZ, sS]; rfl)) (hk_ _ ⟨v499, v502, rfl, HO500, HO503⟩)
     ·subst e1_; subst e2_
      refine norm_ (a' := ?_) ?_ ?_
      rotate_left
      ·simp only [Latt.bx, Act.put, sT, sZ, sS]
       rfl
      refine pure_ (i := 5) (N := some 45) (v := ?_) (a' := ?_) #[true, true, true, true, true, true, false, false, false, false, true, false, false, false] rfl rfl (any_of HT_.out (by kernel_rfl)) (fun _ _ _ h => h) (Or.inl ⟨by rfl, ?_⟩) ?_ ?_
      rotate_left
      ·intro w'
       go_simp
       with_reducible rfl
      rotate_left
      ·simp only [Act.put, sT, sZ, sS, i64_w, i32_w]
       rfl
      refine pure_ (i := 6) (N := some 51) (v := ?_) (a' := ?_) #[true, true, true, true, true, true, true, false, false, false, true, false, false, false] rfl rfl (any_of HT_.out (by kernel_rfl)) (fun _ _ _ h => h) (Or.inl ⟨by rfl, ?_⟩) ?_ ?_
      rotate_left
      ·intro w'
       go_simp
       with_reducible rfl
      rotate_left
      ·simp only [Act.put, sT, sZ, sS, i64_w, i32_w]
       rfl
      refine pure_ (i := 7) (N := some 52) (v := ?_) (a' := ?_) #[true, true, true, true, true, true, true, true, false, false, true, false, false, false] rfl rfl (any_of HT_.out (by kernel_rfl)) (fun _ _ _ h => h) (Or.inl ⟨by rfl, ?_⟩) ?_ ?_
      rotate_left
      ·intro w'
       go_simp
       with_reducible rfl
      rotate_left
      ·simp only [Act.put, sT, sZ, sS, i64_w, i32_w]
       rfl
      refine pure_ (i := 8) (N := some 53) (v := ?_) (a' := ?_) #[true, true, true, true, true, true, true, true, true, false, true, false, false, false] rfl rfl (any_of HT_.out (by kernel_rfl)) (fun _ _ _ h => h) (Or.inl ⟨by rfl, ?_⟩) ?_ ?_
      rotate_left
      ·intro w'
       go_simp
       with_reducible rfl
      rotate_left
      ·simp only [Act.put, sT, sZ, sS, i64_w, i32_w]
       rfl
      exact norm_ (by first | (simp only [Latt.bx, Act.put, sT, sZ, sS]; done) | (simp only [Latt.bx, Act.put, sT, sZ, sS]; rfl)) (hk_ _ ⟨v499, v502, rfl, HO500, HO503⟩)
     ·subst e1_; subst e2_
      refine norm_ (a' := ?_) ?_ ?_
      rotate_left
      ·simp only [Latt.bx, Act.put, sT, sZ, sS]
       rfl
      refine pure_ (i := 5) (N := some 45) (v := ?_) (a' := ?_) #[true, true, true, true, true, true, false, false, false, true, false, false, false, false] rfl rfl (any_of HT_.out (by kernel_rfl)) (fun _ _ _ h => h) (Or.inl ⟨by rfl, ?_⟩) ?_ ?_
      rotate_left
      ·intro w'
       go_simp
       with_reducible rfl
      rotate_left
      ·simp only [Act.put, sT, sZ, sS, i64_w, i32_w]
       rfl
      refine pure_ (i := 6) (N := some 51) (v := ?_) (a' := ?_) #[true, true, true, true, true, true, true, false, false, true, false, false, false, false] rfl rfl (any_of HT_.out (by kernel_rfl)) (fun _ _ _ h => h) (Or.inl ⟨by rfl, ?_⟩) ?_ ?_
      rotate_left
      ·intro w'
       go_simp
       with_reducible rfl
      rotate_left
      ·simp only [Act.put, sT, sZ, sS, i64_w, i32_w]
       rfl
      refine pure_ (i := 7) (N := some 52) (v := ?_) (a' := ?_) #[true, true, true, true, true, true, true, true, false, true, false, false, false, false] rfl rfl (any_of HT_.out (by kernel_rfl)) (fun _ _ _ h => h) (Or.inl ⟨by rfl, ?_⟩) ?_ ?_
      rotate_left
      ·intro w'
       go_simp
       with_reducible rfl
      rotate_left
      ·simp only [Act.put, sT, sZ, sS, i64_w, i32_w]
       rfl
      refine pure_ (i := 8) (N := some 53) (v := ?_) (a' := ?_) #[true, true, true, true, true, true, true, true, true, true, false, false, false, false] rfl rfl (any_of HT_.out (by kernel_rfl)) (fun _ _ _ h => h) (Or.inl ⟨by rfl, ?_⟩) ?_ ?_
      rotate_left
      ·intro w'
       go_simp
       with_reducible rfl
      rotate_left
      ·simp only [Act.put, sT, sZ, sS, i64_w, i32_w]
       rfl
      exact norm_ (by first | (simp only [Latt.bx, Act.put, sT, sZ, sS]; done) | (simp only [Latt.bx, Act.put, sT, sZ, sS]; rfl)) (hk_ _ ⟨v499, v502, rfl, HO500, HO503⟩)
     ·subst e1_; subst e2_
      refine norm_ (a' := ?_) ?_ ?_
      rotate_left
      ·simp only [Latt.bx, Act.put, sT, sZ, sS]
       rfl
      refine pure_ (i := 5) (N := some 45) (v := ?_) (a' := ?_) #[true, true, true, true, true, true, false, false, false, true, true, false, false, false] rfl rfl (any_of HT_.out (by kernel_rfl)) (fun _ _ _ h => h) (Or.inl ⟨by rfl, ?_⟩) ?_ ?_
      rotate_left
      ·intro w'
       go_simp
       with_reducible rfl
      rotate_left
      ·simp only [Act.put, sT, sZ, sS, i64_w, i32_w]
       rfl
      refine pure_ (i := 6) (N := some 51) (v := ?_) (a' := ?_) #[true, true, true, true, true, true, true, false, false, true, true, false, false, false] rfl rfl (any_of HT_.out (by kernel_rfl)) (fun _ _ _ h => h) (Or.inl ⟨by rfl, ?_⟩) ?_ ?_
      rotate_left
      ·intro w'
       go_simp
       with_reducible rfl
      rotate_left
      ·simp only [Act.put, sT, sZ, sS, i64_w, i32_w]
       rfl
      refine pure_ (i := 7) (N := some 52) (v := ?_) (a' := ?_) #[true, true, true, true, true, true, true, true, false, true, true, false, false, false] rfl rfl (any_of HT_.out (by kernel_rfl)) (fun _ _ _ h => h) (Or.inl ⟨by rfl, ?_⟩) ?_ ?_
      rotate_left
      ·intro w'
       go_simp
       with_reducible rfl
      rotate_left
      ·simp only [Act.put, sT, sZ, sS, i64_w, i32_w]
       rfl
      refine pure_ (i := 8) (N := some 53) (v := ?_) (a' := ?_) #[true, true, true, true, true, true, true, true, true, true, true, false, false, false] rfl rfl (any_of HT_.out (by kernel_rfl)) (fun _ _ _ h => h) (Or.inl ⟨by rfl, ?_⟩) ?_ ?_
      rotate_left
      ·intro w'
       go_simp
       with_reducible rfl
      rotate_left
      ·simp only [Act.put, sT, sZ, sS, i64_w, i32_w]
       rfl
      exact norm_ (by first | (simp only [Latt.bx, Act.put, sT, sZ, sS]; done) | (simp only [Latt.bx, Act.put, sT, sZ, sS]; rfl)) (hk_ _ ⟨v499, v502, rfl, HO500, HO503⟩)
    case hfin =>
     intro ac w1_ g1_ g2_ hb_ h_ hg1_ hg2_ hne_ hx1_ hx2_
     subst hN3_
     obtain ⟨v499, v502, rfl, HO500, HO503⟩ := h_
     exact norm_ (by first | (simp only [putAll, Act.put, sT, sZ, sS]; done) | (simp only [putAll, Act.put, sT, sZ, sS]; rfl)) (hJ2_4_9_10 (v499, v502, g1_, g2_) _ ⟨hS_ _ hb_, Kd.R_mono (Kd.R_old HO460.out hb_) (fun k_ hk_ => by (have a0_ := Latt.old_ne hk_.2 (Kd.R_base HO500); exact zs hk_)), Kd.S_mono (Kd.S_old HO463.out hb_) (fun k_ hk_ => by (have a0_ := Latt.old_ne hk_.2 (Kd.R_base HO500); have a1_ := Latt.old_ne hk_.2 (Kd.S_base HO503); exact zs hk_)), Kd.R_mono (Kd.R_old HO470.out hb_) (fun k_ hk_ => by (have a0_ := Latt.old_ne hk_.2 (Kd.R_base HO500); exact zs hk_)), Kd.R_mono (Kd.R_old HO473.out hb_) (fun k_ hk_ => by (have a0_ := Latt.old_ne hk_.2 (Kd.R_base HO500); exact zs hk_)), Kd.S_mono (Kd.S_old HO476.out hb_) (fun k_ hk_ => by (have a0_ := Latt.old_ne hk_.2 (Kd.R_base HO500); have a1_ := Latt.old_ne hk_.2 (Kd.S_base HO503); exact zs hk_)), Kd.R_mono (Kd.R_old HO486.out hb_) (fun k_ hk_ => by (have a0_ := Latt.old_ne hk_.2 (Kd.R_base HO500); exact zs hk_)), Kd.S_mono (Kd.S_old HO489.out hb_) (fun k_ hk_ => by (have a0_ := Latt.old_ne hk_.2 (Kd.R_base HO500); have a1_ := Latt.old_ne hk_.2 (Kd.S_base HO503); exact zs hk_)), Kd.R_mono (Kd.R_old HO493.out hb_) (fun k_ hk_ => by (have a0_ := Latt.old_ne hk_.2 (Kd.R_base HO500); exact zs hk_)), Kd.R_lower (Kd.R_mono (Kd.R_bound HO500) (fun k_ hk_ => by (have a0_ := Kd.fresh' (Kd.R_lt HO460.out) k_ hk_.2.1; have a1_ := Kd.fresh' (Kd.R_lt HO470.out) k_ hk_.2.1; have a2_ := Kd.fresh' (Kd.R_lt HO473.out) k_ hk_.2.1; have a3_ := Kd.fresh' (Kd.R_lt HO486.out) k_ hk_.2.1; have a4_ := Kd.fresh' (Kd.R_lt HO493.out) k_ hk_.2.1; exact zs hk_))) hsz_, Kd.S_mono (Kd.S_bound HO503) (fun k_ hk_ => by (have a0_ := Kd.fresh' (Kd.R_lt HO460.out) k_ hk_.2.1; have a1_ := Kd.fresh' (Kd.S_lt HO463.out) k_ hk_.2.1; have a2_ := Kd.fresh' (Kd.R_lt HO470.out) k_ hk_.2.1; have a3_ := Kd.fresh' (Kd.R_lt HO473.out) k_ hk_.2.1; have a4_ := Kd.fresh' (Kd.S_lt HO476.out) k_ hk_.2.1; have a5_ := Kd.fresh' (Kd.R_lt HO486.out) k_ hk_.2.1; have a6_ := Kd.fresh' (Kd.S_lt HO489.out) k_ hk_.2.1; have a7_ := Kd.fresh' (Kd.R_lt HO493.out) k_ hk_.2.1; exact zs hk_)), blk_below BK455.out hb_, blk_below BK456.out hb_, blk_below BK482.out hb_, blk_below BK483.out hb_, blk_below BK490.out hb_, hx1_, hx2_, Nat.le_trans hsz_ hg1_, Nat.le_trans hsz_ hg1_, Nat.ne_of_lt (Nat.lt_of_lt_of_le (blk_lt BK455.out) hg1_), Nat.ne_of_gt (Nat.lt_of_lt_of_le (blk_lt BK455.out) hg1_), Nat.ne_of_lt (Nat.lt_of_lt_of_le (blk_lt BK456.out) hg1_), Nat.ne_of_gt (Nat.lt_of_lt_of_le (blk_lt BK456.out) hg1_), Nat.ne_of_lt (Nat.lt_of_lt_of_le (blk_lt BK482.out) hg1_), Nat.ne_of_gt (Nat.lt_of_lt_of_le (blk_lt BK482.out) hg1_), Nat.ne_of_lt (Nat.lt_of_lt_of_le (blk_lt BK483.out) hg1_), Nat.ne_of_gt (Nat.lt_of_lt_of_le (blk_lt BK483.out) hg1_), Nat.ne_of_lt (Nat.lt_of_lt_of_le (blk_lt BK490.out) hg1_), Nat.ne_of_gt (Nat.lt_of_lt_of_le (blk_lt BK490.out) hg1_), hne_.symm, hne_, Nat.le_trans hsz_ hg2_, Nat.le_trans hsz_ hg2_, Nat.ne_of_lt (Nat.lt_of_lt_of_le (blk_lt BK455.out) hg2_), Nat.ne_of_gt (Nat.lt_of_lt_of_le (blk_lt BK455.out) hg2_), Nat.ne_of_lt (Nat.lt_of_lt_of_le (blk_lt BK456.out) hg2_), Nat.ne_of_gt (Nat.lt_of_lt_of_le (blk_lt BK456.out) hg2_), Nat.ne_of_lt (Nat.lt_of_lt_of_le (blk_lt BK482.out) hg2_), Nat.ne_of_gt (Nat.lt_of_lt_of_le (blk_lt BK482.out) hg2_), Nat.ne_of_lt (Nat.lt_of_lt_of_le (blk_lt BK483.out) hg2_), Nat.ne_of_gt (Nat.lt_of_lt_of_le (blk_lt BK483.out) hg2_), Nat.ne_of_lt (Nat.lt_of_lt_of_le (blk_lt BK490.out) hg2_), Nat.ne_of_gt (Nat.lt_of_lt_of_le (blk_lt BK490.out) hg2_), below_step HB.out hb_⟩)
   rintro ⟨v499, v502, gb509, gb510⟩ w66 ⟨hS_, h0_, h1_, h2_, h3_, h4_, h5_, h6_, h7_, h8_, h9_, h10_, h11_, h12_, h13_, h14_, h15_, h16_, h17_, h18_, h19_, h20_, h21_, h22_, h23_, h24_, h25_, h26_, h27_, h28_, h29_, h30_, h31_, h32_, h33_, h34_, h35_, h36_, h37_, h38_, h39_, h40_, h41_, h42_, h43_⟩
   replace HO460 : Aside0 (Kd.R (Kd.int .u8) 5 w66 w.heap.size (fun k_ => Nb k_ v469 ∧ Nb k_ (.slice Ao39 t471.length co39) ∧ Nb k_ (.slice Ao52 t484.length co52) ∧ Nb k_ (.slice Ao60 t491.length co60) ∧ Nb k_ v499) v459 t458) := ⟨h0_⟩
   replace HO463 : Aside0 (Kd.S k96 96 w66 w.heap.size (fun k_ => Nb k_ v459 ∧ Nb k_ v469 ∧ Nb k_ (.slice Ao39 t471.length co39) ∧ Nb k_ (.slice Ao41 t474.length co41) ∧ Nb k_ (.slice Ao52 t484.length co52) ∧ Nb k_ (.slice Ao58 t487.length co58) ∧ Nb k_ (.slice Ao60 t491.length co60) ∧ Nb k_ v499 ∧ Nb k_ v502) v462 t461) := ⟨h1_⟩
   replace HO470 : Aside0 (Kd.R (Kd.int .u8) 5 w66 w.heap.size (fun k_ => Nb k_ v459 ∧ Nb k_ (.slice Ao39 t471.length co39) ∧ Nb k_ (.slice Ao52 t484.length co52) ∧ Nb k_ (.slice Ao60 t491.length co60) ∧ Nb k_ v499) v469 t468) := ⟨h2_⟩
   replace HO473 : Aside0 (Kd.R (Kd.int .u8) 5 w66 w.heap.size (fun k_ => Nb k_ v459 ∧ Nb k_ v469 ∧ Nb k_ (.slice Ao52 t484.length co52) ∧ Nb k_ (.slice Ao60 t491.length co60) ∧ Nb k_ v499) (.slice Ao39 t471.length co39) t471) := ⟨h3_⟩
   replace HO476 : Aside0 (Kd.S k96 96 w66 w.heap.size (fun k_ => Nb k_ v459 ∧ Nb k_ v462 ∧ Nb k_ v469 ∧ Nb k_ (.slice Ao39 t471.length co39) ∧ Nb k_ (.slice Ao52 t484.length co52) ∧ Nb k_ (.slice Ao58 t487.length co58) ∧ Nb k_ (.slice Ao60 t491.length co60) ∧ Nb k_ v499 ∧ Nb k_ v502 ∧ k_ < N1_ ∧ k_ < N3_) (.slice Ao41 t474.length co41) t474) := ⟨h4_⟩
   replace HO486 : Aside0 (Kd.R (Kd.int .u8) 5 w66 w.heap.size (fun k_ => Nb k_ v459 ∧ Nb k_ v469 ∧ Nb k_ (.slice Ao39 t471.length co39) ∧ Nb k_ (.slice Ao60 t491.length co60) ∧ Nb k_ v499) (.slice Ao52 t484.length co52) t484) := ⟨h5_⟩
   replace HO489 : Aside0 (Kd.S k96 96 w66 N1_ (fun k_ => Nb k_ v459 ∧ Nb k_ v462 ∧ Nb k_ v469 ∧ Nb k_ (.slice Ao39 t471.length co39) ∧ Nb k_ (.slice Ao41 t474.length co41) ∧ Nb k_ (.slice Ao52 t484.length co52) ∧ Nb k_ (.slice Ao60 t491.length co60) ∧ Nb k_ v499 ∧ Nb k_ v502 ∧ k_ < N3_) (.slice Ao58 t487.length co58) t487) := ⟨h6_⟩
   replace HO493 : Aside0 (Kd.R (Kd.int .u8) 5 w66 w.heap.size (fun k_ => Nb k_ v459 ∧ Nb k_ v469 ∧ Nb k_ (.slice Ao39 t471.length co39) ∧ Nb k_ (.slice Ao52 t484.length co52) ∧ Nb k_ v499) (.slice Ao60 t491.length co60) t491) := ⟨h7_⟩
   have HO500 : Aside0 (Kd.R (Kd.int .u8) 5 w66 w.heap.size (fun k_ => Nb k_ v459 ∧ Nb k_ v469 ∧ Nb k_ (.slice Ao39 t471.length co39) ∧ Nb k_ (.slice Ao52 t484.length co52) ∧ Nb k_ (.slice Ao60 t491.length co60)) v499 t498) := ⟨h8_⟩
   have HO503 : Aside0 (Kd.S k96 96 w66 N3_ (fun k_ => Nb k_ v459 ∧ Nb k_ v462 ∧ Nb k_ v469 ∧ Nb k_ (.slice Ao39 t471.length co39) ∧ Nb k_ (.slice Ao41 t474.length co41) ∧ Nb k_ (.slice Ao52 t484.length co52) ∧ Nb k_ (.slice Ao58 t487.length co58) ∧ Nb k_ (.slice Ao60 t491.length co60) ∧ Nb k_ v499) v502 t501) := ⟨h9_⟩
   replace BK455 : Aside0 (w66.heap[gb455]? = some (.cells #[.slice A0_0 l0_0.length c0_0, .slice A0_1 l0_1.length c0_1] 25 (0, 0))) := ⟨h10_⟩
   replace BK456 : Aside0 (w66.heap[gb456]? = some (.cells #[.int .i64 a1_0, .int .i64 a1_1, .int .i64 a1_2, .int .i64 a1_3] 27 (0, 0))) := ⟨h11_⟩
   replace BK482 : Aside0 (w66.heap[gb482]? = some (.cells #[.slice Ao39 t471.length co39, .slice Ao41 t474.length co41] 31 (0, 0))) := ⟨h12_⟩
   replace BK483 : Aside0 (w66.heap[gb483]? = some (.cells #[.int .i64 t477, .int .i64 t478, .int .i64 t479, .int .i64 t480] 32 (0, 0))) := ⟨h13_⟩
   replace BK490 : Aside0 (w66.heap[gb490]? = some (.cells #[.slice Ao52 t484.length co52, .slice Ao58 t487.length co58] 31 (0, 0))) := ⟨h14_⟩
   have BK509 : Aside0 (w66.heap[gb509]? = some (.cells #[.slice none 0 0, .slice none 0 0] 31 (0, 0))) := ⟨h15_⟩
   have BK510 : Aside0 (w66.heap[gb510]? = some (.cells #[.int .i64 0, .int .i64 0, .int .i64 0, .int .i64 0] 32 (0, 0))) := ⟨h16_⟩
   have GW509 : Aside0 (w.heap.size ≤ gb509) := ⟨h17_⟩
   have GE509 : Aside0 (w.heap.size ≤ gb509) := ⟨h18_⟩
   have NB455_509 : Aside0 (gb455 ≠ gb509) := ⟨h19_⟩
   have NB509_455 : Aside0 (gb509 ≠ gb455) := ⟨h20_⟩
   have NB456_509 : Aside0 (gb456 ≠ gb509) := ⟨h21_⟩
   have NB509_456 : Aside0 (gb509 ≠ gb456) := ⟨h22_⟩
   have NB482_509 : Aside0 (gb482 ≠ gb509) := ⟨h23_⟩
   have NB509_482 : Aside0 (gb509 ≠ gb482) := ⟨h24_⟩
   have NB483_509 : Aside0 (gb483 ≠ gb509) := ⟨h25_⟩
   have NB509_483 : Aside0 (gb509 ≠ gb483) := ⟨h26_⟩
   have NB490_509 : Aside0 (gb490 ≠ gb509) := ⟨h27_⟩
   have NB509_490 : Aside0 (gb509 ≠ gb490) := ⟨h28_⟩
   have NB510_509 : Aside0 (gb510 ≠ gb509) := ⟨h29_⟩
   have NB509_510 : Aside0 (gb509 ≠ gb510) := ⟨h30_⟩
   have GW510 : Aside0 (w.heap.size ≤ gb510) := ⟨h31_⟩
   have GE510 : Aside0 (w.heap.size ≤ gb510) := ⟨h32_⟩
   have NB455_510 : Aside0 (gb455 ≠ gb510) := ⟨h33_⟩
   have NB510_455 : Aside0 (gb510 ≠ gb455) := ⟨h34_⟩
   have NB456_510 : Aside0 (gb456 ≠ gb510) := ⟨h35_⟩
   have NB510_456 : Aside0 (gb510 ≠ gb456) := ⟨h36_⟩
   have NB482_510 : Aside0 (gb482 ≠ gb510) := ⟨h37_⟩
   have NB510_482 : Aside0 (gb510 ≠ gb482) := ⟨h38_⟩
   have NB483_510 : Aside0 (gb483 ≠ gb510) := ⟨h39_⟩
   have NB510_483 : Aside0 (gb510 ≠ gb483) := ⟨h40_⟩
   have NB490_510 : Aside0 (gb490 ≠ gb510) := ⟨h41_⟩
   have NB510_490 : Aside0 (gb510 ≠ gb490) := ⟨h42_⟩
   replace HB : Aside0 (Below w.heap.size w w66) := ⟨h43_⟩
   clear h0_ h1_ h2_ h3_ h4_ h5_ h6_ h7_ h8_ h9_ h10_ h11_ h12_ h13_ h14_ h15_ h16_ h17_ h18_ h19_ h20_ h21_ h22_ h23_ h24_ h25_ h26_ h27_ h28_ h29_ h30_ h31_ h32_ h33_ h34_ h35_ h36_ h37_ h38_ h39_ h40_ h41_ h42_ h43_
   have hHeld : w66.cell? ⟨gb490, 0, none⟩ = some (.slice Ao52 t484.length co52) ∧ w66.cell? ⟨gb490, 1, none⟩ = some (.slice Ao58 t487.length co58) ∧ w66.cell? ⟨gb456, 0, none⟩ = some (.int .i64 a1_0) ∧ w66.cell? ⟨gb456, 1, none⟩ = some (.int .i64 a1_1) ∧ w66.cell? ⟨gb456, 2, none⟩ = some (.int .i64 a1_2) ∧ w66.cell? ⟨gb456, 3, none⟩ = some (.int .i64 a1_3) := hS_
   obtain ⟨Ao67, co67, eo67⟩ := Kd.R_slice HO500.out
   (first | subst eo67 | (injection eo67 with f1_ f2_ f3_; have f4_ := f1_.symm; have f5_ := f3_.symm; clear f1_ f2_ f3_; subst f4_; subst f5_))
   obtain ⟨Ao69, co69, eo69⟩ := Kd.S_slice HO503.out
   (first | subst eo69 | (injection eo69 with f1_ f2_ f3_; have f4_ := f1_.symm; have f5_ := f3_.symm; clear f1_ f2_ f3_; subst f4_; subst f5_))
   refine norm_ (a' := ?_) ?_ ?_
   rotate_left
   ·simp only [putAll, Act.put, sT, sZ, sS]
    rfl
   refine one_ (i := 11) (N := none) #[true, true, true, true, true, true, true, true, true, true, true, true, false, false] rfl rfl (one_of HT_.out (by kernel_rfl)) (by decide) (fun K hK => ?_)
   have hs68 := zk0 BK509.out
   have hfs68 := blk_frozen BK509.out 0
   have hns68_0 := NB455_509.out
   have hns68_1 := NB456_509.out
   have hns68_2 := NB482_509.out
   have hns68_3 := NB483_509.out
   have hns68_4 := NB490_509.out
   have hns68_6 := NB510_509.out
   have hms68_0 := NB509_455.out
   have hms68_1 := NB509_456.out
   have hms68_2 := NB509_482.out
   have hms68_3 := NB509_483.out
   have hms68_4 := NB509_490.out
   have hms68_6 := NB509_510.out
   have hs70 := zk1 BK509.out
   have hfs70 := blk_frozen BK509.out 1
   refine skip_ (w1 := ?_) (by rfl) rfl ?_ ?_
   rotate_left
   ·go_simp
    rfl
   refine hK.out _ _ ⟨(zg NB490_509.out hHeld.1), (zg NB490_509.out hHeld.2.1), (zg NB456_509.out hHeld.2.2.1), (zg NB456_509.out hHeld.2.2.2.1), (zg NB456_509.out hHeld.2.2.2.2.1), (zg NB456_509.out hHeld.2.2.2.2.2)⟩ (fun hHeld => ?_)
   clear hK K
   refine one_ (i := 12) (N := none) #[true, true, true, true, true, true, true, true, true, true, true, true, true, false] rfl rfl (one_of HT_.out (by kernel_rfl)) (by decide) (fun K hK => ?_)
   have hs71 := zk0 BK510.out
   have hfs71 := blk_frozen BK510.out 0
   have hns71_0 := NB455_510.out
   have hns71_1 := NB456_510.out
   have hns71_2 := NB482_510.out
   have hns71_3 := NB483_510.out
   have hns71_4 := NB490_510.out
   have hns71_5 := NB509_510.out
   have hms71_0 := NB510_455.out
   have hms71_1 := NB510_456.out
   have hms71_2 := NB510_482.out
   have hms71_3 := NB510_483.out
   have hms71_4 := NB510_490.out
   have hms71_5 := NB510_509.out
   have hs72 := zk1 BK510.out
   have hfs72 := blk_frozen BK510.out 1
   have hs73 := zk2 BK510.out
   have hfs73 := blk_frozen BK510.out 2
   have hs74 := zk3 BK510.out
   have hfs74 := blk_frozen BK510.out 3
   refine skip_ (w1 := ?_) (by rfl) rfl ?_ ?_
   rotate_left
   ·go_simp
    rfl
   refine hK.out _ _ ⟨((cell_far (p := ⟨gb510, _, none⟩) NB490_510.out _).trans (((cell_far (p := ⟨gb510, _, none⟩) NB490_510.out _).trans ((zg NB490_510.out hHeld.1))))), ((cell_far (p := ⟨gb510, _, none⟩) NB490_510.out _).trans (((cell_far (p := ⟨gb510, _, none⟩) NB490_510.out _).trans ((zg NB490_510.out hHeld.2.1))))), ((cell_far (p := ⟨gb510, _, none⟩) NB456_510.out _).trans (((cell_far (p := ⟨gb510, _, none⟩) NB456_510.out _).trans ((zg NB456_510.out hHeld.2.2.1))))), ((cell_far (p := ⟨gb510, _, none⟩) NB456_510.out _).trans (((cell_far (p := ⟨gb510, _, none⟩) NB456_510.out _).trans ((zg NB456_510.out hHeld.2.2.2.1))))), ((cell_far (p := ⟨gb510, _, none⟩) NB456_510.out _).trans (((cell_far (p := ⟨gb510, _, none⟩) NB456_510.out _).trans ((zg NB456_510.out hHeld.2.2.2.2.1))))), ((cell_far (p := ⟨gb510, _, none⟩) NB456_510.out _).trans (((cell_far (p := ⟨gb510, _, none⟩) NB456_510.out _).trans ((zg NB456_510.out hHeld.2.2.2.2.2)))))⟩ (fun hHeld => ?_)
   clear hK K
   refine pure_ (i := 13) (N := some 15) (v := ?_) (a' := ?_) #[true, true, true, true, true, true, true, true, true, true, true, true, true, true] rfl rfl (any_of HT_.out (by kernel_rfl)) (fun _ _ _ h => h) (Or.inl ⟨by rfl, ?_⟩) ?_ ?_
   rotate_left
   ·intro w'
    go_simp
    with_reducible rfl
   rotate_left
   ·simp only [Act.put, sT, sZ, sS, i64_w, i32_w]
    rfl
   refine done_ (done_of HT_.out (by kernel_rfl)) ?_
   go_upto_region 11 with (fail)
   go_cut [68] (fun v68 wc => ∃ (kq : Nat) (x68_21 : Bool), v68 = .bool x68_21 ∧ Aside0 (laws_FnExactLogAdd.j0 kq l2 t481 t491 t508 x68_21 l0_0 l0_1 a1_0 a1_1 a1_2 a1_3 t471 t474 t477 t478 t479 t480 t484 t487 t498 t501 t504 t505 t506 t507 = some r) ∧ Aside0 (kq ≤ k) ∧ Aside0 (Kd.R (Kd.int .u8) 5 wc w.heap.size (fun k_ => some k_ ≠ ((.slice Ao39 t471.length co39) : Value).ownBlock ∧ some k_ ≠ ((.slice Ao52 t484.length co52) : Value).ownBlock ∧ some k_ ≠ ((.slice Ao67 t498.length co67) : Value).ownBlock) (.slice Ao60 t491.length co60) t491) ∧ Aside0 (Kd.R (Kd.int .u8) 5 wc w.heap.size (fun k_ => some k_ ≠ ((.slice Ao60 t491.length co60) : Value).ownBlock ∧ some k_ ≠ ((.slice Ao52 t484.length co52) : Value).ownBlock ∧ some k_ ≠ ((.slice Ao67 t498.length co67) : Value).ownBlock) (.slice Ao39 t471.length co39) t471) ∧ Aside0 (Kd.S k96 96 wc w.heap.size (fun k_ => some k_ ≠ ((.slice Ao60 t491.length co60) : Value).ownBlock ∧ some k_ ≠ ((.slice Ao39 t471.length co39) : Value).ownBlock ∧ some k_ ≠ ((.slice Ao52 t484.length co52) : Value).ownBlock ∧ some k_ ≠ ((.slice Ao58 t487.length co58) : Value).ownBlock ∧ some k_ ≠ ((.slice Ao67 t498.length co67) : Value).ownBlock ∧ some k_ ≠ ((.slice Ao69 t501.length co69) : Value).ownBlock ∧ k_ < N1_ ∧ k_ < N3_) (.slice Ao41 t474.length co41) t474) ∧ Aside0 (Kd.R (Kd.int .u8) 5 wc w.heap.size (fun k_ => some k_ ≠ ((.slice Ao60 t491.length co60) : Value).ownBlock ∧ some k_ ≠ ((.slice Ao39 t471.length co39) : Value).ownBlock ∧ some k_ ≠ ((.slice Ao67 t498.length co67) : Value).ownBlock) (.slice Ao52 t484.length co52) t484) ∧ Aside0 (Kd.S k96 96 wc N1_ (fun k_ => some k_ ≠ ((.slice Ao60 t491.length co60) : Value).ownBlock ∧ some k_ ≠ ((.slice Ao39 t471.length co39) : Value).ownBlock ∧ some k_ ≠ ((.slice Ao41 t474.length co41) : Value).ownBlock ∧ some k_ ≠ ((.slice Ao52 t484.length co52) : Value).ownBlock ∧ some k_ ≠ ((.slice Ao67 t498.length co67) : Value).ownBlock ∧ some k_ ≠ ((.slice Ao69 t501.length co69) : Value).ownBlock ∧ k_ < N3_) (.slice Ao58 t487.length co58) t487) ∧ Aside0 (Kd.R (Kd.int .u8) 5 wc w.heap.size (fun k_ => some k_ ≠ ((.slice Ao60 t491.length co60) : Value).ownBlock ∧ some k_ ≠ ((.slice Ao39 t471.length co39) : Value).ownBlock ∧ some k_ ≠ ((.slice Ao52 t484.length co52) : Value).ownBlock) (.slice Ao67 t498.length co67) t498) ∧ Aside0 (Kd.S k96 96 wc N3_ (fun k_ => some k_ ≠ ((.slice Ao60 t491.length co60) : Value).ownBlock ∧ some k_ ≠ ((.slice Ao39 t471.length co39) : Value).ownBlock ∧ some k_ ≠ ((.slice Ao41 t474.length co41) : Value).ownBlock ∧ some k_ ≠ ((.slice Ao52 t484.length co52) : Value).ownBlock ∧ some k_ ≠ ((.slice Ao58 t487.length co58) : Value).ownBlock ∧ some k_ ≠ ((.slice Ao67 t498.length co67) : Value).ownBlock) (.slice Ao69 t501.length co69) t501) ∧ Aside0 (wc.heap[gb455]? = some (.cells #[(.slice A0_0 l0_0.length c0_0), (.slice A0_1 l0_1.length c0_1)] 25 (0, 0))) ∧ Aside0 (wc.heap[gb456]? = some (.cells #[.int .i64 a1_0, .int .i64 a1_1, .int .i64 a1_2, .int .i64 a1_3] 27 (0, 0))) ∧ Aside0 (wc.heap[gb482]? = some (.cells #[(.slice Ao39 t471.length co39), (.slice Ao41 t474.length co41)] 31 (0, 0))) ∧ Aside0 (wc.heap[gb483]? = some (.cells #[.int .i64 t477, .int .i64 t478, .int .i64 t479, .int .i64 t480] 32 (0, 0))) ∧ Aside0 (wc.heap[gb490]? = some (.cells #[(.slice Ao52 t484.length co52), (.slice Ao58 t487.length co58)] 31 (0, 0))) ∧ Aside0 (wc.heap[gb509]? = some (.cells #[(.slice Ao67 t498.length co67), (.slice Ao69 t501.length co69)] 31 (0, 0))) ∧ Aside0 (wc.heap[gb510]? = some (.cells #[.int .i64 t504, .int .i64 t505, .int .i64 t506, .int .i64 t507] 32 (0, 0))) ∧ Aside0 (Below w.heap.size w wc))
   case first =>
    have H := HC22.out
    clear HC22
    replace H := Option.bind_eq_some_iff.mp H
    obtain ⟨t511, A750, H⟩ := H
    have A75 := Ak A750
    clear A750
    by_cases c76 : t511 = true
    ·subst c76
     have H1 : ((laws_eqLog.f t504 t505 t506 t507 t477 t478 t479 t480).bind fun t512 => (if t512 = true then (laws_FnExactLogAdd.j0 k l2 t481 t491 t508 (t508 != t481) l0_0 l0_1 a1_0 a1_1 a1_2 a1_3 t471 t474 t477 t478 t479 t480 t484 t487 t498 t501 t504 t505 t506 t507) else (laws_FnExactLogAdd.j0 k l2 t481 t491 t508 true l0_0 l0_1 a1_0 a1_1 a1_2 a1_3 t471 t474 t477 t478 t479 t480 t484 t487 t498 t501 t504 t505 t506 t507))) = some r := by rw [if_pos rfl] at H; exact H
     clear H
     have H := H1
     clear H1
     replace H := Option.bind_eq_some_iff.mp H
     obtain ⟨t512, A770, H⟩ := H
     have A77 := Ak A770
     clear A770
     by_cases c78 : t512 = true
     ·subst c78
      have H1 : (laws_FnExactLogAdd.j0 k l2 t481 t491 t508 (t508 != t481) l0_0 l0_1 a1_0 a1_1 a1_2 a1_3 t471 t474 t477 t478 t479 t480 t484 t487 t498 t501 t504 t505 t506 t507) = some r := by rw [if_pos rfl] at H; exact H
      clear H
      have H := H1
      clear H1
      have H' := Ak H
      clear H
      have hnb79 := NB509_455.out
      have hnc79 := NB455_509.out
      have hnb80 := NB509_456.out
      have hnc80 := NB456_509.out
      have hnb81 := NB509_482.out
      have hnc81 := NB482_509.out
      have hnb82 := NB509_483.out
      have hnc82 := NB483_509.out
      have hnb83 := NB509_490.out
      have hnc83 := NB490_509.out
      have hnb84 := NB509_510.out
      have hnc84 := NB510_509.out
      have hcz85_0 := zk0 BK509.out
      have hcz85_1 := zk1 BK509.out
      have hfz85_0 := blk_frozen BK509.out 0
      have hfz85_1 := blk_frozen BK509.out 1
      have hnb86 := NB482_455.out
      have hnc86 := NB455_482.out
      have hnb87 := NB482_456.out
      have hnc87 := NB456_482.out
      have hnb88 := NB482_483.out
      have hnc88 := NB483_482.out
      have hnb89 := NB482_490.out
      have hnc89 := NB490_482.out
      have hnb90 := NB482_510.out
      have hnc90 := NB510_482.out
      have hcz91_0 := zk0 BK482.out
      have hcz91_1 := zk1 BK482.out
      have hfz91_0 := blk_frozen BK482.out 0
      have hfz91_1 := blk_frozen BK482.out 1
      go_wp2_with (first | ((with_reducible refine gate_callee (f := 14) rfl ?_); refine goesL_ (some 56) rfl rfl Try.func14 (by kernel_rfl) rfl #[.agg #[.slice Ao67 t498.length co67, .slice Ao69 t501.length co69], .agg #[.slice Ao39 t471.length co39, .slice Ao41 t474.length co41]] rfl gm ?_; (with_reducible refine (laws_eqDisk.calls k _ _ t498 _ _ t501 _ _ t471 _ _ t474 true _ ?side1 ?side2 ?side3 ?side4 ?side5 ?side6 ?side7 ?side8 A75.out).mono ?_); (case side1 => refine (Kd.R_reads' (e := 5) (base := w.heap.size) (ok := fun k_ => (Nb k_ v459 ∧ (Nb k_ v469 ∧ (Nb k_ (.slice Ao39 t471.length co39) ∧ (Nb k_ (.slice Ao52 t484.length co52) ∧ Nb k_ (.slice Ao60 t491.length co60)))))) (n := t498.length) (c := co67) ?_).2.2; exact (by refine rq ?_; exact (Kd.R_mono (Kd.R_mono (Kd.R_far (p := ⟨gb510, 3, none⟩) (Kd.R_far (p := ⟨gb510, 2, none⟩) (Kd.R_far (p := ⟨gb510, 1, none⟩) (Kd.R_far (p := ⟨gb510, 0, none⟩) (Kd.R_far (p := ⟨gb509, 1, none⟩) (Kd.R_far (p := ⟨gb509, 0, none⟩) (Kd.R_types (Kd.R_types HO500.out BK509.out (by decide)) BK510.out (by decide)) (fun _ hk => hk.1.2) (.slice Ao67 t498.length co67)) (fun _ hk => hk.1.2) (.slice Ao69 t501.length co69)) (fun _ hk => hk.2) (.int .i64 t504)) (fun _ hk => hk.2) (.int .i64 t505)) (fun _ hk => hk.2) (.int .i64 t506)) (fun _ hk => hk.2) (.int .i64 t507)) (fun _ h_ => h_.1)) (fun _ h_ => h_.1)))); (case side2 => exact (Kd.R_reads' HO500.out).2.1); (case side3 => refine (Kd.S_reads' (e := 96) (base := N3_) (ok := fun k_ => (Nb k_ v459 ∧ (Nb k_ v462 ∧ (Nb k_ v469 ∧ (Nb k_ (.slice Ao39 t471.length co39) ∧ (Nb k_ (.slice Ao41 t474.length co41) ∧ (Nb k_ (.slice Ao52 t484.length co52) ∧ (Nb k_ (.slice Ao58 t487.length co58) ∧ (Nb k_ (.slice Ao60 t491.length co60) ∧ Nb k_ (.slice Ao67 t498.length co67)))))))))) (n := t501.length) (c := co69) ?_).2.2; exact (by refine sq ?_; exact (Kd.S_mono (Kd.S_mono (Kd.S_far (p := ⟨gb510, 3, none⟩) (Kd.S_far (p := ⟨gb510, 2, none⟩) (Kd.S_far (p := ⟨gb510, 1, none⟩) (Kd.S_far (p := ⟨gb510, 0, none⟩) (Kd.S_far (p := ⟨gb509, 1, none⟩) (Kd.S_far (p := ⟨gb509, 0, none⟩) (Kd.S_types (Kd.S_types HO503.out BK509.out (by decide)) BK510.out (by decide)) (fun _ hk => hk.1.2) (.slice Ao67 t498.length co67)) (fun _ hk => hk.1.2) (.slice Ao69 t501.length co69)) (fun _ hk => hk.2) (.int .i64 t504)) (fun _ hk => hk.2) (.int .i64 t505)) (fun _ hk => hk.2) (.int .i64 t506)) (fun _ hk => hk.2) (.int .i64 t507)) (fun _ h_ => h_.1)) (fun k_ hk_ => zs hk_)))); (case side4 => exact (Kd.S_reads' HO503.out).2.1); (case side5 => refine (Kd.R_reads' (e := 5) (base := w.heap.size) (ok := fun k_ => (Nb k_ v459 ∧ (Nb k_ v469 ∧ (Nb k_ (.slice Ao52 t484.length co52) ∧ (Nb k_ (.slice Ao60 t491.length co60) ∧ Nb k_ (.slice Ao67 t498.length co67)))))) (n := t471.length) (c := co39) ?_).2.2; exact (by refine rq ?_; exact (Kd.R_mono (Kd.R_mono (Kd.R_far (p := ⟨gb510, 3, none⟩) (Kd.R_far (p := ⟨gb510, 2, none⟩) (Kd.R_far (p := ⟨gb510, 1, none⟩) (Kd.R_far (p := ⟨gb510, 0, none⟩) (Kd.R_far (p := ⟨gb509, 1, none⟩) (Kd.R_far (p := ⟨gb509, 0, none⟩) (Kd.R_types (Kd.R_types HO473.out BK509.out (by decide)) BK510.out (by decide)) (fun _ hk => hk.1.2) (.slice Ao67 t498.length co67)) (fun _ hk => hk.1.2) (.slice Ao69 t501.length co69)) (fun _ hk => hk.2) (.int .i64 t504)) (fun _ hk => hk.2) (.int .i64 t505)) (fun _ hk => hk.2) (.int .i64 t506)) (fun _ hk => hk.2) (.int .i64 t507)) (fun _ h_ => h_.1)) (fun _ h_ => h_.1)))); (case side6 => exact (Kd.R_reads' HO473.out).2.1); (case side7 => refine (Kd.S_reads' (e := 96) (base := w.heap.size) (ok := fun k_ => (Nb k_ v459 ∧ (Nb k_ v462 ∧ (Nb k_ v469 ∧ (Nb k_ (.slice Ao39 t471.length co39) ∧ (Nb k_ (.slice Ao52 t484.length co52) ∧ (Nb k_ (.slice Ao58 t487.length co58) ∧ (Nb k_ (.slice Ao60 t491.length co60) ∧ (Nb k_ (.slice Ao67 t498.length co67) ∧ Nb k_ (.slice Ao69 t501.length co69)))))))))) (n := t474.length) (c := co41) ?_).2.2; exact (by refine sq ?_; exact (Kd.S_mono (Kd.S_mono (Kd.S_far (p := ⟨gb510, 3, none⟩) (Kd.S_far (p := ⟨gb510, 2, none⟩) (Kd.S_far (p := ⟨gb510, 1, none⟩) (Kd.S_far (p := ⟨gb510, 0, none⟩) (Kd.S_far (p := ⟨gb509, 1, none⟩) (Kd.S_far (p := ⟨gb509, 0, none⟩) (Kd.S_types (Kd.S_types HO476.out BK509.out (by decide)) BK510.out (by decide)) (fun _ hk => hk.1.2) (.slice Ao67 t498.length co67)) (fun _ hk => hk.1.2) (.slice Ao69 t501.length co69)) (fun _ hk => hk.2) (.int .i64 t504)) (fun _ hk => hk.2) (.int .i64 t505)) (fun _ hk => hk.2) (.int .i64 t506)) (fun _ hk => hk.2) (.int .i64 t507)) (fun _ h_ => h_.1)) (fun k_ hk_ => zs hk_)))); (case side8 => exact (Kd.S_reads' HO476.out).2.1); rintro e w92 ⟨rfl, hb⟩; refine ⟨_, rfl, ?_⟩; replace HO460 := Ak (Kd.R_below (by (with_reducible repeat (first | apply Kd.R_alloc | apply Kd.R_drewN | apply Kd.R_drew)); exact (Kd.R_mono (Kd.R_mono (Kd.R_far (p := ⟨gb510, 3, none⟩) (Kd.R_far (p := ⟨gb510, 2, none⟩) (Kd.R_far (p := ⟨gb510, 1, none⟩) (Kd.R_far (p := ⟨gb510, 0, none⟩) (Kd.R_far (p := ⟨gb509, 1, none⟩) (Kd.R_far (p := ⟨gb509, 0, none⟩) (Kd.R_types (Kd.R_types HO460.out BK509.out (by decide)) BK510.out (by decide)) (fun _ hk => hk.1.2) (.slice Ao67 t498.length co67)) (fun _ hk => hk.1.2) (.slice Ao69 t501.length co69)) (fun _ hk => hk.2) (.int .i64 t504)) (fun _ hk => hk.2) (.int .i64 t505)) (fun _ hk => hk.2) (.int .i64 t506)) (fun _ hk => hk.2) (.int .i64 t507)) (fun _ h_ => h_.1)) (fun _ h_ => h_.1))) hb); replace HO463 := Ak (Kd.S_below (by (with_reducible repeat (first | apply Kd.S_alloc | apply Kd.S_drewN | apply Kd.S_drew)); exact (Kd.S_mono (Kd.S_mono (Kd.S_far (p := ⟨gb510, 3, none⟩) (Kd.S_far (p := ⟨gb510, 2, none⟩) (Kd.S_far (p := ⟨gb510, 1, none⟩) (Kd.S_far (p := ⟨gb510, 0, none⟩) (Kd.S_far (p := ⟨gb509, 1, none⟩) (Kd.S_far (p := ⟨gb509, 0, none⟩) (Kd.S_types (Kd.S_types HO463.out BK509.out (by decide)) BK510.out (by decide)) (fun _ hk => hk.1.2) (.slice Ao67 t498.length co67)) (fun _ hk => hk.1.2) (.slice Ao69 t501.length co69)) (fun _ hk => hk.2) (.int .i64 t504)) (fun _ hk => hk.2) (.int .i64 t505)) (fun _ hk => hk.2) (.int .i64 t506)) (fun _ hk => hk.2) (.int .i64 t507)) (fun _ h_ => h_.1)) (fun _ h_ => h_.1))) hb); replace HO470 := Ak (Kd.R_below (by (with_reducible repeat (first | apply Kd.R_alloc | apply Kd.R_drewN | apply Kd.R_drew)); exact (Kd.R_mono (Kd.R_mono (Kd.R_far (p := ⟨gb510, 3, none⟩) (Kd.R_far (p := ⟨gb510, 2, none⟩) (Kd.R_far (p := ⟨gb510, 1, none⟩) (Kd.R_far (p := ⟨gb510, 0, none⟩) (Kd.R_far (p := ⟨gb509, 1, none⟩) (Kd.R_far (p := ⟨gb509, 0, none⟩) (Kd.R_types (Kd.R_types HO470.out BK509.out (by decide)) BK510.out (by decide)) (fun _ hk => hk.1.2) (.slice Ao67 t498.length co67)) (fun _ hk => hk.1.2) (.slice Ao69 t501.length co69)) (fun _ hk => hk.2) (.int .i64 t504)) (fun _ hk => hk.2) (.int .i64 t505)) (fun _ hk => hk.2) (.int .i64 t506)) (fun _ hk => hk.2) (.int .i64 t507)) (fun _ h_ => h_.1)) (fun _ h_ => h_.1))) hb); replace HO473 := Ak (Kd.R_below (by (with_reducible repeat (first | apply Kd.R_alloc | apply Kd.R_drewN | apply Kd.R_drew)); exact (Kd.R_mono (Kd.R_mono (Kd.R_far (p := ⟨gb510, 3, none⟩) (Kd.R_far (p := ⟨gb510, 2, none⟩) (Kd.R_far (p := ⟨gb510, 1, none⟩) (Kd.R_far (p := ⟨gb510, 0, none⟩) (Kd.R_far (p := ⟨gb509, 1, none⟩) (Kd.R_far (p := ⟨gb509, 0, none⟩) (Kd.R_types (Kd.R_types HO473.out BK509.out (by decide)) BK510.out (by decide)) (fun _ hk => hk.1.2) (.slice Ao67 t498.length co67)) (fun _ hk => hk.1.2) (.slice Ao69 t501.length co69)) (fun _ hk => hk.2) (.int .i64 t504)) (fun _ hk => hk.2) (.int .i64 t505)) (fun _ hk => hk.2) (.int .i64 t506)) (fun _ hk => hk.2) (.int .i64 t507)) (fun _ h_ => h_.1)) (fun _ h_ => h_.1))) hb); replace HO476 := Ak (Kd.S_below (by (with_reducible repeat (first | apply Kd.S_alloc | apply Kd.S_drewN | apply Kd.S_drew)); exact (Kd.S_mono (Kd.S_mono (Kd.S_far (p := ⟨gb510, 3, none⟩) (Kd.S_far (p := ⟨gb510, 2, none⟩) (Kd.S_far (p := ⟨gb510, 1, none⟩) (Kd.S_far (p := ⟨gb510, 0, none⟩) (Kd.S_far (p := ⟨gb509, 1, none⟩) (Kd.S_far (p := ⟨gb509, 0, none⟩) (Kd.S_types (Kd.S_types HO476.out BK509.out (by decide)) BK510.out (by decide)) (fun _ hk => hk.1.2) (.slice Ao67 t498.length co67)) (fun _ hk => hk.1.2) (.slice Ao69 t501.length co69)) (fun _ hk => hk.2) (.int .i64 t504)) (fun _ hk => hk.2) (.int .i64 t505)) (fun _ hk => hk.2) (.int .i64 t506)) (fun _ hk => hk.2) (.int .i64 t507)) (fun _ h_ => h_.1)) (fun _ h_ => h_.1))) hb); replace HO486 := Ak (Kd.R_below (by (with_reducible repeat (first | apply Kd.R_alloc | apply Kd.R_drewN | apply Kd.R_drew)); exact (Kd.R_mono (Kd.R_mono (Kd.R_far (p := ⟨gb510, 3, none⟩) (Kd.R_far (p := ⟨gb510, 2, none⟩) (Kd.R_far (p := ⟨gb510, 1, none⟩) (Kd.R_far (p := ⟨gb510, 0, none⟩) (Kd.R_far (p := ⟨gb509, 1, none⟩) (Kd.R_far (p := ⟨gb509, 0, none⟩) (Kd.R_types (Kd.R_types HO486.out BK509.out (by decide)) BK510.out (by decide)) (fun _ hk => hk.1.2) (.slice Ao67 t498.length co67)) (fun _ hk => hk.1.2) (.slice Ao69 t501.length co69)) (fun _ hk => hk.2) (.int .i64 t504)) (fun _ hk => hk.2) (.int .i64 t505)) (fun _ hk => hk.2) (.int .i64 t506)) (fun _ hk => hk.2) (.int .i64 t507)) (fun _ h_ => h_.1)) (fun _ h_ => h_.1))) hb); replace HO489 := Ak (Kd.S_below (by (with_reducible repeat (first | apply Kd.S_alloc | apply Kd.S_drewN | apply Kd.S_drew)); exact (Kd.S_mono (Kd.S_mono (Kd.S_far (p := ⟨gb510, 3, none⟩) (Kd.S_far (p := ⟨gb510, 2, none⟩) (Kd.S_far (p := ⟨gb510, 1, none⟩) (Kd.S_far (p := ⟨gb510, 0, none⟩) (Kd.S_far (p := ⟨gb509, 1, none⟩) (Kd.S_far (p := ⟨gb509, 0, none⟩) (Kd.S_types (Kd.S_types HO489.out BK509.out (by decide)) BK510.out (by decide)) (fun _ hk => hk.1.2) (.slice Ao67 t498.length co67)) (fun _ hk => hk.1.2) (.slice Ao69 t501.length co69)) (fun _ hk => hk.2) (.int .i64 t504)) (fun _ hk => hk.2) (.int .i64 t505)) (fun _ hk => hk.2) (.int .i64 t506)) (fun _ hk => hk.2) (.int .i64 t507)) (fun _ h_ => h_.1)) (fun _ h_ => h_.1))) hb); replace HO493 := Ak (Kd.R_below (by (with_reducible repeat (first | apply Kd.R_alloc | apply Kd.R_drewN | apply Kd.R_drew)); exact (Kd.R_mono (Kd.R_mono (Kd.R_far (p := ⟨gb510, 3, none⟩) (Kd.R_far (p := ⟨gb510, 2, none⟩) (Kd.R_far (p := ⟨gb510, 1, none⟩) (Kd.R_far (p := ⟨gb510, 0, none⟩) (Kd.R_far (p := ⟨gb509, 1, none⟩) (Kd.R_far (p := ⟨gb509, 0, none⟩) (Kd.R_types (Kd.R_types HO493.out BK509.out (by decide)) BK510.out (by decide)) (fun _ hk => hk.1.2) (.slice Ao67 t498.length co67)) (fun _ hk => hk.1.2) (.slice Ao69 t501.length co69)) (fun _ hk => hk.2) (.int .i64 t504)) (fun _ hk => hk.2) (.int .i64 t505)) (fun _ hk => hk.2) (.int .i64 t506)) (fun _ hk => hk.2) (.int .i64 t507)) (fun _ h_ => h_.1)) (fun _ h_ => h_.1))) hb); replace HO500 := Ak (Kd.R_below (by (with_reducible repeat (first | apply Kd.R_alloc | apply Kd.R_drewN | apply Kd.R_drew)); exact (Kd.R_mono (Kd.R_mono (Kd.R_far (p := ⟨gb510, 3, none⟩) (Kd.R_far (p := ⟨gb510, 2, none⟩) (Kd.R_far (p := ⟨gb510, 1, none⟩) (Kd.R_far (p := ⟨gb510, 0, none⟩) (Kd.R_far (p := ⟨gb509, 1, none⟩) (Kd.R_far (p := ⟨gb509, 0, none⟩) (Kd.R_types (Kd.R_types HO500.out BK509.out (by decide)) BK510.out (by decide)) (fun _ hk => hk.1.2) (.slice Ao67 t498.length co67)) (fun _ hk => hk.1.2) (.slice Ao69 t501.length co69)) (fun _ hk => hk.2) (.int .i64 t504)) (fun _ hk => hk.2) (.int .i64 t505)) (fun _ hk => hk.2) (.int .i64 t506)) (fun _ hk => hk.2) (.int .i64 t507)) (fun _ h_ => h_.1)) (fun _ h_ => h_.1))) hb); replace HO503 := Ak (Kd.S_below (by (with_reducible repeat (first | apply Kd.S_alloc | apply Kd.S_drewN | apply Kd.S_drew)); exact (Kd.S_mono (Kd.S_mono (Kd.S_far (p := ⟨gb510, 3, none⟩) (Kd.S_far (p := ⟨gb510, 2, none⟩) (Kd.S_far (p := ⟨gb510, 1, none⟩) (Kd.S_far (p := ⟨gb510, 0, none⟩) (Kd.S_far (p := ⟨gb509, 1, none⟩) (Kd.S_far (p := ⟨gb509, 0, none⟩) (Kd.S_types (Kd.S_types HO503.out BK509.out (by decide)) BK510.out (by decide)) (fun _ hk => hk.1.2) (.slice Ao67 t498.length co67)) (fun _ hk => hk.1.2) (.slice Ao69 t501.length co69)) (fun _ hk => hk.2) (.int .i64 t504)) (fun _ hk => hk.2) (.int .i64 t505)) (fun _ hk => hk.2) (.int .i64 t506)) (fun _ hk => hk.2) (.int .i64 t507)) (fun _ h_ => h_.1)) (fun _ h_ => h_.1))) hb); replace BK455 := Ak (blk_below (g := gb455) (o := .cells #[.slice A0_0 l0_0.length c0_0, .slice A0_1 l0_1.length c0_1] 25 (0, 0)) (by refine bq ?_; refine blk_far ?_ NB455_510.out _; refine bq ?_; refine blk_far ?_ NB455_510.out _; refine bq ?_; refine blk_far ?_ NB455_510.out _; refine bq ?_; refine blk_far ?_ NB455_510.out _; refine bq ?_; refine blk_far ?_ NB455_509.out _; refine bq ?_; refine blk_far ?_ NB455_509.out _; exact bq BK455.out) hb); replace BK456 := Ak (blk_below (g := gb456) (o := .cells #[.int .i64 a1_0, .int .i64 a1_1, .int .i64 a1_2, .int .i64 a1_3] 27 (0, 0)) (by refine bq ?_; refine blk_far ?_ NB456_510.out _; refine bq ?_; refine blk_far ?_ NB456_510.out _; refine bq ?_; refine blk_far ?_ NB456_510.out _; refine bq ?_; refine blk_far ?_ NB456_510.out _; refine bq ?_; refine blk_far ?_ NB456_509.out _; refine bq ?_; refine blk_far ?_ NB456_509.out _; exact bq BK456.out) hb); replace BK482 := Ak (blk_below (g := gb482) (o := .cells #[.slice Ao39 t471.length co39, .slice Ao41 t474.length co41] 31 (0, 0)) (by refine bq ?_; refine blk_far ?_ NB482_510.out _; refine bq ?_; refine blk_far ?_ NB482_510.out _; refine bq ?_; refine blk_far ?_ NB482_510.out _; refine bq ?_; refine blk_far ?_ NB482_510.out _; refine bq ?_; refine blk_far ?_ NB482_509.out _; refine bq ?_; refine blk_far ?_ NB482_509.out _; exact bq BK482.out) hb); replace BK483 := Ak (blk_below (g := gb483) (o := .cells #[.int .i64 t477, .int .i64 t478, .int .i64 t479, .int .i64 t480] 32 (0, 0)) (by refine bq ?_; refine blk_far ?_ NB483_510.out _; refine bq ?_; refine blk_far ?_ NB483_510.out _; refine bq ?_; refine blk_far ?_ NB483_510.out _; refine bq ?_; refine blk_far ?_ NB483_510.out _; refine bq ?_; refine blk_far ?_ NB483_509.out _; refine bq ?_; refine blk_far ?_ NB483_509.out _; exact bq BK483.out) hb); replace BK490 := Ak (blk_below (g := gb490) (o := .cells #[.slice Ao52 t484.length co52, .slice Ao58 t487.length co58] 31 (0, 0)) (by refine bq ?_; refine blk_far ?_ NB490_510.out _; refine bq ?_; refine blk_far ?_ NB490_510.out _; refine bq ?_; refine blk_far ?_ NB490_510.out _; refine bq ?_; refine blk_far ?_ NB490_510.out _; refine bq ?_; refine blk_far ?_ NB490_509.out _; refine bq ?_; refine blk_far ?_ NB490_509.out _; exact bq BK490.out) hb); replace BK509 := Ak (blk_below (g := gb509) (o := .cells #[.slice Ao67 t498.length co67, .slice Ao69 t501.length co69] 31 (0, 0)) (by refine bq ?_; refine blk_far ?_ NB509_510.out _; refine bq ?_; refine blk_far ?_ NB509_510.out _; refine bq ?_; refine blk_far ?_ NB509_510.out _; refine bq ?_; refine blk_far ?_ NB509_510.out _; refine bq ?_; refine blk_put (cs := #[.slice Ao67 t498.length co67, .slice none 0 0]) ?_ 1 _ rfl; refine bq ?_; refine blk_put (cs := #[.slice none 0 0, .slice none 0 0]) ?_ 0 _ rfl; exact bq BK509.out) hb); replace BK510 := Ak (blk_below (g := gb510) (o := .cells #[.int .i64 t504, .int .i64 t505, .int .i64 t506, .int .i64 t507] 32 (0, 0)) (by refine bq ?_; refine blk_put (cs := #[.int .i64 t504, .int .i64 t505, .int .i64 t506, .int .i64 0]) ?_ 3 _ rfl; refine bq ?_; refine blk_put (cs := #[.int .i64 t504, .int .i64 t505, .int .i64 0, .int .i64 0]) ?_ 2 _ rfl; refine bq ?_; refine blk_put (cs := #[.int .i64 t504, .int .i64 0, .int .i64 0, .int .i64 0]) ?_ 1 _ rfl; refine bq ?_; refine blk_put (cs := #[.int .i64 0, .int .i64 0, .int .i64 0, .int .i64 0]) ?_ 0 _ rfl; refine bq ?_; refine blk_far ?_ NB510_509.out _; refine bq ?_; refine blk_far ?_ NB510_509.out _; exact bq BK510.out) hb); replace HB := Ak (below_step (bw7 HB.out GE455.out GE456.out GE482.out GE483.out GE490.out GE509.out GE510.out) hb); have hnb93 := NB510_455.out; have hnc93 := NB455_510.out; have hnb94 := NB510_456.out; have hnc94 := NB456_510.out; have hnb95 := NB510_483.out; have hnc95 := NB483_510.out; have hnb96 := NB510_490.out; have hnc96 := NB490_510.out; have hcz97_0 := zk0 BK510.out; have hcz97_1 := zk1 BK510.out; have hcz97_2 := zk2 BK510.out; have hcz97_3 := zk3 BK510.out; have hfz97_0 := blk_frozen BK510.out 0; have hfz97_1 := blk_frozen BK510.out 1; have hfz97_2 := blk_frozen BK510.out 2; have hfz97_3 := blk_frozen BK510.out 3; have hnb98 := NB483_455.out; have hnc98 := NB455_483.out; have hnb99 := NB483_456.out; have hnc99 := NB456_483.out; have hnb100 := NB483_490.out; have hnc100 := NB490_483.out; have hcz101_0 := zk0 BK483.out; have hcz101_1 := zk1 BK483.out; have hcz101_2 := zk2 BK483.out; have hcz101_3 := zk3 BK483.out; have hfz101_0 := blk_frozen BK483.out 0; have hfz101_1 := blk_frozen BK483.out 1; have hfz101_2 := blk_frozen BK483.out 2; have hfz101_3 := blk_frozen BK483.out 3) | (go_at_call 15; (with_reducible refine (laws_eqLog.calls t504 t505 t506 t507 t477 t478 t479 t480 true _ A77.out).mono ?_); rintro e w102 ⟨rfl, hb⟩; replace HO460 := Ak (Kd.R_below (rq HO460.out) hb); replace HO463 := Ak (Kd.S_below (sq HO463.out) hb); replace HO470 := Ak (Kd.R_below (rq HO470.out) hb); replace HO473 := Ak (Kd.R_below (rq HO473.out) hb); replace HO476 := Ak (Kd.S_below (sq HO476.out) hb); replace HO486 := Ak (Kd.R_below (rq HO486.out) hb); replace HO489 := Ak (Kd.S_below (sq HO489.out) hb); replace HO493 := Ak (Kd.R_below (rq HO493.out) hb); replace HO500 := Ak (Kd.R_below (rq HO500.out) hb); replace HO503 := Ak (Kd.S_below (sq HO503.out) hb); replace BK455 := Ak (blk_below (bq BK455.out) hb); replace BK456 := Ak (blk_below (bq BK456.out) hb); replace BK482 := Ak (blk_below (bq BK482.out) hb); replace BK483 := Ak (blk_below (bq BK483.out) hb); replace BK490 := Ak (blk_below (bq BK490.out) hb); replace BK509 := Ak (blk_below (bq BK509.out) hb); replace BK510 := Ak (blk_below (bq BK510.out) hb); replace HB := Ak (below_step (bw7 HB.out GE455.out GE456.out GE482.out GE483.out GE490.out GE509.out GE510.out) hb)))
      go_meet
      case rel => exact ⟨_, ((t508 != t481)), (by first | rfl | (simp; done) | (simp [*]; done)), H', ⟨by first | omega | exact Nat.le_refl _⟩, ⟨by refine rq ?_; exact Kd.R_mono HO493.out (fun _ hk => ⟨hk.2.2.1, ⟨hk.2.2.2.1, hk.2.2.2.2⟩⟩)⟩, ⟨by refine rq ?_; exact Kd.R_mono HO473.out (fun _ hk => ⟨hk.2.2.2.1, ⟨hk.2.2.1, hk.2.2.2.2⟩⟩)⟩, ⟨by refine sq ?_; exact Kd.S_mono HO476.out (fun k_ hk_ => zs hk_)⟩, ⟨by refine rq ?_; exact Kd.R_mono HO486.out (fun _ hk => ⟨hk.2.2.2.1, ⟨hk.2.2.1, hk.2.2.2.2⟩⟩)⟩, ⟨by refine sq ?_; exact Kd.S_mono HO489.out (fun k_ hk_ => zs hk_)⟩, ⟨by refine rq ?_; exact Kd.R_mono HO500.out (fun _ hk => ⟨hk.2.2.2.2, ⟨hk.2.2.1, hk.2.2.2.1⟩⟩)⟩, ⟨by refine sq ?_; exact Kd.S_mono HO503.out (fun k_ hk_ => zs hk_)⟩, ⟨bq BK455.out⟩, ⟨bq BK456.out⟩, ⟨bq BK482.out⟩, ⟨bq BK483.out⟩, ⟨bq BK490.out⟩, ⟨bq BK509.out⟩, ⟨bq BK510.out⟩, ⟨bw7 HB.out GE455.out GE456.out GE482.out GE483.out GE490.out GE509.out GE510.out⟩⟩
     ·replace c78 := Bool.eq_false_iff.mpr c78
      subst c78
      have H1 : (laws_FnExactLogAdd.j0 k l2 t481 t491 t508 true l0_0 l0_1 a1_0 a1_1 a1_2 a1_3 t471 t474 t477 t478 t479 t480 t484 t487 t498 t501 t504 t505 t506 t507) = some r := by rw [if_neg (show ¬ (false = true) by decide)] at H; exact H
      clear H
      exact by (cases k with | zero => exact absurd H1 (by simp [laws_FnExactLogAdd.j0]) | succ q_ => (exact absurd ((Option.some.inj (show some false = some r from by simpa only [laws_FnExactLogAdd.j0, if_true] using H1)).trans hrt) (by decide)))
    ·replace c76 := Bool.eq_false_iff.mpr c76
     subst c76
     have H1 : (laws_FnExactLogAdd.j0 k l2 t481 t491 t508 true l0_0 l0_1 a1_0 a1_1 a1_2 a1_3 t471 t474 t477 t478 t479 t480 t484 t487 t498 t501 t504 t505 t506 t507) = some r := by rw [if_neg (show ¬ (false = true) by decide)] at H; exact H
     clear H
     exact by (cases k with | zero => exact absurd H1 (by simp [laws_FnExactLogAdd.j0]) | succ q_ => (exact absurd ((Option.some.inj (show some false = some r from by simpa only [laws_FnExactLogAdd.j0, if_true] using H1)).trans hrt) (by decide)))
   case rest =>
    clear HC22
    obtain ⟨kq, x68_21, rfl, HA, HJ21, HO_12, HO_483000, HO_483001, HO_491000, HO_491001, HO_510000, HO_510001, BK455, BK456, BK482, BK483, BK490, BK509, BK510, HB⟩ := hcut
    cases kq with
    | zero => exact absurd HA.out (by simp [laws_FnExactLogAdd.j0])
    | succ kj21 =>
     have H := HA.out
     clear HA
     simp only [laws_FnExactLogAdd.j0] at H
     by_cases c141 : x68_21 = true
     ·subst c141
      have H1 : (some false) = some r := by rw [if_pos rfl] at H; exact H
      clear H
      have H := H1
      clear H1
      exact absurd ((Option.some.inj H).trans hrt) (by decide)
     ·replace c141 := Bool.eq_false_iff.mpr c141
      subst c141
      have H1 : ((laws_toDisk.f kj21 l0_0 l0_1).bind fun bt513 => ((laws_eqDisk.f kj21 t484 t487 bt513.1 bt513.2).bind fun t519 => (if t519 = true then ((laws_toByteS.f kj21 l2).bind fun t520 => ((laws_eqByteS.f kj21 t491 t520).bind fun t523 => (if t523 = true then ((laws_markDisk.f kj21 t484 t487 1).bind fun bt524 => ((laws_markByteS.f kj21 t491 bt524.1).bind fun bt526 => (if bt526.1 < 0 then (laws_FnExactLogAdd.j1 kj21 l2 t481 true l0_0 l0_1 a1_0 a1_1 a1_2 a1_3 t471 t474 t477 t478 t479 t480 t498 t501) else ((laws_eqDisk.f kj21 t498 t501 t471 t474).bind fun t528 => (if t528 = true then ((laws_eqLog.f t504 t505 t506 t507 t477 t478 t479 t480).bind fun t529 => (if t529 = true then (laws_FnExactLogAdd.j1 kj21 l2 t481 (t508 != t481) l0_0 l0_1 a1_0 a1_1 a1_2 a1_3 t471 t474 t477 t478 t479 t480 t498 t501) else (laws_FnExactLogAdd.j1 kj21 l2 t481 true l0_0 l0_1 a1_0 a1_1 a1_2 a1_3 t471 t474 t477 t478 t479 t480 t498 t501))) else (laws_FnExactLogAdd.j1 kj21 l2 t481 true l0_0 l0_1 a1_0 a1_1 a1_2 a1_3 t471 t474 t477 t478 t479 t480 t498 t501)))))) else (some false)))) else (some false)))) = some r := by rw [if_neg (show ¬ (false = true) by decide)] at H; exact H
      clear H
      have H := H1
      clear H1
      replace H := Option.bind_eq_some_iff.mp H
      obtain ⟨⟨t513, t516⟩, A1420, H⟩ := H
      (try dsimp only at H)
      have A142 := Ak A1420
      clear A1420
      replace H := Option.bind_eq_some_iff.mp H
      obtain ⟨t519, A1430, H⟩ := H
      have A143 := Ak A1430
      clear A1430
      by_cases c144 : t519 = true
      ·subst c144
       have H1 : ((laws_toByteS.f kj21 l2).bind fun t520 => ((laws_eqByteS.f kj21 t491 t520).bind fun t523 => (if t523 = true then ((laws_markDisk.f kj21 t484 t487 1).bind fun bt524 => ((laws_markByteS.f kj21 t491 bt524.1).bind fun bt526 => (if bt526.1 < 0 then (laws_FnExactLogAdd.j1 kj21 l2 t481 true l0_0 l0_1 a1_0 a1_1 a1_2 a1_3 t471 t474 t477 t478 t479 t480 t498 t501) else ((laws_eqDisk.f kj21 t498 t501 t471 t474).bind fun t528 => (if t528 = true then ((laws_eqLog.f t504 t505 t506 t507 t477 t478 t479 t480).bind fun t529 => (if t529 = true then (laws_FnExactLogAdd.j1 kj21 l2 t481 (t508 != t481) l0_0 l0_1 a1_0 a1_1 a1_2 a1_3 t471 t474 t477 t478 t479 t480 t498 t501) else (laws_FnExactLogAdd.j1 kj21 l2 t481 true l0_0 l0_1 a1_0 a1_1 a1_2 a1_3 t471 t474 t477 t478 t479 t480 t498 t501))) else (laws_FnExactLogAdd.j1 kj21 l2 t481 true l0_0 l0_1 a1_0 a1_1 a1_2 a1_3 t471 t474 t477 t478 t479 t480 t498 t501)))))) else (some false)))) = some r := by rw [if_pos rfl] at H; exact H
       clear H
       have H := H1
       clear H1
       replace H := Option.bind_eq_some_iff.mp H
       obtain ⟨t520, A1450, H⟩ := H
       have A145 := Ak A1450
       clear A1450
       replace H := Option.bind_eq_some_iff.mp H
       obtain ⟨t523, A1460, H⟩ := H
       have A146 := Ak A1460
       clear A1460
       by_cases c147 : t523 = true
       ·subst c147
        have H1 : ((laws_markDisk.f kj21 t484 t487 1).bind fun bt524 => ((laws_markByteS.f kj21 t491 bt524.1).bind fun bt526 => (if bt526.1 < 0 then (laws_FnExactLogAdd.j1 kj21 l2 t481 true l0_0 l0_1 a1_0 a1_1 a1_2 a1_3 t471 t474 t477 t478 t479 t480 t498 t501) else ((laws_eqDisk.f kj21 t498 t501 t471 t474).bind fun t528 => (if t528 = true then ((laws_eqLog.f t504 t505 t506 t507 t477 t478 t479 t480).bind fun t529 => (if t529 = true then (laws_FnExactLogAdd.j1 kj21 l2 t481 (t508 != t481) l0_0 l0_1 a1_0 a1_1 a1_2 a1_3 t471 t474 t477 t478 t479 t480 t498 t501) else (laws_FnExactLogAdd.j1 kj21 l2 t481 true l0_0 l0_1 a1_0 a1_1 a1_2 a1_3 t471 t474 t477 t478 t479 t480 t498 t501))) else (laws_FnExactLogAdd.j1 kj21 l2 t481 true l0_0 l0_1 a1_0 a1_1 a1_2 a1_3 t471 t474 t477 t478 t479 t480 t498 t501)))))) = some r := by rw [if_pos rfl] at H; exact H
        clear H
        have H := H1
        clear H1
        replace H := Option.bind_eq_some_iff.mp H
        obtain ⟨⟨t524, t525⟩, A1480, H⟩ := H
        (try dsimp only at H)
        have A148 := Ak A1480
        clear A1480
        replace H := Option.bind_eq_some_iff.mp H
        obtain ⟨⟨t526, t527⟩, A1490, H⟩ := H
        (try dsimp only at H)
        have A149 := Ak A1490
        clear A1490
        have HC150 := Ak H
        clear H
        try go_wp2
        replace HO_12 := Ak (Kd.R_drew HO_12.out)
        replace HO_483000 := Ak (Kd.R_drew HO_483000.out)
        replace HO_483001 := Ak (Kd.S_drew HO_483001.out)
        replace HO_491000 := Ak (Kd.R_drew HO_491000.out)
        replace HO_491001 := Ak (Kd.S_drew HO_491001.out)
        replace HO_510000 := Ak (Kd.R_drew HO_510000.out)
        replace HO_510001 := Ak (Kd.S_drew HO_510001.out)
        replace BK455 := Ak (blk_drew BK455.out)
        replace BK456 := Ak (blk_drew BK456.out)
        replace BK482 := Ak (blk_drew BK482.out)
        replace BK483 := Ak (blk_drew BK483.out)
        replace BK490 := Ak (blk_drew BK490.out)
        replace BK509 := Ak (blk_drew BK509.out)
        replace BK510 := Ak (blk_drew BK510.out)
        replace HB := Ak (below_drew1 HB.out)
        refine start_ (n := 5) (S := fun w' => w'.cell? ⟨gb490, 0, none⟩ = some (.slice Ao52 t484.length co52) ∧ w'.cell? ⟨gb490, 1, none⟩ = some (.slice Ao58 t487.length co58) ∧ w'.cell? ⟨gb455, 0, none⟩ = some (.slice A0_0 l0_0.length c0_0) ∧ w'.cell? ⟨gb455, 1, none⟩ = some (.slice A0_1 l0_1.length c0_1)) (ds := []) #[false, false, false, false, false] (by kernel_rfl) rfl rfl ⟨zk0 BK490.out, zk1 BK490.out, zk0 BK455.out, zk1 BK455.out⟩ (fun hHeld => ?_)
        generalize wc.drew = w151 at HO_12 HO_483000 HO_483001 HO_491000 HO_491001 HO_510000 HO_510001 BK455 BK456 BK482 BK483 BK490 BK509 BK510 HB hHeld ⊢
        refine take_ (i := 0) (N := some 69) (v := ?_) (a' := ?_) #[true, false, false, false, false] rfl rfl (by kernel_rfl) (fun _ _ _ h => h) (Or.inl ⟨by rfl, ?_⟩) hHeld ?_ ?_
        rotate_left
        ·rintro w' ⟨s0, s1, s2, s3⟩
         go_simp
         with_reducible rfl
        rotate_left
        ·simp only [Act.put, sT, sZ, sS, i64_w, i32_w]
         rfl
        refine take_ (i := 1) (N := some 70) (v := ?_) (a' := ?_) #[true, true, false, false, false] rfl rfl (by kernel_rfl) (fun _ _ _ h => h) (Or.inl ⟨by rfl, ?_⟩) hHeld ?_ ?_
        rotate_left
        ·rintro w' ⟨s0, s1, s2, s3⟩
         go_simp
         with_reducible rfl
        rotate_left
        ·simp only [Act.put, sT, sZ, sS, i64_w, i32_w]
         rfl
        refine one_ (i := 2) (N := some 71) #[true, true, true, false, false] rfl rfl (by kernel_rfl) (by decide) (fun K hK => ?_)
        refine goes_ Try.func10 (by kernel_rfl) rfl #[.agg #[.slice A0_0 l0_0.length c0_0, .slice A0_1 l0_1.length c0_1]] (by rfl) rfl rfl gm ?_
        with_reducible refine (laws_toDisk.calls kj21 _ _ l0_0 _ _ l0_1 t513 t516 _ ?side1 ?side2 ?side3 ?side4 A142.out).mono ?_
        (case side1 => exact zq (Kd.C_below HR0_0.out HB.out))
        (case side2 => exact HC0_0.out)
        (case side3 => exact zq (Kd.C_below HR0_1.out HB.out))
        (case side4 => exact HC0_1.out)
        rintro e w152 ⟨v514, v517, rfl, ho0, ho1, hb⟩
        refine ⟨_, rfl, ?_⟩
        have HO515 := Ak (Kd.R_lower (Kd.R_new' (Kd.R_new' (Kd.R_new' (Kd.R_new' ho0 (Kd.R_lt (rq HO_12.out))) (Kd.R_lt (rq HO_483000.out))) (Kd.R_lt (rq HO_491000.out))) (Kd.R_lt (rq HO_510000.out))) (below_size (bw7 HB.out GE455.out GE456.out GE482.out GE483.out GE490.out GE509.out GE510.out)))
        have HO518 := Ak (Kd.S_lower (Kd.S_new' (Kd.S_new' (Kd.S_new' (Kd.S_new' (Kd.S_new' (Kd.S_new' (Kd.S_new' ho1 (Kd.R_lt (rq HO_12.out))) (Kd.R_lt (rq HO_483000.out))) (Kd.S_lt (sq HO_483001.out))) (Kd.R_lt (rq HO_491000.out))) (Kd.S_lt (sq HO_491001.out))) (Kd.R_lt (rq HO_510000.out))) (Kd.S_lt (sq HO_510001.out))) (below_size (bw7 HB.out GE455.out GE456.out GE482.out GE483.out GE490.out GE509.out GE510.out)))
        replace HO_12 := Ak (Kd.R_elder' (rq HO_12.out) (Kd.R_base ho0) hb)
        replace HO_483000 := Ak (Kd.R_elder' (rq HO_483000.out) (Kd.R_base ho0) hb)
        replace HO_483001 := Ak (Kd.S_mono (Kd.S_told (Kd.S_told (Kd.S_old (sq HO_483001.out) hb) (Kd.R_base ho0)) (Kd.S_base ho1)) (fun _ h_ => h_.1))
        replace HO_491000 := Ak (Kd.R_elder' (rq HO_491000.out) (Kd.R_base ho0) hb)
        replace HO_491001 := Ak (Kd.S_mono (Kd.S_told (Kd.S_told (Kd.S_old (sq HO_491001.out) hb) (Kd.R_base ho0)) (Kd.S_base ho1)) (fun _ h_ => h_.1))
        replace HO_510000 := Ak (Kd.R_elder' (rq HO_510000.out) (Kd.R_base ho0) hb)
        replace HO_510001 := Ak (Kd.S_mono (Kd.S_told (Kd.S_told (Kd.S_old (sq HO_510001.out) hb) (Kd.R_base ho0)) (Kd.S_base ho1)) (fun _ h_ => h_.1))
        replace BK455 := Ak (blk_below (bq BK455.out) hb)
        replace BK456 := Ak (blk_below (bq BK456.out) hb)
        replace BK482 := Ak (blk_below (bq BK482.out) hb)
        replace BK483 := Ak (blk_below (bq BK483.out) hb)
        replace BK490 := Ak (blk_below (bq BK490.out) hb)
        replace BK509 := Ak (blk_below (bq BK509.out) hb)
        replace BK510 := Ak (blk_below (bq BK510.out) hb)
        replace HB := Ak (below_step (bw7 HB.out GE455.out GE456.out GE482.out GE483.out GE490.out GE509.out GE510.out) hb)
        obtain ⟨Ao153, co153, eo153⟩ := Kd.R_slice HO515.out
        (first | subst eo153 | (injection eo153 with f1_ f2_ f3_; have f4_ := f1_.symm; have f5_ := f3_.symm; clear f1_ f2_ f3_; subst f4_; subst f5_))
        obtain ⟨Ao154, co154, eo154⟩ := Kd.S_slice HO518.out
        (first | subst eo154 | (injection eo154 with f1_ f2_ f3_; have f4_ := f1_.symm; have f5_ := f3_.symm; clear f1_ f2_ f3_; subst f4_; subst f5_))
        refine hK.out _ _ ⟨zk0 BK490.out, zk1 BK490.out, zk0 BK455.out, zk1 BK455.out⟩ (fun hHeld => ?_)
        clear hK K
        refine norm_ (a' := ?_) ?_ ?_
        rotate_left
        ·show Act.put _ (some 71) _ = _
         simp only [Act.put, sT, sZ, sS, i64_w, i32_w]
         rfl
        refine one_ (i := 3) (N := some 72) #[true, true, true, true, false] rfl rfl (by kernel_rfl) (by decide) (fun K hK => ?_)
        refine goes_ Try.func14 (by kernel_rfl) rfl #[.agg #[.slice Ao52 t484.length co52, .slice Ao58 t487.length co58], .agg #[.slice Ao153 t513.length co153, .slice Ao154 t516.length co154]] (by rfl) rfl rfl gm ?_
        with_reducible refine (laws_eqDisk.calls kj21 _ _ t484 _ _ t487 _ _ t513 _ _ t516 true _ ?side1 ?side2 ?side3 ?side4 ?side5 ?side6 ?side7 ?side8 A143.out).mono ?_
        (case side1 => repeat (first | exact (Kd.R_reads' HO_491000.out).2.2 | (with_reducible refine Kd.C_alloc ?_ _) | (with_reducible refine Kd.C_drewN ?_ _) | (with_reducible refine Kd.C_drew ?_)))
        (case side2 => exact (Kd.R_reads' HO_491000.out).2.1)
        (case side3 => repeat (first | exact (Kd.S_reads' HO_491001.out).2.2 | (with_reducible refine Kd.C_alloc ?_ _) | (with_reducible refine Kd.C_drewN ?_ _) | (with_reducible refine Kd.C_drew ?_)))
        (case side4 => exact (Kd.S_reads' HO_491001.out).2.1)
        (case side5 => repeat (first | exact (Kd.R_reads' HO515.out).2.2 | (with_reducible refine Kd.C_alloc ?_ _) | (with_reducible refine Kd.C_drewN ?_ _) | (with_reducible refine Kd.C_drew ?_)))
        (case side6 => exact (Kd.R_reads' HO515.out).2.1)
        (case side7 => repeat (first | exact (Kd.S_reads' HO518.out).2.2 | (with_reducible refine Kd.C_alloc ?_ _) | (with_reducible refine Kd.C_drewN ?_ _) | (with_reducible refine Kd.C_drew ?_)))
        (case side8 => exact (Kd.S_reads' HO518.out).2.1)
        rintro e w155 ⟨rfl, hb⟩
        refine ⟨_, rfl, ?_⟩
        replace HO_12 := Ak (Kd.R_below (rq HO_12.out) hb)
        replace HO_483000 := Ak (Kd.R_below (rq HO_483000.out) hb)
        replace HO_483001 := Ak (Kd.S_below (sq HO_483001.out) hb)
        replace HO_491000 := Ak (Kd.R_below (rq HO_491000.out) hb)
        replace HO_491001 := Ak (Kd.S_below (sq HO_491001.out) hb)
        replace HO_510000 := Ak (Kd.R_below (rq HO_510000.out) hb)
        replace HO_510001 := Ak (Kd.S_below (sq HO_510001.out) hb)
        replace HO515 := Ak (Kd.R_below (rq HO515.out) hb)
        replace HO518 := Ak (Kd.S_below (sq HO518.out) hb)
        replace BK455 := Ak (blk_below (bq BK455.out) hb)
        replace BK456 := Ak (blk_below (bq BK456.out) hb)
        replace BK482 := Ak (blk_below (bq BK482.out) hb)
        replace BK483 := Ak (blk_below (bq BK483.out) hb)
        replace BK490 := Ak (blk_below (bq BK490.out) hb)
        replace BK509 := Ak (blk_below (bq BK509.out) hb)
        replace BK510 := Ak (blk_below (bq BK510.out) hb)
        replace HB := Ak (below_step (bw7 HB.out GE455.out GE456.out GE482.out GE483.out GE490.out GE509.out GE510.out) hb)
        refine hK.out _ _ ⟨zk0 BK490.out, zk1 BK490.out, zk0 BK455.out, zk1 BK455.out⟩ (fun hHeld => ?_)
        clear hK K
        refine norm_ (a' := ?_) ?_ ?_
        rotate_left
        ·show Act.put _ (some 72) _ = _
         simp only [Act.put, sT, sZ, sS, i64_w, i32_w]
         rfl
        refine pure_ (i := 4) (N := some 73) (v := ?_) (a' := ?_) #[true, true, true, true, true] rfl rfl (by kernel_rfl) (fun _ _ _ h => h) (Or.inl ⟨by rfl, ?_⟩) ?_ ?_
        rotate_left
        ·intro w'
         go_simp
         with_reducible rfl
        rotate_left
        ·simp only [Act.put, sT, sZ, sS, i64_w, i32_w]
         rfl
        refine done_ (by kernel_rfl) ?_
        go_upto_region 20 with (first | ((with_reducible refine gate_callee (f := 12) rfl ?_); refine goesL_ (some 76) rfl rfl Try.func12 (by kernel_rfl) rfl #[.slice A2 l2.length c2] rfl gm ?_; (with_reducible refine (laws_toByteS.calls kj21 _ _ l2 t520 _ ?side1 ?side2 A145.out).mono ?_); (case side1 => exact zq (Kd.C_below HR2.out HB.out)); (case side2 => exact HC2.out); rintro e w156 ⟨v521, rfl, ho0, hb⟩; refine ⟨_, rfl, ?_⟩; replace HO_483001 := Ak (Kd.S_elder' (sq HO_483001.out) (Kd.R_base ho0) hb); replace HO_491001 := Ak (Kd.S_elder' (sq HO_491001.out) (Kd.R_base ho0) hb); replace HO_510001 := Ak (Kd.S_elder' (sq HO_510001.out) (Kd.R_base ho0) hb); replace HO518 := Ak (Kd.S_elder' (sq HO518.out) (Kd.R_base ho0) hb); have HO522 := Ak (Kd.R_lower (Kd.R_new' (Kd.R_new' (Kd.R_new' (Kd.R_new' (Kd.R_new' ho0 (Kd.R_lt (rq HO_12.out))) (Kd.R_lt (rq HO_483000.out))) (Kd.R_lt (rq HO_491000.out))) (Kd.R_lt (rq HO_510000.out))) (Kd.R_lt (rq HO515.out))) (below_size (bw7 HB.out GE455.out GE456.out GE482.out GE483.out GE490.out GE509.out GE510.out))); replace HO_12 := Ak (Kd.R_elder' (rq HO_12.out) (Kd.R_base ho0) hb); replace HO_483000 := Ak (Kd.R_elder' (rq HO_483000.out) (Kd.R_base ho0) hb); replace HO_491000 := Ak (Kd.R_elder' (rq HO_491000.out) (Kd.R_base ho0) hb); replace HO_510000 := Ak (Kd.R_elder' (rq HO_510000.out) (Kd.R_base ho0) hb); replace HO515 := Ak (Kd.R_elder' (rq HO515.out) (Kd.R_base ho0) hb); replace BK455 := Ak (blk_below (bq BK455.out) hb); replace BK456 := Ak (blk_below (bq BK456.out) hb); replace BK482 := Ak (blk_below (bq BK482.out) hb); replace BK483 := Ak (blk_below (bq BK483.out) hb); replace BK490 := Ak (blk_below (bq BK490.out) hb); replace BK509 := Ak (blk_below (bq BK509.out) hb); replace BK510 := Ak (blk_below (bq BK510.out) hb); replace HB := Ak (below_step (bw7 HB.out GE455.out GE456.out GE482.out GE483.out GE490.out GE509.out GE510.out) hb); obtain ⟨Ao157, co157, eo157⟩ := Kd.R_slice HO522.out; subst eo157) | ((with_reducible refine gate_callee (f := 16) rfl ?_); refine goesL_ (some 77) rfl rfl Try.func16 (by kernel_rfl) rfl #[.slice Ao60 t491.length co60, .slice Ao157 t520.length co157] rfl gm ?_; (with_reducible refine (laws_eqByteS.calls kj21 _ _ t491 _ _ t520 true _ ?side1 ?side2 ?side3 ?side4 A146.out).mono ?_); (case side1 => repeat (first | exact (Kd.R_reads' HO_12.out).2.2 | (with_reducible refine Kd.C_alloc ?_ _) | (with_reducible refine Kd.C_drewN ?_ _) | (with_reducible refine Kd.C_drew ?_))); (case side2 => exact (Kd.R_reads' HO_12.out).2.1); (case side3 => repeat (first | exact (Kd.R_reads' HO522.out).2.2 | (with_reducible refine Kd.C_alloc ?_ _) | (with_reducible refine Kd.C_drewN ?_ _) | (with_reducible refine Kd.C_drew ?_))); (case side4 => exact (Kd.R_reads' HO522.out).2.1); rintro e w' ⟨rfl, ⟨nd, rfl⟩⟩; refine ⟨_, rfl, ?_⟩; have hnb158 := NB490_455.out; have hnc158 := NB455_490.out; have hnb159 := NB490_456.out; have hnc159 := NB456_490.out; have hnb160 := NB490_482.out; have hnc160 := NB482_490.out; have hnb161 := NB490_483.out; have hnc161 := NB483_490.out; have hnb162 := NB490_509.out; have hnc162 := NB509_490.out; have hnb163 := NB490_510.out; have hnc163 := NB510_490.out; have hcz164_0 := zk0 BK490.out; have hcz164_1 := zk1 BK490.out; have hfz164_0 := blk_frozen BK490.out 0; have hfz164_1 := blk_frozen BK490.out 1) | ((with_reducible refine gate_callee (f := 17) rfl ?_); refine goesL_ (some 81) rfl rfl Try.func17 (by kernel_rfl) rfl #[.agg #[.slice Ao52 t484.length co52, .slice Ao58 t487.length co58], .int .i64 1] rfl gm ?_; (with_reducible refine (laws_markDisk.calls kj21 (fun k_ => some k_ = (.slice Ao52 t484.length co52 : Value).ownBlock) (fun k_ => Nb k_ (.slice Ao60 t491.length co60) ∧ Nb k_ (.slice Ao39 t471.length co39) ∧ Nb k_ (.slice Ao41 t474.length co41) ∧ Nb k_ (.slice Ao52 t484.length co52) ∧ Nb k_ (.slice Ao67 t498.length co67) ∧ Nb k_ (.slice Ao69 t501.length co69) ∧ Nb k_ (.slice Ao153 t513.length co153) ∧ Nb k_ (.slice Ao154 t516.length co154) ∧ Nb k_ (.slice Ao157 t520.length co157) ∧ k_ < N3_ ∧ N1_ ≤ k_) (.slice Ao52 t484.length co52) (.slice Ao58 t487.length co58) t484 t487 1 t524 t525.1 t525.2 w _ ?side1 ?side2 ?side3 ?side4 A148.out).mono ?_); (case side1 => repeat (first | (with_reducible first | exact HB.out | apply below_alloc | apply pw_below_drewN | apply below_drew1 | refine below_set ?_ GE455.out | refine below_set ?_ GE456.out | refine below_set ?_ GE482.out | refine below_set ?_ GE483.out | refine below_set ?_ GE490.out | refine below_set ?_ GE509.out | refine below_set ?_ GE510.out) | exact HB.out)); (case side2 => exact Kd.R_tight rfl HO_491000.out); (case side3 => exact Kd.S_lower (Kd.S_mono (ok' := fun k_ => Nb k_ (.slice Ao60 t491.length co60) ∧ Nb k_ (.slice Ao39 t471.length co39) ∧ Nb k_ (.slice Ao41 t474.length co41) ∧ Nb k_ (.slice Ao52 t484.length co52) ∧ Nb k_ (.slice Ao67 t498.length co67) ∧ Nb k_ (.slice Ao69 t501.length co69) ∧ Nb k_ (.slice Ao153 t513.length co153) ∧ Nb k_ (.slice Ao154 t516.length co154) ∧ Nb k_ (.slice Ao157 t520.length co157) ∧ k_ < N3_ ∧ N1_ ≤ k_) (Kd.S_bound HO_491001.out) (fun k_ hk_ => zs hk_)) LN1_.out); (case side4 => exact fun k_ hk_ => by (revert hk_; simp only [and_imp]; intros; with_reducible assumption)); rintro e w165 ⟨rfl, hy0, hyS, hyL, hb, hkp⟩; refine ⟨_, rfl, ?_⟩; replace HO_12 := Ak (Kd.R_mono (ok' := fun k_ => Nb k_ (.slice Ao39 t471.length co39) ∧ Nb k_ (.slice Ao52 t484.length co52) ∧ Nb k_ (.slice Ao67 t498.length co67) ∧ Nb k_ (.slice Ao153 t513.length co153) ∧ Nb k_ (.slice Ao157 t520.length co157)) (Kd.R_reok rfl (Kd.R_kept (Kd.R_tight rfl HO_12.out) hkp (fun k_ e_ hs_ => hs_.elim (fun hs_ => ((HO_12.out.1 k_ e_.symm).1.1.2.1) hs_) (fun hs_ => by (obtain ⟨hk_, _⟩ := hs_; revert hk_; simp only [and_imp]; intros; exact absurd e_ (by with_reducible assumption))))) (fun k_ e_ => HO_12.out.1 k_ e_)) (fun k_ hk_ => ⟨hk_.1.1.1, hk_.1.1.2.1, hk_.1.1.2.2, hk_.1.2, hk_.2⟩)); replace HO_483000 := Ak (Kd.R_mono (ok' := fun k_ => Nb k_ (.slice Ao60 t491.length co60) ∧ Nb k_ (.slice Ao52 t484.length co52) ∧ Nb k_ (.slice Ao67 t498.length co67) ∧ Nb k_ (.slice Ao153 t513.length co153) ∧ Nb k_ (.slice Ao157 t520.length co157)) (Kd.R_reok rfl (Kd.R_kept (Kd.R_tight rfl HO_483000.out) hkp (fun k_ e_ hs_ => hs_.elim (fun hs_ => ((HO_483000.out.1 k_ e_.symm).1.1.2.1) hs_) (fun hs_ => by (obtain ⟨hk_, _⟩ := hs_; revert hk_; simp only [and_imp]; intros; exact absurd e_ (by with_reducible assumption))))) (fun k_ e_ => HO_483000.out.1 k_ e_)) (fun k_ hk_ => ⟨hk_.1.1.1, hk_.1.1.2.1, hk_.1.1.2.2, hk_.1.2, hk_.2⟩)); replace HO_483001 := Ak (Kd.S_mono (ok' := fun k_ => Nb k_ (.slice Ao60 t491.length co60) ∧ Nb k_ (.slice Ao39 t471.length co39) ∧ Nb k_ (.slice Ao52 t484.length co52) ∧ Nb k_ (.slice Ao58 t487.length co58) ∧ Nb k_ (.slice Ao67 t498.length co67) ∧ Nb k_ (.slice Ao69 t501.length co69) ∧ Nb k_ (.slice Ao153 t513.length co153) ∧ Nb k_ (.slice Ao154 t516.length co154) ∧ Nb k_ (.slice Ao157 t520.length co157) ∧ k_ < N1_ ∧ k_ < N3_) (Kd.S_kept (Kd.S_mono (ok' := fun k_ => (Nb k_ (.slice Ao60 t491.length co60) ∧ Nb k_ (.slice Ao39 t471.length co39) ∧ Nb k_ (.slice Ao52 t484.length co52) ∧ Nb k_ (.slice Ao58 t487.length co58) ∧ Nb k_ (.slice Ao67 t498.length co67) ∧ Nb k_ (.slice Ao69 t501.length co69) ∧ Nb k_ (.slice Ao153 t513.length co153) ∧ Nb k_ (.slice Ao154 t516.length co154) ∧ Nb k_ (.slice Ao157 t520.length co157) ∧ k_ < N1_ ∧ k_ < N3_) ∧ w.heap.size ≤ k_) (Kd.S_bound HO_483001.out) (fun k_ hk_ => zs hk_)) hkp (fun k_ hk_ hs_ => hs_.elim (fun hs_ => by (revert hk_; simp only [and_imp]; intros; exact absurd hs_ (by with_reducible assumption))) (fun hs_ => by (obtain ⟨hq_, _⟩ := hs_; revert hk_ hq_; simp only [and_imp]; intros; exact absurd (show N1_ ≤ k_ by with_reducible assumption) (Nat.not_le_of_lt (show k_ < N1_ by with_reducible assumption)))))) (fun k_ hk_ => zs hk_)); replace HO_491001 := Ak hyS; replace HO_510000 := Ak (Kd.R_mono (ok' := fun k_ => Nb k_ (.slice Ao60 t491.length co60) ∧ Nb k_ (.slice Ao39 t471.length co39) ∧ Nb k_ (.slice Ao52 t484.length co52) ∧ Nb k_ (.slice Ao153 t513.length co153) ∧ Nb k_ (.slice Ao157 t520.length co157)) (Kd.R_reok rfl (Kd.R_kept (Kd.R_tight rfl HO_510000.out) hkp (fun k_ e_ hs_ => hs_.elim (fun hs_ => ((HO_510000.out.1 k_ e_.symm).1.1.2.2) hs_) (fun hs_ => by (obtain ⟨hk_, _⟩ := hs_; revert hk_; simp only [and_imp]; intros; exact absurd e_ (by with_reducible assumption))))) (fun k_ e_ => HO_510000.out.1 k_ e_)) (fun k_ hk_ => ⟨hk_.1.1.1, hk_.1.1.2.1, hk_.1.1.2.2, hk_.1.2, hk_.2⟩)); replace HO_510001 := Ak (Kd.S_mono (ok' := fun k_ => Nb k_ (.slice Ao60 t491.length co60) ∧ Nb k_ (.slice Ao39 t471.length co39) ∧ Nb k_ (.slice Ao41 t474.length co41) ∧ Nb k_ (.slice Ao52 t484.length co52) ∧ Nb k_ (.slice Ao58 t487.length co58) ∧ Nb k_ (.slice Ao67 t498.length co67) ∧ Nb k_ (.slice Ao153 t513.length co153) ∧ Nb k_ (.slice Ao154 t516.length co154) ∧ Nb k_ (.slice Ao157 t520.length co157)) (Kd.S_kept (Kd.S_mono (ok' := fun k_ => (Nb k_ (.slice Ao60 t491.length co60) ∧ Nb k_ (.slice Ao39 t471.length co39) ∧ Nb k_ (.slice Ao41 t474.length co41) ∧ Nb k_ (.slice Ao52 t484.length co52) ∧ Nb k_ (.slice Ao58 t487.length co58) ∧ Nb k_ (.slice Ao67 t498.length co67) ∧ Nb k_ (.slice Ao153 t513.length co153) ∧ Nb k_ (.slice Ao154 t516.length co154) ∧ Nb k_ (.slice Ao157 t520.length co157)) ∧ N3_ ≤ k_) (Kd.S_bound HO_510001.out) (fun k_ hk_ => zs hk_)) hkp (fun k_ hk_ hs_ => hs_.elim (fun hs_ => by (revert hk_; simp only [and_imp]; intros; exact absurd hs_ (by with_reducible assumption))) (fun hs_ => by (obtain ⟨hq_, _⟩ := hs_; revert hk_ hq_; simp only [and_imp]; intros; exact absurd (show N3_ ≤ k_ by with_reducible assumption) (Nat.not_le_of_lt (show k_ < N3_ by with_reducible assumption)))))) (fun k_ hk_ => zs hk_)); replace BK455 := Ak (blk_kept (by first | exact BK455.out | (exact bq BK455.out)) hkp (fun hs_ => hs_.elim (fun e_ => (Kd.R_ne HO_491000.out BK455.out (by decide)) e_) (fun h_ => RowIn.ne (by first | exact BK455.out | (exact bq BK455.out)) (by decide) h_))); replace BK456 := Ak (blk_kept (by first | exact BK456.out | (exact bq BK456.out)) hkp (fun hs_ => hs_.elim (fun e_ => (Kd.R_ne HO_491000.out BK456.out (by decide)) e_) (fun h_ => RowIn.ne (by first | exact BK456.out | (exact bq BK456.out)) (by decide) h_))); replace BK482 := Ak (blk_kept (by first | exact BK482.out | (exact bq BK482.out)) hkp (fun hs_ => hs_.elim (fun e_ => (Kd.R_ne HO_491000.out BK482.out (by decide)) e_) (fun h_ => RowIn.ne (by first | exact BK482.out | (exact bq BK482.out)) (by decide) h_))); replace BK483 := Ak (blk_kept (by first | exact BK483.out | (exact bq BK483.out)) hkp (fun hs_ => hs_.elim (fun e_ => (Kd.R_ne HO_491000.out BK483.out (by decide)) e_) (fun h_ => RowIn.ne (by first | exact BK483.out | (exact bq BK483.out)) (by decide) h_))); replace BK490 := Ak (blk_kept (by first | exact BK490.out | (exact bq BK490.out)) hkp (fun hs_ => hs_.elim (fun e_ => (Kd.R_ne HO_491000.out BK490.out (by decide)) e_) (fun h_ => RowIn.ne (by first | exact BK490.out | (exact bq BK490.out)) (by decide) h_))); replace BK509 := Ak (blk_kept (by first | exact BK509.out | (exact bq BK509.out)) hkp (fun hs_ => hs_.elim (fun e_ => (Kd.R_ne HO_491000.out BK509.out (by decide)) e_) (fun h_ => RowIn.ne (by first | exact BK509.out | (exact bq BK509.out)) (by decide) h_))); replace BK510 := Ak (blk_kept (by first | exact BK510.out | (exact bq BK510.out)) hkp (fun hs_ => hs_.elim (fun e_ => (Kd.R_ne HO_491000.out BK510.out (by decide)) e_) (fun h_ => RowIn.ne (by first | exact BK510.out | (exact bq BK510.out)) (by decide) h_))); replace HO_491000 := Ak (Kd.R_reok rfl hy0 (fun k_ e_ => HO_491000.out.1 k_ e_)); replace HO515 := Ak (Kd.R_mono (ok' := fun k_ => Nb k_ (.slice Ao60 t491.length co60) ∧ Nb k_ (.slice Ao39 t471.length co39) ∧ Nb k_ (.slice Ao52 t484.length co52) ∧ Nb k_ (.slice Ao67 t498.length co67) ∧ Nb k_ (.slice Ao157 t520.length co157)) (Kd.R_reok rfl (Kd.R_kept (Kd.R_tight rfl HO515.out) hkp (fun k_ e_ hs_ => hs_.elim (fun hs_ => ((HO515.out.1 k_ e_.symm).1.1.2) hs_) (fun hs_ => by (obtain ⟨hk_, _⟩ := hs_; revert hk_; simp only [and_imp]; intros; exact absurd e_ (by with_reducible assumption))))) (fun k_ e_ => HO515.out.1 k_ e_)) (fun k_ hk_ => ⟨hk_.1.1.1.1.2, hk_.1.1.1.2, hk_.1.1.2, hk_.1.2, hk_.2⟩)); replace HO522 := Ak (Kd.R_mono (ok' := fun k_ => Nb k_ (.slice Ao60 t491.length co60) ∧ Nb k_ (.slice Ao39 t471.length co39) ∧ Nb k_ (.slice Ao52 t484.length co52) ∧ Nb k_ (.slice Ao67 t498.length co67) ∧ Nb k_ (.slice Ao153 t513.length co153)) (Kd.R_reok rfl (Kd.R_kept (Kd.R_tight rfl HO522.out) hkp (fun k_ e_ hs_ => hs_.elim (fun hs_ => ((HO522.out.1 k_ e_.symm).1.1.2) hs_) (fun hs_ => by (obtain ⟨hk_, _⟩ := hs_; revert hk_; simp only [and_imp]; intros; exact absurd e_ (by with_reducible assumption))))) (fun k_ e_ => HO522.out.1 k_ e_)) (fun k_ hk_ => ⟨hk_.1.1.1.1.2, hk_.1.1.1.2, hk_.1.1.2, hk_.1.2, hk_.2⟩)); replace HB := Ak (hb); clear HO518; clear hb hkp hy0 hyS hyL) | ((with_reducible refine gate_callee (f := 18) rfl ?_); refine goesL_ (some 84) rfl rfl Try.func18 (by kernel_rfl) rfl #[.slice Ao60 t491.length co60, .int .i64 t524] rfl gm ?_; (with_reducible refine (laws_markByteS.calls kj21 (fun k_ => some k_ = (.slice Ao60 t491.length co60 : Value).ownBlock) (.slice Ao60 t491.length co60) t491 t524 t526 t527 w _ ?side1 ?side2 A149.out).mono ?_); (case side1 => repeat (first | (with_reducible first | exact HB.out | apply below_alloc | apply pw_below_drewN | apply below_drew1 | refine below_set ?_ GE455.out | refine below_set ?_ GE456.out | refine below_set ?_ GE482.out | refine below_set ?_ GE483.out | refine below_set ?_ GE490.out | refine below_set ?_ GE509.out | refine below_set ?_ GE510.out) | exact HB.out)); (case side2 => exact Kd.R_tight rfl HO_12.out); rintro e w166 ⟨rfl, hy0, hb, hkp⟩; refine ⟨_, rfl, ?_⟩; replace HO_483000 := Ak (Kd.R_mono (ok' := fun k_ => Nb k_ (.slice Ao60 t491.length co60) ∧ Nb k_ (.slice Ao52 t484.length co52) ∧ Nb k_ (.slice Ao67 t498.length co67) ∧ Nb k_ (.slice Ao153 t513.length co153) ∧ Nb k_ (.slice Ao157 t520.length co157)) (Kd.R_keptB (HO_483000.out) hkp (fun k_ hk_ hs_ => (hk_.1) hs_)) (fun k_ hk_ => ⟨hk_.1.1, hk_.1.2.1, hk_.1.2.2.1, hk_.1.2.2.2.1, hk_.1.2.2.2.2⟩)); replace HO_483001 := Ak (Kd.S_mono (ok' := fun k_ => Nb k_ (.slice Ao60 t491.length co60) ∧ Nb k_ (.slice Ao39 t471.length co39) ∧ Nb k_ (.slice Ao52 t484.length co52) ∧ Nb k_ (.slice Ao58 t487.length co58) ∧ Nb k_ (.slice Ao67 t498.length co67) ∧ Nb k_ (.slice Ao69 t501.length co69) ∧ Nb k_ (.slice Ao153 t513.length co153) ∧ Nb k_ (.slice Ao154 t516.length co154) ∧ Nb k_ (.slice Ao157 t520.length co157) ∧ k_ < N1_ ∧ k_ < N3_) (Kd.S_kept (HO_483001.out) hkp (fun k_ hk_ hs_ => by (revert hk_; simp only [and_imp]; intros; exact absurd hs_ (by with_reducible assumption)))) (fun k_ hk_ => zs hk_)); replace HO_491000 := Ak (Kd.R_mono (ok' := fun k_ => Nb k_ (.slice Ao60 t491.length co60) ∧ Nb k_ (.slice Ao39 t471.length co39) ∧ Nb k_ (.slice Ao67 t498.length co67) ∧ Nb k_ (.slice Ao153 t513.length co153) ∧ Nb k_ (.slice Ao157 t520.length co157)) (Kd.R_keptB (HO_491000.out) hkp (fun k_ hk_ hs_ => (hk_.1.1.1) hs_)) (fun k_ hk_ => ⟨hk_.1.1.1.1, hk_.1.1.1.2.1, hk_.1.1.1.2.2, hk_.1.1.2, hk_.1.2⟩)); replace HO_491001 := Ak (Kd.S_mono (ok' := fun k_ => Nb k_ (.slice Ao60 t491.length co60) ∧ Nb k_ (.slice Ao39 t471.length co39) ∧ Nb k_ (.slice Ao41 t474.length co41) ∧ Nb k_ (.slice Ao52 t484.length co52) ∧ Nb k_ (.slice Ao67 t498.length co67) ∧ Nb k_ (.slice Ao69 t501.length co69) ∧ Nb k_ (.slice Ao153 t513.length co153) ∧ Nb k_ (.slice Ao154 t516.length co154) ∧ Nb k_ (.slice Ao157 t520.length co157) ∧ k_ < N3_ ∧ N1_ ≤ k_) (Kd.S_kept (HO_491001.out) hkp (fun k_ hk_ hs_ => by (revert hk_; simp only [and_imp]; intros; exact absurd hs_ (by with_reducible assumption)))) (fun k_ hk_ => zs hk_)); replace HO_510000 := Ak (Kd.R_mono (ok' := fun k_ => Nb k_ (.slice Ao60 t491.length co60) ∧ Nb k_ (.slice Ao39 t471.length co39) ∧ Nb k_ (.slice Ao52 t484.length co52) ∧ Nb k_ (.slice Ao153 t513.length co153) ∧ Nb k_ (.slice Ao157 t520.length co157)) (Kd.R_keptB (HO_510000.out) hkp (fun k_ hk_ hs_ => (hk_.1) hs_)) (fun k_ hk_ => ⟨hk_.1.1, hk_.1.2.1, hk_.1.2.2.1, hk_.1.2.2.2.1, hk_.1.2.2.2.2⟩)); replace HO_510001 := Ak (Kd.S_mono (ok' := fun k_ => Nb k_ (.slice Ao60 t491.length co60) ∧ Nb k_ (.slice Ao39 t471.length co39) ∧ Nb k_ (.slice Ao41 t474.length co41) ∧ Nb k_ (.slice Ao52 t484.length co52) ∧ Nb k_ (.slice Ao58 t487.length co58) ∧ Nb k_ (.slice Ao67 t498.length co67) ∧ Nb k_ (.slice Ao153 t513.length co153) ∧ Nb k_ (.slice Ao154 t516.length co154) ∧ Nb k_ (.slice Ao157 t520.length co157)) (Kd.S_kept (HO_510001.out) hkp (fun k_ hk_ hs_ => by (revert hk_; simp only [and_imp]; intros; exact absurd hs_ (by with_reducible assumption)))) (fun k_ hk_ => zs hk_)); replace BK455 := Ak (blk_kept (by first | exact BK455.out | (exact bq BK455.out)) hkp (fun hs_ => (fun e_ => (Kd.R_ne HO_12.out BK455.out (by decide)) e_) hs_)); replace BK456 := Ak (blk_kept (by first | exact BK456.out | (exact bq BK456.out)) hkp (fun hs_ => (fun e_ => (Kd.R_ne HO_12.out BK456.out (by decide)) e_) hs_)); replace BK482 := Ak (blk_kept (by first | exact BK482.out | (exact bq BK482.out)) hkp (fun hs_ => (fun e_ => (Kd.R_ne HO_12.out BK482.out (by decide)) e_) hs_)); replace BK483 := Ak (blk_kept (by first | exact BK483.out | (exact bq BK483.out)) hkp (fun hs_ => (fun e_ => (Kd.R_ne HO_12.out BK483.out (by decide)) e_) hs_)); replace BK490 := Ak (blk_kept (by first | exact BK490.out | (exact bq BK490.out)) hkp (fun hs_ => (fun e_ => (Kd.R_ne HO_12.out BK490.out (by decide)) e_) hs_)); replace BK509 := Ak (blk_kept (by first | exact BK509.out | (exact bq BK509.out)) hkp (fun hs_ => (fun e_ => (Kd.R_ne HO_12.out BK509.out (by decide)) e_) hs_)); replace BK510 := Ak (blk_kept (by first | exact BK510.out | (exact bq BK510.out)) hkp (fun hs_ => (fun e_ => (Kd.R_ne HO_12.out BK510.out (by decide)) e_) hs_)); replace HO_12 := Ak (Kd.R_reok rfl hy0 (fun k_ e_ => HO_12.out.1 k_ e_)); replace HO515 := Ak (Kd.R_mono (ok' := fun k_ => Nb k_ (.slice Ao60 t491.length co60) ∧ Nb k_ (.slice Ao39 t471.length co39) ∧ Nb k_ (.slice Ao52 t484.length co52) ∧ Nb k_ (.slice Ao67 t498.length co67) ∧ Nb k_ (.slice Ao157 t520.length co157)) (Kd.R_keptB (HO515.out) hkp (fun k_ hk_ hs_ => (hk_.1) hs_)) (fun k_ hk_ => ⟨hk_.1.1, hk_.1.2.1, hk_.1.2.2.1, hk_.1.2.2.2.1, hk_.1.2.2.2.2⟩)); replace HO522 := Ak (Kd.R_mono (ok' := fun k_ => Nb k_ (.slice Ao60 t491.length co60) ∧ Nb k_ (.slice Ao39 t471.length co39) ∧ Nb k_ (.slice Ao52 t484.length co52) ∧ Nb k_ (.slice Ao67 t498.length co67) ∧ Nb k_ (.slice Ao153 t513.length co153)) (Kd.R_keptB (HO522.out) hkp (fun k_ hk_ hs_ => (hk_.1) hs_)) (fun k_ hk_ => ⟨hk_.1.1, hk_.1.2.1, hk_.1.2.2.1, hk_.1.2.2.2.1, hk_.1.2.2.2.2⟩)); replace HB := Ak (hb)))
        (try simp only [Act.put, sT, sZ, sS])
        go_cut [103] (fun v103 wc => ∃ (kq : Nat) (x103_149 : Bool), v103 = .bool x103_149 ∧ Aside0 (laws_FnExactLogAdd.j1 kq l2 t481 x103_149 l0_0 l0_1 a1_0 a1_1 a1_2 a1_3 t471 t474 t477 t478 t479 t480 t498 t501 = some r) ∧ Aside0 (kq ≤ kj21) ∧ Aside0 (Kd.R (Kd.int .u8) 5 wc w.heap.size (fun k_ => some k_ ≠ ((.slice Ao52 t484.length co52) : Value).ownBlock ∧ some k_ ≠ ((.slice Ao67 t498.length co67) : Value).ownBlock) (.slice Ao39 t471.length co39) t471) ∧ Aside0 (Kd.S k96 96 wc w.heap.size (fun k_ => some k_ ≠ ((.slice Ao39 t471.length co39) : Value).ownBlock ∧ some k_ ≠ ((.slice Ao52 t484.length co52) : Value).ownBlock ∧ some k_ ≠ ((.slice Ao58 t487.length co58) : Value).ownBlock ∧ some k_ ≠ ((.slice Ao67 t498.length co67) : Value).ownBlock ∧ some k_ ≠ ((.slice Ao69 t501.length co69) : Value).ownBlock ∧ k_ < N1_ ∧ k_ < N3_) (.slice Ao41 t474.length co41) t474) ∧ Aside0 (Kd.R (Kd.int .u8) 5 wc w.heap.size (fun k_ => some k_ ≠ ((.slice Ao39 t471.length co39) : Value).ownBlock ∧ some k_ ≠ ((.slice Ao67 t498.length co67) : Value).ownBlock) (.slice Ao52 t484.length co52) t525.1) ∧ Aside0 (Kd.S k96 96 wc w.heap.size (fun k_ => some k_ ≠ ((.slice Ao39 t471.length co39) : Value).ownBlock ∧ some k_ ≠ ((.slice Ao41 t474.length co41) : Value).ownBlock ∧ some k_ ≠ ((.slice Ao52 t484.length co52) : Value).ownBlock ∧ some k_ ≠ ((.slice Ao67 t498.length co67) : Value).ownBlock ∧ some k_ ≠ ((.slice Ao69 t501.length co69) : Value).ownBlock ∧ k_ < N3_ ∧ N1_ ≤ k_) (.slice Ao58 t487.length co58) t525.2) ∧ Aside0 (Kd.R (Kd.int .u8) 5 wc w.heap.size (fun k_ => some k_ ≠ ((.slice Ao39 t471.length co39) : Value).ownBlock ∧ some k_ ≠ ((.slice Ao52 t484.length co52) : Value).ownBlock) (.slice Ao67 t498.length co67) t498) ∧ Aside0 (Kd.S k96 96 wc N3_ (fun k_ => some k_ ≠ ((.slice Ao39 t471.length co39) : Value).ownBlock ∧ some k_ ≠ ((.slice Ao41 t474.length co41) : Value).ownBlock ∧ some k_ ≠ ((.slice Ao52 t484.length co52) : Value).ownBlock ∧ some k_ ≠ ((.slice Ao58 t487.length co58) : Value).ownBlock ∧ some k_ ≠ ((.slice Ao67 t498.length co67) : Value).ownBlock) (.slice Ao69 t501.length co69) t501) ∧ Aside0 (wc.heap[gb455]? = some (.cells #[(.slice A0_0 l0_0.length c0_0), (.slice A0_1 l0_1.length c0_1)] 25 (0, 0))) ∧ Aside0 (wc.heap[gb456]? = some (.cells #[.int .i64 a1_0, .int .i64 a1_1, .int .i64 a1_2, .int .i64 a1_3] 27 (0, 0))) ∧ Aside0 (wc.heap[gb482]? = some (.cells #[(.slice Ao39 t471.length co39), (.slice Ao41 t474.length co41)] 31 (0, 0))) ∧ Aside0 (wc.heap[gb483]? = some (.cells #[.int .i64 t477, .int .i64 t478, .int .i64 t479, .int .i64 t480] 32 (0, 0))) ∧ Aside0 (wc.heap[gb490]? = some (.cells #[(.slice Ao52 t484.length co52), (.slice Ao58 t487.length co58)] 31 (0, 0))) ∧ Aside0 (wc.heap[gb509]? = some (.cells #[(.slice Ao67 t498.length co67), (.slice Ao69 t501.length co69)] 31 (0, 0))) ∧ Aside0 (wc.heap[gb510]? = some (.cells #[.int .i64 t504, .int .i64 t505, .int .i64 t506, .int .i64 t507] 32 (0, 0))) ∧ Aside0 (Below w.heap.size w wc))
        case first =>
         have H := HC150.out
         clear HC150
         by_cases c167 : t526 < 0
         ·rw [if_pos c167] at H
          have c167b0 : decide (t526 < 0) = true := decide_eq_true c167
          clear c167
          (first | rw [c167b0] | (simp only [i64_w, i32_w]; rw [c167b0]) | skip)
          have H' := Ak H
          clear H
          go_wp2
          go_meet
          case rel => exact ⟨_, (true), (by first | rfl | (simp; done) | (simp [*]; done)), H', ⟨by have := HJ21.out; first | omega | exact Nat.le_refl _⟩, ⟨by refine rq ?_; exact Kd.R_mono HO_483000.out (fun _ hk => ⟨hk.2.1, hk.2.2.1⟩)⟩, ⟨by refine sq ?_; exact Kd.S_mono HO_483001.out (fun k_ hk_ => zs hk_)⟩, ⟨by refine rq ?_; exact Kd.R_mono HO_491000.out (fun _ hk => ⟨hk.2.1, hk.2.2.1⟩)⟩, ⟨by refine sq ?_; exact Kd.S_mono HO_491001.out (fun k_ hk_ => zs hk_)⟩, ⟨by refine rq ?_; exact Kd.R_mono HO_510000.out (fun _ hk => ⟨hk.2.1, hk.2.2.1⟩)⟩, ⟨by refine sq ?_; exact Kd.S_mono HO_510001.out (fun k_ hk_ => zs hk_)⟩, ⟨bq BK455.out⟩, ⟨bq BK456.out⟩, ⟨bq BK482.out⟩, ⟨bq BK483.out⟩, ⟨bq BK490.out⟩, ⟨bq BK509.out⟩, ⟨bq BK510.out⟩, ⟨bw7 HB.out GE455.out GE456.out GE482.out GE483.out GE490.out GE509.out GE510.out⟩⟩
         ·rw [if_neg c167] at H
          have c167b0 : decide (t526 < 0) = false := decide_eq_false c167
          clear c167
          (first | rw [c167b0] | (simp only [i64_w, i32_w]; rw [c167b0]) | skip)
          replace H := Option.bind_eq_some_iff.mp H
          obtain ⟨t528, A1680, H⟩ := H
          have A168 := Ak A1680
          clear A1680
          by_cases c169 : t528 = true
          ·subst c169
           have H1 : ((laws_eqLog.f t504 t505 t506 t507 t477 t478 t479 t480).bind fun t529 => (if t529 = true then (laws_FnExactLogAdd.j1 kj21 l2 t481 (t508 != t481) l0_0 l0_1 a1_0 a1_1 a1_2 a1_3 t471 t474 t477 t478 t479 t480 t498 t501) else (laws_FnExactLogAdd.j1 kj21 l2 t481 true l0_0 l0_1 a1_0 a1_1 a1_2 a1_3 t471 t474 t477 t478 t479 t480 t498 t501))) = some r := by rw [if_pos rfl] at H; exact H
           clear H
           have H := H1
           clear H1
           replace H := Option.bind_eq_some_iff.mp H
           obtain ⟨t529, A1700, H⟩ := H
           have A170 := Ak A1700
           clear A1700
           by_cases c171 : t529 = true
           ·subst c171
            have H1 : (laws_FnExactLogAdd.j1 kj21 l2 t481 (t508 != t481) l0_0 l0_1 a1_0 a1_1 a1_2 a1_3 t471 t474 t477 t478 t479 t480 t498 t501) = some r := by rw [if_pos rfl] at H; exact H
            clear H
            have H := H1
            clear H1
            have H' := Ak H
            clear H
            have hnb172 := NB509_455.out
            have hnc172 := NB455_509.out
            have hnb173 := NB509_456.out
            have hnc173 := NB456_509.out
            have hnb174 := NB509_482.out
            have hnc174 := NB482_509.out
            have hnb175 := NB509_483.out
            have hnc175 := NB483_509.out
            have hnb176 := NB509_490.out
            have hnc176 := NB490_509.out
            have hnb177 := NB509_510.out
            have hnc177 := NB510_509.out
            have hcz178_0 := zk0 BK509.out
            have hcz178_1 := zk1 BK509.out
            have hfz178_0 := blk_frozen BK509.out 0
            have hfz178_1 := blk_frozen BK509.out 1
            have hnb179 := NB482_455.out
            have hnc179 := NB455_482.out
            have hnb180 := NB482_456.out
            have hnc180 := NB456_482.out
            have hnb181 := NB482_483.out
            have hnc181 := NB483_482.out
            have hnb182 := NB482_490.out
            have hnc182 := NB490_482.out
            have hnb183 := NB482_510.out
            have hnc183 := NB510_482.out
            have hcz184_0 := zk0 BK482.out
            have hcz184_1 := zk1 BK482.out
            have hfz184_0 := blk_frozen BK482.out 0
            have hfz184_1 := blk_frozen BK482.out 1
            go_wp2_with (first | (go_at_call 14; (with_reducible refine (laws_eqDisk.calls kj21 _ _ t498 _ _ t501 _ _ t471 _ _ t474 true _ ?side1 ?side2 ?side3 ?side4 ?side5 ?side6 ?side7 ?side8 A168.out).mono ?_); (case side1 => repeat (first | exact (Kd.R_reads' HO_510000.out).2.2 | (with_reducible refine Kd.C_alloc ?_ _) | (with_reducible refine Kd.C_drewN ?_ _) | (with_reducible refine Kd.C_drew ?_))); (case side2 => exact (Kd.R_reads' HO_510000.out).2.1); (case side3 => repeat (first | exact (Kd.S_reads' HO_510001.out).2.2 | (with_reducible refine Kd.C_alloc ?_ _) | (with_reducible refine Kd.C_drewN ?_ _) | (with_reducible refine Kd.C_drew ?_))); (case side4 => exact (Kd.S_reads' HO_510001.out).2.1); (case side5 => repeat (first | exact (Kd.R_reads' HO_483000.out).2.2 | (with_reducible refine Kd.C_alloc ?_ _) | (with_reducible refine Kd.C_drewN ?_ _) | (with_reducible refine Kd.C_drew ?_))); (case side6 => exact (Kd.R_reads' HO_483000.out).2.1); (case side7 => repeat (first | exact (Kd.S_reads' HO_483001.out).2.2 | (with_reducible refine Kd.C_alloc ?_ _) | (with_reducible refine Kd.C_drewN ?_ _) | (with_reducible refine Kd.C_drew ?_))); (case side8 => exact (Kd.S_reads' HO_483001.out).2.1); rintro e w185 ⟨rfl, hb⟩; replace HO_12 := Ak (Kd.R_below (rq HO_12.out) hb); replace HO_483000 := Ak (Kd.R_below (rq HO_483000.out) hb); replace HO_483001 := Ak (Kd.S_below (sq HO_483001.out) hb); replace HO_491000 := Ak (Kd.R_below (rq HO_491000.out) hb); replace HO_491001 := Ak (Kd.S_below (sq HO_491001.out) hb); replace HO_510000 := Ak (Kd.R_below (rq HO_510000.out) hb); replace HO_510001 := Ak (Kd.S_below (sq HO_510001.out) hb); replace HO515 := Ak (Kd.R_below (rq HO515.out) hb); replace HO522 := Ak (Kd.R_below (rq HO522.out) hb); replace BK455 := Ak (blk_below (bq BK455.out) hb); replace BK456 := Ak (blk_below (bq BK456.out) hb); replace BK482 := Ak (blk_below (bq BK482.out) hb); replace BK483 := Ak (blk_below (bq BK483.out) hb); replace BK490 := Ak (blk_below (bq BK490.out) hb); replace BK509 := Ak (blk_below (bq BK509.out) hb); replace BK510 := Ak (blk_below (bq BK510.out) hb); replace HB := Ak (below_step (bw7 HB.out GE455.out GE456.out GE482.out GE483.out GE490.out GE509.out GE510.out) hb); have hnb186 := NB510_455.out; have hnc186 := NB455_510.out; have hnb187 := NB510_456.out; have hnc187 := NB456_510.out; have hnb188 := NB510_483.out; have hnc188 := NB483_510.out; have hnb189 := NB510_490.out; have hnc189 := NB490_510.out; have hcz190_0 := zk0 BK510.out; have hcz190_1 := zk1 BK510.out; have hcz190_2 := zk2 BK510.out; have hcz190_3 := zk3 BK510.out; have hfz190_0 := blk_frozen BK510.out 0; have hfz190_1 := blk_frozen BK510.out 1; have hfz190_2 := blk_frozen BK510.out 2; have hfz190_3 := blk_frozen BK510.out 3; have hnb191 := NB483_455.out; have hnc191 := NB455_483.out; have hnb192 := NB483_456.out; have hnc192 := NB456_483.out; have hnb193 := NB483_490.out; have hnc193 := NB490_483.out; have hcz194_0 := zk0 BK483.out; have hcz194_1 := zk1 BK483.out; have hcz194_2 := zk2 BK483.out; have hcz194_3 := zk3 BK483.out; have hfz194_0 := blk_frozen BK483.out 0; have hfz194_1 := blk_frozen BK483.out 1; have hfz194_2 := blk_frozen BK483.out 2; have hfz194_3 := blk_frozen BK483.out 3) | (go_at_call 15; (with_reducible refine (laws_eqLog.calls t504 t505 t506 t507 t477 t478 t479 t480 true _ A170.out).mono ?_); rintro e w195 ⟨rfl, hb⟩; replace HO_12 := Ak (Kd.R_below (rq HO_12.out) hb); replace HO_483000 := Ak (Kd.R_below (rq HO_483000.out) hb); replace HO_483001 := Ak (Kd.S_below (sq HO_483001.out) hb); replace HO_491000 := Ak (Kd.R_below (rq HO_491000.out) hb); replace HO_491001 := Ak (Kd.S_below (sq HO_491001.out) hb); replace HO_510000 := Ak (Kd.R_below (rq HO_510000.out) hb); replace HO_510001 := Ak (Kd.S_below (sq HO_510001.out) hb); replace HO515 := Ak (Kd.R_below (rq HO515.out) hb); replace HO522 := Ak (Kd.R_below (rq HO522.out) hb); replace BK455 := Ak (blk_below (bq BK455.out) hb); replace BK456 := Ak (blk_below (bq BK456.out) hb); replace BK482 := Ak (blk_below (bq BK482.out) hb); replace BK483 := Ak (blk_below (bq BK483.out) hb); replace BK490 := Ak (blk_below (bq BK490.out) hb); replace BK509 := Ak (blk_below (bq BK509.out) hb); replace BK510 := Ak (blk_below (bq BK510.out) hb); replace HB := Ak (below_step (bw7 HB.out GE455.out GE456.out GE482.out GE483.out GE490.out GE509.out GE510.out) hb)))
            go_meet
            case rel => exact ⟨_, ((t508 != t481)), (by first | rfl | (simp; done) | (simp [*]; done)), H', ⟨by have := HJ21.out; first | omega | exact Nat.le_refl _⟩, ⟨by refine rq ?_; exact Kd.R_mono HO_483000.out (fun _ hk => ⟨hk.2.1, hk.2.2.1⟩)⟩, ⟨by refine sq ?_; exact Kd.S_mono HO_483001.out (fun k_ hk_ => zs hk_)⟩, ⟨by refine rq ?_; exact Kd.R_mono HO_491000.out (fun _ hk => ⟨hk.2.1, hk.2.2.1⟩)⟩, ⟨by refine sq ?_; exact Kd.S_mono HO_491001.out (fun k_ hk_ => zs hk_)⟩, ⟨by refine rq ?_; exact Kd.R_mono HO_510000.out (fun _ hk => ⟨hk.2.1, hk.2.2.1⟩)⟩, ⟨by refine sq ?_; exact Kd.S_mono HO_510001.out (fun k_ hk_ => zs hk_)⟩, ⟨bq BK455.out⟩, ⟨bq BK456.out⟩, ⟨bq BK482.out⟩, ⟨bq BK483.out⟩, ⟨bq BK490.out⟩, ⟨bq BK509.out⟩, ⟨bq BK510.out⟩, ⟨bw7 HB.out GE455.out GE456.out GE482.out GE483.out GE490.out GE509.out GE510.out⟩⟩
           ·replace c171 := Bool.eq_false_iff.mpr c171
            subst c171
            have H1 : (laws_FnExactLogAdd.j1 kj21 l2 t481 true l0_0 l0_1 a1_0 a1_1 a1_2 a1_3 t471 t474 t477 t478 t479 t480 t498 t501) = some r := by rw [if_neg (show ¬ (false = true) by decide)] at H; exact H
            clear H
            exact by (cases kj21 with | zero => exact absurd H1 (by simp [laws_FnExactLogAdd.j1]) | succ q_ => (exact absurd ((Option.some.inj (show some false = some r from by simpa only [laws_FnExactLogAdd.j1, if_true] using H1)).trans hrt) (by decide)))
          ·replace c169 := Bool.eq_false_iff.mpr c169
           subst c169
           have H1 : (laws_FnExactLogAdd.j1 kj21 l2 t481 true l0_0 l0_1 a1_0 a1_1 a1_2 a1_3 t471 t474 t477 t478 t479 t480 t498 t501) = some r := by rw [if_neg (show ¬ (false = true) by decide)] at H; exact H
           clear H
           exact by (cases kj21 with | zero => exact absurd H1 (by simp [laws_FnExactLogAdd.j1]) | succ q_ => (exact absurd ((Option.some.inj (show some false = some r from by simpa only [laws_FnExactLogAdd.j1, if_true] using H1)).trans hrt) (by decide)))
        case rest =>
         clear HC150
         try clear c167b0
         obtain ⟨kq, x103_149, rfl, HA, HJ149, HO_483000, HO_483001, HO_491000, HO_491001, HO_510000, HO_510001, BK455, BK456, BK482, BK483, BK490, BK509, BK510, HB⟩ := hcut
         have hl491000_149 := (Kd.R_reads' HO_491000.out).1
         rw [hl491000_149] at HO_491000
         (try simp only [hl491000_149])
         (try simp only [hl491000_149] at BK455)
         (try simp only [hl491000_149] at BK456)
         (try simp only [hl491000_149] at BK482)
         (try simp only [hl491000_149] at BK483)
         (try simp only [hl491000_149] at BK490)
         (try simp only [hl491000_149] at BK509)
         (try simp only [hl491000_149] at BK510)
         (try simp only [hl491000_149] at HO_483000)
         (try simp only [hl491000_149] at HO_483001)
         (try simp only [hl491000_149] at HO_491001)
         (try simp only [hl491000_149] at HO_510000)
         (try simp only [hl491000_149] at HO_510001)
         cases kq with
         | zero => exact absurd HA.out (by simp [laws_FnExactLogAdd.j1])
         | succ kj149 =>
          have H := HA.out
          clear HA
          simp only [laws_FnExactLogAdd.j1] at H
          by_cases c234 : x103_149 = true
          ·subst c234
           have H1 : (some false) = some r := by rw [if_pos rfl] at H; exact H
           clear H
           have H := H1
           clear H1
           exact absurd ((Option.some.inj H).trans hrt) (by decide)
          ·replace c234 := Bool.eq_false_iff.mpr c234
           subst c234
           have H1 : ((laws_markDisk.f kj149 t498 t501 1).bind fun bt530 => ((laws_heldDisk.f kj149 bt530.2.1 bt530.2.2 1).bind fun t532 => (if t532 < 0 then (some false) else (if t532 = bt530.1 then ((laws_toDisk.f kj149 l0_0 l0_1).bind fun bt533 => ((laws_toLog.f a1_0 a1_1 a1_2 a1_3).bind fun bt539 => ((laws_toByteS.f kj149 l2).bind fun t543 => ((impl_LogAdd.f kj149 bt533.1 bt533.2 bt539.1 bt539.2.1 bt539.2.2.1 bt539.2.2.2 t543).bind fun bt546 => ((laws_eqDisk.f kj149 bt546.1 bt546.2.1 t471 t474).bind fun t559 => (if t559 = true then ((laws_eqLog.f bt546.2.2.1 bt546.2.2.2.1 bt546.2.2.2.2.1 bt546.2.2.2.2.2.1 t477 t478 t479 t480).bind fun t560 => (if t560 = true then (laws_FnExactLogAdd.j2 kj149 bt530.1 (bt546.2.2.2.2.2.2 != t481) bt530.2.1 bt530.2.2) else (laws_FnExactLogAdd.j2 kj149 bt530.1 true bt530.2.1 bt530.2.2))) else (laws_FnExactLogAdd.j2 kj149 bt530.1 true bt530.2.1 bt530.2.2))))))) else (some false))))) = some r := by rw [if_neg (show ¬ (false = true) by decide)] at H; exact H
           clear H
           have H := H1
           clear H1
           replace H := Option.bind_eq_some_iff.mp H
           obtain ⟨⟨t530, t531⟩, A2350, H⟩ := H
           (try dsimp only at H)
           have A235 := Ak A2350
           clear A2350
           replace H := Option.bind_eq_some_iff.mp H
           obtain ⟨t532, A2360, H⟩ := H
           have A236 := Ak A2360
           clear A2360
           by_cases c237 : t532 < 0
           ·rw [if_pos c237] at H
            have c237b0 : decide (t532 < 0) = true := decide_eq_true c237
            clear c237
            exact absurd ((Option.some.inj H).trans hrt) (by decide)
           ·rw [if_neg c237] at H
            have c237b0 : decide (t532 < 0) = false := decide_eq_false c237
            clear c237
            by_cases c248 : t532 = t530
            ·rw [if_pos c248] at H
             have c248b0 : (t532 == t530) = true := beq_iff_eq.mpr c248
             have c248b1 : (t532 != t530) = false := bne_eq_false_iff_eq.mpr c248
             clear c248
             replace H := Option.bind_eq_some_iff.mp H
             obtain ⟨⟨t533, t536⟩, A2490, H⟩ := H
             (try dsimp only at H)
             have A249 := Ak A2490
             clear A2490
             replace H := Option.bind_eq_some_iff.mp H
             obtain ⟨⟨t539, t540, t541, t542⟩, A2500, H⟩ := H
             (try dsimp only at H)
             have A250 := Ak A2500
             clear A2500
             replace H := Option.bind_eq_some_iff.mp H
             obtain ⟨t543, A2510, H⟩ := H
             have A251 := Ak A2510
             clear A2510
             replace H := Option.bind_eq_some_iff.mp H
             obtain ⟨⟨t546, t549, t552, t553, t554, t555, t556⟩, A2520, H⟩ := H
             (try dsimp only at H)
             have A252 := Ak A2520
             clear A2520
             have HC253 := Ak H
             clear H
             have hnb254 := NB509_455.out
             have hnc254 := NB455_509.out
             have hnb255 := NB509_456.out
             have hnc255 := NB456_509.out
             have hnb256 := NB509_482.out
             have hnc256 := NB482_509.out
             have hnb257 := NB509_483.out
             have hnc257 := NB483_509.out
             have hnb258 := NB509_490.out
             have hnc258 := NB490_509.out
             have hnb259 := NB509_510.out
             have hnc259 := NB510_509.out
             have hcz260_0 : wc.cell? ⟨gb509, 0, none⟩ = some (.slice Ao67 t498.length co67) := zk0 BK509.out
             have hcz260_1 : wc.cell? ⟨gb509, 1, none⟩ = some (.slice Ao69 t501.length co69) := zk1 BK509.out
             have hfz260_0 := blk_frozen BK509.out 0
             have hfz260_1 := blk_frozen BK509.out 1
             try go_wp2_with (first | ((with_reducible refine gate_callee (f := 17) rfl ?_); refine goesL_ (some 106) rfl rfl Try.func17 (by kernel_rfl) rfl #[.agg #[.slice Ao67 t498.length co67, .slice Ao69 t501.length co69], .int .i64 1] rfl gm ?_; (with_reducible refine (laws_markDisk.calls kj149 (fun k_ => some k_ = (.slice Ao67 t498.length co67 : Value).ownBlock) (fun k_ => Nb k_ (.slice Ao39 t471.length co39) ∧ Nb k_ (.slice Ao41 t474.length co41) ∧ Nb k_ (.slice Ao52 t525.1.length co52) ∧ Nb k_ (.slice Ao58 t487.length co58) ∧ Nb k_ (.slice Ao67 t498.length co67) ∧ N3_ ≤ k_) (.slice Ao67 t498.length co67) (.slice Ao69 t501.length co69) t498 t501 1 t530 t531.1 t531.2 w _ ?side1 ?side2 ?side3 ?side4 A235.out).mono ?_); (case side1 => repeat (first | (with_reducible first | exact HB.out | apply below_alloc | apply pw_below_drewN | apply below_drew1 | refine below_set ?_ GE455.out | refine below_set ?_ GE456.out | refine below_set ?_ GE482.out | refine below_set ?_ GE483.out | refine below_set ?_ GE490.out | refine below_set ?_ GE509.out | refine below_set ?_ GE510.out) | exact HB.out)); (case side2 => exact Kd.R_tight rfl HO_510000.out); (case side3 => exact Kd.S_lower (Kd.S_mono (ok' := fun k_ => Nb k_ (.slice Ao39 t471.length co39) ∧ Nb k_ (.slice Ao41 t474.length co41) ∧ Nb k_ (.slice Ao52 t525.1.length co52) ∧ Nb k_ (.slice Ao58 t487.length co58) ∧ Nb k_ (.slice Ao67 t498.length co67) ∧ N3_ ≤ k_) (Kd.S_bound HO_510001.out) (fun k_ hk_ => zs hk_)) LN3_.out); (case side4 => exact fun k_ hk_ => by (revert hk_; simp only [and_imp]; intros; with_reducible assumption)); rintro e w261 ⟨rfl, hy0, hyS, hyL, hb, hkp⟩; refine ⟨_, rfl, ?_⟩; replace HO_483000 := Ak (Kd.R_mono (ok' := fun k_ => Nb k_ (.slice Ao52 t525.1.length co52) ∧ Nb k_ (.slice Ao67 t498.length co67)) (Kd.R_reok rfl (Kd.R_kept (Kd.R_tight rfl HO_483000.out) hkp (fun k_ e_ hs_ => hs_.elim (fun hs_ => ((HO_483000.out.1 k_ e_.symm).2) hs_) (fun hs_ => by (obtain ⟨hk_, _⟩ := hs_; revert hk_; simp only [and_imp]; intros; exact absurd e_ (by with_reducible assumption))))) (fun k_ e_ => HO_483000.out.1 k_ e_)) (fun k_ hk_ => ⟨hk_.1, hk_.2⟩)); replace HO_483001 := Ak (Kd.S_mono (ok' := fun k_ => Nb k_ (.slice Ao39 t471.length co39) ∧ Nb k_ (.slice Ao52 t525.1.length co52) ∧ Nb k_ (.slice Ao58 t487.length co58) ∧ Nb k_ (.slice Ao67 t498.length co67) ∧ Nb k_ (.slice Ao69 t501.length co69) ∧ k_ < N1_ ∧ k_ < N3_) (Kd.S_kept (Kd.S_mono (ok' := fun k_ => (Nb k_ (.slice Ao39 t471.length co39) ∧ Nb k_ (.slice Ao52 t525.1.length co52) ∧ Nb k_ (.slice Ao58 t487.length co58) ∧ Nb k_ (.slice Ao67 t498.length co67) ∧ Nb k_ (.slice Ao69 t501.length co69) ∧ k_ < N1_ ∧ k_ < N3_) ∧ w.heap.size ≤ k_) (Kd.S_bound HO_483001.out) (fun k_ hk_ => zs hk_)) hkp (fun k_ hk_ hs_ => hs_.elim (fun hs_ => by (revert hk_; simp only [and_imp]; intros; exact absurd hs_ (by with_reducible assumption))) (fun hs_ => by (obtain ⟨hq_, _⟩ := hs_; revert hk_ hq_; simp only [and_imp]; intros; exact absurd (show N3_ ≤ k_ by with_reducible assumption) (Nat.not_le_of_lt (show k_ < N3_ by with_reducible assumption)))))) (fun k_ hk_ => zs hk_)); replace HO_491000 := Ak (Kd.R_mono (ok' := fun k_ => Nb k_ (.slice Ao39 t471.length co39) ∧ Nb k_ (.slice Ao67 t498.length co67)) (Kd.R_reok rfl (Kd.R_kept (Kd.R_tight rfl HO_491000.out) hkp (fun k_ e_ hs_ => hs_.elim (fun hs_ => ((HO_491000.out.1 k_ e_.symm).2) hs_) (fun hs_ => by (obtain ⟨hk_, _⟩ := hs_; revert hk_; simp only [and_imp]; intros; exact absurd e_ (by with_reducible assumption))))) (fun k_ e_ => HO_491000.out.1 k_ e_)) (fun k_ hk_ => ⟨hk_.1, hk_.2⟩)); replace HO_491001 := Ak (Kd.S_mono (ok' := fun k_ => Nb k_ (.slice Ao39 t471.length co39) ∧ Nb k_ (.slice Ao41 t474.length co41) ∧ Nb k_ (.slice Ao52 t525.1.length co52) ∧ Nb k_ (.slice Ao67 t498.length co67) ∧ Nb k_ (.slice Ao69 t501.length co69) ∧ k_ < N3_ ∧ N1_ ≤ k_) (Kd.S_kept (Kd.S_mono (ok' := fun k_ => (Nb k_ (.slice Ao39 t471.length co39) ∧ Nb k_ (.slice Ao41 t474.length co41) ∧ Nb k_ (.slice Ao52 t525.1.length co52) ∧ Nb k_ (.slice Ao67 t498.length co67) ∧ Nb k_ (.slice Ao69 t501.length co69) ∧ k_ < N3_ ∧ N1_ ≤ k_) ∧ w.heap.size ≤ k_) (Kd.S_bound HO_491001.out) (fun k_ hk_ => zs hk_)) hkp (fun k_ hk_ hs_ => hs_.elim (fun hs_ => by (revert hk_; simp only [and_imp]; intros; exact absurd hs_ (by with_reducible assumption))) (fun hs_ => by (obtain ⟨hq_, _⟩ := hs_; revert hk_ hq_; simp only [and_imp]; intros; exact absurd (show N3_ ≤ k_ by with_reducible assumption) (Nat.not_le_of_lt (show k_ < N3_ by with_reducible assumption)))))) (fun k_ hk_ => zs hk_)); replace HO_510001 := Ak hyS; replace BK455 := Ak (blk_kept (by first | exact BK455.out | (exact bq BK455.out)) hkp (fun hs_ => hs_.elim (fun e_ => (Kd.R_ne HO_510000.out BK455.out (by decide)) e_) (fun h_ => RowIn.ne (by first | exact BK455.out | (exact bq BK455.out)) (by decide) h_))); replace BK456 := Ak (blk_kept (by first | exact BK456.out | (exact bq BK456.out)) hkp (fun hs_ => hs_.elim (fun e_ => (Kd.R_ne HO_510000.out BK456.out (by decide)) e_) (fun h_ => RowIn.ne (by first | exact BK456.out | (exact bq BK456.out)) (by decide) h_))); replace BK482 := Ak (blk_kept (by first | exact BK482.out | (exact bq BK482.out)) hkp (fun hs_ => hs_.elim (fun e_ => (Kd.R_ne HO_510000.out BK482.out (by decide)) e_) (fun h_ => RowIn.ne (by first | exact BK482.out | (exact bq BK482.out)) (by decide) h_))); replace BK483 := Ak (blk_kept (by first | exact BK483.out | (exact bq BK483.out)) hkp (fun hs_ => hs_.elim (fun e_ => (Kd.R_ne HO_510000.out BK483.out (by decide)) e_) (fun h_ => RowIn.ne (by first | exact BK483.out | (exact bq BK483.out)) (by decide) h_))); replace BK490 := Ak (blk_kept (by first | exact BK490.out | (exact bq BK490.out)) hkp (fun hs_ => hs_.elim (fun e_ => (Kd.R_ne HO_510000.out BK490.out (by decide)) e_) (fun h_ => RowIn.ne (by first | exact BK490.out | (exact bq BK490.out)) (by decide) h_))); replace BK509 := Ak (blk_kept (by first | exact BK509.out | (exact bq BK509.out)) hkp (fun hs_ => hs_.elim (fun e_ => (Kd.R_ne HO_510000.out BK509.out (by decide)) e_) (fun h_ => RowIn.ne (by first | exact BK509.out | (exact bq BK509.out)) (by decide) h_))); replace BK510 := Ak (blk_kept (by first | exact BK510.out | (exact bq BK510.out)) hkp (fun hs_ => hs_.elim (fun e_ => (Kd.R_ne HO_510000.out BK510.out (by decide)) e_) (fun h_ => RowIn.ne (by first | exact BK510.out | (exact bq BK510.out)) (by decide) h_))); replace HO_510000 := Ak (Kd.R_reok rfl hy0 (fun k_ e_ => HO_510000.out.1 k_ e_)); replace HB := Ak (hb); clear hb hkp hy0 hyS hyL; have hcz262_0 := zk0 BK509.out; have hcz262_1 := zk1 BK509.out; have hfz262_0 := blk_frozen BK509.out 0; have hfz262_1 := blk_frozen BK509.out 1) | ((with_reducible refine gate_callee (f := 19) rfl ?_); refine goesL_ (some 109) rfl rfl Try.func19 (by kernel_rfl) rfl #[.agg #[.slice Ao67 t531.1.length co67, .slice Ao69 t531.2.length co69], .int .i64 1] rfl (by (try simp only [List.map_toArray, List.map_cons, List.map_nil]); first | done | (rw [show t531.1.length = t498.length from (Kd.R_reads' HO_510000.out).1.symm, show t531.2.length = t501.length from (Kd.S_reads' HO_510001.out).1.symm] <;> rfl) | rfl | (simp only [List.length_drop, List.length_take]; rfl)) ?_; (with_reducible refine (laws_heldDisk.calls kj149 _ _ t531.1 _ _ t531.2 1 t532 _ ?side1 ?side2 ?side3 ?side4 A236.out).mono ?_); (case side1 => repeat (first | exact (Kd.R_reads' HO_510000.out).2.2 | (with_reducible refine Kd.C_alloc ?_ _) | (with_reducible refine Kd.C_drewN ?_ _) | (with_reducible refine Kd.C_drew ?_))); (case side2 => first | exact (Kd.R_reads' HO_510000.out).2.1 | (rw [show t531.1.length = t498.length from (Kd.R_reads' HO_510000.out).1.symm]; exact (Kd.R_reads' HO_510000.out).2.1)); (case side3 => repeat (first | exact (Kd.S_reads' HO_510001.out).2.2 | (with_reducible refine Kd.C_alloc ?_ _) | (with_reducible refine Kd.C_drewN ?_ _) | (with_reducible refine Kd.C_drew ?_))); (case side4 => first | exact (Kd.S_reads' HO_510001.out).2.1 | (rw [show t531.2.length = t501.length from (Kd.S_reads' HO_510001.out).1.symm]; exact (Kd.S_reads' HO_510001.out).2.1)); rintro e w263 ⟨rfl, hb⟩; refine ⟨_, rfl, ?_⟩; replace HO_483000 := Ak (Kd.R_below (rq HO_483000.out) hb); replace HO_483001 := Ak (Kd.S_below (sq HO_483001.out) hb); replace HO_491000 := Ak (Kd.R_below (rq HO_491000.out) hb); replace HO_491001 := Ak (Kd.S_below (sq HO_491001.out) hb); replace HO_510000 := Ak (Kd.R_below (rq HO_510000.out) hb); replace HO_510001 := Ak (Kd.S_below (sq HO_510001.out) hb); replace BK455 := Ak (blk_below (bq BK455.out) hb); replace BK456 := Ak (blk_below (bq BK456.out) hb); replace BK482 := Ak (blk_below (bq BK482.out) hb); replace BK483 := Ak (blk_below (bq BK483.out) hb); replace BK490 := Ak (blk_below (bq BK490.out) hb); replace BK509 := Ak (blk_below (bq BK509.out) hb); replace BK510 := Ak (blk_below (bq BK510.out) hb); replace HB := Ak (below_step (bw7 HB.out GE455.out GE456.out GE482.out GE483.out GE490.out GE509.out GE510.out) hb)))
             replace HO_483000 := Ak (Kd.R_drew HO_483000.out)
             replace HO_483001 := Ak (Kd.S_drew HO_483001.out)
             replace HO_491000 := Ak (Kd.R_drew HO_491000.out)
             replace HO_491001 := Ak (Kd.S_drew HO_491001.out)
             replace HO_510000 := Ak (Kd.R_drew HO_510000.out)
             replace HO_510001 := Ak (Kd.S_drew HO_510001.out)
             replace BK455 := Ak (blk_drew BK455.out)
             replace BK456 := Ak (blk_drew BK456.out)
             replace BK482 := Ak (blk_drew BK482.out)
             replace BK483 := Ak (blk_drew BK483.out)
             replace BK490 := Ak (blk_drew BK490.out)
             replace BK509 := Ak (blk_drew BK509.out)
             replace BK510 := Ak (blk_drew BK510.out)
             replace HB := Ak (below_drew1 HB.out)
             refine start_ (n := 16) (S := fun w' => w'.cell? ⟨gb455, 0, none⟩ = some (.slice A0_0 l0_0.length c0_0) ∧ w'.cell? ⟨gb455, 1, none⟩ = some (.slice A0_1 l0_1.length c0_1) ∧ w'.cell? ⟨gb456, 0, none⟩ = some (.int .i64 a1_0) ∧ w'.cell? ⟨gb456, 1, none⟩ = some (.int .i64 a1_1) ∧ w'.cell? ⟨gb456, 2, none⟩ = some (.int .i64 a1_2) ∧ w'.cell? ⟨gb456, 3, none⟩ = some (.int .i64 a1_3)) (ds := []) #[false, false, false, false, false, false, false, false, false, false, false, false, false, false, false, false] (by kernel_rfl) rfl rfl ⟨zk0 BK455.out, zk1 BK455.out, zk0 BK456.out, zk1 BK456.out, zk2 BK456.out, zk3 BK456.out⟩ (fun hHeld => ?_); refine with_tabW laws_FnExactLogAdd.tab30 laws_FnExactLogAdd.bits30 (fun HT_ HW_ => ?_)
             generalize w263.drew = w264 at HO_483000 HO_483001 HO_491000 HO_491001 HO_510000 HO_510001 BK455 BK456 BK482 BK483 BK490 BK509 BK510 HB hHeld ⊢
             refine pure_ (i := 4) (N := some 120) (v := ?_) (a' := ?_) #[false, false, false, false, true, false, false, false, false, false, false, false, false, false, false, false] rfl rfl (any_of HT_.out (by kernel_rfl)) (fun _ _ _ h => h) (Or.inl ⟨by rfl, ?_⟩) ?_ ?_
             rotate_left
             ·intro w'
              go_simp
              with_reducible rfl
             rotate_left
             ·simp only [Act.put, sT, sZ, sS, i64_w, i32_w]
              rfl
             refine take_ (i := 0) (N := some 116) (v := ?_) (a' := ?_) #[true, false, false, false, true, false, false, false, false, false, false, false, false, false, false, false] rfl rfl (take_ofW HT_.out HW_.out (by kernel_rfl)) (fun _ _ _ h => h) (Or.inl ⟨by rfl, ?_⟩) hHeld ?_ ?_
             rotate_left
             ·rintro w' ⟨s0, s1, s2, s3, s4, s5⟩
              go_simp
              with_reducible rfl
             rotate_left
             ·simp only [Act.put, sT, sZ, sS, i64_w, i32_w]
              rfl
             refine take_ (i := 2) (N := some 118) (v := ?_) (a' := ?_) #[true, false, true, false, true, false, false, false, false, false, false, false, false, false, false, false] rfl rfl (take_ofW HT_.out HW_.out (by kernel_rfl)) (fun _ _ _ h => h) (Or.inl ⟨by rfl, ?_⟩) hHeld ?_ ?_
             rotate_left
             ·rintro w' ⟨s0, s1, s2, s3, s4, s5⟩
              go_simp
              with_reducible rfl
             rotate_left
             ·simp only [Act.put, sT, sZ, sS, i64_w, i32_w]
              rfl
             refine join_ (σ := Value × Value × Value × Value × Value × Nat × Nat) 3 #[true, true, true, true, true, true, true, true, true, true, true, true, true, false, false, false] (fun s_ => [(117, .agg #[s_.1, s_.2.1]), (119, .agg #[.int .i64 t539, .int .i64 t540, .int .i64 t541, .int .i64 t542]), (121, s_.2.2.1), (122, .tuple #[.agg #[s_.2.2.2.1, s_.2.2.2.2.1], .agg #[.int .i64 t552, .int .i64 t553, .int .i64 t554, .int .i64 t555], .bool t556]), (19, .pointer (some ⟨s_.2.2.2.2.2.1, 0, none⟩)), (20, .pointer (some ⟨s_.2.2.2.2.2.2, 0, none⟩)), (115, .tuple #[.agg #[s_.2.2.2.1, s_.2.2.2.2.1], .agg #[.int .i64 t552, .int .i64 t553, .int .i64 t554, .int .i64 t555], .bool t556]), (123, .agg #[s_.2.2.2.1, s_.2.2.2.2.1]), (124, .agg #[.int .i64 t552, .int .i64 t553, .int .i64 t554, .int .i64 t555]), (125, .bool t556)]) (fun s_ w' => (w'.cell? ⟨gb455, 0, none⟩ = some (.slice A0_0 l0_0.length c0_0) ∧ w'.cell? ⟨gb455, 1, none⟩ = some (.slice A0_1 l0_1.length c0_1) ∧ w'.cell? ⟨gb456, 0, none⟩ = some (.int .i64 a1_0) ∧ w'.cell? ⟨gb456, 1, none⟩ = some (.int .i64 a1_1) ∧ w'.cell? ⟨gb456, 2, none⟩ = some (.int .i64 a1_2) ∧ w'.cell? ⟨gb456, 3, none⟩ = some (.int .i64 a1_3)) ∧ (Kd.R (Kd.int .u8) 5 w' w.heap.size (fun k_ => some k_ ≠ (s_.2.2.1 : Value).ownBlock ∧ some k_ ≠ (s_.2.2.2.1 : Value).ownBlock ∧ Nb k_ (.slice Ao39 t471.length co39) ∧ Nb k_ (.slice Ao52 t525.1.length co52) ∧ Nb k_ (.slice Ao67 t498.length co67)) s_.1 t533) ∧ (Kd.S k96 96 w' w.heap.size (fun k_ => some k_ ≠ (s_.1 : Value).ownBlock ∧ some k_ ≠ (s_.2.2.1 : Value).ownBlock ∧ some k_ ≠ (s_.2.2.2.1 : Value).ownBlock ∧ some k_ ≠ (s_.2.2.2.2.1 : Value).ownBlock ∧ Nb k_ (.slice Ao39 t471.length co39) ∧ Nb k_ (.slice Ao41 t474.length co41) ∧ Nb k_ (.slice Ao52 t525.1.length co52) ∧ Nb k_ (.slice Ao58 t487.length co58) ∧ Nb k_ (.slice Ao67 t498.length co67) ∧ Nb k_ (.slice Ao69 t501.length co69)) s_.2.1 t536) ∧ (Kd.R (Kd.int .u8) 5 w' w.heap.size (fun k_ => some k_ ≠ (s_.1 : Value).ownBlock ∧ some k_ ≠ (s_.2.2.2.1 : Value).ownBlock ∧ Nb k_ (.slice Ao39 t471.length co39) ∧ Nb k_ (.slice Ao52 t525.1.length co52) ∧ Nb k_ (.slice Ao67 t498.length co67)) s_.2.2.1 t543) ∧ (Kd.R (Kd.int .u8) 5 w' w.heap.size (fun k_ => some k_ ≠ (s_.1 : Value).ownBlock ∧ some k_ ≠ (s_.2.2.1 : Value).ownBlock ∧ Nb k_ (.slice Ao39 t471.length co39) ∧ Nb k_ (.slice Ao52 t525.1.length co52) ∧ Nb k_ (.slice Ao67 t498.length co67)) s_.2.2.2.1 t546) ∧ (Kd.S k96 96 w' w.heap.size (fun k_ => some k_ ≠ (s_.1 : Value).ownBlock ∧ some k_ ≠ (s_.2.1 : Value).ownBlock ∧ some k_ ≠ (s_.2.2.1 : Value).ownBlock ∧ some k_ ≠ (s_.2.2.2.1 : Value).ownBlock ∧ Nb k_ (.slice Ao39 t471.length co39) ∧ Nb k_ (.slice Ao41 t474.length co41) ∧ Nb k_ (.slice Ao52 t525.1.length co52) ∧ Nb k_ (.slice Ao58 t487.length co58) ∧ Nb k_ (.slice Ao67 t498.length co67) ∧ Nb k_ (.slice Ao69 t501.length co69)) s_.2.2.2.2.1 t549) ∧ (Kd.R (Kd.int .u8) 5 w' w.heap.size (fun k_ => some k_ ≠ (s_.1 : Value).ownBlock ∧ some k_ ≠ (s_.2.2.1 : Value).ownBlock ∧ some k_ ≠ (s_.2.2.2.1 : Value).ownBlock ∧ Nb k_ (.slice Ao52 t525.1.length co52) ∧ Nb k_ (.slice Ao67 t498.length co67)) (.slice Ao39 t471.length co39) t471) ∧ (Kd.S k96 96 w' w.heap.size (fun k_ => some k_ ≠ (s_.1 : Value).ownBlock ∧ some k_ ≠ (s_.2.1 : Value).ownBlock ∧ some k_ ≠ (s_.2.2.1 : Value).ownBlock ∧ some k_ ≠ (s_.2.2.2.1 : Value).ownBlock ∧ some k_ ≠ (s_.2.2.2.2.1 : Value).ownBlock ∧ Nb k_ (.slice Ao39 t471.length co39) ∧ Nb k_ (.slice Ao52 t525.1.length co52) ∧ Nb k_ (.slice Ao58 t487.length co58) ∧ Nb k_ (.slice Ao67 t498.length co67) ∧ Nb k_ (.slice Ao69 t501.length co69) ∧ k_ < N1_ ∧ k_ < N3_) (.slice Ao41 t474.length co41) t474) ∧ (Kd.R (Kd.int .u8) 5 w' w.heap.size (fun k_ => some k_ ≠ (s_.1 : Value).ownBlock ∧ some k_ ≠ (s_.2.2.1 : Value).ownBlock ∧ some k_ ≠ (s_.2.2.2.1 : Value).ownBlock ∧ Nb k_ (.slice Ao39 t471.length co39) ∧ Nb k_ (.slice Ao67 t498.length co67)) (.slice Ao52 t525.1.length co52) t525.1) ∧ (Kd.S k96 96 w' w.heap.size (fun k_ => some k_ ≠ (s_.1 : Value).ownBlock ∧ some k_ ≠ (s_.2.1 : Value).ownBlock ∧ some k_ ≠ (s_.2.2.1 : Value).ownBlock ∧ some k_ ≠ (s_.2.2.2.1 : Value).ownBlock ∧ some k_ ≠ (s_.2.2.2.2.1 : Value).ownBlock ∧ Nb k_ (.slice Ao39 t471.length co39) ∧ Nb k_ (.slice Ao41 t474.length co41) ∧ Nb k_ (.slice Ao52 t525.1.length co52) ∧ Nb k_ (.slice Ao67 t498.length co67) ∧ Nb k_ (.slice Ao69 t501.length co69) ∧ k_ < N3_ ∧ N1_ ≤ k_) (.slice Ao58 t487.length co58) t525.2) ∧ (Kd.R (Kd.int .u8) 5 w' w.heap.size (fun k_ => some k_ ≠ (s_.1 : Value).ownBlock ∧ some k_ ≠ (s_.2.2.1 : Value).ownBlock ∧ some k_ ≠ (s_.2.2.2.1 : Value).ownBlock ∧ Nb k_ (.slice Ao39 t471.length co39) ∧ Nb k_ (.slice Ao52 t525.1.length co52)) (.slice Ao67 t498.length co67) t531.1) ∧ (Kd.S k96 96 w' w.heap.size (fun k_ => some k_ ≠ (s_.1 : Value).ownBlock ∧ some k_ ≠ (s_.2.1 : Value).ownBlock ∧ some k_ ≠ (s_.2.2.1 : Value).ownBlock ∧ some k_ ≠ (s_.2.2.2.1 : Value).ownBlock ∧ some k_ ≠ (s_.2.2.2.2.1 : Value).ownBlock ∧ Nb k_ (.slice Ao39 t471.length co39) ∧ Nb k_ (.slice Ao41 t474.length co41) ∧ Nb k_ (.slice Ao52 t525.1.length co52) ∧ Nb k_ (.slice Ao58 t487.length co58) ∧ Nb k_ (.slice Ao67 t498.length co67) ∧ N3_ ≤ k_) (.slice Ao69 t501.length co69) t531.2) ∧ (w'.heap[gb455]? = some (.cells #[.slice A0_0 l0_0.length c0_0, .slice A0_1 l0_1.length c0_1] 25 (0, 0))) ∧ (w'.heap[gb456]? = some (.cells #[.int .i64 a1_0, .int .i64 a1_1, .int .i64 a1_2, .int .i64 a1_3] 27 (0, 0))) ∧ (w'.heap[gb482]? = some (.cells #[.slice Ao39 t471.length co39, .slice Ao41 t474.length co41] 31 (0, 0))) ∧ (w'.heap[gb483]? = some (.cells #[.int .i64 t477, .int .i64 t478, .int .i64 t479, .int .i64 t480] 32 (0, 0))) ∧ (w'.heap[gb490]? = some (.cells #[.slice Ao52 t525.1.length co52, .slice Ao58 t487.length co58] 31 (0, 0))) ∧ (w'.heap[gb509]? = some (.cells #[.slice Ao67 t498.length co67, .slice Ao69 t501.length co69] 31 (0, 0))) ∧ (w'.heap[gb510]? = some (.cells #[.int .i64 t504, .int .i64 t505, .int .i64 t506, .int .i64 t507] 32 (0, 0))) ∧ (w'.heap[s_.2.2.2.2.2.1]? = some (.cells #[.slice none 0 0, .slice none 0 0] 31 (0, 0))) ∧ (w'.heap[s_.2.2.2.2.2.2]? = some (.cells #[.int .i64 0, .int .i64 0, .int .i64 0, .int .i64 0] 32 (0, 0))) ∧ (w.heap.size ≤ s_.2.2.2.2.2.1) ∧ (w.heap.size ≤ s_.2.2.2.2.2.1) ∧ (gb455 ≠ s_.2.2.2.2.2.1) ∧ (s_.2.2.2.2.2.1 ≠ gb455) ∧ (gb456 ≠ s_.2.2.2.2.2.1) ∧ (s_.2.2.2.2.2.1 ≠ gb456) ∧ (gb482 ≠ s_.2.2.2.2.2.1) ∧ (s_.2.2.2.2.2.1 ≠ gb482) ∧ (gb483 ≠ s_.2.2.2.2.2.1) ∧ (s_.2.2.2.2.2.1 ≠ gb483) ∧ (gb490 ≠ s_.2.2.2.2.2.1) ∧ (s_.2.2.2.2.2.1 ≠ gb490) ∧ (gb509 ≠ s_.2.2.2.2.2.1) ∧ (s_.2.2.2.2.2.1 ≠ gb509) ∧ (gb510 ≠ s_.2.2.2.2.2.1) ∧ (s_.2.2.2.2.2.1 ≠ gb510) ∧ (s_.2.2.2.2.2.2 ≠ s_.2.2.2.2.2.1) ∧ (s_.2.2.2.2.2.1 ≠ s_.2.2.2.2.2.2) ∧ (w.heap.size ≤ s_.2.2.2.2.2.2) ∧ (w.heap.size ≤ s_.2.2.2.2.2.2) ∧ (gb455 ≠ s_.2.2.2.2.2.2) ∧ (s_.2.2.2.2.2.2 ≠ gb455) ∧ (gb456 ≠ s_.2.2.2.2.2.2) ∧ (s_.2.2.2.2.2.2 ≠ gb456) ∧ (gb482 ≠ s_.2.2.2.2.2.2) ∧ (s_.2.2.2.2.2.2 ≠ gb482) ∧ (gb483 ≠ s_.2.2.2.2.2.2) ∧ (s_.2.2.2.2.2.2 ≠ gb483) ∧ (gb490 ≠ s_.2.2.2.2.2.2) ∧ (s_.2.2.2.2.2.2 ≠ gb490) ∧ (gb509 ≠ s_.2.2.2.2.2.2) ∧ (s_.2.2.2.2.2.2 ≠ gb509) ∧ (gb510 ≠ s_.2.2.2.2.2.2) ∧ (s_.2.2.2.2.2.2 ≠ gb510) ∧ (Below w.heap.size w w')) ?_ ?_
             rotate_left
             ·intro hJ1_3_5_6_11_12
              have hsz_ := below_size HB.out
              have hS_ : ∀ w', Below w264.heap.size w264 w' → (w'.cell? ⟨gb455, 0, none⟩ = some (.slice A0_0 l0_0.length c0_0) ∧ w'.cell? ⟨gb455, 1, none⟩ = some (.slice A0_1 l0_1.length c0_1) ∧ w'.cell? ⟨gb456, 0, none⟩ = some (.int .i64 a1_0) ∧ w'.cell? ⟨gb456, 1, none⟩ = some (.int .i64 a1_1) ∧ w'.cell? ⟨gb456, 2, none⟩ = some (.int .i64 a1_2) ∧ w'.cell? ⟨gb456, 3, none⟩ = some (.int .i64 a1_3)) := fun w' hb_ => ⟨(blk_cell (blk_below BK455.out hb_) 0).trans rfl, (blk_cell (blk_below BK455.out hb_) 1).trans rfl, (blk_cell (blk_below BK456.out hb_) 0).trans rfl, (blk_cell (blk_below BK456.out hb_) 1).trans rfl, (blk_cell (blk_below BK456.out hb_) 2).trans rfl, (blk_cell (blk_below BK456.out hb_) 3).trans rfl⟩
              refine Latt.lattice_ (fuel := 3) (k := 4) 4 (fun p => match p with | 0 => 1 | 1 => 3 | 2 => 5 | _ => 6) (fun p => match p with | 0 => 117 | 1 => 119 | 2 => 121 | _ => 122) 11 12 19 20 #[.slice none 0 0, .slice none 0 0] #[.int .i64 0, .int .i64 0, .int .i64 0, .int .i64 0] 31 32
               (fun a_ p ac w' => match p with
                | 0 => ac = a_
                | 1 => ∃ v534 v537 : Value, ac = (a_.put (some 117) (.agg #[v534, v537])) ∧ Kd.R (Kd.int .u8) 5 w' w264.heap.size (fun _ => True) v534 t533 ∧ Kd.S k96 96 w' w264.heap.size (fun k_ => Nb k_ v534) v537 t536
                | 2 => ∃ v534 v537 : Value, ac = ((a_.put (some 117) (.agg #[v534, v537])).put (some 119) (.agg #[.int .i64 t539, .int .i64 t540, .int .i64 t541, .int .i64 t542])) ∧ Kd.R (Kd.int .u8) 5 w' w264.heap.size (fun _ => True) v534 t533 ∧ Kd.S k96 96 w' w264.heap.size (fun k_ => Nb k_ v534) v537 t536
                | 3 => ∃ v534 v537 v544 : Value, ac = (((a_.put (some 117) (.agg #[v534, v537])).put (some 119) (.agg #[.int .i64 t539, .int .i64 t540, .int .i64 t541, .int .i64 t542])).put (some 121) (v544)) ∧ Kd.R (Kd.int .u8) 5 w' w264.heap.size (fun k_ => Nb k_ v544) v534 t533 ∧ Kd.S k96 96 w' w264.heap.size (fun k_ => Nb k_ v534 ∧ Nb k_ v544) v537 t536 ∧ Kd.R (Kd.int .u8) 5 w' w264.heap.size (fun k_ => Nb k_ v534) v544 t543
                | 4 => ∃ v534 v537 v544 v547 v550 : Value, ac = ((((a_.put (some 117) (.agg #[v534, v537])).put (some 119) (.agg #[.int .i64 t539, .int .i64 t540, .int .i64 t541, .int .i64 t542])).put (some 121) (v544)).put (some 122) (.tuple #[.agg #[v547, v550], .agg #[.int .i64 t552, .int .i64 t553, .int .i64 t554, .int .i64 t555], .bool t556])) ∧ Kd.R (Kd.int .u8) 5 w' w264.heap.size (fun k_ => Nb k_ v544 ∧ Nb k_ v547) v534 t533 ∧ Kd.S k96 96 w' w264.heap.size (fun k_ => Nb k_ v534 ∧ Nb k_ v544 ∧ Nb k_ v547 ∧ Nb k_ v550) v537 t536 ∧ Kd.R (Kd.int .u8) 5 w' w264.heap.size (fun k_ => Nb k_ v534 ∧ Nb k_ v547) v544 t543 ∧ Kd.R (Kd.int .u8) 5 w' w264.heap.size (fun k_ => Nb k_ v534 ∧ Nb k_ v544) v547 t546 ∧ Kd.S k96 96 w' w264.heap.size (fun k_ => Nb k_ v534 ∧ Nb k_ v537 ∧ Nb k_ v544 ∧ Nb k_ v547) v550 t549
                | _ => ∃ v534 v537 v544 v547 v550 : Value, ac = ((((((((a_.put (some 117) (.agg #[v534, v537])).put (some 119) (.agg #[.int .i64 t539, .int .i64 t540, .int .i64 t541, .int .i64 t542])).put (some 121) (v544)).put (some 122) (.tuple #[.agg #[v547, v550], .agg #[.int .i64 t552, .int .i64 t553, .int .i64 t554, .int .i64 t555], .bool t556])).put (some 115) (.tuple #[.agg #[v547, v550], .agg #[.int .i64 t552, .int .i64 t553, .int .i64 t554, .int .i64 t555], .bool t556])).put (some 123) (.agg #[v547, v550])).put (some 124) (.agg #[.int .i64 t552, .int .i64 t553, .int .i64 t554, .int .i64 t555])).put (some 125) (.bool t556)) ∧ Kd.R (Kd.int .u8) 5 w' w264.heap.size (fun k_ => Nb k_ v544 ∧ Nb k_ v547) v534 t533 ∧ Kd.S k96 96 w' w264.heap.size (fun k_ => Nb k_ v534 ∧ Nb k_ v544 ∧ Nb k_ v547 ∧ Nb k_ v550) v537 t536 ∧ Kd.R (Kd.int .u8) 5 w' w264.heap.size (fun k_ => Nb k_ v534 ∧ Nb k_ v547) v544 t543 ∧ Kd.R (Kd.int .u8) 5 w' w264.heap.size (fun k_ => Nb k_ v534 ∧ Nb k_ v544) v547 t546 ∧ Kd.S k96 96 w' w264.heap.size (fun k_ => Nb k_ v534 ∧ Nb k_ v537 ∧ Nb k_ v544 ∧ Nb k_ v547) v550 t549)
               (fun p b1 b2 => match p with | 0 => #[true, false, true, false, true, false, false, false, false, false, false, b1, b2, false, false, false] | 1 => #[true, true, true, false, true, false, false, false, false, false, false, b1, b2, false, false, false] | 2 => #[true, true, true, true, true, false, false, false, false, false, false, b1, b2, false, false, false] | 3 => #[true, true, true, true, true, true, false, false, false, false, false, b1, b2, false, false, false] | 4 => #[true, true, true, true, true, true, true, false, false, false, false, b1, b2, false, false, false] | _ => #[true, true, true, true, true, true, true, true, true, true, true, b1, b2, false, false, false])
               hS_ (by decide) ?hI ?hr ?hr2 ?hL ?hL1 ?hL2 ?hcall ?hb1 ?hb2 ?hpost rfl ?hfin
              case hI =>
               intro p ac w1_ w2_ h_ hb_
               rcases p with _ | _ | _ | _ | _ | _
               ·exact h_
               ·obtain ⟨v534, v537, h_, HO535, HO538⟩ := h_
                exact ⟨v534, v537, h_, Kd.R_below HO535 hb_, Kd.S_below HO538 hb_⟩
               ·obtain ⟨v534, v537, h_, HO535, HO538⟩ := h_
                exact ⟨v534, v537, h_, Kd.R_below HO535 hb_, Kd.S_below HO538 hb_⟩
               ·obtain ⟨v534, v537, v544, h_, HO535, HO538, HO545⟩ := h_
                exact ⟨v534, v537, v544, h_, Kd.R_below HO535 hb_, Kd.S_below HO538 hb_, Kd.R_below HO545 hb_⟩
               ·obtain ⟨v534, v537, v544, v547, v550, h_, HO535, HO538, HO545, HO548, HO551⟩ := h_
                exact ⟨v534, v537, v544, v547, v550, h_, Kd.R_below HO535 hb_, Kd.S_below HO538 hb_, Kd.R_below HO545 hb_, Kd.R_below HO548 hb_, Kd.S_below HO551 hb_⟩
               ·obtain ⟨v534, v537, v544, v547, v550, h_, HO535, HO538, HO545, HO548, HO551⟩ := h_
                exact ⟨v534, v537, v544, v547, v550, h_, Kd.R_below HO535 hb_, Kd.S_below HO538 hb_, Kd.R_below HO545 hb_, Kd.R_below HO548 hb_, Kd.S_below HO551 hb_⟩
              case hr =>
               intro p hp_ b1 b2
               have hp2_ : p = 0 ∨ p = 1 ∨ p = 2 ∨ p = 3 := by omega
               rcases hp2_ with rfl | rfl | rfl | rfl <;> cases b1 <;> cases b2 <;> exact Latt.ready_of HT_.out (by kernel_rfl)
              case hr2 =>
               intro b1 b2 h_
               cases b1 <;> cases b2 <;> first | exact absurd h_ (by decide) | exact Latt.ready_of HT_.out (by kernel_rfl)
              case hL =>
               intro p hp_ b1 b2
               have hp2_ : p = 0 ∨ p = 1 ∨ p = 2 ∨ p = 3 := by omega
               rcases hp2_ with rfl | rfl | rfl | rfl <;> rfl
              case hL1 =>
               intro p hp_ b2
               have hp2_ : p = 0 ∨ p = 1 ∨ p = 2 ∨ p = 3 ∨ p = 4 ∨ p = 5 := by omega
               rcases hp2_ with rfl | rfl | rfl | rfl | rfl | rfl <;> rfl
              case hL2 =>
               intro p hp_ b1
               have hp2_ : p = 0 ∨ p = 1 ∨ p = 2 ∨ p = 3 ∨ p = 4 ∨ p = 5 := by omega
               rcases hp2_ with rfl | rfl | rfl | rfl | rfl | rfl <;> rfl
              case hcall =>
               intro p hp_
               have hp2_ : p = 0 ∨ p = 1 ∨ p = 2 ∨ p = 3 := by omega
               rcases hp2_ with rfl | rfl | rfl | rfl
               ·refine ⟨_, 10, _, _, _, rfl, rfl, rfl, rfl, Try.func10, (by kernel_rfl), rfl, rfl, (by decide), (by decide), ?_⟩
                intro ac w1_ hb0_ h_
                obtain rfl : ac = _ := h_
                have HB := Ak (below_step HB.out hb0_)
                refine Latt.calls_args (as' := #[.agg #[.slice A0_0 l0_0.length c0_0, .slice A0_1 l0_1.length c0_1]]) (by first | rfl | (simp only [Act.put, sT, sZ, sS, List.map_toArray, List.map_cons, List.map_nil]; rfl)) ?_
                with_reducible refine (laws_toDisk.calls kj149 _ _ l0_0 _ _ l0_1 t533 t536 _ ?side1 ?side2 ?side3 ?side4 A249.out).mono ?_
                (case side1 => exact zq (Kd.C_below HR0_0.out HB.out))
                (case side2 => exact HC0_0.out)
                (case side3 => exact zq (Kd.C_below HR0_1.out HB.out))
                (case side4 => exact HC0_1.out)
                rintro e w2_ ⟨v534, v537, rfl, ho0, ho1, hb⟩
                refine ⟨_, rfl, hb, v534, v537, rfl, ?_, ?_⟩
                ·exact Kd.R_lower ho0 (below_size hb0_)
                ·exact Kd.S_lower (Kd.S_mono (Kd.S_bound ho1) (fun k_ hk_ => zs hk_)) (below_size hb0_)
               ·refine ⟨_, 11, _, _, _, rfl, rfl, rfl, rfl, Try.func11, (by kernel_rfl), rfl, rfl, (by decide), (by decide), ?_⟩
                intro ac w1_ hb0_ h_
                obtain ⟨v534, v537, rfl, HO535, HO538⟩ := h_
                have HO535 := Ak HO535
                have HO538 := Ak HO538
                have HB := Ak (below_step HB.out hb0_)
                refine Latt.calls_args (as' := #[.agg #[.int .i64 a1_0, .int .i64 a1_1, .int .i64 a1_2, .int .i64 a1_3]]) (by first | rfl | (simp only [Act.put, sT, sZ, sS, List.map_toArray, List.map_cons, List.map_nil]; rfl)) ?_
                with_reducible refine (laws_toLog.calls a1_0 a1_1 a1_2 a1_3 t539 t540 t541 t542 _ A250.out).mono ?_
                rintro e w2_ ⟨rfl, hb⟩
                refine ⟨_, rfl, hb, v534, v537, rfl, ?_, ?_⟩
                ·exact Kd.R_below HO535.out hb
                ·exact Kd.S_below HO538.out hb
               ·refine ⟨_, 12, _, _, _, rfl, rfl, rfl, rfl, Try.func12, (by kernel_rfl), rfl, rfl, (by decide), (by decide), ?_⟩
                intro ac w1_ hb0_ h_
                obtain ⟨v534, v537, rfl, HO535, HO538⟩ := h_
                have HO535 := Ak HO535
                have HO538 := Ak HO538
                have HB := Ak (below_step HB.out hb0_)
                refine Latt.calls_args (as' := #[.slice A2 l2.length c2]) (by first | rfl | (simp only [Act.put, sT, sZ, sS, List.map_toArray, List.map_cons, List.map_nil]; rfl)) ?_
                with_reducible refine (laws_toByteS.calls kj149 _ _ l2 t543 _ ?side1 ?side2 A251.out).mono ?_
                (case side1 => exact zq (Kd.C_below HR2.out HB.out))
                (case side2 => exact HC2.out)
                rintro e w2_ ⟨v544, rfl, ho0, hb⟩
                refine ⟨_, rfl, hb, v534, v537, v544, rfl, ?_, ?_, ?_⟩
                ·exact Kd.R_mono (Kd.R_old HO535.out hb) (fun k_ hk_ => by (have a0_ := Latt.old_ne hk_.2 (Kd.R_base ho0); exact zs hk_))
                ·exact Kd.S_mono (Kd.S_old HO538.out hb) (fun k_ hk_ => by (have a0_ := Latt.old_ne hk_.2 (Kd.R_base ho0); exact zs hk_))
                ·exact Kd.R_lower (Kd.R_mono (Kd.R_bound ho0) (fun k_ hk_ => by (have a0_ := Kd.fresh' (Kd.R_lt HO535.out) k_ hk_.2.1; exact zs hk_))) (below_size hb0_)
               ·refine ⟨_, 13, _, _, _, rfl, rfl, rfl, rfl, Try.func13, (by kernel_rfl), rfl, rfl, (by decide), (by decide), ?_⟩
                intro ac w1_ hb0_ h_
                obtain ⟨v534, v537, v544, rfl, HO535, HO538, HO545⟩ := h_
                have HO535 := Ak HO535
                have HO538 := Ak HO538
                have HO545 := Ak HO545
                have HB := Ak (below_step HB.out hb0_)
                obtain ⟨Ao269, co269, eo269⟩ := Kd.R_slice HO535.out
                subst eo269
                obtain ⟨Ao270, co270, eo270⟩ := Kd.S_slice HO538.out
                subst eo270
                obtain ⟨Ao271, co271, eo271⟩ := Kd.R_slice HO545.out
                subst eo271
                refine Latt.calls_args (as' := #[.agg #[.slice Ao269 t533.length co269, .slice Ao270 t536.length co270], .agg #[.int .i64 t539, .int .i64 t540, .int .i64 t541, .int .i64 t542], .slice Ao271 t543.length co271]) (by first | rfl | (simp only [Act.put, sT, sZ, sS, List.map_toArray, List.map_cons, List.map_nil]; rfl)) ?_
                with_reducible refine (impl_LogAdd.calls kj149 _ _ t533 _ _ t536 t539 t540 t541 t542 _ _ t543 t546 t549 t552 t553 t554 t555 t556 _ ?side1 ?side2 ?side3 ?side4 ?side5 ?side6 A252.out).mono ?_
                (case side1 => repeat (first | exact (Kd.R_reads' HO535.out).2.2 | (with_reducible refine Kd.C_alloc ?_ _) | (with_reducible refine Kd.C_drewN ?_ _) | (with_reducible refine Kd.C_drew ?_)))
                (case side2 => exact (Kd.R_reads' HO535.out).2.1)
                (case side3 => repeat (first | exact (Kd.S_reads' HO538.out).2.2 | (with_reducible refine Kd.C_alloc ?_ _) | (with_reducible refine Kd.C_drewN ?_ _) | (with_reducible refine Kd.C_drew ?_)))
                (case side4 => exact (Kd.S_reads' HO538.out).2.1)
                (case side5 => repeat (first | exact (Kd.R_reads' HO545.out).2.2 | (with_reducible refine Kd.C_alloc ?_ _) | (with_reducible refine Kd.C_drewN ?_ _) | (with_reducible refine Kd.C_drew ?_)))
                (case side6 => exact (Kd.R_reads' HO545.out).2.1)
                rintro e w2_ ⟨v547, v550, rfl, ho0, ho1, hb⟩
                refine ⟨_, rfl, hb, (.slice Ao269 t533.length co269), (.slice Ao270 t536.length co270), (.slice Ao271 t543.length co271), v547, v550, rfl, ?_, ?_, ?_, ?_, ?_⟩
                ·exact Kd.R_mono (Kd.R_old HO535.out hb) (fun k_ hk_ => by (have a0_ := Latt.old_ne hk_.2 (Kd.R_base ho0); exact zs hk_))
                ·exact Kd.S_mono (Kd.S_old HO538.out hb) (fun k_ hk_ => by (have a0_ := Latt.old_ne hk_.2 (Kd.R_base ho0); have a1_ := Latt.old_ne hk_.2 (Kd.S_base ho1); exact zs hk_))
                ·exact Kd.R_mono (Kd.R_old HO545.out hb) (fun k_ hk_ => by (have a0_ := Latt.old_ne hk_.2 (Kd.R_base ho0); exact zs hk_))
                ·exact Kd.R_lower (Kd.R_mono (Kd.R_bound ho0) (fun k_ hk_ => by (have a0_ := Kd.fresh' (Kd.R_lt HO535.out) k_ hk_.2.1; have a1_ := Kd.fresh' (Kd.R_lt HO545.out) k_ hk_.2.1; exact zs hk_))) (below_size hb0_)
                ·exact Kd.S_lower (Kd.S_mono (Kd.S_bound ho1) (fun k_ hk_ => by (have a0_ := Kd.fresh' (Kd.R_lt HO535.out) k_ hk_.2.1; have a1_ := Kd.fresh' (Kd.S_lt HO538.out) k_ hk_.2.1; have a2_ := Kd.fresh' (Kd.R_lt HO545.out) k_ hk_.2.1; exact zs hk_))) (below_size hb0_)
              case hb1 => exact ⟨_, rfl, rfl, rfl, fun a_ w1_ => by first | (go_simp; done) | (go_simp; rfl)⟩
              case hb2 => exact ⟨_, rfl, rfl, rfl, fun a_ w1_ => by first | (go_simp; done) | (go_simp; rfl)⟩
              case hpost =>
               intro b1 b2 o1 o2 fu ac w1_ e1_ e2_ hs_ h_ hk_
               obtain ⟨v534, v537, v544, v547, v550, rfl, HO535, HO538, HO545, HO548, HO551⟩ := h_
               rcases o1 with _ | g1_ <;> rcases o2 with _ | g2_
               ·subst e1_; subst e2_
                refine norm_ (a' := ?_) ?_ ?_
                rotate_left
                ·simp only [Latt.bx, Act.put, sT, sZ, sS]
                 rfl
                refine pure_ (i := 7) (N := some 115) (v := ?_) (a' := ?_) #[true, true, true, true, true, true, true, true, false, false, false, false, false, false, false, false] rfl rfl (any_of HT_.out (by kernel_rfl)) (fun _ _ _ h => h) (Or.inl ⟨by rfl, ?_⟩) ?_ ?_
                rotate_left
                ·intro w'
                 go_simp
                 with_reducible rfl
                rotate_left
                ·simp only [Act.put, sT, sZ, sS, i64_w, i32_w]
                 rfl
                refine pure_ (i := 8) (N := some 123) (v := ?_) (a' := ?_) #[true, true, true, true, true, true, true, true, true, false, false, false, false, false, false, false] rfl rfl (any_of HT_.out (by kernel_rfl)) (fun _ _ _ h => h) (Or.inl ⟨by rfl, ?_⟩) ?_ ?_
                rotate_left
                ·intro w'
                 go_simp
                 with_reducible rfl
                rotate_left
                ·simp only [Act.put, sT, sZ, sS, i64_w, i32_w]
                 rfl
                refine pure_ (i := 9) (N := some 124) (v := ?_) (a' := ?_) #[true, true, true, true, true, true, true, true, true, true, false, false, false, false, false, false] rfl rfl (any_of HT_.out (by kernel_rfl)) (fun _ _ _ h => h) (Or.inl ⟨by rfl, ?_⟩) ?_ ?_
                rotate_left
                ·intro w'
                 go_simp
                 with_reducible rfl
                rotate_left
                ·simp only [Act.put, sT, sZ, sS, i64_w, i32_w]
                 rfl
                refine pure_ (i := 10) (N := some 125) (v := ?_) (a' := ?_) #[true, true, true, true, true, true, true, true, true, true, true, false, false, false, false, false] rfl rfl (any_of HT_.out (by kernel_rfl)) (fun _ _ _ h => h) (Or.inl ⟨by rfl, ?_⟩) ?_ ?_
                rotate_left
                ·intro w'
                 go_simp
                 with_reducible rfl
                rotate_left
                ·simp only [Act.put, sT, sZ, sS, i64_w, i32_w]
                 rfl
                exact norm_ (by first | (simp only [Latt.bx, Act.put, sT, sZ, sS]; done) | (simp only [Latt.bx, Act.put, sT, sZ, sS]; rfl)) (hk_ _ ⟨v534, v537, v544, v547, v550, rfl, HO535, HO538, HO545, HO548, HO551⟩)
               ·subst e1_; subst e2_
                refine norm_ (a' := ?_) ?_ ?_
                rotate_left
                ·simp only [Latt.bx, Act.put, sT, sZ, sS]
                 rfl
                refine pure_ (i := 7) (N := some 115) (v := ?_) (a' := ?_) #[true, true, true, true, true, true, true, true, false, false, false, false, true, false, false, false] rfl rfl (any_of HT_.out (by kernel_rfl)) (fun _ _ _ h => h) (Or.inl ⟨by rfl, ?_⟩) ?_ ?_
                rotate_left
                ·intro w'
                 go_simp
                 with_reducible rfl
                rotate_left
                ·simp only [Act.put, sT, sZ, sS, i64_w, i32_w]
                 rfl
                refine pure_ (i := 8) (N := some 123) (v := ?_) (a' := ?_) #[true, true, true, true, true, true, true, true, true, false, false, false, true, false, false, false] rfl rfl (any_of HT_.out (by kernel_rfl)) (fun _ _ _ h => h) (Or.inl ⟨by rfl, ?_⟩) ?_ ?_
                rotate_left
                ·intro w'
                 go_simp
                 with_reducible rfl
                rotate_left
                ·simp only [Act.put, sT, sZ, sS, i64_w, i32_w]
                 rfl
                refine pure_ (i := 9) (N := some 124) (v := ?_) (a' := ?_) #[true, true, true, true, true, true, true, true, true, true, false, false, true, false, false, false] rfl rfl (any_of HT_.out (by kernel_rfl)) (fun _ _ _ h => h) (Or.inl ⟨by rfl, ?_⟩) ?_ ?_
                rotate_left
                ·intro w'
                 go_simp
                 with_reducible rfl
                rotate_left
                ·simp only [Act.put, sT, sZ, sS, i64_w, i32_w]
                 rfl
                refine pure_ (i := 10) (N := some 125) (v := ?_) (a' := ?_) #[true, true, true, true, true, true, true, true, true, true, true, false, true, false, false, false] rfl rfl (any_of HT_.out (by kernel_rfl)) (fun _ _ _ h => h) (Or.inl ⟨by rfl, ?_⟩) ?_ ?_
                rotate_left
                ·intro w'
                 go_simp
                 with_reducible rfl
                rotate_left
                ·simp only [Act.put, sT, sZ, sS, i64_w, i32_w]
                 rfl
                exact norm_ (by first | (simp only [Latt.bx, Act.put, sT, sZ, sS]; done) | (simp only [Latt.bx, Act.put, sT, sZ, sS]; rfl)) (hk_ _ ⟨v534, v537, v544, v547, v550, rfl, HO535, HO538, HO545, HO548, HO551⟩)
               ·subst e1_; subst e2_
                refine norm_ (a' := ?_) ?_ ?_
                rotate_left
                ·simp only [Latt.bx, Act.put, sT, sZ, sS]
                 rfl
                refine pure_ (i := 7) (N := some 115) (v := ?_) (a' := ?_) #[true, true, true, true, true, true, true, true, false, false, false, true, false, false, false, false] rfl rfl (any_of HT_.out (by kernel_rfl)) (fun _ _ _ h => h) (Or.inl ⟨by rfl, ?_⟩) ?_ ?_
                rotate_left
                ·intro w'
                 go_simp
                 with_reducible rfl
                rotate_left
                ·simp only [Act.put, sT, sZ, sS, i64_w, i32_w]
                 rfl
                refine pure_ (i := 8) (N := some 123) (v := ?_) (a' := ?_) #[true, true, true, true, true, true, true, true, true, false, false, true, false, false, false, false] rfl rfl (any_of HT_.out (by kernel_rfl)) (fun _ _ _ h => h) (Or.inl ⟨by rfl, ?_⟩) ?_ ?_
                rotate_left
                ·intro w'
                 go_simp
                 with_reducible rfl
                rotate_left
                ·simp only [Act.put, sT, sZ, sS, i64_w, i32_w]
                 rfl
                refine pure_ (i := 9) (N := some 124) (v := ?_) (a' := ?_) #[true, true, true, true, true, true, true, true, true, true, false, true, false, false, false, false] rfl rfl (any_of HT_.out (by kernel_rfl)) (fun _ _ _ h => h) (Or.inl ⟨by rfl, ?_⟩) ?_ ?_
                rotate_left
                ·intro w'
                 go_simp
                 with_reducible rfl
                rotate_left
                ·simp only [Act.put, sT, sZ, sS, i64_w, i32_w]
                 rfl
                refine pure_ (i := 10) (N := some 125) (v := ?_) (a' := ?_) #[true, true, true, true, true, true, true, true, true, true, true, true, false, false, false, false] rfl rfl (any_of HT_.out (by kernel_rfl)) (fun _ _ _ h => h) (Or.inl ⟨by rfl, ?_⟩) ?_ ?_
                rotate_left
                ·intro w'
                 go_simp
                 with_reducible rfl
                rotate_left
                ·simp only [Act.put, sT, sZ, sS, i64_w, i32_w]
                 rfl
                exact norm_ (by first | (simp only [Latt.bx, Act.put, sT, sZ, sS]; done) | (simp only [Latt.bx, Act.put, sT, sZ, sS]; rfl)) (hk_ _ ⟨v534, v537, v544, v547, v550, rfl, HO535, HO538, HO545, HO548, HO551⟩)
               ·subst e1_; subst e2_
                refine norm_ (a' := ?_) ?_ ?_
                rotate_left
                ·simp only [Latt.bx, Act.put, sT, sZ, sS]
                 rfl
                refine pure_ (i := 7) (N := some 115) (v := ?_) (a' := ?_) #[true, true, true, true, true, true, true, true, false, false, false, true, true, false, false, false] rfl rfl (any_of HT_.out (by kernel_rfl)) (fun _ _ _ h => h) (Or.inl ⟨by rfl, ?_⟩) ?_ ?_
                rotate_left
                ·intro w'
                 go_simp
                 with_reducible rfl
                rotate_left
                ·simp only [Act.put, sT, sZ, sS, i64_w, i32_w]
                 rfl
                refine pure_ (i := 8) (N := some 123) (v := ?_) (a' := ?_) #[true, true, true, true, true, true, true, true, true, false, false, true, true, false, false, false] rfl rfl (any_of HT_.out (by kernel_rfl)) (fun _ _ _ h => h) (Or.inl ⟨by rfl, ?_⟩) ?_ ?_
                rotate_left
                ·intro w'
                 go_simp
                 with_reducible rfl
                rotate_left
                ·simp only [Act.put, sT, sZ, sS, i64_w, i32_w]
                 rfl
                refine pure_ (i := 9) (N := some 124) (v := ?_) (a' := ?_) #[true, true, true, true, true, true, true, true, true, true, false, true, true, false, false, false] rfl rfl (any_of HT_.out (by kernel_rfl)) (fun _ _ _ h => h) (Or.inl ⟨by rfl, ?_⟩) ?_ ?_
                rotate_left
                ·intro w'
                 go_simp
                 with_reducible rfl
                rotate_left
                ·simp only [Act.put, sT, sZ, sS, i64_w, i32_w]
                 rfl
                refine pure_ (i := 10) (N := some 125) (v := ?_) (a' := ?_) #[true, true, true, true, true, true, true, true, true, true, true, true, true, false, false, false] rfl rfl (any_of HT_.out (by kernel_rfl)) (fun _ _ _ h => h) (Or.inl ⟨by rfl, ?_⟩) ?_ ?_
                rotate_left
                ·intro w'
                 go_simp
                 with_reducible rfl
                rotate_left
                ·simp only [Act.put, sT, sZ, sS, i64_w, i32_w]
                 rfl
                exact norm_ (by first | (simp only [Latt.bx, Act.put, sT, sZ, sS]; done) | (simp only [Latt.bx, Act.put, sT, sZ, sS]; rfl)) (hk_ _ ⟨v534, v537, v544, v547, v550, rfl, HO535, HO538, HO545, HO548, HO551⟩)
              case hfin =>
               intro ac w1_ g1_ g2_ hb_ h_ hg1_ hg2_ hne_ hx1_ hx2_
               obtain ⟨v534, v537, v544, v547, v550, rfl, HO535, HO538, HO545, HO548, HO551⟩ := h_
               exact norm_ (by first | (simp only [putAll, Act.put, sT, sZ, sS]; done) | (simp only [putAll, Act.put, sT, sZ, sS]; rfl)) (hJ1_3_5_6_11_12 (v534, v537, v544, v547, v550, g1_, g2_) _ ⟨hS_ _ hb_, Kd.R_lower (Kd.R_mono (Kd.R_bound HO535) (fun k_ hk_ => by (have a0_ := Kd.fresh' (Kd.R_lt HO_483000.out) k_ hk_.2.1; have a1_ := Kd.fresh' (Kd.R_lt HO_491000.out) k_ hk_.2.1; have a2_ := Kd.fresh' (Kd.R_lt HO_510000.out) k_ hk_.2.1; exact zs hk_))) hsz_, Kd.S_lower (Kd.S_mono (Kd.S_bound HO538) (fun k_ hk_ => by (have a0_ := Kd.fresh' (Kd.R_lt HO_483000.out) k_ hk_.2.1; have a1_ := Kd.fresh' (Kd.S_lt HO_483001.out) k_ hk_.2.1; have a2_ := Kd.fresh' (Kd.R_lt HO_491000.out) k_ hk_.2.1; have a3_ := Kd.fresh' (Kd.S_lt HO_491001.out) k_ hk_.2.1; have a4_ := Kd.fresh' (Kd.R_lt HO_510000.out) k_ hk_.2.1; have a5_ := Kd.fresh' (Kd.S_lt HO_510001.out) k_ hk_.2.1; exact zs hk_))) hsz_, Kd.R_lower (Kd.R_mono (Kd.R_bound HO545) (fun k_ hk_ => by (have a0_ := Kd.fresh' (Kd.R_lt HO_483000.out) k_ hk_.2.1; have a1_ := Kd.fresh' (Kd.R_lt HO_491000.out) k_ hk_.2.1; have a2_ := Kd.fresh' (Kd.R_lt HO_510000.out) k_ hk_.2.1; exact zs hk_))) hsz_, Kd.R_lower (Kd.R_mono (Kd.R_bound HO548) (fun k_ hk_ => by (have a0_ := Kd.fresh' (Kd.R_lt HO_483000.out) k_ hk_.2.1; have a1_ := Kd.fresh' (Kd.R_lt HO_491000.out) k_ hk_.2.1; have a2_ := Kd.fresh' (Kd.R_lt HO_510000.out) k_ hk_.2.1; exact zs hk_))) hsz_, Kd.S_lower (Kd.S_mono (Kd.S_bound HO551) (fun k_ hk_ => by (have a0_ := Kd.fresh' (Kd.R_lt HO_483000.out) k_ hk_.2.1; have a1_ := Kd.fresh' (Kd.S_lt HO_483001.out) k_ hk_.2.1; have a2_ := Kd.fresh' (Kd.R_lt HO_491000.out) k_ hk_.2.1; have a3_ := Kd.fresh' (Kd.S_lt HO_491001.out) k_ hk_.2.1; have a4_ := Kd.fresh' (Kd.R_lt HO_510000.out) k_ hk_.2.1; have a5_ := Kd.fresh' (Kd.S_lt HO_510001.out) k_ hk_.2.1; exact zs hk_))) hsz_, Kd.R_mono (Kd.R_old HO_483000.out hb_) (fun k_ hk_ => by (have a0_ := Latt.old_ne hk_.2 (Kd.R_base HO535); have a1_ := Latt.old_ne hk_.2 (Kd.R_base HO545); have a2_ := Latt.old_ne hk_.2 (Kd.R_base HO548); exact zs hk_)), Kd.S_mono (Kd.S_old HO_483001.out hb_) (fun k_ hk_ => by (have a0_ := Latt.old_ne hk_.2 (Kd.R_base HO535); have a1_ := Latt.old_ne hk_.2 (Kd.S_base HO538); have a2_ := Latt.old_ne hk_.2 (Kd.R_base HO545); have a3_ := Latt.old_ne hk_.2 (Kd.R_base HO548); have a4_ := Latt.old_ne hk_.2 (Kd.S_base HO551); exact zs hk_)), Kd.R_mono (Kd.R_old HO_491000.out hb_) (fun k_ hk_ => by (have a0_ := Latt.old_ne hk_.2 (Kd.R_base HO535); have a1_ := Latt.old_ne hk_.2 (Kd.R_base HO545); have a2_ := Latt.old_ne hk_.2 (Kd.R_base HO548); exact zs hk_)), Kd.S_mono (Kd.S_old HO_491001.out hb_) (fun k_ hk_ => by (have a0_ := Latt.old_ne hk_.2 (Kd.R_base HO535); have a1_ := Latt.old_ne hk_.2 (Kd.S_base HO538); have a2_ := Latt.old_ne hk_.2 (Kd.R_base HO545); have a3_ := Latt.old_ne hk_.2 (Kd.R_base HO548); have a4_ := Latt.old_ne hk_.2 (Kd.S_base HO551); exact zs hk_)), Kd.R_mono (Kd.R_old HO_510000.out hb_) (fun k_ hk_ => by (have a0_ := Latt.old_ne hk_.2 (Kd.R_base HO535); have a1_ := Latt.old_ne hk_.2 (Kd.R_base HO545); have a2_ := Latt.old_ne hk_.2 (Kd.R_base HO548); exact zs hk_)), Kd.S_mono (Kd.S_old HO_510001.out hb_) (fun k_ hk_ => by (have a0_ := Latt.old_ne hk_.2 (Kd.R_base HO535); have a1_ := Latt.old_ne hk_.2 (Kd.S_base HO538); have a2_ := Latt.old_ne hk_.2 (Kd.R_base HO545); have a3_ := Latt.old_ne hk_.2 (Kd.R_base HO548); have a4_ := Latt.old_ne hk_.2 (Kd.S_base HO551); exact zs hk_)), blk_below BK455.out hb_, blk_below BK456.out hb_, blk_below BK482.out hb_, blk_below BK483.out hb_, blk_below BK490.out hb_, blk_below BK509.out hb_, blk_below BK510.out hb_, hx1_, hx2_, Nat.le_trans hsz_ hg1_, Nat.le_trans hsz_ hg1_, Nat.ne_of_lt (Nat.lt_of_lt_of_le (blk_lt BK455.out) hg1_), Nat.ne_of_gt (Nat.lt_of_lt_of_le (blk_lt BK455.out) hg1_), Nat.ne_of_lt (Nat.lt_of_lt_of_le (blk_lt BK456.out) hg1_), Nat.ne_of_gt (Nat.lt_of_lt_of_le (blk_lt BK456.out) hg1_), Nat.ne_of_lt (Nat.lt_of_lt_of_le (blk_lt BK482.out) hg1_), Nat.ne_of_gt (Nat.lt_of_lt_of_le (blk_lt BK482.out) hg1_), Nat.ne_of_lt (Nat.lt_of_lt_of_le (blk_lt BK483.out) hg1_), Nat.ne_of_gt (Nat.lt_of_lt_of_le (blk_lt BK483.out) hg1_), Nat.ne_of_lt (Nat.lt_of_lt_of_le (blk_lt BK490.out) hg1_), Nat.ne_of_gt (Nat.lt_of_lt_of_le (blk_lt BK490.out) hg1_), Nat.ne_of_lt (Nat.lt_of_lt_of_le (blk_lt BK509.out) hg1_), Nat.ne_of_gt (Nat.lt_of_lt_of_le (blk_lt BK509.out) hg1_), Nat.ne_of_lt (Nat.lt_of_lt_of_le (blk_lt BK510.out) hg1_), Nat.ne_of_gt (Nat.lt_of_lt_of_le (blk_lt BK510.out) hg1_), hne_.symm, hne_, Nat.le_trans hsz_ hg2_, Nat.le_trans hsz_ hg2_, Nat.ne_of_lt (Nat.lt_of_lt_of_le (blk_lt BK455.out) hg2_), Nat.ne_of_gt (Nat.lt_of_lt_of_le (blk_lt BK455.out) hg2_), Nat.ne_of_lt (Nat.lt_of_lt_of_le (blk_lt BK456.out) hg2_), Nat.ne_of_gt (Nat.lt_of_lt_of_le (blk_lt BK456.out) hg2_), Nat.ne_of_lt (Nat.lt_of_lt_of_le (blk_lt BK482.out) hg2_), Nat.ne_of_gt (Nat.lt_of_lt_of_le (blk_lt BK482.out) hg2_), Nat.ne_of_lt (Nat.lt_of_lt_of_le (blk_lt BK483.out) hg2_), Nat.ne_of_gt (Nat.lt_of_lt_of_le (blk_lt BK483.out) hg2_), Nat.ne_of_lt (Nat.lt_of_lt_of_le (blk_lt BK490.out) hg2_), Nat.ne_of_gt (Nat.lt_of_lt_of_le (blk_lt BK490.out) hg2_), Nat.ne_of_lt (Nat.lt_of_lt_of_le (blk_lt BK509.out) hg2_), Nat.ne_of_gt (Nat.lt_of_lt_of_le (blk_lt BK509.out) hg2_), Nat.ne_of_lt (Nat.lt_of_lt_of_le (blk_lt BK510.out) hg2_), Nat.ne_of_gt (Nat.lt_of_lt_of_le (blk_lt BK510.out) hg2_), below_step HB.out hb_⟩)
             rintro ⟨v534, v537, v544, v547, v550, gb557, gb558⟩ w274 ⟨hS_, h0_, h1_, h2_, h3_, h4_, h5_, h6_, h7_, h8_, h9_, h10_, h11_, h12_, h13_, h14_, h15_, h16_, h17_, h18_, h19_, h20_, h21_, h22_, h23_, h24_, h25_, h26_, h27_, h28_, h29_, h30_, h31_, h32_, h33_, h34_, h35_, h36_, h37_, h38_, h39_, h40_, h41_, h42_, h43_, h44_, h45_, h46_, h47_, h48_, h49_, h50_, h51_, h52_, h53_, h54_⟩
             have HO535 : Aside0 (Kd.R (Kd.int .u8) 5 w274 w.heap.size (fun k_ => Nb k_ v544 ∧ Nb k_ v547 ∧ Nb k_ (.slice Ao39 t471.length co39) ∧ Nb k_ (.slice Ao52 t525.1.length co52) ∧ Nb k_ (.slice Ao67 t498.length co67)) v534 t533) := ⟨h0_⟩
             have HO538 : Aside0 (Kd.S k96 96 w274 w.heap.size (fun k_ => Nb k_ v534 ∧ Nb k_ v544 ∧ Nb k_ v547 ∧ Nb k_ v550 ∧ Nb k_ (.slice Ao39 t471.length co39) ∧ Nb k_ (.slice Ao41 t474.length co41) ∧ Nb k_ (.slice Ao52 t525.1.length co52) ∧ Nb k_ (.slice Ao58 t487.length co58) ∧ Nb k_ (.slice Ao67 t498.length co67) ∧ Nb k_ (.slice Ao69 t501.length co69)) v537 t536) := ⟨h1_⟩
             have HO545 : Aside0 (Kd.R (Kd.int .u8) 5 w274 w.heap.size (fun k_ => Nb k_ v534 ∧ Nb k_ v547 ∧ Nb k_ (.slice Ao39 t471.length co39) ∧ Nb k_ (.slice Ao52 t525.1.length co52) ∧ Nb k_ (.slice Ao67 t498.length co67)) v544 t543) := ⟨h2_⟩
             have HO548 : Aside0 (Kd.R (Kd.int .u8) 5 w274 w.heap.size (fun k_ => Nb k_ v534 ∧ Nb k_ v544 ∧ Nb k_ (.slice Ao39 t471.length co39) ∧ Nb k_ (.slice Ao52 t525.1.length co52) ∧ Nb k_ (.slice Ao67 t498.length co67)) v547 t546) := ⟨h3_⟩
             have HO551 : Aside0 (Kd.S k96 96 w274 w.heap.size (fun k_ => Nb k_ v534 ∧ Nb k_ v537 ∧ Nb k_ v544 ∧ Nb k_ v547 ∧ Nb k_ (.slice Ao39 t471.length co39) ∧ Nb k_ (.slice Ao41 t474.length co41) ∧ Nb k_ (.slice Ao52 t525.1.length co52) ∧ Nb k_ (.slice Ao58 t487.length co58) ∧ Nb k_ (.slice Ao67 t498.length co67) ∧ Nb k_ (.slice Ao69 t501.length co69)) v550 t549) := ⟨h4_⟩
             replace HO_483000 : Aside0 (Kd.R (Kd.int .u8) 5 w274 w.heap.size (fun k_ => Nb k_ v534 ∧ Nb k_ v544 ∧ Nb k_ v547 ∧ Nb k_ (.slice Ao52 t525.1.length co52) ∧ Nb k_ (.slice Ao67 t498.length co67)) (.slice Ao39 t471.length co39) t471) := ⟨h5_⟩
             replace HO_483001 : Aside0 (Kd.S k96 96 w274 w.heap.size (fun k_ => Nb k_ v534 ∧ Nb k_ v537 ∧ Nb k_ v544 ∧ Nb k_ v547 ∧ Nb k_ v550 ∧ Nb k_ (.slice Ao39 t471.length co39) ∧ Nb k_ (.slice Ao52 t525.1.length co52) ∧ Nb k_ (.slice Ao58 t487.length co58) ∧ Nb k_ (.slice Ao67 t498.length co67) ∧ Nb k_ (.slice Ao69 t501.length co69) ∧ k_ < N1_ ∧ k_ < N3_) (.slice Ao41 t474.length co41) t474) := ⟨h6_⟩
             replace HO_491000 : Aside0 (Kd.R (Kd.int .u8) 5 w274 w.heap.size (fun k_ => Nb k_ v534 ∧ Nb k_ v544 ∧ Nb k_ v547 ∧ Nb k_ (.slice Ao39 t471.length co39) ∧ Nb k_ (.slice Ao67 t498.length co67)) (.slice Ao52 t525.1.length co52) t525.1) := ⟨h7_⟩
             replace HO_491001 : Aside0 (Kd.S k96 96 w274 w.heap.size (fun k_ => Nb k_ v534 ∧ Nb k_ v537 ∧ Nb k_ v544 ∧ Nb k_ v547 ∧ Nb k_ v550 ∧ Nb k_ (.slice Ao39 t471.length co39) ∧ Nb k_ (.slice Ao41 t474.length co41) ∧ Nb k_ (.slice Ao52 t525.1.length co52) ∧ Nb k_ (.slice Ao67 t498.length co67) ∧ Nb k_ (.slice Ao69 t501.length co69) ∧ k_ < N3_ ∧ N1_ ≤ k_) (.slice Ao58 t487.length co58) t525.2) := ⟨h8_⟩
             replace HO_510000 : Aside0 (Kd.R (Kd.int .u8) 5 w274 w.heap.size (fun k_ => Nb k_ v534 ∧ Nb k_ v544 ∧ Nb k_ v547 ∧ Nb k_ (.slice Ao39 t471.length co39) ∧ Nb k_ (.slice Ao52 t525.1.length co52)) (.slice Ao67 t498.length co67) t531.1) := ⟨h9_⟩
             replace HO_510001 : Aside0 (Kd.S k96 96 w274 w.heap.size (fun k_ => Nb k_ v534 ∧ Nb k_ v537 ∧ Nb k_ v544 ∧ Nb k_ v547 ∧ Nb k_ v550 ∧ Nb k_ (.slice Ao39 t471.length co39) ∧ Nb k_ (.slice Ao41 t474.length co41) ∧ Nb k_ (.slice Ao52 t525.1.length co52) ∧ Nb k_ (.slice Ao58 t487.length co58) ∧ Nb k_ (.slice Ao67 t498.length co67) ∧ N3_ ≤ k_) (.slice Ao69 t501.length co69) t531.2) := ⟨h10_⟩
             replace BK455 : Aside0 (w274.heap[gb455]? = some (.cells #[.slice A0_0 l0_0.length c0_0, .slice A0_1 l0_1.length c0_1] 25 (0, 0))) := ⟨h11_⟩
             replace BK456 : Aside0 (w274.heap[gb456]? = some (.cells #[.int .i64 a1_0, .int .i64 a1_1, .int .i64 a1_2, .int .i64 a1_3] 27 (0, 0))) := ⟨h12_⟩
             replace BK482 : Aside0 (w274.heap[gb482]? = some (.cells #[.slice Ao39 t471.length co39, .slice Ao41 t474.length co41] 31 (0, 0))) := ⟨h13_⟩
             replace BK483 : Aside0 (w274.heap[gb483]? = some (.cells #[.int .i64 t477, .int .i64 t478, .int .i64 t479, .int .i64 t480] 32 (0, 0))) := ⟨h14_⟩
             replace BK490 : Aside0 (w274.heap[gb490]? = some (.cells #[.slice Ao52 t525.1.length co52, .slice Ao58 t487.length co58] 31 (0, 0))) := ⟨h15_⟩
             replace BK509 : Aside0 (w274.heap[gb509]? = some (.cells #[.slice Ao67 t498.length co67, .slice Ao69 t501.length co69] 31 (0, 0))) := ⟨h16_⟩
             replace BK510 : Aside0 (w274.heap[gb510]? = some (.cells #[.int .i64 t504, .int .i64 t505, .int .i64 t506, .int .i64 t507] 32 (0, 0))) := ⟨h17_⟩
             have BK557 : Aside0 (w274.heap[gb557]? = some (.cells #[.slice none 0 0, .slice none 0 0] 31 (0, 0))) := ⟨h18_⟩
             have BK558 : Aside0 (w274.heap[gb558]? = some (.cells #[.int .i64 0, .int .i64 0, .int .i64 0, .int .i64 0] 32 (0, 0))) := ⟨h19_⟩
             have GW557 : Aside0 (w.heap.size ≤ gb557) := ⟨h20_⟩
             have GE557 : Aside0 (w.heap.size ≤ gb557) := ⟨h21_⟩
             have NB455_557 : Aside0 (gb455 ≠ gb557) := ⟨h22_⟩
             have NB557_455 : Aside0 (gb557 ≠ gb455) := ⟨h23_⟩
             have NB456_557 : Aside0 (gb456 ≠ gb557) := ⟨h24_⟩
             have NB557_456 : Aside0 (gb557 ≠ gb456) := ⟨h25_⟩
             have NB482_557 : Aside0 (gb482 ≠ gb557) := ⟨h26_⟩
             have NB557_482 : Aside0 (gb557 ≠ gb482) := ⟨h27_⟩
             have NB483_557 : Aside0 (gb483 ≠ gb557) := ⟨h28_⟩
             have NB557_483 : Aside0 (gb557 ≠ gb483) := ⟨h29_⟩
             have NB490_557 : Aside0 (gb490 ≠ gb557) := ⟨h30_⟩
             have NB557_490 : Aside0 (gb557 ≠ gb490) := ⟨h31_⟩
             have NB509_557 : Aside0 (gb509 ≠ gb557) := ⟨h32_⟩
             have NB557_509 : Aside0 (gb557 ≠ gb509) := ⟨h33_⟩
             have NB510_557 : Aside0 (gb510 ≠ gb557) := ⟨h34_⟩
             have NB557_510 : Aside0 (gb557 ≠ gb510) := ⟨h35_⟩
             have NB558_557 : Aside0 (gb558 ≠ gb557) := ⟨h36_⟩
             have NB557_558 : Aside0 (gb557 ≠ gb558) := ⟨h37_⟩
             have GW558 : Aside0 (w.heap.size ≤ gb558) := ⟨h38_⟩
             have GE558 : Aside0 (w.heap.size ≤ gb558) := ⟨h39_⟩
             have NB455_558 : Aside0 (gb455 ≠ gb558) := ⟨h40_⟩
             have NB558_455 : Aside0 (gb558 ≠ gb455) := ⟨h41_⟩
             have NB456_558 : Aside0 (gb456 ≠ gb558) := ⟨h42_⟩
             have NB558_456 : Aside0 (gb558 ≠ gb456) := ⟨h43_⟩
             have NB482_558 : Aside0 (gb482 ≠ gb558) := ⟨h44_⟩
             have NB558_482 : Aside0 (gb558 ≠ gb482) := ⟨h45_⟩
             have NB483_558 : Aside0 (gb483 ≠ gb558) := ⟨h46_⟩
             have NB558_483 : Aside0 (gb558 ≠ gb483) := ⟨h47_⟩
             have NB490_558 : Aside0 (gb490 ≠ gb558) := ⟨h48_⟩
             have NB558_490 : Aside0 (gb558 ≠ gb490) := ⟨h49_⟩
             have NB509_558 : Aside0 (gb509 ≠ gb558) := ⟨h50_⟩
             have NB558_509 : Aside0 (gb558 ≠ gb509) := ⟨h51_⟩
             have NB510_558 : Aside0 (gb510 ≠ gb558) := ⟨h52_⟩
             have NB558_510 : Aside0 (gb558 ≠ gb510) := ⟨h53_⟩
             replace HB : Aside0 (Below w.heap.size w w274) := ⟨h54_⟩
             clear h0_ h1_ h2_ h3_ h4_ h5_ h6_ h7_ h8_ h9_ h10_ h11_ h12_ h13_ h14_ h15_ h16_ h17_ h18_ h19_ h20_ h21_ h22_ h23_ h24_ h25_ h26_ h27_ h28_ h29_ h30_ h31_ h32_ h33_ h34_ h35_ h36_ h37_ h38_ h39_ h40_ h41_ h42_ h43_ h44_ h45_ h46_ h47_ h48_ h49_ h50_ h51_ h52_ h53_ h54_
             have hHeld : w274.cell? ⟨gb455, 0, none⟩ = some (.slice A0_0 l0_0.length c0_0) ∧ w274.cell? ⟨gb455, 1, none⟩ = some (.slice A0_1 l0_1.length c0_1) ∧ w274.cell? ⟨gb456, 0, none⟩ = some (.int .i64 a1_0) ∧ w274.cell? ⟨gb456, 1, none⟩ = some (.int .i64 a1_1) ∧ w274.cell? ⟨gb456, 2, none⟩ = some (.int .i64 a1_2) ∧ w274.cell? ⟨gb456, 3, none⟩ = some (.int .i64 a1_3) := hS_
             obtain ⟨Ao275, co275, eo275⟩ := Kd.R_slice HO548.out
             (first | subst eo275 | (injection eo275 with f1_ f2_ f3_; have f4_ := f1_.symm; have f5_ := f3_.symm; clear f1_ f2_ f3_; subst f4_; subst f5_))
             obtain ⟨Ao277, co277, eo277⟩ := Kd.S_slice HO551.out
             (first | subst eo277 | (injection eo277 with f1_ f2_ f3_; have f4_ := f1_.symm; have f5_ := f3_.symm; clear f1_ f2_ f3_; subst f4_; subst f5_))
             refine norm_ (a' := ?_) ?_ ?_
             rotate_left
             ·simp only [putAll, Act.put, sT, sZ, sS]
              rfl
             refine one_ (i := 13) (N := none) #[true, true, true, true, true, true, true, true, true, true, true, true, true, true, false, false] rfl rfl (one_of HT_.out (by kernel_rfl)) (by decide) (fun K hK => ?_)
             have hs276 := zk0 BK557.out
             have hfs276 := blk_frozen BK557.out 0
             have hns276_0 := NB455_557.out
             have hns276_1 := NB456_557.out
             have hns276_2 := NB482_557.out
             have hns276_3 := NB483_557.out
             have hns276_4 := NB490_557.out
             have hns276_5 := NB509_557.out
             have hns276_6 := NB510_557.out
             have hns276_8 := NB558_557.out
             have hms276_0 := NB557_455.out
             have hms276_1 := NB557_456.out
             have hms276_2 := NB557_482.out
             have hms276_3 := NB557_483.out
             have hms276_4 := NB557_490.out
             have hms276_5 := NB557_509.out
             have hms276_6 := NB557_510.out
             have hms276_8 := NB557_558.out
             have hs278 := zk1 BK557.out
             have hfs278 := blk_frozen BK557.out 1
             refine skip_ (w1 := ?_) (by rfl) rfl ?_ ?_
             rotate_left
             ·go_simp
              rfl
             refine hK.out _ _ ⟨(zg NB455_557.out hHeld.1), (zg NB455_557.out hHeld.2.1), (zg NB456_557.out hHeld.2.2.1), (zg NB456_557.out hHeld.2.2.2.1), (zg NB456_557.out hHeld.2.2.2.2.1), (zg NB456_557.out hHeld.2.2.2.2.2)⟩ (fun hHeld => ?_)
             clear hK K
             refine one_ (i := 14) (N := none) #[true, true, true, true, true, true, true, true, true, true, true, true, true, true, true, false] rfl rfl (one_of HT_.out (by kernel_rfl)) (by decide) (fun K hK => ?_)
             have hs279 := zk0 BK558.out
             have hfs279 := blk_frozen BK558.out 0
             have hns279_0 := NB455_558.out
             have hns279_1 := NB456_558.out
             have hns279_2 := NB482_558.out
             have hns279_3 := NB483_558.out
             have hns279_4 := NB490_558.out
             have hns279_5 := NB509_558.out
             have hns279_6 := NB510_558.out
             have hns279_7 := NB557_558.out
             have hms279_0 := NB558_455.out
             have hms279_1 := NB558_456.out
             have hms279_2 := NB558_482.out
             have hms279_3 := NB558_483.out
             have hms279_4 := NB558_490.out
             have hms279_5 := NB558_509.out
             have hms279_6 := NB558_510.out
             have hms279_7 := NB558_557.out
             have hs280 := zk1 BK558.out
             have hfs280 := blk_frozen BK558.out 1
             have hs281 := zk2 BK558.out
             have hfs281 := blk_frozen BK558.out 2
             have hs282 := zk3 BK558.out
             have hfs282 := blk_frozen BK558.out 3
             refine skip_ (w1 := ?_) (by rfl) rfl ?_ ?_
             rotate_left
             ·go_simp
              rfl
             refine hK.out _ _ ⟨((cell_far (p := ⟨gb558, _, none⟩) NB455_558.out _).trans (((cell_far (p := ⟨gb558, _, none⟩) NB455_558.out _).trans ((zg NB455_558.out hHeld.1))))), ((cell_far (p := ⟨gb558, _, none⟩) NB455_558.out _).trans (((cell_far (p := ⟨gb558, _, none⟩) NB455_558.out _).trans ((zg NB455_558.out hHeld.2.1))))), ((cell_far (p := ⟨gb558, _, none⟩) NB456_558.out _).trans (((cell_far (p := ⟨gb558, _, none⟩) NB456_558.out _).trans ((zg NB456_558.out hHeld.2.2.1))))), ((cell_far (p := ⟨gb558, _, none⟩) NB456_558.out _).trans (((cell_far (p := ⟨gb558, _, none⟩) NB456_558.out _).trans ((zg NB456_558.out hHeld.2.2.2.1))))), ((cell_far (p := ⟨gb558, _, none⟩) NB456_558.out _).trans (((cell_far (p := ⟨gb558, _, none⟩) NB456_558.out _).trans ((zg NB456_558.out hHeld.2.2.2.2.1))))), ((cell_far (p := ⟨gb558, _, none⟩) NB456_558.out _).trans (((cell_far (p := ⟨gb558, _, none⟩) NB456_558.out _).trans ((zg NB456_558.out hHeld.2.2.2.2.2)))))⟩ (fun hHeld => ?_)
             clear hK K
             refine pure_ (i := 15) (N := some 21) (v := ?_) (a' := ?_) #[true, true, true, true, true, true, true, true, true, true, true, true, true, true, true, true] rfl rfl (any_of HT_.out (by kernel_rfl)) (fun _ _ _ h => h) (Or.inl ⟨by rfl, ?_⟩) ?_ ?_
             rotate_left
             ·intro w'
              go_simp
              with_reducible rfl
             rotate_left
             ·simp only [Act.put, sT, sZ, sS, i64_w, i32_w]
              rfl
             refine done_ (done_of HT_.out (by kernel_rfl)) ?_
             go_upto_region 31 with (fail)
             go_cut [140] (fun v140 wc => ∃ (kq : Nat) (x140_252 : Bool), v140 = .bool x140_252 ∧ Aside0 (laws_FnExactLogAdd.j2 kq t530 x140_252 t531.1 t531.2 = some r) ∧ Aside0 (kq ≤ kj149) ∧ Aside0 (Kd.R (Kd.int .u8) 5 wc w.heap.size (fun k_ => some k_ ≠ ((.slice Ao52 t525.1.length co52) : Value).ownBlock ∧ some k_ ≠ ((.slice Ao67 t498.length co67) : Value).ownBlock ∧ some k_ ≠ ((.slice Ao275 t546.length co275) : Value).ownBlock) (.slice Ao39 t471.length co39) t471) ∧ Aside0 (Kd.S k96 96 wc w.heap.size (fun k_ => some k_ ≠ ((.slice Ao39 t471.length co39) : Value).ownBlock ∧ some k_ ≠ ((.slice Ao52 t525.1.length co52) : Value).ownBlock ∧ some k_ ≠ ((.slice Ao58 t487.length co58) : Value).ownBlock ∧ some k_ ≠ ((.slice Ao67 t498.length co67) : Value).ownBlock ∧ some k_ ≠ ((.slice Ao69 t501.length co69) : Value).ownBlock ∧ some k_ ≠ ((.slice Ao275 t546.length co275) : Value).ownBlock ∧ some k_ ≠ ((.slice Ao277 t549.length co277) : Value).ownBlock ∧ k_ < N1_ ∧ k_ < N3_) (.slice Ao41 t474.length co41) t474) ∧ Aside0 (Kd.R (Kd.int .u8) 5 wc w.heap.size (fun k_ => some k_ ≠ ((.slice Ao39 t471.length co39) : Value).ownBlock ∧ some k_ ≠ ((.slice Ao67 t498.length co67) : Value).ownBlock ∧ some k_ ≠ ((.slice Ao275 t546.length co275) : Value).ownBlock) (.slice Ao52 t525.1.length co52) t525.1) ∧ Aside0 (Kd.S k96 96 wc w.heap.size (fun k_ => some k_ ≠ ((.slice Ao39 t471.length co39) : Value).ownBlock ∧ some k_ ≠ ((.slice Ao41 t474.length co41) : Value).ownBlock ∧ some k_ ≠ ((.slice Ao52 t525.1.length co52) : Value).ownBlock ∧ some k_ ≠ ((.slice Ao67 t498.length co67) : Value).ownBlock ∧ some k_ ≠ ((.slice Ao69 t501.length co69) : Value).ownBlock ∧ some k_ ≠ ((.slice Ao275 t546.length co275) : Value).ownBlock ∧ some k_ ≠ ((.slice Ao277 t549.length co277) : Value).ownBlock ∧ k_ < N3_ ∧ N1_ ≤ k_) (.slice Ao58 t487.length co58) t525.2) ∧ Aside0 (Kd.R (Kd.int .u8) 5 wc w.heap.size (fun k_ => some k_ ≠ ((.slice Ao39 t471.length co39) : Value).ownBlock ∧ some k_ ≠ ((.slice Ao52 t525.1.length co52) : Value).ownBlock ∧ some k_ ≠ ((.slice Ao275 t546.length co275) : Value).ownBlock) (.slice Ao67 t498.length co67) t531.1) ∧ Aside0 (Kd.S k96 96 wc w.heap.size (fun k_ => some k_ ≠ ((.slice Ao39 t471.length co39) : Value).ownBlock ∧ some k_ ≠ ((.slice Ao41 t474.length co41) : Value).ownBlock ∧ some k_ ≠ ((.slice Ao52 t525.1.length co52) : Value).ownBlock ∧ some k_ ≠ ((.slice Ao58 t487.length co58) : Value).ownBlock ∧ some k_ ≠ ((.slice Ao67 t498.length co67) : Value).ownBlock ∧ some k_ ≠ ((.slice Ao275 t546.length co275) : Value).ownBlock ∧ some k_ ≠ ((.slice Ao277 t549.length co277) : Value).ownBlock ∧ N3_ ≤ k_) (.slice Ao69 t501.length co69) t531.2) ∧ Aside0 (Kd.R (Kd.int .u8) 5 wc w.heap.size (fun k_ => some k_ ≠ ((.slice Ao39 t471.length co39) : Value).ownBlock ∧ some k_ ≠ ((.slice Ao52 t525.1.length co52) : Value).ownBlock ∧ some k_ ≠ ((.slice Ao67 t498.length co67) : Value).ownBlock) (.slice Ao275 t546.length co275) t546) ∧ Aside0 (Kd.S k96 96 wc w.heap.size (fun k_ => some k_ ≠ ((.slice Ao39 t471.length co39) : Value).ownBlock ∧ some k_ ≠ ((.slice Ao41 t474.length co41) : Value).ownBlock ∧ some k_ ≠ ((.slice Ao52 t525.1.length co52) : Value).ownBlock ∧ some k_ ≠ ((.slice Ao58 t487.length co58) : Value).ownBlock ∧ some k_ ≠ ((.slice Ao67 t498.length co67) : Value).ownBlock ∧ some k_ ≠ ((.slice Ao69 t501.length co69) : Value).ownBlock ∧ some k_ ≠ ((.slice Ao275 t546.length co275) : Value).ownBlock) (.slice Ao277 t549.length co277) t549) ∧ Aside0 (wc.heap[gb455]? = some (.cells #[(.slice A0_0 l0_0.length c0_0), (.slice A0_1 l0_1.length c0_1)] 25 (0, 0))) ∧ Aside0 (wc.heap[gb456]? = some (.cells #[.int .i64 a1_0, .int .i64 a1_1, .int .i64 a1_2, .int .i64 a1_3] 27 (0, 0))) ∧ Aside0 (wc.heap[gb482]? = some (.cells #[(.slice Ao39 t471.length co39), (.slice Ao41 t474.length co41)] 31 (0, 0))) ∧ Aside0 (wc.heap[gb483]? = some (.cells #[.int .i64 t477, .int .i64 t478, .int .i64 t479, .int .i64 t480] 32 (0, 0))) ∧ Aside0 (wc.heap[gb490]? = some (.cells #[(.slice Ao52 t525.1.length co52), (.slice Ao58 t487.length co58)] 31 (0, 0))) ∧ Aside0 (wc.heap[gb509]? = some (.cells #[(.slice Ao67 t498.length co67), (.slice Ao69 t501.length co69)] 31 (0, 0))) ∧ Aside0 (wc.heap[gb510]? = some (.cells #[.int .i64 t504, .int .i64 t505, .int .i64 t506, .int .i64 t507] 32 (0, 0))) ∧ Aside0 (wc.heap[gb557]? = some (.cells #[(.slice Ao275 t546.length co275), (.slice Ao277 t549.length co277)] 31 (0, 0))) ∧ Aside0 (wc.heap[gb558]? = some (.cells #[.int .i64 t552, .int .i64 t553, .int .i64 t554, .int .i64 t555] 32 (0, 0))) ∧ Aside0 (Below w.heap.size w wc))
             case first =>
              have H := HC253.out
              clear HC253
              replace H := Option.bind_eq_some_iff.mp H
              obtain ⟨t559, A2830, H⟩ := H
              have A283 := Ak A2830
              clear A2830
              by_cases c284 : t559 = true
              ·subst c284
               have H1 : ((laws_eqLog.f t552 t553 t554 t555 t477 t478 t479 t480).bind fun t560 => (if t560 = true then (laws_FnExactLogAdd.j2 kj149 t530 (t556 != t481) t531.1 t531.2) else (laws_FnExactLogAdd.j2 kj149 t530 true t531.1 t531.2))) = some r := by rw [if_pos rfl] at H; exact H
               clear H
               have H := H1
               clear H1
               replace H := Option.bind_eq_some_iff.mp H
               obtain ⟨t560, A2850, H⟩ := H
               have A285 := Ak A2850
               clear A2850
               by_cases c286 : t560 = true
               ·subst c286
                have H1 : (laws_FnExactLogAdd.j2 kj149 t530 (t556 != t481) t531.1 t531.2) = some r := by rw [if_pos rfl] at H; exact H
                clear H
                have H := H1
                clear H1
                have H' := Ak H
                clear H
                have hnb287 := NB557_455.out
                have hnc287 := NB455_557.out
                have hnb288 := NB557_456.out
                have hnc288 := NB456_557.out
                have hnb289 := NB557_482.out
                have hnc289 := NB482_557.out
                have hnb290 := NB557_483.out
                have hnc290 := NB483_557.out
                have hnb291 := NB557_490.out
                have hnc291 := NB490_557.out
                have hnb292 := NB557_509.out
                have hnc292 := NB509_557.out
                have hnb293 := NB557_510.out
                have hnc293 := NB510_557.out
                have hnb294 := NB557_558.out
                have hnc294 := NB558_557.out
                have hcz295_0 := zk0 BK557.out
                have hcz295_1 := zk1 BK557.out
                have hfz295_0 := blk_frozen BK557.out 0
                have hfz295_1 := blk_frozen BK557.out 1
                have hnb296 := NB482_455.out
                have hnc296 := NB455_482.out
                have hnb297 := NB482_456.out
                have hnc297 := NB456_482.out
                have hnb298 := NB482_483.out
                have hnc298 := NB483_482.out
                have hnb299 := NB482_490.out
                have hnc299 := NB490_482.out
                have hnb300 := NB482_509.out
                have hnc300 := NB509_482.out
                have hnb301 := NB482_510.out
                have hnc301 := NB510_482.out
                have hnb302 := NB482_558.out
                have hnc302 := NB558_482.out
                have hcz303_0 := zk0 BK482.out
                have hcz303_1 := zk1 BK482.out
                have hfz303_0 := blk_frozen BK482.out 0
                have hfz303_1 := blk_frozen BK482.out 1
                go_wp2_with (first | ((with_reducible refine gate_callee (f := 14) rfl ?_); refine goesL_ (some 128) rfl rfl Try.func14 (by kernel_rfl) rfl #[.agg #[.slice Ao275 t546.length co275, .slice Ao277 t549.length co277], .agg #[.slice Ao39 t471.length co39, .slice Ao41 t474.length co41]] rfl gm ?_; (with_reducible refine (laws_eqDisk.calls kj149 _ _ t546 _ _ t549 _ _ t471 _ _ t474 true _ ?side1 ?side2 ?side3 ?side4 ?side5 ?side6 ?side7 ?side8 A283.out).mono ?_); (case side1 => refine (Kd.R_reads' (e := 5) (base := w.heap.size) (ok := fun k_ => (Nb k_ v534 ∧ (Nb k_ v544 ∧ (Nb k_ (.slice Ao39 t471.length co39) ∧ (Nb k_ (.slice Ao52 t525.1.length co52) ∧ Nb k_ (.slice Ao67 t498.length co67)))))) (n := t546.length) (c := co275) ?_).2.2; exact (by refine rq ?_; exact (Kd.R_mono (Kd.R_mono (Kd.R_far (p := ⟨gb558, 3, none⟩) (Kd.R_far (p := ⟨gb558, 2, none⟩) (Kd.R_far (p := ⟨gb558, 1, none⟩) (Kd.R_far (p := ⟨gb558, 0, none⟩) (Kd.R_far (p := ⟨gb557, 1, none⟩) (Kd.R_far (p := ⟨gb557, 0, none⟩) (Kd.R_types (Kd.R_types HO548.out BK557.out (by decide)) BK558.out (by decide)) (fun _ hk => hk.1.2) (.slice Ao275 t546.length co275)) (fun _ hk => hk.1.2) (.slice Ao277 t549.length co277)) (fun _ hk => hk.2) (.int .i64 t552)) (fun _ hk => hk.2) (.int .i64 t553)) (fun _ hk => hk.2) (.int .i64 t554)) (fun _ hk => hk.2) (.int .i64 t555)) (fun _ h_ => h_.1)) (fun _ h_ => h_.1)))); (case side2 => exact (Kd.R_reads' HO548.out).2.1); (case side3 => refine (Kd.S_reads' (e := 96) (base := w.heap.size) (ok := fun k_ => (Nb k_ v534 ∧ (Nb k_ v537 ∧ (Nb k_ v544 ∧ (Nb k_ (.slice Ao275 t546.length co275) ∧ (Nb k_ (.slice Ao39 t471.length co39) ∧ (Nb k_ (.slice Ao41 t474.length co41) ∧ (Nb k_ (.slice Ao52 t525.1.length co52) ∧ (Nb k_ (.slice Ao58 t487.length co58) ∧ (Nb k_ (.slice Ao67 t498.length co67) ∧ Nb k_ (.slice Ao69 t501.length co69))))))))))) (n := t549.length) (c := co277) ?_).2.2; exact (by refine sq ?_; exact (Kd.S_mono (Kd.S_mono (Kd.S_far (p := ⟨gb558, 3, none⟩) (Kd.S_far (p := ⟨gb558, 2, none⟩) (Kd.S_far (p := ⟨gb558, 1, none⟩) (Kd.S_far (p := ⟨gb558, 0, none⟩) (Kd.S_far (p := ⟨gb557, 1, none⟩) (Kd.S_far (p := ⟨gb557, 0, none⟩) (Kd.S_types (Kd.S_types HO551.out BK557.out (by decide)) BK558.out (by decide)) (fun _ hk => hk.1.2) (.slice Ao275 t546.length co275)) (fun _ hk => hk.1.2) (.slice Ao277 t549.length co277)) (fun _ hk => hk.2) (.int .i64 t552)) (fun _ hk => hk.2) (.int .i64 t553)) (fun _ hk => hk.2) (.int .i64 t554)) (fun _ hk => hk.2) (.int .i64 t555)) (fun _ h_ => h_.1)) (fun _ h_ => h_.1)))); (case side4 => exact (Kd.S_reads' HO551.out).2.1); (case side5 => refine (Kd.R_reads' (e := 5) (base := w.heap.size) (ok := fun k_ => (Nb k_ v534 ∧ (Nb k_ v544 ∧ (Nb k_ (.slice Ao275 t546.length co275) ∧ (Nb k_ (.slice Ao52 t525.1.length co52) ∧ Nb k_ (.slice Ao67 t498.length co67)))))) (n := t471.length) (c := co39) ?_).2.2; exact (by refine rq ?_; exact (Kd.R_mono (Kd.R_mono (Kd.R_far (p := ⟨gb558, 3, none⟩) (Kd.R_far (p := ⟨gb558, 2, none⟩) (Kd.R_far (p := ⟨gb558, 1, none⟩) (Kd.R_far (p := ⟨gb558, 0, none⟩) (Kd.R_far (p := ⟨gb557, 1, none⟩) (Kd.R_far (p := ⟨gb557, 0, none⟩) (Kd.R_types (Kd.R_types HO_483000.out BK557.out (by decide)) BK558.out (by decide)) (fun _ hk => hk.1.2) (.slice Ao275 t546.length co275)) (fun _ hk => hk.1.2) (.slice Ao277 t549.length co277)) (fun _ hk => hk.2) (.int .i64 t552)) (fun _ hk => hk.2) (.int .i64 t553)) (fun _ hk => hk.2) (.int .i64 t554)) (fun _ hk => hk.2) (.int .i64 t555)) (fun _ h_ => h_.1)) (fun _ h_ => h_.1)))); (case side6 => exact (Kd.R_reads' HO_483000.out).2.1); (case side7 => refine (Kd.S_reads' (e := 96) (base := w.heap.size) (ok := fun k_ => (Nb k_ v534 ∧ (Nb k_ v537 ∧ (Nb k_ v544 ∧ (Nb k_ (.slice Ao275 t546.length co275) ∧ (Nb k_ (.slice Ao277 t549.length co277) ∧ (Nb k_ (.slice Ao39 t471.length co39) ∧ (Nb k_ (.slice Ao52 t525.1.length co52) ∧ (Nb k_ (.slice Ao58 t487.length co58) ∧ (Nb k_ (.slice Ao67 t498.length co67) ∧ Nb k_ (.slice Ao69 t501.length co69))))))))))) (n := t474.length) (c := co41) ?_).2.2; exact (by refine sq ?_; exact (Kd.S_mono (Kd.S_mono (Kd.S_far (p := ⟨gb558, 3, none⟩) (Kd.S_far (p := ⟨gb558, 2, none⟩) (Kd.S_far (p := ⟨gb558, 1, none⟩) (Kd.S_far (p := ⟨gb558, 0, none⟩) (Kd.S_far (p := ⟨gb557, 1, none⟩) (Kd.S_far (p := ⟨gb557, 0, none⟩) (Kd.S_types (Kd.S_types HO_483001.out BK557.out (by decide)) BK558.out (by decide)) (fun _ hk => hk.1.2) (.slice Ao275 t546.length co275)) (fun _ hk => hk.1.2) (.slice Ao277 t549.length co277)) (fun _ hk => hk.2) (.int .i64 t552)) (fun _ hk => hk.2) (.int .i64 t553)) (fun _ hk => hk.2) (.int .i64 t554)) (fun _ hk => hk.2) (.int .i64 t555)) (fun _ h_ => h_.1)) (fun k_ hk_ => zs hk_)))); (case side8 => exact (Kd.S_reads' HO_483001.out).2.1); rintro e w304 ⟨rfl, hb⟩; refine ⟨_, rfl, ?_⟩; replace HO_483000 := Ak (Kd.R_below (by (with_reducible repeat (first | apply Kd.R_alloc | apply Kd.R_drewN | apply Kd.R_drew)); exact (Kd.R_mono (Kd.R_mono (Kd.R_far (p := ⟨gb558, 3, none⟩) (Kd.R_far (p := ⟨gb558, 2, none⟩) (Kd.R_far (p := ⟨gb558, 1, none⟩) (Kd.R_far (p := ⟨gb558, 0, none⟩) (Kd.R_far (p := ⟨gb557, 1, none⟩) (Kd.R_far (p := ⟨gb557, 0, none⟩) (Kd.R_types (Kd.R_types HO_483000.out BK557.out (by decide)) BK558.out (by decide)) (fun _ hk => hk.1.2) (.slice Ao275 t546.length co275)) (fun _ hk => hk.1.2) (.slice Ao277 t549.length co277)) (fun _ hk => hk.2) (.int .i64 t552)) (fun _ hk => hk.2) (.int .i64 t553)) (fun _ hk => hk.2) (.int .i64 t554)) (fun _ hk => hk.2) (.int .i64 t555)) (fun _ h_ => h_.1)) (fun _ h_ => h_.1))) hb); replace HO_483001 := Ak (Kd.S_below (by (with_reducible repeat (first | apply Kd.S_alloc | apply Kd.S_drewN | apply Kd.S_drew)); exact (Kd.S_mono (Kd.S_mono (Kd.S_far (p := ⟨gb558, 3, none⟩) (Kd.S_far (p := ⟨gb558, 2, none⟩) (Kd.S_far (p := ⟨gb558, 1, none⟩) (Kd.S_far (p := ⟨gb558, 0, none⟩) (Kd.S_far (p := ⟨gb557, 1, none⟩) (Kd.S_far (p := ⟨gb557, 0, none⟩) (Kd.S_types (Kd.S_types HO_483001.out BK557.out (by decide)) BK558.out (by decide)) (fun _ hk => hk.1.2) (.slice Ao275 t546.length co275)) (fun _ hk => hk.1.2) (.slice Ao277 t549.length co277)) (fun _ hk => hk.2) (.int .i64 t552)) (fun _ hk => hk.2) (.int .i64 t553)) (fun _ hk => hk.2) (.int .i64 t554)) (fun _ hk => hk.2) (.int .i64 t555)) (fun _ h_ => h_.1)) (fun _ h_ => h_.1))) hb); replace HO_491000 := Ak (Kd.R_below (by (with_reducible repeat (first | apply Kd.R_alloc | apply Kd.R_drewN | apply Kd.R_drew)); exact (Kd.R_mono (Kd.R_mono (Kd.R_far (p := ⟨gb558, 3, none⟩) (Kd.R_far (p := ⟨gb558, 2, none⟩) (Kd.R_far (p := ⟨gb558, 1, none⟩) (Kd.R_far (p := ⟨gb558, 0, none⟩) (Kd.R_far (p := ⟨gb557, 1, none⟩) (Kd.R_far (p := ⟨gb557, 0, none⟩) (Kd.R_types (Kd.R_types HO_491000.out BK557.out (by decide)) BK558.out (by decide)) (fun _ hk => hk.1.2) (.slice Ao275 t546.length co275)) (fun _ hk => hk.1.2) (.slice Ao277 t549.length co277)) (fun _ hk => hk.2) (.int .i64 t552)) (fun _ hk => hk.2) (.int .i64 t553)) (fun _ hk => hk.2) (.int .i64 t554)) (fun _ hk => hk.2) (.int .i64 t555)) (fun _ h_ => h_.1)) (fun _ h_ => h_.1))) hb); replace HO_491001 := Ak (Kd.S_below (by (with_reducible repeat (first | apply Kd.S_alloc | apply Kd.S_drewN | apply Kd.S_drew)); exact (Kd.S_mono (Kd.S_mono (Kd.S_far (p := ⟨gb558, 3, none⟩) (Kd.S_far (p := ⟨gb558, 2, none⟩) (Kd.S_far (p := ⟨gb558, 1, none⟩) (Kd.S_far (p := ⟨gb558, 0, none⟩) (Kd.S_far (p := ⟨gb557, 1, none⟩) (Kd.S_far (p := ⟨gb557, 0, none⟩) (Kd.S_types (Kd.S_types HO_491001.out BK557.out (by decide)) BK558.out (by decide)) (fun _ hk => hk.1.2) (.slice Ao275 t546.length co275)) (fun _ hk => hk.1.2) (.slice Ao277 t549.length co277)) (fun _ hk => hk.2) (.int .i64 t552)) (fun _ hk => hk.2) (.int .i64 t553)) (fun _ hk => hk.2) (.int .i64 t554)) (fun _ hk => hk.2) (.int .i64 t555)) (fun _ h_ => h_.1)) (fun _ h_ => h_.1))) hb); replace HO_510000 := Ak (Kd.R_below (by (with_reducible repeat (first | apply Kd.R_alloc | apply Kd.R_drewN | apply Kd.R_drew)); exact (Kd.R_mono (Kd.R_mono (Kd.R_far (p := ⟨gb558, 3, none⟩) (Kd.R_far (p := ⟨gb558, 2, none⟩) (Kd.R_far (p := ⟨gb558, 1, none⟩) (Kd.R_far (p := ⟨gb558, 0, none⟩) (Kd.R_far (p := ⟨gb557, 1, none⟩) (Kd.R_far (p := ⟨gb557, 0, none⟩) (Kd.R_types (Kd.R_types HO_510000.out BK557.out (by decide)) BK558.out (by decide)) (fun _ hk => hk.1.2) (.slice Ao275 t546.length co275)) (fun _ hk => hk.1.2) (.slice Ao277 t549.length co277)) (fun _ hk => hk.2) (.int .i64 t552)) (fun _ hk => hk.2) (.int .i64 t553)) (fun _ hk => hk.2) (.int .i64 t554)) (fun _ hk => hk.2) (.int .i64 t555)) (fun _ h_ => h_.1)) (fun _ h_ => h_.1))) hb); replace HO_510001 := Ak (Kd.S_below (by (with_reducible repeat (first | apply Kd.S_alloc | apply Kd.S_drewN | apply Kd.S_drew)); exact (Kd.S_mono (Kd.S_mono (Kd.S_far (p := ⟨gb558, 3, none⟩) (Kd.S_far (p := ⟨gb558, 2, none⟩) (Kd.S_far (p := ⟨gb558, 1, none⟩) (Kd.S_far (p := ⟨gb558, 0, none⟩) (Kd.S_far (p := ⟨gb557, 1, none⟩) (Kd.S_far (p := ⟨gb557, 0, none⟩) (Kd.S_types (Kd.S_types HO_510001.out BK557.out (by decide)) BK558.out (by decide)) (fun _ hk => hk.1.2) (.slice Ao275 t546.length co275)) (fun _ hk => hk.1.2) (.slice Ao277 t549.length co277)) (fun _ hk => hk.2) (.int .i64 t552)) (fun _ hk => hk.2) (.int .i64 t553)) (fun _ hk => hk.2) (.int .i64 t554)) (fun _ hk => hk.2) (.int .i64 t555)) (fun _ h_ => h_.1)) (fun _ h_ => h_.1))) hb); replace HO535 := Ak (Kd.R_below (by (with_reducible repeat (first | apply Kd.R_alloc | apply Kd.R_drewN | apply Kd.R_drew)); exact (Kd.R_mono (Kd.R_mono (Kd.R_far (p := ⟨gb558, 3, none⟩) (Kd.R_far (p := ⟨gb558, 2, none⟩) (Kd.R_far (p := ⟨gb558, 1, none⟩) (Kd.R_far (p := ⟨gb558, 0, none⟩) (Kd.R_far (p := ⟨gb557, 1, none⟩) (Kd.R_far (p := ⟨gb557, 0, none⟩) (Kd.R_types (Kd.R_types HO535.out BK557.out (by decide)) BK558.out (by decide)) (fun _ hk => hk.1.2) (.slice Ao275 t546.length co275)) (fun _ hk => hk.1.2) (.slice Ao277 t549.length co277)) (fun _ hk => hk.2) (.int .i64 t552)) (fun _ hk => hk.2) (.int .i64 t553)) (fun _ hk => hk.2) (.int .i64 t554)) (fun _ hk => hk.2) (.int .i64 t555)) (fun _ h_ => h_.1)) (fun _ h_ => h_.1))) hb); replace HO538 := Ak (Kd.S_below (by (with_reducible repeat (first | apply Kd.S_alloc | apply Kd.S_drewN | apply Kd.S_drew)); exact (Kd.S_mono (Kd.S_mono (Kd.S_far (p := ⟨gb558, 3, none⟩) (Kd.S_far (p := ⟨gb558, 2, none⟩) (Kd.S_far (p := ⟨gb558, 1, none⟩) (Kd.S_far (p := ⟨gb558, 0, none⟩) (Kd.S_far (p := ⟨gb557, 1, none⟩) (Kd.S_far (p := ⟨gb557, 0, none⟩) (Kd.S_types (Kd.S_types HO538.out BK557.out (by decide)) BK558.out (by decide)) (fun _ hk => hk.1.2) (.slice Ao275 t546.length co275)) (fun _ hk => hk.1.2) (.slice Ao277 t549.length co277)) (fun _ hk => hk.2) (.int .i64 t552)) (fun _ hk => hk.2) (.int .i64 t553)) (fun _ hk => hk.2) (.int .i64 t554)) (fun _ hk => hk.2) (.int .i64 t555)) (fun _ h_ => h_.1)) (fun _ h_ => h_.1))) hb); replace HO545 := Ak (Kd.R_below (by (with_reducible repeat (first | apply Kd.R_alloc | apply Kd.R_drewN | apply Kd.R_drew)); exact (Kd.R_mono (Kd.R_mono (Kd.R_far (p := ⟨gb558, 3, none⟩) (Kd.R_far (p := ⟨gb558, 2, none⟩) (Kd.R_far (p := ⟨gb558, 1, none⟩) (Kd.R_far (p := ⟨gb558, 0, none⟩) (Kd.R_far (p := ⟨gb557, 1, none⟩) (Kd.R_far (p := ⟨gb557, 0, none⟩) (Kd.R_types (Kd.R_types HO545.out BK557.out (by decide)) BK558.out (by decide)) (fun _ hk => hk.1.2) (.slice Ao275 t546.length co275)) (fun _ hk => hk.1.2) (.slice Ao277 t549.length co277)) (fun _ hk => hk.2) (.int .i64 t552)) (fun _ hk => hk.2) (.int .i64 t553)) (fun _ hk => hk.2) (.int .i64 t554)) (fun _ hk => hk.2) (.int .i64 t555)) (fun _ h_ => h_.1)) (fun _ h_ => h_.1))) hb); replace HO548 := Ak (Kd.R_below (by (with_reducible repeat (first | apply Kd.R_alloc | apply Kd.R_drewN | apply Kd.R_drew)); exact (Kd.R_mono (Kd.R_mono (Kd.R_far (p := ⟨gb558, 3, none⟩) (Kd.R_far (p := ⟨gb558, 2, none⟩) (Kd.R_far (p := ⟨gb558, 1, none⟩) (Kd.R_far (p := ⟨gb558, 0, none⟩) (Kd.R_far (p := ⟨gb557, 1, none⟩) (Kd.R_far (p := ⟨gb557, 0, none⟩) (Kd.R_types (Kd.R_types HO548.out BK557.out (by decide)) BK558.out (by decide)) (fun _ hk => hk.1.2) (.slice Ao275 t546.length co275)) (fun _ hk => hk.1.2) (.slice Ao277 t549.length co277)) (fun _ hk => hk.2) (.int .i64 t552)) (fun _ hk => hk.2) (.int .i64 t553)) (fun _ hk => hk.2) (.int .i64 t554)) (fun _ hk => hk.2) (.int .i64 t555)) (fun _ h_ => h_.1)) (fun _ h_ => h_.1))) hb); replace HO551 := Ak (Kd.S_below (by (with_reducible repeat (first | apply Kd.S_alloc | apply Kd.S_drewN | apply Kd.S_drew)); exact (Kd.S_mono (Kd.S_mono (Kd.S_far (p := ⟨gb558, 3, none⟩) (Kd.S_far (p := ⟨gb558, 2, none⟩) (Kd.S_far (p := ⟨gb558, 1, none⟩) (Kd.S_far (p := ⟨gb558, 0, none⟩) (Kd.S_far (p := ⟨gb557, 1, none⟩) (Kd.S_far (p := ⟨gb557, 0, none⟩) (Kd.S_types (Kd.S_types HO551.out BK557.out (by decide)) BK558.out (by decide)) (fun _ hk => hk.1.2) (.slice Ao275 t546.length co275)) (fun _ hk => hk.1.2) (.slice Ao277 t549.length co277)) (fun _ hk => hk.2) (.int .i64 t552)) (fun _ hk => hk.2) (.int .i64 t553)) (fun _ hk => hk.2) (.int .i64 t554)) (fun _ hk => hk.2) (.int .i64 t555)) (fun _ h_ => h_.1)) (fun _ h_ => h_.1))) hb); replace BK455 := Ak (blk_below (g := gb455) (o := .cells #[.slice A0_0 l0_0.length c0_0, .slice A0_1 l0_1.length c0_1] 25 (0, 0)) (by refine bq ?_; refine blk_far ?_ NB455_558.out _; refine bq ?_; refine blk_far ?_ NB455_558.out _; refine bq ?_; refine blk_far ?_ NB455_558.out _; refine bq ?_; refine blk_far ?_ NB455_558.out _; refine bq ?_; refine blk_far ?_ NB455_557.out _; refine bq ?_; refine blk_far ?_ NB455_557.out _; exact bq BK455.out) hb); replace BK456 := Ak (blk_below (g := gb456) (o := .cells #[.int .i64 a1_0, .int .i64 a1_1, .int .i64 a1_2, .int .i64 a1_3] 27 (0, 0)) (by refine bq ?_; refine blk_far ?_ NB456_558.out _; refine bq ?_; refine blk_far ?_ NB456_558.out _; refine bq ?_; refine blk_far ?_ NB456_558.out _; refine bq ?_; refine blk_far ?_ NB456_558.out _; refine bq ?_; refine blk_far ?_ NB456_557.out _; refine bq ?_; refine blk_far ?_ NB456_557.out _; exact bq BK456.out) hb); replace BK482 := Ak (blk_below (g := gb482) (o := .cells #[.slice Ao39 t471.length co39, .slice Ao41 t474.length co41] 31 (0, 0)) (by refine bq ?_; refine blk_far ?_ NB482_558.out _; refine bq ?_; refine blk_far ?_ NB482_558.out _; refine bq ?_; refine blk_far ?_ NB482_558.out _; refine bq ?_; refine blk_far ?_ NB482_558.out _; refine bq ?_; refine blk_far ?_ NB482_557.out _; refine bq ?_; refine blk_far ?_ NB482_557.out _; exact bq BK482.out) hb); replace BK483 := Ak (blk_below (g := gb483) (o := .cells #[.int .i64 t477, .int .i64 t478, .int .i64 t479, .int .i64 t480] 32 (0, 0)) (by refine bq ?_; refine blk_far ?_ NB483_558.out _; refine bq ?_; refine blk_far ?_ NB483_558.out _; refine bq ?_; refine blk_far ?_ NB483_558.out _; refine bq ?_; refine blk_far ?_ NB483_558.out _; refine bq ?_; refine blk_far ?_ NB483_557.out _; refine bq ?_; refine blk_far ?_ NB483_557.out _; exact bq BK483.out) hb); replace BK490 := Ak (blk_below (g := gb490) (o := .cells #[.slice Ao52 t525.1.length co52, .slice Ao58 t487.length co58] 31 (0, 0)) (by refine bq ?_; refine blk_far ?_ NB490_558.out _; refine bq ?_; refine blk_far ?_ NB490_558.out _; refine bq ?_; refine blk_far ?_ NB490_558.out _; refine bq ?_; refine blk_far ?_ NB490_558.out _; refine bq ?_; refine blk_far ?_ NB490_557.out _; refine bq ?_; refine blk_far ?_ NB490_557.out _; exact bq BK490.out) hb); replace BK509 := Ak (blk_below (g := gb509) (o := .cells #[.slice Ao67 t498.length co67, .slice Ao69 t501.length co69] 31 (0, 0)) (by refine bq ?_; refine blk_far ?_ NB509_558.out _; refine bq ?_; refine blk_far ?_ NB509_558.out _; refine bq ?_; refine blk_far ?_ NB509_558.out _; refine bq ?_; refine blk_far ?_ NB509_558.out _; refine bq ?_; refine blk_far ?_ NB509_557.out _; refine bq ?_; refine blk_far ?_ NB509_557.out _; exact bq BK509.out) hb); replace BK510 := Ak (blk_below (g := gb510) (o := .cells #[.int .i64 t504, .int .i64 t505, .int .i64 t506, .int .i64 t507] 32 (0, 0)) (by refine bq ?_; refine blk_far ?_ NB510_558.out _; refine bq ?_; refine blk_far ?_ NB510_558.out _; refine bq ?_; refine blk_far ?_ NB510_558.out _; refine bq ?_; refine blk_far ?_ NB510_558.out _; refine bq ?_; refine blk_far ?_ NB510_557.out _; refine bq ?_; refine blk_far ?_ NB510_557.out _; exact bq BK510.out) hb); replace BK557 := Ak (blk_below (g := gb557) (o := .cells #[.slice Ao275 t546.length co275, .slice Ao277 t549.length co277] 31 (0, 0)) (by refine bq ?_; refine blk_far ?_ NB557_558.out _; refine bq ?_; refine blk_far ?_ NB557_558.out _; refine bq ?_; refine blk_far ?_ NB557_558.out _; refine bq ?_; refine blk_far ?_ NB557_558.out _; refine bq ?_; refine blk_put (cs := #[.slice Ao275 t546.length co275, .slice none 0 0]) ?_ 1 _ rfl; refine bq ?_; refine blk_put (cs := #[.slice none 0 0, .slice none 0 0]) ?_ 0 _ rfl; exact bq BK557.out) hb); replace BK558 := Ak (blk_below (g := gb558) (o := .cells #[.int .i64 t552, .int .i64 t553, .int .i64 t554, .int .i64 t555] 32 (0, 0)) (by refine bq ?_; refine blk_put (cs := #[.int .i64 t552, .int .i64 t553, .int .i64 t554, .int .i64 0]) ?_ 3 _ rfl; refine bq ?_; refine blk_put (cs := #[.int .i64 t552, .int .i64 t553, .int .i64 0, .int .i64 0]) ?_ 2 _ rfl; refine bq ?_; refine blk_put (cs := #[.int .i64 t552, .int .i64 0, .int .i64 0, .int .i64 0]) ?_ 1 _ rfl; refine bq ?_; refine blk_put (cs := #[.int .i64 0, .int .i64 0, .int .i64 0, .int .i64 0]) ?_ 0 _ rfl; refine bq ?_; refine blk_far ?_ NB558_557.out _; refine bq ?_; refine blk_far ?_ NB558_557.out _; exact bq BK558.out) hb); replace HB := Ak (below_step (by repeat (first | (with_reducible first | exact HB.out | apply below_alloc | apply pw_below_drewN | apply below_drew1 | refine below_set ?_ GE455.out | refine below_set ?_ GE456.out | refine below_set ?_ GE482.out | refine below_set ?_ GE483.out | refine below_set ?_ GE490.out | refine below_set ?_ GE509.out | refine below_set ?_ GE510.out | refine below_set ?_ GE557.out | refine below_set ?_ GE558.out) | exact HB.out)) hb); have hnb305 := NB558_455.out; have hnc305 := NB455_558.out; have hnb306 := NB558_456.out; have hnc306 := NB456_558.out; have hnb307 := NB558_483.out; have hnc307 := NB483_558.out; have hnb308 := NB558_490.out; have hnc308 := NB490_558.out; have hnb309 := NB558_509.out; have hnc309 := NB509_558.out; have hnb310 := NB558_510.out; have hnc310 := NB510_558.out; have hcz311_0 := zk0 BK558.out; have hcz311_1 := zk1 BK558.out; have hcz311_2 := zk2 BK558.out; have hcz311_3 := zk3 BK558.out; have hfz311_0 := blk_frozen BK558.out 0; have hfz311_1 := blk_frozen BK558.out 1; have hfz311_2 := blk_frozen BK558.out 2; have hfz311_3 := blk_frozen BK558.out 3; have hnb312 := NB483_455.out; have hnc312 := NB455_483.out; have hnb313 := NB483_456.out; have hnc313 := NB456_483.out; have hnb314 := NB483_490.out; have hnc314 := NB490_483.out; have hnb315 := NB483_509.out; have hnc315 := NB509_483.out; have hnb316 := NB483_510.out; have hnc316 := NB510_483.out; have hcz317_0 := zk0 BK483.out; have hcz317_1 := zk1 BK483.out; have hcz317_2 := zk2 BK483.out; have hcz317_3 := zk3 BK483.out; have hfz317_0 := blk_frozen BK483.out 0; have hfz317_1 := blk_frozen BK483.out 1; have hfz317_2 := blk_frozen BK483.out 2; have hfz317_3 := blk_frozen BK483.out 3) | (go_at_call 15; (with_reducible refine (laws_eqLog.calls t552 t553 t554 t555 t477 t478 t479 t480 true _ A285.out).mono ?_); rintro e w318 ⟨rfl, hb⟩; replace HO_483000 := Ak (Kd.R_below (rq HO_483000.out) hb); replace HO_483001 := Ak (Kd.S_below (sq HO_483001.out) hb); replace HO_491000 := Ak (Kd.R_below (rq HO_491000.out) hb); replace HO_491001 := Ak (Kd.S_below (sq HO_491001.out) hb); replace HO_510000 := Ak (Kd.R_below (rq HO_510000.out) hb); replace HO_510001 := Ak (Kd.S_below (sq HO_510001.out) hb); replace HO535 := Ak (Kd.R_below (rq HO535.out) hb); replace HO538 := Ak (Kd.S_below (sq HO538.out) hb); replace HO545 := Ak (Kd.R_below (rq HO545.out) hb); replace HO548 := Ak (Kd.R_below (rq HO548.out) hb); replace HO551 := Ak (Kd.S_below (sq HO551.out) hb); replace BK455 := Ak (blk_below (bq BK455.out) hb); replace BK456 := Ak (blk_below (bq BK456.out) hb); replace BK482 := Ak (blk_below (bq BK482.out) hb); replace BK483 := Ak (blk_below (bq BK483.out) hb); replace BK490 := Ak (blk_below (bq BK490.out) hb); replace BK509 := Ak (blk_below (bq BK509.out) hb); replace BK510 := Ak (blk_below (bq BK510.out) hb); replace BK557 := Ak (blk_below (bq BK557.out) hb); replace BK558 := Ak (blk_below (bq BK558.out) hb); replace HB := Ak (below_step (by repeat (first | (with_reducible first | exact HB.out | apply below_alloc | apply pw_below_drewN | apply below_drew1 | refine below_set ?_ GE455.out | refine below_set ?_ GE456.out | refine below_set ?_ GE482.out | refine below_set ?_ GE483.out | refine below_set ?_ GE490.out | refine below_set ?_ GE509.out | refine below_set ?_ GE510.out | refine below_set ?_ GE557.out | refine below_set ?_ GE558.out) | exact HB.out)) hb)))
                go_meet
                case rel => exact ⟨_, ((t556 != t481)), (by first | rfl | (simp; done) | (simp [*]; done)), H', ⟨by have := HJ21.out; have := HJ149.out; first | omega | exact Nat.le_refl _⟩, ⟨by (try simp only [hl491000_149]); (with_reducible repeat (first | apply Kd.R_alloc | apply Kd.R_drewN | apply Kd.R_drew)); exact Kd.R_mono HO_483000.out (fun _ hk => ⟨hk.2.2.2.1, ⟨hk.2.2.2.2, hk.2.2.1⟩⟩)⟩, ⟨by (try simp only [hl491000_149]); (with_reducible repeat (first | apply Kd.S_alloc | apply Kd.S_drewN | apply Kd.S_drew)); exact Kd.S_mono HO_483001.out (fun k_ hk_ => zs hk_)⟩, ⟨by (try simp only [hl491000_149]); (with_reducible repeat (first | apply Kd.R_alloc | apply Kd.R_drewN | apply Kd.R_drew)); exact Kd.R_mono HO_491000.out (fun _ hk => ⟨hk.2.2.2.1, ⟨hk.2.2.2.2, hk.2.2.1⟩⟩)⟩, ⟨by (try simp only [hl491000_149]); (with_reducible repeat (first | apply Kd.S_alloc | apply Kd.S_drewN | apply Kd.S_drew)); exact Kd.S_mono HO_491001.out (fun k_ hk_ => zs hk_)⟩, ⟨by (try simp only [hl491000_149]); (with_reducible repeat (first | apply Kd.R_alloc | apply Kd.R_drewN | apply Kd.R_drew)); exact Kd.R_mono HO_510000.out (fun _ hk => ⟨hk.2.2.2.1, ⟨hk.2.2.2.2, hk.2.2.1⟩⟩)⟩, ⟨by (try simp only [hl491000_149]); (with_reducible repeat (first | apply Kd.S_alloc | apply Kd.S_drewN | apply Kd.S_drew)); exact Kd.S_mono HO_510001.out (fun k_ hk_ => zs hk_)⟩, ⟨by (try simp only [hl491000_149]); (with_reducible repeat (first | apply Kd.R_alloc | apply Kd.R_drewN | apply Kd.R_drew)); exact Kd.R_mono HO548.out (fun _ hk => ⟨hk.2.2.1, ⟨hk.2.2.2.1, hk.2.2.2.2⟩⟩)⟩, ⟨by (try simp only [hl491000_149]); (with_reducible repeat (first | apply Kd.S_alloc | apply Kd.S_drewN | apply Kd.S_drew)); exact Kd.S_mono HO551.out (fun _ hk => ⟨hk.2.2.2.2.1, ⟨hk.2.2.2.2.2.1, ⟨hk.2.2.2.2.2.2.1, ⟨hk.2.2.2.2.2.2.2.1, ⟨hk.2.2.2.2.2.2.2.2.1, ⟨hk.2.2.2.2.2.2.2.2.2, hk.2.2.2.1⟩⟩⟩⟩⟩⟩)⟩, ⟨by (try simp only [hl491000_149]); exact bq BK455.out⟩, ⟨by (try simp only [hl491000_149]); exact bq BK456.out⟩, ⟨by (try simp only [hl491000_149]); exact bq BK482.out⟩, ⟨by (try simp only [hl491000_149]); exact bq BK483.out⟩, ⟨by (try simp only [hl491000_149]); exact bq BK490.out⟩, ⟨by (try simp only [hl491000_149]); exact bq BK509.out⟩, ⟨by (try simp only [hl491000_149]); exact bq BK510.out⟩, ⟨by (try simp only [hl491000_149]); exact bq BK557.out⟩, ⟨by (try simp only [hl491000_149]); exact bq BK558.out⟩, ⟨by repeat (first | (with_reducible first | exact HB.out | apply below_alloc | apply pw_below_drewN | apply below_drew1 | refine below_set ?_ GE455.out | refine below_set ?_ GE456.out | refine below_set ?_ GE482.out | refine below_set ?_ GE483.out | refine below_set ?_ GE490.out | refine below_set ?_ GE509.out | refine below_set ?_ GE510.out | refine below_set ?_ GE557.out | refine below_set ?_ GE558.out) | exact HB.out)⟩⟩
               ·replace c286 := Bool.eq_false_iff.mpr c286
                subst c286
                have H1 : (laws_FnExactLogAdd.j2 kj149 t530 true t531.1 t531.2) = some r := by rw [if_neg (show ¬ (false = true) by decide)] at H; exact H
                clear H
                exact by (cases kj149 with | zero => exact absurd H1 (by simp [laws_FnExactLogAdd.j2]) | succ q_ => (exact absurd ((Option.some.inj (show some false = some r from by simpa only [laws_FnExactLogAdd.j2, if_true] using H1)).trans hrt) (by decide)))
              ·replace c284 := Bool.eq_false_iff.mpr c284
               subst c284
               have H1 : (laws_FnExactLogAdd.j2 kj149 t530 true t531.1 t531.2) = some r := by rw [if_neg (show ¬ (false = true) by decide)] at H; exact H
               clear H
               exact by (cases kj149 with | zero => exact absurd H1 (by simp [laws_FnExactLogAdd.j2]) | succ q_ => (exact absurd ((Option.some.inj (show some false = some r from by simpa only [laws_FnExactLogAdd.j2, if_true] using H1)).trans hrt) (by decide)))
             case rest =>
              clear HC253
              obtain ⟨kq, x140_252, rfl, HA, HJ252, HO_483000, HO_483001, HO_491000, HO_491001, HO_510000, HO_510001, HO_558000, HO_558001, BK455, BK456, BK482, BK483, BK490, BK509, BK510, BK557, BK558, HB⟩ := hcut
              have hlq_ := (Kd.S_reads' HO_510001.out).1
              rw [hlq_] at HO_510001
              (try simp only [hlq_])
              (try simp only [hlq_] at BK455)
              (try simp only [hlq_] at BK456)
              (try simp only [hlq_] at BK482)
              (try simp only [hlq_] at BK483)
              (try simp only [hlq_] at BK490)
              (try simp only [hlq_] at BK509)
              (try simp only [hlq_] at BK510)
              (try simp only [hlq_] at BK557)
              (try simp only [hlq_] at BK558)
              have hl510000_252 := (Kd.R_reads' HO_510000.out).1
              rw [hl510000_252] at HO_510000
              (try simp only [hl510000_252])
              (try simp only [hl510000_252] at BK455)
              (try simp only [hl510000_252] at BK456)
              (try simp only [hl510000_252] at BK482)
              (try simp only [hl510000_252] at BK483)
              (try simp only [hl510000_252] at BK490)
              (try simp only [hl510000_252] at BK509)
              (try simp only [hl510000_252] at BK510)
              (try simp only [hl510000_252] at BK557)
              (try simp only [hl510000_252] at BK558)
              (try simp only [hl510000_252] at HO_483000)
              (try simp only [hl510000_252] at HO_483001)
              (try simp only [hl510000_252] at HO_491000)
              (try simp only [hl510000_252] at HO_491001)
              (try simp only [hl510000_252] at HO_510001)
              (try simp only [hl510000_252] at HO_558000)
              (try simp only [hl510000_252] at HO_558001)
              cases kq with
              | zero => exact absurd HA.out (by simp [laws_FnExactLogAdd.j2])
              | succ kj252 =>
               have H := HA.out
               clear HA
               simp only [laws_FnExactLogAdd.j2] at H
               by_cases c369 : x140_252 = true
               ·subst c369
                have H1 : (some false) = some r := by rw [if_pos rfl] at H; exact H
                clear H
                have H := H1
                clear H1
                exact absurd ((Option.some.inj H).trans hrt) (by decide)
               ·replace c369 := Bool.eq_false_iff.mpr c369
                subst c369
                have H1 : ((laws_heldDisk.f kj252 t531.1 t531.2 1).bind fun t561 => (if t561 < 0 then (some false) else (if t561 = t530 then (some true) else (some false)))) = some r := by rw [if_neg (show ¬ (false = true) by decide)] at H; exact H
                clear H
                have H := H1
                clear H1
                replace H := Option.bind_eq_some_iff.mp H
                obtain ⟨t561, A3700, H⟩ := H
                have A370 := Ak A3700
                clear A3700
                by_cases c371 : t561 < 0
                ·rw [if_pos c371] at H
                 have c371b0 : decide (t561 < 0) = true := decide_eq_true c371
                 clear c371
                 exact absurd ((Option.some.inj H).trans hrt) (by decide)
                ·rw [if_neg c371] at H
                 have c371b0 : decide (t561 < 0) = false := decide_eq_false c371
                 clear c371
                 by_cases c382 : t561 = t530
                 ·rw [if_pos c382] at H
                  have c382b0 : (t561 == t530) = true := beq_iff_eq.mpr c382
                  have c382b1 : (t561 != t530) = false := bne_eq_false_iff_eq.mpr c382
                  clear c382
                  obtain rfl := Option.some.inj H
                  have hnb383 := NB509_455.out
                  have hnc383 := NB455_509.out
                  have hnb384 := NB509_456.out
                  have hnc384 := NB456_509.out
                  have hnb385 := NB509_482.out
                  have hnc385 := NB482_509.out
                  have hnb386 := NB509_483.out
                  have hnc386 := NB483_509.out
                  have hnb387 := NB509_490.out
                  have hnc387 := NB490_509.out
                  have hnb388 := NB509_510.out
                  have hnc388 := NB510_509.out
                  have hnb389 := NB509_557.out
                  have hnc389 := NB557_509.out
                  have hnb390 := NB509_558.out
                  have hnc390 := NB558_509.out
                  have hcz391_0 : wc.cell? ⟨gb509, 0, none⟩ = some (.slice Ao67 t531.1.length co67) := zk0 BK509.out
                  have hcz391_1 : wc.cell? ⟨gb509, 1, none⟩ = some (.slice Ao69 t531.2.length co69) := zk1 BK509.out
                  have hfz391_0 := blk_frozen BK509.out 0
                  have hfz391_1 := blk_frozen BK509.out 1
                  go_wp2_with (first | ((with_reducible refine gate_callee (f := 19) rfl ?_); refine goesL_ (some 143) rfl rfl Try.func19 (by kernel_rfl) rfl #[.agg #[.slice Ao67 t531.1.length co67, .slice Ao69 t531.2.length co69], .int .i64 1] rfl (by (try simp only [List.map_toArray, List.map_cons, List.map_nil]); first | done | (rw [show t531.1.length = t498.length from (Kd.R_reads' HO_510000.out).1.symm, show t531.2.length = t501.length from (Kd.S_reads' HO_510001.out).1.symm] <;> rfl) | rfl | (simp only [List.length_drop, List.length_take]; rfl)) ?_; (with_reducible refine (laws_heldDisk.calls kj252 _ _ t531.1 _ _ t531.2 1 t561 _ ?side1 ?side2 ?side3 ?side4 A370.out).mono ?_); (case side1 => repeat (first | exact (Kd.R_reads' HO_510000.out).2.2 | (with_reducible refine Kd.C_alloc ?_ _) | (with_reducible refine Kd.C_drewN ?_ _) | (with_reducible refine Kd.C_drew ?_))); (case side2 => first | exact (Kd.R_reads' HO_510000.out).2.1 | (rw [show t531.1.length = t498.length from (Kd.R_reads' HO_510000.out).1.symm]; exact (Kd.R_reads' HO_510000.out).2.1)); (case side3 => repeat (first | exact (Kd.S_reads' HO_510001.out).2.2 | (with_reducible refine Kd.C_alloc ?_ _) | (with_reducible refine Kd.C_drewN ?_ _) | (with_reducible refine Kd.C_drew ?_))); (case side4 => first | exact (Kd.S_reads' HO_510001.out).2.1 | (rw [show t531.2.length = t501.length from (Kd.S_reads' HO_510001.out).1.symm]; exact (Kd.S_reads' HO_510001.out).2.1)); rintro e w392 ⟨rfl, hb⟩; refine ⟨_, rfl, ?_⟩; replace HO_483000 := Ak (Kd.R_below (rq HO_483000.out) hb); replace HO_483001 := Ak (Kd.S_below (sq HO_483001.out) hb); replace HO_491000 := Ak (Kd.R_below (rq HO_491000.out) hb); replace HO_491001 := Ak (Kd.S_below (sq HO_491001.out) hb); replace HO_510000 := Ak (Kd.R_below (rq HO_510000.out) hb); replace HO_510001 := Ak (Kd.S_below (sq HO_510001.out) hb); replace HO_558000 := Ak (Kd.R_below (rq HO_558000.out) hb); replace HO_558001 := Ak (Kd.S_below (sq HO_558001.out) hb); replace BK455 := Ak (blk_below (bq BK455.out) hb); replace BK456 := Ak (blk_below (bq BK456.out) hb); replace BK482 := Ak (blk_below (bq BK482.out) hb); replace BK483 := Ak (blk_below (bq BK483.out) hb); replace BK490 := Ak (blk_below (bq BK490.out) hb); replace BK509 := Ak (blk_below (bq BK509.out) hb); replace BK510 := Ak (blk_below (bq BK510.out) hb); replace BK557 := Ak (blk_below (bq BK557.out) hb); replace BK558 := Ak (blk_below (bq BK558.out) hb); replace HB := Ak (below_step (by repeat (first | (with_reducible first | exact HB.out | apply below_alloc | apply pw_below_drewN | apply below_drew1 | refine below_set ?_ GE455.out | refine below_set ?_ GE456.out | refine below_set ?_ GE482.out | refine below_set ?_ GE483.out | refine below_set ?_ GE490.out | refine below_set ?_ GE509.out | refine below_set ?_ GE510.out | refine below_set ?_ GE557.out | refine below_set ?_ GE558.out) | exact HB.out)) hb)))
                  go_ret
                  exact ⟨zw, by repeat (first | (with_reducible first | exact HB.out | apply below_alloc | apply pw_below_drewN | apply below_drew1 | refine below_set ?_ GE455.out | refine below_set ?_ GE456.out | refine below_set ?_ GE482.out | refine below_set ?_ GE483.out | refine below_set ?_ GE490.out | refine below_set ?_ GE509.out | refine below_set ?_ GE510.out | refine below_set ?_ GE557.out | refine below_set ?_ GE558.out) | exact HB.out)⟩
                 ·rw [if_neg c382] at H
                  have c382b0 : (t561 == t530) = false := beq_eq_false_iff_ne.mpr c382
                  have c382b1 : (t561 != t530) = true := bne_iff_ne.mpr c382
                  exact absurd ((Option.some.inj H).trans hrt) (by decide)
            ·rw [if_neg c248] at H
             have c248b0 : (t532 == t530) = false := beq_eq_false_iff_ne.mpr c248
             have c248b1 : (t532 != t530) = true := bne_iff_ne.mpr c248
             exact absurd ((Option.some.inj H).trans hrt) (by decide)
       ·replace c147 := Bool.eq_false_iff.mpr c147
        subst c147
        have H1 : (some false) = some r := by rw [if_neg (show ¬ (false = true) by decide)] at H; exact H
        clear H
        have H := H1
        clear H1
        exact absurd ((Option.some.inj H).trans hrt) (by decide)
      ·replace c144 := Bool.eq_false_iff.mpr c144
       subst c144
       have H1 : (some false) = some r := by rw [if_neg (show ¬ (false = true) by decide)] at H; exact H
       clear H
       have H := H1
       clear H1
       exact absurd ((Option.some.inj H).trans hrt) (by decide)

end Go.Proofs.Ytgmnphckgicadaa.PFnExactLogAdd

