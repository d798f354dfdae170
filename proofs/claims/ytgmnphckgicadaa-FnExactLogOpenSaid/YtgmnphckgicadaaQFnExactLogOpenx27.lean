/- Functions that the law reaches, with their contracts. -/
import Derived.Test.YtgmnphckgicadaaQFnExactLogOpenx21
import Derived.Test.YtgmnphckgicadaaQFnExactLogOpenx26
namespace Go.Proofs.Ytgmnphckgicadaa.PFnExactLogOpen
open Go.RowKit Go.Proofs.YtgmnphckgicadaaW.PrintWords Go.Proofs.YtgmnphckgicadaaW.PrintLast Go.Proofs.YtgmnphckgicadaaW.PrintMore
attribute [local go_sem] max2_int min2_int max_two min_two max_three min_three max_four min_four
set_option linter.unusedVariables false
set_option linter.unusedSimpArgs false

mutual
def impl_logOf.l0 : Nat → Int → Int → List (List Int) → List Int → List Int → Int → Int → Bool → Int → List Int → List (S96) → Int → Int → Int → Int → Option (Int × Int × Int × Int × (List (List Int)) × List Int)
 | 0, _, _, _, _, _, _, _, _, _, _, _, _, _, _, _ => none
 | k + 1, x1, x2, x10, x11, x12, x13, x14, x15, x16, x400000, x400001, x402000, x402001, x402002, x402003 => if x16 ≤ x2 then ((impl_ReadSector.f k x400000 x400001 x16).bind fun bt402 => ((impl_sectorOf.f k bt402.1).bind fun bt406 => (if bt406.2.2.2.2 = true then (impl_logOf.j1 k x1 x2 x10 x11 x12 x13 x14 x15 x16 bt406.2.2.2.2 x400000 x400001 x402000 x402001 x402002 (mx x402003 (wrap64 (bt406.1 + 1))) bt406.1 bt406.2.1 bt406.2.2.1 bt406.2.2.2.1) else (impl_logOf.j1 k x1 x2 x10 x11 x12 x13 x14 x15 x16 bt406.2.2.2.2 x400000 x400001 x402000 x402001 x402002 x402003 bt406.1 bt406.2.1 bt406.2.2.1 bt406.2.2.2.1)))) else (some (x402000, x402001, x402002, x402003, x10, x11))
def impl_logOf.j1 : Nat → Int → Int → List (List Int) → List Int → List Int → Int → Int → Bool → Int → Bool → List Int → List (S96) → Int → Int → Int → Int → Int → Int → Int → List Int → Option (Int × Int × Int × Int × (List (List Int)) × List Int)
 | 0, _, _, _, _, _, _, _, _, _, _, _, _, _, _, _, _, _, _, _, _ => none
 | k + 1, x1, x2, x10, x11, x12, x13, x14, x15, x16, x20, x400000, x400001, x402000, x402001, x402002, x402003, x414000, x414001, x414002, x414003 => if x15 = true then (impl_logOf.j2 k x1 x2 x10 x11 x12 x13 x14 true x16 x400000 x400001 x402000 x402001 x402002 x402003 x414000 x414001 x414002 x414003) else (if x20 = true then (if x414001 = (wrap64 (x16 - x1)) then (if x414000 < x13 then (impl_logOf.j2 k x1 x2 x10 x11 x12 x13 x14 true x16 x400000 x400001 x402000 x402001 x402002 x402003 x414000 x414001 x414002 x414003) else (if x14 > 0 then (impl_logOf.j2 k x1 x2 x10 x11 x12 x13 x14 (x414000 != x14) x16 x400000 x400001 x402000 x402001 x402002 x402003 x414000 x414001 x414002 x414003) else (impl_logOf.j2 k x1 x2 x10 x11 x12 x13 x14 false x16 x400000 x400001 x402000 x402001 x402002 x402003 x414000 x414001 x414002 x414003))) else (impl_logOf.j2 k x1 x2 x10 x11 x12 x13 x14 true x16 x400000 x400001 x402000 x402001 x402002 x402003 x414000 x414001 x414002 x414003)) else (impl_logOf.j2 k x1 x2 x10 x11 x12 x13 x14 true x16 x400000 x400001 x402000 x402001 x402002 x402003 x414000 x414001 x414002 x414003))
def impl_logOf.j2 : Nat → Int → Int → List (List Int) → List Int → List Int → Int → Int → Bool → Int → List Int → List (S96) → Int → Int → Int → Int → Int → Int → Int → List Int → Option (Int × Int × Int × Int × (List (List Int)) × List Int)
 | 0, _, _, _, _, _, _, _, _, _, _, _, _, _, _, _, _, _, _, _ => none
 | k + 1, x1, x2, x10, x11, x12, x13, x14, x15, x16, x400000, x400001, x402000, x402001, x402002, x402003, x414000, x414001, x414002, x414003 => if x15 = true then (impl_logOf.l0 k x1 x2 x10 x11 x12 x13 x14 x15 (wrap64 (x16 + 1)) x400000 x400001 x402000 x402001 x402002 x402003) else (if x12.length + x414003.length < 140737488355328 then ((some (x12 ++ x414003 : List Int)).bind fun y414 => (if x414002 = 2 then ((slices_Clone_byte_byte.f y414).bind fun t417 => (if x10.length < 5864062014805 then (if x11.length < 17592186044416 then (impl_logOf.l0 k x1 x2 (x10 ++ [t417]) (x11 ++ [wrap64 ((wrap64 (x16 - x1)) + 1)]) ([] : List Int) x414000 0 x15 (wrap64 (x16 + 1)) x400000 x400001 x402000 x402001 (wrap64 ((wrap64 (x16 - x1)) + 1)) x402003) else (none)) else (none))) else (impl_logOf.l0 k x1 x2 x10 x11 y414 x414000 x414000 x15 (wrap64 (x16 + 1)) x400000 x400001 x402000 x402001 x402002 x402003))) else (none))
end
def impl_logOf.f (k : Nat) (l0_0 : List Int) (l0_1 : List (S96)) (a1 : Int) (a2 : Int) : Option (Int × Int × Int × Int × (List (List Int)) × List Int) := impl_logOf.l0 k a1 a2 ([] : List (List Int)) ([] : List Int) ([] : List Int) 1 0 false a1 l0_0 l0_1 a1 a2 0 1
set_option maxHeartbeats 8000000 in
set_option maxRecDepth 100000 in
theorem impl_logOf.calls (k : Nat) (A0_0 : Option Addr) (c0_0 : Nat) (l0_0 : List Int) (A0_1 : Option Addr) (c0_1 : Nat) (l0_1 : List (S96)) (a1 : Int) (a2 : Int) (r1 : Int) (r2 : Int) (r3 : Int) (r4 : Int) (r5 : List (List Int)) (r6 : List Int) (w : World) (hr0_0 : Kd.C (Kd.int .u8) w A0_0 l0_0.length l0_0) (hc0_0 : l0_0.length ≤ c0_0) (hr0_1 : Kd.C k96 w A0_1 l0_1.length l0_1) (hc0_1 : l0_1.length ≤ c0_1) (h : impl_logOf.f k l0_0 l0_1 a1 a2 = some (r1, r2, r3, r4, r5, r6)) :
  Calls Try.prog 60 #[.agg #[.slice A0_0 l0_0.length c0_0, .slice A0_1 l0_1.length c0_1], .int .i64 a1, .int .i64 a2] w fun e w' => ∃ v4_ v5_ : Value, e = .returned (.tuple #[.agg #[.int .i64 r1, .int .i64 r2, .int .i64 r3, .int .i64 r4], v4_, v5_]) ∧ Kd.S (Kd.slice 5 (Kd.int .u8)) 22 w' w.heap.size (fun _ => True) v4_ r5 ∧ Kd.R (Kd.int .i64) 3 w' w.heap.size (fun _ => True) v5_ r6 ∧ Below w.heap.size w w' := by
 have hu31 := Try.underlying31
 have hu32 := Try.underlying32
 have hu93 := Try.underlying93
 have HR0_0 := Ak hr0_0
 have HC0_0 := Ak hc0_0
 clear hr0_0 hc0_0
 have HR0_1 := Ak hr0_1
 have HC0_1 := Ak hc0_1
 clear hr0_1 hc0_1
 have HB := Ak (Below.refl w.heap.size w)
 have H : (impl_logOf.l0 k a1 a2 ([] : List (List Int)) ([] : List Int) ([] : List Int) 1 0 false a1 l0_0 l0_1 a1 a2 0 1) = some (r1, r2, r3, r4, r5, r6) := h
 clear h
 have H' := Ak H
 clear H
 go_enter Try.func60, Try.ntmps60
 go_wp2_with (first | ((with_reducible refine gate_dst (N := 3) rfl ?_); refine box_event ?hg (N := 3) ?hd (cs := #[.slice A0_0 l0_0.length c0_0, .slice A0_1 l0_1.length c0_1]) (t := 31) ?hr ?_; (case hd => rfl); (case hg => rfl); (case hr => first | (go_simp; done) | (go_simp; rfl)); intro gb399 hg w4 hbox hb; have n0_ := Ak (below_step (bw HB.out) hb); have n1_ := Ak (hbox); have n2_ := Ak ((by rw [hg]; exact (below_size (bw HB.out)) : w.heap.size ≤ gb399)); have n3_ := Ak ((by rw [hg]; exact (below_size (bw HB.out)) : w.heap.size ≤ gb399)); clear HB; have HB := n0_; have BK399 := n1_; have GW399 := n2_; have GE399 := n3_; clear n0_ n1_ n2_ n3_; clear hb hbox hg) | ((with_reducible refine gate_dst (N := 6) rfl ?_); refine box_event ?hg (N := 6) ?hd (cs := #[.int .i64 0, .int .i64 0, .int .i64 0, .int .i64 0]) (t := 32) ?hr ?_; (case hd => rfl); (case hg => rfl); (case hr => first | (go_simp; done) | (go_simp; rfl)); intro gb400 hg w5 hbox hb; have n0_ := Ak (blk_below (g := gb399) (o := .cells #[.slice A0_0 l0_0.length c0_0, .slice A0_1 l0_1.length c0_1] 31 (0, 0)) (bq BK399.out) hb); have n1_ := Ak (below_step (bw1 HB.out GE399.out) hb); have n2_ := Ak (hbox); have n3_ := Ak ((by rw [hg]; exact (below_size (bw1 HB.out GE399.out)) : w.heap.size ≤ gb400)); have n4_ := Ak ((by rw [hg]; exact (below_size (bw1 HB.out GE399.out)) : w.heap.size ≤ gb400)); have n5_ := Ak ((by rw [hg]; exact Nat.ne_of_lt (blk_lt (g := gb399) (o := .cells #[.slice A0_0 l0_0.length c0_0, .slice A0_1 l0_1.length c0_1] 31 (0, 0)) (bq BK399.out)) : gb399 ≠ gb400)); have n6_ := Ak ((by rw [hg]; exact Nat.ne_of_gt (blk_lt (g := gb399) (o := .cells #[.slice A0_0 l0_0.length c0_0, .slice A0_1 l0_1.length c0_1] 31 (0, 0)) (bq BK399.out)) : gb400 ≠ gb399)); clear BK399; clear HB; have BK399 := n0_; have HB := n1_; have BK400 := n2_; have GW400 := n3_; have GE400 := n4_; have NB399_400 := n5_; have NB400_399 := n6_; clear n0_ n1_ n2_ n3_ n4_ n5_ n6_; clear hb hbox hg) | ((with_reducible refine gate_dst (N := 9) rfl ?_); refine box_event ?hg (N := 9) ?hd (cs := #[.int .i64 0, .int .i64 0, .int .i64 0, .int .i64 0]) (t := 32) ?hr ?_; (case hd => rfl); (case hg => rfl); (case hr => first | (go_simp; done) | (go_simp; rfl)); intro gb401 hg w6 hbox hb; have n0_ := Ak (blk_below (g := gb399) (o := .cells #[.slice A0_0 l0_0.length c0_0, .slice A0_1 l0_1.length c0_1] 31 (0, 0)) (bq BK399.out) hb); have n1_ := Ak (blk_below (g := gb400) (o := .cells #[.int .i64 0, .int .i64 0, .int .i64 0, .int .i64 0] 32 (0, 0)) (bq BK400.out) hb); have n2_ := Ak (below_step (bw2 HB.out GE399.out GE400.out) hb); have n3_ := Ak (hbox); have n4_ := Ak ((by rw [hg]; exact (below_size (bw2 HB.out GE399.out GE400.out)) : w.heap.size ≤ gb401)); have n5_ := Ak ((by rw [hg]; exact (below_size (bw2 HB.out GE399.out GE400.out)) : w.heap.size ≤ gb401)); have n6_ := Ak ((by rw [hg]; exact Nat.ne_of_lt (blk_lt (g := gb399) (o := .cells #[.slice A0_0 l0_0.length c0_0, .slice A0_1 l0_1.length c0_1] 31 (0, 0)) (bq BK399.out)) : gb399 ≠ gb401)); have n7_ := Ak ((by rw [hg]; exact Nat.ne_of_gt (blk_lt (g := gb399) (o := .cells #[.slice A0_0 l0_0.length c0_0, .slice A0_1 l0_1.length c0_1] 31 (0, 0)) (bq BK399.out)) : gb401 ≠ gb399)); have n8_ := Ak ((by rw [hg]; exact Nat.ne_of_lt (blk_lt (g := gb400) (o := .cells #[.int .i64 0, .int .i64 0, .int .i64 0, .int .i64 0] 32 (0, 0)) (bq BK400.out)) : gb400 ≠ gb401)); have n9_ := Ak ((by rw [hg]; exact Nat.ne_of_gt (blk_lt (g := gb400) (o := .cells #[.int .i64 0, .int .i64 0, .int .i64 0, .int .i64 0] 32 (0, 0)) (bq BK400.out)) : gb401 ≠ gb400)); clear BK399; clear BK400; clear HB; have BK399 := n0_; have BK400 := n1_; have HB := n2_; have BK401 := n3_; have GW401 := n4_; have GE401 := n5_; have NB399_401 := n6_; have NB401_399 := n7_; have NB400_401 := n8_; have NB401_400 := n9_; clear n0_ n1_ n2_ n3_ n4_ n5_ n6_ n7_ n8_ n9_; clear hb hbox hg; have hnb7 := NB401_399.out; have hnc7 := NB399_401.out; have hnb8 := NB401_400.out; have hnc8 := NB400_401.out; have hcz9_0 : w6.cell? ⟨gb401, 0, none⟩ = some (.int .i64 0) := (blk_cell BK401.out 0).trans rfl; have hcz9_1 : w6.cell? ⟨gb401, 1, none⟩ = some (.int .i64 0) := (blk_cell BK401.out 1).trans rfl; have hcz9_2 : w6.cell? ⟨gb401, 2, none⟩ = some (.int .i64 0) := (blk_cell BK401.out 2).trans rfl; have hcz9_3 : w6.cell? ⟨gb401, 3, none⟩ = some (.int .i64 0) := (blk_cell BK401.out 3).trans rfl; have hfz9_0 := blk_frozen BK401.out 0; have hfz9_1 := blk_frozen BK401.out 1; have hfz9_2 := blk_frozen BK401.out 2; have hfz9_3 := blk_frozen BK401.out 3))
 go_loopg [10, 11, 12, 13, 14, 15, 16] k (fun kq v10 v11 v12 v13 v14 v15 v16 w' => ∃ (x10_1 : List (List Int)) (x11_1 : List Int) (x12_1 : List Int) (x13_1 : Int) (x14_1 : Int) (x15_1 : Bool) (x16_1 : Int) (x402002_1 : Int) (x402003_1 : Int), v13 = .int .i64 x13_1 ∧ v14 = .int .i64 x14_1 ∧ v15 = .bool x15_1 ∧ v16 = .int .i64 x16_1 ∧ Aside0 (impl_logOf.l0 kq a1 a2 x10_1 x11_1 x12_1 x13_1 x14_1 x15_1 x16_1 l0_0 l0_1 a1 a2 x402002_1 x402003_1 = some (r1, r2, r3, r4, r5, r6)) ∧ Aside0 (kq ≤ k) ∧ Aside0 (Kd.S (Kd.slice 5 (Kd.int .u8)) 22 w' w.heap.size (fun k_ => some k_ ≠ (v12 : Value).ownBlock) v10 x10_1) ∧ Aside0 (Kd.R (Kd.int .i64) 3 w' w.heap.size (fun _ => True) v11 x11_1) ∧ Aside0 (Kd.R (Kd.int .u8) 5 w' w.heap.size (fun _ => True) v12 x12_1) ∧ Aside0 (w'.heap[gb399]? = some (.cells #[(.slice A0_0 l0_0.length c0_0), (.slice A0_1 l0_1.length c0_1)] 31 (0, 0))) ∧ Aside0 (w'.heap[gb400]? = some (.cells #[.int .i64 0, .int .i64 0, .int .i64 0, .int .i64 0] 32 (0, 0))) ∧ Aside0 (w'.heap[gb401]? = some (.cells #[.int .i64 a1, .int .i64 a2, .int .i64 x402002_1, .int .i64 x402003_1] 32 (0, 0))) ∧ Aside0 (Below w.heap.size w w'))
 case atStart => exact ⟨(([] : List (List Int))), (([] : List Int)), (([] : List Int)), (1), (0), (false), (a1), (0), (1), (by first | rfl | (simp; done) | (simp [*]; done)), (by first | rfl | (simp; done) | (simp [*]; done)), (by first | rfl | (simp; done) | (simp [*]; done)), (by first | rfl | (simp; done) | (simp [*]; done)), H', ⟨Nat.le_refl _⟩, ⟨by first | exact Kd.S_nil _ _ _ _ _ | exact Kd.N_nil _ _ _ _ _ | exact Kd.V_nil _ _ _ _ _ | exact Kd.Q_nil _ _ _ _ _ | exact Kd.R_nil _ _ _ _ _⟩, ⟨by first | exact Kd.R_nil _ _ _ _ _ | exact Kd.N_nil _ _ _ _ _ | exact Kd.V_nil _ _ _ _ _ | exact Kd.Q_nil _ _ _ _ _ | exact Kd.S_nil _ _ _ _ _⟩, ⟨by first | exact Kd.R_nil _ _ _ _ _ | exact Kd.N_nil _ _ _ _ _ | exact Kd.V_nil _ _ _ _ _ | exact Kd.Q_nil _ _ _ _ _ | exact Kd.S_nil _ _ _ _ _⟩, ⟨by (with_reducible repeat (first | refine blk_drewN ?_ _ | refine blk_drew ?_ | refine blk_alloc ?_ _)); refine blk_far ?_ NB399_401.out _; (with_reducible repeat (first | refine blk_drewN ?_ _ | refine blk_drew ?_ | refine blk_alloc ?_ _)); refine blk_far ?_ NB399_401.out _; (with_reducible repeat (first | refine blk_drewN ?_ _ | refine blk_drew ?_ | refine blk_alloc ?_ _)); refine blk_far ?_ NB399_401.out _; (with_reducible repeat (first | refine blk_drewN ?_ _ | refine blk_drew ?_ | refine blk_alloc ?_ _)); refine blk_far ?_ NB399_401.out _; (with_reducible repeat (first | refine blk_drewN ?_ _ | refine blk_drew ?_ | refine blk_alloc ?_ _)); exact BK399.out⟩, ⟨by (with_reducible repeat (first | refine blk_drewN ?_ _ | refine blk_drew ?_ | refine blk_alloc ?_ _)); refine blk_far ?_ NB400_401.out _; (with_reducible repeat (first | refine blk_drewN ?_ _ | refine blk_drew ?_ | refine blk_alloc ?_ _)); refine blk_far ?_ NB400_401.out _; (with_reducible repeat (first | refine blk_drewN ?_ _ | refine blk_drew ?_ | refine blk_alloc ?_ _)); refine blk_far ?_ NB400_401.out _; (with_reducible repeat (first | refine blk_drewN ?_ _ | refine blk_drew ?_ | refine blk_alloc ?_ _)); refine blk_far ?_ NB400_401.out _; (with_reducible repeat (first | refine blk_drewN ?_ _ | refine blk_drew ?_ | refine blk_alloc ?_ _)); exact BK400.out⟩, ⟨by (with_reducible repeat (first | refine blk_drewN ?_ _ | refine blk_drew ?_ | refine blk_alloc ?_ _)); refine blk_put (cs := #[.int .i64 a1, .int .i64 a2, .int .i64 0, .int .i64 0]) ?_ 3 _ rfl; (with_reducible repeat (first | refine blk_drewN ?_ _ | refine blk_drew ?_ | refine blk_alloc ?_ _)); refine blk_put (cs := #[.int .i64 a1, .int .i64 a2, .int .i64 0, .int .i64 0]) ?_ 2 _ rfl; (with_reducible repeat (first | refine blk_drewN ?_ _ | refine blk_drew ?_ | refine blk_alloc ?_ _)); refine blk_put (cs := #[.int .i64 a1, .int .i64 0, .int .i64 0, .int .i64 0]) ?_ 1 _ rfl; (with_reducible repeat (first | refine blk_drewN ?_ _ | refine blk_drew ?_ | refine blk_alloc ?_ _)); refine blk_put (cs := #[.int .i64 0, .int .i64 0, .int .i64 0, .int .i64 0]) ?_ 0 _ rfl; (with_reducible repeat (first | refine blk_drewN ?_ _ | refine blk_drew ?_ | refine blk_alloc ?_ _)); exact BK401.out⟩, ⟨bw3 HB.out GE399.out GE400.out GE401.out⟩⟩
 case round =>
  clear H'
  obtain ⟨x10_1, x11_1, x12_1, x13_1, x14_1, x15_1, x16_1, x402002_1, x402003_1, rfl, rfl, rfl, rfl, HA, HK1, HO_10, HO_11, HO_12, BK399, BK400, BK401, HB⟩ := hrel
  cases gk with
  | zero => exact absurd HA.out (by simp [impl_logOf.l0])
  | succ k1 =>
   have H := HA.out
   clear HA
   simp only [impl_logOf.l0] at H
   by_cases c10 : x16_1 ≤ a2
   ·rw [if_pos c10] at H
    have c10b0 : decide (x16_1 ≤ a2) = true := decide_eq_true c10
    clear c10
    replace H := Option.bind_eq_some_iff.mp H
    obtain ⟨⟨t402, t405⟩, A110, H⟩ := H
    replace H : ((impl_sectorOf.f k1 t402).bind fun bt406 => (if bt406.2.2.2.2 = true then (impl_logOf.j1 k1 a1 a2 x10_1 x11_1 x12_1 x13_1 x14_1 x15_1 x16_1 bt406.2.2.2.2 l0_0 l0_1 a1 a2 x402002_1 (mx x402003_1 (wrap64 (bt406.1 + 1))) bt406.1 bt406.2.1 bt406.2.2.1 bt406.2.2.2.1) else (impl_logOf.j1 k1 a1 a2 x10_1 x11_1 x12_1 x13_1 x14_1 x15_1 x16_1 bt406.2.2.2.2 l0_0 l0_1 a1 a2 x402002_1 x402003_1 bt406.1 bt406.2.1 bt406.2.2.1 bt406.2.2.2.1))) = some (r1, r2, r3, r4, r5, r6) := H
    have A11 := Ak A110
    clear A110
    replace H := Option.bind_eq_some_iff.mp H
    obtain ⟨⟨t406, t407, t408, t409, t412⟩, A120, H⟩ := H
    replace H : (if t412 = true then (impl_logOf.j1 k1 a1 a2 x10_1 x11_1 x12_1 x13_1 x14_1 x15_1 x16_1 t412 l0_0 l0_1 a1 a2 x402002_1 (mx x402003_1 (wrap64 (t406 + 1))) t406 t407 t408 t409) else (impl_logOf.j1 k1 a1 a2 x10_1 x11_1 x12_1 x13_1 x14_1 x15_1 x16_1 t412 l0_0 l0_1 a1 a2 x402002_1 x402003_1 t406 t407 t408 t409)) = some (r1, r2, r3, r4, r5, r6) := H
    have A12 := Ak A120
    clear A120
    have HC13 := Ak H
    clear H
    have hnb14 := NB399_400.out
    have hnc14 := NB400_399.out
    have hnb15 := NB399_401.out
    have hnc15 := NB401_399.out
    have hcz16_0 : wr.cell? ⟨gb399, 0, none⟩ = some (.slice A0_0 l0_0.length c0_0) := (blk_cell BK399.out 0).trans rfl
    have hcz16_1 : wr.cell? ⟨gb399, 1, none⟩ = some (.slice A0_1 l0_1.length c0_1) := (blk_cell BK399.out 1).trans rfl
    have hfz16_0 := blk_frozen BK399.out 0
    have hfz16_1 := blk_frozen BK399.out 1
    go_upto_if 41 with (first | ((with_reducible refine gate_callee (f := 107) rfl ?_); refine goesL_ (some 33) rfl rfl Try.func107 (by kernel_rfl) rfl #[.agg #[.slice A0_0 l0_0.length c0_0, .slice A0_1 l0_1.length c0_1], .int .i64 x16_1] rfl gm ?_; (with_reducible refine (impl_ReadSector.calls k1 _ _ l0_0 _ _ l0_1 x16_1 t402 t405 _ ?side1 ?side2 ?side3 ?side4 A11.out).mono ?_); (case side1 => repeat (first | exact (Kd.C_below HR0_0.out HB.out) | (with_reducible refine Kd.C_alloc ?_ _) | (with_reducible refine Kd.C_drewN ?_ _) | (with_reducible refine Kd.C_drew ?_))); (case side2 => exact HC0_0.out); (case side3 => repeat (first | exact (Kd.C_below HR0_1.out HB.out) | (with_reducible refine Kd.C_alloc ?_ _) | (with_reducible refine Kd.C_drewN ?_ _) | (with_reducible refine Kd.C_drew ?_))); (case side4 => exact HC0_1.out); rintro e w17 ⟨v403, rfl, ho0, hb⟩; refine ⟨_, rfl, ?_⟩; have n0_ := Ak (Kd.S_elder' (sq HO_10.out) (Kd.R_base ho0) hb); have n1_ := Ak (Kd.R_below (rq HO_11.out) hb); have n2_ := Ak (Kd.R_elder' (rq HO_12.out) (Kd.R_base ho0) hb); have n3_ := Ak (Kd.R_lower (Kd.R_new' ho0 (Kd.R_lt (rq HO_12.out))) (below_size (bw3 HB.out GE399.out GE400.out GE401.out))); have n4_ := Ak (blk_below (g := gb399) (o := .cells #[.slice A0_0 l0_0.length c0_0, .slice A0_1 l0_1.length c0_1] 31 (0, 0)) (bq BK399.out) hb); have n5_ := Ak (blk_below (g := gb400) (o := .cells #[.int .i64 0, .int .i64 0, .int .i64 0, .int .i64 0] 32 (0, 0)) (bq BK400.out) hb); have n6_ := Ak (blk_below (g := gb401) (o := .cells #[.int .i64 a1, .int .i64 a2, .int .i64 x402002_1, .int .i64 x402003_1] 32 (0, 0)) (bq BK401.out) hb); have n7_ := Ak (below_step (bw3 HB.out GE399.out GE400.out GE401.out) hb); clear HO_10; clear HO_11; clear HO_12; clear BK399; clear BK400; clear BK401; clear HB; have HO_10 := n0_; have HO_11 := n1_; have HO_12 := n2_; have HO404 := n3_; have BK399 := n4_; have BK400 := n5_; have BK401 := n6_; have HB := n7_; clear n0_ n1_ n2_ n3_ n4_ n5_ n6_ n7_; obtain ⟨Ao18, co18, eo18⟩ := Kd.R_slice HO404.out; subst eo18) | ((with_reducible refine gate_callee (f := 108) rfl ?_); refine goesL_ (some 38) rfl rfl Try.func108 (by kernel_rfl) rfl #[.slice Ao18 t402.length co18] rfl gm ?_; (with_reducible refine (impl_sectorOf.calls k1 _ _ t402 t406 t407 t408 t409 t412 _ ?side1 ?side2 A12.out).mono ?_); (case side1 => repeat (first | exact (Kd.R_reads' HO404.out).2.2 | (with_reducible refine Kd.C_alloc ?_ _) | (with_reducible refine Kd.C_drewN ?_ _) | (with_reducible refine Kd.C_drew ?_))); (case side2 => exact (Kd.R_reads' HO404.out).2.1); rintro e w19 ⟨Ao25, co25, rfl, hs0, hb⟩; refine ⟨_, rfl, ?_⟩; have n0_ := Ak (View.S_sub (Kd.S_below (sq HO_10.out) hb) hs0); have n1_ := Ak (Kd.R_below (rq HO_11.out) hb); have n2_ := Ak (View.R_sub (Kd.R_below (rq HO_12.out) hb) hs0); have n4_ := Ak (View.W_mono (ok' := fun k_ => (True ∧ some k_ ≠ (u12 : Value).ownBlock) ∧ True) (View.W_of (Kd.R_below (rq HO404.out) hb) hs0) (fun _ h_ => ⟨h_, trivial⟩)); have n5_ := Ak (blk_below (g := gb399) (o := .cells #[.slice A0_0 l0_0.length c0_0, .slice A0_1 l0_1.length c0_1] 31 (0, 0)) (bq BK399.out) hb); have n6_ := Ak (blk_below (g := gb400) (o := .cells #[.int .i64 0, .int .i64 0, .int .i64 0, .int .i64 0] 32 (0, 0)) (bq BK400.out) hb); have n7_ := Ak (blk_below (g := gb401) (o := .cells #[.int .i64 a1, .int .i64 a2, .int .i64 x402002_1, .int .i64 x402003_1] 32 (0, 0)) (bq BK401.out) hb); have n8_ := Ak (below_step (bw3 HB.out GE399.out GE400.out GE401.out) hb); clear HO_10; clear HO_11; clear HO_12; clear HO404; clear BK399; clear BK400; clear BK401; clear HB; have HO_10 := n0_; have HO_11 := n1_; have HO_12 := n2_; have HO411 := n4_; have BK399 := n5_; have BK400 := n6_; have BK401 := n7_; have HB := n8_; clear n0_ n1_ n2_ n4_ n5_ n6_ n7_ n8_) | ((with_reducible refine gate_dst (N := 19) rfl ?_); refine box_event ?hg (N := 19) ?hd (cs := #[.int .i64 0, .int .i64 0, .int .u8 0, .slice none 0 0]) (t := 93) ?hr ?_; (case hd => rfl); (case hg => rfl); (case hr => first | (go_simp; done) | (go_simp; rfl)); intro gb413 hg w20 hbox hb; have n0_ := Ak (Kd.S_below (sq HO_10.out) hb); have n1_ := Ak (Kd.R_below (rq HO_11.out) hb); have n2_ := Ak (Kd.R_below (rq HO_12.out) hb); have n4_ := Ak (View.W_below (by (with_reducible repeat (first | apply View.W_alloc | apply View.W_drewN | apply View.W_drew)); exact HO411.out) hb); have n5_ := Ak (blk_below (g := gb399) (o := .cells #[.slice A0_0 l0_0.length c0_0, .slice A0_1 l0_1.length c0_1] 31 (0, 0)) (bq BK399.out) hb); have n6_ := Ak (blk_below (g := gb400) (o := .cells #[.int .i64 0, .int .i64 0, .int .i64 0, .int .i64 0] 32 (0, 0)) (bq BK400.out) hb); have n7_ := Ak (blk_below (g := gb401) (o := .cells #[.int .i64 a1, .int .i64 a2, .int .i64 x402002_1, .int .i64 x402003_1] 32 (0, 0)) (bq BK401.out) hb); have n8_ := Ak (below_step (bw3 HB.out GE399.out GE400.out GE401.out) hb); have n9_ := Ak (hbox); have n10_ := Ak ((by rw [hg]; exact (below_size (bw3 HB.out GE399.out GE400.out GE401.out)) : w.heap.size ≤ gb413)); have n11_ := Ak ((by rw [hg]; exact (below_size (bw3 HB.out GE399.out GE400.out GE401.out)) : w.heap.size ≤ gb413)); have n12_ := Ak ((by rw [hg]; exact Nat.ne_of_lt (blk_lt (g := gb399) (o := .cells #[.slice A0_0 l0_0.length c0_0, .slice A0_1 l0_1.length c0_1] 31 (0, 0)) (bq BK399.out)) : gb399 ≠ gb413)); have n13_ := Ak ((by rw [hg]; exact Nat.ne_of_gt (blk_lt (g := gb399) (o := .cells #[.slice A0_0 l0_0.length c0_0, .slice A0_1 l0_1.length c0_1] 31 (0, 0)) (bq BK399.out)) : gb413 ≠ gb399)); have n14_ := Ak ((by rw [hg]; exact Nat.ne_of_lt (blk_lt (g := gb400) (o := .cells #[.int .i64 0, .int .i64 0, .int .i64 0, .int .i64 0] 32 (0, 0)) (bq BK400.out)) : gb400 ≠ gb413)); have n15_ := Ak ((by rw [hg]; exact Nat.ne_of_gt (blk_lt (g := gb400) (o := .cells #[.int .i64 0, .int .i64 0, .int .i64 0, .int .i64 0] 32 (0, 0)) (bq BK400.out)) : gb413 ≠ gb400)); have n16_ := Ak ((by rw [hg]; exact Nat.ne_of_lt (blk_lt (g := gb401) (o := .cells #[.int .i64 a1, .int .i64 a2, .int .i64 x402002_1, .int .i64 x402003_1] 32 (0, 0)) (bq BK401.out)) : gb401 ≠ gb413)); have n17_ := Ak ((by rw [hg]; exact Nat.ne_of_gt (blk_lt (g := gb401) (o := .cells #[.int .i64 a1, .int .i64 a2, .int .i64 x402002_1, .int .i64 x402003_1] 32 (0, 0)) (bq BK401.out)) : gb413 ≠ gb401)); clear HO_10; clear HO_11; clear HO_12; clear HO411; clear BK399; clear BK400; clear BK401; clear HB; have HO_10 := n0_; have HO_11 := n1_; have HO_12 := n2_; have HO411 := n4_; have BK399 := n5_; have BK400 := n6_; have BK401 := n7_; have HB := n8_; have BK413 := n9_; have GW413 := n10_; have GE413 := n11_; have NB399_413 := n12_; have NB413_399 := n13_; have NB400_413 := n14_; have NB413_400 := n15_; have NB401_413 := n16_; have NB413_401 := n17_; clear n0_ n1_ n2_ n4_ n5_ n6_ n7_ n8_ n9_ n10_ n11_ n12_ n13_ n14_ n15_ n16_ n17_; clear hb hbox hg; have hnb21 := NB413_399.out; have hnc21 := NB399_413.out; have hnb22 := NB413_400.out; have hnc22 := NB400_413.out; have hnb23 := NB413_401.out; have hnc23 := NB401_413.out; have hcz24_0 : w20.cell? ⟨gb413, 0, none⟩ = some (.int .i64 0) := (blk_cell BK413.out 0).trans rfl; have hcz24_1 : w20.cell? ⟨gb413, 1, none⟩ = some (.int .i64 0) := (blk_cell BK413.out 1).trans rfl; have hcz24_2 : w20.cell? ⟨gb413, 2, none⟩ = some (.int .u8 0) := (blk_cell BK413.out 2).trans rfl; have hcz24_3 : w20.cell? ⟨gb413, 3, none⟩ = some (.slice none 0 0) := (blk_cell BK413.out 3).trans rfl; have hfz24_0 := blk_frozen BK413.out 0; have hfz24_1 := blk_frozen BK413.out 1; have hfz24_2 := blk_frozen BK413.out 2; have hfz24_3 := blk_frozen BK413.out 3))
    (try simp only [Act.put, sT, sZ, sS])
    go_cut [] (fun wc => ∃ (kq : Nat) (x402003_12 : Int), Aside0 (impl_logOf.j1 kq a1 a2 x10_1 x11_1 x12_1 x13_1 x14_1 x15_1 x16_1 t412 l0_0 l0_1 a1 a2 x402002_1 x402003_12 t406 t407 t408 t409 = some (r1, r2, r3, r4, r5, r6)) ∧ Aside0 (kq ≤ k1) ∧ Aside0 (Kd.S (Kd.slice 5 (Kd.int .u8)) 22 wc w.heap.size (fun k_ => some k_ ≠ (u12 : Value).ownBlock ∧ some k_ ≠ ((.slice Ao25 t409.length co25) : Value).ownBlock) u10 x10_1) ∧ Aside0 (Kd.R (Kd.int .i64) 3 wc w.heap.size (fun _ => True) u11 x11_1) ∧ Aside0 (Kd.R (Kd.int .u8) 5 wc w.heap.size (fun k_ => some k_ ≠ ((.slice Ao25 t409.length co25) : Value).ownBlock) u12 x12_1) ∧ Aside0 (View.W wc w.heap.size (fun k_ => some k_ ≠ (u12 : Value).ownBlock) (.slice Ao25 t409.length co25) t409) ∧ Aside0 (wc.heap[gb399]? = some (.cells #[(.slice A0_0 l0_0.length c0_0), (.slice A0_1 l0_1.length c0_1)] 31 (0, 0))) ∧ Aside0 (wc.heap[gb400]? = some (.cells #[.int .i64 0, .int .i64 0, .int .i64 0, .int .i64 0] 32 (0, 0))) ∧ Aside0 (wc.heap[gb401]? = some (.cells #[.int .i64 a1, .int .i64 a2, .int .i64 x402002_1, .int .i64 x402003_12] 32 (0, 0))) ∧ Aside0 (wc.heap[gb413]? = some (.cells #[.int .i64 t406, .int .i64 t407, .int .u8 t408, (.slice Ao25 t409.length co25)] 93 (0, 0))) ∧ Aside0 (Below w.heap.size w wc))
    case first =>
     have H := HC13.out
     clear HC13
     by_cases c26 : t412 = true
     ·subst c26
      have H1 : (impl_logOf.j1 k1 a1 a2 x10_1 x11_1 x12_1 x13_1 x14_1 x15_1 x16_1 true l0_0 l0_1 a1 a2 x402002_1 (mx x402003_1 (wrap64 (t406 + 1))) t406 t407 t408 t409) = some (r1, r2, r3, r4, r5, r6) := by rw [if_pos rfl] at H; exact H
      clear H
      have H := H1
      clear H1
      obtain ⟨ji27, hji27⟩ : ∃ j_ : Int, (mx x402003_1 (wrap64 (t406 + 1))) = j_ := ⟨_, rfl⟩
      replace H : (impl_logOf.j1 k1 a1 a2 x10_1 x11_1 x12_1 x13_1 x14_1 x15_1 x16_1 true l0_0 l0_1 a1 a2 x402002_1 ji27 t406 t407 t408 t409) = some (r1, r2, r3, r4, r5, r6) := by first | (rw [hji27] at H; exact H) | (simp only [hji27] at H ⊢; exact H)
      have hji27_ : (if x402003_1 < (wrap64 (t406 + 1)) then (wrap64 (t406 + 1)) else x402003_1) = ji27 := hji27
      have H' := Ak H
      clear H
      have hnb28 := NB401_399.out
      have hnc28 := NB399_401.out
      have hnb29 := NB401_400.out
      have hnc29 := NB400_401.out
      have hnb30 := NB401_413.out
      have hnc30 := NB413_401.out
      have hcz31_0 : w20.cell? ⟨gb401, 0, none⟩ = some (.int .i64 a1) := (blk_cell BK401.out 0).trans rfl
      have hcz31_1 : w20.cell? ⟨gb401, 1, none⟩ = some (.int .i64 a2) := (blk_cell BK401.out 1).trans rfl
      have hcz31_2 : w20.cell? ⟨gb401, 2, none⟩ = some (.int .i64 x402002_1) := (blk_cell BK401.out 2).trans rfl
      have hcz31_3 : w20.cell? ⟨gb401, 3, none⟩ = some (.int .i64 x402003_1) := (blk_cell BK401.out 3).trans rfl
      have hfz31_0 := blk_frozen BK401.out 0
      have hfz31_1 := blk_frozen BK401.out 1
      have hfz31_2 := blk_frozen BK401.out 2
      have hfz31_3 := blk_frozen BK401.out 3
      have hnb32 := NB413_399.out
      have hnc32 := NB399_413.out
      have hnb33 := NB413_400.out
      have hnc33 := NB400_413.out
      have hcz34_0 : w20.cell? ⟨gb413, 0, none⟩ = some (.int .i64 0) := (blk_cell BK413.out 0).trans rfl
      have hcz34_1 : w20.cell? ⟨gb413, 1, none⟩ = some (.int .i64 0) := (blk_cell BK413.out 1).trans rfl
      have hcz34_2 : w20.cell? ⟨gb413, 2, none⟩ = some (.int .u8 0) := (blk_cell BK413.out 2).trans rfl
      have hcz34_3 : w20.cell? ⟨gb413, 3, none⟩ = some (.slice none 0 0) := (blk_cell BK413.out 3).trans rfl
      have hfz34_0 := blk_frozen BK413.out 0
      have hfz34_1 := blk_frozen BK413.out 1
      have hfz34_2 := blk_frozen BK413.out 2
      have hfz34_3 := blk_frozen BK413.out 3
      go_wp2
      go_meet
      case rel => exact ⟨_, (ji27), H', ⟨by have := HK1.out; first | omega | exact Nat.le_refl _⟩, ⟨by (with_reducible repeat (first | apply Kd.S_alloc | apply Kd.S_drewN | apply Kd.S_drew)); exact Kd.S_mono (Kd.S_far (p := ⟨gb401, 3, none⟩) (Kd.S_far (p := ⟨gb413, 3, none⟩) (Kd.S_far (p := ⟨gb413, 2, none⟩) (Kd.S_far (p := ⟨gb413, 1, none⟩) (Kd.S_far (p := ⟨gb413, 0, none⟩) (Kd.S_types (Kd.S_types HO_10.out BK413.out (by decide)) BK401.out (by decide)) (fun _ hk => hk.1.2) (.int .i64 t406)) (fun _ hk => hk.1.2) (.int .i64 t407)) (fun _ hk => hk.1.2) (.int .u8 t408)) (fun _ hk => hk.1.2) (.slice Ao25 t409.length co25)) (fun _ hk => hk.2) (.int .i64 ji27)) (fun _ hk => ⟨hk.1.1.1.1, hk.1.1.2⟩)⟩, ⟨by (with_reducible repeat (first | apply Kd.R_alloc | apply Kd.R_drewN | apply Kd.R_drew)); exact Kd.R_mono (Kd.R_far (p := ⟨gb401, 3, none⟩) (Kd.R_far (p := ⟨gb413, 3, none⟩) (Kd.R_far (p := ⟨gb413, 2, none⟩) (Kd.R_far (p := ⟨gb413, 1, none⟩) (Kd.R_far (p := ⟨gb413, 0, none⟩) (Kd.R_types (Kd.R_types HO_11.out BK413.out (by decide)) BK401.out (by decide)) (fun _ hk => hk.1.2) (.int .i64 t406)) (fun _ hk => hk.1.2) (.int .i64 t407)) (fun _ hk => hk.1.2) (.int .u8 t408)) (fun _ hk => hk.1.2) (.slice Ao25 t409.length co25)) (fun _ hk => hk.2) (.int .i64 ji27)) (fun _ hk => trivial)⟩, ⟨by (with_reducible repeat (first | apply Kd.R_alloc | apply Kd.R_drewN | apply Kd.R_drew)); exact Kd.R_mono (Kd.R_far (p := ⟨gb401, 3, none⟩) (Kd.R_far (p := ⟨gb413, 3, none⟩) (Kd.R_far (p := ⟨gb413, 2, none⟩) (Kd.R_far (p := ⟨gb413, 1, none⟩) (Kd.R_far (p := ⟨gb413, 0, none⟩) (Kd.R_types (Kd.R_types HO_12.out BK413.out (by decide)) BK401.out (by decide)) (fun _ hk => hk.1.2) (.int .i64 t406)) (fun _ hk => hk.1.2) (.int .i64 t407)) (fun _ hk => hk.1.2) (.int .u8 t408)) (fun _ hk => hk.1.2) (.slice Ao25 t409.length co25)) (fun _ hk => hk.2) (.int .i64 ji27)) (fun _ hk => hk.1.1.2)⟩, ⟨by (with_reducible repeat (first | apply View.W_alloc | apply View.W_drewN | apply View.W_drew)); exact View.W_mono (View.W_far (p := ⟨gb401, 3, none⟩) (View.W_far (p := ⟨gb413, 3, none⟩) (View.W_far (p := ⟨gb413, 2, none⟩) (View.W_far (p := ⟨gb413, 1, none⟩) (View.W_far (p := ⟨gb413, 0, none⟩) (View.W_types (View.W_types HO411.out BK413.out (by decide)) BK401.out (by decide)) (fun _ hk => hk.1.2) (.int .i64 t406)) (fun _ hk => hk.1.2) (.int .i64 t407)) (fun _ hk => hk.1.2) (.int .u8 t408)) (fun _ hk => hk.1.2) (.slice Ao25 t409.length co25)) (fun _ hk => hk.2) (.int .i64 ji27)) (fun _ hk => hk.1.1.1.2)⟩, ⟨by (with_reducible repeat (first | refine blk_drewN ?_ _ | refine blk_drew ?_ | refine blk_alloc ?_ _)); refine blk_far ?_ NB399_401.out _; (with_reducible repeat (first | refine blk_drewN ?_ _ | refine blk_drew ?_ | refine blk_alloc ?_ _)); refine blk_far ?_ NB399_413.out _; (with_reducible repeat (first | refine blk_drewN ?_ _ | refine blk_drew ?_ | refine blk_alloc ?_ _)); refine blk_far ?_ NB399_413.out _; (with_reducible repeat (first | refine blk_drewN ?_ _ | refine blk_drew ?_ | refine blk_alloc ?_ _)); refine blk_far ?_ NB399_413.out _; (with_reducible repeat (first | refine blk_drewN ?_ _ | refine blk_drew ?_ | refine blk_alloc ?_ _)); refine blk_far ?_ NB399_413.out _; (with_reducible repeat (first | refine blk_drewN ?_ _ | refine blk_drew ?_ | refine blk_alloc ?_ _)); exact BK399.out⟩, ⟨by (with_reducible repeat (first | refine blk_drewN ?_ _ | refine blk_drew ?_ | refine blk_alloc ?_ _)); refine blk_far ?_ NB400_401.out _; (with_reducible repeat (first | refine blk_drewN ?_ _ | refine blk_drew ?_ | refine blk_alloc ?_ _)); refine blk_far ?_ NB400_413.out _; (with_reducible repeat (first | refine blk_drewN ?_ _ | refine blk_drew ?_ | refine blk_alloc ?_ _)); refine blk_far ?_ NB400_413.out _; (with_reducible repeat (first | refine blk_drewN ?_ _ | refine blk_drew ?_ | refine blk_alloc ?_ _)); refine blk_far ?_ NB400_413.out _; (with_reducible repeat (first | refine blk_drewN ?_ _ | refine blk_drew ?_ | refine blk_alloc ?_ _)); refine blk_far ?_ NB400_413.out _; (with_reducible repeat (first | refine blk_drewN ?_ _ | refine blk_drew ?_ | refine blk_alloc ?_ _)); exact BK400.out⟩, ⟨by (with_reducible repeat (first | refine blk_drewN ?_ _ | refine blk_drew ?_ | refine blk_alloc ?_ _)); refine blk_put (cs := #[.int .i64 a1, .int .i64 a2, .int .i64 x402002_1, .int .i64 x402003_1]) ?_ 3 _ rfl; (with_reducible repeat (first | refine blk_drewN ?_ _ | refine blk_drew ?_ | refine blk_alloc ?_ _)); refine blk_far ?_ NB401_413.out _; (with_reducible repeat (first | refine blk_drewN ?_ _ | refine blk_drew ?_ | refine blk_alloc ?_ _)); refine blk_far ?_ NB401_413.out _; (with_reducible repeat (first | refine blk_drewN ?_ _ | refine blk_drew ?_ | refine blk_alloc ?_ _)); refine blk_far ?_ NB401_413.out _; (with_reducible repeat (first | refine blk_drewN ?_ _ | refine blk_drew ?_ | refine blk_alloc ?_ _)); refine blk_far ?_ NB401_413.out _; (with_reducible repeat (first | refine blk_drewN ?_ _ | refine blk_drew ?_ | refine blk_alloc ?_ _)); exact BK401.out⟩, ⟨by (with_reducible repeat (first | refine blk_drewN ?_ _ | refine blk_drew ?_ | refine blk_alloc ?_ _)); refine blk_far ?_ NB413_401.out _; (with_reducible repeat (first | refine blk_drewN ?_ _ | refine blk_drew ?_ | refine blk_alloc ?_ _)); refine blk_put (cs := #[.int .i64 t406, .int .i64 t407, .int .u8 t408, .slice none 0 0]) ?_ 3 _ rfl; (with_reducible repeat (first | refine blk_drewN ?_ _ | refine blk_drew ?_ | refine blk_alloc ?_ _)); refine blk_put (cs := #[.int .i64 t406, .int .i64 t407, .int .u8 0, .slice none 0 0]) ?_ 2 _ rfl; (with_reducible repeat (first | refine blk_drewN ?_ _ | refine blk_drew ?_ | refine blk_alloc ?_ _)); refine blk_put (cs := #[.int .i64 t406, .int .i64 0, .int .u8 0, .slice none 0 0]) ?_ 1 _ rfl; (with_reducible repeat (first | refine blk_drewN ?_ _ | refine blk_drew ?_ | refine blk_alloc ?_ _)); refine blk_put (cs := #[.int .i64 0, .int .i64 0, .int .u8 0, .slice none 0 0]) ?_ 0 _ rfl; (with_reducible repeat (first | refine blk_drewN ?_ _ | refine blk_drew ?_ | refine blk_alloc ?_ _)); exact BK413.out⟩, ⟨bw4 HB.out GE399.out GE400.out GE401.out GE413.out⟩⟩
     ·replace c26 := Bool.eq_false_iff.mpr c26
      subst c26
      have H1 : (impl_logOf.j1 k1 a1 a2 x10_1 x11_1 x12_1 x13_1 x14_1 x15_1 x16_1 false l0_0 l0_1 a1 a2 x402002_1 x402003_1 t406 t407 t408 t409) = some (r1, r2, r3, r4, r5, r6) := by rw [if_neg (show ¬ (false = true) by decide)] at H; exact H
      clear H
      have H := H1
      clear H1
      have H' := Ak H
      clear H
      go_wp2
      go_meet
      case rel => exact ⟨_, (x402003_1), H', ⟨by have := HK1.out; first | omega | exact Nat.le_refl _⟩, ⟨by (with_reducible repeat (first | apply Kd.S_alloc | apply Kd.S_drewN | apply Kd.S_drew)); exact Kd.S_mono (Kd.S_far (p := ⟨gb413, 3, none⟩) (Kd.S_far (p := ⟨gb413, 2, none⟩) (Kd.S_far (p := ⟨gb413, 1, none⟩) (Kd.S_far (p := ⟨gb413, 0, none⟩) (Kd.S_types HO_10.out BK413.out (by decide)) (fun _ hk => hk.2) (.int .i64 t406)) (fun _ hk => hk.2) (.int .i64 t407)) (fun _ hk => hk.2) (.int .u8 t408)) (fun _ hk => hk.2) (.slice Ao25 t409.length co25)) (fun _ hk => ⟨hk.1.1.1, hk.1.2⟩)⟩, ⟨by (with_reducible repeat (first | apply Kd.R_alloc | apply Kd.R_drewN | apply Kd.R_drew)); exact Kd.R_mono (Kd.R_far (p := ⟨gb413, 3, none⟩) (Kd.R_far (p := ⟨gb413, 2, none⟩) (Kd.R_far (p := ⟨gb413, 1, none⟩) (Kd.R_far (p := ⟨gb413, 0, none⟩) (Kd.R_types HO_11.out BK413.out (by decide)) (fun _ hk => hk.2) (.int .i64 t406)) (fun _ hk => hk.2) (.int .i64 t407)) (fun _ hk => hk.2) (.int .u8 t408)) (fun _ hk => hk.2) (.slice Ao25 t409.length co25)) (fun _ hk => trivial)⟩, ⟨by (with_reducible repeat (first | apply Kd.R_alloc | apply Kd.R_drewN | apply Kd.R_drew)); exact Kd.R_mono (Kd.R_far (p := ⟨gb413, 3, none⟩) (Kd.R_far (p := ⟨gb413, 2, none⟩) (Kd.R_far (p := ⟨gb413, 1, none⟩) (Kd.R_far (p := ⟨gb413, 0, none⟩) (Kd.R_types HO_12.out BK413.out (by decide)) (fun _ hk => hk.2) (.int .i64 t406)) (fun _ hk => hk.2) (.int .i64 t407)) (fun _ hk => hk.2) (.int .u8 t408)) (fun _ hk => hk.2) (.slice Ao25 t409.length co25)) (fun _ hk => hk.1.2)⟩, ⟨by (with_reducible repeat (first | apply View.W_alloc | apply View.W_drewN | apply View.W_drew)); exact View.W_mono (View.W_far (p := ⟨gb413, 3, none⟩) (View.W_far (p := ⟨gb413, 2, none⟩) (View.W_far (p := ⟨gb413, 1, none⟩) (View.W_far (p := ⟨gb413, 0, none⟩) (View.W_types HO411.out BK413.out (by decide)) (fun _ hk => hk.2) (.int .i64 t406)) (fun _ hk => hk.2) (.int .i64 t407)) (fun _ hk => hk.2) (.int .u8 t408)) (fun _ hk => hk.2) (.slice Ao25 t409.length co25)) (fun _ hk => hk.1.1.2)⟩, ⟨by (with_reducible repeat (first | refine blk_drewN ?_ _ | refine blk_drew ?_ | refine blk_alloc ?_ _)); refine blk_far ?_ NB399_413.out _; (with_reducible repeat (first | refine blk_drewN ?_ _ | refine blk_drew ?_ | refine blk_alloc ?_ _)); refine blk_far ?_ NB399_413.out _; (with_reducible repeat (first | refine blk_drewN ?_ _ | refine blk_drew ?_ | refine blk_alloc ?_ _)); refine blk_far ?_ NB399_413.out _; (with_reducible repeat (first | refine blk_drewN ?_ _ | refine blk_drew ?_ | refine blk_alloc ?_ _)); refine blk_far ?_ NB399_413.out _; (with_reducible repeat (first | refine blk_drewN ?_ _ | refine blk_drew ?_ | refine blk_alloc ?_ _)); exact BK399.out⟩, ⟨by (with_reducible repeat (first | refine blk_drewN ?_ _ | refine blk_drew ?_ | refine blk_alloc ?_ _)); refine blk_far ?_ NB400_413.out _; (with_reducible repeat (first | refine blk_drewN ?_ _ | refine blk_drew ?_ | refine blk_alloc ?_ _)); refine blk_far ?_ NB400_413.out _; (with_reducible repeat (first | refine blk_drewN ?_ _ | refine blk_drew ?_ | refine blk_alloc ?_ _)); refine blk_far ?_ NB400_413.out _; (with_reducible repeat (first | refine blk_drewN ?_ _ | refine blk_drew ?_ | refine blk_alloc ?_ _)); refine blk_far ?_ NB400_413.out _; (with_reducible repeat (first | refine blk_drewN ?_ _ | refine blk_drew ?_ | refine blk_alloc ?_ _)); exact BK400.out⟩, ⟨by (with_reducible repeat (first | refine blk_drewN ?_ _ | refine blk_drew ?_ | refine blk_alloc ?_ _)); refine blk_far ?_ NB401_413.out _; (with_reducible repeat (first | refine blk_drewN ?_ _ | refine blk_drew ?_ | refine blk_alloc ?_ _)); refine blk_far ?_ NB401_413.out _; (with_reducible repeat (first | refine blk_drewN ?_ _ | refine blk_drew ?_ | refine blk_alloc ?_ _)); refine blk_far ?_ NB401_413.out _; (with_reducible repeat (first | refine blk_drewN ?_ _ | refine blk_drew ?_ | refine blk_alloc ?_ _)); refine blk_far ?_ NB401_413.out _; (with_reducible repeat (first | refine blk_drewN ?_ _ | refine blk_drew ?_ | refine blk_alloc ?_ _)); exact BK401.out⟩, ⟨by (with_reducible repeat (first | refine blk_drewN ?_ _ | refine blk_drew ?_ | refine blk_alloc ?_ _)); refine blk_put (cs := #[.int .i64 t406, .int .i64 t407, .int .u8 t408, .slice none 0 0]) ?_ 3 _ rfl; (with_reducible repeat (first | refine blk_drewN ?_ _ | refine blk_drew ?_ | refine blk_alloc ?_ _)); refine blk_put (cs := #[.int .i64 t406, .int .i64 t407, .int .u8 0, .slice none 0 0]) ?_ 2 _ rfl; (with_reducible repeat (first | refine blk_drewN ?_ _ | refine blk_drew ?_ | refine blk_alloc ?_ _)); refine blk_put (cs := #[.int .i64 t406, .int .i64 0, .int .u8 0, .slice none 0 0]) ?_ 1 _ rfl; (with_reducible repeat (first | refine blk_drewN ?_ _ | refine blk_drew ?_ | refine blk_alloc ?_ _)); refine blk_put (cs := #[.int .i64 0, .int .i64 0, .int .u8 0, .slice none 0 0]) ?_ 0 _ rfl; (with_reducible repeat (first | refine blk_drewN ?_ _ | refine blk_drew ?_ | refine blk_alloc ?_ _)); exact BK413.out⟩, ⟨bw4 HB.out GE399.out GE400.out GE401.out GE413.out⟩⟩
    case rest =>
     clear HC13
     try clear c10b0
     obtain ⟨kq, x402003_12, HA, HJ12, HO_10, HO_11, HO_12, HO_414003, BK399, BK400, BK401, BK413, HB⟩ := hcut
     cases kq with
     | zero => exact absurd HA.out (by simp [impl_logOf.j1])
     | succ kj12 =>
      have H := HA.out
      clear HA
      simp only [impl_logOf.j1] at H
      have HC35 := Ak H
      clear H
      go_upto_region 13 with (fail)
      go_cut [15] (fun v15 wc => ∃ (kq : Nat) (x15_34 : Bool), v15 = .bool x15_34 ∧ Aside0 (impl_logOf.j2 kq a1 a2 x10_1 x11_1 x12_1 x13_1 x14_1 x15_34 x16_1 l0_0 l0_1 a1 a2 x402002_1 x402003_12 t406 t407 t408 t409 = some (r1, r2, r3, r4, r5, r6)) ∧ Aside0 (kq ≤ kj12) ∧ Aside0 (Kd.S (Kd.slice 5 (Kd.int .u8)) 22 wc w.heap.size (fun k_ => some k_ ≠ (u12 : Value).ownBlock ∧ some k_ ≠ ((.slice Ao25 t409.length co25) : Value).ownBlock) u10 x10_1) ∧ Aside0 (Kd.R (Kd.int .i64) 3 wc w.heap.size (fun _ => True) u11 x11_1) ∧ Aside0 (Kd.R (Kd.int .u8) 5 wc w.heap.size (fun k_ => some k_ ≠ ((.slice Ao25 t409.length co25) : Value).ownBlock) u12 x12_1) ∧ Aside0 (View.W wc w.heap.size (fun k_ => some k_ ≠ (u12 : Value).ownBlock) (.slice Ao25 t409.length co25) t409) ∧ Aside0 (wc.heap[gb399]? = some (.cells #[(.slice A0_0 l0_0.length c0_0), (.slice A0_1 l0_1.length c0_1)] 31 (0, 0))) ∧ Aside0 (wc.heap[gb400]? = some (.cells #[.int .i64 0, .int .i64 0, .int .i64 0, .int .i64 0] 32 (0, 0))) ∧ Aside0 (wc.heap[gb401]? = some (.cells #[.int .i64 a1, .int .i64 a2, .int .i64 x402002_1, .int .i64 x402003_12] 32 (0, 0))) ∧ Aside0 (wc.heap[gb413]? = some (.cells #[.int .i64 t406, .int .i64 t407, .int .u8 t408, (.slice Ao25 t409.length co25)] 93 (0, 0))) ∧ Aside0 (Below w.heap.size w wc))
      case first =>
       have H := HC35.out
       clear HC35
       by_cases c36 : x15_1 = true
       ·subst c36
        have H1 : (impl_logOf.j2 kj12 a1 a2 x10_1 x11_1 x12_1 x13_1 x14_1 true x16_1 l0_0 l0_1 a1 a2 x402002_1 x402003_12 t406 t407 t408 t409) = some (r1, r2, r3, r4, r5, r6) := by rw [if_pos rfl] at H; exact H
        clear H
        have H := H1
        clear H1
        have H' := Ak H
        clear H
        go_wp2
        go_meet
        case rel => exact ⟨_, (true), (by first | rfl | (simp; done) | (simp [*]; done)), H', ⟨by have := HK1.out; have := HJ12.out; first | omega | exact Nat.le_refl _⟩, ⟨sq HO_10.out⟩, ⟨rq HO_11.out⟩, ⟨rq HO_12.out⟩, ⟨by (with_reducible repeat (first | apply View.W_alloc | apply View.W_drewN | apply View.W_drew)); exact HO_414003.out⟩, ⟨bq BK399.out⟩, ⟨bq BK400.out⟩, ⟨bq BK401.out⟩, ⟨bq BK413.out⟩, ⟨bw4 HB.out GE399.out GE400.out GE401.out GE413.out⟩⟩
       ·replace c36 := Bool.eq_false_iff.mpr c36
        subst c36
        have H1 : (if t412 = true then (if t407 = (wrap64 (x16_1 - a1)) then (if t406 < x13_1 then (impl_logOf.j2 kj12 a1 a2 x10_1 x11_1 x12_1 x13_1 x14_1 true x16_1 l0_0 l0_1 a1 a2 x402002_1 x402003_12 t406 t407 t408 t409) else (if x14_1 > 0 then (impl_logOf.j2 kj12 a1 a2 x10_1 x11_1 x12_1 x13_1 x14_1 (t406 != x14_1) x16_1 l0_0 l0_1 a1 a2 x402002_1 x402003_12 t406 t407 t408 t409) else (impl_logOf.j2 kj12 a1 a2 x10_1 x11_1 x12_1 x13_1 x14_1 false x16_1 l0_0 l0_1 a1 a2 x402002_1 x402003_12 t406 t407 t408 t409))) else (impl_logOf.j2 kj12 a1 a2 x10_1 x11_1 x12_1 x13_1 x14_1 true x16_1 l0_0 l0_1 a1 a2 x402002_1 x402003_12 t406 t407 t408 t409)) else (impl_logOf.j2 kj12 a1 a2 x10_1 x11_1 x12_1 x13_1 x14_1 true x16_1 l0_0 l0_1 a1 a2 x402002_1 x402003_12 t406 t407 t408 t409)) = some (r1, r2, r3, r4, r5, r6) := by rw [if_neg (show ¬ (false = true) by decide)] at H; exact H
        clear H
        have H := H1
        clear H1
        by_cases c37 : t412 = true
        ·subst c37
         have H1 : (if t407 = (wrap64 (x16_1 - a1)) then (if t406 < x13_1 then (impl_logOf.j2 kj12 a1 a2 x10_1 x11_1 x12_1 x13_1 x14_1 true x16_1 l0_0 l0_1 a1 a2 x402002_1 x402003_12 t406 t407 t408 t409) else (if x14_1 > 0 then (impl_logOf.j2 kj12 a1 a2 x10_1 x11_1 x12_1 x13_1 x14_1 (t406 != x14_1) x16_1 l0_0 l0_1 a1 a2 x402002_1 x402003_12 t406 t407 t408 t409) else (impl_logOf.j2 kj12 a1 a2 x10_1 x11_1 x12_1 x13_1 x14_1 false x16_1 l0_0 l0_1 a1 a2 x402002_1 x402003_12 t406 t407 t408 t409))) else (impl_logOf.j2 kj12 a1 a2 x10_1 x11_1 x12_1 x13_1 x14_1 true x16_1 l0_0 l0_1 a1 a2 x402002_1 x402003_12 t406 t407 t408 t409)) = some (r1, r2, r3, r4, r5, r6) := by rw [if_pos rfl] at H; exact H
         clear H
         have H := H1
         clear H1
         by_cases c38 : t407 = (wrap64 (x16_1 - a1))
         ·rw [if_pos c38] at H
          have c38b0 : (t407 == (wrap64 (x16_1 - a1))) = true := beq_iff_eq.mpr c38
          have c38b1 : (t407 != (wrap64 (x16_1 - a1))) = false := bne_eq_false_iff_eq.mpr c38
          clear c38
          (first | rw [c38b0] | (simp only [i64_w, i32_w]; rw [c38b0]) | skip)
          by_cases c39 : t406 < x13_1
          ·rw [if_pos c39] at H
           have c39b0 : decide (t406 < x13_1) = true := decide_eq_true c39
           clear c39
           have H' := Ak H
           clear H
           have hnb40 := NB413_399.out
           have hnc40 := NB399_413.out
           have hnb41 := NB413_400.out
           have hnc41 := NB400_413.out
           have hnb42 := NB413_401.out
           have hnc42 := NB401_413.out
           have hcz43_0 : wc.cell? ⟨gb413, 0, none⟩ = some (.int .i64 t406) := (blk_cell BK413.out 0).trans rfl
           have hcz43_1 : wc.cell? ⟨gb413, 1, none⟩ = some (.int .i64 t407) := (blk_cell BK413.out 1).trans rfl
           have hcz43_2 : wc.cell? ⟨gb413, 2, none⟩ = some (.int .u8 t408) := (blk_cell BK413.out 2).trans rfl
           have hcz43_3 : wc.cell? ⟨gb413, 3, none⟩ = some (.slice Ao25 t409.length co25) := (blk_cell BK413.out 3).trans rfl
           have hfz43_0 := blk_frozen BK413.out 0
           have hfz43_1 := blk_frozen BK413.out 1
           have hfz43_2 := blk_frozen BK413.out 2
           have hfz43_3 := blk_frozen BK413.out 3
           go_wp2
           go_meet
           case rel => exact ⟨_, (true), (by first | rfl | (simp; done) | (simp [*]; done)), H', ⟨by have := HK1.out; have := HJ12.out; first | omega | exact Nat.le_refl _⟩, ⟨sq HO_10.out⟩, ⟨rq HO_11.out⟩, ⟨rq HO_12.out⟩, ⟨by (with_reducible repeat (first | apply View.W_alloc | apply View.W_drewN | apply View.W_drew)); exact HO_414003.out⟩, ⟨bq BK399.out⟩, ⟨bq BK400.out⟩, ⟨bq BK401.out⟩, ⟨bq BK413.out⟩, ⟨bw4 HB.out GE399.out GE400.out GE401.out GE413.out⟩⟩
          ·rw [if_neg c39] at H
           have c39b0 : decide (t406 < x13_1) = false := decide_eq_false c39
           clear c39
           by_cases c44 : x14_1 > 0
           ·rw [if_pos c44] at H
            have c44b0 : decide (0 < x14_1) = true := decide_eq_true c44
            clear c44
            have H' := Ak H
            clear H
            have hnb45 := NB413_399.out
            have hnc45 := NB399_413.out
            have hnb46 := NB413_400.out
            have hnc46 := NB400_413.out
            have hnb47 := NB413_401.out
            have hnc47 := NB401_413.out
            have hcz48_0 : wc.cell? ⟨gb413, 0, none⟩ = some (.int .i64 t406) := (blk_cell BK413.out 0).trans rfl
            have hcz48_1 : wc.cell? ⟨gb413, 1, none⟩ = some (.int .i64 t407) := (blk_cell BK413.out 1).trans rfl
            have hcz48_2 : wc.cell? ⟨gb413, 2, none⟩ = some (.int .u8 t408) := (blk_cell BK413.out 2).trans rfl
            have hcz48_3 : wc.cell? ⟨gb413, 3, none⟩ = some (.slice Ao25 t409.length co25) := (blk_cell BK413.out 3).trans rfl
            have hfz48_0 := blk_frozen BK413.out 0
            have hfz48_1 := blk_frozen BK413.out 1
            have hfz48_2 := blk_frozen BK413.out 2
            have hfz48_3 := blk_frozen BK413.out 3
            go_wp2
            go_meet
            case rel => exact ⟨_, ((t406 != x14_1)), (by first | rfl | (simp; done) | (simp [*]; done)), H', ⟨by have := HK1.out; have := HJ12.out; first | omega | exact Nat.le_refl _⟩, ⟨sq HO_10.out⟩, ⟨rq HO_11.out⟩, ⟨rq HO_12.out⟩, ⟨by (with_reducible repeat (first | apply View.W_alloc | apply View.W_drewN | apply View.W_drew)); exact HO_414003.out⟩, ⟨bq BK399.out⟩, ⟨bq BK400.out⟩, ⟨bq BK401.out⟩, ⟨bq BK413.out⟩, ⟨bw4 HB.out GE399.out GE400.out GE401.out GE413.out⟩⟩
           ·rw [if_neg c44] at H
            have c44b0 : decide (0 < x14_1) = false := decide_eq_false c44
            clear c44
            have H' := Ak H
            clear H
            have hnb49 := NB413_399.out
            have hnc49 := NB399_413.out
            have hnb50 := NB413_400.out
            have hnc50 := NB400_413.out
            have hnb51 := NB413_401.out
            have hnc51 := NB401_413.out
            have hcz52_0 : wc.cell? ⟨gb413, 0, none⟩ = some (.int .i64 t406) := (blk_cell BK413.out 0).trans rfl
            have hcz52_1 : wc.cell? ⟨gb413, 1, none⟩ = some (.int .i64 t407) := (blk_cell BK413.out 1).trans rfl
            have hcz52_2 : wc.cell? ⟨gb413, 2, none⟩ = some (.int .u8 t408) := (blk_cell BK413.out 2).trans rfl
            have hcz52_3 : wc.cell? ⟨gb413, 3, none⟩ = some (.slice Ao25 t409.length co25) := (blk_cell BK413.out 3).trans rfl
            have hfz52_0 := blk_frozen BK413.out 0
            have hfz52_1 := blk_frozen BK413.out 1
            have hfz52_2 := blk_frozen BK413.out 2
            have hfz52_3 := blk_frozen BK413.out 3
            go_wp2
            go_meet
            case rel => exact ⟨_, (false), (by first | rfl | (simp; done) | (simp [*]; done)), H', ⟨by have := HK1.out; have := HJ12.out; first | omega | exact Nat.le_refl _⟩, ⟨sq HO_10.out⟩, ⟨rq HO_11.out⟩, ⟨rq HO_12.out⟩, ⟨by (with_reducible repeat (first | apply View.W_alloc | apply View.W_drewN | apply View.W_drew)); exact HO_414003.out⟩, ⟨bq BK399.out⟩, ⟨bq BK400.out⟩, ⟨bq BK401.out⟩, ⟨bq BK413.out⟩, ⟨bw4 HB.out GE399.out GE400.out GE401.out GE413.out⟩⟩
         ·rw [if_neg c38] at H
          have c38b0 : (t407 == (wrap64 (x16_1 - a1))) = false := beq_eq_false_iff_ne.mpr c38
          have c38b1 : (t407 != (wrap64 (x16_1 - a1))) = true := bne_iff_ne.mpr c38
          (first | rw [c38b0] | (simp only [i64_w, i32_w]; rw [c38b0]) | skip)
          have H' := Ak H
          clear H
          have hnb53 := NB413_399.out
          have hnc53 := NB399_413.out
          have hnb54 := NB413_400.out
          have hnc54 := NB400_413.out
          have hnb55 := NB413_401.out
          have hnc55 := NB401_413.out
          have hcz56_0 : wc.cell? ⟨gb413, 0, none⟩ = some (.int .i64 t406) := (blk_cell BK413.out 0).trans rfl
          have hcz56_1 : wc.cell? ⟨gb413, 1, none⟩ = some (.int .i64 t407) := (blk_cell BK413.out 1).trans rfl
          have hcz56_2 : wc.cell? ⟨gb413, 2, none⟩ = some (.int .u8 t408) := (blk_cell BK413.out 2).trans rfl
          have hcz56_3 : wc.cell? ⟨gb413, 3, none⟩ = some (.slice Ao25 t409.length co25) := (blk_cell BK413.out 3).trans rfl
          have hfz56_0 := blk_frozen BK413.out 0
          have hfz56_1 := blk_frozen BK413.out 1
          have hfz56_2 := blk_frozen BK413.out 2
          have hfz56_3 := blk_frozen BK413.out 3
          go_wp2
          go_meet
          case rel => exact ⟨_, (true), (by first | rfl | (simp; done) | (simp [*]; done)), H', ⟨by have := HK1.out; have := HJ12.out; first | omega | exact Nat.le_refl _⟩, ⟨sq HO_10.out⟩, ⟨rq HO_11.out⟩, ⟨rq HO_12.out⟩, ⟨by (with_reducible repeat (first | apply View.W_alloc | apply View.W_drewN | apply View.W_drew)); exact HO_414003.out⟩, ⟨bq BK399.out⟩, ⟨bq BK400.out⟩, ⟨bq BK401.out⟩, ⟨bq BK413.out⟩, ⟨bw4 HB.out GE399.out GE400.out GE401.out GE413.out⟩⟩
        ·replace c37 := Bool.eq_false_iff.mpr c37
         subst c37
         have H1 : (impl_logOf.j2 kj12 a1 a2 x10_1 x11_1 x12_1 x13_1 x14_1 true x16_1 l0_0 l0_1 a1 a2 x402002_1 x402003_12 t406 t407 t408 t409) = some (r1, r2, r3, r4, r5, r6) := by rw [if_neg (show ¬ (false = true) by decide)] at H; exact H
         clear H
         have H := H1
         clear H1
         have H' := Ak H
         clear H
         go_wp2
         go_meet
         case rel => exact ⟨_, (true), (by first | rfl | (simp; done) | (simp [*]; done)), H', ⟨by have := HK1.out; have := HJ12.out; first | omega | exact Nat.le_refl _⟩, ⟨sq HO_10.out⟩, ⟨rq HO_11.out⟩, ⟨rq HO_12.out⟩, ⟨by (with_reducible repeat (first | apply View.W_alloc | apply View.W_drewN | apply View.W_drew)); exact HO_414003.out⟩, ⟨bq BK399.out⟩, ⟨bq BK400.out⟩, ⟨bq BK401.out⟩, ⟨bq BK413.out⟩, ⟨bw4 HB.out GE399.out GE400.out GE401.out GE413.out⟩⟩
      case rest =>
       clear HC35
       try clear c10b0
       try clear c38b0
       try clear c38b1
       try clear c39b0
       try clear c44b0
       obtain ⟨kq, x15_34, rfl, HA, HJ34, HO_10, HO_11, HO_12, HO_414003, BK399, BK400, BK401, BK413, HB⟩ := hcut
       cases kq with
       | zero => exact absurd HA.out (by simp [impl_logOf.j2])
       | succ kj34 =>
        have H := HA.out
        clear HA
        simp only [impl_logOf.j2] at H
        by_cases c57 : x15_34 = true
        ·subst c57
         have H1 : (impl_logOf.l0 kj34 a1 a2 x10_1 x11_1 x12_1 x13_1 x14_1 true (wrap64 (x16_1 + 1)) l0_0 l0_1 a1 a2 x402002_1 x402003_12) = some (r1, r2, r3, r4, r5, r6) := by rw [if_pos rfl] at H; exact H
         clear H
         have H := H1
         clear H1
         have H' := Ak H
         clear H
         go_wp2
         go_roundg kj34
         case measure => have := HK1.out; have := HJ12.out; have := HJ34.out; omega
         case rel => exact ⟨(x10_1), (x11_1), (x12_1), (x13_1), (x14_1), (true), (wrap64 (x16_1 + 1)), (x402002_1), (x402003_12), (by first | rfl | (simp; done) | (simp [*]; done)), (by first | rfl | (simp; done) | (simp [*]; done)), (by first | rfl | (simp; done) | (simp [*]; done)), (by first | rfl | (simp; done) | (simp [*]; done)), H', ⟨by have := HK1.out; have := HJ12.out; have := HJ34.out; omega⟩, ⟨by (with_reducible repeat (first | apply Kd.S_alloc | apply Kd.S_drewN | apply Kd.S_drew)); exact Kd.S_mono HO_10.out (fun _ hk => hk.1)⟩, ⟨rq HO_11.out⟩, ⟨by (with_reducible repeat (first | apply Kd.R_alloc | apply Kd.R_drewN | apply Kd.R_drew)); exact Kd.R_mono HO_12.out (fun _ hk => trivial)⟩, ⟨bq BK399.out⟩, ⟨bq BK400.out⟩, ⟨bq BK401.out⟩, ⟨bw4 HB.out GE399.out GE400.out GE401.out GE413.out⟩⟩
        ·replace c57 := Bool.eq_false_iff.mpr c57
         subst c57
         have H1 : (if x12_1.length + t409.length < 140737488355328 then ((some (x12_1 ++ t409 : List Int)).bind fun y414 => (if t408 = 2 then ((slices_Clone_byte_byte.f y414).bind fun t417 => (if x10_1.length < 5864062014805 then (if x11_1.length < 17592186044416 then (impl_logOf.l0 kj34 a1 a2 (x10_1 ++ [t417]) (x11_1 ++ [wrap64 ((wrap64 (x16_1 - a1)) + 1)]) ([] : List Int) t406 0 false (wrap64 (x16_1 + 1)) l0_0 l0_1 a1 a2 (wrap64 ((wrap64 (x16_1 - a1)) + 1)) x402003_12) else (none)) else (none))) else (impl_logOf.l0 kj34 a1 a2 x10_1 x11_1 y414 t406 t406 false (wrap64 (x16_1 + 1)) l0_0 l0_1 a1 a2 x402002_1 x402003_12))) else (none)) = some (r1, r2, r3, r4, r5, r6) := by rw [if_neg (show ¬ (false = true) by decide)] at H; exact H
         clear H
         have H := H1
         clear H1
         by_cases c58 : x12_1.length + t409.length < 140737488355328
         ·rw [if_pos c58] at H
          have LMc58 := Ak c58
          clear c58
          obtain ⟨y414, hy414⟩ : ∃ y_ : List Int, y_ = (x12_1 ++ t409) := ⟨_, rfl⟩
          replace H : (if t408 = 2 then ((slices_Clone_byte_byte.f y414).bind fun t417 => (if x10_1.length < 5864062014805 then (if x11_1.length < 17592186044416 then (impl_logOf.l0 kj34 a1 a2 (x10_1 ++ [t417]) (x11_1 ++ [wrap64 ((wrap64 (x16_1 - a1)) + 1)]) ([] : List Int) t406 0 false (wrap64 (x16_1 + 1)) l0_0 l0_1 a1 a2 (wrap64 ((wrap64 (x16_1 - a1)) + 1)) x402003_12) else (none)) else (none))) else (impl_logOf.l0 kj34 a1 a2 x10_1 x11_1 y414 t406 t406 false (wrap64 (x16_1 + 1)) l0_0 l0_1 a1 a2 x402002_1 x402003_12)) = some (r1, r2, r3, r4, r5, r6) := by first | (rw [hy414]; with_reducible exact H) | (have H2_ := (Option.bind_some _ _).symm.trans H; rw [hy414]; with_reducible exact H2_) | (have H2_ := (Option.bind_some _ _).symm.trans H; with_reducible exact H2_) | with_reducible exact H | (rw [hy414]; exact H) | exact H
          have Ny414 := Ak hy414
          clear hy414
          by_cases c59 : t408 = 2
          ·rw [if_pos c59] at H
           have c59b0 : (t408 == 2) = true := beq_iff_eq.mpr c59
           have c59b1 : (t408 != 2) = false := bne_eq_false_iff_eq.mpr c59
           clear c59
           replace H := Option.bind_eq_some_iff.mp H
           obtain ⟨t417, A600, H⟩ := H
           replace H : (if x10_1.length < 5864062014805 then (if x11_1.length < 17592186044416 then (impl_logOf.l0 kj34 a1 a2 (x10_1 ++ [t417]) (x11_1 ++ [wrap64 ((wrap64 (x16_1 - a1)) + 1)]) ([] : List Int) t406 0 false (wrap64 (x16_1 + 1)) l0_0 l0_1 a1 a2 (wrap64 ((wrap64 (x16_1 - a1)) + 1)) x402003_12) else (none)) else (none)) = some (r1, r2, r3, r4, r5, r6) := H
           have A60 := Ak A600
           clear A600
           by_cases c61 : x10_1.length < 5864062014805
           ·rw [if_pos c61] at H
            have LMc61 := Ak c61
            clear c61
            obtain ⟨y420, hy420⟩ : ∃ y_ : List (List Int), y_ = (x10_1 ++ [t417]) := ⟨_, rfl⟩
            replace H : (if x11_1.length < 17592186044416 then (impl_logOf.l0 kj34 a1 a2 y420 (x11_1 ++ [wrap64 ((wrap64 (x16_1 - a1)) + 1)]) ([] : List Int) t406 0 false (wrap64 (x16_1 + 1)) l0_0 l0_1 a1 a2 (wrap64 ((wrap64 (x16_1 - a1)) + 1)) x402003_12) else (none)) = some (r1, r2, r3, r4, r5, r6) := by first | (rw [hy420]; with_reducible exact H) | (have H2_ := (Option.bind_some _ _).symm.trans H; rw [hy420]; with_reducible exact H2_) | (have H2_ := (Option.bind_some _ _).symm.trans H; with_reducible exact H2_) | with_reducible exact H | (rw [hy420]; exact H) | exact H
            have Ny420 := Ak hy420
            clear hy420
            by_cases c62 : x11_1.length < 17592186044416
            ·rw [if_pos c62] at H
             have LMc62 := Ak c62
             clear c62
             obtain ⟨y423, hy423⟩ : ∃ y_ : List Int, y_ = (x11_1 ++ [wrap64 ((wrap64 (x16_1 - a1)) + 1)]) := ⟨_, rfl⟩
             replace H : (impl_logOf.l0 kj34 a1 a2 y420 y423 ([] : List Int) t406 0 false (wrap64 (x16_1 + 1)) l0_0 l0_1 a1 a2 (wrap64 ((wrap64 (x16_1 - a1)) + 1)) x402003_12) = some (r1, r2, r3, r4, r5, r6) := by first | (rw [hy423]; with_reducible exact H) | (have H2_ := (Option.bind_some _ _).symm.trans H; rw [hy423]; with_reducible exact H2_) | (have H2_ := (Option.bind_some _ _).symm.trans H; with_reducible exact H2_) | with_reducible exact H | (rw [hy423]; exact H) | exact H
             have Ny423 := Ak hy423
             clear hy423
             have H' := Ak H
             clear H
             have hnb63 := NB413_399.out
             have hnc63 := NB399_413.out
             have hnb64 := NB413_400.out
             have hnc64 := NB400_413.out
             have hnb65 := NB413_401.out
             have hnc65 := NB401_413.out
             have hcz66_0 : wc.cell? ⟨gb413, 0, none⟩ = some (.int .i64 t406) := (blk_cell BK413.out 0).trans rfl
             have hcz66_1 : wc.cell? ⟨gb413, 1, none⟩ = some (.int .i64 t407) := (blk_cell BK413.out 1).trans rfl
             have hcz66_2 : wc.cell? ⟨gb413, 2, none⟩ = some (.int .u8 t408) := (blk_cell BK413.out 2).trans rfl
             have hcz66_3 : wc.cell? ⟨gb413, 3, none⟩ = some (.slice Ao25 t409.length co25) := (blk_cell BK413.out 3).trans rfl
             have hfz66_0 := blk_frozen BK413.out 0
             have hfz66_1 := blk_frozen BK413.out 1
             have hfz66_2 := blk_frozen BK413.out 2
             have hfz66_3 := blk_frozen BK413.out 3
             go_wp2_with (first | ((with_reducible refine gate_builtin (b := .append) (xs := #[.tmp 81, .tmp 83]) rfl ?_); at_builtin; refine Kd.R_append_rows (Kd.int .u8) (w0 := w) w.heap.size rfl (.tmp 81) (.tmp 83) 22 5 (.int .u8 0) 1 rfl Try.underlying22 info5 rfl (by decide) (by omega) u12 x12_1 t409 _ _ _ (fun k_ => some k_ ≠ (.slice Ao25 t409.length co25 : Value).ownBlock) (fun _ => False) rfl rfl ?aO ?aR (fun _ _ h => h) (fun _ h => h.elim) ?aF ?aB ?aS ?aL ?_; (case aR => repeat (first | exact (View.W_reads' HO_414003.out).2.2 | (with_reducible refine Kd.C_alloc ?_ _) | (with_reducible refine Kd.C_drewN ?_ _) | (with_reducible refine Kd.C_drew ?_))); (case aB => exact (bw4 HB.out GE399.out GE400.out GE401.out GE413.out)); (case aF => exact (fun k_ hk => Kd.fresh' (View.W_lt (by (with_reducible repeat (first | apply View.W_alloc | apply View.W_drewN | apply View.W_drew)); exact HO_414003.out)) k_ hk)); (case aO => exact (rq HO_12.out)); (case aS => exact (below_size (bw4 HB.out GE399.out GE400.out GE401.out GE413.out))); (case aL => have := LMc58.out; omega); intro v415 w67 ho hb hg hat; rw [← Ny414.out] at ho; have n0_ := Ak (Kd.S_after (ok := (fun k_ => some k_ ≠ (.slice Ao25 t409.length co25 : Value).ownBlock)) (by (with_reducible repeat (first | apply Kd.S_alloc | apply Kd.S_drewN | apply Kd.S_drew)); exact Kd.S_mono HO_10.out (fun _ hk => ⟨hk.2, hk.1⟩)) hg hat); have n1_ := Ak (Kd.R_over' (rq HO_11.out) (Kd.R_typed (rq HO_12.out)) (by decide) hg); have n2_ := Ak (View.W_after (ok := (fun _ => True)) (by (with_reducible repeat (first | apply View.W_alloc | apply View.W_drewN | apply View.W_drew)); exact View.W_mono HO_414003.out (fun _ hk => ⟨trivial, hk⟩)) hg hat); have n3_ := Ak (blk_grown (g := gb399) (o := .cells #[.slice A0_0 l0_0.length c0_0, .slice A0_1 l0_1.length c0_1] 31 (0, 0)) (bq BK399.out) hg (Kd.R_ne HO_12.out BK399.out (by decide))); have n4_ := Ak (blk_grown (g := gb400) (o := .cells #[.int .i64 0, .int .i64 0, .int .i64 0, .int .i64 0] 32 (0, 0)) (bq BK400.out) hg (Kd.R_ne HO_12.out BK400.out (by decide))); have n5_ := Ak (blk_grown (g := gb401) (o := .cells #[.int .i64 a1, .int .i64 a2, .int .i64 x402002_1, .int .i64 x402003_12] 32 (0, 0)) (bq BK401.out) hg (Kd.R_ne HO_12.out BK401.out (by decide))); have n6_ := Ak (blk_grown (g := gb413) (o := .cells #[.int .i64 t406, .int .i64 t407, .int .u8 t408, .slice Ao25 t409.length co25] 93 (0, 0)) (bq BK413.out) hg (Kd.R_ne HO_12.out BK413.out (by decide))); have n7_ := Ak (hb); have n8_ := Ak (ho); clear HO_10; clear HO_11; clear HO_414003; clear BK399; clear BK400; clear BK401; clear BK413; clear HB; clear HO_12; have HO_10 := n0_; have HO_11 := n1_; have HO_414003 := n2_; have BK399 := n3_; have BK400 := n4_; have BK401 := n5_; have BK413 := n6_; have HB := n7_; have HO416 := n8_; clear n0_ n1_ n2_ n3_ n4_ n5_ n6_ n7_ n8_; clear ho hb hg hat; have hcz68_0 : w67.cell? ⟨gb413, 0, none⟩ = some (.int .i64 t406) := (blk_cell BK413.out 0).trans rfl; have hcz68_1 : w67.cell? ⟨gb413, 1, none⟩ = some (.int .i64 t407) := (blk_cell BK413.out 1).trans rfl; have hcz68_2 : w67.cell? ⟨gb413, 2, none⟩ = some (.int .u8 t408) := (blk_cell BK413.out 2).trans rfl; have hcz68_3 : w67.cell? ⟨gb413, 3, none⟩ = some (.slice Ao25 t409.length co25) := (blk_cell BK413.out 3).trans rfl; have hfz68_0 := blk_frozen BK413.out 0; have hfz68_1 := blk_frozen BK413.out 1; have hfz68_2 := blk_frozen BK413.out 2; have hfz68_3 := blk_frozen BK413.out 3; obtain ⟨Ao69, co69, eo69⟩ := Kd.R_slice HO416.out; subst eo69) | ((with_reducible refine gate_callee (f := 100) rfl ?_); refine goesL_ (some 92) rfl rfl Try.func100 (by kernel_rfl) rfl #[.slice Ao69 y414.length co69] rfl gm ?_; (with_reducible refine (slices_Clone_byte_byte.calls _ _ y414 t417 _ ?side1 ?side2 A60.out).mono ?_); (case side1 => repeat (first | exact (Kd.R_reads' HO416.out).2.2 | (with_reducible refine Kd.C_alloc ?_ _) | (with_reducible refine Kd.C_drewN ?_ _) | (with_reducible refine Kd.C_drew ?_))); (case side2 => exact (Kd.R_reads' HO416.out).2.1); rintro e w70 ⟨v418, rfl, ho0, hb⟩; refine ⟨_, rfl, ?_⟩; have n0_ := Ak (Kd.S_elder' (sq HO_10.out) (Kd.R_base ho0) hb); have n1_ := Ak (Kd.R_below (rq HO_11.out) hb); have n2_ := Ak (View.W_elder' (by (with_reducible repeat (first | apply View.W_alloc | apply View.W_drewN | apply View.W_drew)); exact HO_414003.out) (Kd.R_base ho0) hb); have n3_ := Ak (Kd.R_elder' (rq HO416.out) (Kd.R_base ho0) hb); have n4_ := Ak (Kd.R_lower (Kd.R_new' (Kd.R_new' ho0 (View.W_lt (by (with_reducible repeat (first | apply View.W_alloc | apply View.W_drewN | apply View.W_drew)); exact HO_414003.out))) (Kd.R_lt (rq HO416.out))) (below_size (bw4 HB.out GE399.out GE400.out GE401.out GE413.out))); have n5_ := Ak (blk_below (g := gb399) (o := .cells #[.slice A0_0 l0_0.length c0_0, .slice A0_1 l0_1.length c0_1] 31 (0, 0)) (bq BK399.out) hb); have n6_ := Ak (blk_below (g := gb400) (o := .cells #[.int .i64 0, .int .i64 0, .int .i64 0, .int .i64 0] 32 (0, 0)) (bq BK400.out) hb); have n7_ := Ak (blk_below (g := gb401) (o := .cells #[.int .i64 a1, .int .i64 a2, .int .i64 x402002_1, .int .i64 x402003_12] 32 (0, 0)) (bq BK401.out) hb); have n8_ := Ak (blk_below (g := gb413) (o := .cells #[.int .i64 t406, .int .i64 t407, .int .u8 t408, .slice Ao25 t409.length co25] 93 (0, 0)) (bq BK413.out) hb); have n9_ := Ak (below_step (bw4 HB.out GE399.out GE400.out GE401.out GE413.out) hb); clear HO_10; clear HO_11; clear HO_414003; clear HO416; clear BK399; clear BK400; clear BK401; clear BK413; clear HB; have HO_10 := n0_; have HO_11 := n1_; have HO_414003 := n2_; have HO416 := n3_; have HO419 := n4_; have BK399 := n5_; have BK400 := n6_; have BK401 := n7_; have BK413 := n8_; have HB := n9_; clear n0_ n1_ n2_ n3_ n4_ n5_ n6_ n7_ n8_ n9_; obtain ⟨Ao72, co72, eo72⟩ := Kd.R_slice HO419.out; subst eo72) | ((with_reducible refine gate_builtin (b := .append) (xs := #[.tmp 90, .tmp 93]) rfl ?_); at_builtin; refine Kd.S_append (Kd.slice 5 (Kd.int .u8)) (w0 := w) w.heap.size rfl (.tmp 90) (.tmp 93) 44 22 (.slice none 0 0) 24 rfl Try.underlying44 info22 rfl (by decide) (by omega) u10 x10_1 t417 [.slice Ao72 t417.length co72] (fun k_ => some k_ ≠ (.slice Ao25 t409.length co25 : Value).ownBlock ∧ some k_ ≠ (.slice Ao69 y414.length co69 : Value).ownBlock) (fun k_ => some k_ = (.slice Ao72 t417.length co72 : Value).ownBlock) rfl rfl ?aP (fun k_ hk_ => ((Kd.R_mono (ok' := fun k_ => ((fun k_ => some k_ ≠ (.slice Ao25 t409.length co25 : Value).ownBlock ∧ some k_ ≠ (.slice Ao69 y414.length co69 : Value).ownBlock)) k_ ∧ some k_ ≠ (u10 : Value).ownBlock) (Kd.R_apart' (HO419.out) (Kd.S_typed HO_10.out) (by decide)) (fun k_ hk => ⟨⟨hk.1.1.2, hk.1.2⟩, hk.2⟩))).1 k_ hk_.symm) ?aF ?aO ?aB ?aS ?aL ?_; (case aP => exact Kd.M_row (Kd.R_mono (Kd.R_tight rfl (Kd.R_mono (ok' := fun k_ => ((fun k_ => some k_ ≠ (.slice Ao25 t409.length co25 : Value).ownBlock ∧ some k_ ≠ (.slice Ao69 y414.length co69 : Value).ownBlock)) k_ ∧ some k_ ≠ (u10 : Value).ownBlock) (Kd.R_apart' (HO419.out) (Kd.S_typed HO_10.out) (by decide)) (fun k_ hk => ⟨⟨hk.1.1.2, hk.1.2⟩, hk.2⟩))) (fun _ h_ => h_))); (case aB => exact (bw4 HB.out GE399.out GE400.out GE401.out GE413.out)); (case aF => exact (fun k_ hk => ⟨Kd.fresh' (View.W_lt (by (with_reducible repeat (first | apply View.W_alloc | apply View.W_drewN | apply View.W_drew)); exact HO_414003.out)) k_ hk, Kd.fresh' (Kd.R_lt (rq HO416.out)) k_ hk⟩)); (case aO => exact (by (with_reducible repeat (first | apply Kd.S_alloc | apply Kd.S_drewN | apply Kd.S_drew)); exact Kd.S_mono HO_10.out (fun k_ hk => ⟨⟨hk.1.1, hk.1.2⟩, fun e_ => hk.2 e_⟩))); (case aS => exact (below_size (bw4 HB.out GE399.out GE400.out GE401.out GE413.out))); (case aL => have := LMc61.out; omega); intro v421 w71 ho hb hg hat; rw [← Ny420.out] at ho; have n0_ := Ak (Kd.R_over' (rq HO_11.out) (Kd.S_typed (sq HO_10.out)) (by decide) hg); have n1_ := Ak (View.W_over' (by (with_reducible repeat (first | apply View.W_alloc | apply View.W_drewN | apply View.W_drew)); exact HO_414003.out) (Kd.S_typed (sq HO_10.out)) (by decide) hg); have n2_ := Ak (blk_grown (g := gb399) (o := .cells #[.slice A0_0 l0_0.length c0_0, .slice A0_1 l0_1.length c0_1] 31 (0, 0)) (bq BK399.out) hg (Kd.S_ne HO_10.out BK399.out (by decide))); have n3_ := Ak (blk_grown (g := gb400) (o := .cells #[.int .i64 0, .int .i64 0, .int .i64 0, .int .i64 0] 32 (0, 0)) (bq BK400.out) hg (Kd.S_ne HO_10.out BK400.out (by decide))); have n4_ := Ak (blk_grown (g := gb401) (o := .cells #[.int .i64 a1, .int .i64 a2, .int .i64 x402002_1, .int .i64 x402003_12] 32 (0, 0)) (bq BK401.out) hg (Kd.S_ne HO_10.out BK401.out (by decide))); have n5_ := Ak (blk_grown (g := gb413) (o := .cells #[.int .i64 t406, .int .i64 t407, .int .u8 t408, .slice Ao25 t409.length co25] 93 (0, 0)) (bq BK413.out) hg (Kd.S_ne HO_10.out BK413.out (by decide))); have n6_ := Ak (Kd.R_over' (rq HO416.out) (Kd.S_typed (sq HO_10.out)) (by decide) hg); have n7_ := Ak (hb); have n8_ := Ak (ho); clear HO_11; clear HO_414003; clear BK399; clear BK400; clear BK401; clear BK413; clear HO416; clear HB; clear HO_10; clear HO419; have HO_11 := n0_; have HO_414003 := n1_; have BK399 := n2_; have BK400 := n3_; have BK401 := n4_; have BK413 := n5_; have HO416 := n6_; have HB := n7_; have HO422 := n8_; clear n0_ n1_ n2_ n3_ n4_ n5_ n6_ n7_ n8_; clear ho hb hg hat) | ((with_reducible refine gate_builtin (b := .append) (xs := #[.tmp 95, .tmp 100]) rfl ?_); at_builtin; refine Kd.R_append (Kd.int .i64) (w0 := w) w.heap.size rfl (.tmp 95) (.tmp 100) 82 3 (.int .i64 0) 8 rfl Try.underlying82 info3 rfl (by decide) (by omega) u11 x11_1 (wrap64 ((wrap64 (x16_1 - a1)) + 1)) [.int .i64 (wrap64 ((wrap64 (x16_1 - a1)) + 1))] (fun _ => True) (fun _ => False) rfl rfl ?aP (fun _ hk => hk.elim) ?aF ?aO ?aB ?aS ?aL ?_; (case aP => exact rfl); (case aB => exact (bw4 HB.out GE399.out GE400.out GE401.out GE413.out)); (case aF => exact (fun _ _ => trivial)); (case aO => exact (rq HO_11.out)); (case aS => exact (below_size (bw4 HB.out GE399.out GE400.out GE401.out GE413.out))); (case aL => have := LMc62.out; omega); intro v424 w73 ho hb hg hat; rw [← Ny423.out] at ho; have n0_ := Ak (View.W_over' (by (with_reducible repeat (first | apply View.W_alloc | apply View.W_drewN | apply View.W_drew)); exact HO_414003.out) (Kd.R_typed (rq HO_11.out)) (by decide) hg); have n1_ := Ak (blk_grown (g := gb399) (o := .cells #[.slice A0_0 l0_0.length c0_0, .slice A0_1 l0_1.length c0_1] 31 (0, 0)) (bq BK399.out) hg (Kd.R_ne HO_11.out BK399.out (by decide))); have n2_ := Ak (blk_grown (g := gb400) (o := .cells #[.int .i64 0, .int .i64 0, .int .i64 0, .int .i64 0] 32 (0, 0)) (bq BK400.out) hg (Kd.R_ne HO_11.out BK400.out (by decide))); have n3_ := Ak (blk_grown (g := gb401) (o := .cells #[.int .i64 a1, .int .i64 a2, .int .i64 x402002_1, .int .i64 x402003_12] 32 (0, 0)) (bq BK401.out) hg (Kd.R_ne HO_11.out BK401.out (by decide))); have n4_ := Ak (blk_grown (g := gb413) (o := .cells #[.int .i64 t406, .int .i64 t407, .int .u8 t408, .slice Ao25 t409.length co25] 93 (0, 0)) (bq BK413.out) hg (Kd.R_ne HO_11.out BK413.out (by decide))); have n5_ := Ak (Kd.R_over' (rq HO416.out) (Kd.R_typed (rq HO_11.out)) (by decide) hg); have n6_ := Ak (Kd.S_over' (sq HO422.out) (Kd.R_typed (rq HO_11.out)) (by decide) hg); have n7_ := Ak (hb); have n8_ := Ak (ho); clear HO_414003; clear BK399; clear BK400; clear BK401; clear BK413; clear HO416; clear HO422; clear HB; clear HO_11; have HO_414003 := n0_; have BK399 := n1_; have BK400 := n2_; have BK401 := n3_; have BK413 := n4_; have HO416 := n5_; have HO422 := n6_; have HB := n7_; have HO425 := n8_; clear n0_ n1_ n2_ n3_ n4_ n5_ n6_ n7_ n8_; clear ho hb hg hat; have hnb74 := NB401_399.out; have hnc74 := NB399_401.out; have hnb75 := NB401_400.out; have hnc75 := NB400_401.out; have hcz76_0 : w73.cell? ⟨gb401, 0, none⟩ = some (.int .i64 a1) := (blk_cell BK401.out 0).trans rfl; have hcz76_1 : w73.cell? ⟨gb401, 1, none⟩ = some (.int .i64 a2) := (blk_cell BK401.out 1).trans rfl; have hcz76_2 : w73.cell? ⟨gb401, 2, none⟩ = some (.int .i64 x402002_1) := (blk_cell BK401.out 2).trans rfl; have hcz76_3 : w73.cell? ⟨gb401, 3, none⟩ = some (.int .i64 x402003_12) := (blk_cell BK401.out 3).trans rfl; have hfz76_0 := blk_frozen BK401.out 0; have hfz76_1 := blk_frozen BK401.out 1; have hfz76_2 := blk_frozen BK401.out 2; have hfz76_3 := blk_frozen BK401.out 3))
             go_roundg kj34
             case measure => have := HK1.out; have := HJ12.out; have := HJ34.out; omega
             case rel => exact ⟨(y420), (y423), (([] : List Int)), (t406), (0), (false), (wrap64 (x16_1 + 1)), (wrap64 ((wrap64 (x16_1 - a1)) + 1)), (x402003_12), (by first | rfl | (simp; done) | (simp [*]; done)), (by first | rfl | (simp; done) | (simp [*]; done)), (by first | rfl | (simp; done) | (simp [*]; done)), (by first | rfl | (simp; done) | (simp [*]; done)), H', ⟨by have := HK1.out; have := HJ12.out; have := HJ34.out; omega⟩, ⟨by (with_reducible repeat (first | apply Kd.S_alloc | apply Kd.S_drewN | apply Kd.S_drew)); exact Kd.S_mono (Kd.S_far (p := ⟨gb401, 2, none⟩) (Kd.S_types HO422.out BK401.out (by decide)) (fun _ hk => hk.2) (.int .i64 (wrap64 ((wrap64 (x16_1 - a1)) + 1)))) (fun _ hk => (by simp [Value.ownBlock]))⟩, ⟨by (with_reducible repeat (first | apply Kd.R_alloc | apply Kd.R_drewN | apply Kd.R_drew)); exact Kd.R_mono (Kd.R_far (p := ⟨gb401, 2, none⟩) (Kd.R_types HO425.out BK401.out (by decide)) (fun _ hk => hk.2) (.int .i64 (wrap64 ((wrap64 (x16_1 - a1)) + 1)))) (fun _ hk => trivial)⟩, ⟨by first | exact Kd.R_nil _ _ _ _ _ | exact Kd.N_nil _ _ _ _ _ | exact Kd.V_nil _ _ _ _ _ | exact Kd.Q_nil _ _ _ _ _ | exact Kd.S_nil _ _ _ _ _⟩, ⟨by (with_reducible repeat (first | refine blk_drewN ?_ _ | refine blk_drew ?_ | refine blk_alloc ?_ _)); refine blk_far ?_ NB399_401.out _; (with_reducible repeat (first | refine blk_drewN ?_ _ | refine blk_drew ?_ | refine blk_alloc ?_ _)); exact BK399.out⟩, ⟨by (with_reducible repeat (first | refine blk_drewN ?_ _ | refine blk_drew ?_ | refine blk_alloc ?_ _)); refine blk_far ?_ NB400_401.out _; (with_reducible repeat (first | refine blk_drewN ?_ _ | refine blk_drew ?_ | refine blk_alloc ?_ _)); exact BK400.out⟩, ⟨by (with_reducible repeat (first | refine blk_drewN ?_ _ | refine blk_drew ?_ | refine blk_alloc ?_ _)); refine blk_put (cs := #[.int .i64 a1, .int .i64 a2, .int .i64 x402002_1, .int .i64 x402003_12]) ?_ 2 _ rfl; (with_reducible repeat (first | refine blk_drewN ?_ _ | refine blk_drew ?_ | refine blk_alloc ?_ _)); exact BK401.out⟩, ⟨bw4 HB.out GE399.out GE400.out GE401.out GE413.out⟩⟩
            ·rw [if_neg c62] at H
             exact absurd H (by simp)
           ·rw [if_neg c61] at H
            exact absurd H (by simp)
          ·rw [if_neg c59] at H
           have c59b0 : (t408 == 2) = false := beq_eq_false_iff_ne.mpr c59
           have c59b1 : (t408 != 2) = true := bne_iff_ne.mpr c59
           have H' := Ak H
           clear H
           have hnb77 := NB413_399.out
           have hnc77 := NB399_413.out
           have hnb78 := NB413_400.out
           have hnc78 := NB400_413.out
           have hnb79 := NB413_401.out
           have hnc79 := NB401_413.out
           have hcz80_0 : wc.cell? ⟨gb413, 0, none⟩ = some (.int .i64 t406) := (blk_cell BK413.out 0).trans rfl
           have hcz80_1 : wc.cell? ⟨gb413, 1, none⟩ = some (.int .i64 t407) := (blk_cell BK413.out 1).trans rfl
           have hcz80_2 : wc.cell? ⟨gb413, 2, none⟩ = some (.int .u8 t408) := (blk_cell BK413.out 2).trans rfl
           have hcz80_3 : wc.cell? ⟨gb413, 3, none⟩ = some (.slice Ao25 t409.length co25) := (blk_cell BK413.out 3).trans rfl
           have hfz80_0 := blk_frozen BK413.out 0
           have hfz80_1 := blk_frozen BK413.out 1
           have hfz80_2 := blk_frozen BK413.out 2
           have hfz80_3 := blk_frozen BK413.out 3
           go_wp2_with (first | ((with_reducible refine gate_builtin (b := .append) (xs := #[.tmp 81, .tmp 83]) rfl ?_); at_builtin; refine Kd.R_append_rows (Kd.int .u8) (w0 := w) w.heap.size rfl (.tmp 81) (.tmp 83) 22 5 (.int .u8 0) 1 rfl Try.underlying22 info5 rfl (by decide) (by omega) u12 x12_1 t409 _ _ _ (fun k_ => some k_ ≠ (.slice Ao25 t409.length co25 : Value).ownBlock) (fun _ => False) rfl rfl ?aO ?aR (fun _ _ h => h) (fun _ h => h.elim) ?aF ?aB ?aS ?aL ?_; (case aR => repeat (first | exact (View.W_reads' HO_414003.out).2.2 | (with_reducible refine Kd.C_alloc ?_ _) | (with_reducible refine Kd.C_drewN ?_ _) | (with_reducible refine Kd.C_drew ?_))); (case aB => exact (bw4 HB.out GE399.out GE400.out GE401.out GE413.out)); (case aF => exact (fun k_ hk => Kd.fresh' (View.W_lt (by (with_reducible repeat (first | apply View.W_alloc | apply View.W_drewN | apply View.W_drew)); exact HO_414003.out)) k_ hk)); (case aO => exact (rq HO_12.out)); (case aS => exact (below_size (bw4 HB.out GE399.out GE400.out GE401.out GE413.out))); (case aL => have := LMc58.out; omega); intro v415 w81 ho hb hg hat; rw [← Ny414.out] at ho; have n0_ := Ak (Kd.S_after (ok := (fun k_ => some k_ ≠ (.slice Ao25 t409.length co25 : Value).ownBlock)) (by (with_reducible repeat (first | apply Kd.S_alloc | apply Kd.S_drewN | apply Kd.S_drew)); exact Kd.S_mono HO_10.out (fun _ hk => ⟨hk.2, hk.1⟩)) hg hat); have n1_ := Ak (Kd.R_over' (rq HO_11.out) (Kd.R_typed (rq HO_12.out)) (by decide) hg); have n2_ := Ak (View.W_after (ok := (fun _ => True)) (by (with_reducible repeat (first | apply View.W_alloc | apply View.W_drewN | apply View.W_drew)); exact View.W_mono HO_414003.out (fun _ hk => ⟨trivial, hk⟩)) hg hat); have n3_ := Ak (blk_grown (g := gb399) (o := .cells #[.slice A0_0 l0_0.length c0_0, .slice A0_1 l0_1.length c0_1] 31 (0, 0)) (bq BK399.out) hg (Kd.R_ne HO_12.out BK399.out (by decide))); have n4_ := Ak (blk_grown (g := gb400) (o := .cells #[.int .i64 0, .int .i64 0, .int .i64 0, .int .i64 0] 32 (0, 0)) (bq BK400.out) hg (Kd.R_ne HO_12.out BK400.out (by decide))); have n5_ := Ak (blk_grown (g := gb401) (o := .cells #[.int .i64 a1, .int .i64 a2, .int .i64 x402002_1, .int .i64 x402003_12] 32 (0, 0)) (bq BK401.out) hg (Kd.R_ne HO_12.out BK401.out (by decide))); have n6_ := Ak (blk_grown (g := gb413) (o := .cells #[.int .i64 t406, .int .i64 t407, .int .u8 t408, .slice Ao25 t409.length co25] 93 (0, 0)) (bq BK413.out) hg (Kd.R_ne HO_12.out BK413.out (by decide))); have n7_ := Ak (hb); have n8_ := Ak (ho); clear HO_10; clear HO_11; clear HO_414003; clear BK399; clear BK400; clear BK401; clear BK413; clear HB; clear HO_12; have HO_10 := n0_; have HO_11 := n1_; have HO_414003 := n2_; have BK399 := n3_; have BK400 := n4_; have BK401 := n5_; have BK413 := n6_; have HB := n7_; have HO416 := n8_; clear n0_ n1_ n2_ n3_ n4_ n5_ n6_ n7_ n8_; clear ho hb hg hat; have hcz82_0 : w81.cell? ⟨gb413, 0, none⟩ = some (.int .i64 t406) := (blk_cell BK413.out 0).trans rfl; have hcz82_1 : w81.cell? ⟨gb413, 1, none⟩ = some (.int .i64 t407) := (blk_cell BK413.out 1).trans rfl; have hcz82_2 : w81.cell? ⟨gb413, 2, none⟩ = some (.int .u8 t408) := (blk_cell BK413.out 2).trans rfl; have hcz82_3 : w81.cell? ⟨gb413, 3, none⟩ = some (.slice Ao25 t409.length co25) := (blk_cell BK413.out 3).trans rfl; have hfz82_0 := blk_frozen BK413.out 0; have hfz82_1 := blk_frozen BK413.out 1; have hfz82_2 := blk_frozen BK413.out 2; have hfz82_3 := blk_frozen BK413.out 3))
           go_roundg kj34
           case measure => have := HK1.out; have := HJ12.out; have := HJ34.out; omega
           case rel => exact ⟨(x10_1), (x11_1), (y414), (t406), (t406), (false), (wrap64 (x16_1 + 1)), (x402002_1), (x402003_12), (by first | rfl | (simp; done) | (simp [*]; done)), (by first | rfl | (simp; done) | (simp [*]; done)), (by first | rfl | (simp; done) | (simp [*]; done)), (by first | rfl | (simp; done) | (simp [*]; done)), H', ⟨by have := HK1.out; have := HJ12.out; have := HJ34.out; omega⟩, ⟨by (with_reducible repeat (first | apply Kd.S_alloc | apply Kd.S_drewN | apply Kd.S_drew)); exact Kd.S_mono HO_10.out (fun _ hk => hk.2)⟩, ⟨rq HO_11.out⟩, ⟨by (with_reducible repeat (first | apply Kd.R_alloc | apply Kd.R_drewN | apply Kd.R_drew)); exact Kd.R_mono HO416.out (fun _ hk => trivial)⟩, ⟨bq BK399.out⟩, ⟨bq BK400.out⟩, ⟨bq BK401.out⟩, ⟨bw4 HB.out GE399.out GE400.out GE401.out GE413.out⟩⟩
         ·rw [if_neg c58] at H
          exact absurd H (by simp)
   ·rw [if_neg c10] at H
    have c10b0 : decide (x16_1 ≤ a2) = false := decide_eq_false c10
    clear c10
    simp only [Option.some.injEq, Prod.mk.injEq] at H
    obtain ⟨rfl, rfl, rfl, rfl, rfl, rfl⟩ := H
    have hnb83 := NB401_399.out
    have hnc83 := NB399_401.out
    have hnb84 := NB401_400.out
    have hnc84 := NB400_401.out
    have hcz85_0 : wr.cell? ⟨gb401, 0, none⟩ = some (.int .i64 a1) := (blk_cell BK401.out 0).trans rfl
    have hcz85_1 : wr.cell? ⟨gb401, 1, none⟩ = some (.int .i64 a2) := (blk_cell BK401.out 1).trans rfl
    have hcz85_2 : wr.cell? ⟨gb401, 2, none⟩ = some (.int .i64 x402002_1) := (blk_cell BK401.out 2).trans rfl
    have hcz85_3 : wr.cell? ⟨gb401, 3, none⟩ = some (.int .i64 x402003_1) := (blk_cell BK401.out 3).trans rfl
    have hfz85_0 := blk_frozen BK401.out 0
    have hfz85_1 := blk_frozen BK401.out 1
    have hfz85_2 := blk_frozen BK401.out 2
    have hfz85_3 := blk_frozen BK401.out 3
    have hnb86 := NB400_399.out
    have hnc86 := NB399_400.out
    have hcz87_0 : wr.cell? ⟨gb400, 0, none⟩ = some (.int .i64 0) := (blk_cell BK400.out 0).trans rfl
    have hcz87_1 : wr.cell? ⟨gb400, 1, none⟩ = some (.int .i64 0) := (blk_cell BK400.out 1).trans rfl
    have hcz87_2 : wr.cell? ⟨gb400, 2, none⟩ = some (.int .i64 0) := (blk_cell BK400.out 2).trans rfl
    have hcz87_3 : wr.cell? ⟨gb400, 3, none⟩ = some (.int .i64 0) := (blk_cell BK400.out 3).trans rfl
    have hfz87_0 := blk_frozen BK400.out 0
    have hfz87_1 := blk_frozen BK400.out 1
    have hfz87_2 := blk_frozen BK400.out 2
    have hfz87_3 := blk_frozen BK400.out 3
    go_wp2
    refine bodyPost_ret (results_ctt rfl _ _ gb400 32 #[.int .i64 a1, .int .i64 a2, .int .i64 x402002_1, .int .i64 x402003_1] (0, 0) _ rfl (by (with_reducible repeat (first | refine blk_drewN ?_ _ | refine blk_drew ?_ | refine blk_alloc ?_ _)); refine blk_put (cs := #[.int .i64 a1, .int .i64 a2, .int .i64 x402002_1, .int .i64 0]) ?_ 3 _ rfl; (with_reducible repeat (first | refine blk_drewN ?_ _ | refine blk_drew ?_ | refine blk_alloc ?_ _)); refine blk_put (cs := #[.int .i64 a1, .int .i64 a2, .int .i64 0, .int .i64 0]) ?_ 2 _ rfl; (with_reducible repeat (first | refine blk_drewN ?_ _ | refine blk_drew ?_ | refine blk_alloc ?_ _)); refine blk_put (cs := #[.int .i64 a1, .int .i64 0, .int .i64 0, .int .i64 0]) ?_ 1 _ rfl; (with_reducible repeat (first | refine blk_drewN ?_ _ | refine blk_drew ?_ | refine blk_alloc ?_ _)); refine blk_put (cs := #[.int .i64 0, .int .i64 0, .int .i64 0, .int .i64 0]) ?_ 0 _ rfl; (with_reducible repeat (first | refine blk_drewN ?_ _ | refine blk_drew ?_ | refine blk_alloc ?_ _)); exact BK400.out) Try.underlying32 rfl (by kernel_rfl)) rfl ?_
    exact ⟨_, _, by first | rfl | (simp [errW_none, errW_some] <;> rfl) | (simp [*, errW_none, errW_some] <;> rfl), by (with_reducible repeat (first | apply Kd.S_alloc | apply Kd.S_drewN | apply Kd.S_drew)); exact Kd.S_mono (Kd.S_far (p := ⟨gb400, 3, none⟩) (Kd.S_far (p := ⟨gb400, 2, none⟩) (Kd.S_far (p := ⟨gb400, 1, none⟩) (Kd.S_far (p := ⟨gb400, 0, none⟩) (Kd.S_types HO_10.out BK400.out (by decide)) (fun _ hk => hk.2) (.int .i64 a1)) (fun _ hk => hk.2) (.int .i64 a2)) (fun _ hk => hk.2) (.int .i64 x402002_1)) (fun _ hk => hk.2) (.int .i64 x402003_1)) (fun _ hk => trivial), by (with_reducible repeat (first | apply Kd.R_alloc | apply Kd.R_drewN | apply Kd.R_drew)); exact Kd.R_mono (Kd.R_far (p := ⟨gb400, 3, none⟩) (Kd.R_far (p := ⟨gb400, 2, none⟩) (Kd.R_far (p := ⟨gb400, 1, none⟩) (Kd.R_far (p := ⟨gb400, 0, none⟩) (Kd.R_types HO_11.out BK400.out (by decide)) (fun _ hk => hk.2) (.int .i64 a1)) (fun _ hk => hk.2) (.int .i64 a2)) (fun _ hk => hk.2) (.int .i64 x402002_1)) (fun _ hk => hk.2) (.int .i64 x402003_1)) (fun _ hk => trivial), bw3 HB.out GE399.out GE400.out GE401.out⟩

end Go.Proofs.Ytgmnphckgicadaa.PFnExactLogOpen

