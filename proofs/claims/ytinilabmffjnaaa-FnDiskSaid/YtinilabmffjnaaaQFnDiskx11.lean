/- The functions that the law FnDisk reaches, each with what it computes and its contract. -/
import Derived.Test.YtinilabmffjnaaaQFnDiskx0
import Derived.Test.YtinilabmffjnaaaQFnDiskx15
import Derived.Test.YtinilabmffjnaaaQFnDiskx13
import Derived.Test.YtinilabmffjnaaaQFnDiskx10
namespace Go.Proofs.Ytinilabmffjnaaa.PFnDisk
open Go.RowKit Go.Proofs.YtinilabmffjnaaaW.PrintWords Go.Proofs.YtinilabmffjnaaaW.PrintLast Go.Proofs.YtinilabmffjnaaaW.PrintMore
attribute [local go_sem] max2_int min2_int max_two min_two max_three min_three max_four min_four
set_option linter.unusedVariables false
set_option linter.unusedSimpArgs false

def impl_SyncOne.f (a0 : Int) : Option (Bool) := some true
set_option maxHeartbeats 8000000 in
set_option maxRecDepth 100000 in
theorem impl_SyncOne.calls (a0 : Int) (r : Bool) (w : World) (h : impl_SyncOne.f a0 = some r) :
  Calls Try.prog 64 #[.int .i64 a0] w fun e w' => e = .returned (.bool r) ∧ Drawn0 w w' := by
 have H : (some true) = some r := h
 clear h
 obtain rfl := Option.some.inj H
 go_enter Try.func64, Try.ntmps64
 go_wp2
 go_ret
 exact ⟨by first | rfl | (simp; done) | (simp [*]; done), by repeat (first | exact Drawn0.refl _ | apply Drawn0.step)⟩

def impl_doneS.l0 : Nat → List (S34) → Int → Int → List Int → Option (List Int × (List (S34)))
 | 0, _, _, _, _ => none
 | k + 1, x13, x14, x15, x135000 => if x15 < x14 then (if 0 ≤ x15 then (if x15 < (x13.length : Int) then ((impl_SyncOne.f x15).bind fun t137 => (if t137 = true then (if 0 ≤ (wrap64 (((rd_T34 x13 x15).f0) * 64)) then (if (0 < ((rd_T34 x13 x15).f1).length ∧ ((wrap64 (((rd_T34 x13 x15).f0) * 64)) : Int).toNat + ((rd_T34 x13 x15).f1).length ≤ x135000.length) then (impl_doneS.l0 k x13 x14 (wrap64 (x15 + 1)) (spl x135000 ((wrap64 (((rd_T34 x13 x15).f0) * 64)) : Int).toNat ((rd_T34 x13 x15).f1))) else (none)) else (none)) else (impl_doneS.l0 k x13 x14 (wrap64 (x15 + 1)) x135000))) else (none)) else (none)) else (some (x135000, ([] : List (S34))))
def impl_doneS.f (k : Nat) (l0_0 : List Int) (l0_1 : List (S34)) : Option (List Int × (List (S34))) := (slices_Clone_byte_byte.f l0_0).bind fun t131 => (impl_doneS.l0 k l0_1 (l0_1.length : Int) 0 t131)
def impl_doneS.T6 : Bool × List (List Nat × List Nat) := (true, [([], []), ([0], [0]), ([], []), ([2], [2]), ([3], [3]), ([1, 4], [1, 4]), ([], []), ([6], [6]), ([5, 7], [5, 7])])
def impl_doneS.B6 : List Nat := [0, 1, 0, 4, 12, 31, 0, 64, 255]
theorem impl_doneS.tab6 : rtab .any (opsOf Try.f63 6) = impl_doneS.T6 := by kernel_rfl
theorem impl_doneS.bits6 : waitsOk impl_doneS.T6.2 impl_doneS.B6 = true := by kernel_rfl
/-- A call through a slot that holds a plain function, in a plain region. -/
theorem goesT_ {P : Program} {ops : Array Oper} {Q : Exit → Act → World → Prop} {rest : List Oper} {oi : Oper} {a : Act} {w : World} (N : Option Tmp) (hd : oi.dst = N) (hg : oi.guard = none) {f : FuncId} {fn : Func} {zs : Array Operand} {ts : Array TypeId} {t : Tmp}
  (hf : P.funcs[f]? = some fn) (hname : (fn.name == "runtime.NumGoroutine") = false) (hb : fn.body.isSome = true) (args : Array Value)
  (hop : oi.op = .call { callee := .value (.tmp t), args := zs, argTypes := ts }) (ht : a.eval (.tmp t) = .func (.func f) #[] #[]) (hargs : zs.map a.eval = args)
  (h : Calls P f args w fun e w' => ∃ v, e = .returned v ∧ wpList P ops Q rest (a.put N v) w') : wpList P ops Q (oi :: rest) a w := by
 refine wpList_plain hg fun K hK => ?_
 have he := enters_ hf hname hb args w
 have hrun : (execOp a.eval oi).run P w = .ok (.enter f args) w := by
  unfold execOp
  simp [hop, resolve, Deferred.ofValue, ht, invoke, hargs, he]
 unfold Oper.wp
 rw [hrun, Oper.upon_enter]
 refine h.mono fun e w'' hh => ?_
 obtain ⟨v, rfl, hk⟩ := hh
 subst hd
 exact hK _ _ hk
set_option maxHeartbeats 8000000 in
set_option maxRecDepth 100000 in
theorem impl_doneS.calls (k : Nat) (A0_0 : Option Addr) (c0_0 : Nat) (l0_0 : List Int) (A0_1 : Option Addr) (c0_1 : Nat) (l0_1 : List (S34)) (r1 : List Int) (r2 : List (S34)) (w : World) (hr0_0 : Kd.C (Kd.int .u8) w A0_0 l0_0.length l0_0) (hc0_0 : l0_0.length ≤ c0_0) (hr0_1 : Kd.C k34 w A0_1 l0_1.length l0_1) (hc0_1 : l0_1.length ≤ c0_1) (h : impl_doneS.f k l0_0 l0_1 = some (r1, r2)) :
  Calls Try.prog 63 #[.agg #[.slice A0_0 l0_0.length c0_0, .slice A0_1 l0_1.length c0_1], .func (.func 64) #[] #[]] w fun e w' => ∃ v0_ v1_ : Value, e = .returned (.agg #[v0_, v1_]) ∧ Kd.R (Kd.int .u8) 5 w' w.heap.size (fun _ => True) v0_ r1 ∧ Kd.S k34 34 w' w.heap.size (fun k_ => some k_ ≠ (v0_ : Value).ownBlock) v1_ r2 ∧ Below w.heap.size w w' := by
 have hu26 := Try.underlying26
 have hu34 := Try.underlying34
 have HR0_0 := Ak hr0_0
 have HC0_0 := Ak hc0_0
 clear hr0_0 hc0_0
 have HR0_1 := Ak hr0_1
 have HC0_1 := Ak hc0_1
 clear hr0_1 hc0_1
 have HB := Ak (Below.refl w.heap.size w)
 have H : ((slices_Clone_byte_byte.f l0_0).bind fun t131 => (impl_doneS.l0 k l0_1 (l0_1.length : Int) 0 t131)) = some (r1, r2) := h
 clear h
 replace H := Option.bind_eq_some_iff.mp H
 obtain ⟨t131, A20, H⟩ := H
 replace H : (impl_doneS.l0 k l0_1 (l0_1.length : Int) 0 t131) = some (r1, r2) := H
 have A2 := Ak A20
 clear A20
 have H' := Ak H
 clear H
 go_enter Try.func63, Try.ntmps63
 go_wp2_with (first | ((with_reducible refine gate_dst (N := 2) rfl ?_); refine box_event ?hg (N := 2) ?hd (cs := #[.slice A0_0 l0_0.length c0_0, .slice A0_1 l0_1.length c0_1]) (t := 26) ?hr ?_; (case hd => rfl); (case hg => rfl); (case hr => first | (go_simp; done) | (go_simp; rfl)); intro gb129 hg w3 hbox hb; have n0_ := Ak (below_step (bw HB.out) hb); have n1_ := Ak (hbox); have n2_ := Ak ((by rw [hg]; exact (below_size (bw HB.out)) : w.heap.size ≤ gb129)); have n3_ := Ak ((by rw [hg]; exact (below_size (bw HB.out)) : w.heap.size ≤ gb129)); clear HB; have HB := n0_; have BK129 := n1_; have GW129 := n2_; have GE129 := n3_; clear n0_ n1_ n2_ n3_; clear hb hbox hg) | ((with_reducible refine gate_dst (N := 4) rfl ?_); refine box_event ?hg (N := 4) ?hd (cs := #[.slice none 0 0, .slice none 0 0]) (t := 26) ?hr ?_; (case hd => rfl); (case hg => rfl); (case hr => first | (go_simp; done) | (go_simp; rfl)); intro gb130 hg w4 hbox hb; have n0_ := Ak (blk_below (g := gb129) (o := .cells #[.slice A0_0 l0_0.length c0_0, .slice A0_1 l0_1.length c0_1] 26 (0, 0)) (bq BK129.out) hb); have n1_ := Ak (below_step (bw1 HB.out GE129.out) hb); have n2_ := Ak (hbox); have n3_ := Ak ((by rw [hg]; exact (below_size (bw1 HB.out GE129.out)) : w.heap.size ≤ gb130)); have n4_ := Ak ((by rw [hg]; exact (below_size (bw1 HB.out GE129.out)) : w.heap.size ≤ gb130)); have n5_ := Ak ((by rw [hg]; exact Nat.ne_of_lt (blk_lt (g := gb129) (o := .cells #[.slice A0_0 l0_0.length c0_0, .slice A0_1 l0_1.length c0_1] 26 (0, 0)) (bq BK129.out)) : gb129 ≠ gb130)); have n6_ := Ak ((by rw [hg]; exact Nat.ne_of_gt (blk_lt (g := gb129) (o := .cells #[.slice A0_0 l0_0.length c0_0, .slice A0_1 l0_1.length c0_1] 26 (0, 0)) (bq BK129.out)) : gb130 ≠ gb129)); clear BK129; clear HB; have BK129 := n0_; have HB := n1_; have BK130 := n2_; have GW130 := n3_; have GE130 := n4_; have NB129_130 := n5_; have NB130_129 := n6_; clear n0_ n1_ n2_ n3_ n4_ n5_ n6_; clear hb hbox hg; have hnb5 := NB129_130.out; have hnc5 := NB130_129.out; have hcz6_0 : w4.cell? ⟨gb129, 0, none⟩ = some (.slice A0_0 l0_0.length c0_0) := (blk_cell BK129.out 0).trans rfl; have hcz6_1 : w4.cell? ⟨gb129, 1, none⟩ = some (.slice A0_1 l0_1.length c0_1) := (blk_cell BK129.out 1).trans rfl; have hfz6_0 := blk_frozen BK129.out 0; have hfz6_1 := blk_frozen BK129.out 1) | ((with_reducible refine gate_callee (f := 66) rfl ?_); refine goesL_ (some 10) rfl rfl Try.func66 (by kernel_rfl) rfl #[.slice A0_0 l0_0.length c0_0] rfl gm ?_; (with_reducible refine (slices_Clone_byte_byte.calls _ _ l0_0 t131 _ ?side1 ?side2 A2.out).mono ?_); (case side1 => repeat (first | exact (Kd.C_below HR0_0.out HB.out) | (with_reducible refine Kd.C_alloc ?_ _) | (with_reducible refine Kd.C_drewN ?_ _) | (with_reducible refine Kd.C_drew ?_))); (case side2 => exact HC0_0.out); rintro e w7 ⟨v132, rfl, ho0, hb⟩; refine ⟨_, rfl, ?_⟩; have n0_ := Ak (Kd.R_lower ho0 (below_size (bw2 HB.out GE129.out GE130.out))); have n1_ := Ak (blk_below (g := gb129) (o := .cells #[.slice A0_0 l0_0.length c0_0, .slice A0_1 l0_1.length c0_1] 26 (0, 0)) (bq BK129.out) hb); have n2_ := Ak (blk_below (g := gb130) (o := .cells #[.slice none 0 0, .slice none 0 0] 26 (0, 0)) (bq BK130.out) hb); have n3_ := Ak (below_step (bw2 HB.out GE129.out GE130.out) hb); clear BK129; clear BK130; clear HB; have HO133 := n0_; have BK129 := n1_; have BK130 := n2_; have HB := n3_; clear n0_ n1_ n2_ n3_; obtain ⟨Ao8, co8, eo8⟩ := Kd.R_slice HO133.out; subst eo8) | ((with_reducible refine gate_dst (N := 5) rfl ?_); refine box_event ?hg (N := 5) ?hd (cs := #[.slice none 0 0, .slice none 0 0]) (t := 26) ?hr ?_; (case hd => rfl); (case hg => rfl); (case hr => first | (go_simp; done) | (go_simp; rfl)); intro gb134 hg w9 hbox hb; have n0_ := Ak (Kd.R_below (rq HO133.out) hb); have n1_ := Ak (blk_below (g := gb129) (o := .cells #[.slice A0_0 l0_0.length c0_0, .slice A0_1 l0_1.length c0_1] 26 (0, 0)) (bq BK129.out) hb); have n2_ := Ak (blk_below (g := gb130) (o := .cells #[.slice none 0 0, .slice none 0 0] 26 (0, 0)) (bq BK130.out) hb); have n3_ := Ak (below_step (bw2 HB.out GE129.out GE130.out) hb); have n4_ := Ak (hbox); have n5_ := Ak ((by rw [hg]; exact (below_size (bw2 HB.out GE129.out GE130.out)) : w.heap.size ≤ gb134)); have n6_ := Ak ((by rw [hg]; exact (below_size (bw2 HB.out GE129.out GE130.out)) : w.heap.size ≤ gb134)); have n7_ := Ak ((by rw [hg]; exact Nat.ne_of_lt (blk_lt (g := gb129) (o := .cells #[.slice A0_0 l0_0.length c0_0, .slice A0_1 l0_1.length c0_1] 26 (0, 0)) (bq BK129.out)) : gb129 ≠ gb134)); have n8_ := Ak ((by rw [hg]; exact Nat.ne_of_gt (blk_lt (g := gb129) (o := .cells #[.slice A0_0 l0_0.length c0_0, .slice A0_1 l0_1.length c0_1] 26 (0, 0)) (bq BK129.out)) : gb134 ≠ gb129)); have n9_ := Ak ((by rw [hg]; exact Nat.ne_of_lt (blk_lt (g := gb130) (o := .cells #[.slice none 0 0, .slice none 0 0] 26 (0, 0)) (bq BK130.out)) : gb130 ≠ gb134)); have n10_ := Ak ((by rw [hg]; exact Nat.ne_of_gt (blk_lt (g := gb130) (o := .cells #[.slice none 0 0, .slice none 0 0] 26 (0, 0)) (bq BK130.out)) : gb134 ≠ gb130)); clear HO133; clear BK129; clear BK130; clear HB; have HO133 := n0_; have BK129 := n1_; have BK130 := n2_; have HB := n3_; have BK134 := n4_; have GW134 := n5_; have GE134 := n6_; have NB129_134 := n7_; have NB134_129 := n8_; have NB130_134 := n9_; have NB134_130 := n10_; clear n0_ n1_ n2_ n3_ n4_ n5_ n6_ n7_ n8_ n9_ n10_; clear hb hbox hg; have hnb10 := NB134_129.out; have hnc10 := NB129_134.out; have hnb11 := NB134_130.out; have hnc11 := NB130_134.out; have hcz12_0 : w9.cell? ⟨gb134, 0, none⟩ = some (.slice none 0 0) := (blk_cell BK134.out 0).trans rfl; have hcz12_1 : w9.cell? ⟨gb134, 1, none⟩ = some (.slice none 0 0) := (blk_cell BK134.out 1).trans rfl; have hfz12_0 := blk_frozen BK134.out 0; have hfz12_1 := blk_frozen BK134.out 1; have hcz13_0 : w9.cell? ⟨gb129, 0, none⟩ = some (.slice A0_0 l0_0.length c0_0) := (blk_cell BK129.out 0).trans rfl; have hcz13_1 : w9.cell? ⟨gb129, 1, none⟩ = some (.slice A0_1 l0_1.length c0_1) := (blk_cell BK129.out 1).trans rfl; have hfz13_0 := blk_frozen BK129.out 0; have hfz13_1 := blk_frozen BK129.out 1))
 go_loopg [15] k (fun kq v15 w' => ∃ (x15_1 : Int) (x135000_1 : List Int) (u135000 : Value), v15 = .int .i64 x15_1 ∧ Aside0 (impl_doneS.l0 kq l0_1 (l0_1.length : Int) x15_1 x135000_1 = some (r1, r2)) ∧ Aside0 (kq ≤ k) ∧ Aside0 (Kd.R (Kd.int .u8) 5 w' w.heap.size (fun _ => True) u135000 x135000_1) ∧ Aside0 (w'.heap[gb129]? = some (.cells #[(.slice A0_0 l0_0.length c0_0), (.slice A0_1 l0_1.length c0_1)] 26 (0, 0))) ∧ Aside0 (w'.heap[gb130]? = some (.cells #[(.slice none 0 0), (.slice none 0 0)] 26 (0, 0))) ∧ Aside0 (w'.heap[gb134]? = some (.cells #[u135000, (.slice none 0 0)] 26 (0, 0))) ∧ Aside0 (Below w.heap.size w w'))
 case atStart => exact ⟨(0), (t131), (.slice Ao8 t131.length co8), (by first | rfl | (simp; done) | (simp [*]; done)), H', ⟨Nat.le_refl _⟩, ⟨by (with_reducible repeat (first | apply Kd.R_alloc | apply Kd.R_drewN | apply Kd.R_drew)); exact Kd.R_mono (Kd.R_far (p := ⟨gb134, 1, none⟩) (Kd.R_far (p := ⟨gb134, 0, none⟩) (Kd.R_types HO133.out BK134.out (by decide)) (fun _ hk => hk.2) (.slice Ao8 t131.length co8)) (fun _ hk => hk.2) (.slice none 0 0)) (fun _ hk => trivial)⟩, ⟨by (with_reducible repeat (first | refine blk_drewN ?_ _ | refine blk_drew ?_ | refine blk_alloc ?_ _)); refine blk_far ?_ NB129_134.out _; (with_reducible repeat (first | refine blk_drewN ?_ _ | refine blk_drew ?_ | refine blk_alloc ?_ _)); refine blk_far ?_ NB129_134.out _; (with_reducible repeat (first | refine blk_drewN ?_ _ | refine blk_drew ?_ | refine blk_alloc ?_ _)); exact BK129.out⟩, ⟨by (with_reducible repeat (first | refine blk_drewN ?_ _ | refine blk_drew ?_ | refine blk_alloc ?_ _)); refine blk_far ?_ NB130_134.out _; (with_reducible repeat (first | refine blk_drewN ?_ _ | refine blk_drew ?_ | refine blk_alloc ?_ _)); refine blk_far ?_ NB130_134.out _; (with_reducible repeat (first | refine blk_drewN ?_ _ | refine blk_drew ?_ | refine blk_alloc ?_ _)); exact BK130.out⟩, ⟨by (with_reducible repeat (first | refine blk_drewN ?_ _ | refine blk_drew ?_ | refine blk_alloc ?_ _)); refine blk_put (cs := #[.slice Ao8 t131.length co8, .slice none 0 0]) ?_ 1 _ rfl; (with_reducible repeat (first | refine blk_drewN ?_ _ | refine blk_drew ?_ | refine blk_alloc ?_ _)); refine blk_put (cs := #[.slice none 0 0, .slice none 0 0]) ?_ 0 _ rfl; (with_reducible repeat (first | refine blk_drewN ?_ _ | refine blk_drew ?_ | refine blk_alloc ?_ _)); exact BK134.out⟩, ⟨bw3 HB.out GE129.out GE130.out GE134.out⟩⟩
 case round =>
  clear H'
  obtain ⟨x15_1, x135000_1, u135000, rfl, HA, HK1, HO_135000, BK129, BK130, BK134, HB⟩ := hrel
  cases gk with
  | zero => exact absurd HA.out (by simp [impl_doneS.l0])
  | succ k1 =>
   have H := HA.out
   clear HA
   simp only [impl_doneS.l0] at H
   by_cases c14 : x15_1 < (l0_1.length : Int)
   ·rw [if_pos c14] at H
    have c14b0 : decide (x15_1 < (l0_1.length : Int)) = true := decide_eq_true c14
    clear c14
    by_cases c15 : 0 ≤ x15_1
    ·rw [if_pos c15] at H
     have c15b0 : decide (0 ≤ x15_1) = true := decide_eq_true c15
     clear c15
     by_cases c16 : x15_1 < (l0_1.length : Int)
     ·rw [if_pos c16] at H
      have c16b0 : decide (x15_1 < (l0_1.length : Int)) = true := decide_eq_true c16
      clear c16
      replace H := Option.bind_eq_some_iff.mp H
      obtain ⟨t137, A170, H⟩ := H
      replace H : (if t137 = true then (if 0 ≤ (wrap64 (((rd_T34 l0_1 x15_1).f0) * 64)) then (if (0 < ((rd_T34 l0_1 x15_1).f1).length ∧ ((wrap64 (((rd_T34 l0_1 x15_1).f0) * 64)) : Int).toNat + ((rd_T34 l0_1 x15_1).f1).length ≤ x135000_1.length) then (impl_doneS.l0 k1 l0_1 (l0_1.length : Int) (wrap64 (x15_1 + 1)) (spl x135000_1 ((wrap64 (((rd_T34 l0_1 x15_1).f0) * 64)) : Int).toNat ((rd_T34 l0_1 x15_1).f1))) else (none)) else (none)) else (impl_doneS.l0 k1 l0_1 (l0_1.length : Int) (wrap64 (x15_1 + 1)) x135000_1)) = some (r1, r2) := H
      have A17 := Ak A170
      clear A170
      by_cases c18 : t137 = true
      ·subst c18
       have H1 : (if 0 ≤ (wrap64 (((rd_T34 l0_1 x15_1).f0) * 64)) then (if (0 < ((rd_T34 l0_1 x15_1).f1).length ∧ ((wrap64 (((rd_T34 l0_1 x15_1).f0) * 64)) : Int).toNat + ((rd_T34 l0_1 x15_1).f1).length ≤ x135000_1.length) then (impl_doneS.l0 k1 l0_1 (l0_1.length : Int) (wrap64 (x15_1 + 1)) (spl x135000_1 ((wrap64 (((rd_T34 l0_1 x15_1).f0) * 64)) : Int).toNat ((rd_T34 l0_1 x15_1).f1))) else (none)) else (none)) = some (r1, r2) := by rw [if_pos rfl] at H; exact H
       clear H
       have H := H1
       clear H1
       obtain ⟨ji19, hji19⟩ : ∃ j_ : Int, (wrap64 (((rd_T34 l0_1 x15_1).f0) * 64)) = j_ := ⟨_, rfl⟩
       replace H : (if 0 ≤ (ji19) then (if (0 < ((rd_T34 l0_1 x15_1).f1).length ∧ ((ji19) : Int).toNat + ((rd_T34 l0_1 x15_1).f1).length ≤ x135000_1.length) then (impl_doneS.l0 k1 l0_1 (l0_1.length : Int) (wrap64 (x15_1 + 1)) (spl x135000_1 ((ji19) : Int).toNat ((rd_T34 l0_1 x15_1).f1))) else (none)) else (none)) = some (r1, r2) := by first | (rw [hji19] at H; exact H) | (simp only [hji19] at H ⊢; exact H)
       (try rw [hji19] at A17)
       have hji19w : (IntKind.i64.wrap (((rd_T34 l0_1 x15_1).f0) * 64)) = ji19 := (i64_w _).trans hji19
       by_cases c20 : 0 ≤ (ji19)
       ·rw [if_pos c20] at H
        have c20b0 : decide (0 ≤ (ji19)) = true := decide_eq_true c20
        clear c20
        by_cases c21 : (0 < ((rd_T34 l0_1 x15_1).f1).length ∧ ((ji19) : Int).toNat + ((rd_T34 l0_1 x15_1).f1).length ≤ x135000_1.length)
        ·rw [if_pos c21] at H
         have LC_ := Ak c21
         have p0_ : 0 ≤ (ji19) := of_decide_eq_true c20b0
         have c21b0 : decide ((ji19) < (x135000_1.length : Int)) = true := decide_eq_true (by have := LC_.out; omega)
         have cle_ : decide ((ji19) ≤ (x135000_1.length : Int)) = true := decide_eq_true (by have := LC_.out; omega)
         clear c21
         obtain ⟨y138, hy138⟩ : ∃ y_ : List Int, y_ = (spl x135000_1 ((ji19) : Int).toNat ((rd_T34 l0_1 x15_1).f1)) := ⟨_, rfl⟩
         replace H : (impl_doneS.l0 k1 l0_1 (l0_1.length : Int) (wrap64 (x15_1 + 1)) y138) = some (r1, r2) := by first | (rw [hy138]; with_reducible exact H) | (have H2_ := (Option.bind_some _ _).symm.trans H; rw [hy138]; with_reducible exact H2_) | (have H2_ := (Option.bind_some _ _).symm.trans H; with_reducible exact H2_) | with_reducible exact H | (rw [hy138]; exact H) | exact H
         have Ny138 := Ak hy138
         clear hy138
         have H' := Ak H
         clear H
         have p135 : 0 ≤ (x15_1 : Int) := of_decide_eq_true (by first | (with_reducible assumption) | assumption)
         have q135 : x15_1 < (l0_1.length : Int) := of_decide_eq_true (by first | (with_reducible assumption) | assumption)
         obtain ⟨ad135, A135_1, c135_1, e135, hx135_0, hx135_1, hl135_1, hi135_1⟩ := at_T34 HR0_1.out x15_1 p135 q135
         cases e135
         replace hx135_0 := (HB.out.cell (World.block_lt_of_cell? w _ hx135_0)).trans hx135_0
         replace hx135_1 := (HB.out.cell (World.block_lt_of_cell? w _ hx135_1)).trans hx135_1
         have HR135_1 := Ak hi135_1
         have HC135_1 := Ak hl135_1
         clear hi135_1 hl135_1
         replace p135 := eq_true p135
         replace q135 := eq_true q135
         try go_wp2_with (first | ((with_reducible refine gate_dst (N := 7) rfl ?_); refine box_event ?hg (N := 7) ?hd (cs := #[.int .i64 0, .slice none 0 0]) (t := 34) ?hr ?_; (case hd => rfl); (case hg => rfl); (case hr => first | (go_simp; done) | (go_simp; rfl)); intro gb136 hg w23 hbox hb; have n0_ := Ak (Kd.R_below (rq HO_135000.out) hb); have n1_ := Ak (blk_below (g := gb129) (o := .cells #[.slice A0_0 l0_0.length c0_0, .slice (some ad135) l0_1.length c0_1] 26 (0, 0)) (bq BK129.out) hb); have n2_ := Ak (blk_below (g := gb130) (o := .cells #[.slice none 0 0, .slice none 0 0] 26 (0, 0)) (bq BK130.out) hb); have n3_ := Ak (blk_below (g := gb134) (o := .cells #[u135000, .slice none 0 0] 26 (0, 0)) (bq BK134.out) hb); have n4_ := Ak (below_step (bw3 HB.out GE129.out GE130.out GE134.out) hb); have n5_ := Ak (hbox); have n6_ := Ak ((by rw [hg]; exact (below_size (bw3 HB.out GE129.out GE130.out GE134.out)) : w.heap.size ≤ gb136)); have n7_ := Ak ((by rw [hg]; exact (below_size (bw3 HB.out GE129.out GE130.out GE134.out)) : w.heap.size ≤ gb136)); have n8_ := Ak ((by rw [hg]; exact Nat.ne_of_lt (blk_lt (g := gb129) (o := .cells #[.slice A0_0 l0_0.length c0_0, .slice (some ad135) l0_1.length c0_1] 26 (0, 0)) (bq BK129.out)) : gb129 ≠ gb136)); have n9_ := Ak ((by rw [hg]; exact Nat.ne_of_gt (blk_lt (g := gb129) (o := .cells #[.slice A0_0 l0_0.length c0_0, .slice (some ad135) l0_1.length c0_1] 26 (0, 0)) (bq BK129.out)) : gb136 ≠ gb129)); have n10_ := Ak ((by rw [hg]; exact Nat.ne_of_lt (blk_lt (g := gb130) (o := .cells #[.slice none 0 0, .slice none 0 0] 26 (0, 0)) (bq BK130.out)) : gb130 ≠ gb136)); have n11_ := Ak ((by rw [hg]; exact Nat.ne_of_gt (blk_lt (g := gb130) (o := .cells #[.slice none 0 0, .slice none 0 0] 26 (0, 0)) (bq BK130.out)) : gb136 ≠ gb130)); have n12_ := Ak ((by rw [hg]; exact Nat.ne_of_lt (blk_lt (g := gb134) (o := .cells #[u135000, .slice none 0 0] 26 (0, 0)) (bq BK134.out)) : gb134 ≠ gb136)); have n13_ := Ak ((by rw [hg]; exact Nat.ne_of_gt (blk_lt (g := gb134) (o := .cells #[u135000, .slice none 0 0] 26 (0, 0)) (bq BK134.out)) : gb136 ≠ gb134)); clear HO_135000; clear BK129; clear BK130; clear BK134; clear HB; have HO_135000 := n0_; have BK129 := n1_; have BK130 := n2_; have BK134 := n3_; have HB := n4_; have BK136 := n5_; have GW136 := n6_; have GE136 := n7_; have NB129_136 := n8_; have NB136_129 := n9_; have NB130_136 := n10_; have NB136_130 := n11_; have NB134_136 := n12_; have NB136_134 := n13_; clear n0_ n1_ n2_ n3_ n4_ n5_ n6_ n7_ n8_ n9_ n10_ n11_ n12_ n13_; clear hb hbox hg; have hnb24 := NB136_129.out; have hnc24 := NB129_136.out; have hnb25 := NB136_130.out; have hnc25 := NB130_136.out; have hnb26 := NB136_134.out; have hnc26 := NB134_136.out; have hcz27_0 : w23.cell? ⟨gb136, 0, none⟩ = some (.int .i64 0) := (blk_cell BK136.out 0).trans rfl; have hcz27_1 : w23.cell? ⟨gb136, 1, none⟩ = some (.slice none 0 0) := (blk_cell BK136.out 1).trans rfl; have hfz27_0 := blk_frozen BK136.out 0; have hfz27_1 := blk_frozen BK136.out 1) | ((with_reducible refine gate_dst (N := 22) rfl ?_); refine goesT_ (some 22) rfl rfl Try.func64 (by kernel_rfl) rfl #[.int .i64 x15_1] rfl (by rfl) gm ?_; (with_reducible refine (impl_SyncOne.calls x15_1 true _ A17.out).mono ?_); rintro e w' ⟨rfl, ⟨nd, rfl⟩⟩; refine ⟨_, rfl, ?_⟩))
         have n0_ : Aside0 (Kd.R (Kd.int .u8) 5 ((w23.setCell ⟨gb136, 0, none⟩ (.int .i64 ((rd_T34 l0_1 x15_1).f0))).setCell ⟨gb136, 1, none⟩ (.slice A135_1 ((rd_T34 l0_1 x15_1).f1).length c135_1)) w.heap.size (fun _ => True) u135000 x135000_1) := ⟨by (with_reducible repeat (first | apply Kd.R_alloc | apply Kd.R_drewN | apply Kd.R_drew)); exact Kd.R_mono (Kd.R_far (p := ⟨gb136, 1, none⟩) (Kd.R_far (p := ⟨gb136, 0, none⟩) (Kd.R_types HO_135000.out BK136.out (by decide)) (fun _ hk => hk.2) (.int .i64 ((rd_T34 l0_1 x15_1).f0))) (fun _ hk => hk.2) (.slice A135_1 ((rd_T34 l0_1 x15_1).f1).length c135_1)) (fun _ hk => trivial)⟩
         have n1_ : Aside0 (((w23.setCell ⟨gb136, 0, none⟩ (.int .i64 ((rd_T34 l0_1 x15_1).f0))).setCell ⟨gb136, 1, none⟩ (.slice A135_1 ((rd_T34 l0_1 x15_1).f1).length c135_1)).heap[gb129]? = some (.cells #[.slice A0_0 l0_0.length c0_0, .slice (some ad135) l0_1.length c0_1] 26 (0, 0))) := ⟨by (with_reducible repeat (first | refine blk_drewN ?_ _ | refine blk_drew ?_ | refine blk_alloc ?_ _)); refine blk_far ?_ NB129_136.out _; (with_reducible repeat (first | refine blk_drewN ?_ _ | refine blk_drew ?_ | refine blk_alloc ?_ _)); refine blk_far ?_ NB129_136.out _; (with_reducible repeat (first | refine blk_drewN ?_ _ | refine blk_drew ?_ | refine blk_alloc ?_ _)); exact BK129.out⟩
         have n2_ : Aside0 (((w23.setCell ⟨gb136, 0, none⟩ (.int .i64 ((rd_T34 l0_1 x15_1).f0))).setCell ⟨gb136, 1, none⟩ (.slice A135_1 ((rd_T34 l0_1 x15_1).f1).length c135_1)).heap[gb130]? = some (.cells #[.slice none 0 0, .slice none 0 0] 26 (0, 0))) := ⟨by (with_reducible repeat (first | refine blk_drewN ?_ _ | refine blk_drew ?_ | refine blk_alloc ?_ _)); refine blk_far ?_ NB130_136.out _; (with_reducible repeat (first | refine blk_drewN ?_ _ | refine blk_drew ?_ | refine blk_alloc ?_ _)); refine blk_far ?_ NB130_136.out _; (with_reducible repeat (first | refine blk_drewN ?_ _ | refine blk_drew ?_ | refine blk_alloc ?_ _)); exact BK130.out⟩
         have n3_ : Aside0 (((w23.setCell ⟨gb136, 0, none⟩ (.int .i64 ((rd_T34 l0_1 x15_1).f0))).setCell ⟨gb136, 1, none⟩ (.slice A135_1 ((rd_T34 l0_1 x15_1).f1).length c135_1)).heap[gb134]? = some (.cells #[u135000, .slice none 0 0] 26 (0, 0))) := ⟨by (with_reducible repeat (first | refine blk_drewN ?_ _ | refine blk_drew ?_ | refine blk_alloc ?_ _)); refine blk_far ?_ NB134_136.out _; (with_reducible repeat (first | refine blk_drewN ?_ _ | refine blk_drew ?_ | refine blk_alloc ?_ _)); refine blk_far ?_ NB134_136.out _; (with_reducible repeat (first | refine blk_drewN ?_ _ | refine blk_drew ?_ | refine blk_alloc ?_ _)); exact BK134.out⟩
         have n4_ : Aside0 (((w23.setCell ⟨gb136, 0, none⟩ (.int .i64 ((rd_T34 l0_1 x15_1).f0))).setCell ⟨gb136, 1, none⟩ (.slice A135_1 ((rd_T34 l0_1 x15_1).f1).length c135_1)).heap[gb136]? = some (.cells #[.int .i64 ((rd_T34 l0_1 x15_1).f0), .slice A135_1 ((rd_T34 l0_1 x15_1).f1).length c135_1] 34 (0, 0))) := ⟨by (with_reducible repeat (first | refine blk_drewN ?_ _ | refine blk_drew ?_ | refine blk_alloc ?_ _)); refine blk_put (cs := #[.int .i64 ((rd_T34 l0_1 x15_1).f0), .slice none 0 0]) ?_ 1 _ rfl; (with_reducible repeat (first | refine blk_drewN ?_ _ | refine blk_drew ?_ | refine blk_alloc ?_ _)); refine blk_put (cs := #[.int .i64 0, .slice none 0 0]) ?_ 0 _ rfl; (with_reducible repeat (first | refine blk_drewN ?_ _ | refine blk_drew ?_ | refine blk_alloc ?_ _)); exact BK136.out⟩
         have n5_ : Aside0 (Below w.heap.size w ((w23.setCell ⟨gb136, 0, none⟩ (.int .i64 ((rd_T34 l0_1 x15_1).f0))).setCell ⟨gb136, 1, none⟩ (.slice A135_1 ((rd_T34 l0_1 x15_1).f1).length c135_1))) := ⟨bw4 HB.out GE129.out GE130.out GE134.out GE136.out⟩
         (try clear HO_135000)
         (try clear BK129)
         (try clear BK130)
         (try clear BK134)
         (try clear BK136)
         (try clear HB)
         generalize ((w23.setCell ⟨gb136, 0, none⟩ (.int .i64 ((rd_T34 l0_1 x15_1).f0))).setCell ⟨gb136, 1, none⟩ (.slice A135_1 ((rd_T34 l0_1 x15_1).f1).length c135_1)) = w28 at n0_ n1_ n2_ n3_ n4_ n5_ ⊢
         have HO_135000 := n0_
         have BK129 := n1_
         have BK130 := n2_
         have BK134 := n3_
         have BK136 := n4_
         have HB := n5_
         clear n0_ n1_ n2_ n3_ n4_ n5_
         (try (rw [drewN_self w28]; generalize hq_ : World.drewN w28 _ = w28; have n0_ : Aside0 (Kd.R (Kd.int .u8) 5 w28 w.heap.size (fun _ => True) u135000 x135000_1) := ⟨by rw [← hq_]; exact (rq HO_135000.out)⟩; have n1_ : Aside0 (w28.heap[gb129]? = some (.cells #[.slice A0_0 l0_0.length c0_0, .slice (some ad135) l0_1.length c0_1] 26 (0, 0))) := ⟨by rw [← hq_]; exact (bq BK129.out)⟩; have n2_ : Aside0 (w28.heap[gb130]? = some (.cells #[.slice none 0 0, .slice none 0 0] 26 (0, 0))) := ⟨by rw [← hq_]; exact (bq BK130.out)⟩; have n3_ : Aside0 (w28.heap[gb134]? = some (.cells #[u135000, .slice none 0 0] 26 (0, 0))) := ⟨by rw [← hq_]; exact (bq BK134.out)⟩; have n4_ : Aside0 (w28.heap[gb136]? = some (.cells #[.int .i64 ((rd_T34 l0_1 x15_1).f0), .slice A135_1 ((rd_T34 l0_1 x15_1).f1).length c135_1] 34 (0, 0))) := ⟨by rw [← hq_]; exact (bq BK136.out)⟩; have n5_ : Aside0 (Below w.heap.size w w28) := ⟨by rw [← hq_]; exact (bw4 HB.out GE129.out GE130.out GE134.out GE136.out)⟩; clear HO_135000 BK129 BK130 BK134 BK136 HB hq_; have HO_135000 := n0_; have BK129 := n1_; have BK130 := n2_; have BK134 := n3_; have BK136 := n4_; have HB := n5_; clear n0_ n1_ n2_ n3_ n4_ n5_))
         have n0_ := Ak (Kd.R_drew HO_135000.out)
         have n1_ := Ak (blk_drew BK129.out)
         have n2_ := Ak (blk_drew BK130.out)
         have n3_ := Ak (blk_drew BK134.out)
         have n4_ := Ak (blk_drew BK136.out)
         have n5_ := Ak (below_drew1 HB.out)
         clear HO_135000
         clear BK129
         clear BK130
         clear BK134
         clear BK136
         clear HB
         have HO_135000 := n0_
         have BK129 := n1_
         have BK130 := n2_
         have BK134 := n3_
         have BK136 := n4_
         have HB := n5_
         clear n0_ n1_ n2_ n3_ n4_ n5_
         have p22 : 0 ≤ ((ji19) : Int) := of_decide_eq_true (by first | (with_reducible assumption) | assumption)
         have q22 : ((ji19) : Int) < ((x135000_1.length : Int) : Int) := of_decide_eq_true (by first | (with_reducible assumption) | assumption)
         obtain ⟨go22, co22, eo22, gb22, gl22, cl22, HG22⟩ := Kd.R_form HO_135000.out (by omega)
         (first | cases eo22 | (injection eo22 with ea_ en_ ec_; (first | subst ea_ | (injection ea_ with ea_; subst ea_)); subst ec_; clear en_))
         have GB22 := Ak gb22
         have GG22 := Ak HG22
         clear gb22 gl22 HG22
         obtain ⟨hx22_0, hf22_0⟩ := Kd.R_celln 0 HO_135000.out ((ji19) : Int) p22 q22
         replace p22 := eq_true p22
         replace q22 := eq_true q22
         obtain ⟨w1_, hcp_, hr_, hgr_⟩ := copy_at (P := Try.prog) w28.drew w.heap.size (fun _ => True) 22 22 3 5 Try.underlying22 (by kernel_rfl) go22 co22 ((ji19) : Int).toNat c135_1 A135_1 x135000_1 ((rd_T34 l0_1 x15_1).f1) HO_135000.out (Kd.C_below HR135_1.out HB.out) LC_.out.1 LC_.out.2
         have HQ30 := Ak (show Kd.R (Kd.int .u8) 5 w1_ w.heap.size (fun _ => True) (.slice (some ⟨go22, 0, none⟩) x135000_1.length co22) y138 from by rw [Ny138.out]; exact hr_)
         clear hr_
         have hne_ : ¬ (co22 = ((ji19) : Int).toNat) := by have h1_ := (Kd.R_reads' HO_135000.out).2.1; have h2_ := LC_.out; omega
         refine start_ (n := 9) (S := fun w' => w'.cell? ⟨gb134, 0, none⟩ = some (.slice (some ⟨go22, 0, none⟩) x135000_1.length co22) ∧ w'.cell? ⟨gb134, 1, none⟩ = some (.slice none 0 0) ∧ w'.cell? ⟨gb136, 0, none⟩ = some (.int .i64 ((rd_T34 l0_1 x15_1).f0)) ∧ w'.cell? ⟨gb136, 1, none⟩ = some (.slice A135_1 ((rd_T34 l0_1 x15_1).f1).length c135_1)) (ds := [8]) #[false, false, false, false, false, false, false, false, false] (by kernel_rfl) rfl rfl ⟨(blk_cell BK134.out 0).trans rfl, (blk_cell BK134.out 1).trans rfl, (blk_cell BK136.out 0).trans rfl, (blk_cell BK136.out 1).trans rfl⟩ (fun hHeld => ?_); refine with_tabW impl_doneS.tab6 impl_doneS.bits6 (fun HT_ HW_ => ?_)
         generalize w28.drew = w29 at HO_135000 BK129 BK130 BK134 BK136 HB GG22 hf22_0 hx22_0 hcp_ hgr_ hHeld ⊢
         refine pure_ (i := 0) (N := some 23) (v := ?_) (a' := ?_) #[true, false, false, false, false, false, false, false, false] rfl rfl (any_of HT_.out (by kernel_rfl)) (fun _ _ _ h => h) (Or.inl ⟨by rfl, ?_⟩) ?_ ?_
         rotate_left
         ·intro w'
          go_simp
          with_reducible rfl
         rotate_left
         ·simp only [Act.put, sT, sZ, sS, i64_w, i32_w]
          rfl
         refine pure_ (i := 2) (N := some 25) (v := ?_) (a' := ?_) #[true, false, true, false, false, false, false, false, false] rfl rfl (any_of HT_.out (by kernel_rfl)) (fun _ _ _ h => h) (Or.inl ⟨by rfl, ?_⟩) ?_ ?_
         rotate_left
         ·intro w'
          go_simp
          with_reducible rfl
         rotate_left
         ·simp only [Act.put, sT, sZ, sS, i64_w, i32_w]
          rfl
         refine pure_ (i := 6) (N := some 29) (v := ?_) (a' := ?_) #[true, false, true, false, false, false, true, false, false] rfl rfl (any_of HT_.out (by kernel_rfl)) (fun _ _ _ h => h) (Or.inl ⟨by rfl, ?_⟩) ?_ ?_
         rotate_left
         ·intro w'
          go_simp
          with_reducible rfl
         rotate_left
         ·simp only [Act.put, sT, sZ, sS, i64_w, i32_w]
          rfl
         refine take_ (i := 1) (N := some 24) (v := ?_) (a' := ?_) #[true, true, true, false, false, false, true, false, false] rfl rfl (take_ofW HT_.out HW_.out (by kernel_rfl)) (fun _ _ _ h => h) (Or.inl ⟨by rfl, ?_⟩) hHeld ?_ ?_
         rotate_left
         ·rintro w' ⟨s0, s1, s2, s3⟩
          go_simp
          with_reducible rfl
         rotate_left
         ·simp only [Act.put, sT, sZ, sS, i64_w, i32_w]
          rfl
         refine take_ (i := 3) (N := some 26) (v := ?_) (a' := ?_) #[true, true, true, true, false, false, true, false, false] rfl rfl (take_ofW HT_.out HW_.out (by kernel_rfl)) (fun _ _ _ h => h) (Or.inl ⟨by rfl, ?_⟩) hHeld ?_ ?_
         rotate_left
         ·rintro w' ⟨s0, s1, s2, s3⟩
          go_simp
          with_reducible rfl
         rotate_left
         ·simp only [Act.put, sT, sZ, sS, i64_w, i32_w]
          rfl
         refine pure_ (i := 4) (N := some 27) (v := ?_) (a' := ?_) #[true, true, true, true, true, false, true, false, false] rfl rfl (any_of HT_.out (by kernel_rfl)) (fun _ _ _ h => h) (Or.inl ⟨by rfl, ?_⟩) ?_ ?_
         rotate_left
         ·intro w'
          go_simp
          with_reducible rfl
         rotate_left
         ·simp only [Act.put, sT, sZ, sS, i64_w, i32_w]
          rfl
         refine pure_ (i := 5) (N := some 28) (v := ?_) (a' := ?_) #[true, true, true, true, true, true, true, false, false] rfl rfl (any_of HT_.out (by kernel_rfl)) (fun _ _ _ h => h) (Or.inl ⟨by rfl, ?_⟩) ?_ ?_
         rotate_left
         ·intro w'
          go_simp
          first | (with_reducible rfl) | (rw [if_pos (of_decide_eq_true cle_)])
         rotate_left
         ·simp only [Act.put, sT, sZ, sS, i64_w, i32_w]
          rfl
         refine take_ (i := 7) (N := some 30) (v := ?_) (a' := ?_) #[true, true, true, true, true, true, true, true, false] rfl rfl (take_ofW HT_.out HW_.out (by kernel_rfl)) (fun _ _ _ h => h) (Or.inl ⟨by rfl, ?_⟩) hHeld ?_ ?_
         rotate_left
         ·rintro w' ⟨s0, s1, s2, s3⟩
          go_simp
          with_reducible rfl
         rotate_left
         ·simp only [Act.put, sT, sZ, sS, i64_w, i32_w]
          rfl
         refine last_ (i := 8) (N := some 31) #[true, true, true, true, true, true, true, true, true] rfl rfl (one_of HT_.out (by kernel_rfl)) (by decide) (fun K hK => ?_)
         refine value_ (w1 := w1_) (v := goInt ((((rd_T34 l0_1 x15_1).f1).length : Nat) : Int)) (by rfl) rfl ?_ ?_
         ·show Sem.run _ (execOp _ { dst := some 31, op := Go.Op.call _, type := 3, pos := _, after := _, guard := none }) _ = _
          unfold execOp
          first | (simp only [resolve, invoke, builtin, Sem.run_bind, Sem.run_pure, Result.andThen_ok, List.map_toArray, List.map_cons, List.map_nil]; erw [hcp_]; rfl) | (erw [hcp_]; rfl)
         refine hK.out _ _ ?_
         clear hK K
         refine done_ (done_of HT_.out (by kernel_rfl)) ?_
         try go_wp2
         go_roundg k1
         case measure => have := HK1.out; omega
         case rel => exact ⟨(wrap64 (x15_1 + 1)), (y138), (.slice (some ⟨go22, 0, none⟩) x135000_1.length co22), (by first | rfl | (simp; done) | (simp [*]; done)), H', ⟨by have := HK1.out; omega⟩, ⟨rq HQ30.out⟩, ⟨by (with_reducible repeat (first | refine blk_drewN ?_ _ | refine blk_drew ?_ | refine blk_alloc ?_ _)); exact blk_grown BK129.out hgr_ (fun e_ => (Kd.R_ne HO_135000.out BK129.out (by decide)) e_)⟩, ⟨by (with_reducible repeat (first | refine blk_drewN ?_ _ | refine blk_drew ?_ | refine blk_alloc ?_ _)); exact blk_grown BK130.out hgr_ (fun e_ => (Kd.R_ne HO_135000.out BK130.out (by decide)) e_)⟩, ⟨by (with_reducible repeat (first | refine blk_drewN ?_ _ | refine blk_drew ?_ | refine blk_alloc ?_ _)); exact blk_grown BK134.out hgr_ (fun e_ => (Kd.R_ne HO_135000.out BK134.out (by decide)) e_)⟩, ⟨by (with_reducible repeat (first | apply below_alloc | apply pw_below_drewN | apply below_drew1)); exact HB.out.grown hgr_ HB.out.size (fun k_ e_ => by injection e_ with e_; subst e_; exact GB22.out)⟩⟩
        ·rw [if_neg c21] at H
         exact absurd H (by simp)
       ·rw [if_neg c20] at H
        exact absurd H (by simp)
      ·replace c18 := Bool.eq_false_iff.mpr c18
       subst c18
       have H1 : (impl_doneS.l0 k1 l0_1 (l0_1.length : Int) (wrap64 (x15_1 + 1)) x135000_1) = some (r1, r2) := by rw [if_neg (show ¬ (false = true) by decide)] at H; exact H
       clear H
       have H := H1
       clear H1
       have H' := Ak H
       clear H
       have p135 : 0 ≤ (x15_1 : Int) := of_decide_eq_true (by first | (with_reducible assumption) | assumption)
       have q135 : x15_1 < (l0_1.length : Int) := of_decide_eq_true (by first | (with_reducible assumption) | assumption)
       obtain ⟨ad135, A135_1, c135_1, e135, hx135_0, hx135_1, hl135_1, hi135_1⟩ := at_T34 HR0_1.out x15_1 p135 q135
       cases e135
       replace hx135_0 := (HB.out.cell (World.block_lt_of_cell? w _ hx135_0)).trans hx135_0
       replace hx135_1 := (HB.out.cell (World.block_lt_of_cell? w _ hx135_1)).trans hx135_1
       have HR135_1 := Ak hi135_1
       have HC135_1 := Ak hl135_1
       clear hi135_1 hl135_1
       replace p135 := eq_true p135
       replace q135 := eq_true q135
       go_wp2_with (first | ((with_reducible refine gate_dst (N := 7) rfl ?_); refine box_event ?hg (N := 7) ?hd (cs := #[.int .i64 0, .slice none 0 0]) (t := 34) ?hr ?_; (case hd => rfl); (case hg => rfl); (case hr => first | (go_simp; done) | (go_simp; rfl)); intro gb136 hg w31 hbox hb; have n0_ := Ak (Kd.R_below (rq HO_135000.out) hb); have n1_ := Ak (blk_below (g := gb129) (o := .cells #[.slice A0_0 l0_0.length c0_0, .slice (some ad135) l0_1.length c0_1] 26 (0, 0)) (bq BK129.out) hb); have n2_ := Ak (blk_below (g := gb130) (o := .cells #[.slice none 0 0, .slice none 0 0] 26 (0, 0)) (bq BK130.out) hb); have n3_ := Ak (blk_below (g := gb134) (o := .cells #[u135000, .slice none 0 0] 26 (0, 0)) (bq BK134.out) hb); have n4_ := Ak (below_step (bw3 HB.out GE129.out GE130.out GE134.out) hb); have n5_ := Ak (hbox); have n6_ := Ak ((by rw [hg]; exact (below_size (bw3 HB.out GE129.out GE130.out GE134.out)) : w.heap.size ≤ gb136)); have n7_ := Ak ((by rw [hg]; exact (below_size (bw3 HB.out GE129.out GE130.out GE134.out)) : w.heap.size ≤ gb136)); have n8_ := Ak ((by rw [hg]; exact Nat.ne_of_lt (blk_lt (g := gb129) (o := .cells #[.slice A0_0 l0_0.length c0_0, .slice (some ad135) l0_1.length c0_1] 26 (0, 0)) (bq BK129.out)) : gb129 ≠ gb136)); have n9_ := Ak ((by rw [hg]; exact Nat.ne_of_gt (blk_lt (g := gb129) (o := .cells #[.slice A0_0 l0_0.length c0_0, .slice (some ad135) l0_1.length c0_1] 26 (0, 0)) (bq BK129.out)) : gb136 ≠ gb129)); have n10_ := Ak ((by rw [hg]; exact Nat.ne_of_lt (blk_lt (g := gb130) (o := .cells #[.slice none 0 0, .slice none 0 0] 26 (0, 0)) (bq BK130.out)) : gb130 ≠ gb136)); have n11_ := Ak ((by rw [hg]; exact Nat.ne_of_gt (blk_lt (g := gb130) (o := .cells #[.slice none 0 0, .slice none 0 0] 26 (0, 0)) (bq BK130.out)) : gb136 ≠ gb130)); have n12_ := Ak ((by rw [hg]; exact Nat.ne_of_lt (blk_lt (g := gb134) (o := .cells #[u135000, .slice none 0 0] 26 (0, 0)) (bq BK134.out)) : gb134 ≠ gb136)); have n13_ := Ak ((by rw [hg]; exact Nat.ne_of_gt (blk_lt (g := gb134) (o := .cells #[u135000, .slice none 0 0] 26 (0, 0)) (bq BK134.out)) : gb136 ≠ gb134)); clear HO_135000; clear BK129; clear BK130; clear BK134; clear HB; have HO_135000 := n0_; have BK129 := n1_; have BK130 := n2_; have BK134 := n3_; have HB := n4_; have BK136 := n5_; have GW136 := n6_; have GE136 := n7_; have NB129_136 := n8_; have NB136_129 := n9_; have NB130_136 := n10_; have NB136_130 := n11_; have NB134_136 := n12_; have NB136_134 := n13_; clear n0_ n1_ n2_ n3_ n4_ n5_ n6_ n7_ n8_ n9_ n10_ n11_ n12_ n13_; clear hb hbox hg; have hnb32 := NB136_129.out; have hnc32 := NB129_136.out; have hnb33 := NB136_130.out; have hnc33 := NB130_136.out; have hnb34 := NB136_134.out; have hnc34 := NB134_136.out; have hcz35_0 : w31.cell? ⟨gb136, 0, none⟩ = some (.int .i64 0) := (blk_cell BK136.out 0).trans rfl; have hcz35_1 : w31.cell? ⟨gb136, 1, none⟩ = some (.slice none 0 0) := (blk_cell BK136.out 1).trans rfl; have hfz35_0 := blk_frozen BK136.out 0; have hfz35_1 := blk_frozen BK136.out 1) | ((with_reducible refine gate_dst (N := 22) rfl ?_); refine goesT_ (some 22) rfl rfl Try.func64 (by kernel_rfl) rfl #[.int .i64 x15_1] rfl (by rfl) gm ?_; (with_reducible refine (impl_SyncOne.calls x15_1 false _ A17.out).mono ?_); rintro e w' ⟨rfl, ⟨nd, rfl⟩⟩; refine ⟨_, rfl, ?_⟩))
       go_roundg k1
       case measure => have := HK1.out; omega
       case rel => exact ⟨(wrap64 (x15_1 + 1)), (x135000_1), (u135000), (by first | rfl | (simp; done) | (simp [*]; done)), H', ⟨by have := HK1.out; omega⟩, ⟨by (with_reducible repeat (first | apply Kd.R_alloc | apply Kd.R_drewN | apply Kd.R_drew)); exact Kd.R_mono (Kd.R_far (p := ⟨gb136, 1, none⟩) (Kd.R_far (p := ⟨gb136, 0, none⟩) (Kd.R_types HO_135000.out BK136.out (by decide)) (fun _ hk => hk.2) (.int .i64 ((rd_T34 l0_1 x15_1).f0))) (fun _ hk => hk.2) (.slice A135_1 ((rd_T34 l0_1 x15_1).f1).length c135_1)) (fun _ hk => trivial)⟩, ⟨by (with_reducible repeat (first | refine blk_drewN ?_ _ | refine blk_drew ?_ | refine blk_alloc ?_ _)); refine blk_far ?_ NB129_136.out _; (with_reducible repeat (first | refine blk_drewN ?_ _ | refine blk_drew ?_ | refine blk_alloc ?_ _)); refine blk_far ?_ NB129_136.out _; (with_reducible repeat (first | refine blk_drewN ?_ _ | refine blk_drew ?_ | refine blk_alloc ?_ _)); exact BK129.out⟩, ⟨by (with_reducible repeat (first | refine blk_drewN ?_ _ | refine blk_drew ?_ | refine blk_alloc ?_ _)); refine blk_far ?_ NB130_136.out _; (with_reducible repeat (first | refine blk_drewN ?_ _ | refine blk_drew ?_ | refine blk_alloc ?_ _)); refine blk_far ?_ NB130_136.out _; (with_reducible repeat (first | refine blk_drewN ?_ _ | refine blk_drew ?_ | refine blk_alloc ?_ _)); exact BK130.out⟩, ⟨by (with_reducible repeat (first | refine blk_drewN ?_ _ | refine blk_drew ?_ | refine blk_alloc ?_ _)); refine blk_far ?_ NB134_136.out _; (with_reducible repeat (first | refine blk_drewN ?_ _ | refine blk_drew ?_ | refine blk_alloc ?_ _)); refine blk_far ?_ NB134_136.out _; (with_reducible repeat (first | refine blk_drewN ?_ _ | refine blk_drew ?_ | refine blk_alloc ?_ _)); exact BK134.out⟩, ⟨bw4 HB.out GE129.out GE130.out GE134.out GE136.out⟩⟩
     ·rw [if_neg c16] at H
      exact absurd H (by simp)
    ·rw [if_neg c15] at H
     exact absurd H (by simp)
   ·rw [if_neg c14] at H
    have c14b0 : decide (x15_1 < (l0_1.length : Int)) = false := decide_eq_false c14
    clear c14
    simp only [Option.some.injEq, Prod.mk.injEq] at H
    obtain ⟨rfl, rfl⟩ := H
    have hnb36 := NB134_129.out
    have hnc36 := NB129_134.out
    have hnb37 := NB134_130.out
    have hnc37 := NB130_134.out
    have hcz38_0 : wr.cell? ⟨gb134, 0, none⟩ = some (u135000) := (blk_cell BK134.out 0).trans rfl
    have hcz38_1 : wr.cell? ⟨gb134, 1, none⟩ = some (.slice none 0 0) := (blk_cell BK134.out 1).trans rfl
    have hfz38_0 := blk_frozen BK134.out 0
    have hfz38_1 := blk_frozen BK134.out 1
    obtain ⟨Ao39, co39, eo39⟩ := Kd.R_slice HO_135000.out
    subst eo39
    have hnb40 := NB130_129.out
    have hnc40 := NB129_130.out
    have hcz41_0 : wr.cell? ⟨gb130, 0, none⟩ = some (.slice none 0 0) := (blk_cell BK130.out 0).trans rfl
    have hcz41_1 : wr.cell? ⟨gb130, 1, none⟩ = some (.slice none 0 0) := (blk_cell BK130.out 1).trans rfl
    have hfz41_0 := blk_frozen BK130.out 0
    have hfz41_1 := blk_frozen BK130.out 1
    go_wp2
    refine bodyPost_ret (results_cell_row rfl _ _ gb130 26 #[.slice Ao39 x135000_1.length co39, .slice none 0 0] (0, 0) _ rfl (by (with_reducible repeat (first | refine blk_drewN ?_ _ | refine blk_drew ?_ | refine blk_alloc ?_ _)); refine blk_put (cs := #[.slice Ao39 x135000_1.length co39, .slice none 0 0]) ?_ 1 _ rfl; (with_reducible repeat (first | refine blk_drewN ?_ _ | refine blk_drew ?_ | refine blk_alloc ?_ _)); refine blk_put (cs := #[.slice none 0 0, .slice none 0 0]) ?_ 0 _ rfl; (with_reducible repeat (first | refine blk_drewN ?_ _ | refine blk_drew ?_ | refine blk_alloc ?_ _)); exact BK130.out) Try.underlying26 rfl (by kernel_rfl)) rfl ?_
    exact ⟨_, _, by first | rfl | (simp [errW_none, errW_some] <;> rfl) | (simp [*, errW_none, errW_some] <;> rfl), by (with_reducible repeat (first | apply Kd.R_alloc | apply Kd.R_drewN | apply Kd.R_drew)); exact Kd.R_mono (Kd.R_far (p := ⟨gb130, 1, none⟩) (Kd.R_far (p := ⟨gb130, 0, none⟩) (Kd.R_types HO_135000.out BK130.out (by decide)) (fun _ hk => hk.2) (.slice Ao39 x135000_1.length co39)) (fun _ hk => hk.2) (.slice none 0 0)) (fun _ hk => trivial), by first | exact Kd.S_nil _ _ _ _ _ | exact Kd.N_nil _ _ _ _ _ | exact Kd.V_nil _ _ _ _ _ | exact Kd.Q_nil _ _ _ _ _ | exact Kd.R_nil _ _ _ _ _, bw3 HB.out GE129.out GE130.out GE134.out⟩

def impl_Sync.f (k : Nat) (l0_0 : List Int) (l0_1 : List (S34)) : Option (List Int × (List (S34))) := (impl_DiskOk.f k l0_0 l0_1).bind fun t141 => (if t141 = true then ((impl_doneS.f k l0_0 l0_1).bind fun bt142 => (some (bt142.1, bt142.2))) else ((impl_copyDisk.f k l0_0 l0_1).bind fun bt148 => (some (bt148.1, bt148.2))))
set_option maxHeartbeats 8000000 in
set_option maxRecDepth 100000 in
theorem impl_Sync.calls (k : Nat) (A0_0 : Option Addr) (c0_0 : Nat) (l0_0 : List Int) (A0_1 : Option Addr) (c0_1 : Nat) (l0_1 : List (S34)) (r1 : List Int) (r2 : List (S34)) (w : World) (hr0_0 : Kd.C (Kd.int .u8) w A0_0 l0_0.length l0_0) (hc0_0 : l0_0.length ≤ c0_0) (hr0_1 : Kd.C k34 w A0_1 l0_1.length l0_1) (hc0_1 : l0_1.length ≤ c0_1) (h : impl_Sync.f k l0_0 l0_1 = some (r1, r2)) :
  Calls Try.prog 15 #[.agg #[.slice A0_0 l0_0.length c0_0, .slice A0_1 l0_1.length c0_1]] w fun e w' => ∃ v0_ v1_ : Value, e = .returned (.agg #[v0_, v1_]) ∧ Kd.R (Kd.int .u8) 5 w' w.heap.size (fun _ => True) v0_ r1 ∧ Kd.S k34 34 w' w.heap.size (fun k_ => some k_ ≠ (v0_ : Value).ownBlock) v1_ r2 ∧ Below w.heap.size w w' := by
 have hu26 := Try.underlying26
 have HR0_0 := Ak hr0_0
 have HC0_0 := Ak hc0_0
 clear hr0_0 hc0_0
 have HR0_1 := Ak hr0_1
 have HC0_1 := Ak hc0_1
 clear hr0_1 hc0_1
 have HB := Ak (Below.refl w.heap.size w)
 have H : ((impl_DiskOk.f k l0_0 l0_1).bind fun t141 => (if t141 = true then ((impl_doneS.f k l0_0 l0_1).bind fun bt142 => (some (bt142.1, bt142.2))) else ((impl_copyDisk.f k l0_0 l0_1).bind fun bt148 => (some (bt148.1, bt148.2))))) = some (r1, r2) := h
 clear h
 replace H := Option.bind_eq_some_iff.mp H
 obtain ⟨t141, A20, H⟩ := H
 replace H : (if t141 = true then ((impl_doneS.f k l0_0 l0_1).bind fun bt142 => (some (bt142.1, bt142.2))) else ((impl_copyDisk.f k l0_0 l0_1).bind fun bt148 => (some (bt148.1, bt148.2)))) = some (r1, r2) := H
 have A2 := Ak A20
 clear A20
 by_cases c3 : t141 = true
 ·subst c3
  have H1 : ((impl_doneS.f k l0_0 l0_1).bind fun bt142 => (some (bt142.1, bt142.2))) = some (r1, r2) := by rw [if_pos rfl] at H; exact H
  clear H
  have H := H1
  clear H1
  replace H := Option.bind_eq_some_iff.mp H
  obtain ⟨⟨t142, t145⟩, A40, H⟩ := H
  replace H : (some (t142, t145)) = some (r1, r2) := H
  have A4 := Ak A40
  clear A40
  simp only [Option.some.injEq, Prod.mk.injEq] at H
  obtain ⟨rfl, rfl⟩ := H
  go_enter Try.func15, Try.ntmps15
  go_wp2_with (first | ((with_reducible refine gate_dst (N := 1) rfl ?_); refine box_event ?hg (N := 1) ?hd (cs := #[.slice A0_0 l0_0.length c0_0, .slice A0_1 l0_1.length c0_1]) (t := 26) ?hr ?_; (case hd => rfl); (case hg => rfl); (case hr => first | (go_simp; done) | (go_simp; rfl)); intro gb139 hg w5 hbox hb; have n0_ := Ak (below_step (bw HB.out) hb); have n1_ := Ak (hbox); have n2_ := Ak ((by rw [hg]; exact (below_size (bw HB.out)) : w.heap.size ≤ gb139)); have n3_ := Ak ((by rw [hg]; exact (below_size (bw HB.out)) : w.heap.size ≤ gb139)); clear HB; have HB := n0_; have BK139 := n1_; have GW139 := n2_; have GE139 := n3_; clear n0_ n1_ n2_ n3_; clear hb hbox hg) | ((with_reducible refine gate_dst (N := 2) rfl ?_); refine box_event ?hg (N := 2) ?hd (cs := #[.slice none 0 0, .slice none 0 0]) (t := 26) ?hr ?_; (case hd => rfl); (case hg => rfl); (case hr => first | (go_simp; done) | (go_simp; rfl)); intro gb140 hg w6 hbox hb; have n0_ := Ak (blk_below (g := gb139) (o := .cells #[.slice A0_0 l0_0.length c0_0, .slice A0_1 l0_1.length c0_1] 26 (0, 0)) (bq BK139.out) hb); have n1_ := Ak (below_step (bw1 HB.out GE139.out) hb); have n2_ := Ak (hbox); have n3_ := Ak ((by rw [hg]; exact (below_size (bw1 HB.out GE139.out)) : w.heap.size ≤ gb140)); have n4_ := Ak ((by rw [hg]; exact (below_size (bw1 HB.out GE139.out)) : w.heap.size ≤ gb140)); have n5_ := Ak ((by rw [hg]; exact Nat.ne_of_lt (blk_lt (g := gb139) (o := .cells #[.slice A0_0 l0_0.length c0_0, .slice A0_1 l0_1.length c0_1] 26 (0, 0)) (bq BK139.out)) : gb139 ≠ gb140)); have n6_ := Ak ((by rw [hg]; exact Nat.ne_of_gt (blk_lt (g := gb139) (o := .cells #[.slice A0_0 l0_0.length c0_0, .slice A0_1 l0_1.length c0_1] 26 (0, 0)) (bq BK139.out)) : gb140 ≠ gb139)); clear BK139; clear HB; have BK139 := n0_; have HB := n1_; have BK140 := n2_; have GW140 := n3_; have GE140 := n4_; have NB139_140 := n5_; have NB140_139 := n6_; clear n0_ n1_ n2_ n3_ n4_ n5_ n6_; clear hb hbox hg; have hnb7 := NB139_140.out; have hnc7 := NB140_139.out; have hcz8_0 : w6.cell? ⟨gb139, 0, none⟩ = some (.slice A0_0 l0_0.length c0_0) := (blk_cell BK139.out 0).trans rfl; have hcz8_1 : w6.cell? ⟨gb139, 1, none⟩ = some (.slice A0_1 l0_1.length c0_1) := (blk_cell BK139.out 1).trans rfl; have hfz8_0 := blk_frozen BK139.out 0; have hfz8_1 := blk_frozen BK139.out 1) | ((with_reducible refine gate_callee (f := 14) rfl ?_); refine goesL_ (some 4) rfl rfl Try.func14 (by kernel_rfl) rfl #[.agg #[.slice A0_0 l0_0.length c0_0, .slice A0_1 l0_1.length c0_1]] rfl gm ?_; (with_reducible refine (impl_DiskOk.calls k _ _ l0_0 _ _ l0_1 true _ ?side1 ?side2 ?side3 ?side4 A2.out).mono ?_); (case side1 => repeat (first | exact (Kd.C_below HR0_0.out HB.out) | (with_reducible refine Kd.C_alloc ?_ _) | (with_reducible refine Kd.C_drewN ?_ _) | (with_reducible refine Kd.C_drew ?_))); (case side2 => exact HC0_0.out); (case side3 => repeat (first | exact (Kd.C_below HR0_1.out HB.out) | (with_reducible refine Kd.C_alloc ?_ _) | (with_reducible refine Kd.C_drewN ?_ _) | (with_reducible refine Kd.C_drew ?_))); (case side4 => exact HC0_1.out); rintro e w9 ⟨rfl, hb⟩; refine ⟨_, rfl, ?_⟩; have n0_ := Ak (blk_below (g := gb139) (o := .cells #[.slice A0_0 l0_0.length c0_0, .slice A0_1 l0_1.length c0_1] 26 (0, 0)) (bq BK139.out) hb); have n1_ := Ak (blk_below (g := gb140) (o := .cells #[.slice none 0 0, .slice none 0 0] 26 (0, 0)) (bq BK140.out) hb); have n2_ := Ak (below_step (bw2 HB.out GE139.out GE140.out) hb); clear BK139; clear BK140; clear HB; have BK139 := n0_; have BK140 := n1_; have HB := n2_; clear n0_ n1_ n2_; have hcz10_0 : w9.cell? ⟨gb139, 0, none⟩ = some (.slice A0_0 l0_0.length c0_0) := (blk_cell BK139.out 0).trans rfl; have hcz10_1 : w9.cell? ⟨gb139, 1, none⟩ = some (.slice A0_1 l0_1.length c0_1) := (blk_cell BK139.out 1).trans rfl; have hfz10_0 := blk_frozen BK139.out 0; have hfz10_1 := blk_frozen BK139.out 1) | ((with_reducible refine gate_callee (f := 63) rfl ?_); refine goesL_ (some 9) rfl rfl Try.func63 (by kernel_rfl) rfl #[.agg #[.slice A0_0 l0_0.length c0_0, .slice A0_1 l0_1.length c0_1], .func (.func 64) #[] #[]] rfl gm ?_; (with_reducible refine (impl_doneS.calls k _ _ l0_0 _ _ l0_1 t142 t145 _ ?side1 ?side2 ?side3 ?side4 A4.out).mono ?_); (case side1 => repeat (first | exact (Kd.C_below HR0_0.out HB.out) | (with_reducible refine Kd.C_alloc ?_ _) | (with_reducible refine Kd.C_drewN ?_ _) | (with_reducible refine Kd.C_drew ?_))); (case side2 => exact HC0_0.out); (case side3 => repeat (first | exact (Kd.C_below HR0_1.out HB.out) | (with_reducible refine Kd.C_alloc ?_ _) | (with_reducible refine Kd.C_drewN ?_ _) | (with_reducible refine Kd.C_drew ?_))); (case side4 => exact HC0_1.out); rintro e w11 ⟨v143, v146, rfl, ho0, ho1, hb⟩; refine ⟨_, rfl, ?_⟩; have n0_ := Ak (Kd.R_lower ho0 (below_size (bw2 HB.out GE139.out GE140.out))); have n1_ := Ak (Kd.S_lower ho1 (below_size (bw2 HB.out GE139.out GE140.out))); have n2_ := Ak (blk_below (g := gb139) (o := .cells #[.slice A0_0 l0_0.length c0_0, .slice A0_1 l0_1.length c0_1] 26 (0, 0)) (bq BK139.out) hb); have n3_ := Ak (blk_below (g := gb140) (o := .cells #[.slice none 0 0, .slice none 0 0] 26 (0, 0)) (bq BK140.out) hb); have n4_ := Ak (below_step (bw2 HB.out GE139.out GE140.out) hb); clear BK139; clear BK140; clear HB; have HO144 := n0_; have HO147 := n1_; have BK139 := n2_; have BK140 := n3_; have HB := n4_; clear n0_ n1_ n2_ n3_ n4_; obtain ⟨Ao12, co12, eo12⟩ := Kd.R_slice HO144.out; subst eo12; have hcz13_0 : w11.cell? ⟨gb140, 0, none⟩ = some (.slice none 0 0) := (blk_cell BK140.out 0).trans rfl; have hcz13_1 : w11.cell? ⟨gb140, 1, none⟩ = some (.slice none 0 0) := (blk_cell BK140.out 1).trans rfl; have hfz13_0 := blk_frozen BK140.out 0; have hfz13_1 := blk_frozen BK140.out 1; obtain ⟨Ao14, co14, eo14⟩ := Kd.S_slice HO147.out; subst eo14))
  refine bodyPost_ret (results_cell_row rfl _ _ gb140 26 #[.slice Ao12 t142.length co12, .slice Ao14 t145.length co14] (0, 0) _ rfl (by (with_reducible repeat (first | refine blk_drewN ?_ _ | refine blk_drew ?_ | refine blk_alloc ?_ _)); refine blk_put (cs := #[.slice Ao12 t142.length co12, .slice none 0 0]) ?_ 1 _ rfl; (with_reducible repeat (first | refine blk_drewN ?_ _ | refine blk_drew ?_ | refine blk_alloc ?_ _)); refine blk_put (cs := #[.slice none 0 0, .slice none 0 0]) ?_ 0 _ rfl; (with_reducible repeat (first | refine blk_drewN ?_ _ | refine blk_drew ?_ | refine blk_alloc ?_ _)); exact BK140.out) Try.underlying26 rfl (by kernel_rfl)) rfl ?_
  exact ⟨_, _, by first | rfl | (simp [errW_none, errW_some] <;> rfl) | (simp [*, errW_none, errW_some] <;> rfl), by (with_reducible repeat (first | apply Kd.R_alloc | apply Kd.R_drewN | apply Kd.R_drew)); exact Kd.R_mono (Kd.R_far (p := ⟨gb140, 1, none⟩) (Kd.R_far (p := ⟨gb140, 0, none⟩) (Kd.R_types HO144.out BK140.out (by decide)) (fun _ hk => hk.2) (.slice Ao12 t142.length co12)) (fun _ hk => hk.2) (.slice Ao14 t145.length co14)) (fun _ hk => trivial), by (with_reducible repeat (first | apply Kd.S_alloc | apply Kd.S_drewN | apply Kd.S_drew)); exact Kd.S_mono (Kd.S_far (p := ⟨gb140, 1, none⟩) (Kd.S_far (p := ⟨gb140, 0, none⟩) (Kd.S_types HO147.out BK140.out (by decide)) (fun _ hk => hk.2) (.slice Ao12 t142.length co12)) (fun _ hk => hk.2) (.slice Ao14 t145.length co14)) (fun _ hk => hk.1), bw2 HB.out GE139.out GE140.out⟩
 ·replace c3 := Bool.eq_false_iff.mpr c3
  subst c3
  have H1 : ((impl_copyDisk.f k l0_0 l0_1).bind fun bt148 => (some (bt148.1, bt148.2))) = some (r1, r2) := by rw [if_neg (show ¬ (false = true) by decide)] at H; exact H
  clear H
  have H := H1
  clear H1
  replace H := Option.bind_eq_some_iff.mp H
  obtain ⟨⟨t148, t151⟩, A150, H⟩ := H
  replace H : (some (t148, t151)) = some (r1, r2) := H
  have A15 := Ak A150
  clear A150
  simp only [Option.some.injEq, Prod.mk.injEq] at H
  obtain ⟨rfl, rfl⟩ := H
  go_enter Try.func15, Try.ntmps15
  go_wp2_with (first | ((with_reducible refine gate_dst (N := 1) rfl ?_); refine box_event ?hg (N := 1) ?hd (cs := #[.slice A0_0 l0_0.length c0_0, .slice A0_1 l0_1.length c0_1]) (t := 26) ?hr ?_; (case hd => rfl); (case hg => rfl); (case hr => first | (go_simp; done) | (go_simp; rfl)); intro gb139 hg w16 hbox hb; have n0_ := Ak (below_step (bw HB.out) hb); have n1_ := Ak (hbox); have n2_ := Ak ((by rw [hg]; exact (below_size (bw HB.out)) : w.heap.size ≤ gb139)); have n3_ := Ak ((by rw [hg]; exact (below_size (bw HB.out)) : w.heap.size ≤ gb139)); clear HB; have HB := n0_; have BK139 := n1_; have GW139 := n2_; have GE139 := n3_; clear n0_ n1_ n2_ n3_; clear hb hbox hg) | ((with_reducible refine gate_dst (N := 2) rfl ?_); refine box_event ?hg (N := 2) ?hd (cs := #[.slice none 0 0, .slice none 0 0]) (t := 26) ?hr ?_; (case hd => rfl); (case hg => rfl); (case hr => first | (go_simp; done) | (go_simp; rfl)); intro gb140 hg w17 hbox hb; have n0_ := Ak (blk_below (g := gb139) (o := .cells #[.slice A0_0 l0_0.length c0_0, .slice A0_1 l0_1.length c0_1] 26 (0, 0)) (bq BK139.out) hb); have n1_ := Ak (below_step (bw1 HB.out GE139.out) hb); have n2_ := Ak (hbox); have n3_ := Ak ((by rw [hg]; exact (below_size (bw1 HB.out GE139.out)) : w.heap.size ≤ gb140)); have n4_ := Ak ((by rw [hg]; exact (below_size (bw1 HB.out GE139.out)) : w.heap.size ≤ gb140)); have n5_ := Ak ((by rw [hg]; exact Nat.ne_of_lt (blk_lt (g := gb139) (o := .cells #[.slice A0_0 l0_0.length c0_0, .slice A0_1 l0_1.length c0_1] 26 (0, 0)) (bq BK139.out)) : gb139 ≠ gb140)); have n6_ := Ak ((by rw [hg]; exact Nat.ne_of_gt (blk_lt (g := gb139) (o := .cells #[.slice A0_0 l0_0.length c0_0, .slice A0_1 l0_1.length c0_1] 26 (0, 0)) (bq BK139.out)) : gb140 ≠ gb139)); clear BK139; clear HB; have BK139 := n0_; have HB := n1_; have BK140 := n2_; have GW140 := n3_; have GE140 := n4_; have NB139_140 := n5_; have NB140_139 := n6_; clear n0_ n1_ n2_ n3_ n4_ n5_ n6_; clear hb hbox hg; have hnb18 := NB139_140.out; have hnc18 := NB140_139.out; have hcz19_0 : w17.cell? ⟨gb139, 0, none⟩ = some (.slice A0_0 l0_0.length c0_0) := (blk_cell BK139.out 0).trans rfl; have hcz19_1 : w17.cell? ⟨gb139, 1, none⟩ = some (.slice A0_1 l0_1.length c0_1) := (blk_cell BK139.out 1).trans rfl; have hfz19_0 := blk_frozen BK139.out 0; have hfz19_1 := blk_frozen BK139.out 1) | ((with_reducible refine gate_callee (f := 14) rfl ?_); refine goesL_ (some 4) rfl rfl Try.func14 (by kernel_rfl) rfl #[.agg #[.slice A0_0 l0_0.length c0_0, .slice A0_1 l0_1.length c0_1]] rfl gm ?_; (with_reducible refine (impl_DiskOk.calls k _ _ l0_0 _ _ l0_1 false _ ?side1 ?side2 ?side3 ?side4 A2.out).mono ?_); (case side1 => repeat (first | exact (Kd.C_below HR0_0.out HB.out) | (with_reducible refine Kd.C_alloc ?_ _) | (with_reducible refine Kd.C_drewN ?_ _) | (with_reducible refine Kd.C_drew ?_))); (case side2 => exact HC0_0.out); (case side3 => repeat (first | exact (Kd.C_below HR0_1.out HB.out) | (with_reducible refine Kd.C_alloc ?_ _) | (with_reducible refine Kd.C_drewN ?_ _) | (with_reducible refine Kd.C_drew ?_))); (case side4 => exact HC0_1.out); rintro e w20 ⟨rfl, hb⟩; refine ⟨_, rfl, ?_⟩; have n0_ := Ak (blk_below (g := gb139) (o := .cells #[.slice A0_0 l0_0.length c0_0, .slice A0_1 l0_1.length c0_1] 26 (0, 0)) (bq BK139.out) hb); have n1_ := Ak (blk_below (g := gb140) (o := .cells #[.slice none 0 0, .slice none 0 0] 26 (0, 0)) (bq BK140.out) hb); have n2_ := Ak (below_step (bw2 HB.out GE139.out GE140.out) hb); clear BK139; clear BK140; clear HB; have BK139 := n0_; have BK140 := n1_; have HB := n2_; clear n0_ n1_ n2_; have hcz21_0 : w20.cell? ⟨gb139, 0, none⟩ = some (.slice A0_0 l0_0.length c0_0) := (blk_cell BK139.out 0).trans rfl; have hcz21_1 : w20.cell? ⟨gb139, 1, none⟩ = some (.slice A0_1 l0_1.length c0_1) := (blk_cell BK139.out 1).trans rfl; have hfz21_0 := blk_frozen BK139.out 0; have hfz21_1 := blk_frozen BK139.out 1) | ((with_reducible refine gate_callee (f := 62) rfl ?_); refine goesL_ (some 7) rfl rfl Try.func62 (by kernel_rfl) rfl #[.agg #[.slice A0_0 l0_0.length c0_0, .slice A0_1 l0_1.length c0_1]] rfl gm ?_; (with_reducible refine (impl_copyDisk.calls k _ _ l0_0 _ _ l0_1 t148 t151 _ ?side1 ?side2 ?side3 ?side4 A15.out).mono ?_); (case side1 => repeat (first | exact (Kd.C_below HR0_0.out HB.out) | (with_reducible refine Kd.C_alloc ?_ _) | (with_reducible refine Kd.C_drewN ?_ _) | (with_reducible refine Kd.C_drew ?_))); (case side2 => exact HC0_0.out); (case side3 => repeat (first | exact (Kd.C_below HR0_1.out HB.out) | (with_reducible refine Kd.C_alloc ?_ _) | (with_reducible refine Kd.C_drewN ?_ _) | (with_reducible refine Kd.C_drew ?_))); (case side4 => exact HC0_1.out); rintro e w22 ⟨v149, v152, rfl, ho0, ho1, hb⟩; refine ⟨_, rfl, ?_⟩; have n0_ := Ak (Kd.R_lower ho0 (below_size (bw2 HB.out GE139.out GE140.out))); have n1_ := Ak (Kd.S_lower ho1 (below_size (bw2 HB.out GE139.out GE140.out))); have n2_ := Ak (blk_below (g := gb139) (o := .cells #[.slice A0_0 l0_0.length c0_0, .slice A0_1 l0_1.length c0_1] 26 (0, 0)) (bq BK139.out) hb); have n3_ := Ak (blk_below (g := gb140) (o := .cells #[.slice none 0 0, .slice none 0 0] 26 (0, 0)) (bq BK140.out) hb); have n4_ := Ak (below_step (bw2 HB.out GE139.out GE140.out) hb); clear BK139; clear BK140; clear HB; have HO150 := n0_; have HO153 := n1_; have BK139 := n2_; have BK140 := n3_; have HB := n4_; clear n0_ n1_ n2_ n3_ n4_; obtain ⟨Ao23, co23, eo23⟩ := Kd.R_slice HO150.out; subst eo23; have hcz24_0 : w22.cell? ⟨gb140, 0, none⟩ = some (.slice none 0 0) := (blk_cell BK140.out 0).trans rfl; have hcz24_1 : w22.cell? ⟨gb140, 1, none⟩ = some (.slice none 0 0) := (blk_cell BK140.out 1).trans rfl; have hfz24_0 := blk_frozen BK140.out 0; have hfz24_1 := blk_frozen BK140.out 1; obtain ⟨Ao25, co25, eo25⟩ := Kd.S_slice HO153.out; subst eo25))
  refine bodyPost_ret (results_cell_row rfl _ _ gb140 26 #[.slice Ao23 t148.length co23, .slice Ao25 t151.length co25] (0, 0) _ rfl (by (with_reducible repeat (first | refine blk_drewN ?_ _ | refine blk_drew ?_ | refine blk_alloc ?_ _)); refine blk_put (cs := #[.slice Ao23 t148.length co23, .slice none 0 0]) ?_ 1 _ rfl; (with_reducible repeat (first | refine blk_drewN ?_ _ | refine blk_drew ?_ | refine blk_alloc ?_ _)); refine blk_put (cs := #[.slice none 0 0, .slice none 0 0]) ?_ 0 _ rfl; (with_reducible repeat (first | refine blk_drewN ?_ _ | refine blk_drew ?_ | refine blk_alloc ?_ _)); exact BK140.out) Try.underlying26 rfl (by kernel_rfl)) rfl ?_
  exact ⟨_, _, by first | rfl | (simp [errW_none, errW_some] <;> rfl) | (simp [*, errW_none, errW_some] <;> rfl), by (with_reducible repeat (first | apply Kd.R_alloc | apply Kd.R_drewN | apply Kd.R_drew)); exact Kd.R_mono (Kd.R_far (p := ⟨gb140, 1, none⟩) (Kd.R_far (p := ⟨gb140, 0, none⟩) (Kd.R_types HO150.out BK140.out (by decide)) (fun _ hk => hk.2) (.slice Ao23 t148.length co23)) (fun _ hk => hk.2) (.slice Ao25 t151.length co25)) (fun _ hk => trivial), by (with_reducible repeat (first | apply Kd.S_alloc | apply Kd.S_drewN | apply Kd.S_drew)); exact Kd.S_mono (Kd.S_far (p := ⟨gb140, 1, none⟩) (Kd.S_far (p := ⟨gb140, 0, none⟩) (Kd.S_types HO153.out BK140.out (by decide)) (fun _ hk => hk.2) (.slice Ao23 t148.length co23)) (fun _ hk => hk.2) (.slice Ao25 t151.length co25)) (fun _ hk => hk.1), bw2 HB.out GE139.out GE140.out⟩

end Go.Proofs.Ytinilabmffjnaaa.PFnDisk
