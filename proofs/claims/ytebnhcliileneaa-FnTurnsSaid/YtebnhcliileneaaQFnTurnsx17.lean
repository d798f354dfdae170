/- The functions that the law FnTurns reaches, each with what it computes and its contract. -/
import Derived.Test.YtebnhcliileneaaQFnTurnsx0
import Derived.Test.YtebnhcliileneaaQFnTurnsx10
import Derived.Test.YtebnhcliileneaaQFnTurnsx11
import Derived.Test.YtebnhcliileneaaQFnTurnsx13
import Derived.Test.YtebnhcliileneaaQFnTurnsx16
namespace Go.Proofs.Ytebnhcliileneaa.PFnTurns
open Go.RowKit Go.Proofs.YtebnhcliileneaaW.PrintWords Go.Proofs.YtebnhcliileneaaW.PrintLast Go.Proofs.YtebnhcliileneaaW.PrintMore
attribute [local go_sem] max2_int min2_int max_two min_two max_three min_three max_four min_four   -- for this text's walks alone
set_option linter.unusedVariables false
set_option linter.unusedSimpArgs false

/-! ### spec_l3Four: function 103 -/
def spec_l3Four.f (k : Nat) (s0_0 : List Int) (s0_1 : Int) (s0_2 : Int) : Option (Int × Int × Int × Int × Int × Int × Int × Int × Int × Int) := (spec_l3Draw.f k s0_0 s0_1 s0_2).bind fun bt185 => ((spec_l3Draw.f k s0_0 bt185.2.2.1 bt185.2.2.2).bind fun bt190 => ((spec_l3Draw.f k s0_0 bt190.2.2.1 bt190.2.2.2).bind fun bt195 => ((spec_l3Draw.f k s0_0 bt195.2.2.1 bt195.2.2.2).bind fun bt200 => ((spec_l1Below.f s0_0 bt200.2.2.1 bt200.2.2.2 8).bind fun bt205 => (if bt205.1 = 0 then (some (bt185.1, bt185.2.1, bt190.1, bt190.2.1, bt185.1, bt185.2.1, bt200.1, bt200.2.1, bt205.2.1, bt205.2.2)) else (if bt205.1 = 1 then (some (bt185.1, bt185.2.1, bt185.1, bt185.2.1, bt195.1, bt195.2.1, bt200.1, bt200.2.1, bt205.2.1, bt205.2.2)) else (if bt205.1 = 2 then ((spec_l3Pt.f bt185.1 bt185.2.1).bind fun bt208 => ((spec_l3Pt.f bt190.1 bt190.2.1).bind fun bt210 => ((spec_l3Pt.f bt185.1 bt185.2.1).bind fun bt212 => ((spec_l3Pt.f bt190.1 bt190.2.1).bind fun bt214 => (some (bt185.1, bt185.2.1, bt190.1, bt190.2.1, wrap64 ((wrap64 (Int.tdiv bt208.1 2)) + (wrap64 (Int.tdiv bt210.1 2))), wrap64 ((wrap64 (Int.tdiv bt212.2 2)) + (wrap64 (Int.tdiv bt214.2 2))), bt200.1, bt200.2.1, bt205.2.1, bt205.2.2)))))) else (some (bt185.1, bt185.2.1, bt190.1, bt190.2.1, bt195.1, bt195.2.1, bt200.1, bt200.2.1, bt205.2.1, bt205.2.2)))))))))
theorem spec_l3Four.mono : ∀ a0 a1 a2 k, LeO (spec_l3Four.f k a0 a1 a2) (spec_l3Four.f (k + 1) a0 a1 a2) := by
  intro a0 a1 a2 k
  unfold spec_l3Four.f
  repeat' first
      | (with_reducible exact spec_l3Draw.mono _ _ _ _)
      | (with_reducible exact LeO.refl _)
      | (with_reducible exact LeO.none _)
      | (with_reducible refine LeO.ite ?_ ?_)
      | (with_reducible refine LeO.bind ?_ (fun _ => ?_))
      | exact spec_l3Draw.mono _ _ _ _
      | exact LeO.none _
      | refine LeO.ite ?_ ?_
      | refine LeO.bind ?_ (fun _ => ?_)
def spec_l3Four.T11 : Bool × List (List Nat × List Nat) := (true, [([], []), ([0], [0]), ([1], [1]), ([2], [2]), ([], []), ([4, 1], [4]), ([5], [5]), ([6], [6]), ([3, 7], [3, 7]), ([], []), ([9, 5], [9]), ([10], [10]), ([11], [11]), ([], []), ([13, 10], [13]), ([14], [14]), ([15], [15]), ([12, 16], [12, 16]), ([8, 17], [8, 17]), ([18, 14, 0, 1, 2, 3, 4, 5, 6, 7, 8, 9, 10, 11, 12, 13, 14, 15, 16, 17, 18], [18])])
def spec_l3Four.B11 : List Nat := [0, 1, 3, 7, 0, 19, 51, 115, 255, 0, 563, 1587, 3635, 0, 9779, 26163, 58931, 130611, 262143, 524287]
theorem spec_l3Four.tab11 : rtab .any (opsOf Try.f103 11) = spec_l3Four.T11 := by kernel_rfl
theorem spec_l3Four.bits11 : waitsOk spec_l3Four.T11.2 spec_l3Four.B11 = true := by kernel_rfl
def spec_l3Four.T12 : Bool × List (List Nat × List Nat) := (true, [([], []), ([], []), ([], []), ([], []), ([0, 0], [0]), ([1, 4, 0, 1, 4], [1]), ([2, 5, 0, 1, 2, 4, 5], [2]), ([3, 6, 0, 1, 2, 3, 4, 5, 6], [3])])
def spec_l3Four.B12 : List Nat := [0, 0, 0, 0, 1, 19, 55, 127]
theorem spec_l3Four.tab12 : rtab .any (opsOf Try.f103 12) = spec_l3Four.T12 := by kernel_rfl
theorem spec_l3Four.bits12 : waitsOk spec_l3Four.T12.2 spec_l3Four.B12 = true := by kernel_rfl
set_option maxHeartbeats 40000000 in
set_option maxRecDepth 100000 in
theorem spec_l3Four.calls (k : Nat) (g : Nat) (s0_0 : List Int) (s0_1 : Int) (s0_2 : Int) (r1 : Int) (r2 : Int) (r3 : Int) (r4 : Int) (r5 : Int) (r6 : Int) (r7 : Int) (r8 : Int) (r9 : Int) (r10 : Int) (w0 w : World) (hI : IsS127 w0 w g s0_0 s0_1 s0_2) (hB : Below w0.heap.size w0 w) (h : spec_l3Four.f k s0_0 s0_1 s0_2 = some (r1, r2, r3, r4, r5, r6, r7, r8, r9, r10)) :
    Calls Try.prog 103 #[.pointer (some ⟨g, 0, none⟩)] w fun e w' => e = .returned (.tuple #[.agg #[.int .i64 r1, .int .i64 r2], .agg #[.int .i64 r3, .int .i64 r4], .agg #[.int .i64 r5, .int .i64 r6], .agg #[.int .i64 r7, .int .i64 r8]]) ∧ IsS127 w0 w' g s0_0 r9 r10 ∧ Below w0.heap.size w0 w' ∧ KeepBut w w' g none := by
  have hu32 := Try.underlying32
  have hfd0 : ∀ (a b : Int) (w : World), Sem.run Try.prog (Instr.field 32 (.agg #[.int .i64 a, .int .i64 b]) 0) w = .ok (.int .i64 a) w := fun _ _ _ => by kernel_rfl
  have hfd1 : ∀ (a b : Int) (w : World), Sem.run Try.prog (Instr.field 32 (.agg #[.int .i64 a, .int .i64 b]) 1) w = .ok (.int .i64 b) w := fun _ _ _ => by kernel_rfl
  have HI0 := Aside0.mk hI
  have HK := Aside0.mk (KeepBut.refl w g none)
  have HL := Aside0.mk hB.size
  clear hI
  have HW0 := Aside0.mk hB.size
  have HB := Aside0.mk hB
  clear hB
  have H : ((spec_l3Draw.f k s0_0 s0_1 s0_2).bind fun bt185 => ((spec_l3Draw.f k s0_0 bt185.2.2.1 bt185.2.2.2).bind fun bt190 => ((spec_l3Draw.f k s0_0 bt190.2.2.1 bt190.2.2.2).bind fun bt195 => ((spec_l3Draw.f k s0_0 bt195.2.2.1 bt195.2.2.2).bind fun bt200 => ((spec_l1Below.f s0_0 bt200.2.2.1 bt200.2.2.2 8).bind fun bt205 => (if bt205.1 = 0 then (some (bt185.1, bt185.2.1, bt190.1, bt190.2.1, bt185.1, bt185.2.1, bt200.1, bt200.2.1, bt205.2.1, bt205.2.2)) else (if bt205.1 = 1 then (some (bt185.1, bt185.2.1, bt185.1, bt185.2.1, bt195.1, bt195.2.1, bt200.1, bt200.2.1, bt205.2.1, bt205.2.2)) else (if bt205.1 = 2 then ((spec_l3Pt.f bt185.1 bt185.2.1).bind fun bt208 => ((spec_l3Pt.f bt190.1 bt190.2.1).bind fun bt210 => ((spec_l3Pt.f bt185.1 bt185.2.1).bind fun bt212 => ((spec_l3Pt.f bt190.1 bt190.2.1).bind fun bt214 => (some (bt185.1, bt185.2.1, bt190.1, bt190.2.1, wrap64 ((wrap64 (Int.tdiv bt208.1 2)) + (wrap64 (Int.tdiv bt210.1 2))), wrap64 ((wrap64 (Int.tdiv bt212.2 2)) + (wrap64 (Int.tdiv bt214.2 2))), bt200.1, bt200.2.1, bt205.2.1, bt205.2.2)))))) else (some (bt185.1, bt185.2.1, bt190.1, bt190.2.1, bt195.1, bt195.2.1, bt200.1, bt200.2.1, bt205.2.1, bt205.2.2)))))))))) = some (r1, r2, r3, r4, r5, r6, r7, r8, r9, r10) := h
  clear h
  replace H := Option.bind_eq_some_iff.mp H
  obtain ⟨⟨t185, t186, t187, t188⟩, A20, H⟩ := H
  replace H : ((spec_l3Draw.f k s0_0 t187 t188).bind fun bt190 => ((spec_l3Draw.f k s0_0 bt190.2.2.1 bt190.2.2.2).bind fun bt195 => ((spec_l3Draw.f k s0_0 bt195.2.2.1 bt195.2.2.2).bind fun bt200 => ((spec_l1Below.f s0_0 bt200.2.2.1 bt200.2.2.2 8).bind fun bt205 => (if bt205.1 = 0 then (some (t185, t186, bt190.1, bt190.2.1, t185, t186, bt200.1, bt200.2.1, bt205.2.1, bt205.2.2)) else (if bt205.1 = 1 then (some (t185, t186, t185, t186, bt195.1, bt195.2.1, bt200.1, bt200.2.1, bt205.2.1, bt205.2.2)) else (if bt205.1 = 2 then ((spec_l3Pt.f t185 t186).bind fun bt208 => ((spec_l3Pt.f bt190.1 bt190.2.1).bind fun bt210 => ((spec_l3Pt.f t185 t186).bind fun bt212 => ((spec_l3Pt.f bt190.1 bt190.2.1).bind fun bt214 => (some (t185, t186, bt190.1, bt190.2.1, wrap64 ((wrap64 (Int.tdiv bt208.1 2)) + (wrap64 (Int.tdiv bt210.1 2))), wrap64 ((wrap64 (Int.tdiv bt212.2 2)) + (wrap64 (Int.tdiv bt214.2 2))), bt200.1, bt200.2.1, bt205.2.1, bt205.2.2)))))) else (some (t185, t186, bt190.1, bt190.2.1, bt195.1, bt195.2.1, bt200.1, bt200.2.1, bt205.2.1, bt205.2.2))))))))) = some (r1, r2, r3, r4, r5, r6, r7, r8, r9, r10) := H
  have A2 := Aside0.mk A20
  clear A20
  replace H := Option.bind_eq_some_iff.mp H
  obtain ⟨⟨t190, t191, t192, t193⟩, A30, H⟩ := H
  replace H : ((spec_l3Draw.f k s0_0 t192 t193).bind fun bt195 => ((spec_l3Draw.f k s0_0 bt195.2.2.1 bt195.2.2.2).bind fun bt200 => ((spec_l1Below.f s0_0 bt200.2.2.1 bt200.2.2.2 8).bind fun bt205 => (if bt205.1 = 0 then (some (t185, t186, t190, t191, t185, t186, bt200.1, bt200.2.1, bt205.2.1, bt205.2.2)) else (if bt205.1 = 1 then (some (t185, t186, t185, t186, bt195.1, bt195.2.1, bt200.1, bt200.2.1, bt205.2.1, bt205.2.2)) else (if bt205.1 = 2 then ((spec_l3Pt.f t185 t186).bind fun bt208 => ((spec_l3Pt.f t190 t191).bind fun bt210 => ((spec_l3Pt.f t185 t186).bind fun bt212 => ((spec_l3Pt.f t190 t191).bind fun bt214 => (some (t185, t186, t190, t191, wrap64 ((wrap64 (Int.tdiv bt208.1 2)) + (wrap64 (Int.tdiv bt210.1 2))), wrap64 ((wrap64 (Int.tdiv bt212.2 2)) + (wrap64 (Int.tdiv bt214.2 2))), bt200.1, bt200.2.1, bt205.2.1, bt205.2.2)))))) else (some (t185, t186, t190, t191, bt195.1, bt195.2.1, bt200.1, bt200.2.1, bt205.2.1, bt205.2.2)))))))) = some (r1, r2, r3, r4, r5, r6, r7, r8, r9, r10) := H
  have A3 := Aside0.mk A30
  clear A30
  replace H := Option.bind_eq_some_iff.mp H
  obtain ⟨⟨t195, t196, t197, t198⟩, A40, H⟩ := H
  replace H : ((spec_l3Draw.f k s0_0 t197 t198).bind fun bt200 => ((spec_l1Below.f s0_0 bt200.2.2.1 bt200.2.2.2 8).bind fun bt205 => (if bt205.1 = 0 then (some (t185, t186, t190, t191, t185, t186, bt200.1, bt200.2.1, bt205.2.1, bt205.2.2)) else (if bt205.1 = 1 then (some (t185, t186, t185, t186, t195, t196, bt200.1, bt200.2.1, bt205.2.1, bt205.2.2)) else (if bt205.1 = 2 then ((spec_l3Pt.f t185 t186).bind fun bt208 => ((spec_l3Pt.f t190 t191).bind fun bt210 => ((spec_l3Pt.f t185 t186).bind fun bt212 => ((spec_l3Pt.f t190 t191).bind fun bt214 => (some (t185, t186, t190, t191, wrap64 ((wrap64 (Int.tdiv bt208.1 2)) + (wrap64 (Int.tdiv bt210.1 2))), wrap64 ((wrap64 (Int.tdiv bt212.2 2)) + (wrap64 (Int.tdiv bt214.2 2))), bt200.1, bt200.2.1, bt205.2.1, bt205.2.2)))))) else (some (t185, t186, t190, t191, t195, t196, bt200.1, bt200.2.1, bt205.2.1, bt205.2.2))))))) = some (r1, r2, r3, r4, r5, r6, r7, r8, r9, r10) := H
  have A4 := Aside0.mk A40
  clear A40
  replace H := Option.bind_eq_some_iff.mp H
  obtain ⟨⟨t200, t201, t202, t203⟩, A50, H⟩ := H
  replace H : ((spec_l1Below.f s0_0 t202 t203 8).bind fun bt205 => (if bt205.1 = 0 then (some (t185, t186, t190, t191, t185, t186, t200, t201, bt205.2.1, bt205.2.2)) else (if bt205.1 = 1 then (some (t185, t186, t185, t186, t195, t196, t200, t201, bt205.2.1, bt205.2.2)) else (if bt205.1 = 2 then ((spec_l3Pt.f t185 t186).bind fun bt208 => ((spec_l3Pt.f t190 t191).bind fun bt210 => ((spec_l3Pt.f t185 t186).bind fun bt212 => ((spec_l3Pt.f t190 t191).bind fun bt214 => (some (t185, t186, t190, t191, wrap64 ((wrap64 (Int.tdiv bt208.1 2)) + (wrap64 (Int.tdiv bt210.1 2))), wrap64 ((wrap64 (Int.tdiv bt212.2 2)) + (wrap64 (Int.tdiv bt214.2 2))), t200, t201, bt205.2.1, bt205.2.2)))))) else (some (t185, t186, t190, t191, t195, t196, t200, t201, bt205.2.1, bt205.2.2)))))) = some (r1, r2, r3, r4, r5, r6, r7, r8, r9, r10) := H
  have A5 := Aside0.mk A50
  clear A50
  replace H := Option.bind_eq_some_iff.mp H
  obtain ⟨⟨t205, t206, t207⟩, A60, H⟩ := H
  replace H : (if t205 = 0 then (some (t185, t186, t190, t191, t185, t186, t200, t201, t206, t207)) else (if t205 = 1 then (some (t185, t186, t185, t186, t195, t196, t200, t201, t206, t207)) else (if t205 = 2 then ((spec_l3Pt.f t185 t186).bind fun bt208 => ((spec_l3Pt.f t190 t191).bind fun bt210 => ((spec_l3Pt.f t185 t186).bind fun bt212 => ((spec_l3Pt.f t190 t191).bind fun bt214 => (some (t185, t186, t190, t191, wrap64 ((wrap64 (Int.tdiv bt208.1 2)) + (wrap64 (Int.tdiv bt210.1 2))), wrap64 ((wrap64 (Int.tdiv bt212.2 2)) + (wrap64 (Int.tdiv bt214.2 2))), t200, t201, t206, t207)))))) else (some (t185, t186, t190, t191, t195, t196, t200, t201, t206, t207))))) = some (r1, r2, r3, r4, r5, r6, r7, r8, r9, r10) := H
  have A6 := Aside0.mk A60
  clear A60
  go_enter Try.func103, Try.ntmps103
  try go_wp2_with (first | ((with_reducible refine gate_dst (N := 2) rfl ?_); refine box_event ?hg (N := 2) ?hd (cs := #[.int .i64 0, .int .i64 0]) (t := 32) ?hr ?_; (case hd => rfl); (case hg => rfl); (case hr => first | (go_simp; done) | (go_simp; rfl)); intro gb181 hg w8 hbox hb; have n0_ := Aside0.mk (IsS127.below (by repeat (first | (with_reducible first | exact HI0.out | apply IsS127.alloc | apply IsS127.drewN | apply IsS127.drew | apply IsS127.set_1 | apply IsS127.set_2) | exact HI0.out)) hb); have n1_ := Aside0.mk (KeepBut.trans (by repeat (first | (with_reducible first | exact HK.out | apply KeepBut.set_ | apply keep_drewN | apply keep_drew | apply keep_alloc) | exact HK.out)) (KeepBut.of_below hb g none) (.inl rfl)); have n2_ := Aside0.mk (below_step (by repeat (first | (with_reducible first | exact HB.out | apply below_alloc | apply pw_below_drewN | apply below_drew1 | refine below_set ?_ (IsS127.ge HI0.out)) | exact HB.out)) hb); have n3_ := Aside0.mk (hbox); have n4_ := Aside0.mk ((by rw [hg]; exact (keep_size (w := w) (g := g) (row := none) (by repeat (first | (with_reducible first | exact HK.out | apply KeepBut.set_ | apply keep_drewN | apply keep_drew | apply keep_alloc) | exact HK.out))) : w.heap.size ≤ gb181)); have n5_ := Aside0.mk ((Nat.le_trans HW0.out (by rw [hg]; exact (keep_size (w := w) (g := g) (row := none) (by repeat (first | (with_reducible first | exact HK.out | apply KeepBut.set_ | apply keep_drewN | apply keep_drew | apply keep_alloc) | exact HK.out))) : w.heap.size ≤ gb181) : w0.heap.size ≤ gb181)); have n6_ := Aside0.mk ((by rw [hg]; exact Nat.ne_of_lt (IsS127.lt (show IsS127 w0 _ g s0_0 s0_1 s0_2 from by repeat (first | (with_reducible first | exact HI0.out | apply IsS127.alloc | apply IsS127.drewN | apply IsS127.drew | apply IsS127.set_1 | apply IsS127.set_2) | exact HI0.out))) : g ≠ gb181)); have n7_ := Aside0.mk ((by rw [hg]; exact Nat.ne_of_gt (IsS127.lt (show IsS127 w0 _ g s0_0 s0_1 s0_2 from by repeat (first | (with_reducible first | exact HI0.out | apply IsS127.alloc | apply IsS127.drewN | apply IsS127.drew | apply IsS127.set_1 | apply IsS127.set_2) | exact HI0.out))) : gb181 ≠ g)); clear HI0; clear HK; clear HB; have HI0 := n0_; have HK := n1_; have HB := n2_; have BK181 := n3_; have GW181 := n4_; have GE181 := n5_; have NB0_181 := n6_; have NB181_0 := n7_; clear n0_ n1_ n2_ n3_ n4_ n5_ n6_ n7_; clear hb hbox hg) | ((with_reducible refine gate_dst (N := 3) rfl ?_); refine box_event ?hg (N := 3) ?hd (cs := #[.int .i64 0, .int .i64 0]) (t := 32) ?hr ?_; (case hd => rfl); (case hg => rfl); (case hr => first | (go_simp; done) | (go_simp; rfl)); intro gb182 hg w9 hbox hb; have n0_ := Aside0.mk (IsS127.below (by repeat (first | (with_reducible first | exact HI0.out | apply IsS127.alloc | apply IsS127.drewN | apply IsS127.drew | apply IsS127.set_1 | apply IsS127.set_2 | refine IsS127.far ?_ NB0_181.out _) | exact HI0.out)) hb); have n1_ := Aside0.mk (blk_below (g := gb181) (o := .cells #[.int .i64 0, .int .i64 0] 32 (0, 0)) (by (with_reducible repeat (first | refine blk_drewN ?_ _ | refine blk_drew ?_ | refine blk_alloc ?_ _)); exact BK181.out) hb); have n2_ := Aside0.mk (KeepBut.trans (by repeat (first | (with_reducible first | exact HK.out | apply KeepBut.set_ | apply keep_drewN | apply keep_drew | apply keep_alloc | refine keep_far ?_ GW181.out _) | exact HK.out)) (KeepBut.of_below hb g none) (.inl rfl)); have n3_ := Aside0.mk (below_step (by repeat (first | (with_reducible first | exact HB.out | apply below_alloc | apply pw_below_drewN | apply below_drew1 | refine below_set ?_ (IsS127.ge HI0.out) | refine below_set ?_ GE181.out) | exact HB.out)) hb); have n4_ := Aside0.mk (hbox); have n5_ := Aside0.mk ((by rw [hg]; exact (keep_size (w := w) (g := g) (row := none) (by repeat (first | (with_reducible first | exact HK.out | apply KeepBut.set_ | apply keep_drewN | apply keep_drew | apply keep_alloc | refine keep_far ?_ GW181.out _) | exact HK.out))) : w.heap.size ≤ gb182)); have n6_ := Aside0.mk ((Nat.le_trans HW0.out (by rw [hg]; exact (keep_size (w := w) (g := g) (row := none) (by repeat (first | (with_reducible first | exact HK.out | apply KeepBut.set_ | apply keep_drewN | apply keep_drew | apply keep_alloc | refine keep_far ?_ GW181.out _) | exact HK.out))) : w.heap.size ≤ gb182) : w0.heap.size ≤ gb182)); have n7_ := Aside0.mk ((by rw [hg]; exact Nat.ne_of_lt (blk_lt (g := gb181) (o := .cells #[.int .i64 0, .int .i64 0] 32 (0, 0)) (by (with_reducible repeat (first | refine blk_drewN ?_ _ | refine blk_drew ?_ | refine blk_alloc ?_ _)); exact BK181.out)) : gb181 ≠ gb182)); have n8_ := Aside0.mk ((by rw [hg]; exact Nat.ne_of_gt (blk_lt (g := gb181) (o := .cells #[.int .i64 0, .int .i64 0] 32 (0, 0)) (by (with_reducible repeat (first | refine blk_drewN ?_ _ | refine blk_drew ?_ | refine blk_alloc ?_ _)); exact BK181.out)) : gb182 ≠ gb181)); have n9_ := Aside0.mk ((by rw [hg]; exact Nat.ne_of_lt (IsS127.lt (show IsS127 w0 _ g s0_0 s0_1 s0_2 from by repeat (first | (with_reducible first | exact HI0.out | apply IsS127.alloc | apply IsS127.drewN | apply IsS127.drew | apply IsS127.set_1 | apply IsS127.set_2 | refine IsS127.far ?_ NB0_181.out _) | exact HI0.out))) : g ≠ gb182)); have n10_ := Aside0.mk ((by rw [hg]; exact Nat.ne_of_gt (IsS127.lt (show IsS127 w0 _ g s0_0 s0_1 s0_2 from by repeat (first | (with_reducible first | exact HI0.out | apply IsS127.alloc | apply IsS127.drewN | apply IsS127.drew | apply IsS127.set_1 | apply IsS127.set_2 | refine IsS127.far ?_ NB0_181.out _) | exact HI0.out))) : gb182 ≠ g)); clear HI0; clear BK181; clear HK; clear HB; have HI0 := n0_; have BK181 := n1_; have HK := n2_; have HB := n3_; have BK182 := n4_; have GW182 := n5_; have GE182 := n6_; have NB181_182 := n7_; have NB182_181 := n8_; have NB0_182 := n9_; have NB182_0 := n10_; clear n0_ n1_ n2_ n3_ n4_ n5_ n6_ n7_ n8_ n9_ n10_; clear hb hbox hg) | ((with_reducible refine gate_dst (N := 4) rfl ?_); refine box_event ?hg (N := 4) ?hd (cs := #[.int .i64 0, .int .i64 0]) (t := 32) ?hr ?_; (case hd => rfl); (case hg => rfl); (case hr => first | (go_simp; done) | (go_simp; rfl)); intro gb183 hg w10 hbox hb; have n0_ := Aside0.mk (IsS127.below (by repeat (first | (with_reducible first | exact HI0.out | apply IsS127.alloc | apply IsS127.drewN | apply IsS127.drew | apply IsS127.set_1 | apply IsS127.set_2 | refine IsS127.far ?_ NB0_181.out _ | refine IsS127.far ?_ NB0_182.out _) | exact HI0.out)) hb); have n1_ := Aside0.mk (blk_below (g := gb181) (o := .cells #[.int .i64 0, .int .i64 0] 32 (0, 0)) (by (with_reducible repeat (first | refine blk_drewN ?_ _ | refine blk_drew ?_ | refine blk_alloc ?_ _)); exact BK181.out) hb); have n2_ := Aside0.mk (blk_below (g := gb182) (o := .cells #[.int .i64 0, .int .i64 0] 32 (0, 0)) (by (with_reducible repeat (first | refine blk_drewN ?_ _ | refine blk_drew ?_ | refine blk_alloc ?_ _)); exact BK182.out) hb); have n3_ := Aside0.mk (KeepBut.trans (by repeat (first | (with_reducible first | exact HK.out | apply KeepBut.set_ | apply keep_drewN | apply keep_drew | apply keep_alloc | refine keep_far ?_ GW181.out _ | refine keep_far ?_ GW182.out _) | exact HK.out)) (KeepBut.of_below hb g none) (.inl rfl)); have n4_ := Aside0.mk (below_step (by repeat (first | (with_reducible first | exact HB.out | apply below_alloc | apply pw_below_drewN | apply below_drew1 | refine below_set ?_ (IsS127.ge HI0.out) | refine below_set ?_ GE181.out | refine below_set ?_ GE182.out) | exact HB.out)) hb); have n5_ := Aside0.mk (hbox); have n6_ := Aside0.mk ((by rw [hg]; exact (keep_size (w := w) (g := g) (row := none) (by repeat (first | (with_reducible first | exact HK.out | apply KeepBut.set_ | apply keep_drewN | apply keep_drew | apply keep_alloc | refine keep_far ?_ GW181.out _ | refine keep_far ?_ GW182.out _) | exact HK.out))) : w.heap.size ≤ gb183)); have n7_ := Aside0.mk ((Nat.le_trans HW0.out (by rw [hg]; exact (keep_size (w := w) (g := g) (row := none) (by repeat (first | (with_reducible first | exact HK.out | apply KeepBut.set_ | apply keep_drewN | apply keep_drew | apply keep_alloc | refine keep_far ?_ GW181.out _ | refine keep_far ?_ GW182.out _) | exact HK.out))) : w.heap.size ≤ gb183) : w0.heap.size ≤ gb183)); have n8_ := Aside0.mk ((by rw [hg]; exact Nat.ne_of_lt (blk_lt (g := gb181) (o := .cells #[.int .i64 0, .int .i64 0] 32 (0, 0)) (by (with_reducible repeat (first | refine blk_drewN ?_ _ | refine blk_drew ?_ | refine blk_alloc ?_ _)); exact BK181.out)) : gb181 ≠ gb183)); have n9_ := Aside0.mk ((by rw [hg]; exact Nat.ne_of_gt (blk_lt (g := gb181) (o := .cells #[.int .i64 0, .int .i64 0] 32 (0, 0)) (by (with_reducible repeat (first | refine blk_drewN ?_ _ | refine blk_drew ?_ | refine blk_alloc ?_ _)); exact BK181.out)) : gb183 ≠ gb181)); have n10_ := Aside0.mk ((by rw [hg]; exact Nat.ne_of_lt (blk_lt (g := gb182) (o := .cells #[.int .i64 0, .int .i64 0] 32 (0, 0)) (by (with_reducible repeat (first | refine blk_drewN ?_ _ | refine blk_drew ?_ | refine blk_alloc ?_ _)); exact BK182.out)) : gb182 ≠ gb183)); have n11_ := Aside0.mk ((by rw [hg]; exact Nat.ne_of_gt (blk_lt (g := gb182) (o := .cells #[.int .i64 0, .int .i64 0] 32 (0, 0)) (by (with_reducible repeat (first | refine blk_drewN ?_ _ | refine blk_drew ?_ | refine blk_alloc ?_ _)); exact BK182.out)) : gb183 ≠ gb182)); have n12_ := Aside0.mk ((by rw [hg]; exact Nat.ne_of_lt (IsS127.lt (show IsS127 w0 _ g s0_0 s0_1 s0_2 from by repeat (first | (with_reducible first | exact HI0.out | apply IsS127.alloc | apply IsS127.drewN | apply IsS127.drew | apply IsS127.set_1 | apply IsS127.set_2 | refine IsS127.far ?_ NB0_181.out _ | refine IsS127.far ?_ NB0_182.out _) | exact HI0.out))) : g ≠ gb183)); have n13_ := Aside0.mk ((by rw [hg]; exact Nat.ne_of_gt (IsS127.lt (show IsS127 w0 _ g s0_0 s0_1 s0_2 from by repeat (first | (with_reducible first | exact HI0.out | apply IsS127.alloc | apply IsS127.drewN | apply IsS127.drew | apply IsS127.set_1 | apply IsS127.set_2 | refine IsS127.far ?_ NB0_181.out _ | refine IsS127.far ?_ NB0_182.out _) | exact HI0.out))) : gb183 ≠ g)); clear HI0; clear BK181; clear BK182; clear HK; clear HB; have HI0 := n0_; have BK181 := n1_; have BK182 := n2_; have HK := n3_; have HB := n4_; have BK183 := n5_; have GW183 := n6_; have GE183 := n7_; have NB181_183 := n8_; have NB183_181 := n9_; have NB182_183 := n10_; have NB183_182 := n11_; have NB0_183 := n12_; have NB183_0 := n13_; clear n0_ n1_ n2_ n3_ n4_ n5_ n6_ n7_ n8_ n9_ n10_ n11_ n12_ n13_; clear hb hbox hg) | ((with_reducible refine gate_dst (N := 5) rfl ?_); refine box_event ?hg (N := 5) ?hd (cs := #[.int .i64 0, .int .i64 0]) (t := 32) ?hr ?_; (case hd => rfl); (case hg => rfl); (case hr => first | (go_simp; done) | (go_simp; rfl)); intro gb184 hg w11 hbox hb; have n0_ := Aside0.mk (IsS127.below (by repeat (first | (with_reducible first | exact HI0.out | apply IsS127.alloc | apply IsS127.drewN | apply IsS127.drew | apply IsS127.set_1 | apply IsS127.set_2 | refine IsS127.far ?_ NB0_181.out _ | refine IsS127.far ?_ NB0_182.out _ | refine IsS127.far ?_ NB0_183.out _) | exact HI0.out)) hb); have n1_ := Aside0.mk (blk_below (g := gb181) (o := .cells #[.int .i64 0, .int .i64 0] 32 (0, 0)) (by (with_reducible repeat (first | refine blk_drewN ?_ _ | refine blk_drew ?_ | refine blk_alloc ?_ _)); exact BK181.out) hb); have n2_ := Aside0.mk (blk_below (g := gb182) (o := .cells #[.int .i64 0, .int .i64 0] 32 (0, 0)) (by (with_reducible repeat (first | refine blk_drewN ?_ _ | refine blk_drew ?_ | refine blk_alloc ?_ _)); exact BK182.out) hb); have n3_ := Aside0.mk (blk_below (g := gb183) (o := .cells #[.int .i64 0, .int .i64 0] 32 (0, 0)) (by (with_reducible repeat (first | refine blk_drewN ?_ _ | refine blk_drew ?_ | refine blk_alloc ?_ _)); exact BK183.out) hb); have n4_ := Aside0.mk (KeepBut.trans (by repeat (first | (with_reducible first | exact HK.out | apply KeepBut.set_ | apply keep_drewN | apply keep_drew | apply keep_alloc | refine keep_far ?_ GW181.out _ | refine keep_far ?_ GW182.out _ | refine keep_far ?_ GW183.out _) | exact HK.out)) (KeepBut.of_below hb g none) (.inl rfl)); have n5_ := Aside0.mk (below_step (by repeat (first | (with_reducible first | exact HB.out | apply below_alloc | apply pw_below_drewN | apply below_drew1 | refine below_set ?_ (IsS127.ge HI0.out) | refine below_set ?_ GE181.out | refine below_set ?_ GE182.out | refine below_set ?_ GE183.out) | exact HB.out)) hb); have n6_ := Aside0.mk (hbox); have n7_ := Aside0.mk ((by rw [hg]; exact (keep_size (w := w) (g := g) (row := none) (by repeat (first | (with_reducible first | exact HK.out | apply KeepBut.set_ | apply keep_drewN | apply keep_drew | apply keep_alloc | refine keep_far ?_ GW181.out _ | refine keep_far ?_ GW182.out _ | refine keep_far ?_ GW183.out _) | exact HK.out))) : w.heap.size ≤ gb184)); have n8_ := Aside0.mk ((Nat.le_trans HW0.out (by rw [hg]; exact (keep_size (w := w) (g := g) (row := none) (by repeat (first | (with_reducible first | exact HK.out | apply KeepBut.set_ | apply keep_drewN | apply keep_drew | apply keep_alloc | refine keep_far ?_ GW181.out _ | refine keep_far ?_ GW182.out _ | refine keep_far ?_ GW183.out _) | exact HK.out))) : w.heap.size ≤ gb184) : w0.heap.size ≤ gb184)); have n9_ := Aside0.mk ((by rw [hg]; exact Nat.ne_of_lt (blk_lt (g := gb181) (o := .cells #[.int .i64 0, .int .i64 0] 32 (0, 0)) (by (with_reducible repeat (first | refine blk_drewN ?_ _ | refine blk_drew ?_ | refine blk_alloc ?_ _)); exact BK181.out)) : gb181 ≠ gb184)); have n10_ := Aside0.mk ((by rw [hg]; exact Nat.ne_of_gt (blk_lt (g := gb181) (o := .cells #[.int .i64 0, .int .i64 0] 32 (0, 0)) (by (with_reducible repeat (first | refine blk_drewN ?_ _ | refine blk_drew ?_ | refine blk_alloc ?_ _)); exact BK181.out)) : gb184 ≠ gb181)); have n11_ := Aside0.mk ((by rw [hg]; exact Nat.ne_of_lt (blk_lt (g := gb182) (o := .cells #[.int .i64 0, .int .i64 0] 32 (0, 0)) (by (with_reducible repeat (first | refine blk_drewN ?_ _ | refine blk_drew ?_ | refine blk_alloc ?_ _)); exact BK182.out)) : gb182 ≠ gb184)); have n12_ := Aside0.mk ((by rw [hg]; exact Nat.ne_of_gt (blk_lt (g := gb182) (o := .cells #[.int .i64 0, .int .i64 0] 32 (0, 0)) (by (with_reducible repeat (first | refine blk_drewN ?_ _ | refine blk_drew ?_ | refine blk_alloc ?_ _)); exact BK182.out)) : gb184 ≠ gb182)); have n13_ := Aside0.mk ((by rw [hg]; exact Nat.ne_of_lt (blk_lt (g := gb183) (o := .cells #[.int .i64 0, .int .i64 0] 32 (0, 0)) (by (with_reducible repeat (first | refine blk_drewN ?_ _ | refine blk_drew ?_ | refine blk_alloc ?_ _)); exact BK183.out)) : gb183 ≠ gb184)); have n14_ := Aside0.mk ((by rw [hg]; exact Nat.ne_of_gt (blk_lt (g := gb183) (o := .cells #[.int .i64 0, .int .i64 0] 32 (0, 0)) (by (with_reducible repeat (first | refine blk_drewN ?_ _ | refine blk_drew ?_ | refine blk_alloc ?_ _)); exact BK183.out)) : gb184 ≠ gb183)); have n15_ := Aside0.mk ((by rw [hg]; exact Nat.ne_of_lt (IsS127.lt (show IsS127 w0 _ g s0_0 s0_1 s0_2 from by repeat (first | (with_reducible first | exact HI0.out | apply IsS127.alloc | apply IsS127.drewN | apply IsS127.drew | apply IsS127.set_1 | apply IsS127.set_2 | refine IsS127.far ?_ NB0_181.out _ | refine IsS127.far ?_ NB0_182.out _ | refine IsS127.far ?_ NB0_183.out _) | exact HI0.out))) : g ≠ gb184)); have n16_ := Aside0.mk ((by rw [hg]; exact Nat.ne_of_gt (IsS127.lt (show IsS127 w0 _ g s0_0 s0_1 s0_2 from by repeat (first | (with_reducible first | exact HI0.out | apply IsS127.alloc | apply IsS127.drewN | apply IsS127.drew | apply IsS127.set_1 | apply IsS127.set_2 | refine IsS127.far ?_ NB0_181.out _ | refine IsS127.far ?_ NB0_182.out _ | refine IsS127.far ?_ NB0_183.out _) | exact HI0.out))) : gb184 ≠ g)); clear HI0; clear BK181; clear BK182; clear BK183; clear HK; clear HB; have HI0 := n0_; have BK181 := n1_; have BK182 := n2_; have BK183 := n3_; have HK := n4_; have HB := n5_; have BK184 := n6_; have GW184 := n7_; have GE184 := n8_; have NB181_184 := n9_; have NB184_181 := n10_; have NB182_184 := n11_; have NB184_182 := n12_; have NB183_184 := n13_; have NB184_183 := n14_; have NB0_184 := n15_; have NB184_0 := n16_; clear n0_ n1_ n2_ n3_ n4_ n5_ n6_ n7_ n8_ n9_ n10_ n11_ n12_ n13_ n14_ n15_ n16_; clear hb hbox hg) | ((with_reducible refine gate_callee (f := 85) rfl ?_); refine goesL_ (some 11) rfl rfl Try.func85 (by kernel_rfl) rfl #[.pointer (some ⟨g, 0, none⟩)] rfl (by (try simp only [List.map_toArray, List.map_cons, List.map_nil]); first | done | rfl | (simp only [List.length_drop, List.length_take]; rfl)) ?_; (with_reducible refine (spec_l3Draw.calls k g s0_0 s0_1 s0_2 t185 t186 t187 t188 w0 _ ?side1 ?side2 A2.out).mono ?_); (case side1 => repeat (first | (with_reducible first | exact HI0.out | apply IsS127.alloc | apply IsS127.drewN | apply IsS127.drew | apply IsS127.set_1 | apply IsS127.set_2 | refine IsS127.far ?_ NB0_181.out _ | refine IsS127.far ?_ NB0_182.out _ | refine IsS127.far ?_ NB0_183.out _ | refine IsS127.far ?_ NB0_184.out _) | exact HI0.out)); (case side2 => repeat (first | (with_reducible first | exact HB.out | apply below_alloc | apply pw_below_drewN | apply below_drew1 | refine below_set ?_ (IsS127.ge HI0.out) | refine below_set ?_ GE181.out | refine below_set ?_ GE182.out | refine below_set ?_ GE183.out | refine below_set ?_ GE184.out) | exact HB.out)); rintro e w12 ⟨rfl, hi, hb, hk⟩; refine ⟨_, rfl, ?_⟩; have n0_ := Aside0.mk (KeepBut.blk hk (g' := gb181) (o := .cells #[.int .i64 0, .int .i64 0] 32 (0, 0)) (by (with_reducible repeat (first | refine blk_drewN ?_ _ | refine blk_drew ?_ | refine blk_alloc ?_ _)); exact BK181.out) NB181_0.out (by simp)); have n1_ := Aside0.mk (KeepBut.blk hk (g' := gb182) (o := .cells #[.int .i64 0, .int .i64 0] 32 (0, 0)) (by (with_reducible repeat (first | refine blk_drewN ?_ _ | refine blk_drew ?_ | refine blk_alloc ?_ _)); exact BK182.out) NB182_0.out (by simp)); have n2_ := Aside0.mk (KeepBut.blk hk (g' := gb183) (o := .cells #[.int .i64 0, .int .i64 0] 32 (0, 0)) (by (with_reducible repeat (first | refine blk_drewN ?_ _ | refine blk_drew ?_ | refine blk_alloc ?_ _)); exact BK183.out) NB183_0.out (by simp)); have n3_ := Aside0.mk (KeepBut.blk hk (g' := gb184) (o := .cells #[.int .i64 0, .int .i64 0] 32 (0, 0)) (by (with_reducible repeat (first | refine blk_drewN ?_ _ | refine blk_drew ?_ | refine blk_alloc ?_ _)); exact BK184.out) NB184_0.out (by simp)); have n4_ := Aside0.mk (KeepBut.trans (by repeat (first | (with_reducible first | exact HK.out | apply KeepBut.set_ | apply keep_drewN | apply keep_drew | apply keep_alloc | refine keep_far ?_ GW181.out _ | refine keep_far ?_ GW182.out _ | refine keep_far ?_ GW183.out _ | refine keep_far ?_ GW184.out _) | exact HK.out)) hk (.inl rfl)); have n5_ := Aside0.mk (hb); have n6_ := Aside0.mk (hi); clear BK181; clear BK182; clear BK183; clear BK184; clear HK; clear HB; clear HI0; have BK181 := n0_; have BK182 := n1_; have BK183 := n2_; have BK184 := n3_; have HK := n4_; have HB := n5_; have HI0 := n6_; clear n0_ n1_ n2_ n3_ n4_ n5_ n6_; (try clear hb); (try clear hb2); (try clear hk); (try clear hi)) | ((with_reducible refine gate_dst (N := 6) rfl ?_); refine box_event ?hg (N := 6) ?hd (cs := #[.int .i64 0, .int .i64 0]) (t := 32) ?hr ?_; (case hd => rfl); (case hg => rfl); (case hr => first | (go_simp; done) | (go_simp; rfl)); intro gb189 hg w13 hbox hb; have n0_ := Aside0.mk (IsS127.below (by repeat (first | (with_reducible first | exact HI0.out | apply IsS127.alloc | apply IsS127.drewN | apply IsS127.drew | apply IsS127.set_1 | apply IsS127.set_2 | refine IsS127.far ?_ NB0_181.out _ | refine IsS127.far ?_ NB0_182.out _ | refine IsS127.far ?_ NB0_183.out _ | refine IsS127.far ?_ NB0_184.out _) | exact HI0.out)) hb); have n1_ := Aside0.mk (blk_below (g := gb181) (o := .cells #[.int .i64 0, .int .i64 0] 32 (0, 0)) (by (with_reducible repeat (first | refine blk_drewN ?_ _ | refine blk_drew ?_ | refine blk_alloc ?_ _)); exact BK181.out) hb); have n2_ := Aside0.mk (blk_below (g := gb182) (o := .cells #[.int .i64 0, .int .i64 0] 32 (0, 0)) (by (with_reducible repeat (first | refine blk_drewN ?_ _ | refine blk_drew ?_ | refine blk_alloc ?_ _)); exact BK182.out) hb); have n3_ := Aside0.mk (blk_below (g := gb183) (o := .cells #[.int .i64 0, .int .i64 0] 32 (0, 0)) (by (with_reducible repeat (first | refine blk_drewN ?_ _ | refine blk_drew ?_ | refine blk_alloc ?_ _)); exact BK183.out) hb); have n4_ := Aside0.mk (blk_below (g := gb184) (o := .cells #[.int .i64 0, .int .i64 0] 32 (0, 0)) (by (with_reducible repeat (first | refine blk_drewN ?_ _ | refine blk_drew ?_ | refine blk_alloc ?_ _)); exact BK184.out) hb); have n5_ := Aside0.mk (KeepBut.trans (by repeat (first | (with_reducible first | exact HK.out | apply KeepBut.set_ | apply keep_drewN | apply keep_drew | apply keep_alloc | refine keep_far ?_ GW181.out _ | refine keep_far ?_ GW182.out _ | refine keep_far ?_ GW183.out _ | refine keep_far ?_ GW184.out _) | exact HK.out)) (KeepBut.of_below hb g none) (.inl rfl)); have n6_ := Aside0.mk (below_step (by repeat (first | (with_reducible first | exact HB.out | apply below_alloc | apply pw_below_drewN | apply below_drew1 | refine below_set ?_ (IsS127.ge HI0.out) | refine below_set ?_ GE181.out | refine below_set ?_ GE182.out | refine below_set ?_ GE183.out | refine below_set ?_ GE184.out) | exact HB.out)) hb); have n7_ := Aside0.mk (hbox); have n8_ := Aside0.mk ((by rw [hg]; exact (keep_size (w := w) (g := g) (row := none) (by repeat (first | (with_reducible first | exact HK.out | apply KeepBut.set_ | apply keep_drewN | apply keep_drew | apply keep_alloc | refine keep_far ?_ GW181.out _ | refine keep_far ?_ GW182.out _ | refine keep_far ?_ GW183.out _ | refine keep_far ?_ GW184.out _) | exact HK.out))) : w.heap.size ≤ gb189)); have n9_ := Aside0.mk ((Nat.le_trans HW0.out (by rw [hg]; exact (keep_size (w := w) (g := g) (row := none) (by repeat (first | (with_reducible first | exact HK.out | apply KeepBut.set_ | apply keep_drewN | apply keep_drew | apply keep_alloc | refine keep_far ?_ GW181.out _ | refine keep_far ?_ GW182.out _ | refine keep_far ?_ GW183.out _ | refine keep_far ?_ GW184.out _) | exact HK.out))) : w.heap.size ≤ gb189) : w0.heap.size ≤ gb189)); have n10_ := Aside0.mk ((by rw [hg]; exact Nat.ne_of_lt (blk_lt (g := gb181) (o := .cells #[.int .i64 0, .int .i64 0] 32 (0, 0)) (by (with_reducible repeat (first | refine blk_drewN ?_ _ | refine blk_drew ?_ | refine blk_alloc ?_ _)); exact BK181.out)) : gb181 ≠ gb189)); have n11_ := Aside0.mk ((by rw [hg]; exact Nat.ne_of_gt (blk_lt (g := gb181) (o := .cells #[.int .i64 0, .int .i64 0] 32 (0, 0)) (by (with_reducible repeat (first | refine blk_drewN ?_ _ | refine blk_drew ?_ | refine blk_alloc ?_ _)); exact BK181.out)) : gb189 ≠ gb181)); have n12_ := Aside0.mk ((by rw [hg]; exact Nat.ne_of_lt (blk_lt (g := gb182) (o := .cells #[.int .i64 0, .int .i64 0] 32 (0, 0)) (by (with_reducible repeat (first | refine blk_drewN ?_ _ | refine blk_drew ?_ | refine blk_alloc ?_ _)); exact BK182.out)) : gb182 ≠ gb189)); have n13_ := Aside0.mk ((by rw [hg]; exact Nat.ne_of_gt (blk_lt (g := gb182) (o := .cells #[.int .i64 0, .int .i64 0] 32 (0, 0)) (by (with_reducible repeat (first | refine blk_drewN ?_ _ | refine blk_drew ?_ | refine blk_alloc ?_ _)); exact BK182.out)) : gb189 ≠ gb182)); have n14_ := Aside0.mk ((by rw [hg]; exact Nat.ne_of_lt (blk_lt (g := gb183) (o := .cells #[.int .i64 0, .int .i64 0] 32 (0, 0)) (by (with_reducible repeat (first | refine blk_drewN ?_ _ | refine blk_drew ?_ | refine blk_alloc ?_ _)); exact BK183.out)) : gb183 ≠ gb189)); have n15_ := Aside0.mk ((by rw [hg]; exact Nat.ne_of_gt (blk_lt (g := gb183) (o := .cells #[.int .i64 0, .int .i64 0] 32 (0, 0)) (by (with_reducible repeat (first | refine blk_drewN ?_ _ | refine blk_drew ?_ | refine blk_alloc ?_ _)); exact BK183.out)) : gb189 ≠ gb183)); have n16_ := Aside0.mk ((by rw [hg]; exact Nat.ne_of_lt (blk_lt (g := gb184) (o := .cells #[.int .i64 0, .int .i64 0] 32 (0, 0)) (by (with_reducible repeat (first | refine blk_drewN ?_ _ | refine blk_drew ?_ | refine blk_alloc ?_ _)); exact BK184.out)) : gb184 ≠ gb189)); have n17_ := Aside0.mk ((by rw [hg]; exact Nat.ne_of_gt (blk_lt (g := gb184) (o := .cells #[.int .i64 0, .int .i64 0] 32 (0, 0)) (by (with_reducible repeat (first | refine blk_drewN ?_ _ | refine blk_drew ?_ | refine blk_alloc ?_ _)); exact BK184.out)) : gb189 ≠ gb184)); have n18_ := Aside0.mk ((by rw [hg]; exact Nat.ne_of_lt (IsS127.lt (show IsS127 w0 _ g s0_0 t187 t188 from by repeat (first | (with_reducible first | exact HI0.out | apply IsS127.alloc | apply IsS127.drewN | apply IsS127.drew | apply IsS127.set_1 | apply IsS127.set_2 | refine IsS127.far ?_ NB0_181.out _ | refine IsS127.far ?_ NB0_182.out _ | refine IsS127.far ?_ NB0_183.out _ | refine IsS127.far ?_ NB0_184.out _) | exact HI0.out))) : g ≠ gb189)); have n19_ := Aside0.mk ((by rw [hg]; exact Nat.ne_of_gt (IsS127.lt (show IsS127 w0 _ g s0_0 t187 t188 from by repeat (first | (with_reducible first | exact HI0.out | apply IsS127.alloc | apply IsS127.drewN | apply IsS127.drew | apply IsS127.set_1 | apply IsS127.set_2 | refine IsS127.far ?_ NB0_181.out _ | refine IsS127.far ?_ NB0_182.out _ | refine IsS127.far ?_ NB0_183.out _ | refine IsS127.far ?_ NB0_184.out _) | exact HI0.out))) : gb189 ≠ g)); clear HI0; clear BK181; clear BK182; clear BK183; clear BK184; clear HK; clear HB; have HI0 := n0_; have BK181 := n1_; have BK182 := n2_; have BK183 := n3_; have BK184 := n4_; have HK := n5_; have HB := n6_; have BK189 := n7_; have GW189 := n8_; have GE189 := n9_; have NB181_189 := n10_; have NB189_181 := n11_; have NB182_189 := n12_; have NB189_182 := n13_; have NB183_189 := n14_; have NB189_183 := n15_; have NB184_189 := n16_; have NB189_184 := n17_; have NB0_189 := n18_; have NB189_0 := n19_; clear n0_ n1_ n2_ n3_ n4_ n5_ n6_ n7_ n8_ n9_ n10_ n11_ n12_ n13_ n14_ n15_ n16_ n17_ n18_ n19_; clear hb hbox hg; have hnb14 := NB189_181.out; have hnc14 := NB181_189.out; have hnb15 := NB189_182.out; have hnc15 := NB182_189.out; have hnb16 := NB189_183.out; have hnc16 := NB183_189.out; have hnb17 := NB189_184.out; have hnc17 := NB184_189.out; have hnb18 := NB189_0.out; have hnc18 := NB0_189.out; have hcz19_0 : w13.cell? ⟨gb189, 0, none⟩ = some (.int .i64 0) := (blk_cell BK189.out 0).trans rfl; have hcz19_1 : w13.cell? ⟨gb189, 1, none⟩ = some (.int .i64 0) := (blk_cell BK189.out 1).trans rfl; have hfz19_0 := blk_frozen BK189.out 0; have hfz19_1 := blk_frozen BK189.out 1) | ((with_reducible refine gate_callee (f := 85) rfl ?_); refine goesL_ (some 13) rfl rfl Try.func85 (by kernel_rfl) rfl #[.pointer (some ⟨g, 0, none⟩)] rfl (by (try simp only [List.map_toArray, List.map_cons, List.map_nil]); first | done | rfl | (simp only [List.length_drop, List.length_take]; rfl)) ?_; (with_reducible refine (spec_l3Draw.calls k g s0_0 t187 t188 t190 t191 t192 t193 w0 _ ?side1 ?side2 A3.out).mono ?_); (case side1 => repeat (first | (with_reducible first | exact HI0.out | apply IsS127.alloc | apply IsS127.drewN | apply IsS127.drew | apply IsS127.set_1 | apply IsS127.set_2 | refine IsS127.far ?_ NB0_181.out _ | refine IsS127.far ?_ NB0_182.out _ | refine IsS127.far ?_ NB0_183.out _ | refine IsS127.far ?_ NB0_184.out _ | refine IsS127.far ?_ NB0_189.out _) | exact HI0.out)); (case side2 => repeat (first | (with_reducible first | exact HB.out | apply below_alloc | apply pw_below_drewN | apply below_drew1 | refine below_set ?_ (IsS127.ge HI0.out) | refine below_set ?_ GE181.out | refine below_set ?_ GE182.out | refine below_set ?_ GE183.out | refine below_set ?_ GE184.out | refine below_set ?_ GE189.out) | exact HB.out)); rintro e w20 ⟨rfl, hi, hb, hk⟩; refine ⟨_, rfl, ?_⟩; have n0_ := Aside0.mk (KeepBut.blk hk (g' := gb181) (o := .cells #[.int .i64 0, .int .i64 0] 32 (0, 0)) (by (with_reducible repeat (first | refine blk_drewN ?_ _ | refine blk_drew ?_ | refine blk_alloc ?_ _)); refine blk_far ?_ NB181_189.out _; (with_reducible repeat (first | refine blk_drewN ?_ _ | refine blk_drew ?_ | refine blk_alloc ?_ _)); refine blk_far ?_ NB181_189.out _; (with_reducible repeat (first | refine blk_drewN ?_ _ | refine blk_drew ?_ | refine blk_alloc ?_ _)); exact BK181.out) NB181_0.out (by simp)); have n1_ := Aside0.mk (KeepBut.blk hk (g' := gb182) (o := .cells #[.int .i64 0, .int .i64 0] 32 (0, 0)) (by (with_reducible repeat (first | refine blk_drewN ?_ _ | refine blk_drew ?_ | refine blk_alloc ?_ _)); refine blk_far ?_ NB182_189.out _; (with_reducible repeat (first | refine blk_drewN ?_ _ | refine blk_drew ?_ | refine blk_alloc ?_ _)); refine blk_far ?_ NB182_189.out _; (with_reducible repeat (first | refine blk_drewN ?_ _ | refine blk_drew ?_ | refine blk_alloc ?_ _)); exact BK182.out) NB182_0.out (by simp)); have n2_ := Aside0.mk (KeepBut.blk hk (g' := gb183) (o := .cells #[.int .i64 0, .int .i64 0] 32 (0, 0)) (by (with_reducible repeat (first | refine blk_drewN ?_ _ | refine blk_drew ?_ | refine blk_alloc ?_ _)); refine blk_far ?_ NB183_189.out _; (with_reducible repeat (first | refine blk_drewN ?_ _ | refine blk_drew ?_ | refine blk_alloc ?_ _)); refine blk_far ?_ NB183_189.out _; (with_reducible repeat (first | refine blk_drewN ?_ _ | refine blk_drew ?_ | refine blk_alloc ?_ _)); exact BK183.out) NB183_0.out (by simp)); have n3_ := Aside0.mk (KeepBut.blk hk (g' := gb184) (o := .cells #[.int .i64 0, .int .i64 0] 32 (0, 0)) (by (with_reducible repeat (first | refine blk_drewN ?_ _ | refine blk_drew ?_ | refine blk_alloc ?_ _)); refine blk_far ?_ NB184_189.out _; (with_reducible repeat (first | refine blk_drewN ?_ _ | refine blk_drew ?_ | refine blk_alloc ?_ _)); refine blk_far ?_ NB184_189.out _; (with_reducible repeat (first | refine blk_drewN ?_ _ | refine blk_drew ?_ | refine blk_alloc ?_ _)); exact BK184.out) NB184_0.out (by simp)); have n4_ := Aside0.mk (KeepBut.blk hk (g' := gb189) (o := .cells #[.int .i64 t185, .int .i64 t186] 32 (0, 0)) (by (with_reducible repeat (first | refine blk_drewN ?_ _ | refine blk_drew ?_ | refine blk_alloc ?_ _)); refine blk_put (cs := #[.int .i64 t185, .int .i64 0]) ?_ 1 _ rfl; (with_reducible repeat (first | refine blk_drewN ?_ _ | refine blk_drew ?_ | refine blk_alloc ?_ _)); refine blk_put (cs := #[.int .i64 0, .int .i64 0]) ?_ 0 _ rfl; (with_reducible repeat (first | refine blk_drewN ?_ _ | refine blk_drew ?_ | refine blk_alloc ?_ _)); exact BK189.out) NB189_0.out (by simp)); have n5_ := Aside0.mk (KeepBut.trans (by repeat (first | (with_reducible first | exact HK.out | apply KeepBut.set_ | apply keep_drewN | apply keep_drew | apply keep_alloc | refine keep_far ?_ GW181.out _ | refine keep_far ?_ GW182.out _ | refine keep_far ?_ GW183.out _ | refine keep_far ?_ GW184.out _ | refine keep_far ?_ GW189.out _) | exact HK.out)) hk (.inl rfl)); have n6_ := Aside0.mk (hb); have n7_ := Aside0.mk (hi); clear BK181; clear BK182; clear BK183; clear BK184; clear BK189; clear HK; clear HB; clear HI0; have BK181 := n0_; have BK182 := n1_; have BK183 := n2_; have BK184 := n3_; have BK189 := n4_; have HK := n5_; have HB := n6_; have HI0 := n7_; clear n0_ n1_ n2_ n3_ n4_ n5_ n6_ n7_; (try clear hb); (try clear hb2); (try clear hk); (try clear hi)) | ((with_reducible refine gate_dst (N := 7) rfl ?_); refine box_event ?hg (N := 7) ?hd (cs := #[.int .i64 0, .int .i64 0]) (t := 32) ?hr ?_; (case hd => rfl); (case hg => rfl); (case hr => first | (go_simp; done) | (go_simp; rfl)); intro gb194 hg w21 hbox hb; have n0_ := Aside0.mk (IsS127.below (by repeat (first | (with_reducible first | exact HI0.out | apply IsS127.alloc | apply IsS127.drewN | apply IsS127.drew | apply IsS127.set_1 | apply IsS127.set_2 | refine IsS127.far ?_ NB0_181.out _ | refine IsS127.far ?_ NB0_182.out _ | refine IsS127.far ?_ NB0_183.out _ | refine IsS127.far ?_ NB0_184.out _ | refine IsS127.far ?_ NB0_189.out _) | exact HI0.out)) hb); have n1_ := Aside0.mk (blk_below (g := gb181) (o := .cells #[.int .i64 0, .int .i64 0] 32 (0, 0)) (by (with_reducible repeat (first | refine blk_drewN ?_ _ | refine blk_drew ?_ | refine blk_alloc ?_ _)); exact BK181.out) hb); have n2_ := Aside0.mk (blk_below (g := gb182) (o := .cells #[.int .i64 0, .int .i64 0] 32 (0, 0)) (by (with_reducible repeat (first | refine blk_drewN ?_ _ | refine blk_drew ?_ | refine blk_alloc ?_ _)); exact BK182.out) hb); have n3_ := Aside0.mk (blk_below (g := gb183) (o := .cells #[.int .i64 0, .int .i64 0] 32 (0, 0)) (by (with_reducible repeat (first | refine blk_drewN ?_ _ | refine blk_drew ?_ | refine blk_alloc ?_ _)); exact BK183.out) hb); have n4_ := Aside0.mk (blk_below (g := gb184) (o := .cells #[.int .i64 0, .int .i64 0] 32 (0, 0)) (by (with_reducible repeat (first | refine blk_drewN ?_ _ | refine blk_drew ?_ | refine blk_alloc ?_ _)); exact BK184.out) hb); have n5_ := Aside0.mk (blk_below (g := gb189) (o := .cells #[.int .i64 t185, .int .i64 t186] 32 (0, 0)) (by (with_reducible repeat (first | refine blk_drewN ?_ _ | refine blk_drew ?_ | refine blk_alloc ?_ _)); exact BK189.out) hb); have n6_ := Aside0.mk (KeepBut.trans (by repeat (first | (with_reducible first | exact HK.out | apply KeepBut.set_ | apply keep_drewN | apply keep_drew | apply keep_alloc | refine keep_far ?_ GW181.out _ | refine keep_far ?_ GW182.out _ | refine keep_far ?_ GW183.out _ | refine keep_far ?_ GW184.out _ | refine keep_far ?_ GW189.out _) | exact HK.out)) (KeepBut.of_below hb g none) (.inl rfl)); have n7_ := Aside0.mk (below_step (by repeat (first | (with_reducible first | exact HB.out | apply below_alloc | apply pw_below_drewN | apply below_drew1 | refine below_set ?_ (IsS127.ge HI0.out) | refine below_set ?_ GE181.out | refine below_set ?_ GE182.out | refine below_set ?_ GE183.out | refine below_set ?_ GE184.out | refine below_set ?_ GE189.out) | exact HB.out)) hb); have n8_ := Aside0.mk (hbox); have n9_ := Aside0.mk ((by rw [hg]; exact (keep_size (w := w) (g := g) (row := none) (by repeat (first | (with_reducible first | exact HK.out | apply KeepBut.set_ | apply keep_drewN | apply keep_drew | apply keep_alloc | refine keep_far ?_ GW181.out _ | refine keep_far ?_ GW182.out _ | refine keep_far ?_ GW183.out _ | refine keep_far ?_ GW184.out _ | refine keep_far ?_ GW189.out _) | exact HK.out))) : w.heap.size ≤ gb194)); have n10_ := Aside0.mk ((Nat.le_trans HW0.out (by rw [hg]; exact (keep_size (w := w) (g := g) (row := none) (by repeat (first | (with_reducible first | exact HK.out | apply KeepBut.set_ | apply keep_drewN | apply keep_drew | apply keep_alloc | refine keep_far ?_ GW181.out _ | refine keep_far ?_ GW182.out _ | refine keep_far ?_ GW183.out _ | refine keep_far ?_ GW184.out _ | refine keep_far ?_ GW189.out _) | exact HK.out))) : w.heap.size ≤ gb194) : w0.heap.size ≤ gb194)); have n11_ := Aside0.mk ((by rw [hg]; exact Nat.ne_of_lt (blk_lt (g := gb181) (o := .cells #[.int .i64 0, .int .i64 0] 32 (0, 0)) (by (with_reducible repeat (first | refine blk_drewN ?_ _ | refine blk_drew ?_ | refine blk_alloc ?_ _)); exact BK181.out)) : gb181 ≠ gb194)); have n12_ := Aside0.mk ((by rw [hg]; exact Nat.ne_of_gt (blk_lt (g := gb181) (o := .cells #[.int .i64 0, .int .i64 0] 32 (0, 0)) (by (with_reducible repeat (first | refine blk_drewN ?_ _ | refine blk_drew ?_ | refine blk_alloc ?_ _)); exact BK181.out)) : gb194 ≠ gb181)); have n13_ := Aside0.mk ((by rw [hg]; exact Nat.ne_of_lt (blk_lt (g := gb182) (o := .cells #[.int .i64 0, .int .i64 0] 32 (0, 0)) (by (with_reducible repeat (first | refine blk_drewN ?_ _ | refine blk_drew ?_ | refine blk_alloc ?_ _)); exact BK182.out)) : gb182 ≠ gb194)); have n14_ := Aside0.mk ((by rw [hg]; exact Nat.ne_of_gt (blk_lt (g := gb182) (o := .cells #[.int .i64 0, .int .i64 0] 32 (0, 0)) (by (with_reducible repeat (first | refine blk_drewN ?_ _ | refine blk_drew ?_ | refine blk_alloc ?_ _)); exact BK182.out)) : gb194 ≠ gb182)); have n15_ := Aside0.mk ((by rw [hg]; exact Nat.ne_of_lt (blk_lt (g := gb183) (o := .cells #[.int .i64 0, .int .i64 0] 32 (0, 0)) (by (with_reducible repeat (first | refine blk_drewN ?_ _ | refine blk_drew ?_ | refine blk_alloc ?_ _)); exact BK183.out)) : gb183 ≠ gb194)); have n16_ := Aside0.mk ((by rw [hg]; exact Nat.ne_of_gt (blk_lt (g := gb183) (o := .cells #[.int .i64 0, .int .i64 0] 32 (0, 0)) (by (with_reducible repeat (first | refine blk_drewN ?_ _ | refine blk_drew ?_ | refine blk_alloc ?_ _)); exact BK183.out)) : gb194 ≠ gb183)); have n17_ := Aside0.mk ((by rw [hg]; exact Nat.ne_of_lt (blk_lt (g := gb184) (o := .cells #[.int .i64 0, .int .i64 0] 32 (0, 0)) (by (with_reducible repeat (first | refine blk_drewN ?_ _ | refine blk_drew ?_ | refine blk_alloc ?_ _)); exact BK184.out)) : gb184 ≠ gb194)); have n18_ := Aside0.mk ((by rw [hg]; exact Nat.ne_of_gt (blk_lt (g := gb184) (o := .cells #[.int .i64 0, .int .i64 0] 32 (0, 0)) (by (with_reducible repeat (first | refine blk_drewN ?_ _ | refine blk_drew ?_ | refine blk_alloc ?_ _)); exact BK184.out)) : gb194 ≠ gb184)); have n19_ := Aside0.mk ((by rw [hg]; exact Nat.ne_of_lt (blk_lt (g := gb189) (o := .cells #[.int .i64 t185, .int .i64 t186] 32 (0, 0)) (by (with_reducible repeat (first | refine blk_drewN ?_ _ | refine blk_drew ?_ | refine blk_alloc ?_ _)); exact BK189.out)) : gb189 ≠ gb194)); have n20_ := Aside0.mk ((by rw [hg]; exact Nat.ne_of_gt (blk_lt (g := gb189) (o := .cells #[.int .i64 t185, .int .i64 t186] 32 (0, 0)) (by (with_reducible repeat (first | refine blk_drewN ?_ _ | refine blk_drew ?_ | refine blk_alloc ?_ _)); exact BK189.out)) : gb194 ≠ gb189)); have n21_ := Aside0.mk ((by rw [hg]; exact Nat.ne_of_lt (IsS127.lt (show IsS127 w0 _ g s0_0 t192 t193 from by repeat (first | (with_reducible first | exact HI0.out | apply IsS127.alloc | apply IsS127.drewN | apply IsS127.drew | apply IsS127.set_1 | apply IsS127.set_2 | refine IsS127.far ?_ NB0_181.out _ | refine IsS127.far ?_ NB0_182.out _ | refine IsS127.far ?_ NB0_183.out _ | refine IsS127.far ?_ NB0_184.out _ | refine IsS127.far ?_ NB0_189.out _) | exact HI0.out))) : g ≠ gb194)); have n22_ := Aside0.mk ((by rw [hg]; exact Nat.ne_of_gt (IsS127.lt (show IsS127 w0 _ g s0_0 t192 t193 from by repeat (first | (with_reducible first | exact HI0.out | apply IsS127.alloc | apply IsS127.drewN | apply IsS127.drew | apply IsS127.set_1 | apply IsS127.set_2 | refine IsS127.far ?_ NB0_181.out _ | refine IsS127.far ?_ NB0_182.out _ | refine IsS127.far ?_ NB0_183.out _ | refine IsS127.far ?_ NB0_184.out _ | refine IsS127.far ?_ NB0_189.out _) | exact HI0.out))) : gb194 ≠ g)); clear HI0; clear BK181; clear BK182; clear BK183; clear BK184; clear BK189; clear HK; clear HB; have HI0 := n0_; have BK181 := n1_; have BK182 := n2_; have BK183 := n3_; have BK184 := n4_; have BK189 := n5_; have HK := n6_; have HB := n7_; have BK194 := n8_; have GW194 := n9_; have GE194 := n10_; have NB181_194 := n11_; have NB194_181 := n12_; have NB182_194 := n13_; have NB194_182 := n14_; have NB183_194 := n15_; have NB194_183 := n16_; have NB184_194 := n17_; have NB194_184 := n18_; have NB189_194 := n19_; have NB194_189 := n20_; have NB0_194 := n21_; have NB194_0 := n22_; clear n0_ n1_ n2_ n3_ n4_ n5_ n6_ n7_ n8_ n9_ n10_ n11_ n12_ n13_ n14_ n15_ n16_ n17_ n18_ n19_ n20_ n21_ n22_; clear hb hbox hg; have hnb22 := NB194_181.out; have hnc22 := NB181_194.out; have hnb23 := NB194_182.out; have hnc23 := NB182_194.out; have hnb24 := NB194_183.out; have hnc24 := NB183_194.out; have hnb25 := NB194_184.out; have hnc25 := NB184_194.out; have hnb26 := NB194_189.out; have hnc26 := NB189_194.out; have hnb27 := NB194_0.out; have hnc27 := NB0_194.out; have hcz28_0 : w21.cell? ⟨gb194, 0, none⟩ = some (.int .i64 0) := (blk_cell BK194.out 0).trans rfl; have hcz28_1 : w21.cell? ⟨gb194, 1, none⟩ = some (.int .i64 0) := (blk_cell BK194.out 1).trans rfl; have hfz28_0 := blk_frozen BK194.out 0; have hfz28_1 := blk_frozen BK194.out 1) | ((with_reducible refine gate_callee (f := 85) rfl ?_); refine goesL_ (some 15) rfl rfl Try.func85 (by kernel_rfl) rfl #[.pointer (some ⟨g, 0, none⟩)] rfl (by (try simp only [List.map_toArray, List.map_cons, List.map_nil]); first | done | rfl | (simp only [List.length_drop, List.length_take]; rfl)) ?_; (with_reducible refine (spec_l3Draw.calls k g s0_0 t192 t193 t195 t196 t197 t198 w0 _ ?side1 ?side2 A4.out).mono ?_); (case side1 => repeat (first | (with_reducible first | exact HI0.out | apply IsS127.alloc | apply IsS127.drewN | apply IsS127.drew | apply IsS127.set_1 | apply IsS127.set_2 | refine IsS127.far ?_ NB0_181.out _ | refine IsS127.far ?_ NB0_182.out _ | refine IsS127.far ?_ NB0_183.out _ | refine IsS127.far ?_ NB0_184.out _ | refine IsS127.far ?_ NB0_189.out _ | refine IsS127.far ?_ NB0_194.out _) | exact HI0.out)); (case side2 => repeat (first | (with_reducible first | exact HB.out | apply below_alloc | apply pw_below_drewN | apply below_drew1 | refine below_set ?_ (IsS127.ge HI0.out) | refine below_set ?_ GE181.out | refine below_set ?_ GE182.out | refine below_set ?_ GE183.out | refine below_set ?_ GE184.out | refine below_set ?_ GE189.out | refine below_set ?_ GE194.out) | exact HB.out)); rintro e w29 ⟨rfl, hi, hb, hk⟩; refine ⟨_, rfl, ?_⟩; have n0_ := Aside0.mk (KeepBut.blk hk (g' := gb181) (o := .cells #[.int .i64 0, .int .i64 0] 32 (0, 0)) (by (with_reducible repeat (first | refine blk_drewN ?_ _ | refine blk_drew ?_ | refine blk_alloc ?_ _)); refine blk_far ?_ NB181_194.out _; (with_reducible repeat (first | refine blk_drewN ?_ _ | refine blk_drew ?_ | refine blk_alloc ?_ _)); refine blk_far ?_ NB181_194.out _; (with_reducible repeat (first | refine blk_drewN ?_ _ | refine blk_drew ?_ | refine blk_alloc ?_ _)); exact BK181.out) NB181_0.out (by simp)); have n1_ := Aside0.mk (KeepBut.blk hk (g' := gb182) (o := .cells #[.int .i64 0, .int .i64 0] 32 (0, 0)) (by (with_reducible repeat (first | refine blk_drewN ?_ _ | refine blk_drew ?_ | refine blk_alloc ?_ _)); refine blk_far ?_ NB182_194.out _; (with_reducible repeat (first | refine blk_drewN ?_ _ | refine blk_drew ?_ | refine blk_alloc ?_ _)); refine blk_far ?_ NB182_194.out _; (with_reducible repeat (first | refine blk_drewN ?_ _ | refine blk_drew ?_ | refine blk_alloc ?_ _)); exact BK182.out) NB182_0.out (by simp)); have n2_ := Aside0.mk (KeepBut.blk hk (g' := gb183) (o := .cells #[.int .i64 0, .int .i64 0] 32 (0, 0)) (by (with_reducible repeat (first | refine blk_drewN ?_ _ | refine blk_drew ?_ | refine blk_alloc ?_ _)); refine blk_far ?_ NB183_194.out _; (with_reducible repeat (first | refine blk_drewN ?_ _ | refine blk_drew ?_ | refine blk_alloc ?_ _)); refine blk_far ?_ NB183_194.out _; (with_reducible repeat (first | refine blk_drewN ?_ _ | refine blk_drew ?_ | refine blk_alloc ?_ _)); exact BK183.out) NB183_0.out (by simp)); have n3_ := Aside0.mk (KeepBut.blk hk (g' := gb184) (o := .cells #[.int .i64 0, .int .i64 0] 32 (0, 0)) (by (with_reducible repeat (first | refine blk_drewN ?_ _ | refine blk_drew ?_ | refine blk_alloc ?_ _)); refine blk_far ?_ NB184_194.out _; (with_reducible repeat (first | refine blk_drewN ?_ _ | refine blk_drew ?_ | refine blk_alloc ?_ _)); refine blk_far ?_ NB184_194.out _; (with_reducible repeat (first | refine blk_drewN ?_ _ | refine blk_drew ?_ | refine blk_alloc ?_ _)); exact BK184.out) NB184_0.out (by simp)); have n4_ := Aside0.mk (KeepBut.blk hk (g' := gb189) (o := .cells #[.int .i64 t185, .int .i64 t186] 32 (0, 0)) (by (with_reducible repeat (first | refine blk_drewN ?_ _ | refine blk_drew ?_ | refine blk_alloc ?_ _)); refine blk_far ?_ NB189_194.out _; (with_reducible repeat (first | refine blk_drewN ?_ _ | refine blk_drew ?_ | refine blk_alloc ?_ _)); refine blk_far ?_ NB189_194.out _; (with_reducible repeat (first | refine blk_drewN ?_ _ | refine blk_drew ?_ | refine blk_alloc ?_ _)); exact BK189.out) NB189_0.out (by simp)); have n5_ := Aside0.mk (KeepBut.blk hk (g' := gb194) (o := .cells #[.int .i64 t190, .int .i64 t191] 32 (0, 0)) (by (with_reducible repeat (first | refine blk_drewN ?_ _ | refine blk_drew ?_ | refine blk_alloc ?_ _)); refine blk_put (cs := #[.int .i64 t190, .int .i64 0]) ?_ 1 _ rfl; (with_reducible repeat (first | refine blk_drewN ?_ _ | refine blk_drew ?_ | refine blk_alloc ?_ _)); refine blk_put (cs := #[.int .i64 0, .int .i64 0]) ?_ 0 _ rfl; (with_reducible repeat (first | refine blk_drewN ?_ _ | refine blk_drew ?_ | refine blk_alloc ?_ _)); exact BK194.out) NB194_0.out (by simp)); have n6_ := Aside0.mk (KeepBut.trans (by repeat (first | (with_reducible first | exact HK.out | apply KeepBut.set_ | apply keep_drewN | apply keep_drew | apply keep_alloc | refine keep_far ?_ GW181.out _ | refine keep_far ?_ GW182.out _ | refine keep_far ?_ GW183.out _ | refine keep_far ?_ GW184.out _ | refine keep_far ?_ GW189.out _ | refine keep_far ?_ GW194.out _) | exact HK.out)) hk (.inl rfl)); have n7_ := Aside0.mk (hb); have n8_ := Aside0.mk (hi); clear BK181; clear BK182; clear BK183; clear BK184; clear BK189; clear BK194; clear HK; clear HB; clear HI0; have BK181 := n0_; have BK182 := n1_; have BK183 := n2_; have BK184 := n3_; have BK189 := n4_; have BK194 := n5_; have HK := n6_; have HB := n7_; have HI0 := n8_; clear n0_ n1_ n2_ n3_ n4_ n5_ n6_ n7_ n8_; (try clear hb); (try clear hb2); (try clear hk); (try clear hi)) | ((with_reducible refine gate_dst (N := 8) rfl ?_); refine box_event ?hg (N := 8) ?hd (cs := #[.int .i64 0, .int .i64 0]) (t := 32) ?hr ?_; (case hd => rfl); (case hg => rfl); (case hr => first | (go_simp; done) | (go_simp; rfl)); intro gb199 hg w30 hbox hb; have n0_ := Aside0.mk (IsS127.below (by repeat (first | (with_reducible first | exact HI0.out | apply IsS127.alloc | apply IsS127.drewN | apply IsS127.drew | apply IsS127.set_1 | apply IsS127.set_2 | refine IsS127.far ?_ NB0_181.out _ | refine IsS127.far ?_ NB0_182.out _ | refine IsS127.far ?_ NB0_183.out _ | refine IsS127.far ?_ NB0_184.out _ | refine IsS127.far ?_ NB0_189.out _ | refine IsS127.far ?_ NB0_194.out _) | exact HI0.out)) hb); have n1_ := Aside0.mk (blk_below (g := gb181) (o := .cells #[.int .i64 0, .int .i64 0] 32 (0, 0)) (by (with_reducible repeat (first | refine blk_drewN ?_ _ | refine blk_drew ?_ | refine blk_alloc ?_ _)); exact BK181.out) hb); have n2_ := Aside0.mk (blk_below (g := gb182) (o := .cells #[.int .i64 0, .int .i64 0] 32 (0, 0)) (by (with_reducible repeat (first | refine blk_drewN ?_ _ | refine blk_drew ?_ | refine blk_alloc ?_ _)); exact BK182.out) hb); have n3_ := Aside0.mk (blk_below (g := gb183) (o := .cells #[.int .i64 0, .int .i64 0] 32 (0, 0)) (by (with_reducible repeat (first | refine blk_drewN ?_ _ | refine blk_drew ?_ | refine blk_alloc ?_ _)); exact BK183.out) hb); have n4_ := Aside0.mk (blk_below (g := gb184) (o := .cells #[.int .i64 0, .int .i64 0] 32 (0, 0)) (by (with_reducible repeat (first | refine blk_drewN ?_ _ | refine blk_drew ?_ | refine blk_alloc ?_ _)); exact BK184.out) hb); have n5_ := Aside0.mk (blk_below (g := gb189) (o := .cells #[.int .i64 t185, .int .i64 t186] 32 (0, 0)) (by (with_reducible repeat (first | refine blk_drewN ?_ _ | refine blk_drew ?_ | refine blk_alloc ?_ _)); exact BK189.out) hb); have n6_ := Aside0.mk (blk_below (g := gb194) (o := .cells #[.int .i64 t190, .int .i64 t191] 32 (0, 0)) (by (with_reducible repeat (first | refine blk_drewN ?_ _ | refine blk_drew ?_ | refine blk_alloc ?_ _)); exact BK194.out) hb); have n7_ := Aside0.mk (KeepBut.trans (by repeat (first | (with_reducible first | exact HK.out | apply KeepBut.set_ | apply keep_drewN | apply keep_drew | apply keep_alloc | refine keep_far ?_ GW181.out _ | refine keep_far ?_ GW182.out _ | refine keep_far ?_ GW183.out _ | refine keep_far ?_ GW184.out _ | refine keep_far ?_ GW189.out _ | refine keep_far ?_ GW194.out _) | exact HK.out)) (KeepBut.of_below hb g none) (.inl rfl)); have n8_ := Aside0.mk (below_step (by repeat (first | (with_reducible first | exact HB.out | apply below_alloc | apply pw_below_drewN | apply below_drew1 | refine below_set ?_ (IsS127.ge HI0.out) | refine below_set ?_ GE181.out | refine below_set ?_ GE182.out | refine below_set ?_ GE183.out | refine below_set ?_ GE184.out | refine below_set ?_ GE189.out | refine below_set ?_ GE194.out) | exact HB.out)) hb); have n9_ := Aside0.mk (hbox); have n10_ := Aside0.mk ((by rw [hg]; exact (keep_size (w := w) (g := g) (row := none) (by repeat (first | (with_reducible first | exact HK.out | apply KeepBut.set_ | apply keep_drewN | apply keep_drew | apply keep_alloc | refine keep_far ?_ GW181.out _ | refine keep_far ?_ GW182.out _ | refine keep_far ?_ GW183.out _ | refine keep_far ?_ GW184.out _ | refine keep_far ?_ GW189.out _ | refine keep_far ?_ GW194.out _) | exact HK.out))) : w.heap.size ≤ gb199)); have n11_ := Aside0.mk ((Nat.le_trans HW0.out (by rw [hg]; exact (keep_size (w := w) (g := g) (row := none) (by repeat (first | (with_reducible first | exact HK.out | apply KeepBut.set_ | apply keep_drewN | apply keep_drew | apply keep_alloc | refine keep_far ?_ GW181.out _ | refine keep_far ?_ GW182.out _ | refine keep_far ?_ GW183.out _ | refine keep_far ?_ GW184.out _ | refine keep_far ?_ GW189.out _ | refine keep_far ?_ GW194.out _) | exact HK.out))) : w.heap.size ≤ gb199) : w0.heap.size ≤ gb199)); have n12_ := Aside0.mk ((by rw [hg]; exact Nat.ne_of_lt (blk_lt (g := gb181) (o := .cells #[.int .i64 0, .int .i64 0] 32 (0, 0)) (by (with_reducible repeat (first | refine blk_drewN ?_ _ | refine blk_drew ?_ | refine blk_alloc ?_ _)); exact BK181.out)) : gb181 ≠ gb199)); have n13_ := Aside0.mk ((by rw [hg]; exact Nat.ne_of_gt (blk_lt (g := gb181) (o := .cells #[.int .i64 0, .int .i64 0] 32 (0, 0)) (by (with_reducible repeat (first | refine blk_drewN ?_ _ | refine blk_drew ?_ | refine blk_alloc ?_ _)); exact BK181.out)) : gb199 ≠ gb181)); have n14_ := Aside0.mk ((by rw [hg]; exact Nat.ne_of_lt (blk_lt (g := gb182) (o := .cells #[.int .i64 0, .int .i64 0] 32 (0, 0)) (by (with_reducible repeat (first | refine blk_drewN ?_ _ | refine blk_drew ?_ | refine blk_alloc ?_ _)); exact BK182.out)) : gb182 ≠ gb199)); have n15_ := Aside0.mk ((by rw [hg]; exact Nat.ne_of_gt (blk_lt (g := gb182) (o := .cells #[.int .i64 0, .int .i64 0] 32 (0, 0)) (by (with_reducible repeat (first | refine blk_drewN ?_ _ | refine blk_drew ?_ | refine blk_alloc ?_ _)); exact BK182.out)) : gb199 ≠ gb182)); have n16_ := Aside0.mk ((by rw [hg]; exact Nat.ne_of_lt (blk_lt (g := gb183) (o := .cells #[.int .i64 0, .int .i64 0] 32 (0, 0)) (by (with_reducible repeat (first | refine blk_drewN ?_ _ | refine blk_drew ?_ | refine blk_alloc ?_ _)); exact BK183.out)) : gb183 ≠ gb199)); have n17_ := Aside0.mk ((by rw [hg]; exact Nat.ne_of_gt (blk_lt (g := gb183) (o := .cells #[.int .i64 0, .int .i64 0] 32 (0, 0)) (by (with_reducible repeat (first | refine blk_drewN ?_ _ | refine blk_drew ?_ | refine blk_alloc ?_ _)); exact BK183.out)) : gb199 ≠ gb183)); have n18_ := Aside0.mk ((by rw [hg]; exact Nat.ne_of_lt (blk_lt (g := gb184) (o := .cells #[.int .i64 0, .int .i64 0] 32 (0, 0)) (by (with_reducible repeat (first | refine blk_drewN ?_ _ | refine blk_drew ?_ | refine blk_alloc ?_ _)); exact BK184.out)) : gb184 ≠ gb199)); have n19_ := Aside0.mk ((by rw [hg]; exact Nat.ne_of_gt (blk_lt (g := gb184) (o := .cells #[.int .i64 0, .int .i64 0] 32 (0, 0)) (by (with_reducible repeat (first | refine blk_drewN ?_ _ | refine blk_drew ?_ | refine blk_alloc ?_ _)); exact BK184.out)) : gb199 ≠ gb184)); have n20_ := Aside0.mk ((by rw [hg]; exact Nat.ne_of_lt (blk_lt (g := gb189) (o := .cells #[.int .i64 t185, .int .i64 t186] 32 (0, 0)) (by (with_reducible repeat (first | refine blk_drewN ?_ _ | refine blk_drew ?_ | refine blk_alloc ?_ _)); exact BK189.out)) : gb189 ≠ gb199)); have n21_ := Aside0.mk ((by rw [hg]; exact Nat.ne_of_gt (blk_lt (g := gb189) (o := .cells #[.int .i64 t185, .int .i64 t186] 32 (0, 0)) (by (with_reducible repeat (first | refine blk_drewN ?_ _ | refine blk_drew ?_ | refine blk_alloc ?_ _)); exact BK189.out)) : gb199 ≠ gb189)); have n22_ := Aside0.mk ((by rw [hg]; exact Nat.ne_of_lt (blk_lt (g := gb194) (o := .cells #[.int .i64 t190, .int .i64 t191] 32 (0, 0)) (by (with_reducible repeat (first | refine blk_drewN ?_ _ | refine blk_drew ?_ | refine blk_alloc ?_ _)); exact BK194.out)) : gb194 ≠ gb199)); have n23_ := Aside0.mk ((by rw [hg]; exact Nat.ne_of_gt (blk_lt (g := gb194) (o := .cells #[.int .i64 t190, .int .i64 t191] 32 (0, 0)) (by (with_reducible repeat (first | refine blk_drewN ?_ _ | refine blk_drew ?_ | refine blk_alloc ?_ _)); exact BK194.out)) : gb199 ≠ gb194)); have n24_ := Aside0.mk ((by rw [hg]; exact Nat.ne_of_lt (IsS127.lt (show IsS127 w0 _ g s0_0 t197 t198 from by repeat (first | (with_reducible first | exact HI0.out | apply IsS127.alloc | apply IsS127.drewN | apply IsS127.drew | apply IsS127.set_1 | apply IsS127.set_2 | refine IsS127.far ?_ NB0_181.out _ | refine IsS127.far ?_ NB0_182.out _ | refine IsS127.far ?_ NB0_183.out _ | refine IsS127.far ?_ NB0_184.out _ | refine IsS127.far ?_ NB0_189.out _ | refine IsS127.far ?_ NB0_194.out _) | exact HI0.out))) : g ≠ gb199)); have n25_ := Aside0.mk ((by rw [hg]; exact Nat.ne_of_gt (IsS127.lt (show IsS127 w0 _ g s0_0 t197 t198 from by repeat (first | (with_reducible first | exact HI0.out | apply IsS127.alloc | apply IsS127.drewN | apply IsS127.drew | apply IsS127.set_1 | apply IsS127.set_2 | refine IsS127.far ?_ NB0_181.out _ | refine IsS127.far ?_ NB0_182.out _ | refine IsS127.far ?_ NB0_183.out _ | refine IsS127.far ?_ NB0_184.out _ | refine IsS127.far ?_ NB0_189.out _ | refine IsS127.far ?_ NB0_194.out _) | exact HI0.out))) : gb199 ≠ g)); clear HI0; clear BK181; clear BK182; clear BK183; clear BK184; clear BK189; clear BK194; clear HK; clear HB; have HI0 := n0_; have BK181 := n1_; have BK182 := n2_; have BK183 := n3_; have BK184 := n4_; have BK189 := n5_; have BK194 := n6_; have HK := n7_; have HB := n8_; have BK199 := n9_; have GW199 := n10_; have GE199 := n11_; have NB181_199 := n12_; have NB199_181 := n13_; have NB182_199 := n14_; have NB199_182 := n15_; have NB183_199 := n16_; have NB199_183 := n17_; have NB184_199 := n18_; have NB199_184 := n19_; have NB189_199 := n20_; have NB199_189 := n21_; have NB194_199 := n22_; have NB199_194 := n23_; have NB0_199 := n24_; have NB199_0 := n25_; clear n0_ n1_ n2_ n3_ n4_ n5_ n6_ n7_ n8_ n9_ n10_ n11_ n12_ n13_ n14_ n15_ n16_ n17_ n18_ n19_ n20_ n21_ n22_ n23_ n24_ n25_; clear hb hbox hg; have hnb31 := NB199_181.out; have hnc31 := NB181_199.out; have hnb32 := NB199_182.out; have hnc32 := NB182_199.out; have hnb33 := NB199_183.out; have hnc33 := NB183_199.out; have hnb34 := NB199_184.out; have hnc34 := NB184_199.out; have hnb35 := NB199_189.out; have hnc35 := NB189_199.out; have hnb36 := NB199_194.out; have hnc36 := NB194_199.out; have hnb37 := NB199_0.out; have hnc37 := NB0_199.out; have hcz38_0 : w30.cell? ⟨gb199, 0, none⟩ = some (.int .i64 0) := (blk_cell BK199.out 0).trans rfl; have hcz38_1 : w30.cell? ⟨gb199, 1, none⟩ = some (.int .i64 0) := (blk_cell BK199.out 1).trans rfl; have hfz38_0 := blk_frozen BK199.out 0; have hfz38_1 := blk_frozen BK199.out 1) | ((with_reducible refine gate_callee (f := 85) rfl ?_); refine goesL_ (some 17) rfl rfl Try.func85 (by kernel_rfl) rfl #[.pointer (some ⟨g, 0, none⟩)] rfl (by (try simp only [List.map_toArray, List.map_cons, List.map_nil]); first | done | rfl | (simp only [List.length_drop, List.length_take]; rfl)) ?_; (with_reducible refine (spec_l3Draw.calls k g s0_0 t197 t198 t200 t201 t202 t203 w0 _ ?side1 ?side2 A5.out).mono ?_); (case side1 => repeat (first | (with_reducible first | exact HI0.out | apply IsS127.alloc | apply IsS127.drewN | apply IsS127.drew | apply IsS127.set_1 | apply IsS127.set_2 | refine IsS127.far ?_ NB0_181.out _ | refine IsS127.far ?_ NB0_182.out _ | refine IsS127.far ?_ NB0_183.out _ | refine IsS127.far ?_ NB0_184.out _ | refine IsS127.far ?_ NB0_189.out _ | refine IsS127.far ?_ NB0_194.out _ | refine IsS127.far ?_ NB0_199.out _) | exact HI0.out)); (case side2 => repeat (first | (with_reducible first | exact HB.out | apply below_alloc | apply pw_below_drewN | apply below_drew1 | refine below_set ?_ (IsS127.ge HI0.out) | refine below_set ?_ GE181.out | refine below_set ?_ GE182.out | refine below_set ?_ GE183.out | refine below_set ?_ GE184.out | refine below_set ?_ GE189.out | refine below_set ?_ GE194.out | refine below_set ?_ GE199.out) | exact HB.out)); rintro e w39 ⟨rfl, hi, hb, hk⟩; refine ⟨_, rfl, ?_⟩; have n0_ := Aside0.mk (KeepBut.blk hk (g' := gb181) (o := .cells #[.int .i64 0, .int .i64 0] 32 (0, 0)) (by (with_reducible repeat (first | refine blk_drewN ?_ _ | refine blk_drew ?_ | refine blk_alloc ?_ _)); refine blk_far ?_ NB181_199.out _; (with_reducible repeat (first | refine blk_drewN ?_ _ | refine blk_drew ?_ | refine blk_alloc ?_ _)); refine blk_far ?_ NB181_199.out _; (with_reducible repeat (first | refine blk_drewN ?_ _ | refine blk_drew ?_ | refine blk_alloc ?_ _)); exact BK181.out) NB181_0.out (by simp)); have n1_ := Aside0.mk (KeepBut.blk hk (g' := gb182) (o := .cells #[.int .i64 0, .int .i64 0] 32 (0, 0)) (by (with_reducible repeat (first | refine blk_drewN ?_ _ | refine blk_drew ?_ | refine blk_alloc ?_ _)); refine blk_far ?_ NB182_199.out _; (with_reducible repeat (first | refine blk_drewN ?_ _ | refine blk_drew ?_ | refine blk_alloc ?_ _)); refine blk_far ?_ NB182_199.out _; (with_reducible repeat (first | refine blk_drewN ?_ _ | refine blk_drew ?_ | refine blk_alloc ?_ _)); exact BK182.out) NB182_0.out (by simp)); have n2_ := Aside0.mk (KeepBut.blk hk (g' := gb183) (o := .cells #[.int .i64 0, .int .i64 0] 32 (0, 0)) (by (with_reducible repeat (first | refine blk_drewN ?_ _ | refine blk_drew ?_ | refine blk_alloc ?_ _)); refine blk_far ?_ NB183_199.out _; (with_reducible repeat (first | refine blk_drewN ?_ _ | refine blk_drew ?_ | refine blk_alloc ?_ _)); refine blk_far ?_ NB183_199.out _; (with_reducible repeat (first | refine blk_drewN ?_ _ | refine blk_drew ?_ | refine blk_alloc ?_ _)); exact BK183.out) NB183_0.out (by simp)); have n3_ := Aside0.mk (KeepBut.blk hk (g' := gb184) (o := .cells #[.int .i64 0, .int .i64 0] 32 (0, 0)) (by (with_reducible repeat (first | refine blk_drewN ?_ _ | refine blk_drew ?_ | refine blk_alloc ?_ _)); refine blk_far ?_ NB184_199.out _; (with_reducible repeat (first | refine blk_drewN ?_ _ | refine blk_drew ?_ | refine blk_alloc ?_ _)); refine blk_far ?_ NB184_199.out _; (with_reducible repeat (first | refine blk_drewN ?_ _ | refine blk_drew ?_ | refine blk_alloc ?_ _)); exact BK184.out) NB184_0.out (by simp)); have n4_ := Aside0.mk (KeepBut.blk hk (g' := gb189) (o := .cells #[.int .i64 t185, .int .i64 t186] 32 (0, 0)) (by (with_reducible repeat (first | refine blk_drewN ?_ _ | refine blk_drew ?_ | refine blk_alloc ?_ _)); refine blk_far ?_ NB189_199.out _; (with_reducible repeat (first | refine blk_drewN ?_ _ | refine blk_drew ?_ | refine blk_alloc ?_ _)); refine blk_far ?_ NB189_199.out _; (with_reducible repeat (first | refine blk_drewN ?_ _ | refine blk_drew ?_ | refine blk_alloc ?_ _)); exact BK189.out) NB189_0.out (by simp)); have n5_ := Aside0.mk (KeepBut.blk hk (g' := gb194) (o := .cells #[.int .i64 t190, .int .i64 t191] 32 (0, 0)) (by (with_reducible repeat (first | refine blk_drewN ?_ _ | refine blk_drew ?_ | refine blk_alloc ?_ _)); refine blk_far ?_ NB194_199.out _; (with_reducible repeat (first | refine blk_drewN ?_ _ | refine blk_drew ?_ | refine blk_alloc ?_ _)); refine blk_far ?_ NB194_199.out _; (with_reducible repeat (first | refine blk_drewN ?_ _ | refine blk_drew ?_ | refine blk_alloc ?_ _)); exact BK194.out) NB194_0.out (by simp)); have n6_ := Aside0.mk (KeepBut.blk hk (g' := gb199) (o := .cells #[.int .i64 t195, .int .i64 t196] 32 (0, 0)) (by (with_reducible repeat (first | refine blk_drewN ?_ _ | refine blk_drew ?_ | refine blk_alloc ?_ _)); refine blk_put (cs := #[.int .i64 t195, .int .i64 0]) ?_ 1 _ rfl; (with_reducible repeat (first | refine blk_drewN ?_ _ | refine blk_drew ?_ | refine blk_alloc ?_ _)); refine blk_put (cs := #[.int .i64 0, .int .i64 0]) ?_ 0 _ rfl; (with_reducible repeat (first | refine blk_drewN ?_ _ | refine blk_drew ?_ | refine blk_alloc ?_ _)); exact BK199.out) NB199_0.out (by simp)); have n7_ := Aside0.mk (KeepBut.trans (by repeat (first | (with_reducible first | exact HK.out | apply KeepBut.set_ | apply keep_drewN | apply keep_drew | apply keep_alloc | refine keep_far ?_ GW181.out _ | refine keep_far ?_ GW182.out _ | refine keep_far ?_ GW183.out _ | refine keep_far ?_ GW184.out _ | refine keep_far ?_ GW189.out _ | refine keep_far ?_ GW194.out _ | refine keep_far ?_ GW199.out _) | exact HK.out)) hk (.inl rfl)); have n8_ := Aside0.mk (hb); have n9_ := Aside0.mk (hi); clear BK181; clear BK182; clear BK183; clear BK184; clear BK189; clear BK194; clear BK199; clear HK; clear HB; clear HI0; have BK181 := n0_; have BK182 := n1_; have BK183 := n2_; have BK184 := n3_; have BK189 := n4_; have BK194 := n5_; have BK199 := n6_; have HK := n7_; have HB := n8_; have HI0 := n9_; clear n0_ n1_ n2_ n3_ n4_ n5_ n6_ n7_ n8_ n9_; (try clear hb); (try clear hb2); (try clear hk); (try clear hi)) | ((with_reducible refine gate_dst (N := 9) rfl ?_); refine box_event ?hg (N := 9) ?hd (cs := #[.int .i64 0, .int .i64 0]) (t := 32) ?hr ?_; (case hd => rfl); (case hg => rfl); (case hr => first | (go_simp; done) | (go_simp; rfl)); intro gb204 hg w40 hbox hb; have n0_ := Aside0.mk (IsS127.below (by repeat (first | (with_reducible first | exact HI0.out | apply IsS127.alloc | apply IsS127.drewN | apply IsS127.drew | apply IsS127.set_1 | apply IsS127.set_2 | refine IsS127.far ?_ NB0_181.out _ | refine IsS127.far ?_ NB0_182.out _ | refine IsS127.far ?_ NB0_183.out _ | refine IsS127.far ?_ NB0_184.out _ | refine IsS127.far ?_ NB0_189.out _ | refine IsS127.far ?_ NB0_194.out _ | refine IsS127.far ?_ NB0_199.out _) | exact HI0.out)) hb); have n1_ := Aside0.mk (blk_below (g := gb181) (o := .cells #[.int .i64 0, .int .i64 0] 32 (0, 0)) (by (with_reducible repeat (first | refine blk_drewN ?_ _ | refine blk_drew ?_ | refine blk_alloc ?_ _)); exact BK181.out) hb); have n2_ := Aside0.mk (blk_below (g := gb182) (o := .cells #[.int .i64 0, .int .i64 0] 32 (0, 0)) (by (with_reducible repeat (first | refine blk_drewN ?_ _ | refine blk_drew ?_ | refine blk_alloc ?_ _)); exact BK182.out) hb); have n3_ := Aside0.mk (blk_below (g := gb183) (o := .cells #[.int .i64 0, .int .i64 0] 32 (0, 0)) (by (with_reducible repeat (first | refine blk_drewN ?_ _ | refine blk_drew ?_ | refine blk_alloc ?_ _)); exact BK183.out) hb); have n4_ := Aside0.mk (blk_below (g := gb184) (o := .cells #[.int .i64 0, .int .i64 0] 32 (0, 0)) (by (with_reducible repeat (first | refine blk_drewN ?_ _ | refine blk_drew ?_ | refine blk_alloc ?_ _)); exact BK184.out) hb); have n5_ := Aside0.mk (blk_below (g := gb189) (o := .cells #[.int .i64 t185, .int .i64 t186] 32 (0, 0)) (by (with_reducible repeat (first | refine blk_drewN ?_ _ | refine blk_drew ?_ | refine blk_alloc ?_ _)); exact BK189.out) hb); have n6_ := Aside0.mk (blk_below (g := gb194) (o := .cells #[.int .i64 t190, .int .i64 t191] 32 (0, 0)) (by (with_reducible repeat (first | refine blk_drewN ?_ _ | refine blk_drew ?_ | refine blk_alloc ?_ _)); exact BK194.out) hb); have n7_ := Aside0.mk (blk_below (g := gb199) (o := .cells #[.int .i64 t195, .int .i64 t196] 32 (0, 0)) (by (with_reducible repeat (first | refine blk_drewN ?_ _ | refine blk_drew ?_ | refine blk_alloc ?_ _)); exact BK199.out) hb); have n8_ := Aside0.mk (KeepBut.trans (by repeat (first | (with_reducible first | exact HK.out | apply KeepBut.set_ | apply keep_drewN | apply keep_drew | apply keep_alloc | refine keep_far ?_ GW181.out _ | refine keep_far ?_ GW182.out _ | refine keep_far ?_ GW183.out _ | refine keep_far ?_ GW184.out _ | refine keep_far ?_ GW189.out _ | refine keep_far ?_ GW194.out _ | refine keep_far ?_ GW199.out _) | exact HK.out)) (KeepBut.of_below hb g none) (.inl rfl)); have n9_ := Aside0.mk (below_step (by repeat (first | (with_reducible first | exact HB.out | apply below_alloc | apply pw_below_drewN | apply below_drew1 | refine below_set ?_ (IsS127.ge HI0.out) | refine below_set ?_ GE181.out | refine below_set ?_ GE182.out | refine below_set ?_ GE183.out | refine below_set ?_ GE184.out | refine below_set ?_ GE189.out | refine below_set ?_ GE194.out | refine below_set ?_ GE199.out) | exact HB.out)) hb); have n10_ := Aside0.mk (hbox); have n11_ := Aside0.mk ((by rw [hg]; exact (keep_size (w := w) (g := g) (row := none) (by repeat (first | (with_reducible first | exact HK.out | apply KeepBut.set_ | apply keep_drewN | apply keep_drew | apply keep_alloc | refine keep_far ?_ GW181.out _ | refine keep_far ?_ GW182.out _ | refine keep_far ?_ GW183.out _ | refine keep_far ?_ GW184.out _ | refine keep_far ?_ GW189.out _ | refine keep_far ?_ GW194.out _ | refine keep_far ?_ GW199.out _) | exact HK.out))) : w.heap.size ≤ gb204)); have n12_ := Aside0.mk ((Nat.le_trans HW0.out (by rw [hg]; exact (keep_size (w := w) (g := g) (row := none) (by repeat (first | (with_reducible first | exact HK.out | apply KeepBut.set_ | apply keep_drewN | apply keep_drew | apply keep_alloc | refine keep_far ?_ GW181.out _ | refine keep_far ?_ GW182.out _ | refine keep_far ?_ GW183.out _ | refine keep_far ?_ GW184.out _ | refine keep_far ?_ GW189.out _ | refine keep_far ?_ GW194.out _ | refine keep_far ?_ GW199.out _) | exact HK.out))) : w.heap.size ≤ gb204) : w0.heap.size ≤ gb204)); have n13_ := Aside0.mk ((by rw [hg]; exact Nat.ne_of_lt (blk_lt (g := gb181) (o := .cells #[.int .i64 0, .int .i64 0] 32 (0, 0)) (by (with_reducible repeat (first | refine blk_drewN ?_ _ | refine blk_drew ?_ | refine blk_alloc ?_ _)); exact BK181.out)) : gb181 ≠ gb204)); have n14_ := Aside0.mk ((by rw [hg]; exact Nat.ne_of_gt (blk_lt (g := gb181) (o := .cells #[.int .i64 0, .int .i64 0] 32 (0, 0)) (by (with_reducible repeat (first | refine blk_drewN ?_ _ | refine blk_drew ?_ | refine blk_alloc ?_ _)); exact BK181.out)) : gb204 ≠ gb181)); have n15_ := Aside0.mk ((by rw [hg]; exact Nat.ne_of_lt (blk_lt (g := gb182) (o := .cells #[.int .i64 0, .int .i64 0] 32 (0, 0)) (by (with_reducible repeat (first | refine blk_drewN ?_ _ | refine blk_drew ?_ | refine blk_alloc ?_ _)); exact BK182.out)) : gb182 ≠ gb204)); have n16_ := Aside0.mk ((by rw [hg]; exact Nat.ne_of_gt (blk_lt (g := gb182) (o := .cells #[.int .i64 0, .int .i64 0] 32 (0, 0)) (by (with_reducible repeat (first | refine blk_drewN ?_ _ | refine blk_drew ?_ | refine blk_alloc ?_ _)); exact BK182.out)) : gb204 ≠ gb182)); have n17_ := Aside0.mk ((by rw [hg]; exact Nat.ne_of_lt (blk_lt (g := gb183) (o := .cells #[.int .i64 0, .int .i64 0] 32 (0, 0)) (by (with_reducible repeat (first | refine blk_drewN ?_ _ | refine blk_drew ?_ | refine blk_alloc ?_ _)); exact BK183.out)) : gb183 ≠ gb204)); have n18_ := Aside0.mk ((by rw [hg]; exact Nat.ne_of_gt (blk_lt (g := gb183) (o := .cells #[.int .i64 0, .int .i64 0] 32 (0, 0)) (by (with_reducible repeat (first | refine blk_drewN ?_ _ | refine blk_drew ?_ | refine blk_alloc ?_ _)); exact BK183.out)) : gb204 ≠ gb183)); have n19_ := Aside0.mk ((by rw [hg]; exact Nat.ne_of_lt (blk_lt (g := gb184) (o := .cells #[.int .i64 0, .int .i64 0] 32 (0, 0)) (by (with_reducible repeat (first | refine blk_drewN ?_ _ | refine blk_drew ?_ | refine blk_alloc ?_ _)); exact BK184.out)) : gb184 ≠ gb204)); have n20_ := Aside0.mk ((by rw [hg]; exact Nat.ne_of_gt (blk_lt (g := gb184) (o := .cells #[.int .i64 0, .int .i64 0] 32 (0, 0)) (by (with_reducible repeat (first | refine blk_drewN ?_ _ | refine blk_drew ?_ | refine blk_alloc ?_ _)); exact BK184.out)) : gb204 ≠ gb184)); have n21_ := Aside0.mk ((by rw [hg]; exact Nat.ne_of_lt (blk_lt (g := gb189) (o := .cells #[.int .i64 t185, .int .i64 t186] 32 (0, 0)) (by (with_reducible repeat (first | refine blk_drewN ?_ _ | refine blk_drew ?_ | refine blk_alloc ?_ _)); exact BK189.out)) : gb189 ≠ gb204)); have n22_ := Aside0.mk ((by rw [hg]; exact Nat.ne_of_gt (blk_lt (g := gb189) (o := .cells #[.int .i64 t185, .int .i64 t186] 32 (0, 0)) (by (with_reducible repeat (first | refine blk_drewN ?_ _ | refine blk_drew ?_ | refine blk_alloc ?_ _)); exact BK189.out)) : gb204 ≠ gb189)); have n23_ := Aside0.mk ((by rw [hg]; exact Nat.ne_of_lt (blk_lt (g := gb194) (o := .cells #[.int .i64 t190, .int .i64 t191] 32 (0, 0)) (by (with_reducible repeat (first | refine blk_drewN ?_ _ | refine blk_drew ?_ | refine blk_alloc ?_ _)); exact BK194.out)) : gb194 ≠ gb204)); have n24_ := Aside0.mk ((by rw [hg]; exact Nat.ne_of_gt (blk_lt (g := gb194) (o := .cells #[.int .i64 t190, .int .i64 t191] 32 (0, 0)) (by (with_reducible repeat (first | refine blk_drewN ?_ _ | refine blk_drew ?_ | refine blk_alloc ?_ _)); exact BK194.out)) : gb204 ≠ gb194)); have n25_ := Aside0.mk ((by rw [hg]; exact Nat.ne_of_lt (blk_lt (g := gb199) (o := .cells #[.int .i64 t195, .int .i64 t196] 32 (0, 0)) (by (with_reducible repeat (first | refine blk_drewN ?_ _ | refine blk_drew ?_ | refine blk_alloc ?_ _)); exact BK199.out)) : gb199 ≠ gb204)); have n26_ := Aside0.mk ((by rw [hg]; exact Nat.ne_of_gt (blk_lt (g := gb199) (o := .cells #[.int .i64 t195, .int .i64 t196] 32 (0, 0)) (by (with_reducible repeat (first | refine blk_drewN ?_ _ | refine blk_drew ?_ | refine blk_alloc ?_ _)); exact BK199.out)) : gb204 ≠ gb199)); have n27_ := Aside0.mk ((by rw [hg]; exact Nat.ne_of_lt (IsS127.lt (show IsS127 w0 _ g s0_0 t202 t203 from by repeat (first | (with_reducible first | exact HI0.out | apply IsS127.alloc | apply IsS127.drewN | apply IsS127.drew | apply IsS127.set_1 | apply IsS127.set_2 | refine IsS127.far ?_ NB0_181.out _ | refine IsS127.far ?_ NB0_182.out _ | refine IsS127.far ?_ NB0_183.out _ | refine IsS127.far ?_ NB0_184.out _ | refine IsS127.far ?_ NB0_189.out _ | refine IsS127.far ?_ NB0_194.out _ | refine IsS127.far ?_ NB0_199.out _) | exact HI0.out))) : g ≠ gb204)); have n28_ := Aside0.mk ((by rw [hg]; exact Nat.ne_of_gt (IsS127.lt (show IsS127 w0 _ g s0_0 t202 t203 from by repeat (first | (with_reducible first | exact HI0.out | apply IsS127.alloc | apply IsS127.drewN | apply IsS127.drew | apply IsS127.set_1 | apply IsS127.set_2 | refine IsS127.far ?_ NB0_181.out _ | refine IsS127.far ?_ NB0_182.out _ | refine IsS127.far ?_ NB0_183.out _ | refine IsS127.far ?_ NB0_184.out _ | refine IsS127.far ?_ NB0_189.out _ | refine IsS127.far ?_ NB0_194.out _ | refine IsS127.far ?_ NB0_199.out _) | exact HI0.out))) : gb204 ≠ g)); clear HI0; clear BK181; clear BK182; clear BK183; clear BK184; clear BK189; clear BK194; clear BK199; clear HK; clear HB; have HI0 := n0_; have BK181 := n1_; have BK182 := n2_; have BK183 := n3_; have BK184 := n4_; have BK189 := n5_; have BK194 := n6_; have BK199 := n7_; have HK := n8_; have HB := n9_; have BK204 := n10_; have GW204 := n11_; have GE204 := n12_; have NB181_204 := n13_; have NB204_181 := n14_; have NB182_204 := n15_; have NB204_182 := n16_; have NB183_204 := n17_; have NB204_183 := n18_; have NB184_204 := n19_; have NB204_184 := n20_; have NB189_204 := n21_; have NB204_189 := n22_; have NB194_204 := n23_; have NB204_194 := n24_; have NB199_204 := n25_; have NB204_199 := n26_; have NB0_204 := n27_; have NB204_0 := n28_; clear n0_ n1_ n2_ n3_ n4_ n5_ n6_ n7_ n8_ n9_ n10_ n11_ n12_ n13_ n14_ n15_ n16_ n17_ n18_ n19_ n20_ n21_ n22_ n23_ n24_ n25_ n26_ n27_ n28_; clear hb hbox hg; have hnb41 := NB204_181.out; have hnc41 := NB181_204.out; have hnb42 := NB204_182.out; have hnc42 := NB182_204.out; have hnb43 := NB204_183.out; have hnc43 := NB183_204.out; have hnb44 := NB204_184.out; have hnc44 := NB184_204.out; have hnb45 := NB204_189.out; have hnc45 := NB189_204.out; have hnb46 := NB204_194.out; have hnc46 := NB194_204.out; have hnb47 := NB204_199.out; have hnc47 := NB199_204.out; have hnb48 := NB204_0.out; have hnc48 := NB0_204.out; have hcz49_0 : w40.cell? ⟨gb204, 0, none⟩ = some (.int .i64 0) := (blk_cell BK204.out 0).trans rfl; have hcz49_1 : w40.cell? ⟨gb204, 1, none⟩ = some (.int .i64 0) := (blk_cell BK204.out 1).trans rfl; have hfz49_0 := blk_frozen BK204.out 0; have hfz49_1 := blk_frozen BK204.out 1) | ((with_reducible refine gate_callee (f := 115) rfl ?_); refine Aside0.out ?_))
  by_cases c7 : t205 = 0
  · rw [if_pos c7] at H
    have c7b0 : (t205 == 0) = true := beq_iff_eq.mpr c7
    have c7b1 : (t205 != 0) = false := bne_eq_false_iff_eq.mpr c7
    clear c7
    simp only [Option.some.injEq, Prod.mk.injEq] at H
    obtain ⟨rfl, rfl, rfl, rfl, rfl, rfl, rfl, rfl, rfl, rfl⟩ := H
    refine Aside0.mk ?_
    (refine goesL_ (some 19) rfl rfl Try.func115 (by kernel_rfl) rfl #[.pointer (some ⟨g, 0, none⟩), .int .i64 8] rfl (by (try simp only [List.map_toArray, List.map_cons, List.map_nil]); first | done | rfl | (simp only [List.length_drop, List.length_take]; rfl)) ?_; (with_reducible refine (spec_l1Below.calls g s0_0 t202 t203 8 t205 t206 t207 w0 _ ?side1 ?side2 A6.out).mono ?_); (case side1 => repeat (first | (with_reducible first | exact HI0.out | apply IsS127.alloc | apply IsS127.drewN | apply IsS127.drew | apply IsS127.set_1 | apply IsS127.set_2 | refine IsS127.far ?_ NB0_181.out _ | refine IsS127.far ?_ NB0_182.out _ | refine IsS127.far ?_ NB0_183.out _ | refine IsS127.far ?_ NB0_184.out _ | refine IsS127.far ?_ NB0_189.out _ | refine IsS127.far ?_ NB0_194.out _ | refine IsS127.far ?_ NB0_199.out _ | refine IsS127.far ?_ NB0_204.out _) | exact HI0.out)); (case side2 => repeat (first | (with_reducible first | exact HB.out | apply below_alloc | apply pw_below_drewN | apply below_drew1 | refine below_set ?_ (IsS127.ge HI0.out) | refine below_set ?_ GE181.out | refine below_set ?_ GE182.out | refine below_set ?_ GE183.out | refine below_set ?_ GE184.out | refine below_set ?_ GE189.out | refine below_set ?_ GE194.out | refine below_set ?_ GE199.out | refine below_set ?_ GE204.out) | exact HB.out)); rintro e w50 ⟨rfl, hi, hb, hk⟩; refine ⟨_, rfl, ?_⟩; have n0_ := Aside0.mk (KeepBut.blk hk (g' := gb181) (o := .cells #[.int .i64 0, .int .i64 0] 32 (0, 0)) (by (with_reducible repeat (first | refine blk_drewN ?_ _ | refine blk_drew ?_ | refine blk_alloc ?_ _)); refine blk_far ?_ NB181_204.out _; (with_reducible repeat (first | refine blk_drewN ?_ _ | refine blk_drew ?_ | refine blk_alloc ?_ _)); refine blk_far ?_ NB181_204.out _; (with_reducible repeat (first | refine blk_drewN ?_ _ | refine blk_drew ?_ | refine blk_alloc ?_ _)); exact BK181.out) NB181_0.out (by simp)); have n1_ := Aside0.mk (KeepBut.blk hk (g' := gb182) (o := .cells #[.int .i64 0, .int .i64 0] 32 (0, 0)) (by (with_reducible repeat (first | refine blk_drewN ?_ _ | refine blk_drew ?_ | refine blk_alloc ?_ _)); refine blk_far ?_ NB182_204.out _; (with_reducible repeat (first | refine blk_drewN ?_ _ | refine blk_drew ?_ | refine blk_alloc ?_ _)); refine blk_far ?_ NB182_204.out _; (with_reducible repeat (first | refine blk_drewN ?_ _ | refine blk_drew ?_ | refine blk_alloc ?_ _)); exact BK182.out) NB182_0.out (by simp)); have n2_ := Aside0.mk (KeepBut.blk hk (g' := gb183) (o := .cells #[.int .i64 0, .int .i64 0] 32 (0, 0)) (by (with_reducible repeat (first | refine blk_drewN ?_ _ | refine blk_drew ?_ | refine blk_alloc ?_ _)); refine blk_far ?_ NB183_204.out _; (with_reducible repeat (first | refine blk_drewN ?_ _ | refine blk_drew ?_ | refine blk_alloc ?_ _)); refine blk_far ?_ NB183_204.out _; (with_reducible repeat (first | refine blk_drewN ?_ _ | refine blk_drew ?_ | refine blk_alloc ?_ _)); exact BK183.out) NB183_0.out (by simp)); have n3_ := Aside0.mk (KeepBut.blk hk (g' := gb184) (o := .cells #[.int .i64 0, .int .i64 0] 32 (0, 0)) (by (with_reducible repeat (first | refine blk_drewN ?_ _ | refine blk_drew ?_ | refine blk_alloc ?_ _)); refine blk_far ?_ NB184_204.out _; (with_reducible repeat (first | refine blk_drewN ?_ _ | refine blk_drew ?_ | refine blk_alloc ?_ _)); refine blk_far ?_ NB184_204.out _; (with_reducible repeat (first | refine blk_drewN ?_ _ | refine blk_drew ?_ | refine blk_alloc ?_ _)); exact BK184.out) NB184_0.out (by simp)); have n4_ := Aside0.mk (KeepBut.blk hk (g' := gb189) (o := .cells #[.int .i64 t185, .int .i64 t186] 32 (0, 0)) (by (with_reducible repeat (first | refine blk_drewN ?_ _ | refine blk_drew ?_ | refine blk_alloc ?_ _)); refine blk_far ?_ NB189_204.out _; (with_reducible repeat (first | refine blk_drewN ?_ _ | refine blk_drew ?_ | refine blk_alloc ?_ _)); refine blk_far ?_ NB189_204.out _; (with_reducible repeat (first | refine blk_drewN ?_ _ | refine blk_drew ?_ | refine blk_alloc ?_ _)); exact BK189.out) NB189_0.out (by simp)); have n5_ := Aside0.mk (KeepBut.blk hk (g' := gb194) (o := .cells #[.int .i64 t190, .int .i64 t191] 32 (0, 0)) (by (with_reducible repeat (first | refine blk_drewN ?_ _ | refine blk_drew ?_ | refine blk_alloc ?_ _)); refine blk_far ?_ NB194_204.out _; (with_reducible repeat (first | refine blk_drewN ?_ _ | refine blk_drew ?_ | refine blk_alloc ?_ _)); refine blk_far ?_ NB194_204.out _; (with_reducible repeat (first | refine blk_drewN ?_ _ | refine blk_drew ?_ | refine blk_alloc ?_ _)); exact BK194.out) NB194_0.out (by simp)); have n6_ := Aside0.mk (KeepBut.blk hk (g' := gb199) (o := .cells #[.int .i64 t195, .int .i64 t196] 32 (0, 0)) (by (with_reducible repeat (first | refine blk_drewN ?_ _ | refine blk_drew ?_ | refine blk_alloc ?_ _)); refine blk_far ?_ NB199_204.out _; (with_reducible repeat (first | refine blk_drewN ?_ _ | refine blk_drew ?_ | refine blk_alloc ?_ _)); refine blk_far ?_ NB199_204.out _; (with_reducible repeat (first | refine blk_drewN ?_ _ | refine blk_drew ?_ | refine blk_alloc ?_ _)); exact BK199.out) NB199_0.out (by simp)); have n7_ := Aside0.mk (KeepBut.blk hk (g' := gb204) (o := .cells #[.int .i64 t200, .int .i64 t201] 32 (0, 0)) (by (with_reducible repeat (first | refine blk_drewN ?_ _ | refine blk_drew ?_ | refine blk_alloc ?_ _)); refine blk_put (cs := #[.int .i64 t200, .int .i64 0]) ?_ 1 _ rfl; (with_reducible repeat (first | refine blk_drewN ?_ _ | refine blk_drew ?_ | refine blk_alloc ?_ _)); refine blk_put (cs := #[.int .i64 0, .int .i64 0]) ?_ 0 _ rfl; (with_reducible repeat (first | refine blk_drewN ?_ _ | refine blk_drew ?_ | refine blk_alloc ?_ _)); exact BK204.out) NB204_0.out (by simp)); have n8_ := Aside0.mk (KeepBut.trans (by repeat (first | (with_reducible first | exact HK.out | apply KeepBut.set_ | apply keep_drewN | apply keep_drew | apply keep_alloc | refine keep_far ?_ GW181.out _ | refine keep_far ?_ GW182.out _ | refine keep_far ?_ GW183.out _ | refine keep_far ?_ GW184.out _ | refine keep_far ?_ GW189.out _ | refine keep_far ?_ GW194.out _ | refine keep_far ?_ GW199.out _ | refine keep_far ?_ GW204.out _) | exact HK.out)) hk (.inl rfl)); have n9_ := Aside0.mk (hb); have n10_ := Aside0.mk (hi); clear BK181; clear BK182; clear BK183; clear BK184; clear BK189; clear BK194; clear BK199; clear BK204; clear HK; clear HB; clear HI0; have BK181 := n0_; have BK182 := n1_; have BK183 := n2_; have BK184 := n3_; have BK189 := n4_; have BK194 := n5_; have BK199 := n6_; have BK204 := n7_; have HK := n8_; have HB := n9_; have HI0 := n10_; clear n0_ n1_ n2_ n3_ n4_ n5_ n6_ n7_ n8_ n9_ n10_; (try clear hb); (try clear hb2); (try clear hk); (try clear hi); have hcz51_0 : w50.cell? ⟨gb189, 0, none⟩ = some (.int .i64 t185) := (blk_cell BK189.out 0).trans rfl; have hcz51_1 : w50.cell? ⟨gb189, 1, none⟩ = some (.int .i64 t186) := (blk_cell BK189.out 1).trans rfl; have hfz51_0 := blk_frozen BK189.out 0; have hfz51_1 := blk_frozen BK189.out 1; have hcz52_0 : w50.cell? ⟨gb199, 0, none⟩ = some (.int .i64 t195) := (blk_cell BK199.out 0).trans rfl; have hcz52_1 : w50.cell? ⟨gb199, 1, none⟩ = some (.int .i64 t196) := (blk_cell BK199.out 1).trans rfl; have hfz52_0 := blk_frozen BK199.out 0; have hfz52_1 := blk_frozen BK199.out 1)
    try go_wp2
    have n0_ : Aside0 (((w50.setCell ⟨gb199, 0, none⟩ (.int .i64 t185)).setCell ⟨gb199, 1, none⟩ (.int .i64 t186)).heap[gb181]? = some (.cells #[.int .i64 0, .int .i64 0] 32 (0, 0))) := ⟨by (with_reducible repeat (first | refine blk_drewN ?_ _ | refine blk_drew ?_ | refine blk_alloc ?_ _)); refine blk_far ?_ NB181_199.out _; (with_reducible repeat (first | refine blk_drewN ?_ _ | refine blk_drew ?_ | refine blk_alloc ?_ _)); refine blk_far ?_ NB181_199.out _; (with_reducible repeat (first | refine blk_drewN ?_ _ | refine blk_drew ?_ | refine blk_alloc ?_ _)); exact BK181.out⟩
    have n1_ : Aside0 (((w50.setCell ⟨gb199, 0, none⟩ (.int .i64 t185)).setCell ⟨gb199, 1, none⟩ (.int .i64 t186)).heap[gb182]? = some (.cells #[.int .i64 0, .int .i64 0] 32 (0, 0))) := ⟨by (with_reducible repeat (first | refine blk_drewN ?_ _ | refine blk_drew ?_ | refine blk_alloc ?_ _)); refine blk_far ?_ NB182_199.out _; (with_reducible repeat (first | refine blk_drewN ?_ _ | refine blk_drew ?_ | refine blk_alloc ?_ _)); refine blk_far ?_ NB182_199.out _; (with_reducible repeat (first | refine blk_drewN ?_ _ | refine blk_drew ?_ | refine blk_alloc ?_ _)); exact BK182.out⟩
    have n2_ : Aside0 (((w50.setCell ⟨gb199, 0, none⟩ (.int .i64 t185)).setCell ⟨gb199, 1, none⟩ (.int .i64 t186)).heap[gb183]? = some (.cells #[.int .i64 0, .int .i64 0] 32 (0, 0))) := ⟨by (with_reducible repeat (first | refine blk_drewN ?_ _ | refine blk_drew ?_ | refine blk_alloc ?_ _)); refine blk_far ?_ NB183_199.out _; (with_reducible repeat (first | refine blk_drewN ?_ _ | refine blk_drew ?_ | refine blk_alloc ?_ _)); refine blk_far ?_ NB183_199.out _; (with_reducible repeat (first | refine blk_drewN ?_ _ | refine blk_drew ?_ | refine blk_alloc ?_ _)); exact BK183.out⟩
    have n3_ : Aside0 (((w50.setCell ⟨gb199, 0, none⟩ (.int .i64 t185)).setCell ⟨gb199, 1, none⟩ (.int .i64 t186)).heap[gb184]? = some (.cells #[.int .i64 0, .int .i64 0] 32 (0, 0))) := ⟨by (with_reducible repeat (first | refine blk_drewN ?_ _ | refine blk_drew ?_ | refine blk_alloc ?_ _)); refine blk_far ?_ NB184_199.out _; (with_reducible repeat (first | refine blk_drewN ?_ _ | refine blk_drew ?_ | refine blk_alloc ?_ _)); refine blk_far ?_ NB184_199.out _; (with_reducible repeat (first | refine blk_drewN ?_ _ | refine blk_drew ?_ | refine blk_alloc ?_ _)); exact BK184.out⟩
    have n4_ : Aside0 (((w50.setCell ⟨gb199, 0, none⟩ (.int .i64 t185)).setCell ⟨gb199, 1, none⟩ (.int .i64 t186)).heap[gb189]? = some (.cells #[.int .i64 t185, .int .i64 t186] 32 (0, 0))) := ⟨by (with_reducible repeat (first | refine blk_drewN ?_ _ | refine blk_drew ?_ | refine blk_alloc ?_ _)); refine blk_far ?_ NB189_199.out _; (with_reducible repeat (first | refine blk_drewN ?_ _ | refine blk_drew ?_ | refine blk_alloc ?_ _)); refine blk_far ?_ NB189_199.out _; (with_reducible repeat (first | refine blk_drewN ?_ _ | refine blk_drew ?_ | refine blk_alloc ?_ _)); exact BK189.out⟩
    have n5_ : Aside0 (((w50.setCell ⟨gb199, 0, none⟩ (.int .i64 t185)).setCell ⟨gb199, 1, none⟩ (.int .i64 t186)).heap[gb194]? = some (.cells #[.int .i64 t190, .int .i64 t191] 32 (0, 0))) := ⟨by (with_reducible repeat (first | refine blk_drewN ?_ _ | refine blk_drew ?_ | refine blk_alloc ?_ _)); refine blk_far ?_ NB194_199.out _; (with_reducible repeat (first | refine blk_drewN ?_ _ | refine blk_drew ?_ | refine blk_alloc ?_ _)); refine blk_far ?_ NB194_199.out _; (with_reducible repeat (first | refine blk_drewN ?_ _ | refine blk_drew ?_ | refine blk_alloc ?_ _)); exact BK194.out⟩
    have n6_ : Aside0 (((w50.setCell ⟨gb199, 0, none⟩ (.int .i64 t185)).setCell ⟨gb199, 1, none⟩ (.int .i64 t186)).heap[gb199]? = some (.cells #[.int .i64 t185, .int .i64 t186] 32 (0, 0))) := ⟨by (with_reducible repeat (first | refine blk_drewN ?_ _ | refine blk_drew ?_ | refine blk_alloc ?_ _)); refine blk_put (cs := #[.int .i64 t185, .int .i64 t196]) ?_ 1 _ rfl; (with_reducible repeat (first | refine blk_drewN ?_ _ | refine blk_drew ?_ | refine blk_alloc ?_ _)); refine blk_put (cs := #[.int .i64 t195, .int .i64 t196]) ?_ 0 _ rfl; (with_reducible repeat (first | refine blk_drewN ?_ _ | refine blk_drew ?_ | refine blk_alloc ?_ _)); exact BK199.out⟩
    have n7_ : Aside0 (((w50.setCell ⟨gb199, 0, none⟩ (.int .i64 t185)).setCell ⟨gb199, 1, none⟩ (.int .i64 t186)).heap[gb204]? = some (.cells #[.int .i64 t200, .int .i64 t201] 32 (0, 0))) := ⟨by (with_reducible repeat (first | refine blk_drewN ?_ _ | refine blk_drew ?_ | refine blk_alloc ?_ _)); refine blk_far ?_ NB204_199.out _; (with_reducible repeat (first | refine blk_drewN ?_ _ | refine blk_drew ?_ | refine blk_alloc ?_ _)); refine blk_far ?_ NB204_199.out _; (with_reducible repeat (first | refine blk_drewN ?_ _ | refine blk_drew ?_ | refine blk_alloc ?_ _)); exact BK204.out⟩
    have n8_ : Aside0 (IsS127 w0 ((w50.setCell ⟨gb199, 0, none⟩ (.int .i64 t185)).setCell ⟨gb199, 1, none⟩ (.int .i64 t186)) g s0_0 t206 t207) := ⟨by repeat (first | (with_reducible first | exact HI0.out | apply IsS127.alloc | apply IsS127.drewN | apply IsS127.drew | apply IsS127.set_1 | apply IsS127.set_2 | refine IsS127.far ?_ NB0_181.out _ | refine IsS127.far ?_ NB0_182.out _ | refine IsS127.far ?_ NB0_183.out _ | refine IsS127.far ?_ NB0_184.out _ | refine IsS127.far ?_ NB0_189.out _ | refine IsS127.far ?_ NB0_194.out _ | refine IsS127.far ?_ NB0_199.out _ | refine IsS127.far ?_ NB0_204.out _) | exact HI0.out)⟩
    have n9_ : Aside0 (KeepBut w ((w50.setCell ⟨gb199, 0, none⟩ (.int .i64 t185)).setCell ⟨gb199, 1, none⟩ (.int .i64 t186)) g none) := ⟨by repeat (first | (with_reducible first | exact HK.out | apply KeepBut.set_ | apply keep_drewN | apply keep_drew | apply keep_alloc | refine keep_far ?_ GW181.out _ | refine keep_far ?_ GW182.out _ | refine keep_far ?_ GW183.out _ | refine keep_far ?_ GW184.out _ | refine keep_far ?_ GW189.out _ | refine keep_far ?_ GW194.out _ | refine keep_far ?_ GW199.out _ | refine keep_far ?_ GW204.out _) | exact HK.out)⟩
    have n10_ : Aside0 (Below w0.heap.size w0 ((w50.setCell ⟨gb199, 0, none⟩ (.int .i64 t185)).setCell ⟨gb199, 1, none⟩ (.int .i64 t186))) := ⟨by repeat (first | (with_reducible first | exact HB.out | apply below_alloc | apply pw_below_drewN | apply below_drew1 | refine below_set ?_ (IsS127.ge HI0.out) | refine below_set ?_ GE181.out | refine below_set ?_ GE182.out | refine below_set ?_ GE183.out | refine below_set ?_ GE184.out | refine below_set ?_ GE189.out | refine below_set ?_ GE194.out | refine below_set ?_ GE199.out | refine below_set ?_ GE204.out) | exact HB.out)⟩
    (try clear BK181)
    (try clear BK182)
    (try clear BK183)
    (try clear BK184)
    (try clear BK189)
    (try clear BK194)
    (try clear BK199)
    (try clear BK204)
    (try clear HI0)
    (try clear HK)
    (try clear HB)
    generalize ((w50.setCell ⟨gb199, 0, none⟩ (.int .i64 t185)).setCell ⟨gb199, 1, none⟩ (.int .i64 t186)) = w53 at n0_ n1_ n2_ n3_ n4_ n5_ n6_ n7_ n8_ n9_ n10_ ⊢
    have BK181 := n0_
    have BK182 := n1_
    have BK183 := n2_
    have BK184 := n3_
    have BK189 := n4_
    have BK194 := n5_
    have BK199 := n6_
    have BK204 := n7_
    have HI0 := n8_
    have HK := n9_
    have HB := n10_
    clear n0_ n1_ n2_ n3_ n4_ n5_ n6_ n7_ n8_ n9_ n10_
    have n0_ := Aside0.mk (blk_drew BK181.out)
    have n1_ := Aside0.mk (blk_drew BK182.out)
    have n2_ := Aside0.mk (blk_drew BK183.out)
    have n3_ := Aside0.mk (blk_drew BK184.out)
    have n4_ := Aside0.mk (blk_drew BK189.out)
    have n5_ := Aside0.mk (blk_drew BK194.out)
    have n6_ := Aside0.mk (blk_drew BK199.out)
    have n7_ := Aside0.mk (blk_drew BK204.out)
    have n8_ := Aside0.mk (IsS127.drew HI0.out)
    have n9_ := Aside0.mk (keep_drew HK.out)
    have n10_ := Aside0.mk (below_drew1 HB.out)
    clear BK181
    clear BK182
    clear BK183
    clear BK184
    clear BK189
    clear BK194
    clear BK199
    clear BK204
    clear HI0
    clear HK
    clear HB
    have BK181 := n0_
    have BK182 := n1_
    have BK183 := n2_
    have BK184 := n3_
    have BK189 := n4_
    have BK194 := n5_
    have BK199 := n6_
    have BK204 := n7_
    have HI0 := n8_
    have HK := n9_
    have HB := n10_
    clear n0_ n1_ n2_ n3_ n4_ n5_ n6_ n7_ n8_ n9_ n10_
    refine start_ (n := 8) (S := fun w' => w'.cell? ⟨gb189, 0, none⟩ = some (.int .i64 t185) ∧ w'.cell? ⟨gb189, 1, none⟩ = some (.int .i64 t186) ∧ w'.cell? ⟨gb194, 0, none⟩ = some (.int .i64 t190) ∧ w'.cell? ⟨gb194, 1, none⟩ = some (.int .i64 t191) ∧ w'.cell? ⟨gb199, 0, none⟩ = some (.int .i64 t185) ∧ w'.cell? ⟨gb199, 1, none⟩ = some (.int .i64 t186) ∧ w'.cell? ⟨gb204, 0, none⟩ = some (.int .i64 t200) ∧ w'.cell? ⟨gb204, 1, none⟩ = some (.int .i64 t201)) (ds := []) #[false, false, false, false, false, false, false, false] (by kernel_rfl) rfl rfl ⟨(blk_cell BK189.out 0).trans rfl, (blk_cell BK189.out 1).trans rfl, (blk_cell BK194.out 0).trans rfl, (blk_cell BK194.out 1).trans rfl, (blk_cell BK199.out 0).trans rfl, (blk_cell BK199.out 1).trans rfl, (blk_cell BK204.out 0).trans rfl, (blk_cell BK204.out 1).trans rfl⟩ (fun hHeld => ?_); refine with_tabW spec_l3Four.tab12 spec_l3Four.bits12 (fun HT_ HW_ => ?_)
    generalize w53.drew = w54 at BK181 BK182 BK183 BK184 BK189 BK194 BK199 BK204 HI0 HK HB hHeld ⊢
    refine take_ (i := 0) (N := some 47) (v := ?_) (a' := ?_) #[true, false, false, false, false, false, false, false] rfl rfl (take_ofW HT_.out HW_.out (by kernel_rfl)) (fun _ _ _ h => h) (Or.inl ⟨by rfl, ?_⟩) hHeld ?_ ?_
    rotate_left
    · rintro w' ⟨s0, s1, s2, s3, s4, s5, s6, s7⟩
      go_simp
      with_reducible rfl
    rotate_left
    · simp only [Act.put, List.setIfInBounds_toArray, List.set_cons_zero, List.set_cons_succ, i64_w, i32_w]
      rfl
    refine take_ (i := 1) (N := some 48) (v := ?_) (a' := ?_) #[true, true, false, false, false, false, false, false] rfl rfl (take_ofW HT_.out HW_.out (by kernel_rfl)) (fun _ _ _ h => h) (Or.inl ⟨by rfl, ?_⟩) hHeld ?_ ?_
    rotate_left
    · rintro w' ⟨s0, s1, s2, s3, s4, s5, s6, s7⟩
      go_simp
      with_reducible rfl
    rotate_left
    · simp only [Act.put, List.setIfInBounds_toArray, List.set_cons_zero, List.set_cons_succ, i64_w, i32_w]
      rfl
    refine take_ (i := 2) (N := some 49) (v := ?_) (a' := ?_) #[true, true, true, false, false, false, false, false] rfl rfl (take_ofW HT_.out HW_.out (by kernel_rfl)) (fun _ _ _ h => h) (Or.inl ⟨by rfl, ?_⟩) hHeld ?_ ?_
    rotate_left
    · rintro w' ⟨s0, s1, s2, s3, s4, s5, s6, s7⟩
      go_simp
      with_reducible rfl
    rotate_left
    · simp only [Act.put, List.setIfInBounds_toArray, List.set_cons_zero, List.set_cons_succ, i64_w, i32_w]
      rfl
    refine take_ (i := 3) (N := some 50) (v := ?_) (a' := ?_) #[true, true, true, true, false, false, false, false] rfl rfl (take_ofW HT_.out HW_.out (by kernel_rfl)) (fun _ _ _ h => h) (Or.inl ⟨by rfl, ?_⟩) hHeld ?_ ?_
    rotate_left
    · rintro w' ⟨s0, s1, s2, s3, s4, s5, s6, s7⟩
      go_simp
      with_reducible rfl
    rotate_left
    · simp only [Act.put, List.setIfInBounds_toArray, List.set_cons_zero, List.set_cons_succ, i64_w, i32_w]
      rfl
    refine one_ (i := 4) (N := none) #[true, true, true, true, true, false, false, false] rfl rfl (one_of HT_.out (by kernel_rfl)) (by decide) (fun K hK => ?_)
    have hs55 : w54.cell? ⟨gb181, 0, none⟩ = some (.int .i64 0) := (blk_cell BK181.out 0).trans rfl
    have hfs55 := blk_frozen BK181.out 0
    have hns55_1 := NB182_181.out
    have hns55_2 := NB183_181.out
    have hns55_3 := NB184_181.out
    have hns55_4 := NB189_181.out
    have hns55_5 := NB194_181.out
    have hns55_6 := NB199_181.out
    have hns55_7 := NB204_181.out
    have hms55_1 := NB181_182.out
    have hms55_2 := NB181_183.out
    have hms55_3 := NB181_184.out
    have hms55_4 := NB181_189.out
    have hms55_5 := NB181_194.out
    have hms55_6 := NB181_199.out
    have hms55_7 := NB181_204.out
    have hs56 : w54.cell? ⟨gb181, 1, none⟩ = some (.int .i64 0) := (blk_cell BK181.out 1).trans rfl
    have hfs56 := blk_frozen BK181.out 1
    have hns56_1 := NB182_181.out
    have hns56_2 := NB183_181.out
    have hns56_3 := NB184_181.out
    have hns56_4 := NB189_181.out
    have hns56_5 := NB194_181.out
    have hns56_6 := NB199_181.out
    have hns56_7 := NB204_181.out
    have hms56_1 := NB181_182.out
    have hms56_2 := NB181_183.out
    have hms56_3 := NB181_184.out
    have hms56_4 := NB181_189.out
    have hms56_5 := NB181_194.out
    have hms56_6 := NB181_199.out
    have hms56_7 := NB181_204.out
    refine skip_ (w1 := ?_) (by rfl) rfl ?_ ?_
    rotate_left
    · go_simp
      rfl
    refine hK.out _ _ ⟨((cell_far (p := ⟨gb181, _, none⟩) NB189_181.out _).trans (((cell_far (p := ⟨gb181, _, none⟩) NB189_181.out _).trans (hHeld.1)))), ((cell_far (p := ⟨gb181, _, none⟩) NB189_181.out _).trans (((cell_far (p := ⟨gb181, _, none⟩) NB189_181.out _).trans (hHeld.2.1)))), ((cell_far (p := ⟨gb181, _, none⟩) NB194_181.out _).trans (((cell_far (p := ⟨gb181, _, none⟩) NB194_181.out _).trans (hHeld.2.2.1)))), ((cell_far (p := ⟨gb181, _, none⟩) NB194_181.out _).trans (((cell_far (p := ⟨gb181, _, none⟩) NB194_181.out _).trans (hHeld.2.2.2.1)))), ((cell_far (p := ⟨gb181, _, none⟩) NB199_181.out _).trans (((cell_far (p := ⟨gb181, _, none⟩) NB199_181.out _).trans (hHeld.2.2.2.2.1)))), ((cell_far (p := ⟨gb181, _, none⟩) NB199_181.out _).trans (((cell_far (p := ⟨gb181, _, none⟩) NB199_181.out _).trans (hHeld.2.2.2.2.2.1)))), ((cell_far (p := ⟨gb181, _, none⟩) NB204_181.out _).trans (((cell_far (p := ⟨gb181, _, none⟩) NB204_181.out _).trans (hHeld.2.2.2.2.2.2.1)))), ((cell_far (p := ⟨gb181, _, none⟩) NB204_181.out _).trans (((cell_far (p := ⟨gb181, _, none⟩) NB204_181.out _).trans (hHeld.2.2.2.2.2.2.2))))⟩ (fun hHeld => ?_)
    clear hK K
    refine one_ (i := 5) (N := none) #[true, true, true, true, true, true, false, false] rfl rfl (one_of HT_.out (by kernel_rfl)) (by decide) (fun K hK => ?_)
    have hs57 : w54.cell? ⟨gb182, 0, none⟩ = some (.int .i64 0) := (blk_cell BK182.out 0).trans rfl
    have hfs57 := blk_frozen BK182.out 0
    have hns57_0 := NB181_182.out
    have hns57_2 := NB183_182.out
    have hns57_3 := NB184_182.out
    have hns57_4 := NB189_182.out
    have hns57_5 := NB194_182.out
    have hns57_6 := NB199_182.out
    have hns57_7 := NB204_182.out
    have hms57_0 := NB182_181.out
    have hms57_2 := NB182_183.out
    have hms57_3 := NB182_184.out
    have hms57_4 := NB182_189.out
    have hms57_5 := NB182_194.out
    have hms57_6 := NB182_199.out
    have hms57_7 := NB182_204.out
    have hs58 : w54.cell? ⟨gb182, 1, none⟩ = some (.int .i64 0) := (blk_cell BK182.out 1).trans rfl
    have hfs58 := blk_frozen BK182.out 1
    have hns58_0 := NB181_182.out
    have hns58_2 := NB183_182.out
    have hns58_3 := NB184_182.out
    have hns58_4 := NB189_182.out
    have hns58_5 := NB194_182.out
    have hns58_6 := NB199_182.out
    have hns58_7 := NB204_182.out
    have hms58_0 := NB182_181.out
    have hms58_2 := NB182_183.out
    have hms58_3 := NB182_184.out
    have hms58_4 := NB182_189.out
    have hms58_5 := NB182_194.out
    have hms58_6 := NB182_199.out
    have hms58_7 := NB182_204.out
    refine skip_ (w1 := ?_) (by rfl) rfl ?_ ?_
    rotate_left
    · go_simp
      rfl
    refine hK.out _ _ ⟨((cell_far (p := ⟨gb182, _, none⟩) NB189_182.out _).trans (((cell_far (p := ⟨gb182, _, none⟩) NB189_182.out _).trans (hHeld.1)))), ((cell_far (p := ⟨gb182, _, none⟩) NB189_182.out _).trans (((cell_far (p := ⟨gb182, _, none⟩) NB189_182.out _).trans (hHeld.2.1)))), ((cell_far (p := ⟨gb182, _, none⟩) NB194_182.out _).trans (((cell_far (p := ⟨gb182, _, none⟩) NB194_182.out _).trans (hHeld.2.2.1)))), ((cell_far (p := ⟨gb182, _, none⟩) NB194_182.out _).trans (((cell_far (p := ⟨gb182, _, none⟩) NB194_182.out _).trans (hHeld.2.2.2.1)))), ((cell_far (p := ⟨gb182, _, none⟩) NB199_182.out _).trans (((cell_far (p := ⟨gb182, _, none⟩) NB199_182.out _).trans (hHeld.2.2.2.2.1)))), ((cell_far (p := ⟨gb182, _, none⟩) NB199_182.out _).trans (((cell_far (p := ⟨gb182, _, none⟩) NB199_182.out _).trans (hHeld.2.2.2.2.2.1)))), ((cell_far (p := ⟨gb182, _, none⟩) NB204_182.out _).trans (((cell_far (p := ⟨gb182, _, none⟩) NB204_182.out _).trans (hHeld.2.2.2.2.2.2.1)))), ((cell_far (p := ⟨gb182, _, none⟩) NB204_182.out _).trans (((cell_far (p := ⟨gb182, _, none⟩) NB204_182.out _).trans (hHeld.2.2.2.2.2.2.2))))⟩ (fun hHeld => ?_)
    clear hK K
    refine one_ (i := 6) (N := none) #[true, true, true, true, true, true, true, false] rfl rfl (one_of HT_.out (by kernel_rfl)) (by decide) (fun K hK => ?_)
    have hs59 : w54.cell? ⟨gb183, 0, none⟩ = some (.int .i64 0) := (blk_cell BK183.out 0).trans rfl
    have hfs59 := blk_frozen BK183.out 0
    have hns59_0 := NB181_183.out
    have hns59_1 := NB182_183.out
    have hns59_3 := NB184_183.out
    have hns59_4 := NB189_183.out
    have hns59_5 := NB194_183.out
    have hns59_6 := NB199_183.out
    have hns59_7 := NB204_183.out
    have hms59_0 := NB183_181.out
    have hms59_1 := NB183_182.out
    have hms59_3 := NB183_184.out
    have hms59_4 := NB183_189.out
    have hms59_5 := NB183_194.out
    have hms59_6 := NB183_199.out
    have hms59_7 := NB183_204.out
    have hs60 : w54.cell? ⟨gb183, 1, none⟩ = some (.int .i64 0) := (blk_cell BK183.out 1).trans rfl
    have hfs60 := blk_frozen BK183.out 1
    have hns60_0 := NB181_183.out
    have hns60_1 := NB182_183.out
    have hns60_3 := NB184_183.out
    have hns60_4 := NB189_183.out
    have hns60_5 := NB194_183.out
    have hns60_6 := NB199_183.out
    have hns60_7 := NB204_183.out
    have hms60_0 := NB183_181.out
    have hms60_1 := NB183_182.out
    have hms60_3 := NB183_184.out
    have hms60_4 := NB183_189.out
    have hms60_5 := NB183_194.out
    have hms60_6 := NB183_199.out
    have hms60_7 := NB183_204.out
    refine skip_ (w1 := ?_) (by rfl) rfl ?_ ?_
    rotate_left
    · go_simp
      rfl
    refine hK.out _ _ ⟨((cell_far (p := ⟨gb183, _, none⟩) NB189_183.out _).trans (((cell_far (p := ⟨gb183, _, none⟩) NB189_183.out _).trans (hHeld.1)))), ((cell_far (p := ⟨gb183, _, none⟩) NB189_183.out _).trans (((cell_far (p := ⟨gb183, _, none⟩) NB189_183.out _).trans (hHeld.2.1)))), ((cell_far (p := ⟨gb183, _, none⟩) NB194_183.out _).trans (((cell_far (p := ⟨gb183, _, none⟩) NB194_183.out _).trans (hHeld.2.2.1)))), ((cell_far (p := ⟨gb183, _, none⟩) NB194_183.out _).trans (((cell_far (p := ⟨gb183, _, none⟩) NB194_183.out _).trans (hHeld.2.2.2.1)))), ((cell_far (p := ⟨gb183, _, none⟩) NB199_183.out _).trans (((cell_far (p := ⟨gb183, _, none⟩) NB199_183.out _).trans (hHeld.2.2.2.2.1)))), ((cell_far (p := ⟨gb183, _, none⟩) NB199_183.out _).trans (((cell_far (p := ⟨gb183, _, none⟩) NB199_183.out _).trans (hHeld.2.2.2.2.2.1)))), ((cell_far (p := ⟨gb183, _, none⟩) NB204_183.out _).trans (((cell_far (p := ⟨gb183, _, none⟩) NB204_183.out _).trans (hHeld.2.2.2.2.2.2.1)))), ((cell_far (p := ⟨gb183, _, none⟩) NB204_183.out _).trans (((cell_far (p := ⟨gb183, _, none⟩) NB204_183.out _).trans (hHeld.2.2.2.2.2.2.2))))⟩ (fun hHeld => ?_)
    clear hK K
    refine one_ (i := 7) (N := none) #[true, true, true, true, true, true, true, true] rfl rfl (one_of HT_.out (by kernel_rfl)) (by decide) (fun K hK => ?_)
    have hs61 : w54.cell? ⟨gb184, 0, none⟩ = some (.int .i64 0) := (blk_cell BK184.out 0).trans rfl
    have hfs61 := blk_frozen BK184.out 0
    have hns61_0 := NB181_184.out
    have hns61_1 := NB182_184.out
    have hns61_2 := NB183_184.out
    have hns61_4 := NB189_184.out
    have hns61_5 := NB194_184.out
    have hns61_6 := NB199_184.out
    have hns61_7 := NB204_184.out
    have hms61_0 := NB184_181.out
    have hms61_1 := NB184_182.out
    have hms61_2 := NB184_183.out
    have hms61_4 := NB184_189.out
    have hms61_5 := NB184_194.out
    have hms61_6 := NB184_199.out
    have hms61_7 := NB184_204.out
    have hs62 : w54.cell? ⟨gb184, 1, none⟩ = some (.int .i64 0) := (blk_cell BK184.out 1).trans rfl
    have hfs62 := blk_frozen BK184.out 1
    have hns62_0 := NB181_184.out
    have hns62_1 := NB182_184.out
    have hns62_2 := NB183_184.out
    have hns62_4 := NB189_184.out
    have hns62_5 := NB194_184.out
    have hns62_6 := NB199_184.out
    have hns62_7 := NB204_184.out
    have hms62_0 := NB184_181.out
    have hms62_1 := NB184_182.out
    have hms62_2 := NB184_183.out
    have hms62_4 := NB184_189.out
    have hms62_5 := NB184_194.out
    have hms62_6 := NB184_199.out
    have hms62_7 := NB184_204.out
    refine skip_ (w1 := ?_) (by rfl) rfl ?_ ?_
    rotate_left
    · go_simp
      rfl
    refine hK.out _ _ ⟨((cell_far (p := ⟨gb184, _, none⟩) NB189_184.out _).trans (((cell_far (p := ⟨gb184, _, none⟩) NB189_184.out _).trans (hHeld.1)))), ((cell_far (p := ⟨gb184, _, none⟩) NB189_184.out _).trans (((cell_far (p := ⟨gb184, _, none⟩) NB189_184.out _).trans (hHeld.2.1)))), ((cell_far (p := ⟨gb184, _, none⟩) NB194_184.out _).trans (((cell_far (p := ⟨gb184, _, none⟩) NB194_184.out _).trans (hHeld.2.2.1)))), ((cell_far (p := ⟨gb184, _, none⟩) NB194_184.out _).trans (((cell_far (p := ⟨gb184, _, none⟩) NB194_184.out _).trans (hHeld.2.2.2.1)))), ((cell_far (p := ⟨gb184, _, none⟩) NB199_184.out _).trans (((cell_far (p := ⟨gb184, _, none⟩) NB199_184.out _).trans (hHeld.2.2.2.2.1)))), ((cell_far (p := ⟨gb184, _, none⟩) NB199_184.out _).trans (((cell_far (p := ⟨gb184, _, none⟩) NB199_184.out _).trans (hHeld.2.2.2.2.2.1)))), ((cell_far (p := ⟨gb184, _, none⟩) NB204_184.out _).trans (((cell_far (p := ⟨gb184, _, none⟩) NB204_184.out _).trans (hHeld.2.2.2.2.2.2.1)))), ((cell_far (p := ⟨gb184, _, none⟩) NB204_184.out _).trans (((cell_far (p := ⟨gb184, _, none⟩) NB204_184.out _).trans (hHeld.2.2.2.2.2.2.2))))⟩ (fun hHeld => ?_)
    clear hK K
    refine done_ (done_of HT_.out (by kernel_rfl)) ?_
    try go_wp2
    refine bodyPost_ret (results_list (rs := [.cell 2 32, .cell 3 32, .cell 4 32, .cell 5 32]) rfl (by simp) (.cell gb181 32 #[.int .i64 t185, .int .i64 t186] (0, 0) _ rfl (by (with_reducible repeat (first | refine blk_drewN ?_ _ | refine blk_drew ?_ | refine blk_alloc ?_ _)); refine blk_far ?_ NB181_184.out _; (with_reducible repeat (first | refine blk_drewN ?_ _ | refine blk_drew ?_ | refine blk_alloc ?_ _)); refine blk_far ?_ NB181_184.out _; (with_reducible repeat (first | refine blk_drewN ?_ _ | refine blk_drew ?_ | refine blk_alloc ?_ _)); refine blk_far ?_ NB181_183.out _; (with_reducible repeat (first | refine blk_drewN ?_ _ | refine blk_drew ?_ | refine blk_alloc ?_ _)); refine blk_far ?_ NB181_183.out _; (with_reducible repeat (first | refine blk_drewN ?_ _ | refine blk_drew ?_ | refine blk_alloc ?_ _)); refine blk_far ?_ NB181_182.out _; (with_reducible repeat (first | refine blk_drewN ?_ _ | refine blk_drew ?_ | refine blk_alloc ?_ _)); refine blk_far ?_ NB181_182.out _; (with_reducible repeat (first | refine blk_drewN ?_ _ | refine blk_drew ?_ | refine blk_alloc ?_ _)); refine blk_put (cs := #[.int .i64 t185, .int .i64 0]) ?_ 1 _ rfl; (with_reducible repeat (first | refine blk_drewN ?_ _ | refine blk_drew ?_ | refine blk_alloc ?_ _)); refine blk_put (cs := #[.int .i64 0, .int .i64 0]) ?_ 0 _ rfl; (with_reducible repeat (first | refine blk_drewN ?_ _ | refine blk_drew ?_ | refine blk_alloc ?_ _)); exact BK181.out) Try.underlying32 rfl (by kernel_rfl) (.cell gb182 32 #[.int .i64 t190, .int .i64 t191] (0, 0) _ rfl (by (with_reducible repeat (first | refine blk_drewN ?_ _ | refine blk_drew ?_ | refine blk_alloc ?_ _)); refine blk_far ?_ NB182_184.out _; (with_reducible repeat (first | refine blk_drewN ?_ _ | refine blk_drew ?_ | refine blk_alloc ?_ _)); refine blk_far ?_ NB182_184.out _; (with_reducible repeat (first | refine blk_drewN ?_ _ | refine blk_drew ?_ | refine blk_alloc ?_ _)); refine blk_far ?_ NB182_183.out _; (with_reducible repeat (first | refine blk_drewN ?_ _ | refine blk_drew ?_ | refine blk_alloc ?_ _)); refine blk_far ?_ NB182_183.out _; (with_reducible repeat (first | refine blk_drewN ?_ _ | refine blk_drew ?_ | refine blk_alloc ?_ _)); refine blk_put (cs := #[.int .i64 t190, .int .i64 0]) ?_ 1 _ rfl; (with_reducible repeat (first | refine blk_drewN ?_ _ | refine blk_drew ?_ | refine blk_alloc ?_ _)); refine blk_put (cs := #[.int .i64 0, .int .i64 0]) ?_ 0 _ rfl; (with_reducible repeat (first | refine blk_drewN ?_ _ | refine blk_drew ?_ | refine blk_alloc ?_ _)); refine blk_far ?_ NB182_181.out _; (with_reducible repeat (first | refine blk_drewN ?_ _ | refine blk_drew ?_ | refine blk_alloc ?_ _)); refine blk_far ?_ NB182_181.out _; (with_reducible repeat (first | refine blk_drewN ?_ _ | refine blk_drew ?_ | refine blk_alloc ?_ _)); exact BK182.out) Try.underlying32 rfl (by kernel_rfl) (.cell gb183 32 #[.int .i64 t185, .int .i64 t186] (0, 0) _ rfl (by (with_reducible repeat (first | refine blk_drewN ?_ _ | refine blk_drew ?_ | refine blk_alloc ?_ _)); refine blk_far ?_ NB183_184.out _; (with_reducible repeat (first | refine blk_drewN ?_ _ | refine blk_drew ?_ | refine blk_alloc ?_ _)); refine blk_far ?_ NB183_184.out _; (with_reducible repeat (first | refine blk_drewN ?_ _ | refine blk_drew ?_ | refine blk_alloc ?_ _)); refine blk_put (cs := #[.int .i64 t185, .int .i64 0]) ?_ 1 _ rfl; (with_reducible repeat (first | refine blk_drewN ?_ _ | refine blk_drew ?_ | refine blk_alloc ?_ _)); refine blk_put (cs := #[.int .i64 0, .int .i64 0]) ?_ 0 _ rfl; (with_reducible repeat (first | refine blk_drewN ?_ _ | refine blk_drew ?_ | refine blk_alloc ?_ _)); refine blk_far ?_ NB183_182.out _; (with_reducible repeat (first | refine blk_drewN ?_ _ | refine blk_drew ?_ | refine blk_alloc ?_ _)); refine blk_far ?_ NB183_182.out _; (with_reducible repeat (first | refine blk_drewN ?_ _ | refine blk_drew ?_ | refine blk_alloc ?_ _)); refine blk_far ?_ NB183_181.out _; (with_reducible repeat (first | refine blk_drewN ?_ _ | refine blk_drew ?_ | refine blk_alloc ?_ _)); refine blk_far ?_ NB183_181.out _; (with_reducible repeat (first | refine blk_drewN ?_ _ | refine blk_drew ?_ | refine blk_alloc ?_ _)); exact BK183.out) Try.underlying32 rfl (by kernel_rfl) (.cell gb184 32 #[.int .i64 t200, .int .i64 t201] (0, 0) _ rfl (by (with_reducible repeat (first | refine blk_drewN ?_ _ | refine blk_drew ?_ | refine blk_alloc ?_ _)); refine blk_put (cs := #[.int .i64 t200, .int .i64 0]) ?_ 1 _ rfl; (with_reducible repeat (first | refine blk_drewN ?_ _ | refine blk_drew ?_ | refine blk_alloc ?_ _)); refine blk_put (cs := #[.int .i64 0, .int .i64 0]) ?_ 0 _ rfl; (with_reducible repeat (first | refine blk_drewN ?_ _ | refine blk_drew ?_ | refine blk_alloc ?_ _)); refine blk_far ?_ NB184_183.out _; (with_reducible repeat (first | refine blk_drewN ?_ _ | refine blk_drew ?_ | refine blk_alloc ?_ _)); refine blk_far ?_ NB184_183.out _; (with_reducible repeat (first | refine blk_drewN ?_ _ | refine blk_drew ?_ | refine blk_alloc ?_ _)); refine blk_far ?_ NB184_182.out _; (with_reducible repeat (first | refine blk_drewN ?_ _ | refine blk_drew ?_ | refine blk_alloc ?_ _)); refine blk_far ?_ NB184_182.out _; (with_reducible repeat (first | refine blk_drewN ?_ _ | refine blk_drew ?_ | refine blk_alloc ?_ _)); refine blk_far ?_ NB184_181.out _; (with_reducible repeat (first | refine blk_drewN ?_ _ | refine blk_drew ?_ | refine blk_alloc ?_ _)); refine blk_far ?_ NB184_181.out _; (with_reducible repeat (first | refine blk_drewN ?_ _ | refine blk_drew ?_ | refine blk_alloc ?_ _)); exact BK184.out) Try.underlying32 rfl (by kernel_rfl) .nil))))) rfl ?_
    exact ⟨by first | rfl | (simp [errW_none, errW_some] <;> rfl) | (simp [*, errW_none, errW_some] <;> rfl), by repeat (first | (with_reducible first | exact HI0.out | apply IsS127.alloc | apply IsS127.drewN | apply IsS127.drew | apply IsS127.set_1 | apply IsS127.set_2 | refine IsS127.far ?_ NB0_181.out _ | refine IsS127.far ?_ NB0_182.out _ | refine IsS127.far ?_ NB0_183.out _ | refine IsS127.far ?_ NB0_184.out _ | refine IsS127.far ?_ NB0_189.out _ | refine IsS127.far ?_ NB0_194.out _ | refine IsS127.far ?_ NB0_199.out _ | refine IsS127.far ?_ NB0_204.out _) | exact HI0.out), by repeat (first | (with_reducible first | exact HB.out | apply below_alloc | apply pw_below_drewN | apply below_drew1 | refine below_set ?_ (IsS127.ge HI0.out) | refine below_set ?_ GE181.out | refine below_set ?_ GE182.out | refine below_set ?_ GE183.out | refine below_set ?_ GE184.out | refine below_set ?_ GE189.out | refine below_set ?_ GE194.out | refine below_set ?_ GE199.out | refine below_set ?_ GE204.out) | exact HB.out), by repeat (first | (with_reducible first | exact HK.out | apply KeepBut.set_ | apply keep_drewN | apply keep_drew | apply keep_alloc | refine keep_far ?_ GW181.out _ | refine keep_far ?_ GW182.out _ | refine keep_far ?_ GW183.out _ | refine keep_far ?_ GW184.out _ | refine keep_far ?_ GW189.out _ | refine keep_far ?_ GW194.out _ | refine keep_far ?_ GW199.out _ | refine keep_far ?_ GW204.out _) | exact HK.out)⟩
  · rw [if_neg c7] at H
    have c7b0 : (t205 == 0) = false := beq_eq_false_iff_ne.mpr c7
    have c7b1 : (t205 != 0) = true := bne_iff_ne.mpr c7
    by_cases c63 : t205 = 1
    · rw [if_pos c63] at H
      have c63b0 : (t205 == 1) = true := beq_iff_eq.mpr c63
      have c63b1 : (t205 != 1) = false := bne_eq_false_iff_eq.mpr c63
      clear c63
      simp only [Option.some.injEq, Prod.mk.injEq] at H
      obtain ⟨rfl, rfl, rfl, rfl, rfl, rfl, rfl, rfl, rfl, rfl⟩ := H
      refine Aside0.mk ?_
      (refine goesL_ (some 19) rfl rfl Try.func115 (by kernel_rfl) rfl #[.pointer (some ⟨g, 0, none⟩), .int .i64 8] rfl (by (try simp only [List.map_toArray, List.map_cons, List.map_nil]); first | done | rfl | (simp only [List.length_drop, List.length_take]; rfl)) ?_; (with_reducible refine (spec_l1Below.calls g s0_0 t202 t203 8 t205 t206 t207 w0 _ ?side1 ?side2 A6.out).mono ?_); (case side1 => repeat (first | (with_reducible first | exact HI0.out | apply IsS127.alloc | apply IsS127.drewN | apply IsS127.drew | apply IsS127.set_1 | apply IsS127.set_2 | refine IsS127.far ?_ NB0_181.out _ | refine IsS127.far ?_ NB0_182.out _ | refine IsS127.far ?_ NB0_183.out _ | refine IsS127.far ?_ NB0_184.out _ | refine IsS127.far ?_ NB0_189.out _ | refine IsS127.far ?_ NB0_194.out _ | refine IsS127.far ?_ NB0_199.out _ | refine IsS127.far ?_ NB0_204.out _) | exact HI0.out)); (case side2 => repeat (first | (with_reducible first | exact HB.out | apply below_alloc | apply pw_below_drewN | apply below_drew1 | refine below_set ?_ (IsS127.ge HI0.out) | refine below_set ?_ GE181.out | refine below_set ?_ GE182.out | refine below_set ?_ GE183.out | refine below_set ?_ GE184.out | refine below_set ?_ GE189.out | refine below_set ?_ GE194.out | refine below_set ?_ GE199.out | refine below_set ?_ GE204.out) | exact HB.out)); rintro e w106 ⟨rfl, hi, hb, hk⟩; refine ⟨_, rfl, ?_⟩; have n0_ := Aside0.mk (KeepBut.blk hk (g' := gb181) (o := .cells #[.int .i64 0, .int .i64 0] 32 (0, 0)) (by (with_reducible repeat (first | refine blk_drewN ?_ _ | refine blk_drew ?_ | refine blk_alloc ?_ _)); refine blk_far ?_ NB181_204.out _; (with_reducible repeat (first | refine blk_drewN ?_ _ | refine blk_drew ?_ | refine blk_alloc ?_ _)); refine blk_far ?_ NB181_204.out _; (with_reducible repeat (first | refine blk_drewN ?_ _ | refine blk_drew ?_ | refine blk_alloc ?_ _)); exact BK181.out) NB181_0.out (by simp)); have n1_ := Aside0.mk (KeepBut.blk hk (g' := gb182) (o := .cells #[.int .i64 0, .int .i64 0] 32 (0, 0)) (by (with_reducible repeat (first | refine blk_drewN ?_ _ | refine blk_drew ?_ | refine blk_alloc ?_ _)); refine blk_far ?_ NB182_204.out _; (with_reducible repeat (first | refine blk_drewN ?_ _ | refine blk_drew ?_ | refine blk_alloc ?_ _)); refine blk_far ?_ NB182_204.out _; (with_reducible repeat (first | refine blk_drewN ?_ _ | refine blk_drew ?_ | refine blk_alloc ?_ _)); exact BK182.out) NB182_0.out (by simp)); have n2_ := Aside0.mk (KeepBut.blk hk (g' := gb183) (o := .cells #[.int .i64 0, .int .i64 0] 32 (0, 0)) (by (with_reducible repeat (first | refine blk_drewN ?_ _ | refine blk_drew ?_ | refine blk_alloc ?_ _)); refine blk_far ?_ NB183_204.out _; (with_reducible repeat (first | refine blk_drewN ?_ _ | refine blk_drew ?_ | refine blk_alloc ?_ _)); refine blk_far ?_ NB183_204.out _; (with_reducible repeat (first | refine blk_drewN ?_ _ | refine blk_drew ?_ | refine blk_alloc ?_ _)); exact BK183.out) NB183_0.out (by simp)); have n3_ := Aside0.mk (KeepBut.blk hk (g' := gb184) (o := .cells #[.int .i64 0, .int .i64 0] 32 (0, 0)) (by (with_reducible repeat (first | refine blk_drewN ?_ _ | refine blk_drew ?_ | refine blk_alloc ?_ _)); refine blk_far ?_ NB184_204.out _; (with_reducible repeat (first | refine blk_drewN ?_ _ | refine blk_drew ?_ | refine blk_alloc ?_ _)); refine blk_far ?_ NB184_204.out _; (with_reducible repeat (first | refine blk_drewN ?_ _ | refine blk_drew ?_ | refine blk_alloc ?_ _)); exact BK184.out) NB184_0.out (by simp)); have n4_ := Aside0.mk (KeepBut.blk hk (g' := gb189) (o := .cells #[.int .i64 t185, .int .i64 t186] 32 (0, 0)) (by (with_reducible repeat (first | refine blk_drewN ?_ _ | refine blk_drew ?_ | refine blk_alloc ?_ _)); refine blk_far ?_ NB189_204.out _; (with_reducible repeat (first | refine blk_drewN ?_ _ | refine blk_drew ?_ | refine blk_alloc ?_ _)); refine blk_far ?_ NB189_204.out _; (with_reducible repeat (first | refine blk_drewN ?_ _ | refine blk_drew ?_ | refine blk_alloc ?_ _)); exact BK189.out) NB189_0.out (by simp)); have n5_ := Aside0.mk (KeepBut.blk hk (g' := gb194) (o := .cells #[.int .i64 t190, .int .i64 t191] 32 (0, 0)) (by (with_reducible repeat (first | refine blk_drewN ?_ _ | refine blk_drew ?_ | refine blk_alloc ?_ _)); refine blk_far ?_ NB194_204.out _; (with_reducible repeat (first | refine blk_drewN ?_ _ | refine blk_drew ?_ | refine blk_alloc ?_ _)); refine blk_far ?_ NB194_204.out _; (with_reducible repeat (first | refine blk_drewN ?_ _ | refine blk_drew ?_ | refine blk_alloc ?_ _)); exact BK194.out) NB194_0.out (by simp)); have n6_ := Aside0.mk (KeepBut.blk hk (g' := gb199) (o := .cells #[.int .i64 t195, .int .i64 t196] 32 (0, 0)) (by (with_reducible repeat (first | refine blk_drewN ?_ _ | refine blk_drew ?_ | refine blk_alloc ?_ _)); refine blk_far ?_ NB199_204.out _; (with_reducible repeat (first | refine blk_drewN ?_ _ | refine blk_drew ?_ | refine blk_alloc ?_ _)); refine blk_far ?_ NB199_204.out _; (with_reducible repeat (first | refine blk_drewN ?_ _ | refine blk_drew ?_ | refine blk_alloc ?_ _)); exact BK199.out) NB199_0.out (by simp)); have n7_ := Aside0.mk (KeepBut.blk hk (g' := gb204) (o := .cells #[.int .i64 t200, .int .i64 t201] 32 (0, 0)) (by (with_reducible repeat (first | refine blk_drewN ?_ _ | refine blk_drew ?_ | refine blk_alloc ?_ _)); refine blk_put (cs := #[.int .i64 t200, .int .i64 0]) ?_ 1 _ rfl; (with_reducible repeat (first | refine blk_drewN ?_ _ | refine blk_drew ?_ | refine blk_alloc ?_ _)); refine blk_put (cs := #[.int .i64 0, .int .i64 0]) ?_ 0 _ rfl; (with_reducible repeat (first | refine blk_drewN ?_ _ | refine blk_drew ?_ | refine blk_alloc ?_ _)); exact BK204.out) NB204_0.out (by simp)); have n8_ := Aside0.mk (KeepBut.trans (by repeat (first | (with_reducible first | exact HK.out | apply KeepBut.set_ | apply keep_drewN | apply keep_drew | apply keep_alloc | refine keep_far ?_ GW181.out _ | refine keep_far ?_ GW182.out _ | refine keep_far ?_ GW183.out _ | refine keep_far ?_ GW184.out _ | refine keep_far ?_ GW189.out _ | refine keep_far ?_ GW194.out _ | refine keep_far ?_ GW199.out _ | refine keep_far ?_ GW204.out _) | exact HK.out)) hk (.inl rfl)); have n9_ := Aside0.mk (hb); have n10_ := Aside0.mk (hi); clear BK181; clear BK182; clear BK183; clear BK184; clear BK189; clear BK194; clear BK199; clear BK204; clear HK; clear HB; clear HI0; have BK181 := n0_; have BK182 := n1_; have BK183 := n2_; have BK184 := n3_; have BK189 := n4_; have BK194 := n5_; have BK199 := n6_; have BK204 := n7_; have HK := n8_; have HB := n9_; have HI0 := n10_; clear n0_ n1_ n2_ n3_ n4_ n5_ n6_ n7_ n8_ n9_ n10_; (try clear hb); (try clear hb2); (try clear hk); (try clear hi); have hcz107_0 : w106.cell? ⟨gb189, 0, none⟩ = some (.int .i64 t185) := (blk_cell BK189.out 0).trans rfl; have hcz107_1 : w106.cell? ⟨gb189, 1, none⟩ = some (.int .i64 t186) := (blk_cell BK189.out 1).trans rfl; have hfz107_0 := blk_frozen BK189.out 0; have hfz107_1 := blk_frozen BK189.out 1; have hcz108_0 : w106.cell? ⟨gb194, 0, none⟩ = some (.int .i64 t190) := (blk_cell BK194.out 0).trans rfl; have hcz108_1 : w106.cell? ⟨gb194, 1, none⟩ = some (.int .i64 t191) := (blk_cell BK194.out 1).trans rfl; have hfz108_0 := blk_frozen BK194.out 0; have hfz108_1 := blk_frozen BK194.out 1)
      try go_wp2
      have n0_ : Aside0 (((w106.setCell ⟨gb194, 0, none⟩ (.int .i64 t185)).setCell ⟨gb194, 1, none⟩ (.int .i64 t186)).heap[gb181]? = some (.cells #[.int .i64 0, .int .i64 0] 32 (0, 0))) := ⟨by (with_reducible repeat (first | refine blk_drewN ?_ _ | refine blk_drew ?_ | refine blk_alloc ?_ _)); refine blk_far ?_ NB181_194.out _; (with_reducible repeat (first | refine blk_drewN ?_ _ | refine blk_drew ?_ | refine blk_alloc ?_ _)); refine blk_far ?_ NB181_194.out _; (with_reducible repeat (first | refine blk_drewN ?_ _ | refine blk_drew ?_ | refine blk_alloc ?_ _)); exact BK181.out⟩
      have n1_ : Aside0 (((w106.setCell ⟨gb194, 0, none⟩ (.int .i64 t185)).setCell ⟨gb194, 1, none⟩ (.int .i64 t186)).heap[gb182]? = some (.cells #[.int .i64 0, .int .i64 0] 32 (0, 0))) := ⟨by (with_reducible repeat (first | refine blk_drewN ?_ _ | refine blk_drew ?_ | refine blk_alloc ?_ _)); refine blk_far ?_ NB182_194.out _; (with_reducible repeat (first | refine blk_drewN ?_ _ | refine blk_drew ?_ | refine blk_alloc ?_ _)); refine blk_far ?_ NB182_194.out _; (with_reducible repeat (first | refine blk_drewN ?_ _ | refine blk_drew ?_ | refine blk_alloc ?_ _)); exact BK182.out⟩
      have n2_ : Aside0 (((w106.setCell ⟨gb194, 0, none⟩ (.int .i64 t185)).setCell ⟨gb194, 1, none⟩ (.int .i64 t186)).heap[gb183]? = some (.cells #[.int .i64 0, .int .i64 0] 32 (0, 0))) := ⟨by (with_reducible repeat (first | refine blk_drewN ?_ _ | refine blk_drew ?_ | refine blk_alloc ?_ _)); refine blk_far ?_ NB183_194.out _; (with_reducible repeat (first | refine blk_drewN ?_ _ | refine blk_drew ?_ | refine blk_alloc ?_ _)); refine blk_far ?_ NB183_194.out _; (with_reducible repeat (first | refine blk_drewN ?_ _ | refine blk_drew ?_ | refine blk_alloc ?_ _)); exact BK183.out⟩
      have n3_ : Aside0 (((w106.setCell ⟨gb194, 0, none⟩ (.int .i64 t185)).setCell ⟨gb194, 1, none⟩ (.int .i64 t186)).heap[gb184]? = some (.cells #[.int .i64 0, .int .i64 0] 32 (0, 0))) := ⟨by (with_reducible repeat (first | refine blk_drewN ?_ _ | refine blk_drew ?_ | refine blk_alloc ?_ _)); refine blk_far ?_ NB184_194.out _; (with_reducible repeat (first | refine blk_drewN ?_ _ | refine blk_drew ?_ | refine blk_alloc ?_ _)); refine blk_far ?_ NB184_194.out _; (with_reducible repeat (first | refine blk_drewN ?_ _ | refine blk_drew ?_ | refine blk_alloc ?_ _)); exact BK184.out⟩
      have n4_ : Aside0 (((w106.setCell ⟨gb194, 0, none⟩ (.int .i64 t185)).setCell ⟨gb194, 1, none⟩ (.int .i64 t186)).heap[gb189]? = some (.cells #[.int .i64 t185, .int .i64 t186] 32 (0, 0))) := ⟨by (with_reducible repeat (first | refine blk_drewN ?_ _ | refine blk_drew ?_ | refine blk_alloc ?_ _)); refine blk_far ?_ NB189_194.out _; (with_reducible repeat (first | refine blk_drewN ?_ _ | refine blk_drew ?_ | refine blk_alloc ?_ _)); refine blk_far ?_ NB189_194.out _; (with_reducible repeat (first | refine blk_drewN ?_ _ | refine blk_drew ?_ | refine blk_alloc ?_ _)); exact BK189.out⟩
      have n5_ : Aside0 (((w106.setCell ⟨gb194, 0, none⟩ (.int .i64 t185)).setCell ⟨gb194, 1, none⟩ (.int .i64 t186)).heap[gb194]? = some (.cells #[.int .i64 t185, .int .i64 t186] 32 (0, 0))) := ⟨by (with_reducible repeat (first | refine blk_drewN ?_ _ | refine blk_drew ?_ | refine blk_alloc ?_ _)); refine blk_put (cs := #[.int .i64 t185, .int .i64 t191]) ?_ 1 _ rfl; (with_reducible repeat (first | refine blk_drewN ?_ _ | refine blk_drew ?_ | refine blk_alloc ?_ _)); refine blk_put (cs := #[.int .i64 t190, .int .i64 t191]) ?_ 0 _ rfl; (with_reducible repeat (first | refine blk_drewN ?_ _ | refine blk_drew ?_ | refine blk_alloc ?_ _)); exact BK194.out⟩
      have n6_ : Aside0 (((w106.setCell ⟨gb194, 0, none⟩ (.int .i64 t185)).setCell ⟨gb194, 1, none⟩ (.int .i64 t186)).heap[gb199]? = some (.cells #[.int .i64 t195, .int .i64 t196] 32 (0, 0))) := ⟨by (with_reducible repeat (first | refine blk_drewN ?_ _ | refine blk_drew ?_ | refine blk_alloc ?_ _)); refine blk_far ?_ NB199_194.out _; (with_reducible repeat (first | refine blk_drewN ?_ _ | refine blk_drew ?_ | refine blk_alloc ?_ _)); refine blk_far ?_ NB199_194.out _; (with_reducible repeat (first | refine blk_drewN ?_ _ | refine blk_drew ?_ | refine blk_alloc ?_ _)); exact BK199.out⟩
      have n7_ : Aside0 (((w106.setCell ⟨gb194, 0, none⟩ (.int .i64 t185)).setCell ⟨gb194, 1, none⟩ (.int .i64 t186)).heap[gb204]? = some (.cells #[.int .i64 t200, .int .i64 t201] 32 (0, 0))) := ⟨by (with_reducible repeat (first | refine blk_drewN ?_ _ | refine blk_drew ?_ | refine blk_alloc ?_ _)); refine blk_far ?_ NB204_194.out _; (with_reducible repeat (first | refine blk_drewN ?_ _ | refine blk_drew ?_ | refine blk_alloc ?_ _)); refine blk_far ?_ NB204_194.out _; (with_reducible repeat (first | refine blk_drewN ?_ _ | refine blk_drew ?_ | refine blk_alloc ?_ _)); exact BK204.out⟩
      have n8_ : Aside0 (IsS127 w0 ((w106.setCell ⟨gb194, 0, none⟩ (.int .i64 t185)).setCell ⟨gb194, 1, none⟩ (.int .i64 t186)) g s0_0 t206 t207) := ⟨by repeat (first | (with_reducible first | exact HI0.out | apply IsS127.alloc | apply IsS127.drewN | apply IsS127.drew | apply IsS127.set_1 | apply IsS127.set_2 | refine IsS127.far ?_ NB0_181.out _ | refine IsS127.far ?_ NB0_182.out _ | refine IsS127.far ?_ NB0_183.out _ | refine IsS127.far ?_ NB0_184.out _ | refine IsS127.far ?_ NB0_189.out _ | refine IsS127.far ?_ NB0_194.out _ | refine IsS127.far ?_ NB0_199.out _ | refine IsS127.far ?_ NB0_204.out _) | exact HI0.out)⟩
      have n9_ : Aside0 (KeepBut w ((w106.setCell ⟨gb194, 0, none⟩ (.int .i64 t185)).setCell ⟨gb194, 1, none⟩ (.int .i64 t186)) g none) := ⟨by repeat (first | (with_reducible first | exact HK.out | apply KeepBut.set_ | apply keep_drewN | apply keep_drew | apply keep_alloc | refine keep_far ?_ GW181.out _ | refine keep_far ?_ GW182.out _ | refine keep_far ?_ GW183.out _ | refine keep_far ?_ GW184.out _ | refine keep_far ?_ GW189.out _ | refine keep_far ?_ GW194.out _ | refine keep_far ?_ GW199.out _ | refine keep_far ?_ GW204.out _) | exact HK.out)⟩
      have n10_ : Aside0 (Below w0.heap.size w0 ((w106.setCell ⟨gb194, 0, none⟩ (.int .i64 t185)).setCell ⟨gb194, 1, none⟩ (.int .i64 t186))) := ⟨by repeat (first | (with_reducible first | exact HB.out | apply below_alloc | apply pw_below_drewN | apply below_drew1 | refine below_set ?_ (IsS127.ge HI0.out) | refine below_set ?_ GE181.out | refine below_set ?_ GE182.out | refine below_set ?_ GE183.out | refine below_set ?_ GE184.out | refine below_set ?_ GE189.out | refine below_set ?_ GE194.out | refine below_set ?_ GE199.out | refine below_set ?_ GE204.out) | exact HB.out)⟩
      (try clear BK181)
      (try clear BK182)
      (try clear BK183)
      (try clear BK184)
      (try clear BK189)
      (try clear BK194)
      (try clear BK199)
      (try clear BK204)
      (try clear HI0)
      (try clear HK)
      (try clear HB)
      generalize ((w106.setCell ⟨gb194, 0, none⟩ (.int .i64 t185)).setCell ⟨gb194, 1, none⟩ (.int .i64 t186)) = w109 at n0_ n1_ n2_ n3_ n4_ n5_ n6_ n7_ n8_ n9_ n10_ ⊢
      have BK181 := n0_
      have BK182 := n1_
      have BK183 := n2_
      have BK184 := n3_
      have BK189 := n4_
      have BK194 := n5_
      have BK199 := n6_
      have BK204 := n7_
      have HI0 := n8_
      have HK := n9_
      have HB := n10_
      clear n0_ n1_ n2_ n3_ n4_ n5_ n6_ n7_ n8_ n9_ n10_
      have n0_ := Aside0.mk (blk_drew BK181.out)
      have n1_ := Aside0.mk (blk_drew BK182.out)
      have n2_ := Aside0.mk (blk_drew BK183.out)
      have n3_ := Aside0.mk (blk_drew BK184.out)
      have n4_ := Aside0.mk (blk_drew BK189.out)
      have n5_ := Aside0.mk (blk_drew BK194.out)
      have n6_ := Aside0.mk (blk_drew BK199.out)
      have n7_ := Aside0.mk (blk_drew BK204.out)
      have n8_ := Aside0.mk (IsS127.drew HI0.out)
      have n9_ := Aside0.mk (keep_drew HK.out)
      have n10_ := Aside0.mk (below_drew1 HB.out)
      clear BK181
      clear BK182
      clear BK183
      clear BK184
      clear BK189
      clear BK194
      clear BK199
      clear BK204
      clear HI0
      clear HK
      clear HB
      have BK181 := n0_
      have BK182 := n1_
      have BK183 := n2_
      have BK184 := n3_
      have BK189 := n4_
      have BK194 := n5_
      have BK199 := n6_
      have BK204 := n7_
      have HI0 := n8_
      have HK := n9_
      have HB := n10_
      clear n0_ n1_ n2_ n3_ n4_ n5_ n6_ n7_ n8_ n9_ n10_
      refine start_ (n := 8) (S := fun w' => w'.cell? ⟨gb189, 0, none⟩ = some (.int .i64 t185) ∧ w'.cell? ⟨gb189, 1, none⟩ = some (.int .i64 t186) ∧ w'.cell? ⟨gb194, 0, none⟩ = some (.int .i64 t185) ∧ w'.cell? ⟨gb194, 1, none⟩ = some (.int .i64 t186) ∧ w'.cell? ⟨gb199, 0, none⟩ = some (.int .i64 t195) ∧ w'.cell? ⟨gb199, 1, none⟩ = some (.int .i64 t196) ∧ w'.cell? ⟨gb204, 0, none⟩ = some (.int .i64 t200) ∧ w'.cell? ⟨gb204, 1, none⟩ = some (.int .i64 t201)) (ds := []) #[false, false, false, false, false, false, false, false] (by kernel_rfl) rfl rfl ⟨(blk_cell BK189.out 0).trans rfl, (blk_cell BK189.out 1).trans rfl, (blk_cell BK194.out 0).trans rfl, (blk_cell BK194.out 1).trans rfl, (blk_cell BK199.out 0).trans rfl, (blk_cell BK199.out 1).trans rfl, (blk_cell BK204.out 0).trans rfl, (blk_cell BK204.out 1).trans rfl⟩ (fun hHeld => ?_); refine with_tabW spec_l3Four.tab12 spec_l3Four.bits12 (fun HT_ HW_ => ?_)
      generalize w109.drew = w110 at BK181 BK182 BK183 BK184 BK189 BK194 BK199 BK204 HI0 HK HB hHeld ⊢
      refine take_ (i := 0) (N := some 47) (v := ?_) (a' := ?_) #[true, false, false, false, false, false, false, false] rfl rfl (take_ofW HT_.out HW_.out (by kernel_rfl)) (fun _ _ _ h => h) (Or.inl ⟨by rfl, ?_⟩) hHeld ?_ ?_
      rotate_left
      · rintro w' ⟨s0, s1, s2, s3, s4, s5, s6, s7⟩
        go_simp
        with_reducible rfl
      rotate_left
      · simp only [Act.put, List.setIfInBounds_toArray, List.set_cons_zero, List.set_cons_succ, i64_w, i32_w]
        rfl
      refine take_ (i := 1) (N := some 48) (v := ?_) (a' := ?_) #[true, true, false, false, false, false, false, false] rfl rfl (take_ofW HT_.out HW_.out (by kernel_rfl)) (fun _ _ _ h => h) (Or.inl ⟨by rfl, ?_⟩) hHeld ?_ ?_
      rotate_left
      · rintro w' ⟨s0, s1, s2, s3, s4, s5, s6, s7⟩
        go_simp
        with_reducible rfl
      rotate_left
      · simp only [Act.put, List.setIfInBounds_toArray, List.set_cons_zero, List.set_cons_succ, i64_w, i32_w]
        rfl
      refine take_ (i := 2) (N := some 49) (v := ?_) (a' := ?_) #[true, true, true, false, false, false, false, false] rfl rfl (take_ofW HT_.out HW_.out (by kernel_rfl)) (fun _ _ _ h => h) (Or.inl ⟨by rfl, ?_⟩) hHeld ?_ ?_
      rotate_left
      · rintro w' ⟨s0, s1, s2, s3, s4, s5, s6, s7⟩
        go_simp
        with_reducible rfl
      rotate_left
      · simp only [Act.put, List.setIfInBounds_toArray, List.set_cons_zero, List.set_cons_succ, i64_w, i32_w]
        rfl
      refine take_ (i := 3) (N := some 50) (v := ?_) (a' := ?_) #[true, true, true, true, false, false, false, false] rfl rfl (take_ofW HT_.out HW_.out (by kernel_rfl)) (fun _ _ _ h => h) (Or.inl ⟨by rfl, ?_⟩) hHeld ?_ ?_
      rotate_left
      · rintro w' ⟨s0, s1, s2, s3, s4, s5, s6, s7⟩
        go_simp
        with_reducible rfl
      rotate_left
      · simp only [Act.put, List.setIfInBounds_toArray, List.set_cons_zero, List.set_cons_succ, i64_w, i32_w]
        rfl
      refine one_ (i := 4) (N := none) #[true, true, true, true, true, false, false, false] rfl rfl (one_of HT_.out (by kernel_rfl)) (by decide) (fun K hK => ?_)
      have hs111 : w110.cell? ⟨gb181, 0, none⟩ = some (.int .i64 0) := (blk_cell BK181.out 0).trans rfl
      have hfs111 := blk_frozen BK181.out 0
      have hns111_1 := NB182_181.out
      have hns111_2 := NB183_181.out
      have hns111_3 := NB184_181.out
      have hns111_4 := NB189_181.out
      have hns111_5 := NB194_181.out
      have hns111_6 := NB199_181.out
      have hns111_7 := NB204_181.out
      have hms111_1 := NB181_182.out
      have hms111_2 := NB181_183.out
      have hms111_3 := NB181_184.out
      have hms111_4 := NB181_189.out
      have hms111_5 := NB181_194.out
      have hms111_6 := NB181_199.out
      have hms111_7 := NB181_204.out
      have hs112 : w110.cell? ⟨gb181, 1, none⟩ = some (.int .i64 0) := (blk_cell BK181.out 1).trans rfl
      have hfs112 := blk_frozen BK181.out 1
      have hns112_1 := NB182_181.out
      have hns112_2 := NB183_181.out
      have hns112_3 := NB184_181.out
      have hns112_4 := NB189_181.out
      have hns112_5 := NB194_181.out
      have hns112_6 := NB199_181.out
      have hns112_7 := NB204_181.out
      have hms112_1 := NB181_182.out
      have hms112_2 := NB181_183.out
      have hms112_3 := NB181_184.out
      have hms112_4 := NB181_189.out
      have hms112_5 := NB181_194.out
      have hms112_6 := NB181_199.out
      have hms112_7 := NB181_204.out
      refine skip_ (w1 := ?_) (by rfl) rfl ?_ ?_
      rotate_left
      · go_simp
        rfl
      refine hK.out _ _ ⟨((cell_far (p := ⟨gb181, _, none⟩) NB189_181.out _).trans (((cell_far (p := ⟨gb181, _, none⟩) NB189_181.out _).trans (hHeld.1)))), ((cell_far (p := ⟨gb181, _, none⟩) NB189_181.out _).trans (((cell_far (p := ⟨gb181, _, none⟩) NB189_181.out _).trans (hHeld.2.1)))), ((cell_far (p := ⟨gb181, _, none⟩) NB194_181.out _).trans (((cell_far (p := ⟨gb181, _, none⟩) NB194_181.out _).trans (hHeld.2.2.1)))), ((cell_far (p := ⟨gb181, _, none⟩) NB194_181.out _).trans (((cell_far (p := ⟨gb181, _, none⟩) NB194_181.out _).trans (hHeld.2.2.2.1)))), ((cell_far (p := ⟨gb181, _, none⟩) NB199_181.out _).trans (((cell_far (p := ⟨gb181, _, none⟩) NB199_181.out _).trans (hHeld.2.2.2.2.1)))), ((cell_far (p := ⟨gb181, _, none⟩) NB199_181.out _).trans (((cell_far (p := ⟨gb181, _, none⟩) NB199_181.out _).trans (hHeld.2.2.2.2.2.1)))), ((cell_far (p := ⟨gb181, _, none⟩) NB204_181.out _).trans (((cell_far (p := ⟨gb181, _, none⟩) NB204_181.out _).trans (hHeld.2.2.2.2.2.2.1)))), ((cell_far (p := ⟨gb181, _, none⟩) NB204_181.out _).trans (((cell_far (p := ⟨gb181, _, none⟩) NB204_181.out _).trans (hHeld.2.2.2.2.2.2.2))))⟩ (fun hHeld => ?_)
      clear hK K
      refine one_ (i := 5) (N := none) #[true, true, true, true, true, true, false, false] rfl rfl (one_of HT_.out (by kernel_rfl)) (by decide) (fun K hK => ?_)
      have hs113 : w110.cell? ⟨gb182, 0, none⟩ = some (.int .i64 0) := (blk_cell BK182.out 0).trans rfl
      have hfs113 := blk_frozen BK182.out 0
      have hns113_0 := NB181_182.out
      have hns113_2 := NB183_182.out
      have hns113_3 := NB184_182.out
      have hns113_4 := NB189_182.out
      have hns113_5 := NB194_182.out
      have hns113_6 := NB199_182.out
      have hns113_7 := NB204_182.out
      have hms113_0 := NB182_181.out
      have hms113_2 := NB182_183.out
      have hms113_3 := NB182_184.out
      have hms113_4 := NB182_189.out
      have hms113_5 := NB182_194.out
      have hms113_6 := NB182_199.out
      have hms113_7 := NB182_204.out
      have hs114 : w110.cell? ⟨gb182, 1, none⟩ = some (.int .i64 0) := (blk_cell BK182.out 1).trans rfl
      have hfs114 := blk_frozen BK182.out 1
      have hns114_0 := NB181_182.out
      have hns114_2 := NB183_182.out
      have hns114_3 := NB184_182.out
      have hns114_4 := NB189_182.out
      have hns114_5 := NB194_182.out
      have hns114_6 := NB199_182.out
      have hns114_7 := NB204_182.out
      have hms114_0 := NB182_181.out
      have hms114_2 := NB182_183.out
      have hms114_3 := NB182_184.out
      have hms114_4 := NB182_189.out
      have hms114_5 := NB182_194.out
      have hms114_6 := NB182_199.out
      have hms114_7 := NB182_204.out
      refine skip_ (w1 := ?_) (by rfl) rfl ?_ ?_
      rotate_left
      · go_simp
        rfl
      refine hK.out _ _ ⟨((cell_far (p := ⟨gb182, _, none⟩) NB189_182.out _).trans (((cell_far (p := ⟨gb182, _, none⟩) NB189_182.out _).trans (hHeld.1)))), ((cell_far (p := ⟨gb182, _, none⟩) NB189_182.out _).trans (((cell_far (p := ⟨gb182, _, none⟩) NB189_182.out _).trans (hHeld.2.1)))), ((cell_far (p := ⟨gb182, _, none⟩) NB194_182.out _).trans (((cell_far (p := ⟨gb182, _, none⟩) NB194_182.out _).trans (hHeld.2.2.1)))), ((cell_far (p := ⟨gb182, _, none⟩) NB194_182.out _).trans (((cell_far (p := ⟨gb182, _, none⟩) NB194_182.out _).trans (hHeld.2.2.2.1)))), ((cell_far (p := ⟨gb182, _, none⟩) NB199_182.out _).trans (((cell_far (p := ⟨gb182, _, none⟩) NB199_182.out _).trans (hHeld.2.2.2.2.1)))), ((cell_far (p := ⟨gb182, _, none⟩) NB199_182.out _).trans (((cell_far (p := ⟨gb182, _, none⟩) NB199_182.out _).trans (hHeld.2.2.2.2.2.1)))), ((cell_far (p := ⟨gb182, _, none⟩) NB204_182.out _).trans (((cell_far (p := ⟨gb182, _, none⟩) NB204_182.out _).trans (hHeld.2.2.2.2.2.2.1)))), ((cell_far (p := ⟨gb182, _, none⟩) NB204_182.out _).trans (((cell_far (p := ⟨gb182, _, none⟩) NB204_182.out _).trans (hHeld.2.2.2.2.2.2.2))))⟩ (fun hHeld => ?_)
      clear hK K
      refine one_ (i := 6) (N := none) #[true, true, true, true, true, true, true, false] rfl rfl (one_of HT_.out (by kernel_rfl)) (by decide) (fun K hK => ?_)
      have hs115 : w110.cell? ⟨gb183, 0, none⟩ = some (.int .i64 0) := (blk_cell BK183.out 0).trans rfl
      have hfs115 := blk_frozen BK183.out 0
      have hns115_0 := NB181_183.out
      have hns115_1 := NB182_183.out
      have hns115_3 := NB184_183.out
      have hns115_4 := NB189_183.out
      have hns115_5 := NB194_183.out
      have hns115_6 := NB199_183.out
      have hns115_7 := NB204_183.out
      have hms115_0 := NB183_181.out
      have hms115_1 := NB183_182.out
      have hms115_3 := NB183_184.out
      have hms115_4 := NB183_189.out
      have hms115_5 := NB183_194.out
      have hms115_6 := NB183_199.out
      have hms115_7 := NB183_204.out
      have hs116 : w110.cell? ⟨gb183, 1, none⟩ = some (.int .i64 0) := (blk_cell BK183.out 1).trans rfl
      have hfs116 := blk_frozen BK183.out 1
      have hns116_0 := NB181_183.out
      have hns116_1 := NB182_183.out
      have hns116_3 := NB184_183.out
      have hns116_4 := NB189_183.out
      have hns116_5 := NB194_183.out
      have hns116_6 := NB199_183.out
      have hns116_7 := NB204_183.out
      have hms116_0 := NB183_181.out
      have hms116_1 := NB183_182.out
      have hms116_3 := NB183_184.out
      have hms116_4 := NB183_189.out
      have hms116_5 := NB183_194.out
      have hms116_6 := NB183_199.out
      have hms116_7 := NB183_204.out
      refine skip_ (w1 := ?_) (by rfl) rfl ?_ ?_
      rotate_left
      · go_simp
        rfl
      refine hK.out _ _ ⟨((cell_far (p := ⟨gb183, _, none⟩) NB189_183.out _).trans (((cell_far (p := ⟨gb183, _, none⟩) NB189_183.out _).trans (hHeld.1)))), ((cell_far (p := ⟨gb183, _, none⟩) NB189_183.out _).trans (((cell_far (p := ⟨gb183, _, none⟩) NB189_183.out _).trans (hHeld.2.1)))), ((cell_far (p := ⟨gb183, _, none⟩) NB194_183.out _).trans (((cell_far (p := ⟨gb183, _, none⟩) NB194_183.out _).trans (hHeld.2.2.1)))), ((cell_far (p := ⟨gb183, _, none⟩) NB194_183.out _).trans (((cell_far (p := ⟨gb183, _, none⟩) NB194_183.out _).trans (hHeld.2.2.2.1)))), ((cell_far (p := ⟨gb183, _, none⟩) NB199_183.out _).trans (((cell_far (p := ⟨gb183, _, none⟩) NB199_183.out _).trans (hHeld.2.2.2.2.1)))), ((cell_far (p := ⟨gb183, _, none⟩) NB199_183.out _).trans (((cell_far (p := ⟨gb183, _, none⟩) NB199_183.out _).trans (hHeld.2.2.2.2.2.1)))), ((cell_far (p := ⟨gb183, _, none⟩) NB204_183.out _).trans (((cell_far (p := ⟨gb183, _, none⟩) NB204_183.out _).trans (hHeld.2.2.2.2.2.2.1)))), ((cell_far (p := ⟨gb183, _, none⟩) NB204_183.out _).trans (((cell_far (p := ⟨gb183, _, none⟩) NB204_183.out _).trans (hHeld.2.2.2.2.2.2.2))))⟩ (fun hHeld => ?_)
      clear hK K
      refine one_ (i := 7) (N := none) #[true, true, true, true, true, true, true, true] rfl rfl (one_of HT_.out (by kernel_rfl)) (by decide) (fun K hK => ?_)
      have hs117 : w110.cell? ⟨gb184, 0, none⟩ = some (.int .i64 0) := (blk_cell BK184.out 0).trans rfl
      have hfs117 := blk_frozen BK184.out 0
      have hns117_0 := NB181_184.out
      have hns117_1 := NB182_184.out
      have hns117_2 := NB183_184.out
      have hns117_4 := NB189_184.out
      have hns117_5 := NB194_184.out
      have hns117_6 := NB199_184.out
      have hns117_7 := NB204_184.out
      have hms117_0 := NB184_181.out
      have hms117_1 := NB184_182.out
      have hms117_2 := NB184_183.out
      have hms117_4 := NB184_189.out
      have hms117_5 := NB184_194.out
      have hms117_6 := NB184_199.out
      have hms117_7 := NB184_204.out
      have hs118 : w110.cell? ⟨gb184, 1, none⟩ = some (.int .i64 0) := (blk_cell BK184.out 1).trans rfl
      have hfs118 := blk_frozen BK184.out 1
      have hns118_0 := NB181_184.out
      have hns118_1 := NB182_184.out
      have hns118_2 := NB183_184.out
      have hns118_4 := NB189_184.out
      have hns118_5 := NB194_184.out
      have hns118_6 := NB199_184.out
      have hns118_7 := NB204_184.out
      have hms118_0 := NB184_181.out
      have hms118_1 := NB184_182.out
      have hms118_2 := NB184_183.out
      have hms118_4 := NB184_189.out
      have hms118_5 := NB184_194.out
      have hms118_6 := NB184_199.out
      have hms118_7 := NB184_204.out
      refine skip_ (w1 := ?_) (by rfl) rfl ?_ ?_
      rotate_left
      · go_simp
        rfl
      refine hK.out _ _ ⟨((cell_far (p := ⟨gb184, _, none⟩) NB189_184.out _).trans (((cell_far (p := ⟨gb184, _, none⟩) NB189_184.out _).trans (hHeld.1)))), ((cell_far (p := ⟨gb184, _, none⟩) NB189_184.out _).trans (((cell_far (p := ⟨gb184, _, none⟩) NB189_184.out _).trans (hHeld.2.1)))), ((cell_far (p := ⟨gb184, _, none⟩) NB194_184.out _).trans (((cell_far (p := ⟨gb184, _, none⟩) NB194_184.out _).trans (hHeld.2.2.1)))), ((cell_far (p := ⟨gb184, _, none⟩) NB194_184.out _).trans (((cell_far (p := ⟨gb184, _, none⟩) NB194_184.out _).trans (hHeld.2.2.2.1)))), ((cell_far (p := ⟨gb184, _, none⟩) NB199_184.out _).trans (((cell_far (p := ⟨gb184, _, none⟩) NB199_184.out _).trans (hHeld.2.2.2.2.1)))), ((cell_far (p := ⟨gb184, _, none⟩) NB199_184.out _).trans (((cell_far (p := ⟨gb184, _, none⟩) NB199_184.out _).trans (hHeld.2.2.2.2.2.1)))), ((cell_far (p := ⟨gb184, _, none⟩) NB204_184.out _).trans (((cell_far (p := ⟨gb184, _, none⟩) NB204_184.out _).trans (hHeld.2.2.2.2.2.2.1)))), ((cell_far (p := ⟨gb184, _, none⟩) NB204_184.out _).trans (((cell_far (p := ⟨gb184, _, none⟩) NB204_184.out _).trans (hHeld.2.2.2.2.2.2.2))))⟩ (fun hHeld => ?_)
      clear hK K
      refine done_ (done_of HT_.out (by kernel_rfl)) ?_
      try go_wp2
      refine bodyPost_ret (results_list (rs := [.cell 2 32, .cell 3 32, .cell 4 32, .cell 5 32]) rfl (by simp) (.cell gb181 32 #[.int .i64 t185, .int .i64 t186] (0, 0) _ rfl (by (with_reducible repeat (first | refine blk_drewN ?_ _ | refine blk_drew ?_ | refine blk_alloc ?_ _)); refine blk_far ?_ NB181_184.out _; (with_reducible repeat (first | refine blk_drewN ?_ _ | refine blk_drew ?_ | refine blk_alloc ?_ _)); refine blk_far ?_ NB181_184.out _; (with_reducible repeat (first | refine blk_drewN ?_ _ | refine blk_drew ?_ | refine blk_alloc ?_ _)); refine blk_far ?_ NB181_183.out _; (with_reducible repeat (first | refine blk_drewN ?_ _ | refine blk_drew ?_ | refine blk_alloc ?_ _)); refine blk_far ?_ NB181_183.out _; (with_reducible repeat (first | refine blk_drewN ?_ _ | refine blk_drew ?_ | refine blk_alloc ?_ _)); refine blk_far ?_ NB181_182.out _; (with_reducible repeat (first | refine blk_drewN ?_ _ | refine blk_drew ?_ | refine blk_alloc ?_ _)); refine blk_far ?_ NB181_182.out _; (with_reducible repeat (first | refine blk_drewN ?_ _ | refine blk_drew ?_ | refine blk_alloc ?_ _)); refine blk_put (cs := #[.int .i64 t185, .int .i64 0]) ?_ 1 _ rfl; (with_reducible repeat (first | refine blk_drewN ?_ _ | refine blk_drew ?_ | refine blk_alloc ?_ _)); refine blk_put (cs := #[.int .i64 0, .int .i64 0]) ?_ 0 _ rfl; (with_reducible repeat (first | refine blk_drewN ?_ _ | refine blk_drew ?_ | refine blk_alloc ?_ _)); exact BK181.out) Try.underlying32 rfl (by kernel_rfl) (.cell gb182 32 #[.int .i64 t185, .int .i64 t186] (0, 0) _ rfl (by (with_reducible repeat (first | refine blk_drewN ?_ _ | refine blk_drew ?_ | refine blk_alloc ?_ _)); refine blk_far ?_ NB182_184.out _; (with_reducible repeat (first | refine blk_drewN ?_ _ | refine blk_drew ?_ | refine blk_alloc ?_ _)); refine blk_far ?_ NB182_184.out _; (with_reducible repeat (first | refine blk_drewN ?_ _ | refine blk_drew ?_ | refine blk_alloc ?_ _)); refine blk_far ?_ NB182_183.out _; (with_reducible repeat (first | refine blk_drewN ?_ _ | refine blk_drew ?_ | refine blk_alloc ?_ _)); refine blk_far ?_ NB182_183.out _; (with_reducible repeat (first | refine blk_drewN ?_ _ | refine blk_drew ?_ | refine blk_alloc ?_ _)); refine blk_put (cs := #[.int .i64 t185, .int .i64 0]) ?_ 1 _ rfl; (with_reducible repeat (first | refine blk_drewN ?_ _ | refine blk_drew ?_ | refine blk_alloc ?_ _)); refine blk_put (cs := #[.int .i64 0, .int .i64 0]) ?_ 0 _ rfl; (with_reducible repeat (first | refine blk_drewN ?_ _ | refine blk_drew ?_ | refine blk_alloc ?_ _)); refine blk_far ?_ NB182_181.out _; (with_reducible repeat (first | refine blk_drewN ?_ _ | refine blk_drew ?_ | refine blk_alloc ?_ _)); refine blk_far ?_ NB182_181.out _; (with_reducible repeat (first | refine blk_drewN ?_ _ | refine blk_drew ?_ | refine blk_alloc ?_ _)); exact BK182.out) Try.underlying32 rfl (by kernel_rfl) (.cell gb183 32 #[.int .i64 t195, .int .i64 t196] (0, 0) _ rfl (by (with_reducible repeat (first | refine blk_drewN ?_ _ | refine blk_drew ?_ | refine blk_alloc ?_ _)); refine blk_far ?_ NB183_184.out _; (with_reducible repeat (first | refine blk_drewN ?_ _ | refine blk_drew ?_ | refine blk_alloc ?_ _)); refine blk_far ?_ NB183_184.out _; (with_reducible repeat (first | refine blk_drewN ?_ _ | refine blk_drew ?_ | refine blk_alloc ?_ _)); refine blk_put (cs := #[.int .i64 t195, .int .i64 0]) ?_ 1 _ rfl; (with_reducible repeat (first | refine blk_drewN ?_ _ | refine blk_drew ?_ | refine blk_alloc ?_ _)); refine blk_put (cs := #[.int .i64 0, .int .i64 0]) ?_ 0 _ rfl; (with_reducible repeat (first | refine blk_drewN ?_ _ | refine blk_drew ?_ | refine blk_alloc ?_ _)); refine blk_far ?_ NB183_182.out _; (with_reducible repeat (first | refine blk_drewN ?_ _ | refine blk_drew ?_ | refine blk_alloc ?_ _)); refine blk_far ?_ NB183_182.out _; (with_reducible repeat (first | refine blk_drewN ?_ _ | refine blk_drew ?_ | refine blk_alloc ?_ _)); refine blk_far ?_ NB183_181.out _; (with_reducible repeat (first | refine blk_drewN ?_ _ | refine blk_drew ?_ | refine blk_alloc ?_ _)); refine blk_far ?_ NB183_181.out _; (with_reducible repeat (first | refine blk_drewN ?_ _ | refine blk_drew ?_ | refine blk_alloc ?_ _)); exact BK183.out) Try.underlying32 rfl (by kernel_rfl) (.cell gb184 32 #[.int .i64 t200, .int .i64 t201] (0, 0) _ rfl (by (with_reducible repeat (first | refine blk_drewN ?_ _ | refine blk_drew ?_ | refine blk_alloc ?_ _)); refine blk_put (cs := #[.int .i64 t200, .int .i64 0]) ?_ 1 _ rfl; (with_reducible repeat (first | refine blk_drewN ?_ _ | refine blk_drew ?_ | refine blk_alloc ?_ _)); refine blk_put (cs := #[.int .i64 0, .int .i64 0]) ?_ 0 _ rfl; (with_reducible repeat (first | refine blk_drewN ?_ _ | refine blk_drew ?_ | refine blk_alloc ?_ _)); refine blk_far ?_ NB184_183.out _; (with_reducible repeat (first | refine blk_drewN ?_ _ | refine blk_drew ?_ | refine blk_alloc ?_ _)); refine blk_far ?_ NB184_183.out _; (with_reducible repeat (first | refine blk_drewN ?_ _ | refine blk_drew ?_ | refine blk_alloc ?_ _)); refine blk_far ?_ NB184_182.out _; (with_reducible repeat (first | refine blk_drewN ?_ _ | refine blk_drew ?_ | refine blk_alloc ?_ _)); refine blk_far ?_ NB184_182.out _; (with_reducible repeat (first | refine blk_drewN ?_ _ | refine blk_drew ?_ | refine blk_alloc ?_ _)); refine blk_far ?_ NB184_181.out _; (with_reducible repeat (first | refine blk_drewN ?_ _ | refine blk_drew ?_ | refine blk_alloc ?_ _)); refine blk_far ?_ NB184_181.out _; (with_reducible repeat (first | refine blk_drewN ?_ _ | refine blk_drew ?_ | refine blk_alloc ?_ _)); exact BK184.out) Try.underlying32 rfl (by kernel_rfl) .nil))))) rfl ?_
      exact ⟨by first | rfl | (simp [errW_none, errW_some] <;> rfl) | (simp [*, errW_none, errW_some] <;> rfl), by repeat (first | (with_reducible first | exact HI0.out | apply IsS127.alloc | apply IsS127.drewN | apply IsS127.drew | apply IsS127.set_1 | apply IsS127.set_2 | refine IsS127.far ?_ NB0_181.out _ | refine IsS127.far ?_ NB0_182.out _ | refine IsS127.far ?_ NB0_183.out _ | refine IsS127.far ?_ NB0_184.out _ | refine IsS127.far ?_ NB0_189.out _ | refine IsS127.far ?_ NB0_194.out _ | refine IsS127.far ?_ NB0_199.out _ | refine IsS127.far ?_ NB0_204.out _) | exact HI0.out), by repeat (first | (with_reducible first | exact HB.out | apply below_alloc | apply pw_below_drewN | apply below_drew1 | refine below_set ?_ (IsS127.ge HI0.out) | refine below_set ?_ GE181.out | refine below_set ?_ GE182.out | refine below_set ?_ GE183.out | refine below_set ?_ GE184.out | refine below_set ?_ GE189.out | refine below_set ?_ GE194.out | refine below_set ?_ GE199.out | refine below_set ?_ GE204.out) | exact HB.out), by repeat (first | (with_reducible first | exact HK.out | apply KeepBut.set_ | apply keep_drewN | apply keep_drew | apply keep_alloc | refine keep_far ?_ GW181.out _ | refine keep_far ?_ GW182.out _ | refine keep_far ?_ GW183.out _ | refine keep_far ?_ GW184.out _ | refine keep_far ?_ GW189.out _ | refine keep_far ?_ GW194.out _ | refine keep_far ?_ GW199.out _ | refine keep_far ?_ GW204.out _) | exact HK.out)⟩
    · rw [if_neg c63] at H
      have c63b0 : (t205 == 1) = false := beq_eq_false_iff_ne.mpr c63
      have c63b1 : (t205 != 1) = true := bne_iff_ne.mpr c63
      by_cases c119 : t205 = 2
      · rw [if_pos c119] at H
        have c119b0 : (t205 == 2) = true := beq_iff_eq.mpr c119
        have c119b1 : (t205 != 2) = false := bne_eq_false_iff_eq.mpr c119
        clear c119
        replace H := Option.bind_eq_some_iff.mp H
        obtain ⟨⟨t208, t209⟩, A1200, H⟩ := H
        replace H : ((spec_l3Pt.f t190 t191).bind fun bt210 => ((spec_l3Pt.f t185 t186).bind fun bt212 => ((spec_l3Pt.f t190 t191).bind fun bt214 => (some (t185, t186, t190, t191, wrap64 ((wrap64 (Int.tdiv t208 2)) + (wrap64 (Int.tdiv bt210.1 2))), wrap64 ((wrap64 (Int.tdiv bt212.2 2)) + (wrap64 (Int.tdiv bt214.2 2))), t200, t201, t206, t207))))) = some (r1, r2, r3, r4, r5, r6, r7, r8, r9, r10) := H
        have A120 := Aside0.mk A1200
        clear A1200
        replace H := Option.bind_eq_some_iff.mp H
        obtain ⟨⟨t210, t211⟩, A1210, H⟩ := H
        replace H : ((spec_l3Pt.f t185 t186).bind fun bt212 => ((spec_l3Pt.f t190 t191).bind fun bt214 => (some (t185, t186, t190, t191, wrap64 ((wrap64 (Int.tdiv t208 2)) + (wrap64 (Int.tdiv t210 2))), wrap64 ((wrap64 (Int.tdiv bt212.2 2)) + (wrap64 (Int.tdiv bt214.2 2))), t200, t201, t206, t207)))) = some (r1, r2, r3, r4, r5, r6, r7, r8, r9, r10) := H
        have A121 := Aside0.mk A1210
        clear A1210
        replace H := Option.bind_eq_some_iff.mp H
        obtain ⟨⟨t212, t213⟩, A1220, H⟩ := H
        replace H : ((spec_l3Pt.f t190 t191).bind fun bt214 => (some (t185, t186, t190, t191, wrap64 ((wrap64 (Int.tdiv t208 2)) + (wrap64 (Int.tdiv t210 2))), wrap64 ((wrap64 (Int.tdiv t213 2)) + (wrap64 (Int.tdiv bt214.2 2))), t200, t201, t206, t207))) = some (r1, r2, r3, r4, r5, r6, r7, r8, r9, r10) := H
        have A122 := Aside0.mk A1220
        clear A1220
        replace H := Option.bind_eq_some_iff.mp H
        obtain ⟨⟨t214, t215⟩, A1230, H⟩ := H
        replace H : (some (t185, t186, t190, t191, wrap64 ((wrap64 (Int.tdiv t208 2)) + (wrap64 (Int.tdiv t210 2))), wrap64 ((wrap64 (Int.tdiv t213 2)) + (wrap64 (Int.tdiv t215 2))), t200, t201, t206, t207)) = some (r1, r2, r3, r4, r5, r6, r7, r8, r9, r10) := H
        have A123 := Aside0.mk A1230
        clear A1230
        simp only [Option.some.injEq, Prod.mk.injEq] at H
        obtain ⟨rfl, rfl, rfl, rfl, rfl, rfl, rfl, rfl, rfl, rfl⟩ := H
        refine Aside0.mk ?_
        (refine goesL_ (some 19) rfl rfl Try.func115 (by kernel_rfl) rfl #[.pointer (some ⟨g, 0, none⟩), .int .i64 8] rfl (by (try simp only [List.map_toArray, List.map_cons, List.map_nil]); first | done | rfl | (simp only [List.length_drop, List.length_take]; rfl)) ?_; (with_reducible refine (spec_l1Below.calls g s0_0 t202 t203 8 t205 t206 t207 w0 _ ?side1 ?side2 A6.out).mono ?_); (case side1 => repeat (first | (with_reducible first | exact HI0.out | apply IsS127.alloc | apply IsS127.drewN | apply IsS127.drew | apply IsS127.set_1 | apply IsS127.set_2 | refine IsS127.far ?_ NB0_181.out _ | refine IsS127.far ?_ NB0_182.out _ | refine IsS127.far ?_ NB0_183.out _ | refine IsS127.far ?_ NB0_184.out _ | refine IsS127.far ?_ NB0_189.out _ | refine IsS127.far ?_ NB0_194.out _ | refine IsS127.far ?_ NB0_199.out _ | refine IsS127.far ?_ NB0_204.out _) | exact HI0.out)); (case side2 => repeat (first | (with_reducible first | exact HB.out | apply below_alloc | apply pw_below_drewN | apply below_drew1 | refine below_set ?_ (IsS127.ge HI0.out) | refine below_set ?_ GE181.out | refine below_set ?_ GE182.out | refine below_set ?_ GE183.out | refine below_set ?_ GE184.out | refine below_set ?_ GE189.out | refine below_set ?_ GE194.out | refine below_set ?_ GE199.out | refine below_set ?_ GE204.out) | exact HB.out)); rintro e w166 ⟨rfl, hi, hb, hk⟩; refine ⟨_, rfl, ?_⟩; have n0_ := Aside0.mk (KeepBut.blk hk (g' := gb181) (o := .cells #[.int .i64 0, .int .i64 0] 32 (0, 0)) (by (with_reducible repeat (first | refine blk_drewN ?_ _ | refine blk_drew ?_ | refine blk_alloc ?_ _)); refine blk_far ?_ NB181_204.out _; (with_reducible repeat (first | refine blk_drewN ?_ _ | refine blk_drew ?_ | refine blk_alloc ?_ _)); refine blk_far ?_ NB181_204.out _; (with_reducible repeat (first | refine blk_drewN ?_ _ | refine blk_drew ?_ | refine blk_alloc ?_ _)); exact BK181.out) NB181_0.out (by simp)); have n1_ := Aside0.mk (KeepBut.blk hk (g' := gb182) (o := .cells #[.int .i64 0, .int .i64 0] 32 (0, 0)) (by (with_reducible repeat (first | refine blk_drewN ?_ _ | refine blk_drew ?_ | refine blk_alloc ?_ _)); refine blk_far ?_ NB182_204.out _; (with_reducible repeat (first | refine blk_drewN ?_ _ | refine blk_drew ?_ | refine blk_alloc ?_ _)); refine blk_far ?_ NB182_204.out _; (with_reducible repeat (first | refine blk_drewN ?_ _ | refine blk_drew ?_ | refine blk_alloc ?_ _)); exact BK182.out) NB182_0.out (by simp)); have n2_ := Aside0.mk (KeepBut.blk hk (g' := gb183) (o := .cells #[.int .i64 0, .int .i64 0] 32 (0, 0)) (by (with_reducible repeat (first | refine blk_drewN ?_ _ | refine blk_drew ?_ | refine blk_alloc ?_ _)); refine blk_far ?_ NB183_204.out _; (with_reducible repeat (first | refine blk_drewN ?_ _ | refine blk_drew ?_ | refine blk_alloc ?_ _)); refine blk_far ?_ NB183_204.out _; (with_reducible repeat (first | refine blk_drewN ?_ _ | refine blk_drew ?_ | refine blk_alloc ?_ _)); exact BK183.out) NB183_0.out (by simp)); have n3_ := Aside0.mk (KeepBut.blk hk (g' := gb184) (o := .cells #[.int .i64 0, .int .i64 0] 32 (0, 0)) (by (with_reducible repeat (first | refine blk_drewN ?_ _ | refine blk_drew ?_ | refine blk_alloc ?_ _)); refine blk_far ?_ NB184_204.out _; (with_reducible repeat (first | refine blk_drewN ?_ _ | refine blk_drew ?_ | refine blk_alloc ?_ _)); refine blk_far ?_ NB184_204.out _; (with_reducible repeat (first | refine blk_drewN ?_ _ | refine blk_drew ?_ | refine blk_alloc ?_ _)); exact BK184.out) NB184_0.out (by simp)); have n4_ := Aside0.mk (KeepBut.blk hk (g' := gb189) (o := .cells #[.int .i64 t185, .int .i64 t186] 32 (0, 0)) (by (with_reducible repeat (first | refine blk_drewN ?_ _ | refine blk_drew ?_ | refine blk_alloc ?_ _)); refine blk_far ?_ NB189_204.out _; (with_reducible repeat (first | refine blk_drewN ?_ _ | refine blk_drew ?_ | refine blk_alloc ?_ _)); refine blk_far ?_ NB189_204.out _; (with_reducible repeat (first | refine blk_drewN ?_ _ | refine blk_drew ?_ | refine blk_alloc ?_ _)); exact BK189.out) NB189_0.out (by simp)); have n5_ := Aside0.mk (KeepBut.blk hk (g' := gb194) (o := .cells #[.int .i64 t190, .int .i64 t191] 32 (0, 0)) (by (with_reducible repeat (first | refine blk_drewN ?_ _ | refine blk_drew ?_ | refine blk_alloc ?_ _)); refine blk_far ?_ NB194_204.out _; (with_reducible repeat (first | refine blk_drewN ?_ _ | refine blk_drew ?_ | refine blk_alloc ?_ _)); refine blk_far ?_ NB194_204.out _; (with_reducible repeat (first | refine blk_drewN ?_ _ | refine blk_drew ?_ | refine blk_alloc ?_ _)); exact BK194.out) NB194_0.out (by simp)); have n6_ := Aside0.mk (KeepBut.blk hk (g' := gb199) (o := .cells #[.int .i64 t195, .int .i64 t196] 32 (0, 0)) (by (with_reducible repeat (first | refine blk_drewN ?_ _ | refine blk_drew ?_ | refine blk_alloc ?_ _)); refine blk_far ?_ NB199_204.out _; (with_reducible repeat (first | refine blk_drewN ?_ _ | refine blk_drew ?_ | refine blk_alloc ?_ _)); refine blk_far ?_ NB199_204.out _; (with_reducible repeat (first | refine blk_drewN ?_ _ | refine blk_drew ?_ | refine blk_alloc ?_ _)); exact BK199.out) NB199_0.out (by simp)); have n7_ := Aside0.mk (KeepBut.blk hk (g' := gb204) (o := .cells #[.int .i64 t200, .int .i64 t201] 32 (0, 0)) (by (with_reducible repeat (first | refine blk_drewN ?_ _ | refine blk_drew ?_ | refine blk_alloc ?_ _)); refine blk_put (cs := #[.int .i64 t200, .int .i64 0]) ?_ 1 _ rfl; (with_reducible repeat (first | refine blk_drewN ?_ _ | refine blk_drew ?_ | refine blk_alloc ?_ _)); refine blk_put (cs := #[.int .i64 0, .int .i64 0]) ?_ 0 _ rfl; (with_reducible repeat (first | refine blk_drewN ?_ _ | refine blk_drew ?_ | refine blk_alloc ?_ _)); exact BK204.out) NB204_0.out (by simp)); have n8_ := Aside0.mk (KeepBut.trans (by repeat (first | (with_reducible first | exact HK.out | apply KeepBut.set_ | apply keep_drewN | apply keep_drew | apply keep_alloc | refine keep_far ?_ GW181.out _ | refine keep_far ?_ GW182.out _ | refine keep_far ?_ GW183.out _ | refine keep_far ?_ GW184.out _ | refine keep_far ?_ GW189.out _ | refine keep_far ?_ GW194.out _ | refine keep_far ?_ GW199.out _ | refine keep_far ?_ GW204.out _) | exact HK.out)) hk (.inl rfl)); have n9_ := Aside0.mk (hb); have n10_ := Aside0.mk (hi); clear BK181; clear BK182; clear BK183; clear BK184; clear BK189; clear BK194; clear BK199; clear BK204; clear HK; clear HB; clear HI0; have BK181 := n0_; have BK182 := n1_; have BK183 := n2_; have BK184 := n3_; have BK189 := n4_; have BK194 := n5_; have BK199 := n6_; have BK204 := n7_; have HK := n8_; have HB := n9_; have HI0 := n10_; clear n0_ n1_ n2_ n3_ n4_ n5_ n6_ n7_ n8_ n9_ n10_; (try clear hb); (try clear hb2); (try clear hk); (try clear hi))
        try go_wp2
        have n0_ := Aside0.mk (blk_drew BK181.out)
        have n1_ := Aside0.mk (blk_drew BK182.out)
        have n2_ := Aside0.mk (blk_drew BK183.out)
        have n3_ := Aside0.mk (blk_drew BK184.out)
        have n4_ := Aside0.mk (blk_drew BK189.out)
        have n5_ := Aside0.mk (blk_drew BK194.out)
        have n6_ := Aside0.mk (blk_drew BK199.out)
        have n7_ := Aside0.mk (blk_drew BK204.out)
        have n8_ := Aside0.mk (IsS127.drew HI0.out)
        have n9_ := Aside0.mk (keep_drew HK.out)
        have n10_ := Aside0.mk (below_drew1 HB.out)
        clear BK181
        clear BK182
        clear BK183
        clear BK184
        clear BK189
        clear BK194
        clear BK199
        clear BK204
        clear HI0
        clear HK
        clear HB
        have BK181 := n0_
        have BK182 := n1_
        have BK183 := n2_
        have BK184 := n3_
        have BK189 := n4_
        have BK194 := n5_
        have BK199 := n6_
        have BK204 := n7_
        have HI0 := n8_
        have HK := n9_
        have HB := n10_
        clear n0_ n1_ n2_ n3_ n4_ n5_ n6_ n7_ n8_ n9_ n10_
        refine start_ (n := 20) (S := fun w' => w'.cell? ⟨gb189, 0, none⟩ = some (.int .i64 t185) ∧ w'.cell? ⟨gb189, 1, none⟩ = some (.int .i64 t186) ∧ w'.cell? ⟨gb194, 0, none⟩ = some (.int .i64 t190) ∧ w'.cell? ⟨gb194, 1, none⟩ = some (.int .i64 t191)) (ds := []) #[false, false, false, false, false, false, false, false, false, false, false, false, false, false, false, false, false, false, false, false] (by kernel_rfl) rfl rfl ⟨(blk_cell BK189.out 0).trans rfl, (blk_cell BK189.out 1).trans rfl, (blk_cell BK194.out 0).trans rfl, (blk_cell BK194.out 1).trans rfl⟩ (fun hHeld => ?_); refine with_tabW spec_l3Four.tab11 spec_l3Four.bits11 (fun HT_ HW_ => ?_)
        generalize w166.drew = w167 at BK181 BK182 BK183 BK184 BK189 BK194 BK199 BK204 HI0 HK HB hHeld ⊢
        refine take_ (i := 0) (N := some 28) (v := ?_) (a' := ?_) #[true, false, false, false, false, false, false, false, false, false, false, false, false, false, false, false, false, false, false, false] rfl rfl (take_ofW HT_.out HW_.out (by kernel_rfl)) (fun _ _ _ h => h) (Or.inl ⟨by rfl, ?_⟩) hHeld ?_ ?_
        rotate_left
        · rintro w' ⟨s0, s1, s2, s3⟩
          go_simp
          with_reducible rfl
        rotate_left
        · simp only [Act.put, List.setIfInBounds_toArray, List.set_cons_zero, List.set_cons_succ, i64_w, i32_w]
          rfl
        refine take_ (i := 4) (N := some 32) (v := ?_) (a' := ?_) #[true, false, false, false, true, false, false, false, false, false, false, false, false, false, false, false, false, false, false, false] rfl rfl (take_ofW HT_.out HW_.out (by kernel_rfl)) (fun _ _ _ h => h) (Or.inl ⟨by rfl, ?_⟩) hHeld ?_ ?_
        rotate_left
        · rintro w' ⟨s0, s1, s2, s3⟩
          go_simp
          with_reducible rfl
        rotate_left
        · simp only [Act.put, List.setIfInBounds_toArray, List.set_cons_zero, List.set_cons_succ, i64_w, i32_w]
          rfl
        refine take_ (i := 9) (N := some 37) (v := ?_) (a' := ?_) #[true, false, false, false, true, false, false, false, false, true, false, false, false, false, false, false, false, false, false, false] rfl rfl (take_ofW HT_.out HW_.out (by kernel_rfl)) (fun _ _ _ h => h) (Or.inl ⟨by rfl, ?_⟩) hHeld ?_ ?_
        rotate_left
        · rintro w' ⟨s0, s1, s2, s3⟩
          go_simp
          with_reducible rfl
        rotate_left
        · simp only [Act.put, List.setIfInBounds_toArray, List.set_cons_zero, List.set_cons_succ, i64_w, i32_w]
          rfl
        refine take_ (i := 13) (N := some 41) (v := ?_) (a' := ?_) #[true, false, false, false, true, false, false, false, false, true, false, false, false, true, false, false, false, false, false, false] rfl rfl (take_ofW HT_.out HW_.out (by kernel_rfl)) (fun _ _ _ h => h) (Or.inl ⟨by rfl, ?_⟩) hHeld ?_ ?_
        rotate_left
        · rintro w' ⟨s0, s1, s2, s3⟩
          go_simp
          with_reducible rfl
        rotate_left
        · simp only [Act.put, List.setIfInBounds_toArray, List.set_cons_zero, List.set_cons_succ, i64_w, i32_w]
          rfl
        refine one_ (i := 1) (N := some 29) #[true, true, false, false, true, false, false, false, false, true, false, false, false, true, false, false, false, false, false, false] rfl rfl (one_of HT_.out (by kernel_rfl)) (by decide) (fun K hK => ?_)
        refine goes_ Try.func71 (by kernel_rfl) rfl #[.agg #[.int .i64 t185, .int .i64 t186]] (by rfl) rfl rfl (by (try simp only [List.map_toArray, List.map_cons, List.map_nil]); first | done | rfl | (simp only [List.length_drop, List.length_take]; rfl)) ?_
        with_reducible refine (spec_l3Pt.calls t185 t186 t208 t209 _ A120.out).mono ?_
        rintro e w168 ⟨rfl, hb⟩
        refine ⟨_, rfl, ?_⟩
        have n0_ := Aside0.mk (IsS127.below (by repeat (first | (with_reducible first | exact HI0.out | apply IsS127.alloc | apply IsS127.drewN | apply IsS127.drew | apply IsS127.set_1 | apply IsS127.set_2 | refine IsS127.far ?_ NB0_181.out _ | refine IsS127.far ?_ NB0_182.out _ | refine IsS127.far ?_ NB0_183.out _ | refine IsS127.far ?_ NB0_184.out _ | refine IsS127.far ?_ NB0_189.out _ | refine IsS127.far ?_ NB0_194.out _ | refine IsS127.far ?_ NB0_199.out _ | refine IsS127.far ?_ NB0_204.out _) | exact HI0.out)) hb)
        have n1_ := Aside0.mk (blk_below (g := gb181) (o := .cells #[.int .i64 0, .int .i64 0] 32 (0, 0)) (by (with_reducible repeat (first | refine blk_drewN ?_ _ | refine blk_drew ?_ | refine blk_alloc ?_ _)); exact BK181.out) hb)
        have n2_ := Aside0.mk (blk_below (g := gb182) (o := .cells #[.int .i64 0, .int .i64 0] 32 (0, 0)) (by (with_reducible repeat (first | refine blk_drewN ?_ _ | refine blk_drew ?_ | refine blk_alloc ?_ _)); exact BK182.out) hb)
        have n3_ := Aside0.mk (blk_below (g := gb183) (o := .cells #[.int .i64 0, .int .i64 0] 32 (0, 0)) (by (with_reducible repeat (first | refine blk_drewN ?_ _ | refine blk_drew ?_ | refine blk_alloc ?_ _)); exact BK183.out) hb)
        have n4_ := Aside0.mk (blk_below (g := gb184) (o := .cells #[.int .i64 0, .int .i64 0] 32 (0, 0)) (by (with_reducible repeat (first | refine blk_drewN ?_ _ | refine blk_drew ?_ | refine blk_alloc ?_ _)); exact BK184.out) hb)
        have n5_ := Aside0.mk (blk_below (g := gb189) (o := .cells #[.int .i64 t185, .int .i64 t186] 32 (0, 0)) (by (with_reducible repeat (first | refine blk_drewN ?_ _ | refine blk_drew ?_ | refine blk_alloc ?_ _)); exact BK189.out) hb)
        have n6_ := Aside0.mk (blk_below (g := gb194) (o := .cells #[.int .i64 t190, .int .i64 t191] 32 (0, 0)) (by (with_reducible repeat (first | refine blk_drewN ?_ _ | refine blk_drew ?_ | refine blk_alloc ?_ _)); exact BK194.out) hb)
        have n7_ := Aside0.mk (blk_below (g := gb199) (o := .cells #[.int .i64 t195, .int .i64 t196] 32 (0, 0)) (by (with_reducible repeat (first | refine blk_drewN ?_ _ | refine blk_drew ?_ | refine blk_alloc ?_ _)); exact BK199.out) hb)
        have n8_ := Aside0.mk (blk_below (g := gb204) (o := .cells #[.int .i64 t200, .int .i64 t201] 32 (0, 0)) (by (with_reducible repeat (first | refine blk_drewN ?_ _ | refine blk_drew ?_ | refine blk_alloc ?_ _)); exact BK204.out) hb)
        have n9_ := Aside0.mk (KeepBut.trans (by repeat (first | (with_reducible first | exact HK.out | apply KeepBut.set_ | apply keep_drewN | apply keep_drew | apply keep_alloc | refine keep_far ?_ GW181.out _ | refine keep_far ?_ GW182.out _ | refine keep_far ?_ GW183.out _ | refine keep_far ?_ GW184.out _ | refine keep_far ?_ GW189.out _ | refine keep_far ?_ GW194.out _ | refine keep_far ?_ GW199.out _ | refine keep_far ?_ GW204.out _) | exact HK.out)) (KeepBut.of_below hb g none) (.inl rfl))
        have n10_ := Aside0.mk (below_step (by repeat (first | (with_reducible first | exact HB.out | apply below_alloc | apply pw_below_drewN | apply below_drew1 | refine below_set ?_ (IsS127.ge HI0.out) | refine below_set ?_ GE181.out | refine below_set ?_ GE182.out | refine below_set ?_ GE183.out | refine below_set ?_ GE184.out | refine below_set ?_ GE189.out | refine below_set ?_ GE194.out | refine below_set ?_ GE199.out | refine below_set ?_ GE204.out) | exact HB.out)) hb)
        clear HI0
        clear BK181
        clear BK182
        clear BK183
        clear BK184
        clear BK189
        clear BK194
        clear BK199
        clear BK204
        clear HK
        clear HB
        have HI0 := n0_
        have BK181 := n1_
        have BK182 := n2_
        have BK183 := n3_
        have BK184 := n4_
        have BK189 := n5_
        have BK194 := n6_
        have BK199 := n7_
        have BK204 := n8_
        have HK := n9_
        have HB := n10_
        clear n0_ n1_ n2_ n3_ n4_ n5_ n6_ n7_ n8_ n9_ n10_
        (try clear hb)
        (try clear hb2)
        (try clear hk)
        (try clear hi)
        refine hK.out _ _ ⟨(blk_cell BK189.out 0).trans rfl, (blk_cell BK189.out 1).trans rfl, (blk_cell BK194.out 0).trans rfl, (blk_cell BK194.out 1).trans rfl⟩ (fun hHeld => ?_)
        clear hK K
        refine norm_ (a' := ?_) ?_ ?_
        rotate_left
        · show Act.put _ (some 29) _ = _
          simp only [Act.put, List.setIfInBounds_toArray, List.set_cons_zero, List.set_cons_succ, i64_w, i32_w]
          rfl
        refine pure_ (i := 2) (N := some 30) (v := ?_) (a' := ?_) #[true, true, true, false, true, false, false, false, false, true, false, false, false, true, false, false, false, false, false, false] rfl rfl (any_of HT_.out (by kernel_rfl)) (fun _ _ _ h => h) (Or.inl ⟨by rfl, ?_⟩) ?_ ?_
        rotate_left
        · intro w'
          go_simp
          with_reducible rfl
        rotate_left
        · simp only [Act.put, List.setIfInBounds_toArray, List.set_cons_zero, List.set_cons_succ, i64_w, i32_w]
          rfl
        refine pure_ (i := 3) (N := some 31) (v := ?_) (a' := ?_) #[true, true, true, true, true, false, false, false, false, true, false, false, false, true, false, false, false, false, false, false] rfl rfl (any_of HT_.out (by kernel_rfl)) (fun _ _ _ h => h) (Or.inl ⟨by rfl, ?_⟩) ?_ ?_
        rotate_left
        · intro w'
          go_simp
          with_reducible rfl
        rotate_left
        · simp only [Act.put, List.setIfInBounds_toArray, List.set_cons_zero, List.set_cons_succ, i64_w, i32_w]
          rfl
        refine one_ (i := 5) (N := some 33) #[true, true, true, true, true, true, false, false, false, true, false, false, false, true, false, false, false, false, false, false] rfl rfl (one_of HT_.out (by kernel_rfl)) (by decide) (fun K hK => ?_)
        refine goes_ Try.func71 (by kernel_rfl) rfl #[.agg #[.int .i64 t190, .int .i64 t191]] (by rfl) rfl rfl (by (try simp only [List.map_toArray, List.map_cons, List.map_nil]); first | done | rfl | (simp only [List.length_drop, List.length_take]; rfl)) ?_
        with_reducible refine (spec_l3Pt.calls t190 t191 t210 t211 _ A121.out).mono ?_
        rintro e w169 ⟨rfl, hb⟩
        refine ⟨_, rfl, ?_⟩
        have n0_ := Aside0.mk (IsS127.below (by repeat (first | (with_reducible first | exact HI0.out | apply IsS127.alloc | apply IsS127.drewN | apply IsS127.drew | apply IsS127.set_1 | apply IsS127.set_2 | refine IsS127.far ?_ NB0_181.out _ | refine IsS127.far ?_ NB0_182.out _ | refine IsS127.far ?_ NB0_183.out _ | refine IsS127.far ?_ NB0_184.out _ | refine IsS127.far ?_ NB0_189.out _ | refine IsS127.far ?_ NB0_194.out _ | refine IsS127.far ?_ NB0_199.out _ | refine IsS127.far ?_ NB0_204.out _) | exact HI0.out)) hb)
        have n1_ := Aside0.mk (blk_below (g := gb181) (o := .cells #[.int .i64 0, .int .i64 0] 32 (0, 0)) (by (with_reducible repeat (first | refine blk_drewN ?_ _ | refine blk_drew ?_ | refine blk_alloc ?_ _)); exact BK181.out) hb)
        have n2_ := Aside0.mk (blk_below (g := gb182) (o := .cells #[.int .i64 0, .int .i64 0] 32 (0, 0)) (by (with_reducible repeat (first | refine blk_drewN ?_ _ | refine blk_drew ?_ | refine blk_alloc ?_ _)); exact BK182.out) hb)
        have n3_ := Aside0.mk (blk_below (g := gb183) (o := .cells #[.int .i64 0, .int .i64 0] 32 (0, 0)) (by (with_reducible repeat (first | refine blk_drewN ?_ _ | refine blk_drew ?_ | refine blk_alloc ?_ _)); exact BK183.out) hb)
        have n4_ := Aside0.mk (blk_below (g := gb184) (o := .cells #[.int .i64 0, .int .i64 0] 32 (0, 0)) (by (with_reducible repeat (first | refine blk_drewN ?_ _ | refine blk_drew ?_ | refine blk_alloc ?_ _)); exact BK184.out) hb)
        have n5_ := Aside0.mk (blk_below (g := gb189) (o := .cells #[.int .i64 t185, .int .i64 t186] 32 (0, 0)) (by (with_reducible repeat (first | refine blk_drewN ?_ _ | refine blk_drew ?_ | refine blk_alloc ?_ _)); exact BK189.out) hb)
        have n6_ := Aside0.mk (blk_below (g := gb194) (o := .cells #[.int .i64 t190, .int .i64 t191] 32 (0, 0)) (by (with_reducible repeat (first | refine blk_drewN ?_ _ | refine blk_drew ?_ | refine blk_alloc ?_ _)); exact BK194.out) hb)
        have n7_ := Aside0.mk (blk_below (g := gb199) (o := .cells #[.int .i64 t195, .int .i64 t196] 32 (0, 0)) (by (with_reducible repeat (first | refine blk_drewN ?_ _ | refine blk_drew ?_ | refine blk_alloc ?_ _)); exact BK199.out) hb)
        have n8_ := Aside0.mk (blk_below (g := gb204) (o := .cells #[.int .i64 t200, .int .i64 t201] 32 (0, 0)) (by (with_reducible repeat (first | refine blk_drewN ?_ _ | refine blk_drew ?_ | refine blk_alloc ?_ _)); exact BK204.out) hb)
        have n9_ := Aside0.mk (KeepBut.trans (by repeat (first | (with_reducible first | exact HK.out | apply KeepBut.set_ | apply keep_drewN | apply keep_drew | apply keep_alloc | refine keep_far ?_ GW181.out _ | refine keep_far ?_ GW182.out _ | refine keep_far ?_ GW183.out _ | refine keep_far ?_ GW184.out _ | refine keep_far ?_ GW189.out _ | refine keep_far ?_ GW194.out _ | refine keep_far ?_ GW199.out _ | refine keep_far ?_ GW204.out _) | exact HK.out)) (KeepBut.of_below hb g none) (.inl rfl))
        have n10_ := Aside0.mk (below_step (by repeat (first | (with_reducible first | exact HB.out | apply below_alloc | apply pw_below_drewN | apply below_drew1 | refine below_set ?_ (IsS127.ge HI0.out) | refine below_set ?_ GE181.out | refine below_set ?_ GE182.out | refine below_set ?_ GE183.out | refine below_set ?_ GE184.out | refine below_set ?_ GE189.out | refine below_set ?_ GE194.out | refine below_set ?_ GE199.out | refine below_set ?_ GE204.out) | exact HB.out)) hb)
        clear HI0
        clear BK181
        clear BK182
        clear BK183
        clear BK184
        clear BK189
        clear BK194
        clear BK199
        clear BK204
        clear HK
        clear HB
        have HI0 := n0_
        have BK181 := n1_
        have BK182 := n2_
        have BK183 := n3_
        have BK184 := n4_
        have BK189 := n5_
        have BK194 := n6_
        have BK199 := n7_
        have BK204 := n8_
        have HK := n9_
        have HB := n10_
        clear n0_ n1_ n2_ n3_ n4_ n5_ n6_ n7_ n8_ n9_ n10_
        (try clear hb)
        (try clear hb2)
        (try clear hk)
        (try clear hi)
        refine hK.out _ _ ⟨(blk_cell BK189.out 0).trans rfl, (blk_cell BK189.out 1).trans rfl, (blk_cell BK194.out 0).trans rfl, (blk_cell BK194.out 1).trans rfl⟩ (fun hHeld => ?_)
        clear hK K
        refine norm_ (a' := ?_) ?_ ?_
        rotate_left
        · show Act.put _ (some 33) _ = _
          simp only [Act.put, List.setIfInBounds_toArray, List.set_cons_zero, List.set_cons_succ, i64_w, i32_w]
          rfl
        refine pure_ (i := 6) (N := some 34) (v := ?_) (a' := ?_) #[true, true, true, true, true, true, true, false, false, true, false, false, false, true, false, false, false, false, false, false] rfl rfl (any_of HT_.out (by kernel_rfl)) (fun _ _ _ h => h) (Or.inl ⟨by rfl, ?_⟩) ?_ ?_
        rotate_left
        · intro w'
          go_simp
          with_reducible rfl
        rotate_left
        · simp only [Act.put, List.setIfInBounds_toArray, List.set_cons_zero, List.set_cons_succ, i64_w, i32_w]
          rfl
        refine pure_ (i := 7) (N := some 35) (v := ?_) (a' := ?_) #[true, true, true, true, true, true, true, true, false, true, false, false, false, true, false, false, false, false, false, false] rfl rfl (any_of HT_.out (by kernel_rfl)) (fun _ _ _ h => h) (Or.inl ⟨by rfl, ?_⟩) ?_ ?_
        rotate_left
        · intro w'
          go_simp
          with_reducible rfl
        rotate_left
        · simp only [Act.put, List.setIfInBounds_toArray, List.set_cons_zero, List.set_cons_succ, i64_w, i32_w]
          rfl
        refine pure_ (i := 8) (N := some 36) (v := ?_) (a' := ?_) #[true, true, true, true, true, true, true, true, true, true, false, false, false, true, false, false, false, false, false, false] rfl rfl (any_of HT_.out (by kernel_rfl)) (fun _ _ _ h => h) (Or.inl ⟨by rfl, ?_⟩) ?_ ?_
        rotate_left
        · intro w'
          go_simp
          with_reducible rfl
        rotate_left
        · simp only [Act.put, List.setIfInBounds_toArray, List.set_cons_zero, List.set_cons_succ, i64_w, i32_w]
          rfl
        refine one_ (i := 10) (N := some 38) #[true, true, true, true, true, true, true, true, true, true, true, false, false, true, false, false, false, false, false, false] rfl rfl (one_of HT_.out (by kernel_rfl)) (by decide) (fun K hK => ?_)
        refine goes_ Try.func71 (by kernel_rfl) rfl #[.agg #[.int .i64 t185, .int .i64 t186]] (by rfl) rfl rfl (by (try simp only [List.map_toArray, List.map_cons, List.map_nil]); first | done | rfl | (simp only [List.length_drop, List.length_take]; rfl)) ?_
        with_reducible refine (spec_l3Pt.calls t185 t186 t212 t213 _ A122.out).mono ?_
        rintro e w170 ⟨rfl, hb⟩
        refine ⟨_, rfl, ?_⟩
        have n0_ := Aside0.mk (IsS127.below (by repeat (first | (with_reducible first | exact HI0.out | apply IsS127.alloc | apply IsS127.drewN | apply IsS127.drew | apply IsS127.set_1 | apply IsS127.set_2 | refine IsS127.far ?_ NB0_181.out _ | refine IsS127.far ?_ NB0_182.out _ | refine IsS127.far ?_ NB0_183.out _ | refine IsS127.far ?_ NB0_184.out _ | refine IsS127.far ?_ NB0_189.out _ | refine IsS127.far ?_ NB0_194.out _ | refine IsS127.far ?_ NB0_199.out _ | refine IsS127.far ?_ NB0_204.out _) | exact HI0.out)) hb)
        have n1_ := Aside0.mk (blk_below (g := gb181) (o := .cells #[.int .i64 0, .int .i64 0] 32 (0, 0)) (by (with_reducible repeat (first | refine blk_drewN ?_ _ | refine blk_drew ?_ | refine blk_alloc ?_ _)); exact BK181.out) hb)
        have n2_ := Aside0.mk (blk_below (g := gb182) (o := .cells #[.int .i64 0, .int .i64 0] 32 (0, 0)) (by (with_reducible repeat (first | refine blk_drewN ?_ _ | refine blk_drew ?_ | refine blk_alloc ?_ _)); exact BK182.out) hb)
        have n3_ := Aside0.mk (blk_below (g := gb183) (o := .cells #[.int .i64 0, .int .i64 0] 32 (0, 0)) (by (with_reducible repeat (first | refine blk_drewN ?_ _ | refine blk_drew ?_ | refine blk_alloc ?_ _)); exact BK183.out) hb)
        have n4_ := Aside0.mk (blk_below (g := gb184) (o := .cells #[.int .i64 0, .int .i64 0] 32 (0, 0)) (by (with_reducible repeat (first | refine blk_drewN ?_ _ | refine blk_drew ?_ | refine blk_alloc ?_ _)); exact BK184.out) hb)
        have n5_ := Aside0.mk (blk_below (g := gb189) (o := .cells #[.int .i64 t185, .int .i64 t186] 32 (0, 0)) (by (with_reducible repeat (first | refine blk_drewN ?_ _ | refine blk_drew ?_ | refine blk_alloc ?_ _)); exact BK189.out) hb)
        have n6_ := Aside0.mk (blk_below (g := gb194) (o := .cells #[.int .i64 t190, .int .i64 t191] 32 (0, 0)) (by (with_reducible repeat (first | refine blk_drewN ?_ _ | refine blk_drew ?_ | refine blk_alloc ?_ _)); exact BK194.out) hb)
        have n7_ := Aside0.mk (blk_below (g := gb199) (o := .cells #[.int .i64 t195, .int .i64 t196] 32 (0, 0)) (by (with_reducible repeat (first | refine blk_drewN ?_ _ | refine blk_drew ?_ | refine blk_alloc ?_ _)); exact BK199.out) hb)
        have n8_ := Aside0.mk (blk_below (g := gb204) (o := .cells #[.int .i64 t200, .int .i64 t201] 32 (0, 0)) (by (with_reducible repeat (first | refine blk_drewN ?_ _ | refine blk_drew ?_ | refine blk_alloc ?_ _)); exact BK204.out) hb)
        have n9_ := Aside0.mk (KeepBut.trans (by repeat (first | (with_reducible first | exact HK.out | apply KeepBut.set_ | apply keep_drewN | apply keep_drew | apply keep_alloc | refine keep_far ?_ GW181.out _ | refine keep_far ?_ GW182.out _ | refine keep_far ?_ GW183.out _ | refine keep_far ?_ GW184.out _ | refine keep_far ?_ GW189.out _ | refine keep_far ?_ GW194.out _ | refine keep_far ?_ GW199.out _ | refine keep_far ?_ GW204.out _) | exact HK.out)) (KeepBut.of_below hb g none) (.inl rfl))
        have n10_ := Aside0.mk (below_step (by repeat (first | (with_reducible first | exact HB.out | apply below_alloc | apply pw_below_drewN | apply below_drew1 | refine below_set ?_ (IsS127.ge HI0.out) | refine below_set ?_ GE181.out | refine below_set ?_ GE182.out | refine below_set ?_ GE183.out | refine below_set ?_ GE184.out | refine below_set ?_ GE189.out | refine below_set ?_ GE194.out | refine below_set ?_ GE199.out | refine below_set ?_ GE204.out) | exact HB.out)) hb)
        clear HI0
        clear BK181
        clear BK182
        clear BK183
        clear BK184
        clear BK189
        clear BK194
        clear BK199
        clear BK204
        clear HK
        clear HB
        have HI0 := n0_
        have BK181 := n1_
        have BK182 := n2_
        have BK183 := n3_
        have BK184 := n4_
        have BK189 := n5_
        have BK194 := n6_
        have BK199 := n7_
        have BK204 := n8_
        have HK := n9_
        have HB := n10_
        clear n0_ n1_ n2_ n3_ n4_ n5_ n6_ n7_ n8_ n9_ n10_
        (try clear hb)
        (try clear hb2)
        (try clear hk)
        (try clear hi)
        refine hK.out _ _ ⟨(blk_cell BK189.out 0).trans rfl, (blk_cell BK189.out 1).trans rfl, (blk_cell BK194.out 0).trans rfl, (blk_cell BK194.out 1).trans rfl⟩ (fun hHeld => ?_)
        clear hK K
        refine norm_ (a' := ?_) ?_ ?_
        rotate_left
        · show Act.put _ (some 38) _ = _
          simp only [Act.put, List.setIfInBounds_toArray, List.set_cons_zero, List.set_cons_succ, i64_w, i32_w]
          rfl
        refine pure_ (i := 11) (N := some 39) (v := ?_) (a' := ?_) #[true, true, true, true, true, true, true, true, true, true, true, true, false, true, false, false, false, false, false, false] rfl rfl (any_of HT_.out (by kernel_rfl)) (fun _ _ _ h => h) (Or.inl ⟨by rfl, ?_⟩) ?_ ?_
        rotate_left
        · intro w'
          go_simp
          with_reducible rfl
        rotate_left
        · simp only [Act.put, List.setIfInBounds_toArray, List.set_cons_zero, List.set_cons_succ, i64_w, i32_w]
          rfl
        refine pure_ (i := 12) (N := some 40) (v := ?_) (a' := ?_) #[true, true, true, true, true, true, true, true, true, true, true, true, true, true, false, false, false, false, false, false] rfl rfl (any_of HT_.out (by kernel_rfl)) (fun _ _ _ h => h) (Or.inl ⟨by rfl, ?_⟩) ?_ ?_
        rotate_left
        · intro w'
          go_simp
          with_reducible rfl
        rotate_left
        · simp only [Act.put, List.setIfInBounds_toArray, List.set_cons_zero, List.set_cons_succ, i64_w, i32_w]
          rfl
        refine one_ (i := 14) (N := some 42) #[true, true, true, true, true, true, true, true, true, true, true, true, true, true, true, false, false, false, false, false] rfl rfl (one_of HT_.out (by kernel_rfl)) (by decide) (fun K hK => ?_)
        refine goes_ Try.func71 (by kernel_rfl) rfl #[.agg #[.int .i64 t190, .int .i64 t191]] (by rfl) rfl rfl (by (try simp only [List.map_toArray, List.map_cons, List.map_nil]); first | done | rfl | (simp only [List.length_drop, List.length_take]; rfl)) ?_
        with_reducible refine (spec_l3Pt.calls t190 t191 t214 t215 _ A123.out).mono ?_
        rintro e w171 ⟨rfl, hb⟩
        refine ⟨_, rfl, ?_⟩
        have n0_ := Aside0.mk (IsS127.below (by repeat (first | (with_reducible first | exact HI0.out | apply IsS127.alloc | apply IsS127.drewN | apply IsS127.drew | apply IsS127.set_1 | apply IsS127.set_2 | refine IsS127.far ?_ NB0_181.out _ | refine IsS127.far ?_ NB0_182.out _ | refine IsS127.far ?_ NB0_183.out _ | refine IsS127.far ?_ NB0_184.out _ | refine IsS127.far ?_ NB0_189.out _ | refine IsS127.far ?_ NB0_194.out _ | refine IsS127.far ?_ NB0_199.out _ | refine IsS127.far ?_ NB0_204.out _) | exact HI0.out)) hb)
        have n1_ := Aside0.mk (blk_below (g := gb181) (o := .cells #[.int .i64 0, .int .i64 0] 32 (0, 0)) (by (with_reducible repeat (first | refine blk_drewN ?_ _ | refine blk_drew ?_ | refine blk_alloc ?_ _)); exact BK181.out) hb)
        have n2_ := Aside0.mk (blk_below (g := gb182) (o := .cells #[.int .i64 0, .int .i64 0] 32 (0, 0)) (by (with_reducible repeat (first | refine blk_drewN ?_ _ | refine blk_drew ?_ | refine blk_alloc ?_ _)); exact BK182.out) hb)
        have n3_ := Aside0.mk (blk_below (g := gb183) (o := .cells #[.int .i64 0, .int .i64 0] 32 (0, 0)) (by (with_reducible repeat (first | refine blk_drewN ?_ _ | refine blk_drew ?_ | refine blk_alloc ?_ _)); exact BK183.out) hb)
        have n4_ := Aside0.mk (blk_below (g := gb184) (o := .cells #[.int .i64 0, .int .i64 0] 32 (0, 0)) (by (with_reducible repeat (first | refine blk_drewN ?_ _ | refine blk_drew ?_ | refine blk_alloc ?_ _)); exact BK184.out) hb)
        have n5_ := Aside0.mk (blk_below (g := gb189) (o := .cells #[.int .i64 t185, .int .i64 t186] 32 (0, 0)) (by (with_reducible repeat (first | refine blk_drewN ?_ _ | refine blk_drew ?_ | refine blk_alloc ?_ _)); exact BK189.out) hb)
        have n6_ := Aside0.mk (blk_below (g := gb194) (o := .cells #[.int .i64 t190, .int .i64 t191] 32 (0, 0)) (by (with_reducible repeat (first | refine blk_drewN ?_ _ | refine blk_drew ?_ | refine blk_alloc ?_ _)); exact BK194.out) hb)
        have n7_ := Aside0.mk (blk_below (g := gb199) (o := .cells #[.int .i64 t195, .int .i64 t196] 32 (0, 0)) (by (with_reducible repeat (first | refine blk_drewN ?_ _ | refine blk_drew ?_ | refine blk_alloc ?_ _)); exact BK199.out) hb)
        have n8_ := Aside0.mk (blk_below (g := gb204) (o := .cells #[.int .i64 t200, .int .i64 t201] 32 (0, 0)) (by (with_reducible repeat (first | refine blk_drewN ?_ _ | refine blk_drew ?_ | refine blk_alloc ?_ _)); exact BK204.out) hb)
        have n9_ := Aside0.mk (KeepBut.trans (by repeat (first | (with_reducible first | exact HK.out | apply KeepBut.set_ | apply keep_drewN | apply keep_drew | apply keep_alloc | refine keep_far ?_ GW181.out _ | refine keep_far ?_ GW182.out _ | refine keep_far ?_ GW183.out _ | refine keep_far ?_ GW184.out _ | refine keep_far ?_ GW189.out _ | refine keep_far ?_ GW194.out _ | refine keep_far ?_ GW199.out _ | refine keep_far ?_ GW204.out _) | exact HK.out)) (KeepBut.of_below hb g none) (.inl rfl))
        have n10_ := Aside0.mk (below_step (by repeat (first | (with_reducible first | exact HB.out | apply below_alloc | apply pw_below_drewN | apply below_drew1 | refine below_set ?_ (IsS127.ge HI0.out) | refine below_set ?_ GE181.out | refine below_set ?_ GE182.out | refine below_set ?_ GE183.out | refine below_set ?_ GE184.out | refine below_set ?_ GE189.out | refine below_set ?_ GE194.out | refine below_set ?_ GE199.out | refine below_set ?_ GE204.out) | exact HB.out)) hb)
        clear HI0
        clear BK181
        clear BK182
        clear BK183
        clear BK184
        clear BK189
        clear BK194
        clear BK199
        clear BK204
        clear HK
        clear HB
        have HI0 := n0_
        have BK181 := n1_
        have BK182 := n2_
        have BK183 := n3_
        have BK184 := n4_
        have BK189 := n5_
        have BK194 := n6_
        have BK199 := n7_
        have BK204 := n8_
        have HK := n9_
        have HB := n10_
        clear n0_ n1_ n2_ n3_ n4_ n5_ n6_ n7_ n8_ n9_ n10_
        (try clear hb)
        (try clear hb2)
        (try clear hk)
        (try clear hi)
        refine hK.out _ _ ⟨(blk_cell BK189.out 0).trans rfl, (blk_cell BK189.out 1).trans rfl, (blk_cell BK194.out 0).trans rfl, (blk_cell BK194.out 1).trans rfl⟩ (fun hHeld => ?_)
        clear hK K
        refine norm_ (a' := ?_) ?_ ?_
        rotate_left
        · show Act.put _ (some 42) _ = _
          simp only [Act.put, List.setIfInBounds_toArray, List.set_cons_zero, List.set_cons_succ, i64_w, i32_w]
          rfl
        refine pure_ (i := 15) (N := some 43) (v := ?_) (a' := ?_) #[true, true, true, true, true, true, true, true, true, true, true, true, true, true, true, true, false, false, false, false] rfl rfl (any_of HT_.out (by kernel_rfl)) (fun _ _ _ h => h) (Or.inl ⟨by rfl, ?_⟩) ?_ ?_
        rotate_left
        · intro w'
          go_simp
          with_reducible rfl
        rotate_left
        · simp only [Act.put, List.setIfInBounds_toArray, List.set_cons_zero, List.set_cons_succ, i64_w, i32_w]
          rfl
        refine pure_ (i := 16) (N := some 44) (v := ?_) (a' := ?_) #[true, true, true, true, true, true, true, true, true, true, true, true, true, true, true, true, true, false, false, false] rfl rfl (any_of HT_.out (by kernel_rfl)) (fun _ _ _ h => h) (Or.inl ⟨by rfl, ?_⟩) ?_ ?_
        rotate_left
        · intro w'
          go_simp
          with_reducible rfl
        rotate_left
        · simp only [Act.put, List.setIfInBounds_toArray, List.set_cons_zero, List.set_cons_succ, i64_w, i32_w]
          rfl
        refine pure_ (i := 17) (N := some 45) (v := ?_) (a' := ?_) #[true, true, true, true, true, true, true, true, true, true, true, true, true, true, true, true, true, true, false, false] rfl rfl (any_of HT_.out (by kernel_rfl)) (fun _ _ _ h => h) (Or.inl ⟨by rfl, ?_⟩) ?_ ?_
        rotate_left
        · intro w'
          go_simp
          with_reducible rfl
        rotate_left
        · simp only [Act.put, List.setIfInBounds_toArray, List.set_cons_zero, List.set_cons_succ, i64_w, i32_w]
          rfl
        refine pure_ (i := 18) (N := some 46) (v := ?_) (a' := ?_) #[true, true, true, true, true, true, true, true, true, true, true, true, true, true, true, true, true, true, true, false] rfl rfl (any_of HT_.out (by kernel_rfl)) (fun _ _ _ h => h) (Or.inl ⟨by rfl, ?_⟩) ?_ ?_
        rotate_left
        · intro w'
          go_simp
          with_reducible rfl
        rotate_left
        · simp only [Act.put, List.setIfInBounds_toArray, List.set_cons_zero, List.set_cons_succ, i64_w, i32_w]
          rfl
        refine one_ (i := 19) (N := none) #[true, true, true, true, true, true, true, true, true, true, true, true, true, true, true, true, true, true, true, true] rfl rfl (one_of HT_.out (by kernel_rfl)) (by decide) (fun K hK => ?_)
        have hs172 : w171.cell? ⟨gb199, 0, none⟩ = some (.int .i64 t195) := (blk_cell BK199.out 0).trans rfl
        have hfs172 := blk_frozen BK199.out 0
        have hns172_0 := NB181_199.out
        have hns172_1 := NB182_199.out
        have hns172_2 := NB183_199.out
        have hns172_3 := NB184_199.out
        have hns172_4 := NB189_199.out
        have hns172_5 := NB194_199.out
        have hns172_7 := NB204_199.out
        have hms172_0 := NB199_181.out
        have hms172_1 := NB199_182.out
        have hms172_2 := NB199_183.out
        have hms172_3 := NB199_184.out
        have hms172_4 := NB199_189.out
        have hms172_5 := NB199_194.out
        have hms172_7 := NB199_204.out
        have hs173 : w171.cell? ⟨gb199, 1, none⟩ = some (.int .i64 t196) := (blk_cell BK199.out 1).trans rfl
        have hfs173 := blk_frozen BK199.out 1
        have hns173_0 := NB181_199.out
        have hns173_1 := NB182_199.out
        have hns173_2 := NB183_199.out
        have hns173_3 := NB184_199.out
        have hns173_4 := NB189_199.out
        have hns173_5 := NB194_199.out
        have hns173_7 := NB204_199.out
        have hms173_0 := NB199_181.out
        have hms173_1 := NB199_182.out
        have hms173_2 := NB199_183.out
        have hms173_3 := NB199_184.out
        have hms173_4 := NB199_189.out
        have hms173_5 := NB199_194.out
        have hms173_7 := NB199_204.out
        refine skip_ (w1 := ?_) (by rfl) rfl ?_ ?_
        rotate_left
        · go_simp
          rfl
        refine hK.out _ _ ⟨((cell_far (p := ⟨gb199, _, none⟩) NB189_199.out _).trans (((cell_far (p := ⟨gb199, _, none⟩) NB189_199.out _).trans (hHeld.1)))), ((cell_far (p := ⟨gb199, _, none⟩) NB189_199.out _).trans (((cell_far (p := ⟨gb199, _, none⟩) NB189_199.out _).trans (hHeld.2.1)))), ((cell_far (p := ⟨gb199, _, none⟩) NB194_199.out _).trans (((cell_far (p := ⟨gb199, _, none⟩) NB194_199.out _).trans (hHeld.2.2.1)))), ((cell_far (p := ⟨gb199, _, none⟩) NB194_199.out _).trans (((cell_far (p := ⟨gb199, _, none⟩) NB194_199.out _).trans (hHeld.2.2.2))))⟩ (fun hHeld => ?_)
        clear hK K
        refine done_ (done_of HT_.out (by kernel_rfl)) ?_
        try go_wp2
        have n0_ : Aside0 (((w171.setCell ⟨gb199, 0, none⟩ (.int .i64 (wrap64 ((wrap64 (Int.tdiv t208 2)) + (wrap64 (Int.tdiv t210 2)))))).setCell ⟨gb199, 1, none⟩ (.int .i64 (wrap64 ((wrap64 (Int.tdiv t213 2)) + (wrap64 (Int.tdiv t215 2)))))).heap[gb181]? = some (.cells #[.int .i64 0, .int .i64 0] 32 (0, 0))) := ⟨by (with_reducible repeat (first | refine blk_drewN ?_ _ | refine blk_drew ?_ | refine blk_alloc ?_ _)); refine blk_far ?_ NB181_199.out _; (with_reducible repeat (first | refine blk_drewN ?_ _ | refine blk_drew ?_ | refine blk_alloc ?_ _)); refine blk_far ?_ NB181_199.out _; (with_reducible repeat (first | refine blk_drewN ?_ _ | refine blk_drew ?_ | refine blk_alloc ?_ _)); exact BK181.out⟩
        have n1_ : Aside0 (((w171.setCell ⟨gb199, 0, none⟩ (.int .i64 (wrap64 ((wrap64 (Int.tdiv t208 2)) + (wrap64 (Int.tdiv t210 2)))))).setCell ⟨gb199, 1, none⟩ (.int .i64 (wrap64 ((wrap64 (Int.tdiv t213 2)) + (wrap64 (Int.tdiv t215 2)))))).heap[gb182]? = some (.cells #[.int .i64 0, .int .i64 0] 32 (0, 0))) := ⟨by (with_reducible repeat (first | refine blk_drewN ?_ _ | refine blk_drew ?_ | refine blk_alloc ?_ _)); refine blk_far ?_ NB182_199.out _; (with_reducible repeat (first | refine blk_drewN ?_ _ | refine blk_drew ?_ | refine blk_alloc ?_ _)); refine blk_far ?_ NB182_199.out _; (with_reducible repeat (first | refine blk_drewN ?_ _ | refine blk_drew ?_ | refine blk_alloc ?_ _)); exact BK182.out⟩
        have n2_ : Aside0 (((w171.setCell ⟨gb199, 0, none⟩ (.int .i64 (wrap64 ((wrap64 (Int.tdiv t208 2)) + (wrap64 (Int.tdiv t210 2)))))).setCell ⟨gb199, 1, none⟩ (.int .i64 (wrap64 ((wrap64 (Int.tdiv t213 2)) + (wrap64 (Int.tdiv t215 2)))))).heap[gb183]? = some (.cells #[.int .i64 0, .int .i64 0] 32 (0, 0))) := ⟨by (with_reducible repeat (first | refine blk_drewN ?_ _ | refine blk_drew ?_ | refine blk_alloc ?_ _)); refine blk_far ?_ NB183_199.out _; (with_reducible repeat (first | refine blk_drewN ?_ _ | refine blk_drew ?_ | refine blk_alloc ?_ _)); refine blk_far ?_ NB183_199.out _; (with_reducible repeat (first | refine blk_drewN ?_ _ | refine blk_drew ?_ | refine blk_alloc ?_ _)); exact BK183.out⟩
        have n3_ : Aside0 (((w171.setCell ⟨gb199, 0, none⟩ (.int .i64 (wrap64 ((wrap64 (Int.tdiv t208 2)) + (wrap64 (Int.tdiv t210 2)))))).setCell ⟨gb199, 1, none⟩ (.int .i64 (wrap64 ((wrap64 (Int.tdiv t213 2)) + (wrap64 (Int.tdiv t215 2)))))).heap[gb184]? = some (.cells #[.int .i64 0, .int .i64 0] 32 (0, 0))) := ⟨by (with_reducible repeat (first | refine blk_drewN ?_ _ | refine blk_drew ?_ | refine blk_alloc ?_ _)); refine blk_far ?_ NB184_199.out _; (with_reducible repeat (first | refine blk_drewN ?_ _ | refine blk_drew ?_ | refine blk_alloc ?_ _)); refine blk_far ?_ NB184_199.out _; (with_reducible repeat (first | refine blk_drewN ?_ _ | refine blk_drew ?_ | refine blk_alloc ?_ _)); exact BK184.out⟩
        have n4_ : Aside0 (((w171.setCell ⟨gb199, 0, none⟩ (.int .i64 (wrap64 ((wrap64 (Int.tdiv t208 2)) + (wrap64 (Int.tdiv t210 2)))))).setCell ⟨gb199, 1, none⟩ (.int .i64 (wrap64 ((wrap64 (Int.tdiv t213 2)) + (wrap64 (Int.tdiv t215 2)))))).heap[gb189]? = some (.cells #[.int .i64 t185, .int .i64 t186] 32 (0, 0))) := ⟨by (with_reducible repeat (first | refine blk_drewN ?_ _ | refine blk_drew ?_ | refine blk_alloc ?_ _)); refine blk_far ?_ NB189_199.out _; (with_reducible repeat (first | refine blk_drewN ?_ _ | refine blk_drew ?_ | refine blk_alloc ?_ _)); refine blk_far ?_ NB189_199.out _; (with_reducible repeat (first | refine blk_drewN ?_ _ | refine blk_drew ?_ | refine blk_alloc ?_ _)); exact BK189.out⟩
        have n5_ : Aside0 (((w171.setCell ⟨gb199, 0, none⟩ (.int .i64 (wrap64 ((wrap64 (Int.tdiv t208 2)) + (wrap64 (Int.tdiv t210 2)))))).setCell ⟨gb199, 1, none⟩ (.int .i64 (wrap64 ((wrap64 (Int.tdiv t213 2)) + (wrap64 (Int.tdiv t215 2)))))).heap[gb194]? = some (.cells #[.int .i64 t190, .int .i64 t191] 32 (0, 0))) := ⟨by (with_reducible repeat (first | refine blk_drewN ?_ _ | refine blk_drew ?_ | refine blk_alloc ?_ _)); refine blk_far ?_ NB194_199.out _; (with_reducible repeat (first | refine blk_drewN ?_ _ | refine blk_drew ?_ | refine blk_alloc ?_ _)); refine blk_far ?_ NB194_199.out _; (with_reducible repeat (first | refine blk_drewN ?_ _ | refine blk_drew ?_ | refine blk_alloc ?_ _)); exact BK194.out⟩
        have n6_ : Aside0 (((w171.setCell ⟨gb199, 0, none⟩ (.int .i64 (wrap64 ((wrap64 (Int.tdiv t208 2)) + (wrap64 (Int.tdiv t210 2)))))).setCell ⟨gb199, 1, none⟩ (.int .i64 (wrap64 ((wrap64 (Int.tdiv t213 2)) + (wrap64 (Int.tdiv t215 2)))))).heap[gb199]? = some (.cells #[.int .i64 (wrap64 ((wrap64 (Int.tdiv t208 2)) + (wrap64 (Int.tdiv t210 2)))), .int .i64 (wrap64 ((wrap64 (Int.tdiv t213 2)) + (wrap64 (Int.tdiv t215 2))))] 32 (0, 0))) := ⟨by (with_reducible repeat (first | refine blk_drewN ?_ _ | refine blk_drew ?_ | refine blk_alloc ?_ _)); refine blk_put (cs := #[.int .i64 (wrap64 ((wrap64 (Int.tdiv t208 2)) + (wrap64 (Int.tdiv t210 2)))), .int .i64 t196]) ?_ 1 _ rfl; (with_reducible repeat (first | refine blk_drewN ?_ _ | refine blk_drew ?_ | refine blk_alloc ?_ _)); refine blk_put (cs := #[.int .i64 t195, .int .i64 t196]) ?_ 0 _ rfl; (with_reducible repeat (first | refine blk_drewN ?_ _ | refine blk_drew ?_ | refine blk_alloc ?_ _)); exact BK199.out⟩
        have n7_ : Aside0 (((w171.setCell ⟨gb199, 0, none⟩ (.int .i64 (wrap64 ((wrap64 (Int.tdiv t208 2)) + (wrap64 (Int.tdiv t210 2)))))).setCell ⟨gb199, 1, none⟩ (.int .i64 (wrap64 ((wrap64 (Int.tdiv t213 2)) + (wrap64 (Int.tdiv t215 2)))))).heap[gb204]? = some (.cells #[.int .i64 t200, .int .i64 t201] 32 (0, 0))) := ⟨by (with_reducible repeat (first | refine blk_drewN ?_ _ | refine blk_drew ?_ | refine blk_alloc ?_ _)); refine blk_far ?_ NB204_199.out _; (with_reducible repeat (first | refine blk_drewN ?_ _ | refine blk_drew ?_ | refine blk_alloc ?_ _)); refine blk_far ?_ NB204_199.out _; (with_reducible repeat (first | refine blk_drewN ?_ _ | refine blk_drew ?_ | refine blk_alloc ?_ _)); exact BK204.out⟩
        have n8_ : Aside0 (IsS127 w0 ((w171.setCell ⟨gb199, 0, none⟩ (.int .i64 (wrap64 ((wrap64 (Int.tdiv t208 2)) + (wrap64 (Int.tdiv t210 2)))))).setCell ⟨gb199, 1, none⟩ (.int .i64 (wrap64 ((wrap64 (Int.tdiv t213 2)) + (wrap64 (Int.tdiv t215 2)))))) g s0_0 t206 t207) := ⟨by repeat (first | (with_reducible first | exact HI0.out | apply IsS127.alloc | apply IsS127.drewN | apply IsS127.drew | apply IsS127.set_1 | apply IsS127.set_2 | refine IsS127.far ?_ NB0_181.out _ | refine IsS127.far ?_ NB0_182.out _ | refine IsS127.far ?_ NB0_183.out _ | refine IsS127.far ?_ NB0_184.out _ | refine IsS127.far ?_ NB0_189.out _ | refine IsS127.far ?_ NB0_194.out _ | refine IsS127.far ?_ NB0_199.out _ | refine IsS127.far ?_ NB0_204.out _) | exact HI0.out)⟩
        have n9_ : Aside0 (KeepBut w ((w171.setCell ⟨gb199, 0, none⟩ (.int .i64 (wrap64 ((wrap64 (Int.tdiv t208 2)) + (wrap64 (Int.tdiv t210 2)))))).setCell ⟨gb199, 1, none⟩ (.int .i64 (wrap64 ((wrap64 (Int.tdiv t213 2)) + (wrap64 (Int.tdiv t215 2)))))) g none) := ⟨by repeat (first | (with_reducible first | exact HK.out | apply KeepBut.set_ | apply keep_drewN | apply keep_drew | apply keep_alloc | refine keep_far ?_ GW181.out _ | refine keep_far ?_ GW182.out _ | refine keep_far ?_ GW183.out _ | refine keep_far ?_ GW184.out _ | refine keep_far ?_ GW189.out _ | refine keep_far ?_ GW194.out _ | refine keep_far ?_ GW199.out _ | refine keep_far ?_ GW204.out _) | exact HK.out)⟩
        have n10_ : Aside0 (Below w0.heap.size w0 ((w171.setCell ⟨gb199, 0, none⟩ (.int .i64 (wrap64 ((wrap64 (Int.tdiv t208 2)) + (wrap64 (Int.tdiv t210 2)))))).setCell ⟨gb199, 1, none⟩ (.int .i64 (wrap64 ((wrap64 (Int.tdiv t213 2)) + (wrap64 (Int.tdiv t215 2))))))) := ⟨by repeat (first | (with_reducible first | exact HB.out | apply below_alloc | apply pw_below_drewN | apply below_drew1 | refine below_set ?_ (IsS127.ge HI0.out) | refine below_set ?_ GE181.out | refine below_set ?_ GE182.out | refine below_set ?_ GE183.out | refine below_set ?_ GE184.out | refine below_set ?_ GE189.out | refine below_set ?_ GE194.out | refine below_set ?_ GE199.out | refine below_set ?_ GE204.out) | exact HB.out)⟩
        (try clear BK181)
        (try clear BK182)
        (try clear BK183)
        (try clear BK184)
        (try clear BK189)
        (try clear BK194)
        (try clear BK199)
        (try clear BK204)
        (try clear HI0)
        (try clear HK)
        (try clear HB)
        generalize ((w171.setCell ⟨gb199, 0, none⟩ (.int .i64 (wrap64 ((wrap64 (Int.tdiv t208 2)) + (wrap64 (Int.tdiv t210 2)))))).setCell ⟨gb199, 1, none⟩ (.int .i64 (wrap64 ((wrap64 (Int.tdiv t213 2)) + (wrap64 (Int.tdiv t215 2)))))) = w174 at n0_ n1_ n2_ n3_ n4_ n5_ n6_ n7_ n8_ n9_ n10_ ⊢
        have BK181 := n0_
        have BK182 := n1_
        have BK183 := n2_
        have BK184 := n3_
        have BK189 := n4_
        have BK194 := n5_
        have BK199 := n6_
        have BK204 := n7_
        have HI0 := n8_
        have HK := n9_
        have HB := n10_
        clear n0_ n1_ n2_ n3_ n4_ n5_ n6_ n7_ n8_ n9_ n10_
        have n0_ := Aside0.mk (blk_drew BK181.out)
        have n1_ := Aside0.mk (blk_drew BK182.out)
        have n2_ := Aside0.mk (blk_drew BK183.out)
        have n3_ := Aside0.mk (blk_drew BK184.out)
        have n4_ := Aside0.mk (blk_drew BK189.out)
        have n5_ := Aside0.mk (blk_drew BK194.out)
        have n6_ := Aside0.mk (blk_drew BK199.out)
        have n7_ := Aside0.mk (blk_drew BK204.out)
        have n8_ := Aside0.mk (IsS127.drew HI0.out)
        have n9_ := Aside0.mk (keep_drew HK.out)
        have n10_ := Aside0.mk (below_drew1 HB.out)
        clear BK181
        clear BK182
        clear BK183
        clear BK184
        clear BK189
        clear BK194
        clear BK199
        clear BK204
        clear HI0
        clear HK
        clear HB
        have BK181 := n0_
        have BK182 := n1_
        have BK183 := n2_
        have BK184 := n3_
        have BK189 := n4_
        have BK194 := n5_
        have BK199 := n6_
        have BK204 := n7_
        have HI0 := n8_
        have HK := n9_
        have HB := n10_
        clear n0_ n1_ n2_ n3_ n4_ n5_ n6_ n7_ n8_ n9_ n10_
        refine start_ (n := 8) (S := fun w' => w'.cell? ⟨gb189, 0, none⟩ = some (.int .i64 t185) ∧ w'.cell? ⟨gb189, 1, none⟩ = some (.int .i64 t186) ∧ w'.cell? ⟨gb194, 0, none⟩ = some (.int .i64 t190) ∧ w'.cell? ⟨gb194, 1, none⟩ = some (.int .i64 t191) ∧ w'.cell? ⟨gb199, 0, none⟩ = some (.int .i64 (wrap64 ((wrap64 (Int.tdiv t208 2)) + (wrap64 (Int.tdiv t210 2))))) ∧ w'.cell? ⟨gb199, 1, none⟩ = some (.int .i64 (wrap64 ((wrap64 (Int.tdiv t213 2)) + (wrap64 (Int.tdiv t215 2))))) ∧ w'.cell? ⟨gb204, 0, none⟩ = some (.int .i64 t200) ∧ w'.cell? ⟨gb204, 1, none⟩ = some (.int .i64 t201)) (ds := []) #[false, false, false, false, false, false, false, false] (by kernel_rfl) rfl rfl ⟨(blk_cell BK189.out 0).trans rfl, (blk_cell BK189.out 1).trans rfl, (blk_cell BK194.out 0).trans rfl, (blk_cell BK194.out 1).trans rfl, (blk_cell BK199.out 0).trans rfl, (blk_cell BK199.out 1).trans rfl, (blk_cell BK204.out 0).trans rfl, (blk_cell BK204.out 1).trans rfl⟩ (fun hHeld => ?_); refine with_tabW spec_l3Four.tab12 spec_l3Four.bits12 (fun HT_ HW_ => ?_)
        generalize w174.drew = w175 at BK181 BK182 BK183 BK184 BK189 BK194 BK199 BK204 HI0 HK HB hHeld ⊢
        refine take_ (i := 0) (N := some 47) (v := ?_) (a' := ?_) #[true, false, false, false, false, false, false, false] rfl rfl (take_ofW HT_.out HW_.out (by kernel_rfl)) (fun _ _ _ h => h) (Or.inl ⟨by rfl, ?_⟩) hHeld ?_ ?_
        rotate_left
        · rintro w' ⟨s0, s1, s2, s3, s4, s5, s6, s7⟩
          go_simp
          with_reducible rfl
        rotate_left
        · simp only [Act.put, List.setIfInBounds_toArray, List.set_cons_zero, List.set_cons_succ, i64_w, i32_w]
          rfl
        refine take_ (i := 1) (N := some 48) (v := ?_) (a' := ?_) #[true, true, false, false, false, false, false, false] rfl rfl (take_ofW HT_.out HW_.out (by kernel_rfl)) (fun _ _ _ h => h) (Or.inl ⟨by rfl, ?_⟩) hHeld ?_ ?_
        rotate_left
        · rintro w' ⟨s0, s1, s2, s3, s4, s5, s6, s7⟩
          go_simp
          with_reducible rfl
        rotate_left
        · simp only [Act.put, List.setIfInBounds_toArray, List.set_cons_zero, List.set_cons_succ, i64_w, i32_w]
          rfl
        refine take_ (i := 2) (N := some 49) (v := ?_) (a' := ?_) #[true, true, true, false, false, false, false, false] rfl rfl (take_ofW HT_.out HW_.out (by kernel_rfl)) (fun _ _ _ h => h) (Or.inl ⟨by rfl, ?_⟩) hHeld ?_ ?_
        rotate_left
        · rintro w' ⟨s0, s1, s2, s3, s4, s5, s6, s7⟩
          go_simp
          with_reducible rfl
        rotate_left
        · simp only [Act.put, List.setIfInBounds_toArray, List.set_cons_zero, List.set_cons_succ, i64_w, i32_w]
          rfl
        refine take_ (i := 3) (N := some 50) (v := ?_) (a' := ?_) #[true, true, true, true, false, false, false, false] rfl rfl (take_ofW HT_.out HW_.out (by kernel_rfl)) (fun _ _ _ h => h) (Or.inl ⟨by rfl, ?_⟩) hHeld ?_ ?_
        rotate_left
        · rintro w' ⟨s0, s1, s2, s3, s4, s5, s6, s7⟩
          go_simp
          with_reducible rfl
        rotate_left
        · simp only [Act.put, List.setIfInBounds_toArray, List.set_cons_zero, List.set_cons_succ, i64_w, i32_w]
          rfl
        refine one_ (i := 4) (N := none) #[true, true, true, true, true, false, false, false] rfl rfl (one_of HT_.out (by kernel_rfl)) (by decide) (fun K hK => ?_)
        have hs176 : w175.cell? ⟨gb181, 0, none⟩ = some (.int .i64 0) := (blk_cell BK181.out 0).trans rfl
        have hfs176 := blk_frozen BK181.out 0
        have hns176_1 := NB182_181.out
        have hns176_2 := NB183_181.out
        have hns176_3 := NB184_181.out
        have hns176_4 := NB189_181.out
        have hns176_5 := NB194_181.out
        have hns176_6 := NB199_181.out
        have hns176_7 := NB204_181.out
        have hms176_1 := NB181_182.out
        have hms176_2 := NB181_183.out
        have hms176_3 := NB181_184.out
        have hms176_4 := NB181_189.out
        have hms176_5 := NB181_194.out
        have hms176_6 := NB181_199.out
        have hms176_7 := NB181_204.out
        have hs177 : w175.cell? ⟨gb181, 1, none⟩ = some (.int .i64 0) := (blk_cell BK181.out 1).trans rfl
        have hfs177 := blk_frozen BK181.out 1
        have hns177_1 := NB182_181.out
        have hns177_2 := NB183_181.out
        have hns177_3 := NB184_181.out
        have hns177_4 := NB189_181.out
        have hns177_5 := NB194_181.out
        have hns177_6 := NB199_181.out
        have hns177_7 := NB204_181.out
        have hms177_1 := NB181_182.out
        have hms177_2 := NB181_183.out
        have hms177_3 := NB181_184.out
        have hms177_4 := NB181_189.out
        have hms177_5 := NB181_194.out
        have hms177_6 := NB181_199.out
        have hms177_7 := NB181_204.out
        refine skip_ (w1 := ?_) (by rfl) rfl ?_ ?_
        rotate_left
        · go_simp
          rfl
        refine hK.out _ _ ⟨((cell_far (p := ⟨gb181, _, none⟩) NB189_181.out _).trans (((cell_far (p := ⟨gb181, _, none⟩) NB189_181.out _).trans (hHeld.1)))), ((cell_far (p := ⟨gb181, _, none⟩) NB189_181.out _).trans (((cell_far (p := ⟨gb181, _, none⟩) NB189_181.out _).trans (hHeld.2.1)))), ((cell_far (p := ⟨gb181, _, none⟩) NB194_181.out _).trans (((cell_far (p := ⟨gb181, _, none⟩) NB194_181.out _).trans (hHeld.2.2.1)))), ((cell_far (p := ⟨gb181, _, none⟩) NB194_181.out _).trans (((cell_far (p := ⟨gb181, _, none⟩) NB194_181.out _).trans (hHeld.2.2.2.1)))), ((cell_far (p := ⟨gb181, _, none⟩) NB199_181.out _).trans (((cell_far (p := ⟨gb181, _, none⟩) NB199_181.out _).trans (hHeld.2.2.2.2.1)))), ((cell_far (p := ⟨gb181, _, none⟩) NB199_181.out _).trans (((cell_far (p := ⟨gb181, _, none⟩) NB199_181.out _).trans (hHeld.2.2.2.2.2.1)))), ((cell_far (p := ⟨gb181, _, none⟩) NB204_181.out _).trans (((cell_far (p := ⟨gb181, _, none⟩) NB204_181.out _).trans (hHeld.2.2.2.2.2.2.1)))), ((cell_far (p := ⟨gb181, _, none⟩) NB204_181.out _).trans (((cell_far (p := ⟨gb181, _, none⟩) NB204_181.out _).trans (hHeld.2.2.2.2.2.2.2))))⟩ (fun hHeld => ?_)
        clear hK K
        refine one_ (i := 5) (N := none) #[true, true, true, true, true, true, false, false] rfl rfl (one_of HT_.out (by kernel_rfl)) (by decide) (fun K hK => ?_)
        have hs178 : w175.cell? ⟨gb182, 0, none⟩ = some (.int .i64 0) := (blk_cell BK182.out 0).trans rfl
        have hfs178 := blk_frozen BK182.out 0
        have hns178_0 := NB181_182.out
        have hns178_2 := NB183_182.out
        have hns178_3 := NB184_182.out
        have hns178_4 := NB189_182.out
        have hns178_5 := NB194_182.out
        have hns178_6 := NB199_182.out
        have hns178_7 := NB204_182.out
        have hms178_0 := NB182_181.out
        have hms178_2 := NB182_183.out
        have hms178_3 := NB182_184.out
        have hms178_4 := NB182_189.out
        have hms178_5 := NB182_194.out
        have hms178_6 := NB182_199.out
        have hms178_7 := NB182_204.out
        have hs179 : w175.cell? ⟨gb182, 1, none⟩ = some (.int .i64 0) := (blk_cell BK182.out 1).trans rfl
        have hfs179 := blk_frozen BK182.out 1
        have hns179_0 := NB181_182.out
        have hns179_2 := NB183_182.out
        have hns179_3 := NB184_182.out
        have hns179_4 := NB189_182.out
        have hns179_5 := NB194_182.out
        have hns179_6 := NB199_182.out
        have hns179_7 := NB204_182.out
        have hms179_0 := NB182_181.out
        have hms179_2 := NB182_183.out
        have hms179_3 := NB182_184.out
        have hms179_4 := NB182_189.out
        have hms179_5 := NB182_194.out
        have hms179_6 := NB182_199.out
        have hms179_7 := NB182_204.out
        refine skip_ (w1 := ?_) (by rfl) rfl ?_ ?_
        rotate_left
        · go_simp
          rfl
        refine hK.out _ _ ⟨((cell_far (p := ⟨gb182, _, none⟩) NB189_182.out _).trans (((cell_far (p := ⟨gb182, _, none⟩) NB189_182.out _).trans (hHeld.1)))), ((cell_far (p := ⟨gb182, _, none⟩) NB189_182.out _).trans (((cell_far (p := ⟨gb182, _, none⟩) NB189_182.out _).trans (hHeld.2.1)))), ((cell_far (p := ⟨gb182, _, none⟩) NB194_182.out _).trans (((cell_far (p := ⟨gb182, _, none⟩) NB194_182.out _).trans (hHeld.2.2.1)))), ((cell_far (p := ⟨gb182, _, none⟩) NB194_182.out _).trans (((cell_far (p := ⟨gb182, _, none⟩) NB194_182.out _).trans (hHeld.2.2.2.1)))), ((cell_far (p := ⟨gb182, _, none⟩) NB199_182.out _).trans (((cell_far (p := ⟨gb182, _, none⟩) NB199_182.out _).trans (hHeld.2.2.2.2.1)))), ((cell_far (p := ⟨gb182, _, none⟩) NB199_182.out _).trans (((cell_far (p := ⟨gb182, _, none⟩) NB199_182.out _).trans (hHeld.2.2.2.2.2.1)))), ((cell_far (p := ⟨gb182, _, none⟩) NB204_182.out _).trans (((cell_far (p := ⟨gb182, _, none⟩) NB204_182.out _).trans (hHeld.2.2.2.2.2.2.1)))), ((cell_far (p := ⟨gb182, _, none⟩) NB204_182.out _).trans (((cell_far (p := ⟨gb182, _, none⟩) NB204_182.out _).trans (hHeld.2.2.2.2.2.2.2))))⟩ (fun hHeld => ?_)
        clear hK K
        refine one_ (i := 6) (N := none) #[true, true, true, true, true, true, true, false] rfl rfl (one_of HT_.out (by kernel_rfl)) (by decide) (fun K hK => ?_)
        have hs180 : w175.cell? ⟨gb183, 0, none⟩ = some (.int .i64 0) := (blk_cell BK183.out 0).trans rfl
        have hfs180 := blk_frozen BK183.out 0
        have hns180_0 := NB181_183.out
        have hns180_1 := NB182_183.out
        have hns180_3 := NB184_183.out
        have hns180_4 := NB189_183.out
        have hns180_5 := NB194_183.out
        have hns180_6 := NB199_183.out
        have hns180_7 := NB204_183.out
        have hms180_0 := NB183_181.out
        have hms180_1 := NB183_182.out
        have hms180_3 := NB183_184.out
        have hms180_4 := NB183_189.out
        have hms180_5 := NB183_194.out
        have hms180_6 := NB183_199.out
        have hms180_7 := NB183_204.out
        have hs181 : w175.cell? ⟨gb183, 1, none⟩ = some (.int .i64 0) := (blk_cell BK183.out 1).trans rfl
        have hfs181 := blk_frozen BK183.out 1
        have hns181_0 := NB181_183.out
        have hns181_1 := NB182_183.out
        have hns181_3 := NB184_183.out
        have hns181_4 := NB189_183.out
        have hns181_5 := NB194_183.out
        have hns181_6 := NB199_183.out
        have hns181_7 := NB204_183.out
        have hms181_0 := NB183_181.out
        have hms181_1 := NB183_182.out
        have hms181_3 := NB183_184.out
        have hms181_4 := NB183_189.out
        have hms181_5 := NB183_194.out
        have hms181_6 := NB183_199.out
        have hms181_7 := NB183_204.out
        refine skip_ (w1 := ?_) (by rfl) rfl ?_ ?_
        rotate_left
        · go_simp
          rfl
        refine hK.out _ _ ⟨((cell_far (p := ⟨gb183, _, none⟩) NB189_183.out _).trans (((cell_far (p := ⟨gb183, _, none⟩) NB189_183.out _).trans (hHeld.1)))), ((cell_far (p := ⟨gb183, _, none⟩) NB189_183.out _).trans (((cell_far (p := ⟨gb183, _, none⟩) NB189_183.out _).trans (hHeld.2.1)))), ((cell_far (p := ⟨gb183, _, none⟩) NB194_183.out _).trans (((cell_far (p := ⟨gb183, _, none⟩) NB194_183.out _).trans (hHeld.2.2.1)))), ((cell_far (p := ⟨gb183, _, none⟩) NB194_183.out _).trans (((cell_far (p := ⟨gb183, _, none⟩) NB194_183.out _).trans (hHeld.2.2.2.1)))), ((cell_far (p := ⟨gb183, _, none⟩) NB199_183.out _).trans (((cell_far (p := ⟨gb183, _, none⟩) NB199_183.out _).trans (hHeld.2.2.2.2.1)))), ((cell_far (p := ⟨gb183, _, none⟩) NB199_183.out _).trans (((cell_far (p := ⟨gb183, _, none⟩) NB199_183.out _).trans (hHeld.2.2.2.2.2.1)))), ((cell_far (p := ⟨gb183, _, none⟩) NB204_183.out _).trans (((cell_far (p := ⟨gb183, _, none⟩) NB204_183.out _).trans (hHeld.2.2.2.2.2.2.1)))), ((cell_far (p := ⟨gb183, _, none⟩) NB204_183.out _).trans (((cell_far (p := ⟨gb183, _, none⟩) NB204_183.out _).trans (hHeld.2.2.2.2.2.2.2))))⟩ (fun hHeld => ?_)
        clear hK K
        refine one_ (i := 7) (N := none) #[true, true, true, true, true, true, true, true] rfl rfl (one_of HT_.out (by kernel_rfl)) (by decide) (fun K hK => ?_)
        have hs182 : w175.cell? ⟨gb184, 0, none⟩ = some (.int .i64 0) := (blk_cell BK184.out 0).trans rfl
        have hfs182 := blk_frozen BK184.out 0
        have hns182_0 := NB181_184.out
        have hns182_1 := NB182_184.out
        have hns182_2 := NB183_184.out
        have hns182_4 := NB189_184.out
        have hns182_5 := NB194_184.out
        have hns182_6 := NB199_184.out
        have hns182_7 := NB204_184.out
        have hms182_0 := NB184_181.out
        have hms182_1 := NB184_182.out
        have hms182_2 := NB184_183.out
        have hms182_4 := NB184_189.out
        have hms182_5 := NB184_194.out
        have hms182_6 := NB184_199.out
        have hms182_7 := NB184_204.out
        have hs183 : w175.cell? ⟨gb184, 1, none⟩ = some (.int .i64 0) := (blk_cell BK184.out 1).trans rfl
        have hfs183 := blk_frozen BK184.out 1
        have hns183_0 := NB181_184.out
        have hns183_1 := NB182_184.out
        have hns183_2 := NB183_184.out
        have hns183_4 := NB189_184.out
        have hns183_5 := NB194_184.out
        have hns183_6 := NB199_184.out
        have hns183_7 := NB204_184.out
        have hms183_0 := NB184_181.out
        have hms183_1 := NB184_182.out
        have hms183_2 := NB184_183.out
        have hms183_4 := NB184_189.out
        have hms183_5 := NB184_194.out
        have hms183_6 := NB184_199.out
        have hms183_7 := NB184_204.out
        refine skip_ (w1 := ?_) (by rfl) rfl ?_ ?_
        rotate_left
        · go_simp
          rfl
        refine hK.out _ _ ⟨((cell_far (p := ⟨gb184, _, none⟩) NB189_184.out _).trans (((cell_far (p := ⟨gb184, _, none⟩) NB189_184.out _).trans (hHeld.1)))), ((cell_far (p := ⟨gb184, _, none⟩) NB189_184.out _).trans (((cell_far (p := ⟨gb184, _, none⟩) NB189_184.out _).trans (hHeld.2.1)))), ((cell_far (p := ⟨gb184, _, none⟩) NB194_184.out _).trans (((cell_far (p := ⟨gb184, _, none⟩) NB194_184.out _).trans (hHeld.2.2.1)))), ((cell_far (p := ⟨gb184, _, none⟩) NB194_184.out _).trans (((cell_far (p := ⟨gb184, _, none⟩) NB194_184.out _).trans (hHeld.2.2.2.1)))), ((cell_far (p := ⟨gb184, _, none⟩) NB199_184.out _).trans (((cell_far (p := ⟨gb184, _, none⟩) NB199_184.out _).trans (hHeld.2.2.2.2.1)))), ((cell_far (p := ⟨gb184, _, none⟩) NB199_184.out _).trans (((cell_far (p := ⟨gb184, _, none⟩) NB199_184.out _).trans (hHeld.2.2.2.2.2.1)))), ((cell_far (p := ⟨gb184, _, none⟩) NB204_184.out _).trans (((cell_far (p := ⟨gb184, _, none⟩) NB204_184.out _).trans (hHeld.2.2.2.2.2.2.1)))), ((cell_far (p := ⟨gb184, _, none⟩) NB204_184.out _).trans (((cell_far (p := ⟨gb184, _, none⟩) NB204_184.out _).trans (hHeld.2.2.2.2.2.2.2))))⟩ (fun hHeld => ?_)
        clear hK K
        refine done_ (done_of HT_.out (by kernel_rfl)) ?_
        try go_wp2
        refine bodyPost_ret (results_list (rs := [.cell 2 32, .cell 3 32, .cell 4 32, .cell 5 32]) rfl (by simp) (.cell gb181 32 #[.int .i64 t185, .int .i64 t186] (0, 0) _ rfl (by (with_reducible repeat (first | refine blk_drewN ?_ _ | refine blk_drew ?_ | refine blk_alloc ?_ _)); refine blk_far ?_ NB181_184.out _; (with_reducible repeat (first | refine blk_drewN ?_ _ | refine blk_drew ?_ | refine blk_alloc ?_ _)); refine blk_far ?_ NB181_184.out _; (with_reducible repeat (first | refine blk_drewN ?_ _ | refine blk_drew ?_ | refine blk_alloc ?_ _)); refine blk_far ?_ NB181_183.out _; (with_reducible repeat (first | refine blk_drewN ?_ _ | refine blk_drew ?_ | refine blk_alloc ?_ _)); refine blk_far ?_ NB181_183.out _; (with_reducible repeat (first | refine blk_drewN ?_ _ | refine blk_drew ?_ | refine blk_alloc ?_ _)); refine blk_far ?_ NB181_182.out _; (with_reducible repeat (first | refine blk_drewN ?_ _ | refine blk_drew ?_ | refine blk_alloc ?_ _)); refine blk_far ?_ NB181_182.out _; (with_reducible repeat (first | refine blk_drewN ?_ _ | refine blk_drew ?_ | refine blk_alloc ?_ _)); refine blk_put (cs := #[.int .i64 t185, .int .i64 0]) ?_ 1 _ rfl; (with_reducible repeat (first | refine blk_drewN ?_ _ | refine blk_drew ?_ | refine blk_alloc ?_ _)); refine blk_put (cs := #[.int .i64 0, .int .i64 0]) ?_ 0 _ rfl; (with_reducible repeat (first | refine blk_drewN ?_ _ | refine blk_drew ?_ | refine blk_alloc ?_ _)); exact BK181.out) Try.underlying32 rfl (by kernel_rfl) (.cell gb182 32 #[.int .i64 t190, .int .i64 t191] (0, 0) _ rfl (by (with_reducible repeat (first | refine blk_drewN ?_ _ | refine blk_drew ?_ | refine blk_alloc ?_ _)); refine blk_far ?_ NB182_184.out _; (with_reducible repeat (first | refine blk_drewN ?_ _ | refine blk_drew ?_ | refine blk_alloc ?_ _)); refine blk_far ?_ NB182_184.out _; (with_reducible repeat (first | refine blk_drewN ?_ _ | refine blk_drew ?_ | refine blk_alloc ?_ _)); refine blk_far ?_ NB182_183.out _; (with_reducible repeat (first | refine blk_drewN ?_ _ | refine blk_drew ?_ | refine blk_alloc ?_ _)); refine blk_far ?_ NB182_183.out _; (with_reducible repeat (first | refine blk_drewN ?_ _ | refine blk_drew ?_ | refine blk_alloc ?_ _)); refine blk_put (cs := #[.int .i64 t190, .int .i64 0]) ?_ 1 _ rfl; (with_reducible repeat (first | refine blk_drewN ?_ _ | refine blk_drew ?_ | refine blk_alloc ?_ _)); refine blk_put (cs := #[.int .i64 0, .int .i64 0]) ?_ 0 _ rfl; (with_reducible repeat (first | refine blk_drewN ?_ _ | refine blk_drew ?_ | refine blk_alloc ?_ _)); refine blk_far ?_ NB182_181.out _; (with_reducible repeat (first | refine blk_drewN ?_ _ | refine blk_drew ?_ | refine blk_alloc ?_ _)); refine blk_far ?_ NB182_181.out _; (with_reducible repeat (first | refine blk_drewN ?_ _ | refine blk_drew ?_ | refine blk_alloc ?_ _)); exact BK182.out) Try.underlying32 rfl (by kernel_rfl) (.cell gb183 32 #[.int .i64 (wrap64 ((wrap64 (Int.tdiv t208 2)) + (wrap64 (Int.tdiv t210 2)))), .int .i64 (wrap64 ((wrap64 (Int.tdiv t213 2)) + (wrap64 (Int.tdiv t215 2))))] (0, 0) _ rfl (by (with_reducible repeat (first | refine blk_drewN ?_ _ | refine blk_drew ?_ | refine blk_alloc ?_ _)); refine blk_far ?_ NB183_184.out _; (with_reducible repeat (first | refine blk_drewN ?_ _ | refine blk_drew ?_ | refine blk_alloc ?_ _)); refine blk_far ?_ NB183_184.out _; (with_reducible repeat (first | refine blk_drewN ?_ _ | refine blk_drew ?_ | refine blk_alloc ?_ _)); refine blk_put (cs := #[.int .i64 (wrap64 ((wrap64 (Int.tdiv t208 2)) + (wrap64 (Int.tdiv t210 2)))), .int .i64 0]) ?_ 1 _ rfl; (with_reducible repeat (first | refine blk_drewN ?_ _ | refine blk_drew ?_ | refine blk_alloc ?_ _)); refine blk_put (cs := #[.int .i64 0, .int .i64 0]) ?_ 0 _ rfl; (with_reducible repeat (first | refine blk_drewN ?_ _ | refine blk_drew ?_ | refine blk_alloc ?_ _)); refine blk_far ?_ NB183_182.out _; (with_reducible repeat (first | refine blk_drewN ?_ _ | refine blk_drew ?_ | refine blk_alloc ?_ _)); refine blk_far ?_ NB183_182.out _; (with_reducible repeat (first | refine blk_drewN ?_ _ | refine blk_drew ?_ | refine blk_alloc ?_ _)); refine blk_far ?_ NB183_181.out _; (with_reducible repeat (first | refine blk_drewN ?_ _ | refine blk_drew ?_ | refine blk_alloc ?_ _)); refine blk_far ?_ NB183_181.out _; (with_reducible repeat (first | refine blk_drewN ?_ _ | refine blk_drew ?_ | refine blk_alloc ?_ _)); exact BK183.out) Try.underlying32 rfl (by kernel_rfl) (.cell gb184 32 #[.int .i64 t200, .int .i64 t201] (0, 0) _ rfl (by (with_reducible repeat (first | refine blk_drewN ?_ _ | refine blk_drew ?_ | refine blk_alloc ?_ _)); refine blk_put (cs := #[.int .i64 t200, .int .i64 0]) ?_ 1 _ rfl; (with_reducible repeat (first | refine blk_drewN ?_ _ | refine blk_drew ?_ | refine blk_alloc ?_ _)); refine blk_put (cs := #[.int .i64 0, .int .i64 0]) ?_ 0 _ rfl; (with_reducible repeat (first | refine blk_drewN ?_ _ | refine blk_drew ?_ | refine blk_alloc ?_ _)); refine blk_far ?_ NB184_183.out _; (with_reducible repeat (first | refine blk_drewN ?_ _ | refine blk_drew ?_ | refine blk_alloc ?_ _)); refine blk_far ?_ NB184_183.out _; (with_reducible repeat (first | refine blk_drewN ?_ _ | refine blk_drew ?_ | refine blk_alloc ?_ _)); refine blk_far ?_ NB184_182.out _; (with_reducible repeat (first | refine blk_drewN ?_ _ | refine blk_drew ?_ | refine blk_alloc ?_ _)); refine blk_far ?_ NB184_182.out _; (with_reducible repeat (first | refine blk_drewN ?_ _ | refine blk_drew ?_ | refine blk_alloc ?_ _)); refine blk_far ?_ NB184_181.out _; (with_reducible repeat (first | refine blk_drewN ?_ _ | refine blk_drew ?_ | refine blk_alloc ?_ _)); refine blk_far ?_ NB184_181.out _; (with_reducible repeat (first | refine blk_drewN ?_ _ | refine blk_drew ?_ | refine blk_alloc ?_ _)); exact BK184.out) Try.underlying32 rfl (by kernel_rfl) .nil))))) rfl ?_
        exact ⟨by first | rfl | (simp [errW_none, errW_some] <;> rfl) | (simp [*, errW_none, errW_some] <;> rfl), by repeat (first | (with_reducible first | exact HI0.out | apply IsS127.alloc | apply IsS127.drewN | apply IsS127.drew | apply IsS127.set_1 | apply IsS127.set_2 | refine IsS127.far ?_ NB0_181.out _ | refine IsS127.far ?_ NB0_182.out _ | refine IsS127.far ?_ NB0_183.out _ | refine IsS127.far ?_ NB0_184.out _ | refine IsS127.far ?_ NB0_189.out _ | refine IsS127.far ?_ NB0_194.out _ | refine IsS127.far ?_ NB0_199.out _ | refine IsS127.far ?_ NB0_204.out _) | exact HI0.out), by repeat (first | (with_reducible first | exact HB.out | apply below_alloc | apply pw_below_drewN | apply below_drew1 | refine below_set ?_ (IsS127.ge HI0.out) | refine below_set ?_ GE181.out | refine below_set ?_ GE182.out | refine below_set ?_ GE183.out | refine below_set ?_ GE184.out | refine below_set ?_ GE189.out | refine below_set ?_ GE194.out | refine below_set ?_ GE199.out | refine below_set ?_ GE204.out) | exact HB.out), by repeat (first | (with_reducible first | exact HK.out | apply KeepBut.set_ | apply keep_drewN | apply keep_drew | apply keep_alloc | refine keep_far ?_ GW181.out _ | refine keep_far ?_ GW182.out _ | refine keep_far ?_ GW183.out _ | refine keep_far ?_ GW184.out _ | refine keep_far ?_ GW189.out _ | refine keep_far ?_ GW194.out _ | refine keep_far ?_ GW199.out _ | refine keep_far ?_ GW204.out _) | exact HK.out)⟩
      · rw [if_neg c119] at H
        have c119b0 : (t205 == 2) = false := beq_eq_false_iff_ne.mpr c119
        have c119b1 : (t205 != 2) = true := bne_iff_ne.mpr c119
        simp only [Option.some.injEq, Prod.mk.injEq] at H
        obtain ⟨rfl, rfl, rfl, rfl, rfl, rfl, rfl, rfl, rfl, rfl⟩ := H
        refine Aside0.mk ?_
        (refine goesL_ (some 19) rfl rfl Try.func115 (by kernel_rfl) rfl #[.pointer (some ⟨g, 0, none⟩), .int .i64 8] rfl (by (try simp only [List.map_toArray, List.map_cons, List.map_nil]); first | done | rfl | (simp only [List.length_drop, List.length_take]; rfl)) ?_; (with_reducible refine (spec_l1Below.calls g s0_0 t202 t203 8 t205 t206 t207 w0 _ ?side1 ?side2 A6.out).mono ?_); (case side1 => repeat (first | (with_reducible first | exact HI0.out | apply IsS127.alloc | apply IsS127.drewN | apply IsS127.drew | apply IsS127.set_1 | apply IsS127.set_2 | refine IsS127.far ?_ NB0_181.out _ | refine IsS127.far ?_ NB0_182.out _ | refine IsS127.far ?_ NB0_183.out _ | refine IsS127.far ?_ NB0_184.out _ | refine IsS127.far ?_ NB0_189.out _ | refine IsS127.far ?_ NB0_194.out _ | refine IsS127.far ?_ NB0_199.out _ | refine IsS127.far ?_ NB0_204.out _) | exact HI0.out)); (case side2 => repeat (first | (with_reducible first | exact HB.out | apply below_alloc | apply pw_below_drewN | apply below_drew1 | refine below_set ?_ (IsS127.ge HI0.out) | refine below_set ?_ GE181.out | refine below_set ?_ GE182.out | refine below_set ?_ GE183.out | refine below_set ?_ GE184.out | refine below_set ?_ GE189.out | refine below_set ?_ GE194.out | refine below_set ?_ GE199.out | refine below_set ?_ GE204.out) | exact HB.out)); rintro e w226 ⟨rfl, hi, hb, hk⟩; refine ⟨_, rfl, ?_⟩; have n0_ := Aside0.mk (KeepBut.blk hk (g' := gb181) (o := .cells #[.int .i64 0, .int .i64 0] 32 (0, 0)) (by (with_reducible repeat (first | refine blk_drewN ?_ _ | refine blk_drew ?_ | refine blk_alloc ?_ _)); refine blk_far ?_ NB181_204.out _; (with_reducible repeat (first | refine blk_drewN ?_ _ | refine blk_drew ?_ | refine blk_alloc ?_ _)); refine blk_far ?_ NB181_204.out _; (with_reducible repeat (first | refine blk_drewN ?_ _ | refine blk_drew ?_ | refine blk_alloc ?_ _)); exact BK181.out) NB181_0.out (by simp)); have n1_ := Aside0.mk (KeepBut.blk hk (g' := gb182) (o := .cells #[.int .i64 0, .int .i64 0] 32 (0, 0)) (by (with_reducible repeat (first | refine blk_drewN ?_ _ | refine blk_drew ?_ | refine blk_alloc ?_ _)); refine blk_far ?_ NB182_204.out _; (with_reducible repeat (first | refine blk_drewN ?_ _ | refine blk_drew ?_ | refine blk_alloc ?_ _)); refine blk_far ?_ NB182_204.out _; (with_reducible repeat (first | refine blk_drewN ?_ _ | refine blk_drew ?_ | refine blk_alloc ?_ _)); exact BK182.out) NB182_0.out (by simp)); have n2_ := Aside0.mk (KeepBut.blk hk (g' := gb183) (o := .cells #[.int .i64 0, .int .i64 0] 32 (0, 0)) (by (with_reducible repeat (first | refine blk_drewN ?_ _ | refine blk_drew ?_ | refine blk_alloc ?_ _)); refine blk_far ?_ NB183_204.out _; (with_reducible repeat (first | refine blk_drewN ?_ _ | refine blk_drew ?_ | refine blk_alloc ?_ _)); refine blk_far ?_ NB183_204.out _; (with_reducible repeat (first | refine blk_drewN ?_ _ | refine blk_drew ?_ | refine blk_alloc ?_ _)); exact BK183.out) NB183_0.out (by simp)); have n3_ := Aside0.mk (KeepBut.blk hk (g' := gb184) (o := .cells #[.int .i64 0, .int .i64 0] 32 (0, 0)) (by (with_reducible repeat (first | refine blk_drewN ?_ _ | refine blk_drew ?_ | refine blk_alloc ?_ _)); refine blk_far ?_ NB184_204.out _; (with_reducible repeat (first | refine blk_drewN ?_ _ | refine blk_drew ?_ | refine blk_alloc ?_ _)); refine blk_far ?_ NB184_204.out _; (with_reducible repeat (first | refine blk_drewN ?_ _ | refine blk_drew ?_ | refine blk_alloc ?_ _)); exact BK184.out) NB184_0.out (by simp)); have n4_ := Aside0.mk (KeepBut.blk hk (g' := gb189) (o := .cells #[.int .i64 t185, .int .i64 t186] 32 (0, 0)) (by (with_reducible repeat (first | refine blk_drewN ?_ _ | refine blk_drew ?_ | refine blk_alloc ?_ _)); refine blk_far ?_ NB189_204.out _; (with_reducible repeat (first | refine blk_drewN ?_ _ | refine blk_drew ?_ | refine blk_alloc ?_ _)); refine blk_far ?_ NB189_204.out _; (with_reducible repeat (first | refine blk_drewN ?_ _ | refine blk_drew ?_ | refine blk_alloc ?_ _)); exact BK189.out) NB189_0.out (by simp)); have n5_ := Aside0.mk (KeepBut.blk hk (g' := gb194) (o := .cells #[.int .i64 t190, .int .i64 t191] 32 (0, 0)) (by (with_reducible repeat (first | refine blk_drewN ?_ _ | refine blk_drew ?_ | refine blk_alloc ?_ _)); refine blk_far ?_ NB194_204.out _; (with_reducible repeat (first | refine blk_drewN ?_ _ | refine blk_drew ?_ | refine blk_alloc ?_ _)); refine blk_far ?_ NB194_204.out _; (with_reducible repeat (first | refine blk_drewN ?_ _ | refine blk_drew ?_ | refine blk_alloc ?_ _)); exact BK194.out) NB194_0.out (by simp)); have n6_ := Aside0.mk (KeepBut.blk hk (g' := gb199) (o := .cells #[.int .i64 t195, .int .i64 t196] 32 (0, 0)) (by (with_reducible repeat (first | refine blk_drewN ?_ _ | refine blk_drew ?_ | refine blk_alloc ?_ _)); refine blk_far ?_ NB199_204.out _; (with_reducible repeat (first | refine blk_drewN ?_ _ | refine blk_drew ?_ | refine blk_alloc ?_ _)); refine blk_far ?_ NB199_204.out _; (with_reducible repeat (first | refine blk_drewN ?_ _ | refine blk_drew ?_ | refine blk_alloc ?_ _)); exact BK199.out) NB199_0.out (by simp)); have n7_ := Aside0.mk (KeepBut.blk hk (g' := gb204) (o := .cells #[.int .i64 t200, .int .i64 t201] 32 (0, 0)) (by (with_reducible repeat (first | refine blk_drewN ?_ _ | refine blk_drew ?_ | refine blk_alloc ?_ _)); refine blk_put (cs := #[.int .i64 t200, .int .i64 0]) ?_ 1 _ rfl; (with_reducible repeat (first | refine blk_drewN ?_ _ | refine blk_drew ?_ | refine blk_alloc ?_ _)); refine blk_put (cs := #[.int .i64 0, .int .i64 0]) ?_ 0 _ rfl; (with_reducible repeat (first | refine blk_drewN ?_ _ | refine blk_drew ?_ | refine blk_alloc ?_ _)); exact BK204.out) NB204_0.out (by simp)); have n8_ := Aside0.mk (KeepBut.trans (by repeat (first | (with_reducible first | exact HK.out | apply KeepBut.set_ | apply keep_drewN | apply keep_drew | apply keep_alloc | refine keep_far ?_ GW181.out _ | refine keep_far ?_ GW182.out _ | refine keep_far ?_ GW183.out _ | refine keep_far ?_ GW184.out _ | refine keep_far ?_ GW189.out _ | refine keep_far ?_ GW194.out _ | refine keep_far ?_ GW199.out _ | refine keep_far ?_ GW204.out _) | exact HK.out)) hk (.inl rfl)); have n9_ := Aside0.mk (hb); have n10_ := Aside0.mk (hi); clear BK181; clear BK182; clear BK183; clear BK184; clear BK189; clear BK194; clear BK199; clear BK204; clear HK; clear HB; clear HI0; have BK181 := n0_; have BK182 := n1_; have BK183 := n2_; have BK184 := n3_; have BK189 := n4_; have BK194 := n5_; have BK199 := n6_; have BK204 := n7_; have HK := n8_; have HB := n9_; have HI0 := n10_; clear n0_ n1_ n2_ n3_ n4_ n5_ n6_ n7_ n8_ n9_ n10_; (try clear hb); (try clear hb2); (try clear hk); (try clear hi))
        try go_wp2
        have n0_ := Aside0.mk (blk_drew BK181.out)
        have n1_ := Aside0.mk (blk_drew BK182.out)
        have n2_ := Aside0.mk (blk_drew BK183.out)
        have n3_ := Aside0.mk (blk_drew BK184.out)
        have n4_ := Aside0.mk (blk_drew BK189.out)
        have n5_ := Aside0.mk (blk_drew BK194.out)
        have n6_ := Aside0.mk (blk_drew BK199.out)
        have n7_ := Aside0.mk (blk_drew BK204.out)
        have n8_ := Aside0.mk (IsS127.drew HI0.out)
        have n9_ := Aside0.mk (keep_drew HK.out)
        have n10_ := Aside0.mk (below_drew1 HB.out)
        clear BK181
        clear BK182
        clear BK183
        clear BK184
        clear BK189
        clear BK194
        clear BK199
        clear BK204
        clear HI0
        clear HK
        clear HB
        have BK181 := n0_
        have BK182 := n1_
        have BK183 := n2_
        have BK184 := n3_
        have BK189 := n4_
        have BK194 := n5_
        have BK199 := n6_
        have BK204 := n7_
        have HI0 := n8_
        have HK := n9_
        have HB := n10_
        clear n0_ n1_ n2_ n3_ n4_ n5_ n6_ n7_ n8_ n9_ n10_
        refine start_ (n := 8) (S := fun w' => w'.cell? ⟨gb189, 0, none⟩ = some (.int .i64 t185) ∧ w'.cell? ⟨gb189, 1, none⟩ = some (.int .i64 t186) ∧ w'.cell? ⟨gb194, 0, none⟩ = some (.int .i64 t190) ∧ w'.cell? ⟨gb194, 1, none⟩ = some (.int .i64 t191) ∧ w'.cell? ⟨gb199, 0, none⟩ = some (.int .i64 t195) ∧ w'.cell? ⟨gb199, 1, none⟩ = some (.int .i64 t196) ∧ w'.cell? ⟨gb204, 0, none⟩ = some (.int .i64 t200) ∧ w'.cell? ⟨gb204, 1, none⟩ = some (.int .i64 t201)) (ds := []) #[false, false, false, false, false, false, false, false] (by kernel_rfl) rfl rfl ⟨(blk_cell BK189.out 0).trans rfl, (blk_cell BK189.out 1).trans rfl, (blk_cell BK194.out 0).trans rfl, (blk_cell BK194.out 1).trans rfl, (blk_cell BK199.out 0).trans rfl, (blk_cell BK199.out 1).trans rfl, (blk_cell BK204.out 0).trans rfl, (blk_cell BK204.out 1).trans rfl⟩ (fun hHeld => ?_); refine with_tabW spec_l3Four.tab12 spec_l3Four.bits12 (fun HT_ HW_ => ?_)
        generalize w226.drew = w227 at BK181 BK182 BK183 BK184 BK189 BK194 BK199 BK204 HI0 HK HB hHeld ⊢
        refine take_ (i := 0) (N := some 47) (v := ?_) (a' := ?_) #[true, false, false, false, false, false, false, false] rfl rfl (take_ofW HT_.out HW_.out (by kernel_rfl)) (fun _ _ _ h => h) (Or.inl ⟨by rfl, ?_⟩) hHeld ?_ ?_
        rotate_left
        · rintro w' ⟨s0, s1, s2, s3, s4, s5, s6, s7⟩
          go_simp
          with_reducible rfl
        rotate_left
        · simp only [Act.put, List.setIfInBounds_toArray, List.set_cons_zero, List.set_cons_succ, i64_w, i32_w]
          rfl
        refine take_ (i := 1) (N := some 48) (v := ?_) (a' := ?_) #[true, true, false, false, false, false, false, false] rfl rfl (take_ofW HT_.out HW_.out (by kernel_rfl)) (fun _ _ _ h => h) (Or.inl ⟨by rfl, ?_⟩) hHeld ?_ ?_
        rotate_left
        · rintro w' ⟨s0, s1, s2, s3, s4, s5, s6, s7⟩
          go_simp
          with_reducible rfl
        rotate_left
        · simp only [Act.put, List.setIfInBounds_toArray, List.set_cons_zero, List.set_cons_succ, i64_w, i32_w]
          rfl
        refine take_ (i := 2) (N := some 49) (v := ?_) (a' := ?_) #[true, true, true, false, false, false, false, false] rfl rfl (take_ofW HT_.out HW_.out (by kernel_rfl)) (fun _ _ _ h => h) (Or.inl ⟨by rfl, ?_⟩) hHeld ?_ ?_
        rotate_left
        · rintro w' ⟨s0, s1, s2, s3, s4, s5, s6, s7⟩
          go_simp
          with_reducible rfl
        rotate_left
        · simp only [Act.put, List.setIfInBounds_toArray, List.set_cons_zero, List.set_cons_succ, i64_w, i32_w]
          rfl
        refine take_ (i := 3) (N := some 50) (v := ?_) (a' := ?_) #[true, true, true, true, false, false, false, false] rfl rfl (take_ofW HT_.out HW_.out (by kernel_rfl)) (fun _ _ _ h => h) (Or.inl ⟨by rfl, ?_⟩) hHeld ?_ ?_
        rotate_left
        · rintro w' ⟨s0, s1, s2, s3, s4, s5, s6, s7⟩
          go_simp
          with_reducible rfl
        rotate_left
        · simp only [Act.put, List.setIfInBounds_toArray, List.set_cons_zero, List.set_cons_succ, i64_w, i32_w]
          rfl
        refine one_ (i := 4) (N := none) #[true, true, true, true, true, false, false, false] rfl rfl (one_of HT_.out (by kernel_rfl)) (by decide) (fun K hK => ?_)
        have hs228 : w227.cell? ⟨gb181, 0, none⟩ = some (.int .i64 0) := (blk_cell BK181.out 0).trans rfl
        have hfs228 := blk_frozen BK181.out 0
        have hns228_1 := NB182_181.out
        have hns228_2 := NB183_181.out
        have hns228_3 := NB184_181.out
        have hns228_4 := NB189_181.out
        have hns228_5 := NB194_181.out
        have hns228_6 := NB199_181.out
        have hns228_7 := NB204_181.out
        have hms228_1 := NB181_182.out
        have hms228_2 := NB181_183.out
        have hms228_3 := NB181_184.out
        have hms228_4 := NB181_189.out
        have hms228_5 := NB181_194.out
        have hms228_6 := NB181_199.out
        have hms228_7 := NB181_204.out
        have hs229 : w227.cell? ⟨gb181, 1, none⟩ = some (.int .i64 0) := (blk_cell BK181.out 1).trans rfl
        have hfs229 := blk_frozen BK181.out 1
        have hns229_1 := NB182_181.out
        have hns229_2 := NB183_181.out
        have hns229_3 := NB184_181.out
        have hns229_4 := NB189_181.out
        have hns229_5 := NB194_181.out
        have hns229_6 := NB199_181.out
        have hns229_7 := NB204_181.out
        have hms229_1 := NB181_182.out
        have hms229_2 := NB181_183.out
        have hms229_3 := NB181_184.out
        have hms229_4 := NB181_189.out
        have hms229_5 := NB181_194.out
        have hms229_6 := NB181_199.out
        have hms229_7 := NB181_204.out
        refine skip_ (w1 := ?_) (by rfl) rfl ?_ ?_
        rotate_left
        · go_simp
          rfl
        refine hK.out _ _ ⟨((cell_far (p := ⟨gb181, _, none⟩) NB189_181.out _).trans (((cell_far (p := ⟨gb181, _, none⟩) NB189_181.out _).trans (hHeld.1)))), ((cell_far (p := ⟨gb181, _, none⟩) NB189_181.out _).trans (((cell_far (p := ⟨gb181, _, none⟩) NB189_181.out _).trans (hHeld.2.1)))), ((cell_far (p := ⟨gb181, _, none⟩) NB194_181.out _).trans (((cell_far (p := ⟨gb181, _, none⟩) NB194_181.out _).trans (hHeld.2.2.1)))), ((cell_far (p := ⟨gb181, _, none⟩) NB194_181.out _).trans (((cell_far (p := ⟨gb181, _, none⟩) NB194_181.out _).trans (hHeld.2.2.2.1)))), ((cell_far (p := ⟨gb181, _, none⟩) NB199_181.out _).trans (((cell_far (p := ⟨gb181, _, none⟩) NB199_181.out _).trans (hHeld.2.2.2.2.1)))), ((cell_far (p := ⟨gb181, _, none⟩) NB199_181.out _).trans (((cell_far (p := ⟨gb181, _, none⟩) NB199_181.out _).trans (hHeld.2.2.2.2.2.1)))), ((cell_far (p := ⟨gb181, _, none⟩) NB204_181.out _).trans (((cell_far (p := ⟨gb181, _, none⟩) NB204_181.out _).trans (hHeld.2.2.2.2.2.2.1)))), ((cell_far (p := ⟨gb181, _, none⟩) NB204_181.out _).trans (((cell_far (p := ⟨gb181, _, none⟩) NB204_181.out _).trans (hHeld.2.2.2.2.2.2.2))))⟩ (fun hHeld => ?_)
        clear hK K
        refine one_ (i := 5) (N := none) #[true, true, true, true, true, true, false, false] rfl rfl (one_of HT_.out (by kernel_rfl)) (by decide) (fun K hK => ?_)
        have hs230 : w227.cell? ⟨gb182, 0, none⟩ = some (.int .i64 0) := (blk_cell BK182.out 0).trans rfl
        have hfs230 := blk_frozen BK182.out 0
        have hns230_0 := NB181_182.out
        have hns230_2 := NB183_182.out
        have hns230_3 := NB184_182.out
        have hns230_4 := NB189_182.out
        have hns230_5 := NB194_182.out
        have hns230_6 := NB199_182.out
        have hns230_7 := NB204_182.out
        have hms230_0 := NB182_181.out
        have hms230_2 := NB182_183.out
        have hms230_3 := NB182_184.out
        have hms230_4 := NB182_189.out
        have hms230_5 := NB182_194.out
        have hms230_6 := NB182_199.out
        have hms230_7 := NB182_204.out
        have hs231 : w227.cell? ⟨gb182, 1, none⟩ = some (.int .i64 0) := (blk_cell BK182.out 1).trans rfl
        have hfs231 := blk_frozen BK182.out 1
        have hns231_0 := NB181_182.out
        have hns231_2 := NB183_182.out
        have hns231_3 := NB184_182.out
        have hns231_4 := NB189_182.out
        have hns231_5 := NB194_182.out
        have hns231_6 := NB199_182.out
        have hns231_7 := NB204_182.out
        have hms231_0 := NB182_181.out
        have hms231_2 := NB182_183.out
        have hms231_3 := NB182_184.out
        have hms231_4 := NB182_189.out
        have hms231_5 := NB182_194.out
        have hms231_6 := NB182_199.out
        have hms231_7 := NB182_204.out
        refine skip_ (w1 := ?_) (by rfl) rfl ?_ ?_
        rotate_left
        · go_simp
          rfl
        refine hK.out _ _ ⟨((cell_far (p := ⟨gb182, _, none⟩) NB189_182.out _).trans (((cell_far (p := ⟨gb182, _, none⟩) NB189_182.out _).trans (hHeld.1)))), ((cell_far (p := ⟨gb182, _, none⟩) NB189_182.out _).trans (((cell_far (p := ⟨gb182, _, none⟩) NB189_182.out _).trans (hHeld.2.1)))), ((cell_far (p := ⟨gb182, _, none⟩) NB194_182.out _).trans (((cell_far (p := ⟨gb182, _, none⟩) NB194_182.out _).trans (hHeld.2.2.1)))), ((cell_far (p := ⟨gb182, _, none⟩) NB194_182.out _).trans (((cell_far (p := ⟨gb182, _, none⟩) NB194_182.out _).trans (hHeld.2.2.2.1)))), ((cell_far (p := ⟨gb182, _, none⟩) NB199_182.out _).trans (((cell_far (p := ⟨gb182, _, none⟩) NB199_182.out _).trans (hHeld.2.2.2.2.1)))), ((cell_far (p := ⟨gb182, _, none⟩) NB199_182.out _).trans (((cell_far (p := ⟨gb182, _, none⟩) NB199_182.out _).trans (hHeld.2.2.2.2.2.1)))), ((cell_far (p := ⟨gb182, _, none⟩) NB204_182.out _).trans (((cell_far (p := ⟨gb182, _, none⟩) NB204_182.out _).trans (hHeld.2.2.2.2.2.2.1)))), ((cell_far (p := ⟨gb182, _, none⟩) NB204_182.out _).trans (((cell_far (p := ⟨gb182, _, none⟩) NB204_182.out _).trans (hHeld.2.2.2.2.2.2.2))))⟩ (fun hHeld => ?_)
        clear hK K
        refine one_ (i := 6) (N := none) #[true, true, true, true, true, true, true, false] rfl rfl (one_of HT_.out (by kernel_rfl)) (by decide) (fun K hK => ?_)
        have hs232 : w227.cell? ⟨gb183, 0, none⟩ = some (.int .i64 0) := (blk_cell BK183.out 0).trans rfl
        have hfs232 := blk_frozen BK183.out 0
        have hns232_0 := NB181_183.out
        have hns232_1 := NB182_183.out
        have hns232_3 := NB184_183.out
        have hns232_4 := NB189_183.out
        have hns232_5 := NB194_183.out
        have hns232_6 := NB199_183.out
        have hns232_7 := NB204_183.out
        have hms232_0 := NB183_181.out
        have hms232_1 := NB183_182.out
        have hms232_3 := NB183_184.out
        have hms232_4 := NB183_189.out
        have hms232_5 := NB183_194.out
        have hms232_6 := NB183_199.out
        have hms232_7 := NB183_204.out
        have hs233 : w227.cell? ⟨gb183, 1, none⟩ = some (.int .i64 0) := (blk_cell BK183.out 1).trans rfl
        have hfs233 := blk_frozen BK183.out 1
        have hns233_0 := NB181_183.out
        have hns233_1 := NB182_183.out
        have hns233_3 := NB184_183.out
        have hns233_4 := NB189_183.out
        have hns233_5 := NB194_183.out
        have hns233_6 := NB199_183.out
        have hns233_7 := NB204_183.out
        have hms233_0 := NB183_181.out
        have hms233_1 := NB183_182.out
        have hms233_3 := NB183_184.out
        have hms233_4 := NB183_189.out
        have hms233_5 := NB183_194.out
        have hms233_6 := NB183_199.out
        have hms233_7 := NB183_204.out
        refine skip_ (w1 := ?_) (by rfl) rfl ?_ ?_
        rotate_left
        · go_simp
          rfl
        refine hK.out _ _ ⟨((cell_far (p := ⟨gb183, _, none⟩) NB189_183.out _).trans (((cell_far (p := ⟨gb183, _, none⟩) NB189_183.out _).trans (hHeld.1)))), ((cell_far (p := ⟨gb183, _, none⟩) NB189_183.out _).trans (((cell_far (p := ⟨gb183, _, none⟩) NB189_183.out _).trans (hHeld.2.1)))), ((cell_far (p := ⟨gb183, _, none⟩) NB194_183.out _).trans (((cell_far (p := ⟨gb183, _, none⟩) NB194_183.out _).trans (hHeld.2.2.1)))), ((cell_far (p := ⟨gb183, _, none⟩) NB194_183.out _).trans (((cell_far (p := ⟨gb183, _, none⟩) NB194_183.out _).trans (hHeld.2.2.2.1)))), ((cell_far (p := ⟨gb183, _, none⟩) NB199_183.out _).trans (((cell_far (p := ⟨gb183, _, none⟩) NB199_183.out _).trans (hHeld.2.2.2.2.1)))), ((cell_far (p := ⟨gb183, _, none⟩) NB199_183.out _).trans (((cell_far (p := ⟨gb183, _, none⟩) NB199_183.out _).trans (hHeld.2.2.2.2.2.1)))), ((cell_far (p := ⟨gb183, _, none⟩) NB204_183.out _).trans (((cell_far (p := ⟨gb183, _, none⟩) NB204_183.out _).trans (hHeld.2.2.2.2.2.2.1)))), ((cell_far (p := ⟨gb183, _, none⟩) NB204_183.out _).trans (((cell_far (p := ⟨gb183, _, none⟩) NB204_183.out _).trans (hHeld.2.2.2.2.2.2.2))))⟩ (fun hHeld => ?_)
        clear hK K
        refine one_ (i := 7) (N := none) #[true, true, true, true, true, true, true, true] rfl rfl (one_of HT_.out (by kernel_rfl)) (by decide) (fun K hK => ?_)
        have hs234 : w227.cell? ⟨gb184, 0, none⟩ = some (.int .i64 0) := (blk_cell BK184.out 0).trans rfl
        have hfs234 := blk_frozen BK184.out 0
        have hns234_0 := NB181_184.out
        have hns234_1 := NB182_184.out
        have hns234_2 := NB183_184.out
        have hns234_4 := NB189_184.out
        have hns234_5 := NB194_184.out
        have hns234_6 := NB199_184.out
        have hns234_7 := NB204_184.out
        have hms234_0 := NB184_181.out
        have hms234_1 := NB184_182.out
        have hms234_2 := NB184_183.out
        have hms234_4 := NB184_189.out
        have hms234_5 := NB184_194.out
        have hms234_6 := NB184_199.out
        have hms234_7 := NB184_204.out
        have hs235 : w227.cell? ⟨gb184, 1, none⟩ = some (.int .i64 0) := (blk_cell BK184.out 1).trans rfl
        have hfs235 := blk_frozen BK184.out 1
        have hns235_0 := NB181_184.out
        have hns235_1 := NB182_184.out
        have hns235_2 := NB183_184.out
        have hns235_4 := NB189_184.out
        have hns235_5 := NB194_184.out
        have hns235_6 := NB199_184.out
        have hns235_7 := NB204_184.out
        have hms235_0 := NB184_181.out
        have hms235_1 := NB184_182.out
        have hms235_2 := NB184_183.out
        have hms235_4 := NB184_189.out
        have hms235_5 := NB184_194.out
        have hms235_6 := NB184_199.out
        have hms235_7 := NB184_204.out
        refine skip_ (w1 := ?_) (by rfl) rfl ?_ ?_
        rotate_left
        · go_simp
          rfl
        refine hK.out _ _ ⟨((cell_far (p := ⟨gb184, _, none⟩) NB189_184.out _).trans (((cell_far (p := ⟨gb184, _, none⟩) NB189_184.out _).trans (hHeld.1)))), ((cell_far (p := ⟨gb184, _, none⟩) NB189_184.out _).trans (((cell_far (p := ⟨gb184, _, none⟩) NB189_184.out _).trans (hHeld.2.1)))), ((cell_far (p := ⟨gb184, _, none⟩) NB194_184.out _).trans (((cell_far (p := ⟨gb184, _, none⟩) NB194_184.out _).trans (hHeld.2.2.1)))), ((cell_far (p := ⟨gb184, _, none⟩) NB194_184.out _).trans (((cell_far (p := ⟨gb184, _, none⟩) NB194_184.out _).trans (hHeld.2.2.2.1)))), ((cell_far (p := ⟨gb184, _, none⟩) NB199_184.out _).trans (((cell_far (p := ⟨gb184, _, none⟩) NB199_184.out _).trans (hHeld.2.2.2.2.1)))), ((cell_far (p := ⟨gb184, _, none⟩) NB199_184.out _).trans (((cell_far (p := ⟨gb184, _, none⟩) NB199_184.out _).trans (hHeld.2.2.2.2.2.1)))), ((cell_far (p := ⟨gb184, _, none⟩) NB204_184.out _).trans (((cell_far (p := ⟨gb184, _, none⟩) NB204_184.out _).trans (hHeld.2.2.2.2.2.2.1)))), ((cell_far (p := ⟨gb184, _, none⟩) NB204_184.out _).trans (((cell_far (p := ⟨gb184, _, none⟩) NB204_184.out _).trans (hHeld.2.2.2.2.2.2.2))))⟩ (fun hHeld => ?_)
        clear hK K
        refine done_ (done_of HT_.out (by kernel_rfl)) ?_
        try go_wp2
        refine bodyPost_ret (results_list (rs := [.cell 2 32, .cell 3 32, .cell 4 32, .cell 5 32]) rfl (by simp) (.cell gb181 32 #[.int .i64 t185, .int .i64 t186] (0, 0) _ rfl (by (with_reducible repeat (first | refine blk_drewN ?_ _ | refine blk_drew ?_ | refine blk_alloc ?_ _)); refine blk_far ?_ NB181_184.out _; (with_reducible repeat (first | refine blk_drewN ?_ _ | refine blk_drew ?_ | refine blk_alloc ?_ _)); refine blk_far ?_ NB181_184.out _; (with_reducible repeat (first | refine blk_drewN ?_ _ | refine blk_drew ?_ | refine blk_alloc ?_ _)); refine blk_far ?_ NB181_183.out _; (with_reducible repeat (first | refine blk_drewN ?_ _ | refine blk_drew ?_ | refine blk_alloc ?_ _)); refine blk_far ?_ NB181_183.out _; (with_reducible repeat (first | refine blk_drewN ?_ _ | refine blk_drew ?_ | refine blk_alloc ?_ _)); refine blk_far ?_ NB181_182.out _; (with_reducible repeat (first | refine blk_drewN ?_ _ | refine blk_drew ?_ | refine blk_alloc ?_ _)); refine blk_far ?_ NB181_182.out _; (with_reducible repeat (first | refine blk_drewN ?_ _ | refine blk_drew ?_ | refine blk_alloc ?_ _)); refine blk_put (cs := #[.int .i64 t185, .int .i64 0]) ?_ 1 _ rfl; (with_reducible repeat (first | refine blk_drewN ?_ _ | refine blk_drew ?_ | refine blk_alloc ?_ _)); refine blk_put (cs := #[.int .i64 0, .int .i64 0]) ?_ 0 _ rfl; (with_reducible repeat (first | refine blk_drewN ?_ _ | refine blk_drew ?_ | refine blk_alloc ?_ _)); exact BK181.out) Try.underlying32 rfl (by kernel_rfl) (.cell gb182 32 #[.int .i64 t190, .int .i64 t191] (0, 0) _ rfl (by (with_reducible repeat (first | refine blk_drewN ?_ _ | refine blk_drew ?_ | refine blk_alloc ?_ _)); refine blk_far ?_ NB182_184.out _; (with_reducible repeat (first | refine blk_drewN ?_ _ | refine blk_drew ?_ | refine blk_alloc ?_ _)); refine blk_far ?_ NB182_184.out _; (with_reducible repeat (first | refine blk_drewN ?_ _ | refine blk_drew ?_ | refine blk_alloc ?_ _)); refine blk_far ?_ NB182_183.out _; (with_reducible repeat (first | refine blk_drewN ?_ _ | refine blk_drew ?_ | refine blk_alloc ?_ _)); refine blk_far ?_ NB182_183.out _; (with_reducible repeat (first | refine blk_drewN ?_ _ | refine blk_drew ?_ | refine blk_alloc ?_ _)); refine blk_put (cs := #[.int .i64 t190, .int .i64 0]) ?_ 1 _ rfl; (with_reducible repeat (first | refine blk_drewN ?_ _ | refine blk_drew ?_ | refine blk_alloc ?_ _)); refine blk_put (cs := #[.int .i64 0, .int .i64 0]) ?_ 0 _ rfl; (with_reducible repeat (first | refine blk_drewN ?_ _ | refine blk_drew ?_ | refine blk_alloc ?_ _)); refine blk_far ?_ NB182_181.out _; (with_reducible repeat (first | refine blk_drewN ?_ _ | refine blk_drew ?_ | refine blk_alloc ?_ _)); refine blk_far ?_ NB182_181.out _; (with_reducible repeat (first | refine blk_drewN ?_ _ | refine blk_drew ?_ | refine blk_alloc ?_ _)); exact BK182.out) Try.underlying32 rfl (by kernel_rfl) (.cell gb183 32 #[.int .i64 t195, .int .i64 t196] (0, 0) _ rfl (by (with_reducible repeat (first | refine blk_drewN ?_ _ | refine blk_drew ?_ | refine blk_alloc ?_ _)); refine blk_far ?_ NB183_184.out _; (with_reducible repeat (first | refine blk_drewN ?_ _ | refine blk_drew ?_ | refine blk_alloc ?_ _)); refine blk_far ?_ NB183_184.out _; (with_reducible repeat (first | refine blk_drewN ?_ _ | refine blk_drew ?_ | refine blk_alloc ?_ _)); refine blk_put (cs := #[.int .i64 t195, .int .i64 0]) ?_ 1 _ rfl; (with_reducible repeat (first | refine blk_drewN ?_ _ | refine blk_drew ?_ | refine blk_alloc ?_ _)); refine blk_put (cs := #[.int .i64 0, .int .i64 0]) ?_ 0 _ rfl; (with_reducible repeat (first | refine blk_drewN ?_ _ | refine blk_drew ?_ | refine blk_alloc ?_ _)); refine blk_far ?_ NB183_182.out _; (with_reducible repeat (first | refine blk_drewN ?_ _ | refine blk_drew ?_ | refine blk_alloc ?_ _)); refine blk_far ?_ NB183_182.out _; (with_reducible repeat (first | refine blk_drewN ?_ _ | refine blk_drew ?_ | refine blk_alloc ?_ _)); refine blk_far ?_ NB183_181.out _; (with_reducible repeat (first | refine blk_drewN ?_ _ | refine blk_drew ?_ | refine blk_alloc ?_ _)); refine blk_far ?_ NB183_181.out _; (with_reducible repeat (first | refine blk_drewN ?_ _ | refine blk_drew ?_ | refine blk_alloc ?_ _)); exact BK183.out) Try.underlying32 rfl (by kernel_rfl) (.cell gb184 32 #[.int .i64 t200, .int .i64 t201] (0, 0) _ rfl (by (with_reducible repeat (first | refine blk_drewN ?_ _ | refine blk_drew ?_ | refine blk_alloc ?_ _)); refine blk_put (cs := #[.int .i64 t200, .int .i64 0]) ?_ 1 _ rfl; (with_reducible repeat (first | refine blk_drewN ?_ _ | refine blk_drew ?_ | refine blk_alloc ?_ _)); refine blk_put (cs := #[.int .i64 0, .int .i64 0]) ?_ 0 _ rfl; (with_reducible repeat (first | refine blk_drewN ?_ _ | refine blk_drew ?_ | refine blk_alloc ?_ _)); refine blk_far ?_ NB184_183.out _; (with_reducible repeat (first | refine blk_drewN ?_ _ | refine blk_drew ?_ | refine blk_alloc ?_ _)); refine blk_far ?_ NB184_183.out _; (with_reducible repeat (first | refine blk_drewN ?_ _ | refine blk_drew ?_ | refine blk_alloc ?_ _)); refine blk_far ?_ NB184_182.out _; (with_reducible repeat (first | refine blk_drewN ?_ _ | refine blk_drew ?_ | refine blk_alloc ?_ _)); refine blk_far ?_ NB184_182.out _; (with_reducible repeat (first | refine blk_drewN ?_ _ | refine blk_drew ?_ | refine blk_alloc ?_ _)); refine blk_far ?_ NB184_181.out _; (with_reducible repeat (first | refine blk_drewN ?_ _ | refine blk_drew ?_ | refine blk_alloc ?_ _)); refine blk_far ?_ NB184_181.out _; (with_reducible repeat (first | refine blk_drewN ?_ _ | refine blk_drew ?_ | refine blk_alloc ?_ _)); exact BK184.out) Try.underlying32 rfl (by kernel_rfl) .nil))))) rfl ?_
        exact ⟨by first | rfl | (simp [errW_none, errW_some] <;> rfl) | (simp [*, errW_none, errW_some] <;> rfl), by repeat (first | (with_reducible first | exact HI0.out | apply IsS127.alloc | apply IsS127.drewN | apply IsS127.drew | apply IsS127.set_1 | apply IsS127.set_2 | refine IsS127.far ?_ NB0_181.out _ | refine IsS127.far ?_ NB0_182.out _ | refine IsS127.far ?_ NB0_183.out _ | refine IsS127.far ?_ NB0_184.out _ | refine IsS127.far ?_ NB0_189.out _ | refine IsS127.far ?_ NB0_194.out _ | refine IsS127.far ?_ NB0_199.out _ | refine IsS127.far ?_ NB0_204.out _) | exact HI0.out), by repeat (first | (with_reducible first | exact HB.out | apply below_alloc | apply pw_below_drewN | apply below_drew1 | refine below_set ?_ (IsS127.ge HI0.out) | refine below_set ?_ GE181.out | refine below_set ?_ GE182.out | refine below_set ?_ GE183.out | refine below_set ?_ GE184.out | refine below_set ?_ GE189.out | refine below_set ?_ GE194.out | refine below_set ?_ GE199.out | refine below_set ?_ GE204.out) | exact HB.out), by repeat (first | (with_reducible first | exact HK.out | apply KeepBut.set_ | apply keep_drewN | apply keep_drew | apply keep_alloc | refine keep_far ?_ GW181.out _ | refine keep_far ?_ GW182.out _ | refine keep_far ?_ GW183.out _ | refine keep_far ?_ GW184.out _ | refine keep_far ?_ GW189.out _ | refine keep_far ?_ GW194.out _ | refine keep_far ?_ GW199.out _ | refine keep_far ?_ GW204.out _) | exact HK.out)⟩

end Go.Proofs.Ytebnhcliileneaa.PFnTurns
