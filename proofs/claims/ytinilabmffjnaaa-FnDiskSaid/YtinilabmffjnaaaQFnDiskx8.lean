/- The functions that the law FnDisk reaches, each with what it computes and its contract. -/
import Derived.Test.YtinilabmffjnaaaQFnDiskx0
import Derived.Test.YtinilabmffjnaaaQFnDiskx1
import Derived.Test.YtinilabmffjnaaaQFnDiskx4
import Derived.Test.YtinilabmffjnaaaQFnDiskx5
import Derived.Test.YtinilabmffjnaaaQFnDiskx6
import Derived.Test.YtinilabmffjnaaaQFnDiskx7
namespace Go.Proofs.Ytinilabmffjnaaa.PFnDisk
open Go.RowKit Go.Proofs.YtinilabmffjnaaaW.PrintWords Go.Proofs.YtinilabmffjnaaaW.PrintLast Go.Proofs.YtinilabmffjnaaaW.PrintMore
attribute [local go_sem] max2_int min2_int max_two min_two max_three min_three max_four min_four
set_option linter.unusedVariables false
set_option linter.unusedSimpArgs false

def spec_l11Draw.l0 : Nat → Int → List Int → Int → Int → List Int → List (S34) → Option (List Int × (List (S34)) × Int × Int)
 | 0, _, _, _, _, _, _ => none
 | k + 1, x4, x1000, x1001, x1002, x214000, x214001 => if x4 > 0 then ((spec_l11Many.f x214000 x214001).bind fun t217 => ((spec_l1Below.f x1000 x1001 x1002 t217).bind fun bt218 => ((spec_l1Bytes.f k x1000 bt218.2.1 bt218.2.2 64).bind fun bt221 => ((spec_WriteSector.f k x214000 x214001 bt218.1 bt221.1).bind fun bt226 => ((spec_l1Once.f x1000 bt221.2.1 bt221.2.2 3).bind fun bt233 => (if bt233.1 = true then ((spec_Sync.f k bt226.1 bt226.2.1).bind fun bt236 => (spec_l11Draw.l0 k (wrap64 (x4 - 1)) x1000 bt233.2.1 bt233.2.2 bt236.1 bt236.2)) else (spec_l11Draw.l0 k (wrap64 (x4 - 1)) x1000 bt233.2.1 bt233.2.2 bt226.1 bt226.2.1))))))) else ((spec_l1Below.f x1000 x1001 x1002 20).bind fun bt242 => (if bt242.1 = 0 then (if 1 ≤ (x214000.length : Int) then (some ((x214000.drop (1 : Int).toNat), x214001, bt242.2.1, bt242.2.2)) else (none)) else (if bt242.1 = 1 then ((spec_l1Int.f x1000 bt242.2.1 bt242.2.2 (([(-1), 0, 9] : List Int))).bind fun bt251 => ((spec_l1Int.f x1000 bt251.2.1 bt251.2.2 (([64, 63] : List Int))).bind fun bt257 => ((spec_l1Bytes.f k x1000 bt257.2.1 bt257.2.2 bt257.1).bind fun bt260 => (if x214001.length < 4398046511104 then (some (x214000, (x214001 ++ [(⟨bt251.1, bt260.1⟩ : S34)]), bt260.2.1, bt260.2.2)) else (none))))) else (if bt242.1 = 2 then (some (([] : List Int), ([] : List (S34)), bt242.2.1, bt242.2.2)) else (some (x214000, x214001, bt242.2.1, bt242.2.2))))))
def spec_l11Draw.f (k : Nat) (s0_0 : List Int) (s0_1 : Int) (s0_2 : Int) : Option (List Int × (List (S34)) × Int × Int) := (spec_l1Below.f s0_0 s0_1 s0_2 6).bind fun bt204 => ((spec_DiskNew.f (wrap64 (1 + bt204.1))).bind fun bt207 => ((spec_l1Below.f s0_0 bt204.2.1 bt204.2.2 6).bind fun bt214 => (spec_l11Draw.l0 k bt214.1 s0_0 bt214.2.1 bt214.2.2 bt207.1 bt207.2)))
def spec_l11Draw.T5 : Bool × List (List Nat × List Nat) := (true, [([], []), ([], []), ([], []), ([2], [2]), ([1, 3, 3], [1, 3]), ([], []), ([5, 4], [5]), ([0, 4, 6, 6], [0, 4, 6]), ([7], [7]), ([8], [8]), ([8], [8]), ([9, 7, 0, 1, 2, 3, 4, 5, 6, 7, 8, 9], [9])])
def spec_l11Draw.B5 : List Nat := [0, 0, 0, 4, 14, 0, 62, 127, 255, 511, 511, 1023]
theorem spec_l11Draw.tab5 : rtab .any (opsOf Try.f54 5) = spec_l11Draw.T5 := by kernel_rfl
theorem spec_l11Draw.bits5 : waitsOk spec_l11Draw.T5.2 spec_l11Draw.B5 = true := by kernel_rfl
def spec_l11Draw.T12 : Bool × List (List Nat × List Nat) := (true, [([], []), ([0], [0]), ([], []), ([], []), ([2, 3], [2, 3]), ([], []), ([], []), ([], []), ([6, 7, 4], [6, 7]), ([5, 8, 8], [5, 8]), ([4, 9], [4, 9]), ([10], [10]), ([1, 11, 9], [1, 11]), ([0, 1, 2, 3, 4, 5, 6, 7, 8, 9, 10, 11, 12], []), ([13, 12, 12, 0, 1, 2, 3, 4, 5, 6, 7, 8, 9, 10, 11, 12], [12, 13])])
def spec_l11Draw.B12 : List Nat := [0, 1, 0, 0, 12, 0, 0, 0, 220, 508, 1020, 2044, 4095, 8191, 16383]
theorem spec_l11Draw.tab12 : rtab .any (opsOf Try.f54 12) = spec_l11Draw.T12 := by kernel_rfl
theorem spec_l11Draw.bits12 : waitsOk spec_l11Draw.T12.2 spec_l11Draw.B12 = true := by kernel_rfl
set_option maxHeartbeats 8000000 in
set_option maxRecDepth 100000 in
theorem spec_l11Draw.calls (k : Nat) (g : Nat) (s0_0 : List Int) (s0_1 : Int) (s0_2 : Int) (r1 : List Int) (r2 : List (S34)) (r3 : Int) (r4 : Int) (w0 w : World) (hI : IsS124 w0 w g s0_0 s0_1 s0_2) (hB : Below w0.heap.size w0 w) (h : spec_l11Draw.f k s0_0 s0_1 s0_2 = some (r1, r2, r3, r4)) :
  Calls Try.prog 54 #[.pointer (some ⟨g, 0, none⟩)] w fun e w' => ∃ v0_ v1_ : Value, e = .returned (.agg #[v0_, v1_]) ∧ Kd.Q (Kd.int .u8) 5 w' w.heap.size (fun _ => True) v0_ r1 ∧ Kd.S k34 34 w' w.heap.size (fun k_ => some k_ ≠ (v0_ : Value).ownBlock) v1_ r2 ∧ IsS124 w0 w' g s0_0 r3 r4 ∧ Below w0.heap.size w0 w' ∧ KeepBut w w' g none := by
 have hu26 := Try.underlying26
 have hu34 := Try.underlying34
 have HI0 := Ak hI
 have HK := Ak (KeepBut.refl w g none)
 have HL := Ak hB.size
 clear hI
 have HW0 := Ak hB.size
 have HB := Ak hB
 clear hB
 have H : ((spec_l1Below.f s0_0 s0_1 s0_2 6).bind fun bt204 => ((spec_DiskNew.f (wrap64 (1 + bt204.1))).bind fun bt207 => ((spec_l1Below.f s0_0 bt204.2.1 bt204.2.2 6).bind fun bt214 => (spec_l11Draw.l0 k bt214.1 s0_0 bt214.2.1 bt214.2.2 bt207.1 bt207.2)))) = some (r1, r2, r3, r4) := h
 clear h
 replace H := Option.bind_eq_some_iff.mp H
 obtain ⟨⟨t204, t205, t206⟩, A20, H⟩ := H
 replace H : ((spec_DiskNew.f (wrap64 (1 + t204))).bind fun bt207 => ((spec_l1Below.f s0_0 t205 t206 6).bind fun bt214 => (spec_l11Draw.l0 k bt214.1 s0_0 bt214.2.1 bt214.2.2 bt207.1 bt207.2))) = some (r1, r2, r3, r4) := H
 have A2 := Ak A20
 clear A20
 replace H := Option.bind_eq_some_iff.mp H
 obtain ⟨⟨t207, t210⟩, A30, H⟩ := H
 replace H : ((spec_l1Below.f s0_0 t205 t206 6).bind fun bt214 => (spec_l11Draw.l0 k bt214.1 s0_0 bt214.2.1 bt214.2.2 t207 t210)) = some (r1, r2, r3, r4) := H
 have A3 := Ak A30
 clear A30
 replace H := Option.bind_eq_some_iff.mp H
 obtain ⟨⟨t214, t215, t216⟩, A40, H⟩ := H
 replace H : (spec_l11Draw.l0 k t214 s0_0 t215 t216 t207 t210) = some (r1, r2, r3, r4) := H
 have A4 := Ak A40
 clear A40
 have H' := Ak H
 clear H
 go_enter Try.func54, Try.ntmps54
 go_wp2_with (first | ((with_reducible refine gate_dst (N := 2) rfl ?_); refine box_event ?hg (N := 2) ?hd (cs := #[.slice none 0 0, .slice none 0 0]) (t := 26) ?hr ?_; (case hd => rfl); (case hg => rfl); (case hr => first | (go_simp; done) | (go_simp; rfl)); intro gb203 hg w5 hbox hb; have n0_ := Ak (IsS124.below (by repeat (first | (with_reducible first | exact HI0.out | apply IsS124.alloc | apply IsS124.drewN | apply IsS124.drew | apply IsS124.set_1 | apply IsS124.set_2) | exact HI0.out)) hb); have n1_ := Ak (KeepBut.trans (kq0 HK.out) (KeepBut.of_below hb g none) (.inl rfl)); have n2_ := Ak (below_step (bw1 HB.out (IsS124.ge HI0.out)) hb); have n3_ := Ak (hbox); have n4_ := Ak ((by rw [hg]; exact (keep_size (w := w) (g := g) (row := none) (kq0 HK.out)) : w.heap.size ≤ gb203)); have n5_ := Ak ((Nat.le_trans HW0.out (by rw [hg]; exact (keep_size (w := w) (g := g) (row := none) (kq0 HK.out)) : w.heap.size ≤ gb203) : w0.heap.size ≤ gb203)); have n6_ := Ak ((by rw [hg]; exact Nat.ne_of_lt (IsS124.lt (show IsS124 w0 _ g s0_0 s0_1 s0_2 from by repeat (first | (with_reducible first | exact HI0.out | apply IsS124.alloc | apply IsS124.drewN | apply IsS124.drew | apply IsS124.set_1 | apply IsS124.set_2) | exact HI0.out))) : g ≠ gb203)); have n7_ := Ak ((by rw [hg]; exact Nat.ne_of_gt (IsS124.lt (show IsS124 w0 _ g s0_0 s0_1 s0_2 from by repeat (first | (with_reducible first | exact HI0.out | apply IsS124.alloc | apply IsS124.drewN | apply IsS124.drew | apply IsS124.set_1 | apply IsS124.set_2) | exact HI0.out))) : gb203 ≠ g)); clear HI0; clear HK; clear HB; have HI0 := n0_; have HK := n1_; have HB := n2_; have BK203 := n3_; have GW203 := n4_; have GE203 := n5_; have NB0_203 := n6_; have NB203_0 := n7_; clear n0_ n1_ n2_ n3_ n4_ n5_ n6_ n7_; clear hb hbox hg) | ((with_reducible refine gate_callee (f := 56) rfl ?_); refine goesL_ (some 6) rfl rfl Try.func56 (by kernel_rfl) rfl #[.pointer (some ⟨g, 0, none⟩), .int .i64 6] rfl gm ?_; (with_reducible refine (spec_l1Below.calls g s0_0 s0_1 s0_2 6 t204 t205 t206 w0 _ ?side1 ?side2 A2.out).mono ?_); (case side1 => repeat (first | (with_reducible first | exact HI0.out | apply IsS124.alloc | apply IsS124.drewN | apply IsS124.drew | apply IsS124.set_1 | apply IsS124.set_2 | refine IsS124.far ?_ NB0_203.out _) | exact HI0.out)); (case side2 => repeat (first | (with_reducible first | exact HB.out | apply below_alloc | apply pw_below_drewN | apply below_drew1 | refine below_set ?_ (IsS124.ge HI0.out) | refine below_set ?_ GE203.out) | exact HB.out)); rintro e w6 ⟨rfl, hi, hb, hk⟩; refine ⟨_, rfl, ?_⟩; have n0_ := Ak (KeepBut.blk hk (g' := gb203) (o := .cells #[.slice none 0 0, .slice none 0 0] 26 (0, 0)) (bq BK203.out) NB203_0.out (by simp)); have n1_ := Ak (KeepBut.trans (kq1 HK.out GW203.out) hk (.inl rfl)); have n2_ := Ak (hb); have n3_ := Ak (hi); clear BK203; clear HK; clear HB; clear HI0; have BK203 := n0_; have HK := n1_; have HB := n2_; have HI0 := n3_; clear n0_ n1_ n2_ n3_) | ((with_reducible refine gate_callee (f := 94) rfl ?_); refine goesL_ (some 8) rfl rfl Try.func94 (by kernel_rfl) rfl #[.int .i64 (wrap64 (1 + t204))] rfl gm ?_; (with_reducible refine (spec_DiskNew.calls (wrap64 (1 + t204)) t207 t210 _ A3.out).mono ?_); rintro e w7 ⟨v208, v211, rfl, ho0, ho1, hb⟩; refine ⟨_, rfl, ?_⟩; have n0_ := Ak (Kd.R_lower ho0 (keep_size (w := w) (g := g) (row := none) (kq1 HK.out GW203.out))); have n1_ := Ak (Kd.S_lower ho1 (keep_size (w := w) (g := g) (row := none) (kq1 HK.out GW203.out))); have n2_ := Ak (IsS124.below (by repeat (first | (with_reducible first | exact HI0.out | apply IsS124.alloc | apply IsS124.drewN | apply IsS124.drew | apply IsS124.set_1 | apply IsS124.set_2 | refine IsS124.far ?_ NB0_203.out _) | exact HI0.out)) hb); have n3_ := Ak (blk_below (g := gb203) (o := .cells #[.slice none 0 0, .slice none 0 0] 26 (0, 0)) (bq BK203.out) hb); have n4_ := Ak (KeepBut.trans (kq1 HK.out GW203.out) (KeepBut.of_below hb g none) (.inl rfl)); have n5_ := Ak (below_step (bw2 HB.out (IsS124.ge HI0.out) GE203.out) hb); clear HI0; clear BK203; clear HK; clear HB; have HO209 := n0_; have HO212 := n1_; have HI0 := n2_; have BK203 := n3_; have HK := n4_; have HB := n5_; clear n0_ n1_ n2_ n3_ n4_ n5_) | ((with_reducible refine gate_dst (N := 3) rfl ?_); refine box_event ?hg (N := 3) ?hd (cs := #[.slice none 0 0, .slice none 0 0]) (t := 26) ?hr ?_; (case hd => rfl); (case hg => rfl); (case hr => first | (go_simp; done) | (go_simp; rfl)); intro gb213 hg w8 hbox hb; have n0_ := Ak (Kd.R_below (rq HO209.out) hb); have n1_ := Ak (Kd.S_below (sq HO212.out) hb); have n2_ := Ak (IsS124.below (by repeat (first | (with_reducible first | exact HI0.out | apply IsS124.alloc | apply IsS124.drewN | apply IsS124.drew | apply IsS124.set_1 | apply IsS124.set_2 | refine IsS124.far ?_ NB0_203.out _) | exact HI0.out)) hb); have n3_ := Ak (blk_below (g := gb203) (o := .cells #[.slice none 0 0, .slice none 0 0] 26 (0, 0)) (bq BK203.out) hb); have n4_ := Ak (KeepBut.trans (kq1 HK.out GW203.out) (KeepBut.of_below hb g none) (.inl rfl)); have n5_ := Ak (below_step (bw2 HB.out (IsS124.ge HI0.out) GE203.out) hb); have n6_ := Ak (hbox); have n7_ := Ak ((by rw [hg]; exact (keep_size (w := w) (g := g) (row := none) (kq1 HK.out GW203.out)) : w.heap.size ≤ gb213)); have n8_ := Ak ((Nat.le_trans HW0.out (by rw [hg]; exact (keep_size (w := w) (g := g) (row := none) (kq1 HK.out GW203.out)) : w.heap.size ≤ gb213) : w0.heap.size ≤ gb213)); have n9_ := Ak ((by rw [hg]; exact Nat.ne_of_lt (blk_lt (g := gb203) (o := .cells #[.slice none 0 0, .slice none 0 0] 26 (0, 0)) (bq BK203.out)) : gb203 ≠ gb213)); have n10_ := Ak ((by rw [hg]; exact Nat.ne_of_gt (blk_lt (g := gb203) (o := .cells #[.slice none 0 0, .slice none 0 0] 26 (0, 0)) (bq BK203.out)) : gb213 ≠ gb203)); have n11_ := Ak ((by rw [hg]; exact Nat.ne_of_lt (IsS124.lt (show IsS124 w0 _ g s0_0 t205 t206 from by repeat (first | (with_reducible first | exact HI0.out | apply IsS124.alloc | apply IsS124.drewN | apply IsS124.drew | apply IsS124.set_1 | apply IsS124.set_2 | refine IsS124.far ?_ NB0_203.out _) | exact HI0.out))) : g ≠ gb213)); have n12_ := Ak ((by rw [hg]; exact Nat.ne_of_gt (IsS124.lt (show IsS124 w0 _ g s0_0 t205 t206 from by repeat (first | (with_reducible first | exact HI0.out | apply IsS124.alloc | apply IsS124.drewN | apply IsS124.drew | apply IsS124.set_1 | apply IsS124.set_2 | refine IsS124.far ?_ NB0_203.out _) | exact HI0.out))) : gb213 ≠ g)); clear HO209; clear HO212; clear HI0; clear BK203; clear HK; clear HB; have HO209 := n0_; have HO212 := n1_; have HI0 := n2_; have BK203 := n3_; have HK := n4_; have HB := n5_; have BK213 := n6_; have GW213 := n7_; have GE213 := n8_; have NB203_213 := n9_; have NB213_203 := n10_; have NB0_213 := n11_; have NB213_0 := n12_; clear n0_ n1_ n2_ n3_ n4_ n5_ n6_ n7_ n8_ n9_ n10_ n11_ n12_; clear hb hbox hg; obtain ⟨Ao9, co9, eo9⟩ := Kd.R_slice HO209.out; subst eo9; have hnb10 := NB213_203.out; have hnc10 := NB203_213.out; have hnb11 := NB213_0.out; have hnc11 := NB0_213.out; have hcz12_0 : w8.cell? ⟨gb213, 0, none⟩ = some (.slice none 0 0) := (blk_cell BK213.out 0).trans rfl; have hcz12_1 : w8.cell? ⟨gb213, 1, none⟩ = some (.slice none 0 0) := (blk_cell BK213.out 1).trans rfl; have hfz12_0 := blk_frozen BK213.out 0; have hfz12_1 := blk_frozen BK213.out 1; obtain ⟨Ao13, co13, eo13⟩ := Kd.S_slice HO212.out; subst eo13) | ((with_reducible refine gate_callee (f := 56) rfl ?_); refine goesL_ (some 10) rfl rfl Try.func56 (by kernel_rfl) rfl #[.pointer (some ⟨g, 0, none⟩), .int .i64 6] rfl gm ?_; (with_reducible refine (spec_l1Below.calls g s0_0 t205 t206 6 t214 t215 t216 w0 _ ?side1 ?side2 A4.out).mono ?_); (case side1 => repeat (first | (with_reducible first | exact HI0.out | apply IsS124.alloc | apply IsS124.drewN | apply IsS124.drew | apply IsS124.set_1 | apply IsS124.set_2 | refine IsS124.far ?_ NB0_203.out _ | refine IsS124.far ?_ NB0_213.out _) | exact HI0.out)); (case side2 => repeat (first | (with_reducible first | exact HB.out | apply below_alloc | apply pw_below_drewN | apply below_drew1 | refine below_set ?_ (IsS124.ge HI0.out) | refine below_set ?_ GE203.out | refine below_set ?_ GE213.out) | exact HB.out)); rintro e w14 ⟨rfl, hi, hb, hk⟩; refine ⟨_, rfl, ?_⟩; have n0_ := Ak (KeepBut.blk hk (g' := gb203) (o := .cells #[.slice none 0 0, .slice none 0 0] 26 (0, 0)) (by (with_reducible repeat (first | refine blk_drewN ?_ _ | refine blk_drew ?_ | refine blk_alloc ?_ _)); refine blk_far ?_ NB203_213.out _; (with_reducible repeat (first | refine blk_drewN ?_ _ | refine blk_drew ?_ | refine blk_alloc ?_ _)); refine blk_far ?_ NB203_213.out _; (with_reducible repeat (first | refine blk_drewN ?_ _ | refine blk_drew ?_ | refine blk_alloc ?_ _)); exact BK203.out) NB203_0.out (by simp)); have n1_ := Ak (Kd.R_mono (Kd.R_keep (IsS124.apart (show IsS124 w0 _ g s0_0 t205 t206 from by repeat (first | (with_reducible first | exact HI0.out | apply IsS124.alloc | apply IsS124.drewN | apply IsS124.drew | apply IsS124.set_1 | apply IsS124.set_2 | refine IsS124.far ?_ NB0_203.out _ | refine IsS124.far ?_ NB0_213.out _) | exact HI0.out)) (by (with_reducible repeat (first | apply Kd.R_alloc | apply Kd.R_drewN | apply Kd.R_drew)); exact (Kd.R_mono (Kd.R_far (p := ⟨gb213, 1, none⟩) (Kd.R_far (p := ⟨gb213, 0, none⟩) (Kd.R_types HO209.out BK213.out (by decide)) (fun _ hk => hk.2) (.slice Ao9 t207.length co9)) (fun _ hk => hk.2) (.slice Ao13 t210.length co13)) (fun _ h_ => h_.1))) (by decide)) hk (fun _ h => h.2)) (fun _ h => h.1)); have n2_ := Ak (Kd.S_mono (Kd.S_keep (IsS124.apartS (show IsS124 w0 _ g s0_0 t205 t206 from by repeat (first | (with_reducible first | exact HI0.out | apply IsS124.alloc | apply IsS124.drewN | apply IsS124.drew | apply IsS124.set_1 | apply IsS124.set_2 | refine IsS124.far ?_ NB0_203.out _ | refine IsS124.far ?_ NB0_213.out _) | exact HI0.out)) (by (with_reducible repeat (first | apply Kd.S_alloc | apply Kd.S_drewN | apply Kd.S_drew)); exact (Kd.S_mono (Kd.S_far (p := ⟨gb213, 1, none⟩) (Kd.S_far (p := ⟨gb213, 0, none⟩) (Kd.S_types HO212.out BK213.out (by decide)) (fun _ hk => hk.2) (.slice Ao9 t207.length co9)) (fun _ hk => hk.2) (.slice Ao13 t210.length co13)) (fun _ h_ => h_.1))) (by decide)) hk (fun _ h => h.2)) (fun _ h => h.1)); have n3_ := Ak (KeepBut.blk hk (g' := gb213) (o := .cells #[.slice Ao9 t207.length co9, .slice Ao13 t210.length co13] 26 (0, 0)) (by (with_reducible repeat (first | refine blk_drewN ?_ _ | refine blk_drew ?_ | refine blk_alloc ?_ _)); refine blk_put (cs := #[.slice Ao9 t207.length co9, .slice none 0 0]) ?_ 1 _ rfl; (with_reducible repeat (first | refine blk_drewN ?_ _ | refine blk_drew ?_ | refine blk_alloc ?_ _)); refine blk_put (cs := #[.slice none 0 0, .slice none 0 0]) ?_ 0 _ rfl; (with_reducible repeat (first | refine blk_drewN ?_ _ | refine blk_drew ?_ | refine blk_alloc ?_ _)); exact BK213.out) NB213_0.out (by simp)); have n4_ := Ak (KeepBut.trans (kq2 HK.out GW203.out GW213.out) hk (.inl rfl)); have n5_ := Ak (hb); have n6_ := Ak (hi); clear BK203; clear HO209; clear HO212; clear BK213; clear HK; clear HB; clear HI0; have BK203 := n0_; have HO209 := n1_; have HO212 := n2_; have BK213 := n3_; have HK := n4_; have HB := n5_; have HI0 := n6_; clear n0_ n1_ n2_ n3_ n4_ n5_ n6_))
 go_loopg [4] k (fun kq v4 w' => ∃ (x4_1 : Int) (x1001_1 : Int) (x1002_1 : Int) (x214000_1 : List Int) (x214001_1 : List (S34)) (u214000 : Value) (u214001 : Value), v4 = .int .i64 x4_1 ∧ Aside0 (spec_l11Draw.l0 kq x4_1 s0_0 x1001_1 x1002_1 x214000_1 x214001_1 = some (r1, r2, r3, r4)) ∧ Aside0 (kq ≤ k) ∧ Aside0 (Kd.Q (Kd.int .u8) 5 w' w.heap.size (fun _ => True) u214000 x214000_1) ∧ Aside0 (Kd.S k34 34 w' w.heap.size (fun k_ => some k_ ≠ (u214000 : Value).ownBlock) u214001 x214001_1) ∧ Aside0 (w'.heap[gb203]? = some (.cells #[(.slice none 0 0), (.slice none 0 0)] 26 (0, 0))) ∧ Aside0 (w'.heap[gb213]? = some (.cells #[u214000, u214001] 26 (0, 0))) ∧ Aside0 (IsS124 w0 w' g s0_0 x1001_1 x1002_1) ∧ Aside0 (KeepBut w w' g none) ∧ Aside0 (Below w0.heap.size w0 w'))
 case atStart => exact ⟨(t214), (t215), (t216), (t207), (t210), (.slice Ao9 t207.length co9), (.slice Ao13 t210.length co13), (by first | rfl | (simp; done) | (simp [*]; done)), H', ⟨Nat.le_refl _⟩, ⟨Kd.Q_of_R (rq HO209.out)⟩, ⟨sq HO212.out⟩, ⟨bq BK203.out⟩, ⟨bq BK213.out⟩, ⟨by repeat (first | (with_reducible first | exact HI0.out | apply IsS124.alloc | apply IsS124.drewN | apply IsS124.drew | apply IsS124.set_1 | apply IsS124.set_2 | refine IsS124.far ?_ NB0_203.out _ | refine IsS124.far ?_ NB0_213.out _) | exact HI0.out)⟩, ⟨kq2 HK.out GW203.out GW213.out⟩, ⟨bw3 HB.out (IsS124.ge HI0.out) GE203.out GE213.out⟩⟩
 case round =>
  clear H'
  obtain ⟨x4_1, x1001_1, x1002_1, x214000_1, x214001_1, u214000, u214001, rfl, HA, HK1, HO_214000, HO_214001, BK203, BK213, HI0, HK, HB⟩ := hrel
  cases gk with
  | zero => exact absurd HA.out (by simp [spec_l11Draw.l0])
  | succ k1 =>
   have H := HA.out
   clear HA
   simp only [spec_l11Draw.l0] at H
   by_cases c15 : x4_1 > 0
   ·rw [if_pos c15] at H
    have c15b0 : decide (0 < x4_1) = true := decide_eq_true c15
    clear c15
    replace H := Option.bind_eq_some_iff.mp H
    obtain ⟨t217, A160, H⟩ := H
    replace H : ((spec_l1Below.f s0_0 x1001_1 x1002_1 t217).bind fun bt218 => ((spec_l1Bytes.f k1 s0_0 bt218.2.1 bt218.2.2 64).bind fun bt221 => ((spec_WriteSector.f k1 x214000_1 x214001_1 bt218.1 bt221.1).bind fun bt226 => ((spec_l1Once.f s0_0 bt221.2.1 bt221.2.2 3).bind fun bt233 => (if bt233.1 = true then ((spec_Sync.f k1 bt226.1 bt226.2.1).bind fun bt236 => (spec_l11Draw.l0 k1 (wrap64 (x4_1 - 1)) s0_0 bt233.2.1 bt233.2.2 bt236.1 bt236.2)) else (spec_l11Draw.l0 k1 (wrap64 (x4_1 - 1)) s0_0 bt233.2.1 bt233.2.2 bt226.1 bt226.2.1)))))) = some (r1, r2, r3, r4) := H
    have A16 := Ak A160
    clear A160
    replace H := Option.bind_eq_some_iff.mp H
    obtain ⟨⟨t218, t219, t220⟩, A170, H⟩ := H
    replace H : ((spec_l1Bytes.f k1 s0_0 t219 t220 64).bind fun bt221 => ((spec_WriteSector.f k1 x214000_1 x214001_1 t218 bt221.1).bind fun bt226 => ((spec_l1Once.f s0_0 bt221.2.1 bt221.2.2 3).bind fun bt233 => (if bt233.1 = true then ((spec_Sync.f k1 bt226.1 bt226.2.1).bind fun bt236 => (spec_l11Draw.l0 k1 (wrap64 (x4_1 - 1)) s0_0 bt233.2.1 bt233.2.2 bt236.1 bt236.2)) else (spec_l11Draw.l0 k1 (wrap64 (x4_1 - 1)) s0_0 bt233.2.1 bt233.2.2 bt226.1 bt226.2.1))))) = some (r1, r2, r3, r4) := H
    have A17 := Ak A170
    clear A170
    replace H := Option.bind_eq_some_iff.mp H
    obtain ⟨⟨t221, t224, t225⟩, A180, H⟩ := H
    replace H : ((spec_WriteSector.f k1 x214000_1 x214001_1 t218 t221).bind fun bt226 => ((spec_l1Once.f s0_0 t224 t225 3).bind fun bt233 => (if bt233.1 = true then ((spec_Sync.f k1 bt226.1 bt226.2.1).bind fun bt236 => (spec_l11Draw.l0 k1 (wrap64 (x4_1 - 1)) s0_0 bt233.2.1 bt233.2.2 bt236.1 bt236.2)) else (spec_l11Draw.l0 k1 (wrap64 (x4_1 - 1)) s0_0 bt233.2.1 bt233.2.2 bt226.1 bt226.2.1)))) = some (r1, r2, r3, r4) := H
    have A18 := Ak A180
    clear A180
    replace H := Option.bind_eq_some_iff.mp H
    obtain ⟨⟨t226, t229, t232⟩, A190, H⟩ := H
    replace H : ((spec_l1Once.f s0_0 t224 t225 3).bind fun bt233 => (if bt233.1 = true then ((spec_Sync.f k1 t226 t229).bind fun bt236 => (spec_l11Draw.l0 k1 (wrap64 (x4_1 - 1)) s0_0 bt233.2.1 bt233.2.2 bt236.1 bt236.2)) else (spec_l11Draw.l0 k1 (wrap64 (x4_1 - 1)) s0_0 bt233.2.1 bt233.2.2 t226 t229))) = some (r1, r2, r3, r4) := H
    have A19 := Ak A190
    clear A190
    replace H := Option.bind_eq_some_iff.mp H
    obtain ⟨⟨t233, t234, t235⟩, A200, H⟩ := H
    replace H : (if t233 = true then ((spec_Sync.f k1 t226 t229).bind fun bt236 => (spec_l11Draw.l0 k1 (wrap64 (x4_1 - 1)) s0_0 t234 t235 bt236.1 bt236.2)) else (spec_l11Draw.l0 k1 (wrap64 (x4_1 - 1)) s0_0 t234 t235 t226 t229)) = some (r1, r2, r3, r4) := H
    have A20 := Ak A200
    clear A200
    by_cases c21 : t233 = true
    ·subst c21
     have H1 : ((spec_Sync.f k1 t226 t229).bind fun bt236 => (spec_l11Draw.l0 k1 (wrap64 (x4_1 - 1)) s0_0 t234 t235 bt236.1 bt236.2)) = some (r1, r2, r3, r4) := by rw [if_pos rfl] at H; exact H
     clear H
     have H := H1
     clear H1
     replace H := Option.bind_eq_some_iff.mp H
     obtain ⟨⟨t236, t239⟩, A220, H⟩ := H
     replace H : (spec_l11Draw.l0 k1 (wrap64 (x4_1 - 1)) s0_0 t234 t235 t236 t239) = some (r1, r2, r3, r4) := H
     have A22 := Ak A220
     clear A220
     have H' := Ak H
     clear H
     try go_wp2
     have n0_ := Ak (Kd.Q_drew HO_214000.out)
     have n1_ := Ak (Kd.S_drew HO_214001.out)
     have n2_ := Ak (blk_drew BK203.out)
     have n3_ := Ak (blk_drew BK213.out)
     have n4_ := Ak (IsS124.drew HI0.out)
     have n5_ := Ak (keep_drew HK.out)
     have n6_ := Ak (below_drew1 HB.out)
     clear HO_214000
     clear HO_214001
     clear BK203
     clear BK213
     clear HI0
     clear HK
     clear HB
     have HO_214000 := n0_
     have HO_214001 := n1_
     have BK203 := n2_
     have BK213 := n3_
     have HI0 := n4_
     have HK := n5_
     have HB := n6_
     clear n0_ n1_ n2_ n3_ n4_ n5_ n6_
     obtain ⟨Ao24, co24, eo24, _⟩ := Kd.Q_slice HO_214000.out
     (first | subst eo24 | (injection eo24 with f1_ f2_ f3_; have f4_ := f1_.symm; have f5_ := f3_.symm; clear f1_ f2_ f3_; subst f4_; subst f5_))
     obtain ⟨Ao25, co25, eo25⟩ := Kd.S_slice HO_214001.out
     (first | subst eo25 | (injection eo25 with f1_ f2_ f3_; have f4_ := f1_.symm; have f5_ := f3_.symm; clear f1_ f2_ f3_; subst f4_; subst f5_))
     refine start_ (n := 12) (S := fun w' => w'.cell? ⟨gb213, 0, none⟩ = some (.slice Ao24 x214000_1.length co24) ∧ w'.cell? ⟨gb213, 1, none⟩ = some (.slice Ao25 x214001_1.length co25)) (ds := [11]) #[false, false, false, false, false, false, false, false, false, false, false, false] (by kernel_rfl) rfl rfl ⟨(blk_cell BK213.out 0).trans rfl, (blk_cell BK213.out 1).trans rfl⟩ (fun hHeld => ?_); refine with_tabW spec_l11Draw.tab5 spec_l11Draw.bits5 (fun HT_ HW_ => ?_)
     generalize wr.drew = w23 at HO_214000 HO_214001 BK203 BK213 HI0 HK HB hHeld ⊢
     refine pure_ (i := 1) (N := some 17) (v := ?_) (a' := ?_) #[false, true, false, false, false, false, false, false, false, false, false, false] rfl rfl (any_of HT_.out (by kernel_rfl)) (fun _ _ _ h => h) (Or.inl ⟨by rfl, ?_⟩) ?_ ?_
     rotate_left
     ·intro w'
      go_simp
      with_reducible rfl
     rotate_left
     ·simp only [Act.put, sT, sZ, sS, i64_w, i32_w]
      rfl
     refine pure_ (i := 5) (N := some 21) (v := ?_) (a' := ?_) #[false, true, false, false, false, true, false, false, false, false, false, false] rfl rfl (any_of HT_.out (by kernel_rfl)) (fun _ _ _ h => h) (Or.inl ⟨by rfl, ?_⟩) ?_ ?_
     rotate_left
     ·intro w'
      go_simp
      with_reducible rfl
     rotate_left
     ·simp only [Act.put, sT, sZ, sS, i64_w, i32_w]
      rfl
     refine take_ (i := 0) (N := some 16) (v := ?_) (a' := ?_) #[true, true, false, false, false, true, false, false, false, false, false, false] rfl rfl (take_ofW HT_.out HW_.out (by kernel_rfl)) (fun _ _ _ h => h) (Or.inl ⟨by rfl, ?_⟩) hHeld ?_ ?_
     rotate_left
     ·rintro w' ⟨s0, s1⟩
      go_simp
      with_reducible rfl
     rotate_left
     ·simp only [Act.put, sT, sZ, sS, i64_w, i32_w]
      rfl
     refine take_ (i := 2) (N := some 18) (v := ?_) (a' := ?_) #[true, true, true, false, false, true, false, false, false, false, false, false] rfl rfl (take_ofW HT_.out HW_.out (by kernel_rfl)) (fun _ _ _ h => h) (Or.inl ⟨by rfl, ?_⟩) hHeld ?_ ?_
     rotate_left
     ·rintro w' ⟨s0, s1⟩
      go_simp
      with_reducible rfl
     rotate_left
     ·simp only [Act.put, sT, sZ, sS, i64_w, i32_w]
      rfl
     refine one_ (i := 3) (N := some 19) #[true, true, true, true, false, true, false, false, false, false, false, false] rfl rfl (one_of HT_.out (by kernel_rfl)) (by decide) (fun K hK => ?_)
     refine goes_ Try.func58 (by kernel_rfl) rfl #[.agg #[.slice Ao24 x214000_1.length co24, .slice Ao25 x214001_1.length co25]] (by rfl) rfl rfl gm ?_
     with_reducible refine (spec_l11Many.calls _ _ x214000_1 _ _ x214001_1 t217 _ ?side1 ?side2 ?side3 ?side4 A16.out).mono ?_
     (case side1 => repeat (first | exact (Kd.Q_reads' HO_214000.out).2.2 | (with_reducible refine Kd.C_alloc ?_ _) | (with_reducible refine Kd.C_drewN ?_ _) | (with_reducible refine Kd.C_drew ?_)))
     (case side2 => exact (Kd.Q_reads' HO_214000.out).2.1)
     (case side3 => repeat (first | exact (Kd.S_reads' HO_214001.out).2.2 | (with_reducible refine Kd.C_alloc ?_ _) | (with_reducible refine Kd.C_drewN ?_ _) | (with_reducible refine Kd.C_drew ?_)))
     (case side4 => exact (Kd.S_reads' HO_214001.out).2.1)
     rintro e w26 ⟨rfl, hb⟩
     refine ⟨_, rfl, ?_⟩
     have n0_ := Ak (Kd.Q_below (qq HO_214000.out) hb)
     have n1_ := Ak (Kd.S_below (sq HO_214001.out) hb)
     have n2_ := Ak (blk_below (g := gb203) (o := .cells #[.slice none 0 0, .slice none 0 0] 26 (0, 0)) (bq BK203.out) hb)
     have n3_ := Ak (blk_below (g := gb213) (o := .cells #[.slice Ao24 x214000_1.length co24, .slice Ao25 x214001_1.length co25] 26 (0, 0)) (bq BK213.out) hb)
     have n4_ := Ak (IsS124.below (by repeat (first | (with_reducible first | exact HI0.out | apply IsS124.alloc | apply IsS124.drewN | apply IsS124.drew | apply IsS124.set_1 | apply IsS124.set_2 | refine IsS124.far ?_ NB0_203.out _ | refine IsS124.far ?_ NB0_213.out _) | exact HI0.out)) hb)
     have n5_ := Ak (KeepBut.trans (kq2 HK.out GW203.out GW213.out) (KeepBut.of_below hb g none) (.inl rfl))
     have n6_ := Ak (below_step (bw3 HB.out (IsS124.ge HI0.out) GE203.out GE213.out) hb)
     clear HO_214000
     clear HO_214001
     clear BK203
     clear BK213
     clear HI0
     clear HK
     clear HB
     have HO_214000 := n0_
     have HO_214001 := n1_
     have BK203 := n2_
     have BK213 := n3_
     have HI0 := n4_
     have HK := n5_
     have HB := n6_
     clear n0_ n1_ n2_ n3_ n4_ n5_ n6_
     refine hK.out _ _ ⟨(blk_cell BK213.out 0).trans rfl, (blk_cell BK213.out 1).trans rfl⟩ (fun hHeld => ?_)
     clear hK K
     refine norm_ (a' := ?_) ?_ ?_
     rotate_left
     ·show Act.put _ (some 19) _ = _
      simp only [Act.put, sT, sZ, sS, i64_w, i32_w]
      rfl
     refine one_ (i := 4) (N := some 20) #[true, true, true, true, true, true, false, false, false, false, false, false] rfl rfl (one_of HT_.out (by kernel_rfl)) (by decide) (fun K hK => ?_)
     refine goes_ Try.func56 (by kernel_rfl) rfl #[.pointer (some ⟨g, 0, none⟩), .int .i64 t217] (by rfl) rfl rfl gm ?_
     with_reducible refine (spec_l1Below.calls g s0_0 x1001_1 x1002_1 t217 t218 t219 t220 w0 _ ?side1 ?side2 A17.out).mono ?_
     (case side1 => repeat (first | (with_reducible first | exact HI0.out | apply IsS124.alloc | apply IsS124.drewN | apply IsS124.drew | apply IsS124.set_1 | apply IsS124.set_2 | refine IsS124.far ?_ NB0_203.out _ | refine IsS124.far ?_ NB0_213.out _) | exact HI0.out))
     (case side2 => repeat (first | (with_reducible first | exact HB.out | apply below_alloc | apply pw_below_drewN | apply below_drew1 | refine below_set ?_ (IsS124.ge HI0.out) | refine below_set ?_ GE203.out | refine below_set ?_ GE213.out) | exact HB.out))
     rintro e w27 ⟨rfl, hi, hb, hk⟩
     refine ⟨_, rfl, ?_⟩
     have n0_ := Ak (Kd.Q_mono (Kd.Q_keep (IsS124.apartQ (show IsS124 w0 _ g s0_0 x1001_1 x1002_1 from by repeat (first | (with_reducible first | exact HI0.out | apply IsS124.alloc | apply IsS124.drewN | apply IsS124.drew | apply IsS124.set_1 | apply IsS124.set_2 | refine IsS124.far ?_ NB0_203.out _ | refine IsS124.far ?_ NB0_213.out _) | exact HI0.out)) (qq HO_214000.out) (by decide)) hk (fun _ h => h.2)) (fun _ h => h.1))
     have n1_ := Ak (Kd.S_mono (Kd.S_keep (IsS124.apartS (show IsS124 w0 _ g s0_0 x1001_1 x1002_1 from by repeat (first | (with_reducible first | exact HI0.out | apply IsS124.alloc | apply IsS124.drewN | apply IsS124.drew | apply IsS124.set_1 | apply IsS124.set_2 | refine IsS124.far ?_ NB0_203.out _ | refine IsS124.far ?_ NB0_213.out _) | exact HI0.out)) (sq HO_214001.out) (by decide)) hk (fun _ h => h.2)) (fun _ h => h.1))
     have n2_ := Ak (KeepBut.blk hk (g' := gb203) (o := .cells #[.slice none 0 0, .slice none 0 0] 26 (0, 0)) (bq BK203.out) NB203_0.out (by simp))
     have n3_ := Ak (KeepBut.blk hk (g' := gb213) (o := .cells #[.slice Ao24 x214000_1.length co24, .slice Ao25 x214001_1.length co25] 26 (0, 0)) (bq BK213.out) NB213_0.out (by simp))
     have n4_ := Ak (KeepBut.trans (kq2 HK.out GW203.out GW213.out) hk (.inl rfl))
     have n5_ := Ak (hb)
     have n6_ := Ak (hi)
     clear HO_214000
     clear HO_214001
     clear BK203
     clear BK213
     clear HK
     clear HB
     clear HI0
     have HO_214000 := n0_
     have HO_214001 := n1_
     have BK203 := n2_
     have BK213 := n3_
     have HK := n4_
     have HB := n5_
     have HI0 := n6_
     clear n0_ n1_ n2_ n3_ n4_ n5_ n6_
     refine hK.out _ _ ⟨(blk_cell BK213.out 0).trans rfl, (blk_cell BK213.out 1).trans rfl⟩ (fun hHeld => ?_)
     clear hK K
     refine norm_ (a' := ?_) ?_ ?_
     rotate_left
     ·show Act.put _ (some 20) _ = _
      simp only [Act.put, sT, sZ, sS, i64_w, i32_w]
      rfl
     refine one_ (i := 6) (N := some 22) #[true, true, true, true, true, true, true, false, false, false, false, false] rfl rfl (one_of HT_.out (by kernel_rfl)) (by decide) (fun K hK => ?_)
     refine goes_ Try.func55 (by kernel_rfl) rfl #[.pointer (some ⟨g, 0, none⟩), .int .i64 64] (by rfl) rfl rfl gm ?_
     with_reducible refine (spec_l1Bytes.calls k1 g s0_0 t219 t220 64 t221 t224 t225 w0 _ ?side1 ?side2 A18.out).mono ?_
     (case side1 => repeat (first | (with_reducible first | exact HI0.out | apply IsS124.alloc | apply IsS124.drewN | apply IsS124.drew | apply IsS124.set_1 | apply IsS124.set_2 | refine IsS124.far ?_ NB0_203.out _ | refine IsS124.far ?_ NB0_213.out _) | exact HI0.out))
     (case side2 => repeat (first | (with_reducible first | exact HB.out | apply below_alloc | apply pw_below_drewN | apply below_drew1 | refine below_set ?_ (IsS124.ge HI0.out) | refine below_set ?_ GE203.out | refine below_set ?_ GE213.out) | exact HB.out))
     rintro e w28 ⟨v222, rfl, ho0, hi, hb, hk⟩
     refine ⟨_, rfl, ?_⟩
     have n0_ := Ak (Kd.Q_mono (Kd.Q_told (Kd.Q_oldK (IsS124.apartQ (show IsS124 w0 _ g s0_0 t219 t220 from by repeat (first | (with_reducible first | exact HI0.out | apply IsS124.alloc | apply IsS124.drewN | apply IsS124.drew | apply IsS124.set_1 | apply IsS124.set_2 | refine IsS124.far ?_ NB0_203.out _ | refine IsS124.far ?_ NB0_213.out _) | exact HI0.out)) (qq HO_214000.out) (by decide)) hk) (Kd.R_base ho0)) (fun _ h_ => h_.1))
     have n1_ := Ak (Kd.S_mono (Kd.S_told (Kd.S_oldK (IsS124.apartS (show IsS124 w0 _ g s0_0 t219 t220 from by repeat (first | (with_reducible first | exact HI0.out | apply IsS124.alloc | apply IsS124.drewN | apply IsS124.drew | apply IsS124.set_1 | apply IsS124.set_2 | refine IsS124.far ?_ NB0_203.out _ | refine IsS124.far ?_ NB0_213.out _) | exact HI0.out)) (sq HO_214001.out) (by decide)) hk) (Kd.R_base ho0)) (fun _ h_ => h_.1))
     have n2_ := Ak (KeepBut.blk hk (g' := gb203) (o := .cells #[.slice none 0 0, .slice none 0 0] 26 (0, 0)) (bq BK203.out) NB203_0.out (by simp))
     have n3_ := Ak (KeepBut.blk hk (g' := gb213) (o := .cells #[.slice Ao24 x214000_1.length co24, .slice Ao25 x214001_1.length co25] 26 (0, 0)) (bq BK213.out) NB213_0.out (by simp))
     have n4_ := Ak (Kd.R_lower (Kd.R_new' ho0 (Kd.Q_lt (qq HO_214000.out))) (keep_size (w := w) (g := g) (row := none) (kq2 HK.out GW203.out GW213.out)))
     have n5_ := Ak (KeepBut.trans (kq2 HK.out GW203.out GW213.out) hk (.inl rfl))
     have n6_ := Ak (hb)
     have n7_ := Ak (hi)
     clear HO_214000
     clear HO_214001
     clear BK203
     clear BK213
     clear HK
     clear HB
     clear HI0
     have HO_214000 := n0_
     have HO_214001 := n1_
     have BK203 := n2_
     have BK213 := n3_
     have HO223 := n4_
     have HK := n5_
     have HB := n6_
     have HI0 := n7_
     clear n0_ n1_ n2_ n3_ n4_ n5_ n6_ n7_
     obtain ⟨Ao29, co29, eo29⟩ := Kd.R_slice HO223.out
     (first | subst eo29 | (injection eo29 with f1_ f2_ f3_; have f4_ := f1_.symm; have f5_ := f3_.symm; clear f1_ f2_ f3_; subst f4_; subst f5_))
     refine hK.out _ _ ⟨(blk_cell BK213.out 0).trans rfl, (blk_cell BK213.out 1).trans rfl⟩ (fun hHeld => ?_)
     clear hK K
     refine norm_ (a' := ?_) ?_ ?_
     rotate_left
     ·show Act.put _ (some 22) _ = _
      simp only [Act.put, sT, sZ, sS, i64_w, i32_w]
      rfl
     refine one_ (i := 7) (N := some 23) #[true, true, true, true, true, true, true, true, false, false, false, false] rfl rfl (one_of HT_.out (by kernel_rfl)) (by decide) (fun K hK => ?_)
     refine goes_ Try.func27 (by kernel_rfl) rfl #[.agg #[.slice Ao24 x214000_1.length co24, .slice Ao25 x214001_1.length co25], .int .i64 t218, .slice Ao29 t221.length co29] (by rfl) rfl rfl gm ?_
     with_reducible refine (spec_WriteSector.calls k1 _ _ x214000_1 _ _ x214001_1 t218 _ _ t221 t226 t229 t232 _ ?side1 ?side2 ?side3 ?side4 ?side5 ?side6 A19.out).mono ?_
     (case side1 => repeat (first | exact (Kd.Q_reads' HO_214000.out).2.2 | (with_reducible refine Kd.C_alloc ?_ _) | (with_reducible refine Kd.C_drewN ?_ _) | (with_reducible refine Kd.C_drew ?_)))
     (case side2 => exact (Kd.Q_reads' HO_214000.out).2.1)
     (case side3 => repeat (first | exact (Kd.S_reads' HO_214001.out).2.2 | (with_reducible refine Kd.C_alloc ?_ _) | (with_reducible refine Kd.C_drewN ?_ _) | (with_reducible refine Kd.C_drew ?_)))
     (case side4 => exact (Kd.S_reads' HO_214001.out).2.1)
     (case side5 => repeat (first | exact (Kd.R_reads' HO223.out).2.2 | (with_reducible refine Kd.C_alloc ?_ _) | (with_reducible refine Kd.C_drewN ?_ _) | (with_reducible refine Kd.C_drew ?_)))
     (case side6 => exact (Kd.R_reads' HO223.out).2.1)
     rintro e w30 ⟨v227, v230, rfl, ho0, ho1, hb⟩
     refine ⟨_, rfl, ?_⟩
     have n0_ := Ak (Kd.Q_elder' (qq HO_214000.out) (Kd.R_base ho0) hb)
     have n1_ := Ak (Kd.S_mono (Kd.S_told (Kd.S_told (Kd.S_old (sq HO_214001.out) hb) (Kd.R_base ho0)) (Kd.S_base ho1)) (fun _ h_ => h_.1))
     have n2_ := Ak (Kd.R_elder' (rq HO223.out) (Kd.R_base ho0) hb)
     have n3_ := Ak (Kd.R_lower (Kd.R_new' (Kd.R_new' ho0 (Kd.Q_lt (qq HO_214000.out))) (Kd.R_lt (rq HO223.out))) (keep_size (w := w) (g := g) (row := none) (kq2 HK.out GW203.out GW213.out)))
     have n4_ := Ak (Kd.S_lower (Kd.S_new' (Kd.S_new' (Kd.S_new' ho1 (Kd.Q_lt (qq HO_214000.out))) (Kd.S_lt (sq HO_214001.out))) (Kd.R_lt (rq HO223.out))) (keep_size (w := w) (g := g) (row := none) (kq2 HK.out GW203.out GW213.out)))
     have n5_ := Ak (blk_below (g := gb203) (o := .cells #[.slice none 0 0, .slice none 0 0] 26 (0, 0)) (bq BK203.out) hb)
     have n6_ := Ak (blk_below (g := gb213) (o := .cells #[.slice Ao24 x214000_1.length co24, .slice Ao25 x214001_1.length co25] 26 (0, 0)) (bq BK213.out) hb)
     have n7_ := Ak (IsS124.below (by repeat (first | (with_reducible first | exact HI0.out | apply IsS124.alloc | apply IsS124.drewN | apply IsS124.drew | apply IsS124.set_1 | apply IsS124.set_2 | refine IsS124.far ?_ NB0_203.out _ | refine IsS124.far ?_ NB0_213.out _) | exact HI0.out)) hb)
     have n8_ := Ak (KeepBut.trans (kq2 HK.out GW203.out GW213.out) (KeepBut.of_below hb g none) (.inl rfl))
     have n9_ := Ak (below_step (bw3 HB.out (IsS124.ge HI0.out) GE203.out GE213.out) hb)
     clear HO_214000
     clear HO_214001
     clear HO223
     clear BK203
     clear BK213
     clear HI0
     clear HK
     clear HB
     have HO_214000 := n0_
     have HO_214001 := n1_
     have HO223 := n2_
     have HO228 := n3_
     have HO231 := n4_
     have BK203 := n5_
     have BK213 := n6_
     have HI0 := n7_
     have HK := n8_
     have HB := n9_
     clear n0_ n1_ n2_ n3_ n4_ n5_ n6_ n7_ n8_ n9_
     obtain ⟨Ao31, co31, eo31⟩ := Kd.R_slice HO228.out
     (first | subst eo31 | (injection eo31 with f1_ f2_ f3_; have f4_ := f1_.symm; have f5_ := f3_.symm; clear f1_ f2_ f3_; subst f4_; subst f5_))
     obtain ⟨Ao33, co33, eo33⟩ := Kd.S_slice HO231.out
     (first | subst eo33 | (injection eo33 with f1_ f2_ f3_; have f4_ := f1_.symm; have f5_ := f3_.symm; clear f1_ f2_ f3_; subst f4_; subst f5_))
     refine hK.out _ _ ⟨(blk_cell BK213.out 0).trans rfl, (blk_cell BK213.out 1).trans rfl⟩ (fun hHeld => ?_)
     clear hK K
     refine norm_ (a' := ?_) ?_ ?_
     rotate_left
     ·show Act.put _ (some 23) _ = _
      simp only [Act.put, sT, sZ, sS, i64_w, i32_w]
      rfl
     refine pure_ (i := 8) (N := some 15) (v := ?_) (a' := ?_) #[true, true, true, true, true, true, true, true, true, false, false, false] rfl rfl (any_of HT_.out (by kernel_rfl)) (fun _ _ _ h => h) (Or.inl ⟨by rfl, ?_⟩) ?_ ?_
     rotate_left
     ·intro w'
      go_simp
      with_reducible rfl
     rotate_left
     ·simp only [Act.put, sT, sZ, sS, i64_w, i32_w]
      rfl
     refine pure_ (i := 9) (N := some 24) (v := ?_) (a' := ?_) #[true, true, true, true, true, true, true, true, true, true, false, false] rfl rfl (any_of HT_.out (by kernel_rfl)) (fun _ _ _ h => h) (Or.inl ⟨by rfl, ?_⟩) ?_ ?_
     rotate_left
     ·intro w'
      go_simp
      with_reducible rfl
     rotate_left
     ·simp only [Act.put, sT, sZ, sS, i64_w, i32_w]
      rfl
     refine pure_ (i := 10) (N := some 25) (v := ?_) (a' := ?_) #[true, true, true, true, true, true, true, true, true, true, true, false] rfl rfl (any_of HT_.out (by kernel_rfl)) (fun _ _ _ h => h) (Or.inl ⟨by rfl, ?_⟩) ?_ ?_
     rotate_left
     ·intro w'
      go_simp
      with_reducible rfl
     rotate_left
     ·simp only [Act.put, sT, sZ, sS, i64_w, i32_w]
      rfl
     refine last_ (i := 11) (N := none) #[true, true, true, true, true, true, true, true, true, true, true, true] rfl rfl (one_of HT_.out (by kernel_rfl)) (by decide) (fun K hK => ?_)
     have hs32 : w30.cell? ⟨gb213, 0, none⟩ = some (.slice Ao24 x214000_1.length co24) := (blk_cell BK213.out 0).trans rfl
     have hfs32 := blk_frozen BK213.out 0
     have hns32_0 := NB203_213.out
     have hms32_0 := NB213_203.out
     have hs34 : w30.cell? ⟨gb213, 1, none⟩ = some (.slice Ao25 x214001_1.length co25) := (blk_cell BK213.out 1).trans rfl
     have hfs34 := blk_frozen BK213.out 1
     have hns34_0 := NB203_213.out
     have hms34_0 := NB213_203.out
     refine skip_ (w1 := ?_) (by rfl) rfl ?_ ?_
     rotate_left
     ·go_simp
      rfl
     refine hK.out _ _ ?_
     clear hK K
     refine done_ (done_of HT_.out (by kernel_rfl)) ?_
     try go_wp2_with (first | ((with_reducible refine gate_callee (f := 85) rfl ?_); refine goesL_ (some 27) rfl rfl Try.func85 (by kernel_rfl) rfl #[.pointer (some ⟨g, 0, none⟩), .int .i64 3] rfl gm ?_; (with_reducible refine (spec_l1Once.calls g s0_0 t224 t225 3 true t234 t235 w0 _ ?side1 ?side2 A20.out).mono ?_); (case side1 => repeat (first | (with_reducible first | exact HI0.out | apply IsS124.alloc | apply IsS124.drewN | apply IsS124.drew | apply IsS124.set_1 | apply IsS124.set_2 | refine IsS124.far ?_ NB0_203.out _ | refine IsS124.far ?_ NB0_213.out _) | exact HI0.out)); (case side2 => repeat (first | (with_reducible first | exact HB.out | apply below_alloc | apply pw_below_drewN | apply below_drew1 | refine below_set ?_ (IsS124.ge HI0.out) | refine below_set ?_ GE203.out | refine below_set ?_ GE213.out) | exact HB.out)); rintro e w35 ⟨rfl, hi, hb, hk⟩; refine ⟨_, rfl, ?_⟩; have n0_ := Ak (Kd.Q_mono (Kd.Q_keep (IsS124.apartQ (show IsS124 w0 _ g s0_0 t224 t225 from by repeat (first | (with_reducible first | exact HI0.out | apply IsS124.alloc | apply IsS124.drewN | apply IsS124.drew | apply IsS124.set_1 | apply IsS124.set_2 | refine IsS124.far ?_ NB0_203.out _ | refine IsS124.far ?_ NB0_213.out _) | exact HI0.out)) (by (with_reducible repeat (first | apply Kd.Q_alloc | apply Kd.Q_drewN | apply Kd.Q_drew)); exact (Kd.Q_mono (Kd.Q_far (p := ⟨gb213, 1, none⟩) (Kd.Q_far (p := ⟨gb213, 0, none⟩) (Kd.Q_types HO_214000.out BK213.out (by decide)) (fun _ hk => hk.2) (.slice Ao31 t226.length co31)) (fun _ hk => hk.2) (.slice Ao33 t229.length co33)) (fun _ h_ => h_.1))) (by decide)) hk (fun _ h => h.2)) (fun _ h => h.1)); have n1_ := Ak (Kd.S_mono (Kd.S_keep (IsS124.apartS (show IsS124 w0 _ g s0_0 t224 t225 from by repeat (first | (with_reducible first | exact HI0.out | apply IsS124.alloc | apply IsS124.drewN | apply IsS124.drew | apply IsS124.set_1 | apply IsS124.set_2 | refine IsS124.far ?_ NB0_203.out _ | refine IsS124.far ?_ NB0_213.out _) | exact HI0.out)) (by (with_reducible repeat (first | apply Kd.S_alloc | apply Kd.S_drewN | apply Kd.S_drew)); exact (Kd.S_mono (Kd.S_far (p := ⟨gb213, 1, none⟩) (Kd.S_far (p := ⟨gb213, 0, none⟩) (Kd.S_types HO_214001.out BK213.out (by decide)) (fun _ hk => hk.2) (.slice Ao31 t226.length co31)) (fun _ hk => hk.2) (.slice Ao33 t229.length co33)) (fun _ h_ => h_.1))) (by decide)) hk (fun _ h => h.2)) (fun _ h => h.1)); have n2_ := Ak (KeepBut.blk hk (g' := gb203) (o := .cells #[.slice none 0 0, .slice none 0 0] 26 (0, 0)) (by (with_reducible repeat (first | refine blk_drewN ?_ _ | refine blk_drew ?_ | refine blk_alloc ?_ _)); refine blk_far ?_ NB203_213.out _; (with_reducible repeat (first | refine blk_drewN ?_ _ | refine blk_drew ?_ | refine blk_alloc ?_ _)); refine blk_far ?_ NB203_213.out _; (with_reducible repeat (first | refine blk_drewN ?_ _ | refine blk_drew ?_ | refine blk_alloc ?_ _)); exact BK203.out) NB203_0.out (by simp)); have n3_ := Ak (KeepBut.blk hk (g' := gb213) (o := .cells #[.slice Ao31 t226.length co31, .slice Ao33 t229.length co33] 26 (0, 0)) (by (with_reducible repeat (first | refine blk_drewN ?_ _ | refine blk_drew ?_ | refine blk_alloc ?_ _)); refine blk_put (cs := #[.slice Ao31 t226.length co31, .slice Ao25 x214001_1.length co25]) ?_ 1 _ rfl; (with_reducible repeat (first | refine blk_drewN ?_ _ | refine blk_drew ?_ | refine blk_alloc ?_ _)); refine blk_put (cs := #[.slice Ao24 x214000_1.length co24, .slice Ao25 x214001_1.length co25]) ?_ 0 _ rfl; (with_reducible repeat (first | refine blk_drewN ?_ _ | refine blk_drew ?_ | refine blk_alloc ?_ _)); exact BK213.out) NB213_0.out (by simp)); have n4_ := Ak (Kd.R_mono (Kd.R_keep (IsS124.apart (show IsS124 w0 _ g s0_0 t224 t225 from by repeat (first | (with_reducible first | exact HI0.out | apply IsS124.alloc | apply IsS124.drewN | apply IsS124.drew | apply IsS124.set_1 | apply IsS124.set_2 | refine IsS124.far ?_ NB0_203.out _ | refine IsS124.far ?_ NB0_213.out _) | exact HI0.out)) (by (with_reducible repeat (first | apply Kd.R_alloc | apply Kd.R_drewN | apply Kd.R_drew)); exact (Kd.R_mono (Kd.R_far (p := ⟨gb213, 1, none⟩) (Kd.R_far (p := ⟨gb213, 0, none⟩) (Kd.R_types HO223.out BK213.out (by decide)) (fun _ hk => hk.2) (.slice Ao31 t226.length co31)) (fun _ hk => hk.2) (.slice Ao33 t229.length co33)) (fun _ h_ => h_.1))) (by decide)) hk (fun _ h => h.2)) (fun _ h => h.1)); have n5_ := Ak (Kd.R_mono (Kd.R_keep (IsS124.apart (show IsS124 w0 _ g s0_0 t224 t225 from by repeat (first | (with_reducible first | exact HI0.out | apply IsS124.alloc | apply IsS124.drewN | apply IsS124.drew | apply IsS124.set_1 | apply IsS124.set_2 | refine IsS124.far ?_ NB0_203.out _ | refine IsS124.far ?_ NB0_213.out _) | exact HI0.out)) (by (with_reducible repeat (first | apply Kd.R_alloc | apply Kd.R_drewN | apply Kd.R_drew)); exact (Kd.R_mono (Kd.R_far (p := ⟨gb213, 1, none⟩) (Kd.R_far (p := ⟨gb213, 0, none⟩) (Kd.R_types HO228.out BK213.out (by decide)) (fun _ hk => hk.2) (.slice Ao31 t226.length co31)) (fun _ hk => hk.2) (.slice Ao33 t229.length co33)) (fun _ h_ => h_.1))) (by decide)) hk (fun _ h => h.2)) (fun _ h => h.1)); have n6_ := Ak (Kd.S_mono (Kd.S_keep (IsS124.apartS (show IsS124 w0 _ g s0_0 t224 t225 from by repeat (first | (with_reducible first | exact HI0.out | apply IsS124.alloc | apply IsS124.drewN | apply IsS124.drew | apply IsS124.set_1 | apply IsS124.set_2 | refine IsS124.far ?_ NB0_203.out _ | refine IsS124.far ?_ NB0_213.out _) | exact HI0.out)) (by (with_reducible repeat (first | apply Kd.S_alloc | apply Kd.S_drewN | apply Kd.S_drew)); exact (Kd.S_mono (Kd.S_far (p := ⟨gb213, 1, none⟩) (Kd.S_far (p := ⟨gb213, 0, none⟩) (Kd.S_types HO231.out BK213.out (by decide)) (fun _ hk => hk.2) (.slice Ao31 t226.length co31)) (fun _ hk => hk.2) (.slice Ao33 t229.length co33)) (fun _ h_ => h_.1))) (by decide)) hk (fun _ h => h.2)) (fun _ h => h.1)); have n7_ := Ak (KeepBut.trans (kq2 HK.out GW203.out GW213.out) hk (.inl rfl)); have n8_ := Ak (hb); have n9_ := Ak (hi); clear HO_214000; clear HO_214001; clear BK203; clear BK213; clear HO223; clear HO228; clear HO231; clear HK; clear HB; clear HI0; have HO_214000 := n0_; have HO_214001 := n1_; have BK203 := n2_; have BK213 := n3_; have HO223 := n4_; have HO228 := n5_; have HO231 := n6_; have HK := n7_; have HB := n8_; have HI0 := n9_; clear n0_ n1_ n2_ n3_ n4_ n5_ n6_ n7_ n8_ n9_; have hnb36 := NB213_203.out; have hnc36 := NB203_213.out; have hnb37 := NB213_0.out; have hnc37 := NB0_213.out; have hcz38_0 : w35.cell? ⟨gb213, 0, none⟩ = some (.slice Ao31 t226.length co31) := (blk_cell BK213.out 0).trans rfl; have hcz38_1 : w35.cell? ⟨gb213, 1, none⟩ = some (.slice Ao33 t229.length co33) := (blk_cell BK213.out 1).trans rfl; have hfz38_0 := blk_frozen BK213.out 0; have hfz38_1 := blk_frozen BK213.out 1) | ((with_reducible refine gate_callee (f := 31) rfl ?_); refine goesL_ (some 29) rfl rfl Try.func31 (by kernel_rfl) rfl #[.agg #[.slice Ao31 t226.length co31, .slice Ao33 t229.length co33]] rfl gm ?_; (with_reducible refine (spec_Sync.calls k1 _ _ t226 _ _ t229 t236 t239 _ ?side1 ?side2 ?side3 ?side4 A22.out).mono ?_); (case side1 => repeat (first | exact (Kd.R_reads' HO228.out).2.2 | (with_reducible refine Kd.C_alloc ?_ _) | (with_reducible refine Kd.C_drewN ?_ _) | (with_reducible refine Kd.C_drew ?_))); (case side2 => exact (Kd.R_reads' HO228.out).2.1); (case side3 => repeat (first | exact (Kd.S_reads' HO231.out).2.2 | (with_reducible refine Kd.C_alloc ?_ _) | (with_reducible refine Kd.C_drewN ?_ _) | (with_reducible refine Kd.C_drew ?_))); (case side4 => exact (Kd.S_reads' HO231.out).2.1); rintro e w39 ⟨v237, v240, rfl, ho0, ho1, hb⟩; refine ⟨_, rfl, ?_⟩; have n0_ := Ak (Kd.Q_elder' (qq HO_214000.out) (Kd.R_base ho0) hb); have n1_ := Ak (Kd.S_mono (Kd.S_told (Kd.S_told (Kd.S_old (sq HO_214001.out) hb) (Kd.R_base ho0)) (Kd.S_base ho1)) (fun _ h_ => h_.1)); have n2_ := Ak (Kd.R_elder' (rq HO223.out) (Kd.R_base ho0) hb); have n3_ := Ak (Kd.R_elder' (rq HO228.out) (Kd.R_base ho0) hb); have n4_ := Ak (Kd.S_mono (Kd.S_told (Kd.S_told (Kd.S_old (sq HO231.out) hb) (Kd.R_base ho0)) (Kd.S_base ho1)) (fun _ h_ => h_.1)); have n5_ := Ak (Kd.R_lower (Kd.R_new' (Kd.R_new' (Kd.R_new' ho0 (Kd.Q_lt (qq HO_214000.out))) (Kd.R_lt (rq HO223.out))) (Kd.R_lt (rq HO228.out))) (keep_size (w := w) (g := g) (row := none) (kq2 HK.out GW203.out GW213.out))); have n6_ := Ak (Kd.S_lower (Kd.S_new' (Kd.S_new' (Kd.S_new' (Kd.S_new' (Kd.S_new' ho1 (Kd.Q_lt (qq HO_214000.out))) (Kd.S_lt (sq HO_214001.out))) (Kd.R_lt (rq HO223.out))) (Kd.R_lt (rq HO228.out))) (Kd.S_lt (sq HO231.out))) (keep_size (w := w) (g := g) (row := none) (kq2 HK.out GW203.out GW213.out))); have n7_ := Ak (blk_below (g := gb203) (o := .cells #[.slice none 0 0, .slice none 0 0] 26 (0, 0)) (bq BK203.out) hb); have n8_ := Ak (blk_below (g := gb213) (o := .cells #[.slice Ao31 t226.length co31, .slice Ao33 t229.length co33] 26 (0, 0)) (bq BK213.out) hb); have n9_ := Ak (IsS124.below (by repeat (first | (with_reducible first | exact HI0.out | apply IsS124.alloc | apply IsS124.drewN | apply IsS124.drew | apply IsS124.set_1 | apply IsS124.set_2 | refine IsS124.far ?_ NB0_203.out _ | refine IsS124.far ?_ NB0_213.out _) | exact HI0.out)) hb); have n10_ := Ak (KeepBut.trans (kq2 HK.out GW203.out GW213.out) (KeepBut.of_below hb g none) (.inl rfl)); have n11_ := Ak (below_step (bw3 HB.out (IsS124.ge HI0.out) GE203.out GE213.out) hb); clear HO_214000; clear HO_214001; clear HO223; clear HO228; clear HO231; clear BK203; clear BK213; clear HI0; clear HK; clear HB; have HO_214000 := n0_; have HO_214001 := n1_; have HO223 := n2_; have HO228 := n3_; have HO231 := n4_; have HO238 := n5_; have HO241 := n6_; have BK203 := n7_; have BK213 := n8_; have HI0 := n9_; have HK := n10_; have HB := n11_; clear n0_ n1_ n2_ n3_ n4_ n5_ n6_ n7_ n8_ n9_ n10_ n11_; obtain ⟨Ao40, co40, eo40⟩ := Kd.R_slice HO238.out; subst eo40; have hcz41_0 : w39.cell? ⟨gb213, 0, none⟩ = some (.slice Ao31 t226.length co31) := (blk_cell BK213.out 0).trans rfl; have hcz41_1 : w39.cell? ⟨gb213, 1, none⟩ = some (.slice Ao33 t229.length co33) := (blk_cell BK213.out 1).trans rfl; have hfz41_0 := blk_frozen BK213.out 0; have hfz41_1 := blk_frozen BK213.out 1; obtain ⟨Ao42, co42, eo42⟩ := Kd.S_slice HO241.out; subst eo42))
     go_roundg k1
     case measure => have := HK1.out; omega
     case rel => exact ⟨(wrap64 (x4_1 - 1)), (t234), (t235), (t236), (t239), (.slice Ao40 t236.length co40), (.slice Ao42 t239.length co42), (by first | rfl | (simp; done) | (simp [*]; done)), H', ⟨by have := HK1.out; omega⟩, ⟨Kd.Q_of_R (by (with_reducible repeat (first | apply Kd.R_alloc | apply Kd.R_drewN | apply Kd.R_drew)); exact Kd.R_mono (Kd.R_far (p := ⟨gb213, 1, none⟩) (Kd.R_far (p := ⟨gb213, 0, none⟩) (Kd.R_types HO238.out BK213.out (by decide)) (fun _ hk => hk.2) (.slice Ao40 t236.length co40)) (fun _ hk => hk.2) (.slice Ao42 t239.length co42)) (fun _ hk => trivial))⟩, ⟨by (with_reducible repeat (first | apply Kd.S_alloc | apply Kd.S_drewN | apply Kd.S_drew)); exact Kd.S_mono (Kd.S_far (p := ⟨gb213, 1, none⟩) (Kd.S_far (p := ⟨gb213, 0, none⟩) (Kd.S_types HO241.out BK213.out (by decide)) (fun _ hk => hk.2) (.slice Ao40 t236.length co40)) (fun _ hk => hk.2) (.slice Ao42 t239.length co42)) (fun _ hk => hk.1.1.1.1.1.1)⟩, ⟨by (with_reducible repeat (first | refine blk_drewN ?_ _ | refine blk_drew ?_ | refine blk_alloc ?_ _)); refine blk_far ?_ NB203_213.out _; (with_reducible repeat (first | refine blk_drewN ?_ _ | refine blk_drew ?_ | refine blk_alloc ?_ _)); refine blk_far ?_ NB203_213.out _; (with_reducible repeat (first | refine blk_drewN ?_ _ | refine blk_drew ?_ | refine blk_alloc ?_ _)); exact BK203.out⟩, ⟨by (with_reducible repeat (first | refine blk_drewN ?_ _ | refine blk_drew ?_ | refine blk_alloc ?_ _)); refine blk_put (cs := #[.slice Ao40 t236.length co40, .slice Ao33 t229.length co33]) ?_ 1 _ rfl; (with_reducible repeat (first | refine blk_drewN ?_ _ | refine blk_drew ?_ | refine blk_alloc ?_ _)); refine blk_put (cs := #[.slice Ao31 t226.length co31, .slice Ao33 t229.length co33]) ?_ 0 _ rfl; (with_reducible repeat (first | refine blk_drewN ?_ _ | refine blk_drew ?_ | refine blk_alloc ?_ _)); exact BK213.out⟩, ⟨by repeat (first | (with_reducible first | exact HI0.out | apply IsS124.alloc | apply IsS124.drewN | apply IsS124.drew | apply IsS124.set_1 | apply IsS124.set_2 | refine IsS124.far ?_ NB0_203.out _ | refine IsS124.far ?_ NB0_213.out _) | exact HI0.out)⟩, ⟨kq2 HK.out GW203.out GW213.out⟩, ⟨bw3 HB.out (IsS124.ge HI0.out) GE203.out GE213.out⟩⟩
    ·replace c21 := Bool.eq_false_iff.mpr c21
     subst c21
     have H1 : (spec_l11Draw.l0 k1 (wrap64 (x4_1 - 1)) s0_0 t234 t235 t226 t229) = some (r1, r2, r3, r4) := by rw [if_neg (show ¬ (false = true) by decide)] at H; exact H
     clear H
     have H := H1
     clear H1
     have H' := Ak H
     clear H
     try go_wp2
     have n0_ := Ak (Kd.Q_drew HO_214000.out)
     have n1_ := Ak (Kd.S_drew HO_214001.out)
     have n2_ := Ak (blk_drew BK203.out)
     have n3_ := Ak (blk_drew BK213.out)
     have n4_ := Ak (IsS124.drew HI0.out)
     have n5_ := Ak (keep_drew HK.out)
     have n6_ := Ak (below_drew1 HB.out)
     clear HO_214000
     clear HO_214001
     clear BK203
     clear BK213
     clear HI0
     clear HK
     clear HB
     have HO_214000 := n0_
     have HO_214001 := n1_
     have BK203 := n2_
     have BK213 := n3_
     have HI0 := n4_
     have HK := n5_
     have HB := n6_
     clear n0_ n1_ n2_ n3_ n4_ n5_ n6_
     obtain ⟨Ao44, co44, eo44, _⟩ := Kd.Q_slice HO_214000.out
     (first | subst eo44 | (injection eo44 with f1_ f2_ f3_; have f4_ := f1_.symm; have f5_ := f3_.symm; clear f1_ f2_ f3_; subst f4_; subst f5_))
     obtain ⟨Ao45, co45, eo45⟩ := Kd.S_slice HO_214001.out
     (first | subst eo45 | (injection eo45 with f1_ f2_ f3_; have f4_ := f1_.symm; have f5_ := f3_.symm; clear f1_ f2_ f3_; subst f4_; subst f5_))
     refine start_ (n := 12) (S := fun w' => w'.cell? ⟨gb213, 0, none⟩ = some (.slice Ao44 x214000_1.length co44) ∧ w'.cell? ⟨gb213, 1, none⟩ = some (.slice Ao45 x214001_1.length co45)) (ds := [11]) #[false, false, false, false, false, false, false, false, false, false, false, false] (by kernel_rfl) rfl rfl ⟨(blk_cell BK213.out 0).trans rfl, (blk_cell BK213.out 1).trans rfl⟩ (fun hHeld => ?_); refine with_tabW spec_l11Draw.tab5 spec_l11Draw.bits5 (fun HT_ HW_ => ?_)
     generalize wr.drew = w43 at HO_214000 HO_214001 BK203 BK213 HI0 HK HB hHeld ⊢
     refine pure_ (i := 1) (N := some 17) (v := ?_) (a' := ?_) #[false, true, false, false, false, false, false, false, false, false, false, false] rfl rfl (any_of HT_.out (by kernel_rfl)) (fun _ _ _ h => h) (Or.inl ⟨by rfl, ?_⟩) ?_ ?_
     rotate_left
     ·intro w'
      go_simp
      with_reducible rfl
     rotate_left
     ·simp only [Act.put, sT, sZ, sS, i64_w, i32_w]
      rfl
     refine pure_ (i := 5) (N := some 21) (v := ?_) (a' := ?_) #[false, true, false, false, false, true, false, false, false, false, false, false] rfl rfl (any_of HT_.out (by kernel_rfl)) (fun _ _ _ h => h) (Or.inl ⟨by rfl, ?_⟩) ?_ ?_
     rotate_left
     ·intro w'
      go_simp
      with_reducible rfl
     rotate_left
     ·simp only [Act.put, sT, sZ, sS, i64_w, i32_w]
      rfl
     refine take_ (i := 0) (N := some 16) (v := ?_) (a' := ?_) #[true, true, false, false, false, true, false, false, false, false, false, false] rfl rfl (take_ofW HT_.out HW_.out (by kernel_rfl)) (fun _ _ _ h => h) (Or.inl ⟨by rfl, ?_⟩) hHeld ?_ ?_
     rotate_left
     ·rintro w' ⟨s0, s1⟩
      go_simp
      with_reducible rfl
     rotate_left
     ·simp only [Act.put, sT, sZ, sS, i64_w, i32_w]
      rfl
     refine take_ (i := 2) (N := some 18) (v := ?_) (a' := ?_) #[true, true, true, false, false, true, false, false, false, false, false, false] rfl rfl (take_ofW HT_.out HW_.out (by kernel_rfl)) (fun _ _ _ h => h) (Or.inl ⟨by rfl, ?_⟩) hHeld ?_ ?_
     rotate_left
     ·rintro w' ⟨s0, s1⟩
      go_simp
      with_reducible rfl
     rotate_left
     ·simp only [Act.put, sT, sZ, sS, i64_w, i32_w]
      rfl
     refine one_ (i := 3) (N := some 19) #[true, true, true, true, false, true, false, false, false, false, false, false] rfl rfl (one_of HT_.out (by kernel_rfl)) (by decide) (fun K hK => ?_)
     refine goes_ Try.func58 (by kernel_rfl) rfl #[.agg #[.slice Ao44 x214000_1.length co44, .slice Ao45 x214001_1.length co45]] (by rfl) rfl rfl gm ?_
     with_reducible refine (spec_l11Many.calls _ _ x214000_1 _ _ x214001_1 t217 _ ?side1 ?side2 ?side3 ?side4 A16.out).mono ?_
     (case side1 => repeat (first | exact (Kd.Q_reads' HO_214000.out).2.2 | (with_reducible refine Kd.C_alloc ?_ _) | (with_reducible refine Kd.C_drewN ?_ _) | (with_reducible refine Kd.C_drew ?_)))
     (case side2 => exact (Kd.Q_reads' HO_214000.out).2.1)
     (case side3 => repeat (first | exact (Kd.S_reads' HO_214001.out).2.2 | (with_reducible refine Kd.C_alloc ?_ _) | (with_reducible refine Kd.C_drewN ?_ _) | (with_reducible refine Kd.C_drew ?_)))
     (case side4 => exact (Kd.S_reads' HO_214001.out).2.1)
     rintro e w46 ⟨rfl, hb⟩
     refine ⟨_, rfl, ?_⟩
     have n0_ := Ak (Kd.Q_below (qq HO_214000.out) hb)
     have n1_ := Ak (Kd.S_below (sq HO_214001.out) hb)
     have n2_ := Ak (blk_below (g := gb203) (o := .cells #[.slice none 0 0, .slice none 0 0] 26 (0, 0)) (bq BK203.out) hb)
     have n3_ := Ak (blk_below (g := gb213) (o := .cells #[.slice Ao44 x214000_1.length co44, .slice Ao45 x214001_1.length co45] 26 (0, 0)) (bq BK213.out) hb)
     have n4_ := Ak (IsS124.below (by repeat (first | (with_reducible first | exact HI0.out | apply IsS124.alloc | apply IsS124.drewN | apply IsS124.drew | apply IsS124.set_1 | apply IsS124.set_2 | refine IsS124.far ?_ NB0_203.out _ | refine IsS124.far ?_ NB0_213.out _) | exact HI0.out)) hb)
     have n5_ := Ak (KeepBut.trans (kq2 HK.out GW203.out GW213.out) (KeepBut.of_below hb g none) (.inl rfl))
     have n6_ := Ak (below_step (bw3 HB.out (IsS124.ge HI0.out) GE203.out GE213.out) hb)
     clear HO_214000
     clear HO_214001
     clear BK203
     clear BK213
     clear HI0
     clear HK
     clear HB
     have HO_214000 := n0_
     have HO_214001 := n1_
     have BK203 := n2_
     have BK213 := n3_
     have HI0 := n4_
     have HK := n5_
     have HB := n6_
     clear n0_ n1_ n2_ n3_ n4_ n5_ n6_
     refine hK.out _ _ ⟨(blk_cell BK213.out 0).trans rfl, (blk_cell BK213.out 1).trans rfl⟩ (fun hHeld => ?_)
     clear hK K
     refine norm_ (a' := ?_) ?_ ?_
     rotate_left
     ·show Act.put _ (some 19) _ = _
      simp only [Act.put, sT, sZ, sS, i64_w, i32_w]
      rfl
     refine one_ (i := 4) (N := some 20) #[true, true, true, true, true, true, false, false, false, false, false, false] rfl rfl (one_of HT_.out (by kernel_rfl)) (by decide) (fun K hK => ?_)
     refine goes_ Try.func56 (by kernel_rfl) rfl #[.pointer (some ⟨g, 0, none⟩), .int .i64 t217] (by rfl) rfl rfl gm ?_
     with_reducible refine (spec_l1Below.calls g s0_0 x1001_1 x1002_1 t217 t218 t219 t220 w0 _ ?side1 ?side2 A17.out).mono ?_
     (case side1 => repeat (first | (with_reducible first | exact HI0.out | apply IsS124.alloc | apply IsS124.drewN | apply IsS124.drew | apply IsS124.set_1 | apply IsS124.set_2 | refine IsS124.far ?_ NB0_203.out _ | refine IsS124.far ?_ NB0_213.out _) | exact HI0.out))
     (case side2 => repeat (first | (with_reducible first | exact HB.out | apply below_alloc | apply pw_below_drewN | apply below_drew1 | refine below_set ?_ (IsS124.ge HI0.out) | refine below_set ?_ GE203.out | refine below_set ?_ GE213.out) | exact HB.out))
     rintro e w47 ⟨rfl, hi, hb, hk⟩
     refine ⟨_, rfl, ?_⟩
     have n0_ := Ak (Kd.Q_mono (Kd.Q_keep (IsS124.apartQ (show IsS124 w0 _ g s0_0 x1001_1 x1002_1 from by repeat (first | (with_reducible first | exact HI0.out | apply IsS124.alloc | apply IsS124.drewN | apply IsS124.drew | apply IsS124.set_1 | apply IsS124.set_2 | refine IsS124.far ?_ NB0_203.out _ | refine IsS124.far ?_ NB0_213.out _) | exact HI0.out)) (qq HO_214000.out) (by decide)) hk (fun _ h => h.2)) (fun _ h => h.1))
     have n1_ := Ak (Kd.S_mono (Kd.S_keep (IsS124.apartS (show IsS124 w0 _ g s0_0 x1001_1 x1002_1 from by repeat (first | (with_reducible first | exact HI0.out | apply IsS124.alloc | apply IsS124.drewN | apply IsS124.drew | apply IsS124.set_1 | apply IsS124.set_2 | refine IsS124.far ?_ NB0_203.out _ | refine IsS124.far ?_ NB0_213.out _) | exact HI0.out)) (sq HO_214001.out) (by decide)) hk (fun _ h => h.2)) (fun _ h => h.1))
     have n2_ := Ak (KeepBut.blk hk (g' := gb203) (o := .cells #[.slice none 0 0, .slice none 0 0] 26 (0, 0)) (bq BK203.out) NB203_0.out (by simp))
     have n3_ := Ak (KeepBut.blk hk (g' := gb213) (o := .cells #[.slice Ao44 x214000_1.length co44, .slice Ao45 x214001_1.length co45] 26 (0, 0)) (bq BK213.out) NB213_0.out (by simp))
     have n4_ := Ak (KeepBut.trans (kq2 HK.out GW203.out GW213.out) hk (.inl rfl))
     have n5_ := Ak (hb)
     have n6_ := Ak (hi)
     clear HO_214000
     clear HO_214001
     clear BK203
     clear BK213
     clear HK
     clear HB
     clear HI0
     have HO_214000 := n0_
     have HO_214001 := n1_
     have BK203 := n2_
     have BK213 := n3_
     have HK := n4_
     have HB := n5_
     have HI0 := n6_
     clear n0_ n1_ n2_ n3_ n4_ n5_ n6_
     refine hK.out _ _ ⟨(blk_cell BK213.out 0).trans rfl, (blk_cell BK213.out 1).trans rfl⟩ (fun hHeld => ?_)
     clear hK K
     refine norm_ (a' := ?_) ?_ ?_
     rotate_left
     ·show Act.put _ (some 20) _ = _
      simp only [Act.put, sT, sZ, sS, i64_w, i32_w]
      rfl
     refine one_ (i := 6) (N := some 22) #[true, true, true, true, true, true, true, false, false, false, false, false] rfl rfl (one_of HT_.out (by kernel_rfl)) (by decide) (fun K hK => ?_)
     refine goes_ Try.func55 (by kernel_rfl) rfl #[.pointer (some ⟨g, 0, none⟩), .int .i64 64] (by rfl) rfl rfl gm ?_
     with_reducible refine (spec_l1Bytes.calls k1 g s0_0 t219 t220 64 t221 t224 t225 w0 _ ?side1 ?side2 A18.out).mono ?_
     (case side1 => repeat (first | (with_reducible first | exact HI0.out | apply IsS124.alloc | apply IsS124.drewN | apply IsS124.drew | apply IsS124.set_1 | apply IsS124.set_2 | refine IsS124.far ?_ NB0_203.out _ | refine IsS124.far ?_ NB0_213.out _) | exact HI0.out))
     (case side2 => repeat (first | (with_reducible first | exact HB.out | apply below_alloc | apply pw_below_drewN | apply below_drew1 | refine below_set ?_ (IsS124.ge HI0.out) | refine below_set ?_ GE203.out | refine below_set ?_ GE213.out) | exact HB.out))
     rintro e w48 ⟨v222, rfl, ho0, hi, hb, hk⟩
     refine ⟨_, rfl, ?_⟩
     have n0_ := Ak (Kd.Q_mono (Kd.Q_told (Kd.Q_oldK (IsS124.apartQ (show IsS124 w0 _ g s0_0 t219 t220 from by repeat (first | (with_reducible first | exact HI0.out | apply IsS124.alloc | apply IsS124.drewN | apply IsS124.drew | apply IsS124.set_1 | apply IsS124.set_2 | refine IsS124.far ?_ NB0_203.out _ | refine IsS124.far ?_ NB0_213.out _) | exact HI0.out)) (qq HO_214000.out) (by decide)) hk) (Kd.R_base ho0)) (fun _ h_ => h_.1))
     have n1_ := Ak (Kd.S_mono (Kd.S_told (Kd.S_oldK (IsS124.apartS (show IsS124 w0 _ g s0_0 t219 t220 from by repeat (first | (with_reducible first | exact HI0.out | apply IsS124.alloc | apply IsS124.drewN | apply IsS124.drew | apply IsS124.set_1 | apply IsS124.set_2 | refine IsS124.far ?_ NB0_203.out _ | refine IsS124.far ?_ NB0_213.out _) | exact HI0.out)) (sq HO_214001.out) (by decide)) hk) (Kd.R_base ho0)) (fun _ h_ => h_.1))
     have n2_ := Ak (KeepBut.blk hk (g' := gb203) (o := .cells #[.slice none 0 0, .slice none 0 0] 26 (0, 0)) (bq BK203.out) NB203_0.out (by simp))
     have n3_ := Ak (KeepBut.blk hk (g' := gb213) (o := .cells #[.slice Ao44 x214000_1.length co44, .slice Ao45 x214001_1.length co45] 26 (0, 0)) (bq BK213.out) NB213_0.out (by simp))
     have n4_ := Ak (Kd.R_lower (Kd.R_new' ho0 (Kd.Q_lt (qq HO_214000.out))) (keep_size (w := w) (g := g) (row := none) (kq2 HK.out GW203.out GW213.out)))
     have n5_ := Ak (KeepBut.trans (kq2 HK.out GW203.out GW213.out) hk (.inl rfl))
     have n6_ := Ak (hb)
     have n7_ := Ak (hi)
     clear HO_214000
     clear HO_214001
     clear BK203
     clear BK213
     clear HK
     clear HB
     clear HI0
     have HO_214000 := n0_
     have HO_214001 := n1_
     have BK203 := n2_
     have BK213 := n3_
     have HO223 := n4_
     have HK := n5_
     have HB := n6_
     have HI0 := n7_
     clear n0_ n1_ n2_ n3_ n4_ n5_ n6_ n7_
     obtain ⟨Ao49, co49, eo49⟩ := Kd.R_slice HO223.out
     (first | subst eo49 | (injection eo49 with f1_ f2_ f3_; have f4_ := f1_.symm; have f5_ := f3_.symm; clear f1_ f2_ f3_; subst f4_; subst f5_))
     refine hK.out _ _ ⟨(blk_cell BK213.out 0).trans rfl, (blk_cell BK213.out 1).trans rfl⟩ (fun hHeld => ?_)
     clear hK K
     refine norm_ (a' := ?_) ?_ ?_
     rotate_left
     ·show Act.put _ (some 22) _ = _
      simp only [Act.put, sT, sZ, sS, i64_w, i32_w]
      rfl
     refine one_ (i := 7) (N := some 23) #[true, true, true, true, true, true, true, true, false, false, false, false] rfl rfl (one_of HT_.out (by kernel_rfl)) (by decide) (fun K hK => ?_)
     refine goes_ Try.func27 (by kernel_rfl) rfl #[.agg #[.slice Ao44 x214000_1.length co44, .slice Ao45 x214001_1.length co45], .int .i64 t218, .slice Ao49 t221.length co49] (by rfl) rfl rfl gm ?_
     with_reducible refine (spec_WriteSector.calls k1 _ _ x214000_1 _ _ x214001_1 t218 _ _ t221 t226 t229 t232 _ ?side1 ?side2 ?side3 ?side4 ?side5 ?side6 A19.out).mono ?_
     (case side1 => repeat (first | exact (Kd.Q_reads' HO_214000.out).2.2 | (with_reducible refine Kd.C_alloc ?_ _) | (with_reducible refine Kd.C_drewN ?_ _) | (with_reducible refine Kd.C_drew ?_)))
     (case side2 => exact (Kd.Q_reads' HO_214000.out).2.1)
     (case side3 => repeat (first | exact (Kd.S_reads' HO_214001.out).2.2 | (with_reducible refine Kd.C_alloc ?_ _) | (with_reducible refine Kd.C_drewN ?_ _) | (with_reducible refine Kd.C_drew ?_)))
     (case side4 => exact (Kd.S_reads' HO_214001.out).2.1)
     (case side5 => repeat (first | exact (Kd.R_reads' HO223.out).2.2 | (with_reducible refine Kd.C_alloc ?_ _) | (with_reducible refine Kd.C_drewN ?_ _) | (with_reducible refine Kd.C_drew ?_)))
     (case side6 => exact (Kd.R_reads' HO223.out).2.1)
     rintro e w50 ⟨v227, v230, rfl, ho0, ho1, hb⟩
     refine ⟨_, rfl, ?_⟩
     have n0_ := Ak (Kd.Q_elder' (qq HO_214000.out) (Kd.R_base ho0) hb)
     have n1_ := Ak (Kd.S_mono (Kd.S_told (Kd.S_told (Kd.S_old (sq HO_214001.out) hb) (Kd.R_base ho0)) (Kd.S_base ho1)) (fun _ h_ => h_.1))
     have n2_ := Ak (Kd.R_elder' (rq HO223.out) (Kd.R_base ho0) hb)
     have n3_ := Ak (Kd.R_lower (Kd.R_new' (Kd.R_new' ho0 (Kd.Q_lt (qq HO_214000.out))) (Kd.R_lt (rq HO223.out))) (keep_size (w := w) (g := g) (row := none) (kq2 HK.out GW203.out GW213.out)))
     have n4_ := Ak (Kd.S_lower (Kd.S_new' (Kd.S_new' (Kd.S_new' ho1 (Kd.Q_lt (qq HO_214000.out))) (Kd.S_lt (sq HO_214001.out))) (Kd.R_lt (rq HO223.out))) (keep_size (w := w) (g := g) (row := none) (kq2 HK.out GW203.out GW213.out)))
     have n5_ := Ak (blk_below (g := gb203) (o := .cells #[.slice none 0 0, .slice none 0 0] 26 (0, 0)) (bq BK203.out) hb)
     have n6_ := Ak (blk_below (g := gb213) (o := .cells #[.slice Ao44 x214000_1.length co44, .slice Ao45 x214001_1.length co45] 26 (0, 0)) (bq BK213.out) hb)
     have n7_ := Ak (IsS124.below (by repeat (first | (with_reducible first | exact HI0.out | apply IsS124.alloc | apply IsS124.drewN | apply IsS124.drew | apply IsS124.set_1 | apply IsS124.set_2 | refine IsS124.far ?_ NB0_203.out _ | refine IsS124.far ?_ NB0_213.out _) | exact HI0.out)) hb)
     have n8_ := Ak (KeepBut.trans (kq2 HK.out GW203.out GW213.out) (KeepBut.of_below hb g none) (.inl rfl))
     have n9_ := Ak (below_step (bw3 HB.out (IsS124.ge HI0.out) GE203.out GE213.out) hb)
     clear HO_214000
     clear HO_214001
     clear HO223
     clear BK203
     clear BK213
     clear HI0
     clear HK
     clear HB
     have HO_214000 := n0_
     have HO_214001 := n1_
     have HO223 := n2_
     have HO228 := n3_
     have HO231 := n4_
     have BK203 := n5_
     have BK213 := n6_
     have HI0 := n7_
     have HK := n8_
     have HB := n9_
     clear n0_ n1_ n2_ n3_ n4_ n5_ n6_ n7_ n8_ n9_
     obtain ⟨Ao51, co51, eo51⟩ := Kd.R_slice HO228.out
     (first | subst eo51 | (injection eo51 with f1_ f2_ f3_; have f4_ := f1_.symm; have f5_ := f3_.symm; clear f1_ f2_ f3_; subst f4_; subst f5_))
     obtain ⟨Ao53, co53, eo53⟩ := Kd.S_slice HO231.out
     (first | subst eo53 | (injection eo53 with f1_ f2_ f3_; have f4_ := f1_.symm; have f5_ := f3_.symm; clear f1_ f2_ f3_; subst f4_; subst f5_))
     refine hK.out _ _ ⟨(blk_cell BK213.out 0).trans rfl, (blk_cell BK213.out 1).trans rfl⟩ (fun hHeld => ?_)
     clear hK K
     refine norm_ (a' := ?_) ?_ ?_
     rotate_left
     ·show Act.put _ (some 23) _ = _
      simp only [Act.put, sT, sZ, sS, i64_w, i32_w]
      rfl
     refine pure_ (i := 8) (N := some 15) (v := ?_) (a' := ?_) #[true, true, true, true, true, true, true, true, true, false, false, false] rfl rfl (any_of HT_.out (by kernel_rfl)) (fun _ _ _ h => h) (Or.inl ⟨by rfl, ?_⟩) ?_ ?_
     rotate_left
     ·intro w'
      go_simp
      with_reducible rfl
     rotate_left
     ·simp only [Act.put, sT, sZ, sS, i64_w, i32_w]
      rfl
     refine pure_ (i := 9) (N := some 24) (v := ?_) (a' := ?_) #[true, true, true, true, true, true, true, true, true, true, false, false] rfl rfl (any_of HT_.out (by kernel_rfl)) (fun _ _ _ h => h) (Or.inl ⟨by rfl, ?_⟩) ?_ ?_
     rotate_left
     ·intro w'
      go_simp
      with_reducible rfl
     rotate_left
     ·simp only [Act.put, sT, sZ, sS, i64_w, i32_w]
      rfl
     refine pure_ (i := 10) (N := some 25) (v := ?_) (a' := ?_) #[true, true, true, true, true, true, true, true, true, true, true, false] rfl rfl (any_of HT_.out (by kernel_rfl)) (fun _ _ _ h => h) (Or.inl ⟨by rfl, ?_⟩) ?_ ?_
     rotate_left
     ·intro w'
      go_simp
      with_reducible rfl
     rotate_left
     ·simp only [Act.put, sT, sZ, sS, i64_w, i32_w]
      rfl
     refine last_ (i := 11) (N := none) #[true, true, true, true, true, true, true, true, true, true, true, true] rfl rfl (one_of HT_.out (by kernel_rfl)) (by decide) (fun K hK => ?_)
     have hs52 : w50.cell? ⟨gb213, 0, none⟩ = some (.slice Ao44 x214000_1.length co44) := (blk_cell BK213.out 0).trans rfl
     have hfs52 := blk_frozen BK213.out 0
     have hns52_0 := NB203_213.out
     have hms52_0 := NB213_203.out
     have hs54 : w50.cell? ⟨gb213, 1, none⟩ = some (.slice Ao45 x214001_1.length co45) := (blk_cell BK213.out 1).trans rfl
     have hfs54 := blk_frozen BK213.out 1
     have hns54_0 := NB203_213.out
     have hms54_0 := NB213_203.out
     refine skip_ (w1 := ?_) (by rfl) rfl ?_ ?_
     rotate_left
     ·go_simp
      rfl
     refine hK.out _ _ ?_
     clear hK K
     refine done_ (done_of HT_.out (by kernel_rfl)) ?_
     try go_wp2_with (first | ((with_reducible refine gate_callee (f := 85) rfl ?_); refine goesL_ (some 27) rfl rfl Try.func85 (by kernel_rfl) rfl #[.pointer (some ⟨g, 0, none⟩), .int .i64 3] rfl gm ?_; (with_reducible refine (spec_l1Once.calls g s0_0 t224 t225 3 false t234 t235 w0 _ ?side1 ?side2 A20.out).mono ?_); (case side1 => repeat (first | (with_reducible first | exact HI0.out | apply IsS124.alloc | apply IsS124.drewN | apply IsS124.drew | apply IsS124.set_1 | apply IsS124.set_2 | refine IsS124.far ?_ NB0_203.out _ | refine IsS124.far ?_ NB0_213.out _) | exact HI0.out)); (case side2 => repeat (first | (with_reducible first | exact HB.out | apply below_alloc | apply pw_below_drewN | apply below_drew1 | refine below_set ?_ (IsS124.ge HI0.out) | refine below_set ?_ GE203.out | refine below_set ?_ GE213.out) | exact HB.out)); rintro e w55 ⟨rfl, hi, hb, hk⟩; refine ⟨_, rfl, ?_⟩; have n0_ := Ak (Kd.Q_mono (Kd.Q_keep (IsS124.apartQ (show IsS124 w0 _ g s0_0 t224 t225 from by repeat (first | (with_reducible first | exact HI0.out | apply IsS124.alloc | apply IsS124.drewN | apply IsS124.drew | apply IsS124.set_1 | apply IsS124.set_2 | refine IsS124.far ?_ NB0_203.out _ | refine IsS124.far ?_ NB0_213.out _) | exact HI0.out)) (by (with_reducible repeat (first | apply Kd.Q_alloc | apply Kd.Q_drewN | apply Kd.Q_drew)); exact (Kd.Q_mono (Kd.Q_far (p := ⟨gb213, 1, none⟩) (Kd.Q_far (p := ⟨gb213, 0, none⟩) (Kd.Q_types HO_214000.out BK213.out (by decide)) (fun _ hk => hk.2) (.slice Ao51 t226.length co51)) (fun _ hk => hk.2) (.slice Ao53 t229.length co53)) (fun _ h_ => h_.1))) (by decide)) hk (fun _ h => h.2)) (fun _ h => h.1)); have n1_ := Ak (Kd.S_mono (Kd.S_keep (IsS124.apartS (show IsS124 w0 _ g s0_0 t224 t225 from by repeat (first | (with_reducible first | exact HI0.out | apply IsS124.alloc | apply IsS124.drewN | apply IsS124.drew | apply IsS124.set_1 | apply IsS124.set_2 | refine IsS124.far ?_ NB0_203.out _ | refine IsS124.far ?_ NB0_213.out _) | exact HI0.out)) (by (with_reducible repeat (first | apply Kd.S_alloc | apply Kd.S_drewN | apply Kd.S_drew)); exact (Kd.S_mono (Kd.S_far (p := ⟨gb213, 1, none⟩) (Kd.S_far (p := ⟨gb213, 0, none⟩) (Kd.S_types HO_214001.out BK213.out (by decide)) (fun _ hk => hk.2) (.slice Ao51 t226.length co51)) (fun _ hk => hk.2) (.slice Ao53 t229.length co53)) (fun _ h_ => h_.1))) (by decide)) hk (fun _ h => h.2)) (fun _ h => h.1)); have n2_ := Ak (KeepBut.blk hk (g' := gb203) (o := .cells #[.slice none 0 0, .slice none 0 0] 26 (0, 0)) (by (with_reducible repeat (first | refine blk_drewN ?_ _ | refine blk_drew ?_ | refine blk_alloc ?_ _)); refine blk_far ?_ NB203_213.out _; (with_reducible repeat (first | refine blk_drewN ?_ _ | refine blk_drew ?_ | refine blk_alloc ?_ _)); refine blk_far ?_ NB203_213.out _; (with_reducible repeat (first | refine blk_drewN ?_ _ | refine blk_drew ?_ | refine blk_alloc ?_ _)); exact BK203.out) NB203_0.out (by simp)); have n3_ := Ak (KeepBut.blk hk (g' := gb213) (o := .cells #[.slice Ao51 t226.length co51, .slice Ao53 t229.length co53] 26 (0, 0)) (by (with_reducible repeat (first | refine blk_drewN ?_ _ | refine blk_drew ?_ | refine blk_alloc ?_ _)); refine blk_put (cs := #[.slice Ao51 t226.length co51, .slice Ao45 x214001_1.length co45]) ?_ 1 _ rfl; (with_reducible repeat (first | refine blk_drewN ?_ _ | refine blk_drew ?_ | refine blk_alloc ?_ _)); refine blk_put (cs := #[.slice Ao44 x214000_1.length co44, .slice Ao45 x214001_1.length co45]) ?_ 0 _ rfl; (with_reducible repeat (first | refine blk_drewN ?_ _ | refine blk_drew ?_ | refine blk_alloc ?_ _)); exact BK213.out) NB213_0.out (by simp)); have n4_ := Ak (Kd.R_mono (Kd.R_keep (IsS124.apart (show IsS124 w0 _ g s0_0 t224 t225 from by repeat (first | (with_reducible first | exact HI0.out | apply IsS124.alloc | apply IsS124.drewN | apply IsS124.drew | apply IsS124.set_1 | apply IsS124.set_2 | refine IsS124.far ?_ NB0_203.out _ | refine IsS124.far ?_ NB0_213.out _) | exact HI0.out)) (by (with_reducible repeat (first | apply Kd.R_alloc | apply Kd.R_drewN | apply Kd.R_drew)); exact (Kd.R_mono (Kd.R_far (p := ⟨gb213, 1, none⟩) (Kd.R_far (p := ⟨gb213, 0, none⟩) (Kd.R_types HO223.out BK213.out (by decide)) (fun _ hk => hk.2) (.slice Ao51 t226.length co51)) (fun _ hk => hk.2) (.slice Ao53 t229.length co53)) (fun _ h_ => h_.1))) (by decide)) hk (fun _ h => h.2)) (fun _ h => h.1)); have n5_ := Ak (Kd.R_mono (Kd.R_keep (IsS124.apart (show IsS124 w0 _ g s0_0 t224 t225 from by repeat (first | (with_reducible first | exact HI0.out | apply IsS124.alloc | apply IsS124.drewN | apply IsS124.drew | apply IsS124.set_1 | apply IsS124.set_2 | refine IsS124.far ?_ NB0_203.out _ | refine IsS124.far ?_ NB0_213.out _) | exact HI0.out)) (by (with_reducible repeat (first | apply Kd.R_alloc | apply Kd.R_drewN | apply Kd.R_drew)); exact (Kd.R_mono (Kd.R_far (p := ⟨gb213, 1, none⟩) (Kd.R_far (p := ⟨gb213, 0, none⟩) (Kd.R_types HO228.out BK213.out (by decide)) (fun _ hk => hk.2) (.slice Ao51 t226.length co51)) (fun _ hk => hk.2) (.slice Ao53 t229.length co53)) (fun _ h_ => h_.1))) (by decide)) hk (fun _ h => h.2)) (fun _ h => h.1)); have n6_ := Ak (Kd.S_mono (Kd.S_keep (IsS124.apartS (show IsS124 w0 _ g s0_0 t224 t225 from by repeat (first | (with_reducible first | exact HI0.out | apply IsS124.alloc | apply IsS124.drewN | apply IsS124.drew | apply IsS124.set_1 | apply IsS124.set_2 | refine IsS124.far ?_ NB0_203.out _ | refine IsS124.far ?_ NB0_213.out _) | exact HI0.out)) (by (with_reducible repeat (first | apply Kd.S_alloc | apply Kd.S_drewN | apply Kd.S_drew)); exact (Kd.S_mono (Kd.S_far (p := ⟨gb213, 1, none⟩) (Kd.S_far (p := ⟨gb213, 0, none⟩) (Kd.S_types HO231.out BK213.out (by decide)) (fun _ hk => hk.2) (.slice Ao51 t226.length co51)) (fun _ hk => hk.2) (.slice Ao53 t229.length co53)) (fun _ h_ => h_.1))) (by decide)) hk (fun _ h => h.2)) (fun _ h => h.1)); have n7_ := Ak (KeepBut.trans (kq2 HK.out GW203.out GW213.out) hk (.inl rfl)); have n8_ := Ak (hb); have n9_ := Ak (hi); clear HO_214000; clear HO_214001; clear BK203; clear BK213; clear HO223; clear HO228; clear HO231; clear HK; clear HB; clear HI0; have HO_214000 := n0_; have HO_214001 := n1_; have BK203 := n2_; have BK213 := n3_; have HO223 := n4_; have HO228 := n5_; have HO231 := n6_; have HK := n7_; have HB := n8_; have HI0 := n9_; clear n0_ n1_ n2_ n3_ n4_ n5_ n6_ n7_ n8_ n9_))
     go_roundg k1
     case measure => have := HK1.out; omega
     case rel => exact ⟨(wrap64 (x4_1 - 1)), (t234), (t235), (t226), (t229), (.slice Ao51 t226.length co51), (.slice Ao53 t229.length co53), (by first | rfl | (simp; done) | (simp [*]; done)), H', ⟨by have := HK1.out; omega⟩, ⟨Kd.Q_of_R (by (with_reducible repeat (first | apply Kd.R_alloc | apply Kd.R_drewN | apply Kd.R_drew)); exact Kd.R_mono HO228.out (fun _ hk => trivial))⟩, ⟨by (with_reducible repeat (first | apply Kd.S_alloc | apply Kd.S_drewN | apply Kd.S_drew)); exact Kd.S_mono HO231.out (fun _ hk => hk.1.1.1)⟩, ⟨bq BK203.out⟩, ⟨bq BK213.out⟩, ⟨by repeat (first | (with_reducible first | exact HI0.out | apply IsS124.alloc | apply IsS124.drewN | apply IsS124.drew | apply IsS124.set_1 | apply IsS124.set_2 | refine IsS124.far ?_ NB0_203.out _ | refine IsS124.far ?_ NB0_213.out _) | exact HI0.out)⟩, ⟨kq2 HK.out GW203.out GW213.out⟩, ⟨bw3 HB.out (IsS124.ge HI0.out) GE203.out GE213.out⟩⟩
   ·rw [if_neg c15] at H
    have c15b0 : decide (0 < x4_1) = false := decide_eq_false c15
    clear c15
    replace H := Option.bind_eq_some_iff.mp H
    obtain ⟨⟨t242, t243, t244⟩, A560, H⟩ := H
    replace H : (if t242 = 0 then (if 1 ≤ (x214000_1.length : Int) then (some ((x214000_1.drop (1 : Int).toNat), x214001_1, t243, t244)) else (none)) else (if t242 = 1 then ((spec_l1Int.f s0_0 t243 t244 (([(-1), 0, 9] : List Int))).bind fun bt251 => ((spec_l1Int.f s0_0 bt251.2.1 bt251.2.2 (([64, 63] : List Int))).bind fun bt257 => ((spec_l1Bytes.f k1 s0_0 bt257.2.1 bt257.2.2 bt257.1).bind fun bt260 => (if x214001_1.length < 4398046511104 then (some (x214000_1, (x214001_1 ++ [(⟨bt251.1, bt260.1⟩ : S34)]), bt260.2.1, bt260.2.2)) else (none))))) else (if t242 = 2 then (some (([] : List Int), ([] : List (S34)), t243, t244)) else (some (x214000_1, x214001_1, t243, t244))))) = some (r1, r2, r3, r4) := H
    have A56 := Ak A560
    clear A560
    by_cases c57 : t242 = 0
    ·rw [if_pos c57] at H
     have c57b0 : (t242 == 0) = true := beq_iff_eq.mpr c57
     have c57b1 : (t242 != 0) = false := bne_eq_false_iff_eq.mpr c57
     clear c57
     by_cases c58 : 1 ≤ (x214000_1.length : Int)
     ·rw [if_pos c58] at H
      have c58b0 := eq_true c58
      have c58b1 : decide (1 ≤ (x214000_1.length : Int)) = true := decide_eq_true c58
      clear c58
      obtain ⟨y245, hy245⟩ : ∃ y_ : List Int, y_ = (x214000_1.drop (1 : Int).toNat) := ⟨_, rfl⟩
      replace H : (some (y245, x214001_1, t243, t244)) = some (r1, r2, r3, r4) := by first | (rw [hy245]; with_reducible exact H) | (have H2_ := (Option.bind_some _ _).symm.trans H; rw [hy245]; with_reducible exact H2_) | (have H2_ := (Option.bind_some _ _).symm.trans H; with_reducible exact H2_) | with_reducible exact H | (rw [hy245]; exact H) | exact H
      have Ny245 := Ak hy245
      clear hy245
      simp only [Option.some.injEq, Prod.mk.injEq] at H
      obtain ⟨rfl, rfl, rfl, rfl⟩ := H
      go_wp2_with (first | ((with_reducible refine gate_callee (f := 56) rfl ?_); refine goesL_ (some 31) rfl rfl Try.func56 (by kernel_rfl) rfl #[.pointer (some ⟨g, 0, none⟩), .int .i64 20] rfl gm ?_; (with_reducible refine (spec_l1Below.calls g s0_0 x1001_1 x1002_1 20 t242 t243 t244 w0 _ ?side1 ?side2 A56.out).mono ?_); (case side1 => repeat (first | (with_reducible first | exact HI0.out | apply IsS124.alloc | apply IsS124.drewN | apply IsS124.drew | apply IsS124.set_1 | apply IsS124.set_2 | refine IsS124.far ?_ NB0_203.out _ | refine IsS124.far ?_ NB0_213.out _) | exact HI0.out)); (case side2 => repeat (first | (with_reducible first | exact HB.out | apply below_alloc | apply pw_below_drewN | apply below_drew1 | refine below_set ?_ (IsS124.ge HI0.out) | refine below_set ?_ GE203.out | refine below_set ?_ GE213.out) | exact HB.out)); rintro e w59 ⟨rfl, hi, hb, hk⟩; refine ⟨_, rfl, ?_⟩; have n0_ := Ak (Kd.Q_mono (Kd.Q_keep (IsS124.apartQ (show IsS124 w0 _ g s0_0 x1001_1 x1002_1 from by repeat (first | (with_reducible first | exact HI0.out | apply IsS124.alloc | apply IsS124.drewN | apply IsS124.drew | apply IsS124.set_1 | apply IsS124.set_2 | refine IsS124.far ?_ NB0_203.out _ | refine IsS124.far ?_ NB0_213.out _) | exact HI0.out)) (qq HO_214000.out) (by decide)) hk (fun _ h => h.2)) (fun _ h => h.1)); have n1_ := Ak (Kd.S_mono (Kd.S_keep (IsS124.apartS (show IsS124 w0 _ g s0_0 x1001_1 x1002_1 from by repeat (first | (with_reducible first | exact HI0.out | apply IsS124.alloc | apply IsS124.drewN | apply IsS124.drew | apply IsS124.set_1 | apply IsS124.set_2 | refine IsS124.far ?_ NB0_203.out _ | refine IsS124.far ?_ NB0_213.out _) | exact HI0.out)) (sq HO_214001.out) (by decide)) hk (fun _ h => h.2)) (fun _ h => h.1)); have n2_ := Ak (KeepBut.blk hk (g' := gb203) (o := .cells #[.slice none 0 0, .slice none 0 0] 26 (0, 0)) (bq BK203.out) NB203_0.out (by simp)); have n3_ := Ak (KeepBut.blk hk (g' := gb213) (o := .cells #[u214000, u214001] 26 (0, 0)) (bq BK213.out) NB213_0.out (by simp)); have n4_ := Ak (KeepBut.trans (kq2 HK.out GW203.out GW213.out) hk (.inl rfl)); have n5_ := Ak (hb); have n6_ := Ak (hi); clear HO_214000; clear HO_214001; clear BK203; clear BK213; clear HK; clear HB; clear HI0; have HO_214000 := n0_; have HO_214001 := n1_; have BK203 := n2_; have BK213 := n3_; have HK := n4_; have HB := n5_; have HI0 := n6_; clear n0_ n1_ n2_ n3_ n4_ n5_ n6_; have hnb60 := NB213_203.out; have hnc60 := NB203_213.out; have hnb61 := NB213_0.out; have hnc61 := NB0_213.out; have hcz62_0 : w59.cell? ⟨gb213, 0, none⟩ = some (u214000) := (blk_cell BK213.out 0).trans rfl; have hcz62_1 : w59.cell? ⟨gb213, 1, none⟩ = some (u214001) := (blk_cell BK213.out 1).trans rfl; have hfz62_0 := blk_frozen BK213.out 0; have hfz62_1 := blk_frozen BK213.out 1; obtain ⟨Ao63, co63, eo63, _⟩ := Kd.Q_slice HO_214000.out; subst eo63; have q64 : (1 : Int) ≤ ((x214000_1.length : Int) : Int) := of_decide_eq_true (by first | (with_reducible assumption) | assumption); obtain ⟨i064, hi064, _, hsz64, _⟩ := info_parts info5; have hcut64 := cut_from (P := Try.prog) 22 5 .i64 Try.underlying22 hi064 1 hsz64 Ao63 x214000_1.length co63 1 (by omega) q64; have hr64 := Kd.Q_drop (k := (1 : Int).toNat) HO_214000.out (by omega); obtain ⟨A64, hA64⟩ : ∃ A1, A1 = (if co63 = (1 : Int).toNat then Ao63 else (Ao63 : Option Addr).map (·.add ((1 : Int).toNat * 1))) := ⟨_, rfl⟩; obtain ⟨c64, hc64⟩ : ∃ c1, c1 = co63 - (1 : Int).toNat := ⟨_, rfl⟩; have hy64 : y245.length = x214000_1.length - (1 : Int).toNat := (by rw [Ny245.out, List.length_drop]); rw [← Ny245.out] at hr64; rw [← hy64, ← hA64, ← hc64] at hcut64; replace hr64 : Kd.Q (Kd.int .u8) 5 w59 w.heap.size (fun _ => True) (.slice A64 y245.length c64) y245 := (by rw [hA64, hc64, hy64]; exact hr64); have HE64 : Aside0 ((Value.slice A64 y245.length c64).ownBlock = (.slice Ao63 x214000_1.length co63 : Value).ownBlock) := ⟨by rw [hA64]; split <;> (cases (Ao63 : Option Addr) <;> rfl)⟩; clear hy64 hi064 hsz64 HO_214000 hA64 hc64; have HO247 := Ak hr64; clear hr64; replace q64 := eq_true q64; have n_ := Ak (Kd.S_mono (ok' := fun k_ => some k_ ≠ (.slice A64 y245.length c64 : Value).ownBlock) HO_214001.out (fun k_ hk => (by rw [HE64.out]; exact hk))); clear HO_214001; have HO_214001 := n_; clear n_; have hnb65 := NB203_0.out; have hnc65 := NB0_203.out; have hcz66_0 : w59.cell? ⟨gb203, 0, none⟩ = some (.slice none 0 0) := (blk_cell BK203.out 0).trans rfl; have hcz66_1 : w59.cell? ⟨gb203, 1, none⟩ = some (.slice none 0 0) := (blk_cell BK203.out 1).trans rfl; have hfz66_0 := blk_frozen BK203.out 0; have hfz66_1 := blk_frozen BK203.out 1; obtain ⟨Ao67, co67, eo67⟩ := Kd.S_slice HO_214001.out; subst eo67))
      refine bodyPost_ret (results_cell_row rfl _ _ gb203 26 #[.slice A64 y245.length c64, .slice Ao67 x214001_1.length co67] (0, 0) _ rfl (by (with_reducible repeat (first | refine blk_drewN ?_ _ | refine blk_drew ?_ | refine blk_alloc ?_ _)); refine blk_put (cs := #[.slice A64 y245.length c64, .slice none 0 0]) ?_ 1 _ rfl; (with_reducible repeat (first | refine blk_drewN ?_ _ | refine blk_drew ?_ | refine blk_alloc ?_ _)); refine blk_put (cs := #[.slice none 0 0, .slice none 0 0]) ?_ 0 _ rfl; (with_reducible repeat (first | refine blk_drewN ?_ _ | refine blk_drew ?_ | refine blk_alloc ?_ _)); refine blk_far ?_ NB203_213.out _; (with_reducible repeat (first | refine blk_drewN ?_ _ | refine blk_drew ?_ | refine blk_alloc ?_ _)); exact BK203.out) Try.underlying26 rfl (by kernel_rfl)) rfl ?_
      exact ⟨_, _, by first | rfl | (simp [errW_none, errW_some] <;> rfl) | (simp [*, errW_none, errW_some] <;> rfl), by (with_reducible repeat (first | apply Kd.Q_alloc | apply Kd.Q_drewN | apply Kd.Q_drew)); exact Kd.Q_mono (Kd.Q_far (p := ⟨gb203, 1, none⟩) (Kd.Q_far (p := ⟨gb203, 0, none⟩) (Kd.Q_far (p := ⟨gb213, 0, none⟩) (Kd.Q_types (Kd.Q_types HO247.out BK213.out (by decide)) BK203.out (by decide)) (fun _ hk => hk.1.2) (.slice A64 y245.length c64)) (fun _ hk => hk.2) (.slice A64 y245.length c64)) (fun _ hk => hk.2) (.slice Ao67 x214001_1.length co67)) (fun _ hk => trivial), by (with_reducible repeat (first | apply Kd.S_alloc | apply Kd.S_drewN | apply Kd.S_drew)); exact Kd.S_mono (Kd.S_far (p := ⟨gb203, 1, none⟩) (Kd.S_far (p := ⟨gb203, 0, none⟩) (Kd.S_far (p := ⟨gb213, 0, none⟩) (Kd.S_types (Kd.S_types HO_214001.out BK213.out (by decide)) BK203.out (by decide)) (fun _ hk => hk.1.2) (.slice A64 y245.length c64)) (fun _ hk => hk.2) (.slice A64 y245.length c64)) (fun _ hk => hk.2) (.slice Ao67 x214001_1.length co67)) (fun _ hk => hk.1.1), by repeat (first | (with_reducible first | exact HI0.out | apply IsS124.alloc | apply IsS124.drewN | apply IsS124.drew | apply IsS124.set_1 | apply IsS124.set_2 | refine IsS124.far ?_ NB0_203.out _ | refine IsS124.far ?_ NB0_213.out _) | exact HI0.out), bw3 HB.out (IsS124.ge HI0.out) GE203.out GE213.out, kq2 HK.out GW203.out GW213.out⟩
     ·rw [if_neg c58] at H
      exact absurd H (by simp)
    ·rw [if_neg c57] at H
     have c57b0 : (t242 == 0) = false := beq_eq_false_iff_ne.mpr c57
     have c57b1 : (t242 != 0) = true := bne_iff_ne.mpr c57
     by_cases c68 : t242 = 1
     ·rw [if_pos c68] at H
      have c68b0 : (t242 == 1) = true := beq_iff_eq.mpr c68
      have c68b1 : (t242 != 1) = false := bne_eq_false_iff_eq.mpr c68
      clear c68
      obtain ⟨y248, hy248⟩ : ∃ y_ : List Int, y_ = (([(-1), 0, 9] : List Int)) := ⟨_, rfl⟩
      replace H : ((spec_l1Int.f s0_0 t243 t244 y248).bind fun bt251 => ((spec_l1Int.f s0_0 bt251.2.1 bt251.2.2 (([64, 63] : List Int))).bind fun bt257 => ((spec_l1Bytes.f k1 s0_0 bt257.2.1 bt257.2.2 bt257.1).bind fun bt260 => (if x214001_1.length < 4398046511104 then (some (x214000_1, (x214001_1 ++ [(⟨bt251.1, bt260.1⟩ : S34)]), bt260.2.1, bt260.2.2)) else (none))))) = some (r1, r2, r3, r4) := by first | (rw [hy248]; with_reducible exact H) | (have H2_ := (Option.bind_some _ _).symm.trans H; rw [hy248]; with_reducible exact H2_) | (have H2_ := (Option.bind_some _ _).symm.trans H; with_reducible exact H2_) | with_reducible exact H | (rw [hy248]; exact H) | exact H
      have Ny248 := Ak hy248
      clear hy248
      replace H := Option.bind_eq_some_iff.mp H
      obtain ⟨⟨t251, t252, t253⟩, A690, H⟩ := H
      replace H : ((spec_l1Int.f s0_0 t252 t253 (([64, 63] : List Int))).bind fun bt257 => ((spec_l1Bytes.f k1 s0_0 bt257.2.1 bt257.2.2 bt257.1).bind fun bt260 => (if x214001_1.length < 4398046511104 then (some (x214000_1, (x214001_1 ++ [(⟨t251, bt260.1⟩ : S34)]), bt260.2.1, bt260.2.2)) else (none)))) = some (r1, r2, r3, r4) := H
      have A69 := Ak A690
      clear A690
      obtain ⟨y254, hy254⟩ : ∃ y_ : List Int, y_ = (([64, 63] : List Int)) := ⟨_, rfl⟩
      replace H : ((spec_l1Int.f s0_0 t252 t253 y254).bind fun bt257 => ((spec_l1Bytes.f k1 s0_0 bt257.2.1 bt257.2.2 bt257.1).bind fun bt260 => (if x214001_1.length < 4398046511104 then (some (x214000_1, (x214001_1 ++ [(⟨t251, bt260.1⟩ : S34)]), bt260.2.1, bt260.2.2)) else (none)))) = some (r1, r2, r3, r4) := by first | (rw [hy254]; with_reducible exact H) | (have H2_ := (Option.bind_some _ _).symm.trans H; rw [hy254]; with_reducible exact H2_) | (have H2_ := (Option.bind_some _ _).symm.trans H; with_reducible exact H2_) | with_reducible exact H | (rw [hy254]; exact H) | exact H
      have Ny254 := Ak hy254
      clear hy254
      replace H := Option.bind_eq_some_iff.mp H
      obtain ⟨⟨t257, t258, t259⟩, A700, H⟩ := H
      replace H : ((spec_l1Bytes.f k1 s0_0 t258 t259 t257).bind fun bt260 => (if x214001_1.length < 4398046511104 then (some (x214000_1, (x214001_1 ++ [(⟨t251, bt260.1⟩ : S34)]), bt260.2.1, bt260.2.2)) else (none))) = some (r1, r2, r3, r4) := H
      have A70 := Ak A700
      clear A700
      replace H := Option.bind_eq_some_iff.mp H
      obtain ⟨⟨t260, t263, t264⟩, A710, H⟩ := H
      replace H : (if x214001_1.length < 4398046511104 then (some (x214000_1, (x214001_1 ++ [(⟨t251, t260⟩ : S34)]), t263, t264)) else (none)) = some (r1, r2, r3, r4) := H
      have A71 := Ak A710
      clear A710
      by_cases c72 : x214001_1.length < 4398046511104
      ·rw [if_pos c72] at H
       have LMc72 := Ak c72
       clear c72
       obtain ⟨y265, hy265⟩ : ∃ y_ : List (S34), y_ = (x214001_1 ++ [(⟨t251, t260⟩ : S34)]) := ⟨_, rfl⟩
       replace H : (some (x214000_1, y265, t263, t264)) = some (r1, r2, r3, r4) := by first | (rw [hy265]; with_reducible exact H) | (have H2_ := (Option.bind_some _ _).symm.trans H; rw [hy265]; with_reducible exact H2_) | (have H2_ := (Option.bind_some _ _).symm.trans H; with_reducible exact H2_) | with_reducible exact H | (rw [hy265]; exact H) | exact H
       have Ny265 := Ak hy265
       clear hy265
       simp only [Option.some.injEq, Prod.mk.injEq] at H
       obtain ⟨rfl, rfl, rfl, rfl⟩ := H
       try go_wp2_with (first | ((with_reducible refine gate_callee (f := 56) rfl ?_); refine goesL_ (some 31) rfl rfl Try.func56 (by kernel_rfl) rfl #[.pointer (some ⟨g, 0, none⟩), .int .i64 20] rfl gm ?_; (with_reducible refine (spec_l1Below.calls g s0_0 x1001_1 x1002_1 20 t242 t243 t244 w0 _ ?side1 ?side2 A56.out).mono ?_); (case side1 => repeat (first | (with_reducible first | exact HI0.out | apply IsS124.alloc | apply IsS124.drewN | apply IsS124.drew | apply IsS124.set_1 | apply IsS124.set_2 | refine IsS124.far ?_ NB0_203.out _ | refine IsS124.far ?_ NB0_213.out _) | exact HI0.out)); (case side2 => repeat (first | (with_reducible first | exact HB.out | apply below_alloc | apply pw_below_drewN | apply below_drew1 | refine below_set ?_ (IsS124.ge HI0.out) | refine below_set ?_ GE203.out | refine below_set ?_ GE213.out) | exact HB.out)); rintro e w73 ⟨rfl, hi, hb, hk⟩; refine ⟨_, rfl, ?_⟩; have n0_ := Ak (Kd.Q_mono (Kd.Q_keep (IsS124.apartQ (show IsS124 w0 _ g s0_0 x1001_1 x1002_1 from by repeat (first | (with_reducible first | exact HI0.out | apply IsS124.alloc | apply IsS124.drewN | apply IsS124.drew | apply IsS124.set_1 | apply IsS124.set_2 | refine IsS124.far ?_ NB0_203.out _ | refine IsS124.far ?_ NB0_213.out _) | exact HI0.out)) (qq HO_214000.out) (by decide)) hk (fun _ h => h.2)) (fun _ h => h.1)); have n1_ := Ak (Kd.S_mono (Kd.S_keep (IsS124.apartS (show IsS124 w0 _ g s0_0 x1001_1 x1002_1 from by repeat (first | (with_reducible first | exact HI0.out | apply IsS124.alloc | apply IsS124.drewN | apply IsS124.drew | apply IsS124.set_1 | apply IsS124.set_2 | refine IsS124.far ?_ NB0_203.out _ | refine IsS124.far ?_ NB0_213.out _) | exact HI0.out)) (sq HO_214001.out) (by decide)) hk (fun _ h => h.2)) (fun _ h => h.1)); have n2_ := Ak (KeepBut.blk hk (g' := gb203) (o := .cells #[.slice none 0 0, .slice none 0 0] 26 (0, 0)) (bq BK203.out) NB203_0.out (by simp)); have n3_ := Ak (KeepBut.blk hk (g' := gb213) (o := .cells #[u214000, u214001] 26 (0, 0)) (bq BK213.out) NB213_0.out (by simp)); have n4_ := Ak (KeepBut.trans (kq2 HK.out GW203.out GW213.out) hk (.inl rfl)); have n5_ := Ak (hb); have n6_ := Ak (hi); clear HO_214000; clear HO_214001; clear BK203; clear BK213; clear HK; clear HB; clear HI0; have HO_214000 := n0_; have HO_214001 := n1_; have BK203 := n2_; have BK213 := n3_; have HK := n4_; have HB := n5_; have HI0 := n6_; clear n0_ n1_ n2_ n3_ n4_ n5_ n6_; obtain ⟨Ao74, co74, eo74⟩ := Kd.S_slice HO_214001.out; subst eo74))
       have n0_ := Ak (Kd.Q_drew HO_214000.out)
       have n1_ := Ak (Kd.S_drew HO_214001.out)
       have n2_ := Ak (blk_drew BK203.out)
       have n3_ := Ak (blk_drew BK213.out)
       have n4_ := Ak (IsS124.drew HI0.out)
       have n5_ := Ak (keep_drew HK.out)
       have n6_ := Ak (below_drew1 HB.out)
       clear HO_214000
       clear HO_214001
       clear BK203
       clear BK213
       clear HI0
       clear HK
       clear HB
       have HO_214000 := n0_
       have HO_214001 := n1_
       have BK203 := n2_
       have BK213 := n3_
       have HI0 := n4_
       have HK := n5_
       have HB := n6_
       clear n0_ n1_ n2_ n3_ n4_ n5_ n6_
       refine start_ (n := 15) (S := fun w' => w'.cell? ⟨gb213, 0, none⟩ = some (u214000) ∧ w'.cell? ⟨gb213, 1, none⟩ = some (.slice Ao74 x214001_1.length co74)) (ds := [14]) #[false, false, false, false, false, false, false, false, false, false, false, false, false, false, false] (by kernel_rfl) rfl rfl ⟨(blk_cell BK213.out 0).trans rfl, (blk_cell BK213.out 1).trans rfl⟩ (fun hHeld => ?_); refine with_tabW spec_l11Draw.tab12 spec_l11Draw.bits12 (fun HT_ HW_ => ?_)
       generalize w73.drew = w75 at HO_214000 HO_214001 BK203 BK213 HI0 HK HB hHeld ⊢
       refine pure_ (i := 0) (N := some 40) (v := ?_) (a' := ?_) #[true, false, false, false, false, false, false, false, false, false, false, false, false, false, false] rfl rfl (any_of HT_.out (by kernel_rfl)) (fun _ _ _ h => h) (Or.inl ⟨by rfl, ?_⟩) ?_ ?_
       rotate_left
       ·intro w'
        go_simp
        with_reducible rfl
       rotate_left
       ·simp only [Act.put, sT, sZ, sS, i64_w, i32_w]
        rfl
       refine pure_ (i := 2) (N := some 42) (v := ?_) (a' := ?_) #[true, false, true, false, false, false, false, false, false, false, false, false, false, false, false] rfl rfl (any_of HT_.out (by kernel_rfl)) (fun _ _ _ h => h) (Or.inl ⟨by rfl, ?_⟩) ?_ ?_
       rotate_left
       ·intro w'
        go_simp
        with_reducible rfl
       rotate_left
       ·simp only [Act.put, sT, sZ, sS, i64_w, i32_w]
        rfl
       refine pure_ (i := 5) (N := some 45) (v := ?_) (a' := ?_) #[true, false, true, false, false, true, false, false, false, false, false, false, false, false, false] rfl rfl (any_of HT_.out (by kernel_rfl)) (fun _ _ _ h => h) (Or.inl ⟨by rfl, ?_⟩) ?_ ?_
       rotate_left
       ·intro w'
        go_simp
        with_reducible rfl
       rotate_left
       ·simp only [Act.put, sT, sZ, sS, i64_w, i32_w]
        rfl
       refine pure_ (i := 6) (N := some 46) (v := ?_) (a' := ?_) #[true, false, true, false, false, true, true, false, false, false, false, false, false, false, false] rfl rfl (any_of HT_.out (by kernel_rfl)) (fun _ _ _ h => h) (Or.inl ⟨by rfl, ?_⟩) ?_ ?_
       rotate_left
       ·intro w'
        go_simp
        with_reducible rfl
       rotate_left
       ·simp only [Act.put, sT, sZ, sS, i64_w, i32_w]
        rfl
       refine take_ (i := 1) (N := some 41) (v := ?_) (a' := ?_) #[true, true, true, false, false, true, true, false, false, false, false, false, false, false, false] rfl rfl (take_ofW HT_.out HW_.out (by kernel_rfl)) (fun _ _ _ h => h) (Or.inl ⟨by rfl, ?_⟩) hHeld ?_ ?_
       rotate_left
       ·rintro w' ⟨s0, s1⟩
        go_simp
        with_reducible rfl
       rotate_left
       ·simp only [Act.put, sT, sZ, sS, i64_w, i32_w]
        rfl
       refine join_ (σ := Value × Value) 7 #[true, true, true, true, true, true, true, true, false, false, false, false, false, false, false] (fun s_ => [(43, s_.1), (44, .int .i64 t251), (47, s_.2)]) (fun s_ w' => (w'.cell? ⟨gb213, 0, none⟩ = some (u214000) ∧ w'.cell? ⟨gb213, 1, none⟩ = some (.slice Ao74 x214001_1.length co74)) ∧ (Kd.R (Kd.int .i64) 3 w' w.heap.size (fun k_ => some k_ ≠ (s_.2 : Value).ownBlock) s_.1 y248) ∧ (Kd.R (Kd.int .i64) 3 w' w.heap.size (fun k_ => some k_ ≠ (s_.1 : Value).ownBlock) s_.2 y254) ∧ (Kd.Q (Kd.int .u8) 5 w' w.heap.size (fun _ => True) u214000 x214000_1) ∧ (Kd.S k34 34 w' w.heap.size (fun k_ => some k_ ≠ (u214000 : Value).ownBlock) (.slice Ao74 x214001_1.length co74) x214001_1) ∧ (w'.heap[gb203]? = some (.cells #[.slice none 0 0, .slice none 0 0] 26 (0, 0))) ∧ (w'.heap[gb213]? = some (.cells #[u214000, .slice Ao74 x214001_1.length co74] 26 (0, 0))) ∧ (IsS124 w0 w' g s0_0 t252 t253) ∧ (KeepBut w w' g none) ∧ (Below w0.heap.size w0 w')) ?_ ?_
       rotate_left
       ·intro hCont
        refine two_ (i := 3) (j := 7) (Ni := some 43) (Nj := some 47) #[true, true, true, true, false, true, true, false, false, false, false, false, false, false, false] #[true, true, true, false, false, true, true, true, false, false, false, false, false, false, false] rfl rfl rfl rfl (two_of HT_.out (by kernel_rfl)) (by decide) (by decide) (fun K hK => ?_) (fun K hK => ?_)
        ·skip
         refine Kd.R_lit_step (Kd.int .i64) _ 3 ?hg (N := 43) ?hd (xs := ([(-1), 0, 9] : List Int)) (inner := [.int .i64 (-1), .int .i64 0, .int .i64 9]) (ok := fun _ => True) (okp := fun _ => True) ?hr ?hp (fun _ hk => hk) trivial (Below.refl _ _) (Nat.le_refl _) (by simp) ?_; (case hd => rfl); (case hg => rfl); (case hr => first | (go_simp; done) | (go_simp; rfl)); (case hp => exact (Reps.one (show Kd.M (Kd.int .i64) _ _ _ (-1) [.int .i64 (-1)] from rfl) (Reps.one (show Kd.M (Kd.int .i64) _ _ _ 0 [.int .i64 0] from rfl) (Reps.one (show Kd.M (Kd.int .i64) _ _ _ 9 [.int .i64 9] from rfl) (Reps.none _ _)))))
         intro v249 w76 ho77 hb hg_ hnew_
         clear hg_ hnew_
         (first | rw [← Ny248.out] at ho77 | (simp only [Int.reduceToNat] at ho77; rw [← Ny248.out] at ho77))
         have n0_ := Ak (Kd.Q_below (qq HO_214000.out) hb)
         have n1_ := Ak (Kd.S_below (sq HO_214001.out) hb)
         have n2_ := Ak (Kd.R_lower ho77 (keep_size (w := w) (g := g) (row := none) (kq2 HK.out GW203.out GW213.out)))
         have n3_ := Ak (blk_below (g := gb203) (o := .cells #[.slice none 0 0, .slice none 0 0] 26 (0, 0)) (bq BK203.out) hb)
         have n4_ := Ak (blk_below (g := gb213) (o := .cells #[u214000, .slice Ao74 x214001_1.length co74] 26 (0, 0)) (bq BK213.out) hb)
         have n5_ := Ak (IsS124.below (by repeat (first | (with_reducible first | exact HI0.out | apply IsS124.alloc | apply IsS124.drewN | apply IsS124.drew | apply IsS124.set_1 | apply IsS124.set_2 | refine IsS124.far ?_ NB0_203.out _ | refine IsS124.far ?_ NB0_213.out _) | exact HI0.out)) hb)
         have n6_ := Ak (KeepBut.trans (kq2 HK.out GW203.out GW213.out) (KeepBut.of_below hb g none) (.inl rfl))
         have n7_ := Ak (below_step (bw3 HB.out (IsS124.ge HI0.out) GE203.out GE213.out) hb)
         clear HO_214000
         clear HO_214001
         clear BK203
         clear BK213
         clear HI0
         clear HK
         clear HB
         have HO_214000 := n0_
         have HO_214001 := n1_
         have HO250 := n2_
         have BK203 := n3_
         have BK213 := n4_
         have HI0 := n5_
         have HK := n6_
         have HB := n7_
         clear n0_ n1_ n2_ n3_ n4_ n5_ n6_ n7_
         clear hb ho77
         obtain ⟨Ao78, co78, eo78⟩ := Kd.R_slice HO250.out
         (first | subst eo78 | (injection eo78 with f1_ f2_ f3_; have f4_ := f1_.symm; have f5_ := f3_.symm; clear f1_ f2_ f3_; subst f4_; subst f5_))
         refine hK.out _ _ ⟨(blk_cell BK213.out 0).trans rfl, (blk_cell BK213.out 1).trans rfl⟩ (fun hHeld => ?_)
         clear hK K
         refine norm_ (a' := ?_) ?_ ?_
         rotate_left
         ·show Act.put _ (some 43) _ = _
          simp only [Act.put, sT, sZ, sS, i64_w, i32_w]
          rfl
         refine two_ (i := 4) (j := 7) (Ni := some 44) (Nj := some 47) #[true, true, true, true, true, true, true, false, false, false, false, false, false, false, false] #[true, true, true, true, false, true, true, true, false, false, false, false, false, false, false] rfl rfl rfl rfl (two_of HT_.out (by kernel_rfl)) (by decide) (by decide) (fun K hK => ?_) (fun K hK => ?_)
         ·skip
          refine goes_ Try.func95 (by kernel_rfl) rfl #[.pointer (some ⟨g, 0, none⟩), .slice Ao78 y248.length co78] (by rfl) rfl rfl gm ?_
          with_reducible refine (spec_l1Int.calls g s0_0 t243 t244 _ _ y248 t251 t252 t253 w0 _ ?side1 ?side2 ?side3 ?side4 ?side5 A69.out).mono ?_
          (case side1 => repeat (first | (with_reducible first | exact HI0.out | apply IsS124.alloc | apply IsS124.drewN | apply IsS124.drew | apply IsS124.set_1 | apply IsS124.set_2 | refine IsS124.far ?_ NB0_203.out _ | refine IsS124.far ?_ NB0_213.out _) | exact HI0.out))
          (case side2 => repeat (first | (with_reducible first | exact HB.out | apply below_alloc | apply pw_below_drewN | apply below_drew1 | refine below_set ?_ (IsS124.ge HI0.out) | refine below_set ?_ GE203.out | refine below_set ?_ GE213.out) | exact HB.out))
          (case side3 => repeat (first | exact (Kd.R_reads' HO250.out).2.2 | (with_reducible refine Kd.C_alloc ?_ _) | (with_reducible refine Kd.C_drewN ?_ _) | (with_reducible refine Kd.C_drew ?_)))
          (case side4 => exact (Kd.R_reads' HO250.out).2.1)
          (case side5 => exact far_slice (IsS124.own_ne HI0.out HO250.out (by decide)))
          rintro e w79 ⟨rfl, hi, hb, hk⟩
          refine ⟨_, rfl, ?_⟩
          have n0_ := Ak (Kd.Q_mono (Kd.Q_keep (IsS124.apartQ (show IsS124 w0 _ g s0_0 t243 t244 from by repeat (first | (with_reducible first | exact HI0.out | apply IsS124.alloc | apply IsS124.drewN | apply IsS124.drew | apply IsS124.set_1 | apply IsS124.set_2 | refine IsS124.far ?_ NB0_203.out _ | refine IsS124.far ?_ NB0_213.out _) | exact HI0.out)) (qq HO_214000.out) (by decide)) hk (fun _ h => h.2)) (fun _ h => h.1))
          have n1_ := Ak (Kd.S_mono (Kd.S_keep (IsS124.apartS (show IsS124 w0 _ g s0_0 t243 t244 from by repeat (first | (with_reducible first | exact HI0.out | apply IsS124.alloc | apply IsS124.drewN | apply IsS124.drew | apply IsS124.set_1 | apply IsS124.set_2 | refine IsS124.far ?_ NB0_203.out _ | refine IsS124.far ?_ NB0_213.out _) | exact HI0.out)) (sq HO_214001.out) (by decide)) hk (fun _ h => h.2)) (fun _ h => h.1))
          have n2_ := Ak (KeepBut.blk hk (g' := gb203) (o := .cells #[.slice none 0 0, .slice none 0 0] 26 (0, 0)) (bq BK203.out) NB203_0.out (by simp))
          have n3_ := Ak (KeepBut.blk hk (g' := gb213) (o := .cells #[u214000, .slice Ao74 x214001_1.length co74] 26 (0, 0)) (bq BK213.out) NB213_0.out (by simp))
          have n4_ := Ak (Kd.R_mono (Kd.R_keep (IsS124.apart (show IsS124 w0 _ g s0_0 t243 t244 from by repeat (first | (with_reducible first | exact HI0.out | apply IsS124.alloc | apply IsS124.drewN | apply IsS124.drew | apply IsS124.set_1 | apply IsS124.set_2 | refine IsS124.far ?_ NB0_203.out _ | refine IsS124.far ?_ NB0_213.out _) | exact HI0.out)) (rq HO250.out) (by decide)) hk (fun _ h => h.2)) (fun _ h => h.1))
          have n5_ := Ak (KeepBut.trans (kq2 HK.out GW203.out GW213.out) hk (.inl rfl))
          have n6_ := Ak (hb)
          have n7_ := Ak (hi)
          clear HO_214000
          clear HO_214001
          clear BK203
          clear BK213
          clear HO250
          clear HK
          clear HB
          clear HI0
          have HO_214000 := n0_
          have HO_214001 := n1_
          have BK203 := n2_
          have BK213 := n3_
          have HO250 := n4_
          have HK := n5_
          have HB := n6_
          have HI0 := n7_
          clear n0_ n1_ n2_ n3_ n4_ n5_ n6_ n7_
          refine hK.out _ _ ⟨(blk_cell BK213.out 0).trans rfl, (blk_cell BK213.out 1).trans rfl⟩ (fun hHeld => ?_)
          clear hK K
          refine norm_ (a' := ?_) ?_ ?_
          rotate_left
          ·show Act.put _ (some 44) _ = _
           simp only [Act.put, sT, sZ, sS, i64_w, i32_w]
           rfl
          refine one_ (i := 7) (N := some 47) #[true, true, true, true, true, true, true, true, false, false, false, false, false, false, false] rfl rfl (one_of HT_.out (by kernel_rfl)) (by decide) (fun K hK => ?_)
          refine Kd.R_lit_step (Kd.int .i64) _ 3 ?hg (N := 47) ?hd (xs := ([64, 63] : List Int)) (inner := [.int .i64 64, .int .i64 63]) (ok := fun _ => True) (okp := fun _ => True) ?hr ?hp (fun _ hk => hk) trivial (Below.refl _ _) (Nat.le_refl _) (by simp) ?_; (case hd => rfl); (case hg => rfl); (case hr => first | (go_simp; done) | (go_simp; rfl)); (case hp => exact (Reps.one (show Kd.M (Kd.int .i64) _ _ _ 64 [.int .i64 64] from rfl) (Reps.one (show Kd.M (Kd.int .i64) _ _ _ 63 [.int .i64 63] from rfl) (Reps.none _ _))))
          intro v255 w80 ho81 hb hg_ hnew_
          clear hg_ hnew_
          (first | rw [← Ny254.out] at ho81 | (simp only [Int.reduceToNat] at ho81; rw [← Ny254.out] at ho81))
          have n0_ := Ak (Kd.Q_below (qq HO_214000.out) hb)
          have n1_ := Ak (Kd.S_below (sq HO_214001.out) hb)
          have n2_ := Ak (Kd.R_elder' (rq HO250.out) (Kd.R_base ho81) hb)
          have n3_ := Ak (Kd.R_lower (Kd.R_new' ho81 (Kd.R_lt (rq HO250.out))) (keep_size (w := w) (g := g) (row := none) (kq2 HK.out GW203.out GW213.out)))
          have n4_ := Ak (blk_below (g := gb203) (o := .cells #[.slice none 0 0, .slice none 0 0] 26 (0, 0)) (bq BK203.out) hb)
          have n5_ := Ak (blk_below (g := gb213) (o := .cells #[u214000, .slice Ao74 x214001_1.length co74] 26 (0, 0)) (bq BK213.out) hb)
          have n6_ := Ak (IsS124.below (by repeat (first | (with_reducible first | exact HI0.out | apply IsS124.alloc | apply IsS124.drewN | apply IsS124.drew | apply IsS124.set_1 | apply IsS124.set_2 | refine IsS124.far ?_ NB0_203.out _ | refine IsS124.far ?_ NB0_213.out _) | exact HI0.out)) hb)
          have n7_ := Ak (KeepBut.trans (kq2 HK.out GW203.out GW213.out) (KeepBut.of_below hb g none) (.inl rfl))
          have n8_ := Ak (below_step (bw3 HB.out (IsS124.ge HI0.out) GE203.out GE213.out) hb)
          clear HO_214000
          clear HO_214001
          clear HO250
          clear BK203
          clear BK213
          clear HI0
          clear HK
          clear HB
          have HO_214000 := n0_
          have HO_214001 := n1_
          have HO250 := n2_
          have HO256 := n3_
          have BK203 := n4_
          have BK213 := n5_
          have HI0 := n6_
          have HK := n7_
          have HB := n8_
          clear n0_ n1_ n2_ n3_ n4_ n5_ n6_ n7_ n8_
          clear hb ho81
          refine hK.out _ _ ⟨(blk_cell BK213.out 0).trans rfl, (blk_cell BK213.out 1).trans rfl⟩ (fun hHeld => ?_)
          clear hK K
          refine norm_ (a' := ?_) ?_ ?_
          rotate_left
          ·show Act.put _ (some 47) _ = _
           simp only [Act.put, sT, sZ, sS, i64_w, i32_w]
           rfl
          exact norm_ (by simp only [putAll, Act.put, sT, sZ, sS]) (hCont (.slice Ao78 y248.length co78, v255) _ ⟨hHeld, (by (with_reducible repeat (first | apply Kd.R_alloc | apply Kd.R_drewN | apply Kd.R_drew)); exact Kd.R_mono HO250.out (fun _ hk => hk.2)), (by (with_reducible repeat (first | apply Kd.R_alloc | apply Kd.R_drewN | apply Kd.R_drew)); exact Kd.R_mono HO256.out (fun _ hk => hk.2)), (qq HO_214000.out), (sq HO_214001.out), (bq BK203.out), (bq BK213.out), (by repeat (first | (with_reducible first | exact HI0.out | apply IsS124.alloc | apply IsS124.drewN | apply IsS124.drew | apply IsS124.set_1 | apply IsS124.set_2 | refine IsS124.far ?_ NB0_203.out _ | refine IsS124.far ?_ NB0_213.out _) | exact HI0.out)), (kq2 HK.out GW203.out GW213.out), (bw3 HB.out (IsS124.ge HI0.out) GE203.out GE213.out)⟩)
         ·skip
          refine Kd.R_lit_step (Kd.int .i64) _ 3 ?hg (N := 47) ?hd (xs := ([64, 63] : List Int)) (inner := [.int .i64 64, .int .i64 63]) (ok := fun _ => True) (okp := fun _ => True) ?hr ?hp (fun _ hk => hk) trivial (Below.refl _ _) (Nat.le_refl _) (by simp) ?_; (case hd => rfl); (case hg => rfl); (case hr => first | (go_simp; done) | (go_simp; rfl)); (case hp => exact (Reps.one (show Kd.M (Kd.int .i64) _ _ _ 64 [.int .i64 64] from rfl) (Reps.one (show Kd.M (Kd.int .i64) _ _ _ 63 [.int .i64 63] from rfl) (Reps.none _ _))))
          intro v255 w78 ho79 hb hg_ hnew_
          clear hg_ hnew_
          (first | rw [← Ny254.out] at ho79 | (simp only [Int.reduceToNat] at ho79; rw [← Ny254.out] at ho79))
          have n0_ := Ak (Kd.Q_below (qq HO_214000.out) hb)
          have n1_ := Ak (Kd.S_below (sq HO_214001.out) hb)
          have n2_ := Ak (Kd.R_elder' (rq HO250.out) (Kd.R_base ho79) hb)
          have n3_ := Ak (Kd.R_lower (Kd.R_new' ho79 (Kd.R_lt (rq HO250.out))) (keep_size (w := w) (g := g) (row := none) (kq2 HK.out GW203.out GW213.out)))
          have n4_ := Ak (blk_below (g := gb203) (o := .cells #[.slice none 0 0, .slice none 0 0] 26 (0, 0)) (bq BK203.out) hb)
          have n5_ := Ak (blk_below (g := gb213) (o := .cells #[u214000, .slice Ao74 x214001_1.length co74] 26 (0, 0)) (bq BK213.out) hb)
          have n6_ := Ak (IsS124.below (by repeat (first | (with_reducible first | exact HI0.out | apply IsS124.alloc | apply IsS124.drewN | apply IsS124.drew | apply IsS124.set_1 | apply IsS124.set_2 | refine IsS124.far ?_ NB0_203.out _ | refine IsS124.far ?_ NB0_213.out _) | exact HI0.out)) hb)
          have n7_ := Ak (KeepBut.trans (kq2 HK.out GW203.out GW213.out) (KeepBut.of_below hb g none) (.inl rfl))
          have n8_ := Ak (below_step (bw3 HB.out (IsS124.ge HI0.out) GE203.out GE213.out) hb)
          clear HO_214000
          clear HO_214001
          clear HO250
          clear BK203
          clear BK213
          clear HI0
          clear HK
          clear HB
          have HO_214000 := n0_
          have HO_214001 := n1_
          have HO250 := n2_
          have HO256 := n3_
          have BK203 := n4_
          have BK213 := n5_
          have HI0 := n6_
          have HK := n7_
          have HB := n8_
          clear n0_ n1_ n2_ n3_ n4_ n5_ n6_ n7_ n8_
          clear hb ho79
          obtain ⟨Ao80, co80, eo80⟩ := Kd.R_slice HO250.out
          (first | subst eo80 | (injection eo80 with f1_ f2_ f3_; have f4_ := f1_.symm; have f5_ := f3_.symm; clear f1_ f2_ f3_; subst f4_; subst f5_))
          refine hK.out _ _ ⟨(blk_cell BK213.out 0).trans rfl, (blk_cell BK213.out 1).trans rfl⟩ (fun hHeld => ?_)
          clear hK K
          refine norm_ (a' := ?_) ?_ ?_
          rotate_left
          ·show Act.put _ (some 47) _ = _
           simp only [Act.put, sT, sZ, sS, i64_w, i32_w]
           rfl
          refine one_ (i := 4) (N := some 44) #[true, true, true, true, true, true, true, true, false, false, false, false, false, false, false] rfl rfl (one_of HT_.out (by kernel_rfl)) (by decide) (fun K hK => ?_)
          refine goes_ Try.func95 (by kernel_rfl) rfl #[.pointer (some ⟨g, 0, none⟩), .slice Ao80 y248.length co80] (by rfl) rfl rfl gm ?_
          with_reducible refine (spec_l1Int.calls g s0_0 t243 t244 _ _ y248 t251 t252 t253 w0 _ ?side1 ?side2 ?side3 ?side4 ?side5 A69.out).mono ?_
          (case side1 => repeat (first | (with_reducible first | exact HI0.out | apply IsS124.alloc | apply IsS124.drewN | apply IsS124.drew | apply IsS124.set_1 | apply IsS124.set_2 | refine IsS124.far ?_ NB0_203.out _ | refine IsS124.far ?_ NB0_213.out _) | exact HI0.out))
          (case side2 => repeat (first | (with_reducible first | exact HB.out | apply below_alloc | apply pw_below_drewN | apply below_drew1 | refine below_set ?_ (IsS124.ge HI0.out) | refine below_set ?_ GE203.out | refine below_set ?_ GE213.out) | exact HB.out))
          (case side3 => repeat (first | exact (Kd.R_reads' HO250.out).2.2 | (with_reducible refine Kd.C_alloc ?_ _) | (with_reducible refine Kd.C_drewN ?_ _) | (with_reducible refine Kd.C_drew ?_)))
          (case side4 => exact (Kd.R_reads' HO250.out).2.1)
          (case side5 => exact far_slice (IsS124.own_ne HI0.out HO250.out (by decide)))
          rintro e w81 ⟨rfl, hi, hb, hk⟩
          refine ⟨_, rfl, ?_⟩
          have n0_ := Ak (Kd.Q_mono (Kd.Q_keep (IsS124.apartQ (show IsS124 w0 _ g s0_0 t243 t244 from by repeat (first | (with_reducible first | exact HI0.out | apply IsS124.alloc | apply IsS124.drewN | apply IsS124.drew | apply IsS124.set_1 | apply IsS124.set_2 | refine IsS124.far ?_ NB0_203.out _ | refine IsS124.far ?_ NB0_213.out _) | exact HI0.out)) (qq HO_214000.out) (by decide)) hk (fun _ h => h.2)) (fun _ h => h.1))
          have n1_ := Ak (Kd.S_mono (Kd.S_keep (IsS124.apartS (show IsS124 w0 _ g s0_0 t243 t244 from by repeat (first | (with_reducible first | exact HI0.out | apply IsS124.alloc | apply IsS124.drewN | apply IsS124.drew | apply IsS124.set_1 | apply IsS124.set_2 | refine IsS124.far ?_ NB0_203.out _ | refine IsS124.far ?_ NB0_213.out _) | exact HI0.out)) (sq HO_214001.out) (by decide)) hk (fun _ h => h.2)) (fun _ h => h.1))
          have n2_ := Ak (KeepBut.blk hk (g' := gb203) (o := .cells #[.slice none 0 0, .slice none 0 0] 26 (0, 0)) (bq BK203.out) NB203_0.out (by simp))
          have n3_ := Ak (KeepBut.blk hk (g' := gb213) (o := .cells #[u214000, .slice Ao74 x214001_1.length co74] 26 (0, 0)) (bq BK213.out) NB213_0.out (by simp))
          have n4_ := Ak (Kd.R_mono (Kd.R_keep (IsS124.apart (show IsS124 w0 _ g s0_0 t243 t244 from by repeat (first | (with_reducible first | exact HI0.out | apply IsS124.alloc | apply IsS124.drewN | apply IsS124.drew | apply IsS124.set_1 | apply IsS124.set_2 | refine IsS124.far ?_ NB0_203.out _ | refine IsS124.far ?_ NB0_213.out _) | exact HI0.out)) (rq HO250.out) (by decide)) hk (fun _ h => h.2)) (fun _ h => h.1))
          have n5_ := Ak (Kd.R_mono (Kd.R_keep (IsS124.apart (show IsS124 w0 _ g s0_0 t243 t244 from by repeat (first | (with_reducible first | exact HI0.out | apply IsS124.alloc | apply IsS124.drewN | apply IsS124.drew | apply IsS124.set_1 | apply IsS124.set_2 | refine IsS124.far ?_ NB0_203.out _ | refine IsS124.far ?_ NB0_213.out _) | exact HI0.out)) (rq HO256.out) (by decide)) hk (fun _ h => h.2)) (fun _ h => h.1))
          have n6_ := Ak (KeepBut.trans (kq2 HK.out GW203.out GW213.out) hk (.inl rfl))
          have n7_ := Ak (hb)
          have n8_ := Ak (hi)
          clear HO_214000
          clear HO_214001
          clear BK203
          clear BK213
          clear HO250
          clear HO256
          clear HK
          clear HB
          clear HI0
          have HO_214000 := n0_
          have HO_214001 := n1_
          have BK203 := n2_
          have BK213 := n3_
          have HO250 := n4_
          have HO256 := n5_
          have HK := n6_
          have HB := n7_
          have HI0 := n8_
          clear n0_ n1_ n2_ n3_ n4_ n5_ n6_ n7_ n8_
          refine hK.out _ _ ⟨(blk_cell BK213.out 0).trans rfl, (blk_cell BK213.out 1).trans rfl⟩ (fun hHeld => ?_)
          clear hK K
          refine norm_ (a' := ?_) ?_ ?_
          rotate_left
          ·show Act.put _ (some 44) _ = _
           simp only [Act.put, sT, sZ, sS, i64_w, i32_w]
           rfl
          exact norm_ (by simp only [putAll, Act.put, sT, sZ, sS]) (hCont (.slice Ao80 y248.length co80, v255) _ ⟨hHeld, (by (with_reducible repeat (first | apply Kd.R_alloc | apply Kd.R_drewN | apply Kd.R_drew)); exact Kd.R_mono HO250.out (fun _ hk => hk.2)), (by (with_reducible repeat (first | apply Kd.R_alloc | apply Kd.R_drewN | apply Kd.R_drew)); exact Kd.R_mono HO256.out (fun _ hk => hk.2)), (qq HO_214000.out), (sq HO_214001.out), (bq BK203.out), (bq BK213.out), (by repeat (first | (with_reducible first | exact HI0.out | apply IsS124.alloc | apply IsS124.drewN | apply IsS124.drew | apply IsS124.set_1 | apply IsS124.set_2 | refine IsS124.far ?_ NB0_203.out _ | refine IsS124.far ?_ NB0_213.out _) | exact HI0.out)), (kq2 HK.out GW203.out GW213.out), (bw3 HB.out (IsS124.ge HI0.out) GE203.out GE213.out)⟩)
        ·skip
         refine Kd.R_lit_step (Kd.int .i64) _ 3 ?hg (N := 47) ?hd (xs := ([64, 63] : List Int)) (inner := [.int .i64 64, .int .i64 63]) (ok := fun _ => True) (okp := fun _ => True) ?hr ?hp (fun _ hk => hk) trivial (Below.refl _ _) (Nat.le_refl _) (by simp) ?_; (case hd => rfl); (case hg => rfl); (case hr => first | (go_simp; done) | (go_simp; rfl)); (case hp => exact (Reps.one (show Kd.M (Kd.int .i64) _ _ _ 64 [.int .i64 64] from rfl) (Reps.one (show Kd.M (Kd.int .i64) _ _ _ 63 [.int .i64 63] from rfl) (Reps.none _ _))))
         intro v255 w76 ho77 hb hg_ hnew_
         clear hg_ hnew_
         (first | rw [← Ny254.out] at ho77 | (simp only [Int.reduceToNat] at ho77; rw [← Ny254.out] at ho77))
         have n0_ := Ak (Kd.Q_below (qq HO_214000.out) hb)
         have n1_ := Ak (Kd.S_below (sq HO_214001.out) hb)
         have n2_ := Ak (Kd.R_lower ho77 (keep_size (w := w) (g := g) (row := none) (kq2 HK.out GW203.out GW213.out)))
         have n3_ := Ak (blk_below (g := gb203) (o := .cells #[.slice none 0 0, .slice none 0 0] 26 (0, 0)) (bq BK203.out) hb)
         have n4_ := Ak (blk_below (g := gb213) (o := .cells #[u214000, .slice Ao74 x214001_1.length co74] 26 (0, 0)) (bq BK213.out) hb)
         have n5_ := Ak (IsS124.below (by repeat (first | (with_reducible first | exact HI0.out | apply IsS124.alloc | apply IsS124.drewN | apply IsS124.drew | apply IsS124.set_1 | apply IsS124.set_2 | refine IsS124.far ?_ NB0_203.out _ | refine IsS124.far ?_ NB0_213.out _) | exact HI0.out)) hb)
         have n6_ := Ak (KeepBut.trans (kq2 HK.out GW203.out GW213.out) (KeepBut.of_below hb g none) (.inl rfl))
         have n7_ := Ak (below_step (bw3 HB.out (IsS124.ge HI0.out) GE203.out GE213.out) hb)
         clear HO_214000
         clear HO_214001
         clear BK203
         clear BK213
         clear HI0
         clear HK
         clear HB
         have HO_214000 := n0_
         have HO_214001 := n1_
         have HO256 := n2_
         have BK203 := n3_
         have BK213 := n4_
         have HI0 := n5_
         have HK := n6_
         have HB := n7_
         clear n0_ n1_ n2_ n3_ n4_ n5_ n6_ n7_
         clear hb ho77
         refine hK.out _ _ ⟨(blk_cell BK213.out 0).trans rfl, (blk_cell BK213.out 1).trans rfl⟩ (fun hHeld => ?_)
         clear hK K
         refine norm_ (a' := ?_) ?_ ?_
         rotate_left
         ·show Act.put _ (some 47) _ = _
          simp only [Act.put, sT, sZ, sS, i64_w, i32_w]
          rfl
         refine one_ (i := 3) (N := some 43) #[true, true, true, true, false, true, true, true, false, false, false, false, false, false, false] rfl rfl (one_of HT_.out (by kernel_rfl)) (by decide) (fun K hK => ?_)
         refine Kd.R_lit_step (Kd.int .i64) _ 3 ?hg (N := 43) ?hd (xs := ([(-1), 0, 9] : List Int)) (inner := [.int .i64 (-1), .int .i64 0, .int .i64 9]) (ok := fun _ => True) (okp := fun _ => True) ?hr ?hp (fun _ hk => hk) trivial (Below.refl _ _) (Nat.le_refl _) (by simp) ?_; (case hd => rfl); (case hg => rfl); (case hr => first | (go_simp; done) | (go_simp; rfl)); (case hp => exact (Reps.one (show Kd.M (Kd.int .i64) _ _ _ (-1) [.int .i64 (-1)] from rfl) (Reps.one (show Kd.M (Kd.int .i64) _ _ _ 0 [.int .i64 0] from rfl) (Reps.one (show Kd.M (Kd.int .i64) _ _ _ 9 [.int .i64 9] from rfl) (Reps.none _ _)))))
         intro v249 w78 ho79 hb hg_ hnew_
         clear hg_ hnew_
         (first | rw [← Ny248.out] at ho79 | (simp only [Int.reduceToNat] at ho79; rw [← Ny248.out] at ho79))
         have n0_ := Ak (Kd.Q_below (qq HO_214000.out) hb)
         have n1_ := Ak (Kd.S_below (sq HO_214001.out) hb)
         have n2_ := Ak (Kd.R_elder' (rq HO256.out) (Kd.R_base ho79) hb)
         have n3_ := Ak (Kd.R_lower (Kd.R_new' ho79 (Kd.R_lt (rq HO256.out))) (keep_size (w := w) (g := g) (row := none) (kq2 HK.out GW203.out GW213.out)))
         have n4_ := Ak (blk_below (g := gb203) (o := .cells #[.slice none 0 0, .slice none 0 0] 26 (0, 0)) (bq BK203.out) hb)
         have n5_ := Ak (blk_below (g := gb213) (o := .cells #[u214000, .slice Ao74 x214001_1.length co74] 26 (0, 0)) (bq BK213.out) hb)
         have n6_ := Ak (IsS124.below (by repeat (first | (with_reducible first | exact HI0.out | apply IsS124.alloc | apply IsS124.drewN | apply IsS124.drew | apply IsS124.set_1 | apply IsS124.set_2 | refine IsS124.far ?_ NB0_203.out _ | refine IsS124.far ?_ NB0_213.out _) | exact HI0.out)) hb)
         have n7_ := Ak (KeepBut.trans (kq2 HK.out GW203.out GW213.out) (KeepBut.of_below hb g none) (.inl rfl))
         have n8_ := Ak (below_step (bw3 HB.out (IsS124.ge HI0.out) GE203.out GE213.out) hb)
         clear HO_214000
         clear HO_214001
         clear HO256
         clear BK203
         clear BK213
         clear HI0
         clear HK
         clear HB
         have HO_214000 := n0_
         have HO_214001 := n1_
         have HO256 := n2_
         have HO250 := n3_
         have BK203 := n4_
         have BK213 := n5_
         have HI0 := n6_
         have HK := n7_
         have HB := n8_
         clear n0_ n1_ n2_ n3_ n4_ n5_ n6_ n7_ n8_
         clear hb ho79
         obtain ⟨Ao80, co80, eo80⟩ := Kd.R_slice HO250.out
         (first | subst eo80 | (injection eo80 with f1_ f2_ f3_; have f4_ := f1_.symm; have f5_ := f3_.symm; clear f1_ f2_ f3_; subst f4_; subst f5_))
         refine hK.out _ _ ⟨(blk_cell BK213.out 0).trans rfl, (blk_cell BK213.out 1).trans rfl⟩ (fun hHeld => ?_)
         clear hK K
         refine norm_ (a' := ?_) ?_ ?_
         rotate_left
         ·show Act.put _ (some 43) _ = _
          simp only [Act.put, sT, sZ, sS, i64_w, i32_w]
          rfl
         refine one_ (i := 4) (N := some 44) #[true, true, true, true, true, true, true, true, false, false, false, false, false, false, false] rfl rfl (one_of HT_.out (by kernel_rfl)) (by decide) (fun K hK => ?_)
         refine goes_ Try.func95 (by kernel_rfl) rfl #[.pointer (some ⟨g, 0, none⟩), .slice Ao80 y248.length co80] (by rfl) rfl rfl gm ?_
         with_reducible refine (spec_l1Int.calls g s0_0 t243 t244 _ _ y248 t251 t252 t253 w0 _ ?side1 ?side2 ?side3 ?side4 ?side5 A69.out).mono ?_
         (case side1 => repeat (first | (with_reducible first | exact HI0.out | apply IsS124.alloc | apply IsS124.drewN | apply IsS124.drew | apply IsS124.set_1 | apply IsS124.set_2 | refine IsS124.far ?_ NB0_203.out _ | refine IsS124.far ?_ NB0_213.out _) | exact HI0.out))
         (case side2 => repeat (first | (with_reducible first | exact HB.out | apply below_alloc | apply pw_below_drewN | apply below_drew1 | refine below_set ?_ (IsS124.ge HI0.out) | refine below_set ?_ GE203.out | refine below_set ?_ GE213.out) | exact HB.out))
         (case side3 => repeat (first | exact (Kd.R_reads' HO250.out).2.2 | (with_reducible refine Kd.C_alloc ?_ _) | (with_reducible refine Kd.C_drewN ?_ _) | (with_reducible refine Kd.C_drew ?_)))
         (case side4 => exact (Kd.R_reads' HO250.out).2.1)
         (case side5 => exact far_slice (IsS124.own_ne HI0.out HO250.out (by decide)))
         rintro e w81 ⟨rfl, hi, hb, hk⟩
         refine ⟨_, rfl, ?_⟩
         have n0_ := Ak (Kd.Q_mono (Kd.Q_keep (IsS124.apartQ (show IsS124 w0 _ g s0_0 t243 t244 from by repeat (first | (with_reducible first | exact HI0.out | apply IsS124.alloc | apply IsS124.drewN | apply IsS124.drew | apply IsS124.set_1 | apply IsS124.set_2 | refine IsS124.far ?_ NB0_203.out _ | refine IsS124.far ?_ NB0_213.out _) | exact HI0.out)) (qq HO_214000.out) (by decide)) hk (fun _ h => h.2)) (fun _ h => h.1))
         have n1_ := Ak (Kd.S_mono (Kd.S_keep (IsS124.apartS (show IsS124 w0 _ g s0_0 t243 t244 from by repeat (first | (with_reducible first | exact HI0.out | apply IsS124.alloc | apply IsS124.drewN | apply IsS124.drew | apply IsS124.set_1 | apply IsS124.set_2 | refine IsS124.far ?_ NB0_203.out _ | refine IsS124.far ?_ NB0_213.out _) | exact HI0.out)) (sq HO_214001.out) (by decide)) hk (fun _ h => h.2)) (fun _ h => h.1))
         have n2_ := Ak (KeepBut.blk hk (g' := gb203) (o := .cells #[.slice none 0 0, .slice none 0 0] 26 (0, 0)) (bq BK203.out) NB203_0.out (by simp))
         have n3_ := Ak (KeepBut.blk hk (g' := gb213) (o := .cells #[u214000, .slice Ao74 x214001_1.length co74] 26 (0, 0)) (bq BK213.out) NB213_0.out (by simp))
         have n4_ := Ak (Kd.R_mono (Kd.R_keep (IsS124.apart (show IsS124 w0 _ g s0_0 t243 t244 from by repeat (first | (with_reducible first | exact HI0.out | apply IsS124.alloc | apply IsS124.drewN | apply IsS124.drew | apply IsS124.set_1 | apply IsS124.set_2 | refine IsS124.far ?_ NB0_203.out _ | refine IsS124.far ?_ NB0_213.out _) | exact HI0.out)) (rq HO256.out) (by decide)) hk (fun _ h => h.2)) (fun _ h => h.1))
         have n5_ := Ak (Kd.R_mono (Kd.R_keep (IsS124.apart (show IsS124 w0 _ g s0_0 t243 t244 from by repeat (first | (with_reducible first | exact HI0.out | apply IsS124.alloc | apply IsS124.drewN | apply IsS124.drew | apply IsS124.set_1 | apply IsS124.set_2 | refine IsS124.far ?_ NB0_203.out _ | refine IsS124.far ?_ NB0_213.out _) | exact HI0.out)) (rq HO250.out) (by decide)) hk (fun _ h => h.2)) (fun _ h => h.1))
         have n6_ := Ak (KeepBut.trans (kq2 HK.out GW203.out GW213.out) hk (.inl rfl))
         have n7_ := Ak (hb)
         have n8_ := Ak (hi)
         clear HO_214000
         clear HO_214001
         clear BK203
         clear BK213
         clear HO256
         clear HO250
         clear HK
         clear HB
         clear HI0
         have HO_214000 := n0_
         have HO_214001 := n1_
         have BK203 := n2_
         have BK213 := n3_
         have HO256 := n4_
         have HO250 := n5_
         have HK := n6_
         have HB := n7_
         have HI0 := n8_
         clear n0_ n1_ n2_ n3_ n4_ n5_ n6_ n7_ n8_
         refine hK.out _ _ ⟨(blk_cell BK213.out 0).trans rfl, (blk_cell BK213.out 1).trans rfl⟩ (fun hHeld => ?_)
         clear hK K
         refine norm_ (a' := ?_) ?_ ?_
         rotate_left
         ·show Act.put _ (some 44) _ = _
          simp only [Act.put, sT, sZ, sS, i64_w, i32_w]
          rfl
         exact norm_ (by simp only [putAll, Act.put, sT, sZ, sS]) (hCont (.slice Ao80 y248.length co80, v255) _ ⟨hHeld, (by (with_reducible repeat (first | apply Kd.R_alloc | apply Kd.R_drewN | apply Kd.R_drew)); exact Kd.R_mono HO250.out (fun _ hk => hk.2)), (by (with_reducible repeat (first | apply Kd.R_alloc | apply Kd.R_drewN | apply Kd.R_drew)); exact Kd.R_mono HO256.out (fun _ hk => hk.2)), (qq HO_214000.out), (sq HO_214001.out), (bq BK203.out), (bq BK213.out), (by repeat (first | (with_reducible first | exact HI0.out | apply IsS124.alloc | apply IsS124.drewN | apply IsS124.drew | apply IsS124.set_1 | apply IsS124.set_2 | refine IsS124.far ?_ NB0_203.out _ | refine IsS124.far ?_ NB0_213.out _) | exact HI0.out)), (kq2 HK.out GW203.out GW213.out), (bw3 HB.out (IsS124.ge HI0.out) GE203.out GE213.out)⟩)
       rintro ⟨v249, v255⟩ w82 ⟨hS_, h0_, h1_, h2_, h3_, h4_, h5_, h6_, h7_, h8_⟩
       have n0_ : Aside0 (Kd.R (Kd.int .i64) 3 w82 w.heap.size (fun k_ => some k_ ≠ (v255 : Value).ownBlock) v249 y248) := ⟨h0_⟩
       have n1_ : Aside0 (Kd.R (Kd.int .i64) 3 w82 w.heap.size (fun k_ => some k_ ≠ (v249 : Value).ownBlock) v255 y254) := ⟨h1_⟩
       have n2_ : Aside0 (Kd.Q (Kd.int .u8) 5 w82 w.heap.size (fun _ => True) u214000 x214000_1) := ⟨h2_⟩
       have n3_ : Aside0 (Kd.S k34 34 w82 w.heap.size (fun k_ => some k_ ≠ (u214000 : Value).ownBlock) (.slice Ao74 x214001_1.length co74) x214001_1) := ⟨h3_⟩
       have n4_ : Aside0 (w82.heap[gb203]? = some (.cells #[.slice none 0 0, .slice none 0 0] 26 (0, 0))) := ⟨h4_⟩
       have n5_ : Aside0 (w82.heap[gb213]? = some (.cells #[u214000, .slice Ao74 x214001_1.length co74] 26 (0, 0))) := ⟨h5_⟩
       have n6_ : Aside0 (IsS124 w0 w82 g s0_0 t252 t253) := ⟨h6_⟩
       have n7_ : Aside0 (KeepBut w w82 g none) := ⟨h7_⟩
       have n8_ : Aside0 (Below w0.heap.size w0 w82) := ⟨h8_⟩
       clear HO_214000
       clear HO_214001
       clear BK203
       clear BK213
       clear HI0
       clear HK
       clear HB
       clear h0_ h1_ h2_ h3_ h4_ h5_ h6_ h7_ h8_
       have HO250 := n0_
       have HO256 := n1_
       have HO_214000 := n2_
       have HO_214001 := n3_
       have BK203 := n4_
       have BK213 := n5_
       have HI0 := n6_
       have HK := n7_
       have HB := n8_
       clear n0_ n1_ n2_ n3_ n4_ n5_ n6_ n7_ n8_
       have hHeld : w82.cell? ⟨gb213, 0, none⟩ = some (u214000) ∧ w82.cell? ⟨gb213, 1, none⟩ = some (.slice Ao74 x214001_1.length co74) := hS_
       obtain ⟨Ao83, co83, eo83⟩ := Kd.R_slice HO256.out
       (first | subst eo83 | (injection eo83 with f1_ f2_ f3_; have f4_ := f1_.symm; have f5_ := f3_.symm; clear f1_ f2_ f3_; subst f4_; subst f5_))
       refine norm_ (a' := ?_) ?_ ?_
       rotate_left
       ·simp only [putAll, Act.put, sT, sZ, sS]
        rfl
       refine one_ (i := 8) (N := some 48) #[true, true, true, true, true, true, true, true, true, false, false, false, false, false, false] rfl rfl (one_of HT_.out (by kernel_rfl)) (by decide) (fun K hK => ?_)
       refine goes_ Try.func95 (by kernel_rfl) rfl #[.pointer (some ⟨g, 0, none⟩), .slice Ao83 y254.length co83] (by rfl) rfl rfl gm ?_
       with_reducible refine (spec_l1Int.calls g s0_0 t252 t253 _ _ y254 t257 t258 t259 w0 _ ?side1 ?side2 ?side3 ?side4 ?side5 A70.out).mono ?_
       (case side1 => repeat (first | (with_reducible first | exact HI0.out | apply IsS124.alloc | apply IsS124.drewN | apply IsS124.drew | apply IsS124.set_1 | apply IsS124.set_2 | refine IsS124.far ?_ NB0_203.out _ | refine IsS124.far ?_ NB0_213.out _) | exact HI0.out))
       (case side2 => repeat (first | (with_reducible first | exact HB.out | apply below_alloc | apply pw_below_drewN | apply below_drew1 | refine below_set ?_ (IsS124.ge HI0.out) | refine below_set ?_ GE203.out | refine below_set ?_ GE213.out) | exact HB.out))
       (case side3 => repeat (first | exact (Kd.R_reads' HO256.out).2.2 | (with_reducible refine Kd.C_alloc ?_ _) | (with_reducible refine Kd.C_drewN ?_ _) | (with_reducible refine Kd.C_drew ?_)))
       (case side4 => exact (Kd.R_reads' HO256.out).2.1)
       (case side5 => exact far_slice (IsS124.own_ne HI0.out HO256.out (by decide)))
       rintro e w84 ⟨rfl, hi, hb, hk⟩
       refine ⟨_, rfl, ?_⟩
       have n0_ := Ak (Kd.Q_mono (Kd.Q_keep (IsS124.apartQ (show IsS124 w0 _ g s0_0 t252 t253 from by repeat (first | (with_reducible first | exact HI0.out | apply IsS124.alloc | apply IsS124.drewN | apply IsS124.drew | apply IsS124.set_1 | apply IsS124.set_2 | refine IsS124.far ?_ NB0_203.out _ | refine IsS124.far ?_ NB0_213.out _) | exact HI0.out)) (qq HO_214000.out) (by decide)) hk (fun _ h => h.2)) (fun _ h => h.1))
       have n1_ := Ak (Kd.S_mono (Kd.S_keep (IsS124.apartS (show IsS124 w0 _ g s0_0 t252 t253 from by repeat (first | (with_reducible first | exact HI0.out | apply IsS124.alloc | apply IsS124.drewN | apply IsS124.drew | apply IsS124.set_1 | apply IsS124.set_2 | refine IsS124.far ?_ NB0_203.out _ | refine IsS124.far ?_ NB0_213.out _) | exact HI0.out)) (sq HO_214001.out) (by decide)) hk (fun _ h => h.2)) (fun _ h => h.1))
       have n2_ := Ak (KeepBut.blk hk (g' := gb203) (o := .cells #[.slice none 0 0, .slice none 0 0] 26 (0, 0)) (bq BK203.out) NB203_0.out (by simp))
       have n3_ := Ak (KeepBut.blk hk (g' := gb213) (o := .cells #[u214000, .slice Ao74 x214001_1.length co74] 26 (0, 0)) (bq BK213.out) NB213_0.out (by simp))
       have n4_ := Ak (Kd.R_mono (Kd.R_keep (IsS124.apart (show IsS124 w0 _ g s0_0 t252 t253 from by repeat (first | (with_reducible first | exact HI0.out | apply IsS124.alloc | apply IsS124.drewN | apply IsS124.drew | apply IsS124.set_1 | apply IsS124.set_2 | refine IsS124.far ?_ NB0_203.out _ | refine IsS124.far ?_ NB0_213.out _) | exact HI0.out)) (rq HO250.out) (by decide)) hk (fun _ h => h.2)) (fun _ h => h.1))
       have n5_ := Ak (Kd.R_mono (Kd.R_keep (IsS124.apart (show IsS124 w0 _ g s0_0 t252 t253 from by repeat (first | (with_reducible first | exact HI0.out | apply IsS124.alloc | apply IsS124.drewN | apply IsS124.drew | apply IsS124.set_1 | apply IsS124.set_2 | refine IsS124.far ?_ NB0_203.out _ | refine IsS124.far ?_ NB0_213.out _) | exact HI0.out)) (rq HO256.out) (by decide)) hk (fun _ h => h.2)) (fun _ h => h.1))
       have n6_ := Ak (KeepBut.trans (kq2 HK.out GW203.out GW213.out) hk (.inl rfl))
       have n7_ := Ak (hb)
       have n8_ := Ak (hi)
       clear HO_214000
       clear HO_214001
       clear BK203
       clear BK213
       clear HO250
       clear HO256
       clear HK
       clear HB
       clear HI0
       have HO_214000 := n0_
       have HO_214001 := n1_
       have BK203 := n2_
       have BK213 := n3_
       have HO250 := n4_
       have HO256 := n5_
       have HK := n6_
       have HB := n7_
       have HI0 := n8_
       clear n0_ n1_ n2_ n3_ n4_ n5_ n6_ n7_ n8_
       refine hK.out _ _ ⟨(blk_cell BK213.out 0).trans rfl, (blk_cell BK213.out 1).trans rfl⟩ (fun hHeld => ?_)
       clear hK K
       refine norm_ (a' := ?_) ?_ ?_
       rotate_left
       ·show Act.put _ (some 48) _ = _
        simp only [Act.put, sT, sZ, sS, i64_w, i32_w]
        rfl
       refine one_ (i := 9) (N := some 49) #[true, true, true, true, true, true, true, true, true, true, false, false, false, false, false] rfl rfl (one_of HT_.out (by kernel_rfl)) (by decide) (fun K hK => ?_)
       refine goes_ Try.func55 (by kernel_rfl) rfl #[.pointer (some ⟨g, 0, none⟩), .int .i64 t257] (by rfl) rfl rfl gm ?_
       with_reducible refine (spec_l1Bytes.calls k1 g s0_0 t258 t259 t257 t260 t263 t264 w0 _ ?side1 ?side2 A71.out).mono ?_
       (case side1 => repeat (first | (with_reducible first | exact HI0.out | apply IsS124.alloc | apply IsS124.drewN | apply IsS124.drew | apply IsS124.set_1 | apply IsS124.set_2 | refine IsS124.far ?_ NB0_203.out _ | refine IsS124.far ?_ NB0_213.out _) | exact HI0.out))
       (case side2 => repeat (first | (with_reducible first | exact HB.out | apply below_alloc | apply pw_below_drewN | apply below_drew1 | refine below_set ?_ (IsS124.ge HI0.out) | refine below_set ?_ GE203.out | refine below_set ?_ GE213.out) | exact HB.out))
       rintro e w85 ⟨v261, rfl, ho0, hi, hb, hk⟩
       refine ⟨_, rfl, ?_⟩
       have n0_ := Ak (Kd.Q_mono (Kd.Q_told (Kd.Q_oldK (IsS124.apartQ (show IsS124 w0 _ g s0_0 t258 t259 from by repeat (first | (with_reducible first | exact HI0.out | apply IsS124.alloc | apply IsS124.drewN | apply IsS124.drew | apply IsS124.set_1 | apply IsS124.set_2 | refine IsS124.far ?_ NB0_203.out _ | refine IsS124.far ?_ NB0_213.out _) | exact HI0.out)) (qq HO_214000.out) (by decide)) hk) (Kd.R_base ho0)) (fun _ h_ => h_.1))
       have n1_ := Ak (Kd.S_mono (Kd.S_told (Kd.S_oldK (IsS124.apartS (show IsS124 w0 _ g s0_0 t258 t259 from by repeat (first | (with_reducible first | exact HI0.out | apply IsS124.alloc | apply IsS124.drewN | apply IsS124.drew | apply IsS124.set_1 | apply IsS124.set_2 | refine IsS124.far ?_ NB0_203.out _ | refine IsS124.far ?_ NB0_213.out _) | exact HI0.out)) (sq HO_214001.out) (by decide)) hk) (Kd.R_base ho0)) (fun _ h_ => h_.1))
       have n2_ := Ak (KeepBut.blk hk (g' := gb203) (o := .cells #[.slice none 0 0, .slice none 0 0] 26 (0, 0)) (bq BK203.out) NB203_0.out (by simp))
       have n3_ := Ak (KeepBut.blk hk (g' := gb213) (o := .cells #[u214000, .slice Ao74 x214001_1.length co74] 26 (0, 0)) (bq BK213.out) NB213_0.out (by simp))
       have n4_ := Ak (Kd.R_mono (Kd.R_keep (IsS124.apart (show IsS124 w0 _ g s0_0 t258 t259 from by repeat (first | (with_reducible first | exact HI0.out | apply IsS124.alloc | apply IsS124.drewN | apply IsS124.drew | apply IsS124.set_1 | apply IsS124.set_2 | refine IsS124.far ?_ NB0_203.out _ | refine IsS124.far ?_ NB0_213.out _) | exact HI0.out)) (rq HO250.out) (by decide)) hk (fun _ h => h.2)) (fun _ h => h.1))
       have n5_ := Ak (Kd.R_mono (Kd.R_keep (IsS124.apart (show IsS124 w0 _ g s0_0 t258 t259 from by repeat (first | (with_reducible first | exact HI0.out | apply IsS124.alloc | apply IsS124.drewN | apply IsS124.drew | apply IsS124.set_1 | apply IsS124.set_2 | refine IsS124.far ?_ NB0_203.out _ | refine IsS124.far ?_ NB0_213.out _) | exact HI0.out)) (rq HO256.out) (by decide)) hk (fun _ h => h.2)) (fun _ h => h.1))
       have n6_ := Ak (Kd.R_lower (Kd.R_new' ho0 (Kd.Q_lt (qq HO_214000.out))) (keep_size (w := w) (g := g) (row := none) (kq2 HK.out GW203.out GW213.out)))
       have n7_ := Ak (KeepBut.trans (kq2 HK.out GW203.out GW213.out) hk (.inl rfl))
       have n8_ := Ak (hb)
       have n9_ := Ak (hi)
       clear HO_214000
       clear HO_214001
       clear BK203
       clear BK213
       clear HO250
       clear HO256
       clear HK
       clear HB
       clear HI0
       have HO_214000 := n0_
       have HO_214001 := n1_
       have BK203 := n2_
       have BK213 := n3_
       have HO250 := n4_
       have HO256 := n5_
       have HO262 := n6_
       have HK := n7_
       have HB := n8_
       have HI0 := n9_
       clear n0_ n1_ n2_ n3_ n4_ n5_ n6_ n7_ n8_ n9_
       obtain ⟨Ao86, co86, eo86⟩ := Kd.R_slice HO262.out
       (first | subst eo86 | (injection eo86 with f1_ f2_ f3_; have f4_ := f1_.symm; have f5_ := f3_.symm; clear f1_ f2_ f3_; subst f4_; subst f5_))
       refine hK.out _ _ ⟨(blk_cell BK213.out 0).trans rfl, (blk_cell BK213.out 1).trans rfl⟩ (fun hHeld => ?_)
       clear hK K
       refine norm_ (a' := ?_) ?_ ?_
       rotate_left
       ·show Act.put _ (some 49) _ = _
        simp only [Act.put, sT, sZ, sS, i64_w, i32_w]
        rfl
       refine pure_ (i := 10) (N := some 50) (v := ?_) (a' := ?_) #[true, true, true, true, true, true, true, true, true, true, true, false, false, false, false] rfl rfl (any_of HT_.out (by kernel_rfl)) (fun _ _ _ h => h) (Or.inl ⟨by rfl, ?_⟩) ?_ ?_
       rotate_left
       ·intro w'
        go_simp
        with_reducible rfl
       rotate_left
       ·simp only [Act.put, sT, sZ, sS, i64_w, i32_w]
        rfl
       refine one_ (i := 11) (N := some 51) #[true, true, true, true, true, true, true, true, true, true, true, true, false, false, false] rfl rfl (one_of HT_.out (by kernel_rfl)) (by decide) (fun K hK => ?_)
       refine value_ (w1 := ?_) (v := ?_) (by rfl) rfl ?_ ?_
       rotate_left 2
       ·go_simp
        constructor
        ·rfl
        ·rfl
       refine hK.out _ _ ⟨(blk_cell (blk_alloc BK213.out _) 0).trans rfl, (blk_cell (blk_alloc BK213.out _) 1).trans rfl⟩ (fun hHeld => ?_)
       clear hK K
       refine norm_ (a' := ?_) ?_ ?_
       rotate_left
       ·show Act.put _ (some 51) _ = _
        simp only [Act.put, sT, sZ, sS, i64_w, i32_w]
        rfl
       refine one_ (i := 12) (N := some 52) #[true, true, true, true, true, true, true, true, true, true, true, true, true, false, false] rfl rfl (one_of HT_.out (by kernel_rfl)) (by decide) (fun K hK => ?_)
       refine Kd.S_append_step k34 w.heap.size (by rfl) (.tmp 41) (.tmp 51) 24 34 (.agg #[(.int .i64 0), (.slice none 0 0)]) 32 rfl Try.underlying24 info34 rfl (by decide) (by omega) (.slice Ao74 x214001_1.length co74) x214001_1 (⟨t251, t260⟩ : S34) [.int .i64 t251, .slice Ao86 t260.length co86] (fun k_ => some k_ ≠ (u214000 : Value).ownBlock) (fun k_ => some k_ = (.slice Ao86 t260.length co86 : Value).ownBlock) rfl rfl ?aP (fun k_ hk_ => ((Kd.R_mono (ok' := fun k_ => ((fun k_ => some k_ ≠ (u214000 : Value).ownBlock)) k_ ∧ some k_ ≠ (.slice Ao74 x214001_1.length co74 : Value).ownBlock) (Kd.R_apart' (HO262.out) (Kd.S_typed HO_214001.out) (by decide)) (fun k_ hk => ⟨hk.1.2, hk.2⟩))).1 k_ hk_.symm) ?aF ?aO (Below.refl _ _) ?aS ?aL ?_
       (case aP => exact k34_mkM _ _ _ (⟨t251, t260⟩ : S34) (Kd.R_mono (Kd.R_tight rfl (Kd.R_mono (ok' := fun k_ => ((fun k_ => some k_ ≠ (u214000 : Value).ownBlock)) k_ ∧ some k_ ≠ (.slice Ao74 x214001_1.length co74 : Value).ownBlock) (Kd.R_apart' (HO262.out) (Kd.S_typed HO_214001.out) (by decide)) (fun k_ hk => ⟨hk.1.2, hk.2⟩))) (fun _ h_ => h_)))
       (case aF => exact (fun k_ hk => Kd.fresh' (Kd.Q_lt (qq HO_214000.out)) k_ hk))
       (case aO => exact (by (with_reducible repeat (first | apply Kd.S_alloc | apply Kd.S_drewN | apply Kd.S_drew)); exact Kd.S_mono HO_214001.out (fun k_ hk => ⟨hk.1, fun e_ => hk.2 e_⟩)))
       (case aS => exact (keep_size (w := w) (g := g) (row := none) (kq2 HK.out GW203.out GW213.out)))
       (case aL => have := LMc72.out; omega)
       intro v266 w87 ho hb hg hat
       rw [← Ny265.out] at ho
       have n0_ := Ak (Kd.Q_over' (qq HO_214000.out) (Kd.S_typed (sq HO_214001.out)) (by decide) hg)
       have n1_ := Ak (blk_grown (g := gb203) (o := .cells #[.slice none 0 0, .slice none 0 0] 26 (0, 0)) (bq BK203.out) hg (Kd.S_ne HO_214001.out BK203.out (by decide)))
       have n2_ := Ak (blk_grown (g := gb213) (o := .cells #[u214000, .slice Ao74 x214001_1.length co74] 26 (0, 0)) (bq BK213.out) hg (Kd.S_ne HO_214001.out BK213.out (by decide)))
       have n3_ := Ak (IsS124.grown (by repeat (first | (with_reducible first | exact HI0.out | apply IsS124.alloc | apply IsS124.drewN | apply IsS124.drew | apply IsS124.set_1 | apply IsS124.set_2 | refine IsS124.far ?_ NB0_203.out _ | refine IsS124.far ?_ NB0_213.out _) | exact HI0.out)) hg (IsS124.own_neS HI0.out HO_214001.out (by decide)))
       have n4_ := Ak (Kd.R_over' (rq HO250.out) (Kd.S_typed (sq HO_214001.out)) (by decide) hg)
       have n5_ := Ak (Kd.R_over' (rq HO256.out) (Kd.S_typed (sq HO_214001.out)) (by decide) hg)
       have n6_ := Ak (below_weaken (bw3 HB.out (IsS124.ge HI0.out) GE203.out GE213.out) HL.out hb)
       have n7_ := Ak (KeepBut.trans (kq2 HK.out GW203.out GW213.out) (KeepBut.of_grown hg g) (Kd.S_base2 HO_214001.out))
       have n8_ := Ak (ho)
       clear HO_214000
       clear BK203
       clear BK213
       clear HI0
       clear HO250
       clear HO256
       clear HB
       clear HK
       clear HO_214001
       clear HO262
       have HO_214000 := n0_
       have BK203 := n1_
       have BK213 := n2_
       have HI0 := n3_
       have HO250 := n4_
       have HO256 := n5_
       have HB := n6_
       have HK := n7_
       have HO267 := n8_
       clear n0_ n1_ n2_ n3_ n4_ n5_ n6_ n7_ n8_
       clear ho hb hg hat
       obtain ⟨Ao88, co88, eo88⟩ := Kd.S_slice HO267.out
       (first | subst eo88 | (injection eo88 with f1_ f2_ f3_; have f4_ := f1_.symm; have f5_ := f3_.symm; clear f1_ f2_ f3_; subst f4_; subst f5_))
       refine hK.out _ _ ⟨(blk_cell BK213.out 0).trans rfl, (blk_cell BK213.out 1).trans rfl⟩ (fun hHeld => ?_)
       clear hK K
       refine norm_ (a' := ?_) ?_ ?_
       rotate_left
       ·show Act.put _ (some 52) _ = _
        simp only [Act.put, sT, sZ, sS, i64_w, i32_w]
        rfl
       refine pure_ (i := 13) (N := some 53) (v := ?_) (a' := ?_) #[true, true, true, true, true, true, true, true, true, true, true, true, true, true, false] rfl rfl (any_of HT_.out (by kernel_rfl)) (fun _ _ _ h => h) (Or.inl ⟨by rfl, ?_⟩) ?_ ?_
       rotate_left
       ·intro w'
        go_simp
        with_reducible rfl
       rotate_left
       ·simp only [Act.put, sT, sZ, sS, i64_w, i32_w]
        rfl
       refine last_ (i := 14) (N := none) #[true, true, true, true, true, true, true, true, true, true, true, true, true, true, true] rfl rfl (one_of HT_.out (by kernel_rfl)) (by decide) (fun K hK => ?_)
       have hs89 : w87.cell? ⟨gb213, 1, none⟩ = some (.slice Ao74 x214001_1.length co74) := (blk_cell BK213.out 1).trans rfl
       have hfs89 := blk_frozen BK213.out 1
       have hns89_0 := NB203_213.out
       have hms89_0 := NB213_203.out
       refine skip_ (w1 := ?_) (by rfl) rfl ?_ ?_
       rotate_left
       ·go_simp
        rfl
       refine hK.out _ _ ?_
       clear hK K
       refine done_ (done_of HT_.out (by kernel_rfl)) ?_
       have hnb90 := NB213_203.out
       have hnc90 := NB203_213.out
       have hnb91 := NB213_0.out
       have hnc91 := NB0_213.out
       have hcz92_0 : w87.cell? ⟨gb213, 0, none⟩ = some (u214000) := (blk_cell BK213.out 0).trans rfl
       have hcz92_1 : w87.cell? ⟨gb213, 1, none⟩ = some (.slice Ao74 x214001_1.length co74) := (blk_cell BK213.out 1).trans rfl
       have hfz92_0 := blk_frozen BK213.out 0
       have hfz92_1 := blk_frozen BK213.out 1
       obtain ⟨Ao93, co93, eo93, _⟩ := Kd.Q_slice HO_214000.out
       subst eo93
       have hnb94 := NB203_0.out
       have hnc94 := NB0_203.out
       have hcz95_0 : w87.cell? ⟨gb203, 0, none⟩ = some (.slice none 0 0) := (blk_cell BK203.out 0).trans rfl
       have hcz95_1 : w87.cell? ⟨gb203, 1, none⟩ = some (.slice none 0 0) := (blk_cell BK203.out 1).trans rfl
       have hfz95_0 := blk_frozen BK203.out 0
       have hfz95_1 := blk_frozen BK203.out 1
       try go_wp2
       refine bodyPost_ret (results_cell_row rfl _ _ gb203 26 #[.slice Ao93 x214000_1.length co93, .slice Ao88 y265.length co88] (0, 0) _ rfl (by (with_reducible repeat (first | refine blk_drewN ?_ _ | refine blk_drew ?_ | refine blk_alloc ?_ _)); refine blk_put (cs := #[.slice Ao93 x214000_1.length co93, .slice none 0 0]) ?_ 1 _ rfl; (with_reducible repeat (first | refine blk_drewN ?_ _ | refine blk_drew ?_ | refine blk_alloc ?_ _)); refine blk_put (cs := #[.slice none 0 0, .slice none 0 0]) ?_ 0 _ rfl; (with_reducible repeat (first | refine blk_drewN ?_ _ | refine blk_drew ?_ | refine blk_alloc ?_ _)); refine blk_far ?_ NB203_213.out _; (with_reducible repeat (first | refine blk_drewN ?_ _ | refine blk_drew ?_ | refine blk_alloc ?_ _)); exact BK203.out) Try.underlying26 rfl (by kernel_rfl)) rfl ?_
       exact ⟨_, _, by first | rfl | (simp [errW_none, errW_some] <;> rfl) | (simp [*, errW_none, errW_some] <;> rfl), by (with_reducible repeat (first | apply Kd.Q_alloc | apply Kd.Q_drewN | apply Kd.Q_drew)); exact Kd.Q_mono (Kd.Q_far (p := ⟨gb203, 1, none⟩) (Kd.Q_far (p := ⟨gb203, 0, none⟩) (Kd.Q_far (p := ⟨gb213, 1, none⟩) (Kd.Q_types (Kd.Q_types HO_214000.out BK213.out (by decide)) BK203.out (by decide)) (fun _ hk => hk.1.2) (.slice Ao88 y265.length co88)) (fun _ hk => hk.2) (.slice Ao93 x214000_1.length co93)) (fun _ hk => hk.2) (.slice Ao88 y265.length co88)) (fun _ hk => trivial), by (with_reducible repeat (first | apply Kd.S_alloc | apply Kd.S_drewN | apply Kd.S_drew)); exact Kd.S_mono (Kd.S_far (p := ⟨gb203, 1, none⟩) (Kd.S_far (p := ⟨gb203, 0, none⟩) (Kd.S_far (p := ⟨gb213, 1, none⟩) (Kd.S_types (Kd.S_types HO267.out BK213.out (by decide)) BK203.out (by decide)) (fun _ hk => hk.1.2) (.slice Ao88 y265.length co88)) (fun _ hk => hk.2) (.slice Ao93 x214000_1.length co93)) (fun _ hk => hk.2) (.slice Ao88 y265.length co88)) (fun _ hk => hk.1.1), by repeat (first | (with_reducible first | exact HI0.out | apply IsS124.alloc | apply IsS124.drewN | apply IsS124.drew | apply IsS124.set_1 | apply IsS124.set_2 | refine IsS124.far ?_ NB0_203.out _ | refine IsS124.far ?_ NB0_213.out _) | exact HI0.out), bw3 HB.out (IsS124.ge HI0.out) GE203.out GE213.out, kq2 HK.out GW203.out GW213.out⟩
      ·rw [if_neg c72] at H
       exact absurd H (by simp)
     ·rw [if_neg c68] at H
      have c68b0 : (t242 == 1) = false := beq_eq_false_iff_ne.mpr c68
      have c68b1 : (t242 != 1) = true := bne_iff_ne.mpr c68
      by_cases c96 : t242 = 2
      ·rw [if_pos c96] at H
       have c96b0 : (t242 == 2) = true := beq_iff_eq.mpr c96
       have c96b1 : (t242 != 2) = false := bne_eq_false_iff_eq.mpr c96
       clear c96
       simp only [Option.some.injEq, Prod.mk.injEq] at H
       obtain ⟨rfl, rfl, rfl, rfl⟩ := H
       go_wp2_with (first | ((with_reducible refine gate_callee (f := 56) rfl ?_); refine goesL_ (some 31) rfl rfl Try.func56 (by kernel_rfl) rfl #[.pointer (some ⟨g, 0, none⟩), .int .i64 20] rfl gm ?_; (with_reducible refine (spec_l1Below.calls g s0_0 x1001_1 x1002_1 20 t242 t243 t244 w0 _ ?side1 ?side2 A56.out).mono ?_); (case side1 => repeat (first | (with_reducible first | exact HI0.out | apply IsS124.alloc | apply IsS124.drewN | apply IsS124.drew | apply IsS124.set_1 | apply IsS124.set_2 | refine IsS124.far ?_ NB0_203.out _ | refine IsS124.far ?_ NB0_213.out _) | exact HI0.out)); (case side2 => repeat (first | (with_reducible first | exact HB.out | apply below_alloc | apply pw_below_drewN | apply below_drew1 | refine below_set ?_ (IsS124.ge HI0.out) | refine below_set ?_ GE203.out | refine below_set ?_ GE213.out) | exact HB.out)); rintro e w97 ⟨rfl, hi, hb, hk⟩; refine ⟨_, rfl, ?_⟩; have n0_ := Ak (Kd.Q_mono (Kd.Q_keep (IsS124.apartQ (show IsS124 w0 _ g s0_0 x1001_1 x1002_1 from by repeat (first | (with_reducible first | exact HI0.out | apply IsS124.alloc | apply IsS124.drewN | apply IsS124.drew | apply IsS124.set_1 | apply IsS124.set_2 | refine IsS124.far ?_ NB0_203.out _ | refine IsS124.far ?_ NB0_213.out _) | exact HI0.out)) (qq HO_214000.out) (by decide)) hk (fun _ h => h.2)) (fun _ h => h.1)); have n1_ := Ak (Kd.S_mono (Kd.S_keep (IsS124.apartS (show IsS124 w0 _ g s0_0 x1001_1 x1002_1 from by repeat (first | (with_reducible first | exact HI0.out | apply IsS124.alloc | apply IsS124.drewN | apply IsS124.drew | apply IsS124.set_1 | apply IsS124.set_2 | refine IsS124.far ?_ NB0_203.out _ | refine IsS124.far ?_ NB0_213.out _) | exact HI0.out)) (sq HO_214001.out) (by decide)) hk (fun _ h => h.2)) (fun _ h => h.1)); have n2_ := Ak (KeepBut.blk hk (g' := gb203) (o := .cells #[.slice none 0 0, .slice none 0 0] 26 (0, 0)) (bq BK203.out) NB203_0.out (by simp)); have n3_ := Ak (KeepBut.blk hk (g' := gb213) (o := .cells #[u214000, u214001] 26 (0, 0)) (bq BK213.out) NB213_0.out (by simp)); have n4_ := Ak (KeepBut.trans (kq2 HK.out GW203.out GW213.out) hk (.inl rfl)); have n5_ := Ak (hb); have n6_ := Ak (hi); clear HO_214000; clear HO_214001; clear BK203; clear BK213; clear HK; clear HB; clear HI0; have HO_214000 := n0_; have HO_214001 := n1_; have BK203 := n2_; have BK213 := n3_; have HK := n4_; have HB := n5_; have HI0 := n6_; clear n0_ n1_ n2_ n3_ n4_ n5_ n6_; have hnb98 := NB213_203.out; have hnc98 := NB203_213.out; have hnb99 := NB213_0.out; have hnc99 := NB0_213.out; have hcz100_0 : w97.cell? ⟨gb213, 0, none⟩ = some (u214000) := (blk_cell BK213.out 0).trans rfl; have hcz100_1 : w97.cell? ⟨gb213, 1, none⟩ = some (u214001) := (blk_cell BK213.out 1).trans rfl; have hfz100_0 := blk_frozen BK213.out 0; have hfz100_1 := blk_frozen BK213.out 1; have hnb101 := NB203_0.out; have hnc101 := NB0_203.out; have hcz102_0 : w97.cell? ⟨gb203, 0, none⟩ = some (.slice none 0 0) := (blk_cell BK203.out 0).trans rfl; have hcz102_1 : w97.cell? ⟨gb203, 1, none⟩ = some (.slice none 0 0) := (blk_cell BK203.out 1).trans rfl; have hfz102_0 := blk_frozen BK203.out 0; have hfz102_1 := blk_frozen BK203.out 1))
       refine bodyPost_ret (results_cell_row rfl _ _ gb203 26 #[.slice none 0 0, .slice none 0 0] (0, 0) _ rfl (by (with_reducible repeat (first | refine blk_drewN ?_ _ | refine blk_drew ?_ | refine blk_alloc ?_ _)); refine blk_put (cs := #[.slice none 0 0, .slice none 0 0]) ?_ 1 _ rfl; (with_reducible repeat (first | refine blk_drewN ?_ _ | refine blk_drew ?_ | refine blk_alloc ?_ _)); refine blk_put (cs := #[.slice none 0 0, .slice none 0 0]) ?_ 0 _ rfl; (with_reducible repeat (first | refine blk_drewN ?_ _ | refine blk_drew ?_ | refine blk_alloc ?_ _)); refine blk_far ?_ NB203_213.out _; (with_reducible repeat (first | refine blk_drewN ?_ _ | refine blk_drew ?_ | refine blk_alloc ?_ _)); refine blk_far ?_ NB203_213.out _; (with_reducible repeat (first | refine blk_drewN ?_ _ | refine blk_drew ?_ | refine blk_alloc ?_ _)); exact BK203.out) Try.underlying26 rfl (by kernel_rfl)) rfl ?_
       exact ⟨_, _, by first | rfl | (simp [errW_none, errW_some] <;> rfl) | (simp [*, errW_none, errW_some] <;> rfl), Kd.Q_of_R (by first | exact Kd.R_nil _ _ _ _ _ | exact Kd.N_nil _ _ _ _ _ | exact Kd.V_nil _ _ _ _ _ | exact Kd.Q_nil _ _ _ _ _ | exact Kd.S_nil _ _ _ _ _), by first | exact Kd.S_nil _ _ _ _ _ | exact Kd.N_nil _ _ _ _ _ | exact Kd.V_nil _ _ _ _ _ | exact Kd.Q_nil _ _ _ _ _ | exact Kd.R_nil _ _ _ _ _, by repeat (first | (with_reducible first | exact HI0.out | apply IsS124.alloc | apply IsS124.drewN | apply IsS124.drew | apply IsS124.set_1 | apply IsS124.set_2 | refine IsS124.far ?_ NB0_203.out _ | refine IsS124.far ?_ NB0_213.out _) | exact HI0.out), bw3 HB.out (IsS124.ge HI0.out) GE203.out GE213.out, kq2 HK.out GW203.out GW213.out⟩
      ·rw [if_neg c96] at H
       have c96b0 : (t242 == 2) = false := beq_eq_false_iff_ne.mpr c96
       have c96b1 : (t242 != 2) = true := bne_iff_ne.mpr c96
       simp only [Option.some.injEq, Prod.mk.injEq] at H
       obtain ⟨rfl, rfl, rfl, rfl⟩ := H
       go_wp2_with (first | ((with_reducible refine gate_callee (f := 56) rfl ?_); refine goesL_ (some 31) rfl rfl Try.func56 (by kernel_rfl) rfl #[.pointer (some ⟨g, 0, none⟩), .int .i64 20] rfl gm ?_; (with_reducible refine (spec_l1Below.calls g s0_0 x1001_1 x1002_1 20 t242 t243 t244 w0 _ ?side1 ?side2 A56.out).mono ?_); (case side1 => repeat (first | (with_reducible first | exact HI0.out | apply IsS124.alloc | apply IsS124.drewN | apply IsS124.drew | apply IsS124.set_1 | apply IsS124.set_2 | refine IsS124.far ?_ NB0_203.out _ | refine IsS124.far ?_ NB0_213.out _) | exact HI0.out)); (case side2 => repeat (first | (with_reducible first | exact HB.out | apply below_alloc | apply pw_below_drewN | apply below_drew1 | refine below_set ?_ (IsS124.ge HI0.out) | refine below_set ?_ GE203.out | refine below_set ?_ GE213.out) | exact HB.out)); rintro e w103 ⟨rfl, hi, hb, hk⟩; refine ⟨_, rfl, ?_⟩; have n0_ := Ak (Kd.Q_mono (Kd.Q_keep (IsS124.apartQ (show IsS124 w0 _ g s0_0 x1001_1 x1002_1 from by repeat (first | (with_reducible first | exact HI0.out | apply IsS124.alloc | apply IsS124.drewN | apply IsS124.drew | apply IsS124.set_1 | apply IsS124.set_2 | refine IsS124.far ?_ NB0_203.out _ | refine IsS124.far ?_ NB0_213.out _) | exact HI0.out)) (qq HO_214000.out) (by decide)) hk (fun _ h => h.2)) (fun _ h => h.1)); have n1_ := Ak (Kd.S_mono (Kd.S_keep (IsS124.apartS (show IsS124 w0 _ g s0_0 x1001_1 x1002_1 from by repeat (first | (with_reducible first | exact HI0.out | apply IsS124.alloc | apply IsS124.drewN | apply IsS124.drew | apply IsS124.set_1 | apply IsS124.set_2 | refine IsS124.far ?_ NB0_203.out _ | refine IsS124.far ?_ NB0_213.out _) | exact HI0.out)) (sq HO_214001.out) (by decide)) hk (fun _ h => h.2)) (fun _ h => h.1)); have n2_ := Ak (KeepBut.blk hk (g' := gb203) (o := .cells #[.slice none 0 0, .slice none 0 0] 26 (0, 0)) (bq BK203.out) NB203_0.out (by simp)); have n3_ := Ak (KeepBut.blk hk (g' := gb213) (o := .cells #[u214000, u214001] 26 (0, 0)) (bq BK213.out) NB213_0.out (by simp)); have n4_ := Ak (KeepBut.trans (kq2 HK.out GW203.out GW213.out) hk (.inl rfl)); have n5_ := Ak (hb); have n6_ := Ak (hi); clear HO_214000; clear HO_214001; clear BK203; clear BK213; clear HK; clear HB; clear HI0; have HO_214000 := n0_; have HO_214001 := n1_; have BK203 := n2_; have BK213 := n3_; have HK := n4_; have HB := n5_; have HI0 := n6_; clear n0_ n1_ n2_ n3_ n4_ n5_ n6_; have hnb104 := NB213_203.out; have hnc104 := NB203_213.out; have hnb105 := NB213_0.out; have hnc105 := NB0_213.out; have hcz106_0 : w103.cell? ⟨gb213, 0, none⟩ = some (u214000) := (blk_cell BK213.out 0).trans rfl; have hcz106_1 : w103.cell? ⟨gb213, 1, none⟩ = some (u214001) := (blk_cell BK213.out 1).trans rfl; have hfz106_0 := blk_frozen BK213.out 0; have hfz106_1 := blk_frozen BK213.out 1; obtain ⟨Ao107, co107, eo107, _⟩ := Kd.Q_slice HO_214000.out; subst eo107; have hnb108 := NB203_0.out; have hnc108 := NB0_203.out; have hcz109_0 : w103.cell? ⟨gb203, 0, none⟩ = some (.slice none 0 0) := (blk_cell BK203.out 0).trans rfl; have hcz109_1 : w103.cell? ⟨gb203, 1, none⟩ = some (.slice none 0 0) := (blk_cell BK203.out 1).trans rfl; have hfz109_0 := blk_frozen BK203.out 0; have hfz109_1 := blk_frozen BK203.out 1; obtain ⟨Ao110, co110, eo110⟩ := Kd.S_slice HO_214001.out; subst eo110))
       refine bodyPost_ret (results_cell_row rfl _ _ gb203 26 #[.slice Ao107 x214000_1.length co107, .slice Ao110 x214001_1.length co110] (0, 0) _ rfl (by (with_reducible repeat (first | refine blk_drewN ?_ _ | refine blk_drew ?_ | refine blk_alloc ?_ _)); refine blk_put (cs := #[.slice Ao107 x214000_1.length co107, .slice none 0 0]) ?_ 1 _ rfl; (with_reducible repeat (first | refine blk_drewN ?_ _ | refine blk_drew ?_ | refine blk_alloc ?_ _)); refine blk_put (cs := #[.slice none 0 0, .slice none 0 0]) ?_ 0 _ rfl; (with_reducible repeat (first | refine blk_drewN ?_ _ | refine blk_drew ?_ | refine blk_alloc ?_ _)); exact BK203.out) Try.underlying26 rfl (by kernel_rfl)) rfl ?_
       exact ⟨_, _, by first | rfl | (simp [errW_none, errW_some] <;> rfl) | (simp [*, errW_none, errW_some] <;> rfl), by (with_reducible repeat (first | apply Kd.Q_alloc | apply Kd.Q_drewN | apply Kd.Q_drew)); exact Kd.Q_mono (Kd.Q_far (p := ⟨gb203, 1, none⟩) (Kd.Q_far (p := ⟨gb203, 0, none⟩) (Kd.Q_types HO_214000.out BK203.out (by decide)) (fun _ hk => hk.2) (.slice Ao107 x214000_1.length co107)) (fun _ hk => hk.2) (.slice Ao110 x214001_1.length co110)) (fun _ hk => trivial), by (with_reducible repeat (first | apply Kd.S_alloc | apply Kd.S_drewN | apply Kd.S_drew)); exact Kd.S_mono (Kd.S_far (p := ⟨gb203, 1, none⟩) (Kd.S_far (p := ⟨gb203, 0, none⟩) (Kd.S_types HO_214001.out BK203.out (by decide)) (fun _ hk => hk.2) (.slice Ao107 x214000_1.length co107)) (fun _ hk => hk.2) (.slice Ao110 x214001_1.length co110)) (fun _ hk => hk.1), by repeat (first | (with_reducible first | exact HI0.out | apply IsS124.alloc | apply IsS124.drewN | apply IsS124.drew | apply IsS124.set_1 | apply IsS124.set_2 | refine IsS124.far ?_ NB0_203.out _ | refine IsS124.far ?_ NB0_213.out _) | exact HI0.out), bw3 HB.out (IsS124.ge HI0.out) GE203.out GE213.out, kq2 HK.out GW203.out GW213.out⟩

end Go.Proofs.Ytinilabmffjnaaa.PFnDisk
