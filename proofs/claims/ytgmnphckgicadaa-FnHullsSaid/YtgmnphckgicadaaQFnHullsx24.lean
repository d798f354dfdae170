/- The functions that the law FnHulls reaches, each with what it computes and its contract. -/
import Derived.Test.YtgmnphckgicadaaQFnHullsx0
import Derived.Test.YtgmnphckgicadaaQFnHullsx21
import Derived.Test.YtgmnphckgicadaaQFnHullsx23
namespace Go.Proofs.Ytgmnphckgicadaa.PFnHulls
open Go.RowKit Go.Proofs.YtgmnphckgicadaaW.PrintWords Go.Proofs.YtgmnphckgicadaaW.PrintLast Go.Proofs.YtgmnphckgicadaaW.PrintMore
attribute [local go_sem] max2_int min2_int max_two min_two max_three min_three max_four min_four
set_option linter.unusedVariables false
set_option linter.unusedSimpArgs false

def impl_OnSeg.f (a0_0 : Int) (a0_1 : Int) (a1_0 : Int) (a1_1 : Int) (a2_0 : Int) (a2_1 : Int) : Option (Bool) := (impl_taken.f a0_0 a0_1).bind fun bt410 => ((impl_taken.f a1_0 a1_1).bind fun bt412 => ((impl_taken.f a2_0 a2_1).bind fun bt414 => ((impl_onSeg.f bt410.1 bt410.2 bt412.1 bt412.2 bt414.1 bt414.2).bind fun t416 => (some t416))))
def impl_OnSeg.T1 : Bool × List (List Nat × List Nat) := (true, [([], []), ([0], [0]), ([], []), ([2, 1], [2]), ([], []), ([4, 3], [4]), ([1, 3, 5, 5], [1, 3, 5]), ([6, 6, 0, 1, 2, 3, 4, 5, 6], [6])])
def impl_OnSeg.B1 : List Nat := [0, 1, 0, 7, 0, 31, 63, 127]
theorem impl_OnSeg.tab1 : rtab .any (opsOf Try.f40 1) = impl_OnSeg.T1 := by kernel_rfl
theorem impl_OnSeg.bits1 : waitsOk impl_OnSeg.T1.2 impl_OnSeg.B1 = true := by kernel_rfl
set_option maxHeartbeats 8000000 in
set_option maxRecDepth 100000 in
theorem impl_OnSeg.calls (a0_0 : Int) (a0_1 : Int) (a1_0 : Int) (a1_1 : Int) (a2_0 : Int) (a2_1 : Int) (r : Bool) (w : World) (h : impl_OnSeg.f a0_0 a0_1 a1_0 a1_1 a2_0 a2_1 = some r) :
  Calls Try.prog 40 #[.agg #[.int .i64 a0_0, .int .i64 a0_1], .agg #[.int .i64 a1_0, .int .i64 a1_1], .agg #[.int .i64 a2_0, .int .i64 a2_1]] w fun e w' => e = .returned (.bool r) ∧ Below w.heap.size w w' := by
 have hu67 := Try.underlying67
 have HB := Ak (Below.refl w.heap.size w)
 have H : ((impl_taken.f a0_0 a0_1).bind fun bt410 => ((impl_taken.f a1_0 a1_1).bind fun bt412 => ((impl_taken.f a2_0 a2_1).bind fun bt414 => ((impl_onSeg.f bt410.1 bt410.2 bt412.1 bt412.2 bt414.1 bt414.2).bind fun t416 => (some t416))))) = some r := h
 clear h
 replace H := Option.bind_eq_some_iff.mp H
 obtain ⟨⟨t410, t411⟩, A40, H⟩ := H
 (try dsimp only at H)
 have A4 := Ak A40
 clear A40
 replace H := Option.bind_eq_some_iff.mp H
 obtain ⟨⟨t412, t413⟩, A50, H⟩ := H
 (try dsimp only at H)
 have A5 := Ak A50
 clear A50
 replace H := Option.bind_eq_some_iff.mp H
 obtain ⟨⟨t414, t415⟩, A60, H⟩ := H
 (try dsimp only at H)
 have A6 := Ak A60
 clear A60
 replace H := Option.bind_eq_some_iff.mp H
 obtain ⟨t416, A70, H⟩ := H
 have A7 := Ak A70
 clear A70
 obtain rfl := Option.some.inj H
 go_enter Try.func40, Try.ntmps40
 try go_wp2_with (first | ((with_reducible refine gate_dst (N := 3) rfl ?_); refine box_event ?hg (N := 3) ?hd (cs := #[.int .i64 a0_0, .int .i64 a0_1]) (t := 67) ?hr ?_; (case hd => rfl); (case hg => rfl); (case hr => first | (go_simp; done) | (go_simp; rfl)); intro gb407 hg w8 hbox hb; have BK407 := Ak (hbox); have GW407 := Ak ((zb hg (bw HB.out))); have GE407 := Ak ((zb hg (bw HB.out))); replace HB := Ak (below_step (bw HB.out) hb); clear hb hbox hg) | ((with_reducible refine gate_dst (N := 4) rfl ?_); refine box_event ?hg (N := 4) ?hd (cs := #[.int .i64 a1_0, .int .i64 a1_1]) (t := 67) ?hr ?_; (case hd => rfl); (case hg => rfl); (case hr => first | (go_simp; done) | (go_simp; rfl)); intro gb408 hg w9 hbox hb; have BK408 := Ak (hbox); have GW408 := Ak ((zb hg (bw1 HB.out GE407.out))); have GE408 := Ak ((zb hg (bw1 HB.out GE407.out))); replace HB := Ak (below_step (bw1 HB.out GE407.out) hb); have NB407_408 := Ak ((zl hg (bq BK407.out))); have NB408_407 := Ak ((zm hg (bq BK407.out))); replace BK407 := Ak (blk_below (bq BK407.out) hb); clear hb hbox hg) | ((with_reducible refine gate_dst (N := 5) rfl ?_); refine box_event ?hg (N := 5) ?hd (cs := #[.int .i64 a2_0, .int .i64 a2_1]) (t := 67) ?hr ?_; (case hd => rfl); (case hg => rfl); (case hr => first | (go_simp; done) | (go_simp; rfl)); intro gb409 hg w10 hbox hb; have BK409 := Ak (hbox); have GW409 := Ak ((zb hg (bw2 HB.out GE407.out GE408.out))); have GE409 := Ak ((zb hg (bw2 HB.out GE407.out GE408.out))); replace HB := Ak (below_step (bw2 HB.out GE407.out GE408.out) hb); have NB407_409 := Ak ((zl hg (bq BK407.out))); have NB409_407 := Ak ((zm hg (bq BK407.out))); replace BK407 := Ak (blk_below (bq BK407.out) hb); have NB408_409 := Ak ((zl hg (bq BK408.out))); have NB409_408 := Ak ((zm hg (bq BK408.out))); replace BK408 := Ak (blk_below (bq BK408.out) hb); clear hb hbox hg))
 replace BK407 := Ak (blk_drew BK407.out)
 replace BK408 := Ak (blk_drew BK408.out)
 replace BK409 := Ak (blk_drew BK409.out)
 replace HB := Ak (below_drew1 HB.out)
 refine start_ (n := 8) (S := fun w' => w'.cell? ⟨gb407, 0, none⟩ = some (.int .i64 a0_0) ∧ w'.cell? ⟨gb407, 1, none⟩ = some (.int .i64 a0_1) ∧ w'.cell? ⟨gb408, 0, none⟩ = some (.int .i64 a1_0) ∧ w'.cell? ⟨gb408, 1, none⟩ = some (.int .i64 a1_1) ∧ w'.cell? ⟨gb409, 0, none⟩ = some (.int .i64 a2_0) ∧ w'.cell? ⟨gb409, 1, none⟩ = some (.int .i64 a2_1)) (ds := []) #[false, false, false, false, false, false, false, false] (by kernel_rfl) rfl rfl ⟨zk0 BK407.out, zk1 BK407.out, zk0 BK408.out, zk1 BK408.out, zk0 BK409.out, zk1 BK409.out⟩ (fun hHeld => ?_); refine with_tabW impl_OnSeg.tab1 impl_OnSeg.bits1 (fun HT_ HW_ => ?_)
 generalize w10.drew = w11 at BK407 BK408 BK409 HB hHeld ⊢
 refine take_ (i := 0) (N := some 7) (v := ?_) (a' := ?_) #[true, false, false, false, false, false, false, false] rfl rfl (take_ofW HT_.out HW_.out (by kernel_rfl)) (fun _ _ _ h => h) (Or.inl ⟨by rfl, ?_⟩) hHeld ?_ ?_
 rotate_left
 ·rintro w' ⟨s0, s1, s2, s3, s4, s5⟩
  go_simp
  with_reducible rfl
 rotate_left
 ·simp only [Act.put, sT, sZ, sS, i64_w, i32_w]
  rfl
 refine take_ (i := 2) (N := some 9) (v := ?_) (a' := ?_) #[true, false, true, false, false, false, false, false] rfl rfl (take_ofW HT_.out HW_.out (by kernel_rfl)) (fun _ _ _ h => h) (Or.inl ⟨by rfl, ?_⟩) hHeld ?_ ?_
 rotate_left
 ·rintro w' ⟨s0, s1, s2, s3, s4, s5⟩
  go_simp
  with_reducible rfl
 rotate_left
 ·simp only [Act.put, sT, sZ, sS, i64_w, i32_w]
  rfl
 refine take_ (i := 4) (N := some 11) (v := ?_) (a' := ?_) #[true, false, true, false, true, false, false, false] rfl rfl (take_ofW HT_.out HW_.out (by kernel_rfl)) (fun _ _ _ h => h) (Or.inl ⟨by rfl, ?_⟩) hHeld ?_ ?_
 rotate_left
 ·rintro w' ⟨s0, s1, s2, s3, s4, s5⟩
  go_simp
  with_reducible rfl
 rotate_left
 ·simp only [Act.put, sT, sZ, sS, i64_w, i32_w]
  rfl
 refine one_ (i := 1) (N := some 8) #[true, true, true, false, true, false, false, false] rfl rfl (one_of HT_.out (by kernel_rfl)) (by decide) (fun K hK => ?_)
 refine goes_ Try.func90 (by kernel_rfl) rfl #[.agg #[.int .i64 a0_0, .int .i64 a0_1]] (by rfl) rfl rfl gm ?_
 with_reducible refine (impl_taken.calls a0_0 a0_1 t410 t411 _ A4.out).mono ?_
 rintro e w12 ⟨rfl, hb⟩
 refine ⟨_, rfl, ?_⟩
 replace BK407 := Ak (blk_below (bq BK407.out) hb)
 replace BK408 := Ak (blk_below (bq BK408.out) hb)
 replace BK409 := Ak (blk_below (bq BK409.out) hb)
 replace HB := Ak (below_step (bw3 HB.out GE407.out GE408.out GE409.out) hb)
 refine hK.out _ _ ⟨zk0 BK407.out, zk1 BK407.out, zk0 BK408.out, zk1 BK408.out, zk0 BK409.out, zk1 BK409.out⟩ (fun hHeld => ?_)
 clear hK K
 refine norm_ (a' := ?_) ?_ ?_
 rotate_left
 ·show Act.put _ (some 8) _ = _
  simp only [Act.put, sT, sZ, sS, i64_w, i32_w]
  rfl
 refine one_ (i := 3) (N := some 10) #[true, true, true, true, true, false, false, false] rfl rfl (one_of HT_.out (by kernel_rfl)) (by decide) (fun K hK => ?_)
 refine goes_ Try.func90 (by kernel_rfl) rfl #[.agg #[.int .i64 a1_0, .int .i64 a1_1]] (by rfl) rfl rfl gm ?_
 with_reducible refine (impl_taken.calls a1_0 a1_1 t412 t413 _ A5.out).mono ?_
 rintro e w13 ⟨rfl, hb⟩
 refine ⟨_, rfl, ?_⟩
 replace BK407 := Ak (blk_below (bq BK407.out) hb)
 replace BK408 := Ak (blk_below (bq BK408.out) hb)
 replace BK409 := Ak (blk_below (bq BK409.out) hb)
 replace HB := Ak (below_step (bw3 HB.out GE407.out GE408.out GE409.out) hb)
 refine hK.out _ _ ⟨zk0 BK407.out, zk1 BK407.out, zk0 BK408.out, zk1 BK408.out, zk0 BK409.out, zk1 BK409.out⟩ (fun hHeld => ?_)
 clear hK K
 refine norm_ (a' := ?_) ?_ ?_
 rotate_left
 ·show Act.put _ (some 10) _ = _
  simp only [Act.put, sT, sZ, sS, i64_w, i32_w]
  rfl
 refine one_ (i := 5) (N := some 12) #[true, true, true, true, true, true, false, false] rfl rfl (one_of HT_.out (by kernel_rfl)) (by decide) (fun K hK => ?_)
 refine goes_ Try.func90 (by kernel_rfl) rfl #[.agg #[.int .i64 a2_0, .int .i64 a2_1]] (by rfl) rfl rfl gm ?_
 with_reducible refine (impl_taken.calls a2_0 a2_1 t414 t415 _ A6.out).mono ?_
 rintro e w14 ⟨rfl, hb⟩
 refine ⟨_, rfl, ?_⟩
 replace BK407 := Ak (blk_below (bq BK407.out) hb)
 replace BK408 := Ak (blk_below (bq BK408.out) hb)
 replace BK409 := Ak (blk_below (bq BK409.out) hb)
 replace HB := Ak (below_step (bw3 HB.out GE407.out GE408.out GE409.out) hb)
 refine hK.out _ _ ⟨zk0 BK407.out, zk1 BK407.out, zk0 BK408.out, zk1 BK408.out, zk0 BK409.out, zk1 BK409.out⟩ (fun hHeld => ?_)
 clear hK K
 refine norm_ (a' := ?_) ?_ ?_
 rotate_left
 ·show Act.put _ (some 12) _ = _
  simp only [Act.put, sT, sZ, sS, i64_w, i32_w]
  rfl
 refine one_ (i := 6) (N := some 13) #[true, true, true, true, true, true, true, false] rfl rfl (one_of HT_.out (by kernel_rfl)) (by decide) (fun K hK => ?_)
 refine goes_ Try.func91 (by kernel_rfl) rfl #[.agg #[.int .i64 t410, .int .i64 t411], .agg #[.int .i64 t412, .int .i64 t413], .agg #[.int .i64 t414, .int .i64 t415]] (by rfl) rfl rfl gm ?_
 with_reducible refine (impl_onSeg.calls t410 t411 t412 t413 t414 t415 t416 _ A7.out).mono ?_
 rintro e w15 ⟨rfl, hb⟩
 refine ⟨_, rfl, ?_⟩
 replace BK407 := Ak (blk_below (bq BK407.out) hb)
 replace BK408 := Ak (blk_below (bq BK408.out) hb)
 replace BK409 := Ak (blk_below (bq BK409.out) hb)
 replace HB := Ak (below_step (bw3 HB.out GE407.out GE408.out GE409.out) hb)
 refine hK.out _ _ ⟨zk0 BK407.out, zk1 BK407.out, zk0 BK408.out, zk1 BK408.out, zk0 BK409.out, zk1 BK409.out⟩ (fun hHeld => ?_)
 clear hK K
 refine norm_ (a' := ?_) ?_ ?_
 rotate_left
 ·show Act.put _ (some 13) _ = _
  simp only [Act.put, sT, sZ, sS, i64_w, i32_w]
  rfl
 refine pure_ (i := 7) (N := some 6) (v := ?_) (a' := ?_) #[true, true, true, true, true, true, true, true] rfl rfl (any_of HT_.out (by kernel_rfl)) (fun _ _ _ h => h) (Or.inl ⟨by rfl, ?_⟩) ?_ ?_
 rotate_left
 ·intro w'
  go_simp
  with_reducible rfl
 rotate_left
 ·simp only [Act.put, sT, sZ, sS, i64_w, i32_w]
  rfl
 refine done_ (done_of HT_.out (by kernel_rfl)) ?_
 try go_wp2
 go_ret
 exact ⟨zw, bw3 HB.out GE407.out GE408.out GE409.out⟩

end Go.Proofs.Ytgmnphckgicadaa.PFnHulls
