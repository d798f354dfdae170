/- The functions that the law FnHulls reaches, each with what it computes and its contract. -/
import Derived.Test.YtgmnphckgicadaaQFnHullsx0
import Derived.Test.YtgmnphckgicadaaQFnHullsx7
import Derived.Test.YtgmnphckgicadaaQFnHullsx12
import Derived.Test.YtgmnphckgicadaaQFnHullsx21
namespace Go.Proofs.Ytgmnphckgicadaa.PFnHulls
open Go.RowKit Go.Proofs.YtgmnphckgicadaaW.PrintWords Go.Proofs.YtgmnphckgicadaaW.PrintLast Go.Proofs.YtgmnphckgicadaaW.PrintMore
attribute [local go_sem] max2_int min2_int max_two min_two max_three min_three max_four min_four
set_option linter.unusedVariables false
set_option linter.unusedSimpArgs false

def impl_Turn.f (a0_0 : Int) (a0_1 : Int) (a1_0 : Int) (a1_1 : Int) (a2_0 : Int) (a2_1 : Int) : Option (Int) := (impl_taken.f a0_0 a0_1).bind fun bt393 => ((impl_taken.f a1_0 a1_1).bind fun bt395 => ((impl_taken.f a2_0 a2_1).bind fun bt397 => ((impl_turn.f bt393.1 bt393.2 bt395.1 bt395.2 bt397.1 bt397.2).bind fun t399 => (some t399))))
def impl_Turn.T1 : Bool × List (List Nat × List Nat) := (true, [([], []), ([0], [0]), ([], []), ([2, 1], [2]), ([], []), ([4, 3], [4]), ([1, 3, 5, 5], [1, 3, 5]), ([6, 6, 0, 1, 2, 3, 4, 5, 6], [6])])
def impl_Turn.B1 : List Nat := [0, 1, 0, 7, 0, 31, 63, 127]
theorem impl_Turn.tab1 : rtab .any (opsOf Try.f39 1) = impl_Turn.T1 := by kernel_rfl
theorem impl_Turn.bits1 : waitsOk impl_Turn.T1.2 impl_Turn.B1 = true := by kernel_rfl
set_option maxHeartbeats 8000000 in
set_option maxRecDepth 100000 in
theorem impl_Turn.calls (a0_0 : Int) (a0_1 : Int) (a1_0 : Int) (a1_1 : Int) (a2_0 : Int) (a2_1 : Int) (r : Int) (w : World) (h : impl_Turn.f a0_0 a0_1 a1_0 a1_1 a2_0 a2_1 = some r) :
  Calls Try.prog 39 #[.agg #[.int .i64 a0_0, .int .i64 a0_1], .agg #[.int .i64 a1_0, .int .i64 a1_1], .agg #[.int .i64 a2_0, .int .i64 a2_1]] w fun e w' => e = .returned (.int .i64 r) ∧ Below w.heap.size w w' := by
 have hu67 := Try.underlying67
 have HB := Ak (Below.refl w.heap.size w)
 have H : ((impl_taken.f a0_0 a0_1).bind fun bt393 => ((impl_taken.f a1_0 a1_1).bind fun bt395 => ((impl_taken.f a2_0 a2_1).bind fun bt397 => ((impl_turn.f bt393.1 bt393.2 bt395.1 bt395.2 bt397.1 bt397.2).bind fun t399 => (some t399))))) = some r := h
 clear h
 replace H := Option.bind_eq_some_iff.mp H
 obtain ⟨⟨t393, t394⟩, A40, H⟩ := H
 (try dsimp only at H)
 have A4 := Ak A40
 clear A40
 replace H := Option.bind_eq_some_iff.mp H
 obtain ⟨⟨t395, t396⟩, A50, H⟩ := H
 (try dsimp only at H)
 have A5 := Ak A50
 clear A50
 replace H := Option.bind_eq_some_iff.mp H
 obtain ⟨⟨t397, t398⟩, A60, H⟩ := H
 (try dsimp only at H)
 have A6 := Ak A60
 clear A60
 replace H := Option.bind_eq_some_iff.mp H
 obtain ⟨t399, A70, H⟩ := H
 have A7 := Ak A70
 clear A70
 obtain rfl := Option.some.inj H
 go_enter Try.func39, Try.ntmps39
 try go_wp2_with (first | ((with_reducible refine gate_dst (N := 3) rfl ?_); refine box_event ?hg (N := 3) ?hd (cs := #[.int .i64 a0_0, .int .i64 a0_1]) (t := 67) ?hr ?_; (case hd => rfl); (case hg => rfl); (case hr => first | (go_simp; done) | (go_simp; rfl)); intro gb390 hg w8 hbox hb; have BK390 := Ak (hbox); have GW390 := Ak ((zb hg (bw HB.out))); have GE390 := Ak ((zb hg (bw HB.out))); replace HB := Ak (below_step (bw HB.out) hb); clear hb hbox hg) | ((with_reducible refine gate_dst (N := 4) rfl ?_); refine box_event ?hg (N := 4) ?hd (cs := #[.int .i64 a1_0, .int .i64 a1_1]) (t := 67) ?hr ?_; (case hd => rfl); (case hg => rfl); (case hr => first | (go_simp; done) | (go_simp; rfl)); intro gb391 hg w9 hbox hb; have BK391 := Ak (hbox); have GW391 := Ak ((zb hg (bw1 HB.out GE390.out))); have GE391 := Ak ((zb hg (bw1 HB.out GE390.out))); replace HB := Ak (below_step (bw1 HB.out GE390.out) hb); have NB390_391 := Ak ((zl hg (bq BK390.out))); have NB391_390 := Ak ((zm hg (bq BK390.out))); replace BK390 := Ak (blk_below (bq BK390.out) hb); clear hb hbox hg) | ((with_reducible refine gate_dst (N := 5) rfl ?_); refine box_event ?hg (N := 5) ?hd (cs := #[.int .i64 a2_0, .int .i64 a2_1]) (t := 67) ?hr ?_; (case hd => rfl); (case hg => rfl); (case hr => first | (go_simp; done) | (go_simp; rfl)); intro gb392 hg w10 hbox hb; have BK392 := Ak (hbox); have GW392 := Ak ((zb hg (bw2 HB.out GE390.out GE391.out))); have GE392 := Ak ((zb hg (bw2 HB.out GE390.out GE391.out))); replace HB := Ak (below_step (bw2 HB.out GE390.out GE391.out) hb); have NB390_392 := Ak ((zl hg (bq BK390.out))); have NB392_390 := Ak ((zm hg (bq BK390.out))); replace BK390 := Ak (blk_below (bq BK390.out) hb); have NB391_392 := Ak ((zl hg (bq BK391.out))); have NB392_391 := Ak ((zm hg (bq BK391.out))); replace BK391 := Ak (blk_below (bq BK391.out) hb); clear hb hbox hg))
 replace BK390 := Ak (blk_drew BK390.out)
 replace BK391 := Ak (blk_drew BK391.out)
 replace BK392 := Ak (blk_drew BK392.out)
 replace HB := Ak (below_drew1 HB.out)
 refine start_ (n := 8) (S := fun w' => w'.cell? ⟨gb390, 0, none⟩ = some (.int .i64 a0_0) ∧ w'.cell? ⟨gb390, 1, none⟩ = some (.int .i64 a0_1) ∧ w'.cell? ⟨gb391, 0, none⟩ = some (.int .i64 a1_0) ∧ w'.cell? ⟨gb391, 1, none⟩ = some (.int .i64 a1_1) ∧ w'.cell? ⟨gb392, 0, none⟩ = some (.int .i64 a2_0) ∧ w'.cell? ⟨gb392, 1, none⟩ = some (.int .i64 a2_1)) (ds := []) #[false, false, false, false, false, false, false, false] (by kernel_rfl) rfl rfl ⟨zk0 BK390.out, zk1 BK390.out, zk0 BK391.out, zk1 BK391.out, zk0 BK392.out, zk1 BK392.out⟩ (fun hHeld => ?_); refine with_tabW impl_Turn.tab1 impl_Turn.bits1 (fun HT_ HW_ => ?_)
 generalize w10.drew = w11 at BK390 BK391 BK392 HB hHeld ⊢
 refine take_ (i := 0) (N := some 7) (v := ?_) (a' := ?_) #[true, false, false, false, false, false, false, false] rfl rfl (take_ofW HT_.out HW_.out (by kernel_rfl)) (fun _ _ _ h => h) (Or.inl ⟨by rfl, ?_⟩) hHeld ?_ ?_
 rotate_left
 ·rintro w' ⟨s0, s1, s2, s3, s4, s5⟩
  go_simp
  with_reducible rfl
 rotate_left
 ·simp only [Act.put, sT, sZ, sS, i64_w, i32_w]
  rfl
 refine take_ (i := 2) (N := some 9) (v := ?_) (a' := ?_) #[true, false, true, false, false, false, false, false] rfl rfl (take_ofW HT_.out HW_.out (by kernel_rfl)) (fun _ _ _ h => h) (Or.inl ⟨by rfl, ?_⟩) hHeld ?_ ?_
 rotate_left
 ·rintro w' ⟨s0, s1, s2, s3, s4, s5⟩
  go_simp
  with_reducible rfl
 rotate_left
 ·simp only [Act.put, sT, sZ, sS, i64_w, i32_w]
  rfl
 refine take_ (i := 4) (N := some 11) (v := ?_) (a' := ?_) #[true, false, true, false, true, false, false, false] rfl rfl (take_ofW HT_.out HW_.out (by kernel_rfl)) (fun _ _ _ h => h) (Or.inl ⟨by rfl, ?_⟩) hHeld ?_ ?_
 rotate_left
 ·rintro w' ⟨s0, s1, s2, s3, s4, s5⟩
  go_simp
  with_reducible rfl
 rotate_left
 ·simp only [Act.put, sT, sZ, sS, i64_w, i32_w]
  rfl
 refine one_ (i := 1) (N := some 8) #[true, true, true, false, true, false, false, false] rfl rfl (one_of HT_.out (by kernel_rfl)) (by decide) (fun K hK => ?_)
 refine goes_ Try.func90 (by kernel_rfl) rfl #[.agg #[.int .i64 a0_0, .int .i64 a0_1]] (by rfl) rfl rfl gm ?_
 with_reducible refine (impl_taken.calls a0_0 a0_1 t393 t394 _ A4.out).mono ?_
 rintro e w12 ⟨rfl, hb⟩
 refine ⟨_, rfl, ?_⟩
 replace BK390 := Ak (blk_below (bq BK390.out) hb)
 replace BK391 := Ak (blk_below (bq BK391.out) hb)
 replace BK392 := Ak (blk_below (bq BK392.out) hb)
 replace HB := Ak (below_step (bw3 HB.out GE390.out GE391.out GE392.out) hb)
 refine hK.out _ _ ⟨zk0 BK390.out, zk1 BK390.out, zk0 BK391.out, zk1 BK391.out, zk0 BK392.out, zk1 BK392.out⟩ (fun hHeld => ?_)
 clear hK K
 refine norm_ (a' := ?_) ?_ ?_
 rotate_left
 ·show Act.put _ (some 8) _ = _
  simp only [Act.put, sT, sZ, sS, i64_w, i32_w]
  rfl
 refine one_ (i := 3) (N := some 10) #[true, true, true, true, true, false, false, false] rfl rfl (one_of HT_.out (by kernel_rfl)) (by decide) (fun K hK => ?_)
 refine goes_ Try.func90 (by kernel_rfl) rfl #[.agg #[.int .i64 a1_0, .int .i64 a1_1]] (by rfl) rfl rfl gm ?_
 with_reducible refine (impl_taken.calls a1_0 a1_1 t395 t396 _ A5.out).mono ?_
 rintro e w13 ⟨rfl, hb⟩
 refine ⟨_, rfl, ?_⟩
 replace BK390 := Ak (blk_below (bq BK390.out) hb)
 replace BK391 := Ak (blk_below (bq BK391.out) hb)
 replace BK392 := Ak (blk_below (bq BK392.out) hb)
 replace HB := Ak (below_step (bw3 HB.out GE390.out GE391.out GE392.out) hb)
 refine hK.out _ _ ⟨zk0 BK390.out, zk1 BK390.out, zk0 BK391.out, zk1 BK391.out, zk0 BK392.out, zk1 BK392.out⟩ (fun hHeld => ?_)
 clear hK K
 refine norm_ (a' := ?_) ?_ ?_
 rotate_left
 ·show Act.put _ (some 10) _ = _
  simp only [Act.put, sT, sZ, sS, i64_w, i32_w]
  rfl
 refine one_ (i := 5) (N := some 12) #[true, true, true, true, true, true, false, false] rfl rfl (one_of HT_.out (by kernel_rfl)) (by decide) (fun K hK => ?_)
 refine goes_ Try.func90 (by kernel_rfl) rfl #[.agg #[.int .i64 a2_0, .int .i64 a2_1]] (by rfl) rfl rfl gm ?_
 with_reducible refine (impl_taken.calls a2_0 a2_1 t397 t398 _ A6.out).mono ?_
 rintro e w14 ⟨rfl, hb⟩
 refine ⟨_, rfl, ?_⟩
 replace BK390 := Ak (blk_below (bq BK390.out) hb)
 replace BK391 := Ak (blk_below (bq BK391.out) hb)
 replace BK392 := Ak (blk_below (bq BK392.out) hb)
 replace HB := Ak (below_step (bw3 HB.out GE390.out GE391.out GE392.out) hb)
 refine hK.out _ _ ⟨zk0 BK390.out, zk1 BK390.out, zk0 BK391.out, zk1 BK391.out, zk0 BK392.out, zk1 BK392.out⟩ (fun hHeld => ?_)
 clear hK K
 refine norm_ (a' := ?_) ?_ ?_
 rotate_left
 ·show Act.put _ (some 12) _ = _
  simp only [Act.put, sT, sZ, sS, i64_w, i32_w]
  rfl
 refine one_ (i := 6) (N := some 13) #[true, true, true, true, true, true, true, false] rfl rfl (one_of HT_.out (by kernel_rfl)) (by decide) (fun K hK => ?_)
 refine goes_ Try.func89 (by kernel_rfl) rfl #[.agg #[.int .i64 t393, .int .i64 t394], .agg #[.int .i64 t395, .int .i64 t396], .agg #[.int .i64 t397, .int .i64 t398]] (by rfl) rfl rfl gm ?_
 with_reducible refine (impl_turn.calls t393 t394 t395 t396 t397 t398 t399 _ A7.out).mono ?_
 rintro e w15 ⟨rfl, hb⟩
 refine ⟨_, rfl, ?_⟩
 replace BK390 := Ak (blk_below (bq BK390.out) hb)
 replace BK391 := Ak (blk_below (bq BK391.out) hb)
 replace BK392 := Ak (blk_below (bq BK392.out) hb)
 replace HB := Ak (below_step (bw3 HB.out GE390.out GE391.out GE392.out) hb)
 refine hK.out _ _ ⟨zk0 BK390.out, zk1 BK390.out, zk0 BK391.out, zk1 BK391.out, zk0 BK392.out, zk1 BK392.out⟩ (fun hHeld => ?_)
 clear hK K
 refine norm_ (a' := ?_) ?_ ?_
 rotate_left
 ·show Act.put _ (some 13) _ = _
  simp only [Act.put, sT, sZ, sS, i64_w, i32_w]
  rfl
 refine pure_ (i := 7) (N := some 6) (v := ?_) (a' := ?_) #[true, true, true, true, true, true, true, true] rfl rfl (any_of HT_.out (by kernel_rfl)) (fun _ _ _ h => h) (Or.inl ⟨by rfl, ?_⟩) ?_ ?_
 rotate_left
 ·intro w'
  go_simp
  with_reducible rfl
 rotate_left
 ·simp only [Act.put, sT, sZ, sS, i64_w, i32_w]
  rfl
 refine done_ (done_of HT_.out (by kernel_rfl)) ?_
 try go_wp2
 go_ret
 exact ⟨zw, bw3 HB.out GE390.out GE391.out GE392.out⟩

def impl_isBetween.f (a0 : Int) (a1 : Int) (a2 : Int) : Option (Bool) := (impl_inRange.f a0 (mn a1 a2) (mx a1 a2)).bind fun t400 => (some t400)
set_option maxHeartbeats 8000000 in
set_option maxRecDepth 100000 in
theorem impl_isBetween.calls (a0 : Int) (a1 : Int) (a2 : Int) (r : Bool) (w : World) (h : impl_isBetween.f a0 a1 a2 = some r) :
  Calls Try.prog 127 #[.int .i64 a0, .int .i64 a1, .int .i64 a2] w fun e w' => e = .returned (.bool r) ∧ Below w.heap.size w w' := by
 have HB := Ak (Below.refl w.heap.size w)
 have H : ((impl_inRange.f a0 (mn a1 a2) (mx a1 a2)).bind fun t400 => (some t400)) = some r := h
 clear h
 obtain ⟨ji4, hji4⟩ : ∃ j_ : Int, (mn a1 a2) = j_ := ⟨_, rfl⟩
 replace H : ((impl_inRange.f a0 (ji4) (mx a1 a2)).bind fun t400 => (some t400)) = some r := by first | (rw [hji4] at H; exact H) | (simp only [hji4] at H ⊢; exact H)
 have hji4_ : (if a2 < a1 then a2 else a1) = ji4 := hji4
 obtain ⟨ji5, hji5⟩ : ∃ j_ : Int, (mx a1 a2) = j_ := ⟨_, rfl⟩
 replace H : ((impl_inRange.f a0 (ji4) (ji5)).bind fun t400 => (some t400)) = some r := by first | (rw [hji5] at H; exact H) | (simp only [hji5] at H ⊢; exact H)
 have hji5_ : (if a1 < a2 then a2 else a1) = ji5 := hji5
 replace H := Option.bind_eq_some_iff.mp H
 obtain ⟨t400, A60, H⟩ := H
 have A6 := Ak A60
 clear A60
 obtain rfl := Option.some.inj H
 go_enter Try.func127, Try.ntmps127
 go_wp2_with (first | ((with_reducible refine gate_callee (f := 101) rfl ?_); refine goesL_ (some 14) rfl rfl Try.func101 (by kernel_rfl) rfl #[.int .i64 a0, .int .i64 ji4, .int .i64 ji5] rfl (by (try simp only [List.map_toArray, List.map_cons, List.map_nil]); first | done | (simp only [hji4, hji5]; rfl) | rfl | (simp only [List.length_drop, List.length_take]; rfl)) ?_; (with_reducible refine (impl_inRange.calls a0 ji4 ji5 t400 _ A6.out).mono ?_); rintro e w' ⟨rfl, ⟨nd, rfl⟩⟩; refine ⟨_, rfl, ?_⟩))
 go_ret
 exact ⟨by first | rfl | (simp [errW_none, errW_some] <;> rfl) | (simp only [← hji4, ← hji5]; first | rfl | (simp [errW_none, errW_some] <;> rfl)) | (simp [*, errW_none, errW_some] <;> rfl), bw HB.out⟩

end Go.Proofs.Ytgmnphckgicadaa.PFnHulls
