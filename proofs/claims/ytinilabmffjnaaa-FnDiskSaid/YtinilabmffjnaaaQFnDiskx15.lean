/- The functions that the law FnDisk reaches, each with what it computes and its contract. -/
import Derived.Test.YtinilabmffjnaaaQFnDiskx0
import Derived.Test.YtinilabmffjnaaaQFnDiskx12
import Derived.Test.YtinilabmffjnaaaQFnDiskx14
namespace Go.Proofs.Ytinilabmffjnaaa.PFnDisk
open Go.RowKit Go.Proofs.YtinilabmffjnaaaW.PrintWords Go.Proofs.YtinilabmffjnaaaW.PrintLast Go.Proofs.YtinilabmffjnaaaW.PrintMore
attribute [local go_sem] max2_int min2_int max_two min_two max_three min_three max_four min_four
set_option linter.unusedVariables false
set_option linter.unusedSimpArgs false

/-- copy(xs[off:], ys), xs a row of bytes of one's own, where all of ys goes over. -/
theorem copy_at {P : Program} (W : World) (base : Nat) (ok : Nat → Prop) (t t' T e : TypeId) (ht : P.underlying t = some (.slice e)) (hinfo : (P.info? e).map (·.size) = some 1) (g cap off c : Nat) (A : Option Addr) (xs ys : List Int)
  (HO : Kd.R (Kd.int .u8) e W base ok (.slice (some ⟨g, 0, none⟩) xs.length cap) xs) (HR : Kd.C (Kd.int .u8) W A ys.length ys) (hp : 0 < ys.length) (hfit : off + ys.length ≤ xs.length) :
  ∃ w1, (Builtin.copy_ #[t, t'] T #[.slice (some ⟨g, off, none⟩) (xs.length - off) (cap - off), .slice A ys.length c]).run P W = .ok (goInt ((ys.length : Nat) : Int)) w1 ∧ Kd.R (Kd.int .u8) e w1 base ok (.slice (some ⟨g, 0, none⟩) xs.length cap) (xs.take off ++ ys ++ xs.drop (off + ys.length)) ∧ W.grownBy w1 (some g) := by
 have hR := Kd.reads_of_C (enc := Value.int .u8) (d := (0 : Int)) (h1 := fun _ => rfl) HR
 have hown := Kd.own_of_R (enc := Value.int .u8) (h1 := fun _ => rfl) HO
 obtain ⟨ad, hA, hc⟩ := hR.2.2 hp
 rcases hown.2 with ⟨hv0, _⟩ | ⟨g', cap', cur, hv, hb, hh, hnc, hcm, hcs, htake⟩
 ·cases hv0
 ·injection hv with hv1 hv2 hv3
  injection hv1 with hv1
  injection hv1 with hv1
  subst hv1
  subst hv3
  have hsrc : ∀ j u, (encs (Value.int .u8) ys)[j]? = some u → W.cell? (ad.add j) = some u := by
   intro j u hu
   have hj : j < ys.length := by
    rcases Nat.lt_or_ge j ys.length with h | h
    ·exact h
    ·rw [List.getElem?_eq_none (by rw [encs_length]; exact h)] at hu
     cases hu
   rw [encs_get (d := (0 : Int)) _ j hj] at hu
   rw [hc j (by omega), ← hu]
  have hkl : (encs (Value.int .u8) ys).length = ys.length := encs_length _
  have hr := run_copy_cells (P := P) W t t' T e g off (xs.length - off) (cap - off) ad ys.length c (encs (Value.int .u8) ys) ht hinfo (by rw [hkl]; exact (Nat.min_eq_left (by omega)).symm) hsrc
   (fun j hj => by rw [cell_of_row W g _ cur e (0, 0) hh]; simp; omega) (fun j _ => blk_frozen hh _) (by intro u hu; simp only [encs, List.mem_map] at hu; obtain ⟨q, _, rfl⟩ := hu; rfl)
  obtain ⟨cur', h3, h4, h5⟩ := setCells_row (encs (Value.int .u8) ys) off W cur hh (by rw [hkl]; omega)
  obtain ⟨s1, s2, s3, s4⟩ := setCells_same g (encs (Value.int .u8) ys) off W
  have hln : (xs.take off ++ ys ++ xs.drop (off + ys.length)).length = xs.length := by
   rw [List.length_append, List.length_append, List.length_take, List.length_drop]
   omega
  refine ⟨_, by rw [hA, hr, hkl], Kd.R_of_own ?_ HO.1, ⟨s1, s2, s3, by rw [s4]; exact Nat.le_refl _, fun k _ hk => setCells_far _ _ k (fun he => hk (by rw [he]))⟩⟩
  rw [hln]
  refine ⟨by rw [encs_length, hln, Nat.mul_one], .inr ⟨g, cap, cur', rfl, hb, h3, hnc, hcm, by rw [h4, hcs], ?_⟩⟩
  have htk : cur.toList.take xs.length = encs (Value.int .u8) xs := by rw [← htake, Nat.mul_one]
  rw [h5, hkl, encs_append, encs_append, Nat.mul_one]
  have hd : encs (Value.int .u8) (xs.drop (off + ys.length)) = (cur.toList.take xs.length).drop (off + ys.length) := by rw [htk]; simp [encs, List.map_drop]
  have hk2 : encs (Value.int .u8) (xs.take off) = (cur.toList.take xs.length).take off := by rw [htk]; simp [encs, List.map_take]
  have hcl : cur.toList.length = cap := by rw [Array.length_toList]; omega
  have e1 : (List.take off cur.toList ++ encs (Value.int .u8) ys).length = off + ys.length := by rw [List.length_append, List.length_take, hkl]; omega
  rw [hd, hk2, List.take_take, Nat.min_eq_left (show off ≤ xs.length by omega), List.take_append, e1, List.take_of_length_le (by rw [e1]; omega), List.drop_take]
/-- A row of bytes with others laid over it. -/
def spl (b : List Int) (o : Nat) (ys : List Int) : List Int := b.take o ++ ys ++ b.drop (o + ys.length)
def impl_done.l0 : Nat → List Int → List (S34) → Int → Int → List Int → Option (List Int × (List (S34)))
 | 0, _, _, _, _, _ => none
 | k + 1, x1, x13, x14, x15, x346000 => if x15 < x14 then (if 0 ≤ x15 then (if x15 < (x13.length : Int) then ((impl_CrashOne.f x15 x1).bind fun t348 => (if t348 = true then (if 0 ≤ (wrap64 (((rd_T34 x13 x15).f0) * 64)) then (if (0 < ((rd_T34 x13 x15).f1).length ∧ ((wrap64 (((rd_T34 x13 x15).f0) * 64)) : Int).toNat + ((rd_T34 x13 x15).f1).length ≤ x346000.length) then (impl_done.l0 k x1 x13 x14 (wrap64 (x15 + 1)) (spl x346000 ((wrap64 (((rd_T34 x13 x15).f0) * 64)) : Int).toNat ((rd_T34 x13 x15).f1))) else (none)) else (none)) else (impl_done.l0 k x1 x13 x14 (wrap64 (x15 + 1)) x346000))) else (none)) else (none)) else (some (x346000, ([] : List (S34))))
def impl_done.f (k : Nat) (l0_0 : List Int) (l0_1 : List (S34)) (l1 : List Int) : Option (List Int × (List (S34))) := (slices_Clone_byte_byte.f l0_0).bind fun t342 => (impl_done.l0 k l1 l0_1 (l0_1.length : Int) 0 t342)
def impl_done.T6 : Bool × List (List Nat × List Nat) := (true, [([], []), ([0], [0]), ([], []), ([2], [2]), ([3], [3]), ([1, 4], [1, 4]), ([], []), ([6], [6]), ([5, 7], [5, 7])])
def impl_done.B6 : List Nat := [0, 1, 0, 4, 12, 31, 0, 64, 255]
theorem impl_done.tab6 : rtab .any (opsOf Try.f63 6) = impl_done.T6 := by kernel_rfl
theorem impl_done.bits6 : waitsOk impl_done.T6.2 impl_done.B6 = true := by kernel_rfl
/-- A call through a slot that holds a closure, in a plain region. -/
theorem goesC_ {P : Program} {ops : Array Oper} {Q : Exit → Act → World → Prop} {rest : List Oper} {oi : Oper} {a : Act} {w : World} (N : Option Tmp) (hd : oi.dst = N) (hg : oi.guard = none) {f : FuncId} {fn : Func} {zs : Array Operand} {ts : Array TypeId} {t : Tmp}
  (hf : P.funcs[f]? = some fn) (hname : (fn.name == "runtime.NumGoroutine") = false) (hb : fn.body.isSome = true) (args cap : Array Value)
  (hop : oi.op = .call { callee := .value (.tmp t), args := zs, argTypes := ts }) (ht : a.eval (.tmp t) = .func (.func f) #[] cap) (hargs : zs.map a.eval ++ cap = args)
  (h : Calls P f args w fun e w' => ∃ v, e = .returned v ∧ wpList P ops Q rest (a.put N v) w') : wpList P ops Q (oi :: rest) a w := by
 refine wpList_plain hg fun K hK => ?_
 have he := enters_ hf hname hb args w
 have hrun : (execOp a.eval oi).run P w = .ok (.enter f args) w := by
  unfold execOp
  simp [hop, resolve, Deferred.ofValue, ht, invoke, hargs, he]
 unfold Oper.wp
 rw [hrun, Oper.upon_enter]
 refine h.mono fun e w'' hh => ?_
 obtain ⟨v, rfl, hk⟩ := hh
 subst hd
 exact hK _ _ hk
/-- A cell that was there. -/
theorem cell_below {w w' : World} {a : Addr} {v : Value} (h : w.cell? a = some v) (hb : Below w.heap.size w w') : w'.cell? a = some v := (hb.cell (World.block_lt_of_cell? w _ h)).trans h
set_option maxHeartbeats 8000000 in
set_option maxRecDepth 100000 in
theorem impl_done.calls (k : Nat) (A0_0 : Option Addr) (c0_0 : Nat) (l0_0 : List Int) (A0_1 : Option Addr) (c0_1 : Nat) (l0_1 : List (S34)) (A1 : Option Addr) (c1 : Nat) (l1 : List Int) (r1 : List Int) (r2 : List (S34)) (gx : Nat) (w : World) (hpx : w.cell? ⟨gx, 0, none⟩ = some (.slice A1 l1.length c1)) (hr0_0 : Kd.C (Kd.int .u8) w A0_0 l0_0.length l0_0) (hc0_0 : l0_0.length ≤ c0_0) (hr0_1 : Kd.C k34 w A0_1 l0_1.length l0_1) (hc0_1 : l0_1.length ≤ c0_1) (hr1 : Kd.C (Kd.int .u8) w A1 l1.length l1) (hc1 : l1.length ≤ c1) (h : impl_done.f k l0_0 l0_1 l1 = some (r1, r2)) :
  Calls Try.prog 63 #[.agg #[.slice A0_0 l0_0.length c0_0, .slice A0_1 l0_1.length c0_1], .func (.func 65) #[] #[.pointer (some ⟨gx, 0, none⟩)]] w fun e w' => ∃ v0_ v1_ : Value, e = .returned (.agg #[v0_, v1_]) ∧ Kd.R (Kd.int .u8) 5 w' w.heap.size (fun _ => True) v0_ r1 ∧ Kd.S k34 34 w' w.heap.size (fun k_ => some k_ ≠ (v0_ : Value).ownBlock) v1_ r2 ∧ Below w.heap.size w w' := by
 have hu26 := Try.underlying26
 have hu34 := Try.underlying34
 have HR0_0 := Ak hr0_0
 have HC0_0 := Ak hc0_0
 clear hr0_0 hc0_0
 have HR0_1 := Ak hr0_1
 have HC0_1 := Ak hc0_1
 clear hr0_1 hc0_1
 have HR1 := Ak hr1
 have HPX := Ak hpx
 clear hpx
 have HC1 := Ak hc1
 clear hr1 hc1
 have HB := Ak (Below.refl w.heap.size w)
 have H : ((slices_Clone_byte_byte.f l0_0).bind fun t342 => (impl_done.l0 k l1 l0_1 (l0_1.length : Int) 0 t342)) = some (r1, r2) := h
 clear h
 replace H := Option.bind_eq_some_iff.mp H
 obtain ⟨t342, A30, H⟩ := H
 replace H : (impl_done.l0 k l1 l0_1 (l0_1.length : Int) 0 t342) = some (r1, r2) := H
 have A3 := Ak A30
 clear A30
 have H' := Ak H
 clear H
 go_enter Try.func63, Try.ntmps63
 go_wp2_with (first | ((with_reducible refine gate_dst (N := 2) rfl ?_); refine box_event ?hg (N := 2) ?hd (cs := #[.slice A0_0 l0_0.length c0_0, .slice A0_1 l0_1.length c0_1]) (t := 26) ?hr ?_; (case hd => rfl); (case hg => rfl); (case hr => first | (go_simp; done) | (go_simp; rfl)); intro gb340 hg w4 hbox hb; have n0_ := Ak (below_step (bw HB.out) hb); have n1_ := Ak (hbox); have n2_ := Ak ((by rw [hg]; exact (below_size (bw HB.out)) : w.heap.size ≤ gb340)); have n3_ := Ak ((by rw [hg]; exact (below_size (bw HB.out)) : w.heap.size ≤ gb340)); clear HB; have HB := n0_; have BK340 := n1_; have GW340 := n2_; have GE340 := n3_; clear n0_ n1_ n2_ n3_; clear hb hbox hg) | ((with_reducible refine gate_dst (N := 4) rfl ?_); refine box_event ?hg (N := 4) ?hd (cs := #[.slice none 0 0, .slice none 0 0]) (t := 26) ?hr ?_; (case hd => rfl); (case hg => rfl); (case hr => first | (go_simp; done) | (go_simp; rfl)); intro gb341 hg w5 hbox hb; have n0_ := Ak (blk_below (g := gb340) (o := .cells #[.slice A0_0 l0_0.length c0_0, .slice A0_1 l0_1.length c0_1] 26 (0, 0)) (bq BK340.out) hb); have n1_ := Ak (below_step (bw1 HB.out GE340.out) hb); have n2_ := Ak (hbox); have n3_ := Ak ((by rw [hg]; exact (below_size (bw1 HB.out GE340.out)) : w.heap.size ≤ gb341)); have n4_ := Ak ((by rw [hg]; exact (below_size (bw1 HB.out GE340.out)) : w.heap.size ≤ gb341)); have n5_ := Ak ((by rw [hg]; exact Nat.ne_of_lt (blk_lt (g := gb340) (o := .cells #[.slice A0_0 l0_0.length c0_0, .slice A0_1 l0_1.length c0_1] 26 (0, 0)) (bq BK340.out)) : gb340 ≠ gb341)); have n6_ := Ak ((by rw [hg]; exact Nat.ne_of_gt (blk_lt (g := gb340) (o := .cells #[.slice A0_0 l0_0.length c0_0, .slice A0_1 l0_1.length c0_1] 26 (0, 0)) (bq BK340.out)) : gb341 ≠ gb340)); clear BK340; clear HB; have BK340 := n0_; have HB := n1_; have BK341 := n2_; have GW341 := n3_; have GE341 := n4_; have NB340_341 := n5_; have NB341_340 := n6_; clear n0_ n1_ n2_ n3_ n4_ n5_ n6_; clear hb hbox hg; have hnb6 := NB340_341.out; have hnc6 := NB341_340.out; have hcz7_0 : w5.cell? ⟨gb340, 0, none⟩ = some (.slice A0_0 l0_0.length c0_0) := (blk_cell BK340.out 0).trans rfl; have hcz7_1 : w5.cell? ⟨gb340, 1, none⟩ = some (.slice A0_1 l0_1.length c0_1) := (blk_cell BK340.out 1).trans rfl; have hfz7_0 := blk_frozen BK340.out 0; have hfz7_1 := blk_frozen BK340.out 1) | ((with_reducible refine gate_callee (f := 66) rfl ?_); refine goesL_ (some 10) rfl rfl Try.func66 (by kernel_rfl) rfl #[.slice A0_0 l0_0.length c0_0] rfl gm ?_; (with_reducible refine (slices_Clone_byte_byte.calls _ _ l0_0 t342 _ ?side1 ?side2 A3.out).mono ?_); (case side1 => repeat (first | exact (Kd.C_below HR0_0.out HB.out) | (with_reducible refine Kd.C_alloc ?_ _) | (with_reducible refine Kd.C_drewN ?_ _) | (with_reducible refine Kd.C_drew ?_))); (case side2 => exact HC0_0.out); rintro e w8 ⟨v343, rfl, ho0, hb⟩; refine ⟨_, rfl, ?_⟩; have n0_ := Ak (Kd.R_lower ho0 (below_size (bw2 HB.out GE340.out GE341.out))); have n1_ := Ak (blk_below (g := gb340) (o := .cells #[.slice A0_0 l0_0.length c0_0, .slice A0_1 l0_1.length c0_1] 26 (0, 0)) (bq BK340.out) hb); have n2_ := Ak (blk_below (g := gb341) (o := .cells #[.slice none 0 0, .slice none 0 0] 26 (0, 0)) (bq BK341.out) hb); have n3_ := Ak (below_step (bw2 HB.out GE340.out GE341.out) hb); clear BK340; clear BK341; clear HB; have HO344 := n0_; have BK340 := n1_; have BK341 := n2_; have HB := n3_; clear n0_ n1_ n2_ n3_; obtain ⟨Ao9, co9, eo9⟩ := Kd.R_slice HO344.out; subst eo9) | ((with_reducible refine gate_dst (N := 5) rfl ?_); refine box_event ?hg (N := 5) ?hd (cs := #[.slice none 0 0, .slice none 0 0]) (t := 26) ?hr ?_; (case hd => rfl); (case hg => rfl); (case hr => first | (go_simp; done) | (go_simp; rfl)); intro gb345 hg w10 hbox hb; have n0_ := Ak (Kd.R_below (rq HO344.out) hb); have n1_ := Ak (blk_below (g := gb340) (o := .cells #[.slice A0_0 l0_0.length c0_0, .slice A0_1 l0_1.length c0_1] 26 (0, 0)) (bq BK340.out) hb); have n2_ := Ak (blk_below (g := gb341) (o := .cells #[.slice none 0 0, .slice none 0 0] 26 (0, 0)) (bq BK341.out) hb); have n3_ := Ak (below_step (bw2 HB.out GE340.out GE341.out) hb); have n4_ := Ak (hbox); have n5_ := Ak ((by rw [hg]; exact (below_size (bw2 HB.out GE340.out GE341.out)) : w.heap.size ≤ gb345)); have n6_ := Ak ((by rw [hg]; exact (below_size (bw2 HB.out GE340.out GE341.out)) : w.heap.size ≤ gb345)); have n7_ := Ak ((by rw [hg]; exact Nat.ne_of_lt (blk_lt (g := gb340) (o := .cells #[.slice A0_0 l0_0.length c0_0, .slice A0_1 l0_1.length c0_1] 26 (0, 0)) (bq BK340.out)) : gb340 ≠ gb345)); have n8_ := Ak ((by rw [hg]; exact Nat.ne_of_gt (blk_lt (g := gb340) (o := .cells #[.slice A0_0 l0_0.length c0_0, .slice A0_1 l0_1.length c0_1] 26 (0, 0)) (bq BK340.out)) : gb345 ≠ gb340)); have n9_ := Ak ((by rw [hg]; exact Nat.ne_of_lt (blk_lt (g := gb341) (o := .cells #[.slice none 0 0, .slice none 0 0] 26 (0, 0)) (bq BK341.out)) : gb341 ≠ gb345)); have n10_ := Ak ((by rw [hg]; exact Nat.ne_of_gt (blk_lt (g := gb341) (o := .cells #[.slice none 0 0, .slice none 0 0] 26 (0, 0)) (bq BK341.out)) : gb345 ≠ gb341)); clear HO344; clear BK340; clear BK341; clear HB; have HO344 := n0_; have BK340 := n1_; have BK341 := n2_; have HB := n3_; have BK345 := n4_; have GW345 := n5_; have GE345 := n6_; have NB340_345 := n7_; have NB345_340 := n8_; have NB341_345 := n9_; have NB345_341 := n10_; clear n0_ n1_ n2_ n3_ n4_ n5_ n6_ n7_ n8_ n9_ n10_; clear hb hbox hg; have hnb11 := NB345_340.out; have hnc11 := NB340_345.out; have hnb12 := NB345_341.out; have hnc12 := NB341_345.out; have hcz13_0 : w10.cell? ⟨gb345, 0, none⟩ = some (.slice none 0 0) := (blk_cell BK345.out 0).trans rfl; have hcz13_1 : w10.cell? ⟨gb345, 1, none⟩ = some (.slice none 0 0) := (blk_cell BK345.out 1).trans rfl; have hfz13_0 := blk_frozen BK345.out 0; have hfz13_1 := blk_frozen BK345.out 1; have hcz14_0 : w10.cell? ⟨gb340, 0, none⟩ = some (.slice A0_0 l0_0.length c0_0) := (blk_cell BK340.out 0).trans rfl; have hcz14_1 : w10.cell? ⟨gb340, 1, none⟩ = some (.slice A0_1 l0_1.length c0_1) := (blk_cell BK340.out 1).trans rfl; have hfz14_0 := blk_frozen BK340.out 0; have hfz14_1 := blk_frozen BK340.out 1))
 go_loopg [15] k (fun kq v15 w' => ∃ (x15_1 : Int) (x346000_1 : List Int) (u346000 : Value), v15 = .int .i64 x15_1 ∧ Aside0 (impl_done.l0 kq l1 l0_1 (l0_1.length : Int) x15_1 x346000_1 = some (r1, r2)) ∧ Aside0 (kq ≤ k) ∧ Aside0 (Kd.R (Kd.int .u8) 5 w' w.heap.size (fun _ => True) u346000 x346000_1) ∧ Aside0 (w'.heap[gb340]? = some (.cells #[(.slice A0_0 l0_0.length c0_0), (.slice A0_1 l0_1.length c0_1)] 26 (0, 0))) ∧ Aside0 (w'.heap[gb341]? = some (.cells #[(.slice none 0 0), (.slice none 0 0)] 26 (0, 0))) ∧ Aside0 (w'.heap[gb345]? = some (.cells #[u346000, (.slice none 0 0)] 26 (0, 0))) ∧ Aside0 (Below w.heap.size w w'))
 case atStart => exact ⟨(0), (t342), (.slice Ao9 t342.length co9), (by first | rfl | (simp; done) | (simp [*]; done)), H', ⟨Nat.le_refl _⟩, ⟨by (with_reducible repeat (first | apply Kd.R_alloc | apply Kd.R_drewN | apply Kd.R_drew)); exact Kd.R_mono (Kd.R_far (p := ⟨gb345, 1, none⟩) (Kd.R_far (p := ⟨gb345, 0, none⟩) (Kd.R_types HO344.out BK345.out (by decide)) (fun _ hk => hk.2) (.slice Ao9 t342.length co9)) (fun _ hk => hk.2) (.slice none 0 0)) (fun _ hk => trivial)⟩, ⟨by (with_reducible repeat (first | refine blk_drewN ?_ _ | refine blk_drew ?_ | refine blk_alloc ?_ _)); refine blk_far ?_ NB340_345.out _; (with_reducible repeat (first | refine blk_drewN ?_ _ | refine blk_drew ?_ | refine blk_alloc ?_ _)); refine blk_far ?_ NB340_345.out _; (with_reducible repeat (first | refine blk_drewN ?_ _ | refine blk_drew ?_ | refine blk_alloc ?_ _)); exact BK340.out⟩, ⟨by (with_reducible repeat (first | refine blk_drewN ?_ _ | refine blk_drew ?_ | refine blk_alloc ?_ _)); refine blk_far ?_ NB341_345.out _; (with_reducible repeat (first | refine blk_drewN ?_ _ | refine blk_drew ?_ | refine blk_alloc ?_ _)); refine blk_far ?_ NB341_345.out _; (with_reducible repeat (first | refine blk_drewN ?_ _ | refine blk_drew ?_ | refine blk_alloc ?_ _)); exact BK341.out⟩, ⟨by (with_reducible repeat (first | refine blk_drewN ?_ _ | refine blk_drew ?_ | refine blk_alloc ?_ _)); refine blk_put (cs := #[.slice Ao9 t342.length co9, .slice none 0 0]) ?_ 1 _ rfl; (with_reducible repeat (first | refine blk_drewN ?_ _ | refine blk_drew ?_ | refine blk_alloc ?_ _)); refine blk_put (cs := #[.slice none 0 0, .slice none 0 0]) ?_ 0 _ rfl; (with_reducible repeat (first | refine blk_drewN ?_ _ | refine blk_drew ?_ | refine blk_alloc ?_ _)); exact BK345.out⟩, ⟨bw3 HB.out GE340.out GE341.out GE345.out⟩⟩
 case round =>
  clear H'
  obtain ⟨x15_1, x346000_1, u346000, rfl, HA, HK1, HO_346000, BK340, BK341, BK345, HB⟩ := hrel
  cases gk with
  | zero => exact absurd HA.out (by simp [impl_done.l0])
  | succ k1 =>
   have H := HA.out
   clear HA
   simp only [impl_done.l0] at H
   by_cases c15 : x15_1 < (l0_1.length : Int)
   ·rw [if_pos c15] at H
    have c15b0 : decide (x15_1 < (l0_1.length : Int)) = true := decide_eq_true c15
    clear c15
    by_cases c16 : 0 ≤ x15_1
    ·rw [if_pos c16] at H
     have c16b0 : decide (0 ≤ x15_1) = true := decide_eq_true c16
     clear c16
     by_cases c17 : x15_1 < (l0_1.length : Int)
     ·rw [if_pos c17] at H
      have c17b0 : decide (x15_1 < (l0_1.length : Int)) = true := decide_eq_true c17
      clear c17
      replace H := Option.bind_eq_some_iff.mp H
      obtain ⟨t348, A180, H⟩ := H
      replace H : (if t348 = true then (if 0 ≤ (wrap64 (((rd_T34 l0_1 x15_1).f0) * 64)) then (if (0 < ((rd_T34 l0_1 x15_1).f1).length ∧ ((wrap64 (((rd_T34 l0_1 x15_1).f0) * 64)) : Int).toNat + ((rd_T34 l0_1 x15_1).f1).length ≤ x346000_1.length) then (impl_done.l0 k1 l1 l0_1 (l0_1.length : Int) (wrap64 (x15_1 + 1)) (spl x346000_1 ((wrap64 (((rd_T34 l0_1 x15_1).f0) * 64)) : Int).toNat ((rd_T34 l0_1 x15_1).f1))) else (none)) else (none)) else (impl_done.l0 k1 l1 l0_1 (l0_1.length : Int) (wrap64 (x15_1 + 1)) x346000_1)) = some (r1, r2) := H
      have A18 := Ak A180
      clear A180
      by_cases c19 : t348 = true
      ·subst c19
       have H1 : (if 0 ≤ (wrap64 (((rd_T34 l0_1 x15_1).f0) * 64)) then (if (0 < ((rd_T34 l0_1 x15_1).f1).length ∧ ((wrap64 (((rd_T34 l0_1 x15_1).f0) * 64)) : Int).toNat + ((rd_T34 l0_1 x15_1).f1).length ≤ x346000_1.length) then (impl_done.l0 k1 l1 l0_1 (l0_1.length : Int) (wrap64 (x15_1 + 1)) (spl x346000_1 ((wrap64 (((rd_T34 l0_1 x15_1).f0) * 64)) : Int).toNat ((rd_T34 l0_1 x15_1).f1))) else (none)) else (none)) = some (r1, r2) := by rw [if_pos rfl] at H; exact H
       clear H
       have H := H1
       clear H1
       obtain ⟨ji20, hji20⟩ : ∃ j_ : Int, (wrap64 (((rd_T34 l0_1 x15_1).f0) * 64)) = j_ := ⟨_, rfl⟩
       replace H : (if 0 ≤ (ji20) then (if (0 < ((rd_T34 l0_1 x15_1).f1).length ∧ ((ji20) : Int).toNat + ((rd_T34 l0_1 x15_1).f1).length ≤ x346000_1.length) then (impl_done.l0 k1 l1 l0_1 (l0_1.length : Int) (wrap64 (x15_1 + 1)) (spl x346000_1 ((ji20) : Int).toNat ((rd_T34 l0_1 x15_1).f1))) else (none)) else (none)) = some (r1, r2) := by first | (rw [hji20] at H; exact H) | (simp only [hji20] at H ⊢; exact H)
       (try rw [hji20] at A18)
       have hji20w : (IntKind.i64.wrap (((rd_T34 l0_1 x15_1).f0) * 64)) = ji20 := (i64_w _).trans hji20
       by_cases c21 : 0 ≤ (ji20)
       ·rw [if_pos c21] at H
        have c21b0 : decide (0 ≤ (ji20)) = true := decide_eq_true c21
        clear c21
        by_cases c22 : (0 < ((rd_T34 l0_1 x15_1).f1).length ∧ ((ji20) : Int).toNat + ((rd_T34 l0_1 x15_1).f1).length ≤ x346000_1.length)
        ·rw [if_pos c22] at H
         have LC_ := Ak c22
         have p0_ : 0 ≤ (ji20) := of_decide_eq_true c21b0
         have c22b0 : decide ((ji20) < (x346000_1.length : Int)) = true := decide_eq_true (by have := LC_.out; omega)
         have cle_ : decide ((ji20) ≤ (x346000_1.length : Int)) = true := decide_eq_true (by have := LC_.out; omega)
         clear c22
         obtain ⟨y349, hy349⟩ : ∃ y_ : List Int, y_ = (spl x346000_1 ((ji20) : Int).toNat ((rd_T34 l0_1 x15_1).f1)) := ⟨_, rfl⟩
         replace H : (impl_done.l0 k1 l1 l0_1 (l0_1.length : Int) (wrap64 (x15_1 + 1)) y349) = some (r1, r2) := by first | (rw [hy349]; with_reducible exact H) | (have H2_ := (Option.bind_some _ _).symm.trans H; rw [hy349]; with_reducible exact H2_) | (have H2_ := (Option.bind_some _ _).symm.trans H; with_reducible exact H2_) | with_reducible exact H | (rw [hy349]; exact H) | exact H
         have Ny349 := Ak hy349
         clear hy349
         have H' := Ak H
         clear H
         have p346 : 0 ≤ (x15_1 : Int) := of_decide_eq_true (by first | (with_reducible assumption) | assumption)
         have q346 : x15_1 < (l0_1.length : Int) := of_decide_eq_true (by first | (with_reducible assumption) | assumption)
         obtain ⟨ad346, A346_1, c346_1, e346, hx346_0, hx346_1, hl346_1, hi346_1⟩ := at_T34 HR0_1.out x15_1 p346 q346
         cases e346
         replace hx346_0 := (HB.out.cell (World.block_lt_of_cell? w _ hx346_0)).trans hx346_0
         replace hx346_1 := (HB.out.cell (World.block_lt_of_cell? w _ hx346_1)).trans hx346_1
         have HR346_1 := Ak hi346_1
         have HC346_1 := Ak hl346_1
         clear hi346_1 hl346_1
         replace p346 := eq_true p346
         replace q346 := eq_true q346
         try go_wp2_with (first | ((with_reducible refine gate_dst (N := 7) rfl ?_); refine box_event ?hg (N := 7) ?hd (cs := #[.int .i64 0, .slice none 0 0]) (t := 34) ?hr ?_; (case hd => rfl); (case hg => rfl); (case hr => first | (go_simp; done) | (go_simp; rfl)); intro gb347 hg w24 hbox hb; have n0_ := Ak (Kd.R_below (rq HO_346000.out) hb); have n1_ := Ak (blk_below (g := gb340) (o := .cells #[.slice A0_0 l0_0.length c0_0, .slice (some ad346) l0_1.length c0_1] 26 (0, 0)) (bq BK340.out) hb); have n2_ := Ak (blk_below (g := gb341) (o := .cells #[.slice none 0 0, .slice none 0 0] 26 (0, 0)) (bq BK341.out) hb); have n3_ := Ak (blk_below (g := gb345) (o := .cells #[u346000, .slice none 0 0] 26 (0, 0)) (bq BK345.out) hb); have n4_ := Ak (below_step (bw3 HB.out GE340.out GE341.out GE345.out) hb); have n5_ := Ak (hbox); have n6_ := Ak ((by rw [hg]; exact (below_size (bw3 HB.out GE340.out GE341.out GE345.out)) : w.heap.size ≤ gb347)); have n7_ := Ak ((by rw [hg]; exact (below_size (bw3 HB.out GE340.out GE341.out GE345.out)) : w.heap.size ≤ gb347)); have n8_ := Ak ((by rw [hg]; exact Nat.ne_of_lt (blk_lt (g := gb340) (o := .cells #[.slice A0_0 l0_0.length c0_0, .slice (some ad346) l0_1.length c0_1] 26 (0, 0)) (bq BK340.out)) : gb340 ≠ gb347)); have n9_ := Ak ((by rw [hg]; exact Nat.ne_of_gt (blk_lt (g := gb340) (o := .cells #[.slice A0_0 l0_0.length c0_0, .slice (some ad346) l0_1.length c0_1] 26 (0, 0)) (bq BK340.out)) : gb347 ≠ gb340)); have n10_ := Ak ((by rw [hg]; exact Nat.ne_of_lt (blk_lt (g := gb341) (o := .cells #[.slice none 0 0, .slice none 0 0] 26 (0, 0)) (bq BK341.out)) : gb341 ≠ gb347)); have n11_ := Ak ((by rw [hg]; exact Nat.ne_of_gt (blk_lt (g := gb341) (o := .cells #[.slice none 0 0, .slice none 0 0] 26 (0, 0)) (bq BK341.out)) : gb347 ≠ gb341)); have n12_ := Ak ((by rw [hg]; exact Nat.ne_of_lt (blk_lt (g := gb345) (o := .cells #[u346000, .slice none 0 0] 26 (0, 0)) (bq BK345.out)) : gb345 ≠ gb347)); have n13_ := Ak ((by rw [hg]; exact Nat.ne_of_gt (blk_lt (g := gb345) (o := .cells #[u346000, .slice none 0 0] 26 (0, 0)) (bq BK345.out)) : gb347 ≠ gb345)); clear HO_346000; clear BK340; clear BK341; clear BK345; clear HB; have HO_346000 := n0_; have BK340 := n1_; have BK341 := n2_; have BK345 := n3_; have HB := n4_; have BK347 := n5_; have GW347 := n6_; have GE347 := n7_; have NB340_347 := n8_; have NB347_340 := n9_; have NB341_347 := n10_; have NB347_341 := n11_; have NB345_347 := n12_; have NB347_345 := n13_; clear n0_ n1_ n2_ n3_ n4_ n5_ n6_ n7_ n8_ n9_ n10_ n11_ n12_ n13_; clear hb hbox hg; have hnb25 := NB347_340.out; have hnc25 := NB340_347.out; have hnb26 := NB347_341.out; have hnc26 := NB341_347.out; have hnb27 := NB347_345.out; have hnc27 := NB345_347.out; have hcz28_0 : w24.cell? ⟨gb347, 0, none⟩ = some (.int .i64 0) := (blk_cell BK347.out 0).trans rfl; have hcz28_1 : w24.cell? ⟨gb347, 1, none⟩ = some (.slice none 0 0) := (blk_cell BK347.out 1).trans rfl; have hfz28_0 := blk_frozen BK347.out 0; have hfz28_1 := blk_frozen BK347.out 1) | ((with_reducible refine gate_dst (N := 22) rfl ?_); refine goesC_ (some 22) rfl rfl Try.func65 (by kernel_rfl) rfl #[.int .i64 x15_1, .pointer (some ⟨gx, 0, none⟩)] #[.pointer (some ⟨gx, 0, none⟩)] rfl (by rfl) gm ?_; (with_reducible refine (impl_CrashOne.calls x15_1 A1 c1 l1 true gx _ ?hpx ?side1 ?side2 A18.out).mono ?_); (case hpx => exact cell_below HPX.out (bw4 HB.out GE340.out GE341.out GE345.out GE347.out)); (case side1 => exact Kd.C_below HR1.out (bw4 HB.out GE340.out GE341.out GE345.out GE347.out)); (case side2 => exact HC1.out); rintro e w' ⟨rfl, ⟨nd, rfl⟩⟩; refine ⟨_, rfl, ?_⟩))
         have n0_ : Aside0 (Kd.R (Kd.int .u8) 5 ((w24.setCell ⟨gb347, 0, none⟩ (.int .i64 ((rd_T34 l0_1 x15_1).f0))).setCell ⟨gb347, 1, none⟩ (.slice A346_1 ((rd_T34 l0_1 x15_1).f1).length c346_1)) w.heap.size (fun _ => True) u346000 x346000_1) := ⟨by (with_reducible repeat (first | apply Kd.R_alloc | apply Kd.R_drewN | apply Kd.R_drew)); exact Kd.R_mono (Kd.R_far (p := ⟨gb347, 1, none⟩) (Kd.R_far (p := ⟨gb347, 0, none⟩) (Kd.R_types HO_346000.out BK347.out (by decide)) (fun _ hk => hk.2) (.int .i64 ((rd_T34 l0_1 x15_1).f0))) (fun _ hk => hk.2) (.slice A346_1 ((rd_T34 l0_1 x15_1).f1).length c346_1)) (fun _ hk => trivial)⟩
         have n1_ : Aside0 (((w24.setCell ⟨gb347, 0, none⟩ (.int .i64 ((rd_T34 l0_1 x15_1).f0))).setCell ⟨gb347, 1, none⟩ (.slice A346_1 ((rd_T34 l0_1 x15_1).f1).length c346_1)).heap[gb340]? = some (.cells #[.slice A0_0 l0_0.length c0_0, .slice (some ad346) l0_1.length c0_1] 26 (0, 0))) := ⟨by (with_reducible repeat (first | refine blk_drewN ?_ _ | refine blk_drew ?_ | refine blk_alloc ?_ _)); refine blk_far ?_ NB340_347.out _; (with_reducible repeat (first | refine blk_drewN ?_ _ | refine blk_drew ?_ | refine blk_alloc ?_ _)); refine blk_far ?_ NB340_347.out _; (with_reducible repeat (first | refine blk_drewN ?_ _ | refine blk_drew ?_ | refine blk_alloc ?_ _)); exact BK340.out⟩
         have n2_ : Aside0 (((w24.setCell ⟨gb347, 0, none⟩ (.int .i64 ((rd_T34 l0_1 x15_1).f0))).setCell ⟨gb347, 1, none⟩ (.slice A346_1 ((rd_T34 l0_1 x15_1).f1).length c346_1)).heap[gb341]? = some (.cells #[.slice none 0 0, .slice none 0 0] 26 (0, 0))) := ⟨by (with_reducible repeat (first | refine blk_drewN ?_ _ | refine blk_drew ?_ | refine blk_alloc ?_ _)); refine blk_far ?_ NB341_347.out _; (with_reducible repeat (first | refine blk_drewN ?_ _ | refine blk_drew ?_ | refine blk_alloc ?_ _)); refine blk_far ?_ NB341_347.out _; (with_reducible repeat (first | refine blk_drewN ?_ _ | refine blk_drew ?_ | refine blk_alloc ?_ _)); exact BK341.out⟩
         have n3_ : Aside0 (((w24.setCell ⟨gb347, 0, none⟩ (.int .i64 ((rd_T34 l0_1 x15_1).f0))).setCell ⟨gb347, 1, none⟩ (.slice A346_1 ((rd_T34 l0_1 x15_1).f1).length c346_1)).heap[gb345]? = some (.cells #[u346000, .slice none 0 0] 26 (0, 0))) := ⟨by (with_reducible repeat (first | refine blk_drewN ?_ _ | refine blk_drew ?_ | refine blk_alloc ?_ _)); refine blk_far ?_ NB345_347.out _; (with_reducible repeat (first | refine blk_drewN ?_ _ | refine blk_drew ?_ | refine blk_alloc ?_ _)); refine blk_far ?_ NB345_347.out _; (with_reducible repeat (first | refine blk_drewN ?_ _ | refine blk_drew ?_ | refine blk_alloc ?_ _)); exact BK345.out⟩
         have n4_ : Aside0 (((w24.setCell ⟨gb347, 0, none⟩ (.int .i64 ((rd_T34 l0_1 x15_1).f0))).setCell ⟨gb347, 1, none⟩ (.slice A346_1 ((rd_T34 l0_1 x15_1).f1).length c346_1)).heap[gb347]? = some (.cells #[.int .i64 ((rd_T34 l0_1 x15_1).f0), .slice A346_1 ((rd_T34 l0_1 x15_1).f1).length c346_1] 34 (0, 0))) := ⟨by (with_reducible repeat (first | refine blk_drewN ?_ _ | refine blk_drew ?_ | refine blk_alloc ?_ _)); refine blk_put (cs := #[.int .i64 ((rd_T34 l0_1 x15_1).f0), .slice none 0 0]) ?_ 1 _ rfl; (with_reducible repeat (first | refine blk_drewN ?_ _ | refine blk_drew ?_ | refine blk_alloc ?_ _)); refine blk_put (cs := #[.int .i64 0, .slice none 0 0]) ?_ 0 _ rfl; (with_reducible repeat (first | refine blk_drewN ?_ _ | refine blk_drew ?_ | refine blk_alloc ?_ _)); exact BK347.out⟩
         have n5_ : Aside0 (Below w.heap.size w ((w24.setCell ⟨gb347, 0, none⟩ (.int .i64 ((rd_T34 l0_1 x15_1).f0))).setCell ⟨gb347, 1, none⟩ (.slice A346_1 ((rd_T34 l0_1 x15_1).f1).length c346_1))) := ⟨bw4 HB.out GE340.out GE341.out GE345.out GE347.out⟩
         (try clear HO_346000)
         (try clear BK340)
         (try clear BK341)
         (try clear BK345)
         (try clear BK347)
         (try clear HB)
         generalize ((w24.setCell ⟨gb347, 0, none⟩ (.int .i64 ((rd_T34 l0_1 x15_1).f0))).setCell ⟨gb347, 1, none⟩ (.slice A346_1 ((rd_T34 l0_1 x15_1).f1).length c346_1)) = w29 at n0_ n1_ n2_ n3_ n4_ n5_ ⊢
         have HO_346000 := n0_
         have BK340 := n1_
         have BK341 := n2_
         have BK345 := n3_
         have BK347 := n4_
         have HB := n5_
         clear n0_ n1_ n2_ n3_ n4_ n5_
         (try (rw [drewN_self w29]; generalize hq_ : World.drewN w29 _ = w29; have n0_ : Aside0 (Kd.R (Kd.int .u8) 5 w29 w.heap.size (fun _ => True) u346000 x346000_1) := ⟨by rw [← hq_]; exact (rq HO_346000.out)⟩; have n1_ : Aside0 (w29.heap[gb340]? = some (.cells #[.slice A0_0 l0_0.length c0_0, .slice (some ad346) l0_1.length c0_1] 26 (0, 0))) := ⟨by rw [← hq_]; exact (bq BK340.out)⟩; have n2_ : Aside0 (w29.heap[gb341]? = some (.cells #[.slice none 0 0, .slice none 0 0] 26 (0, 0))) := ⟨by rw [← hq_]; exact (bq BK341.out)⟩; have n3_ : Aside0 (w29.heap[gb345]? = some (.cells #[u346000, .slice none 0 0] 26 (0, 0))) := ⟨by rw [← hq_]; exact (bq BK345.out)⟩; have n4_ : Aside0 (w29.heap[gb347]? = some (.cells #[.int .i64 ((rd_T34 l0_1 x15_1).f0), .slice A346_1 ((rd_T34 l0_1 x15_1).f1).length c346_1] 34 (0, 0))) := ⟨by rw [← hq_]; exact (bq BK347.out)⟩; have n5_ : Aside0 (Below w.heap.size w w29) := ⟨by rw [← hq_]; exact (bw4 HB.out GE340.out GE341.out GE345.out GE347.out)⟩; clear HO_346000 BK340 BK341 BK345 BK347 HB hq_; have HO_346000 := n0_; have BK340 := n1_; have BK341 := n2_; have BK345 := n3_; have BK347 := n4_; have HB := n5_; clear n0_ n1_ n2_ n3_ n4_ n5_))
         have n0_ := Ak (Kd.R_drew HO_346000.out)
         have n1_ := Ak (blk_drew BK340.out)
         have n2_ := Ak (blk_drew BK341.out)
         have n3_ := Ak (blk_drew BK345.out)
         have n4_ := Ak (blk_drew BK347.out)
         have n5_ := Ak (below_drew1 HB.out)
         clear HO_346000
         clear BK340
         clear BK341
         clear BK345
         clear BK347
         clear HB
         have HO_346000 := n0_
         have BK340 := n1_
         have BK341 := n2_
         have BK345 := n3_
         have BK347 := n4_
         have HB := n5_
         clear n0_ n1_ n2_ n3_ n4_ n5_
         have p23 : 0 ≤ ((ji20) : Int) := of_decide_eq_true (by first | (with_reducible assumption) | assumption)
         have q23 : ((ji20) : Int) < ((x346000_1.length : Int) : Int) := of_decide_eq_true (by first | (with_reducible assumption) | assumption)
         obtain ⟨go23, co23, eo23, gb23, gl23, cl23, HG23⟩ := Kd.R_form HO_346000.out (by omega)
         (first | cases eo23 | (injection eo23 with ea_ en_ ec_; (first | subst ea_ | (injection ea_ with ea_; subst ea_)); subst ec_; clear en_))
         have GB23 := Ak gb23
         have GG23 := Ak HG23
         clear gb23 gl23 HG23
         obtain ⟨hx23_0, hf23_0⟩ := Kd.R_celln 0 HO_346000.out ((ji20) : Int) p23 q23
         replace p23 := eq_true p23
         replace q23 := eq_true q23
         obtain ⟨w1_, hcp_, hr_, hgr_⟩ := copy_at (P := Try.prog) w29.drew w.heap.size (fun _ => True) 22 22 3 5 Try.underlying22 (by kernel_rfl) go23 co23 ((ji20) : Int).toNat c346_1 A346_1 x346000_1 ((rd_T34 l0_1 x15_1).f1) HO_346000.out (Kd.C_below HR346_1.out HB.out) LC_.out.1 LC_.out.2
         have HQ31 := Ak (show Kd.R (Kd.int .u8) 5 w1_ w.heap.size (fun _ => True) (.slice (some ⟨go23, 0, none⟩) x346000_1.length co23) y349 from by rw [Ny349.out]; exact hr_)
         clear hr_
         have hne_ : ¬ (co23 = ((ji20) : Int).toNat) := by have h1_ := (Kd.R_reads' HO_346000.out).2.1; have h2_ := LC_.out; omega
         refine start_ (n := 9) (S := fun w' => w'.cell? ⟨gb345, 0, none⟩ = some (.slice (some ⟨go23, 0, none⟩) x346000_1.length co23) ∧ w'.cell? ⟨gb345, 1, none⟩ = some (.slice none 0 0) ∧ w'.cell? ⟨gb347, 0, none⟩ = some (.int .i64 ((rd_T34 l0_1 x15_1).f0)) ∧ w'.cell? ⟨gb347, 1, none⟩ = some (.slice A346_1 ((rd_T34 l0_1 x15_1).f1).length c346_1)) (ds := [8]) #[false, false, false, false, false, false, false, false, false] (by kernel_rfl) rfl rfl ⟨(blk_cell BK345.out 0).trans rfl, (blk_cell BK345.out 1).trans rfl, (blk_cell BK347.out 0).trans rfl, (blk_cell BK347.out 1).trans rfl⟩ (fun hHeld => ?_); refine with_tabW impl_done.tab6 impl_done.bits6 (fun HT_ HW_ => ?_)
         generalize w29.drew = w30 at HO_346000 BK340 BK341 BK345 BK347 HB GG23 hf23_0 hx23_0 hcp_ hgr_ hHeld ⊢
         refine pure_ (i := 0) (N := some 23) (v := ?_) (a' := ?_) #[true, false, false, false, false, false, false, false, false] rfl rfl (any_of HT_.out (by kernel_rfl)) (fun _ _ _ h => h) (Or.inl ⟨by rfl, ?_⟩) ?_ ?_
         rotate_left
         ·intro w'
          go_simp
          with_reducible rfl
         rotate_left
         ·simp only [Act.put, sT, sZ, sS, i64_w, i32_w]
          rfl
         refine pure_ (i := 2) (N := some 25) (v := ?_) (a' := ?_) #[true, false, true, false, false, false, false, false, false] rfl rfl (any_of HT_.out (by kernel_rfl)) (fun _ _ _ h => h) (Or.inl ⟨by rfl, ?_⟩) ?_ ?_
         rotate_left
         ·intro w'
          go_simp
          with_reducible rfl
         rotate_left
         ·simp only [Act.put, sT, sZ, sS, i64_w, i32_w]
          rfl
         refine pure_ (i := 6) (N := some 29) (v := ?_) (a' := ?_) #[true, false, true, false, false, false, true, false, false] rfl rfl (any_of HT_.out (by kernel_rfl)) (fun _ _ _ h => h) (Or.inl ⟨by rfl, ?_⟩) ?_ ?_
         rotate_left
         ·intro w'
          go_simp
          with_reducible rfl
         rotate_left
         ·simp only [Act.put, sT, sZ, sS, i64_w, i32_w]
          rfl
         refine take_ (i := 1) (N := some 24) (v := ?_) (a' := ?_) #[true, true, true, false, false, false, true, false, false] rfl rfl (take_ofW HT_.out HW_.out (by kernel_rfl)) (fun _ _ _ h => h) (Or.inl ⟨by rfl, ?_⟩) hHeld ?_ ?_
         rotate_left
         ·rintro w' ⟨s0, s1, s2, s3⟩
          go_simp
          with_reducible rfl
         rotate_left
         ·simp only [Act.put, sT, sZ, sS, i64_w, i32_w]
          rfl
         refine take_ (i := 3) (N := some 26) (v := ?_) (a' := ?_) #[true, true, true, true, false, false, true, false, false] rfl rfl (take_ofW HT_.out HW_.out (by kernel_rfl)) (fun _ _ _ h => h) (Or.inl ⟨by rfl, ?_⟩) hHeld ?_ ?_
         rotate_left
         ·rintro w' ⟨s0, s1, s2, s3⟩
          go_simp
          with_reducible rfl
         rotate_left
         ·simp only [Act.put, sT, sZ, sS, i64_w, i32_w]
          rfl
         refine pure_ (i := 4) (N := some 27) (v := ?_) (a' := ?_) #[true, true, true, true, true, false, true, false, false] rfl rfl (any_of HT_.out (by kernel_rfl)) (fun _ _ _ h => h) (Or.inl ⟨by rfl, ?_⟩) ?_ ?_
         rotate_left
         ·intro w'
          go_simp
          with_reducible rfl
         rotate_left
         ·simp only [Act.put, sT, sZ, sS, i64_w, i32_w]
          rfl
         refine pure_ (i := 5) (N := some 28) (v := ?_) (a' := ?_) #[true, true, true, true, true, true, true, false, false] rfl rfl (any_of HT_.out (by kernel_rfl)) (fun _ _ _ h => h) (Or.inl ⟨by rfl, ?_⟩) ?_ ?_
         rotate_left
         ·intro w'
          go_simp
          first | (with_reducible rfl) | (rw [if_pos (of_decide_eq_true cle_)])
         rotate_left
         ·simp only [Act.put, sT, sZ, sS, i64_w, i32_w]
          rfl
         refine take_ (i := 7) (N := some 30) (v := ?_) (a' := ?_) #[true, true, true, true, true, true, true, true, false] rfl rfl (take_ofW HT_.out HW_.out (by kernel_rfl)) (fun _ _ _ h => h) (Or.inl ⟨by rfl, ?_⟩) hHeld ?_ ?_
         rotate_left
         ·rintro w' ⟨s0, s1, s2, s3⟩
          go_simp
          with_reducible rfl
         rotate_left
         ·simp only [Act.put, sT, sZ, sS, i64_w, i32_w]
          rfl
         refine last_ (i := 8) (N := some 31) #[true, true, true, true, true, true, true, true, true] rfl rfl (one_of HT_.out (by kernel_rfl)) (by decide) (fun K hK => ?_)
         refine value_ (w1 := w1_) (v := goInt ((((rd_T34 l0_1 x15_1).f1).length : Nat) : Int)) (by rfl) rfl ?_ ?_
         ·show Sem.run _ (execOp _ { dst := some 31, op := Go.Op.call _, type := 3, pos := _, after := _, guard := none }) _ = _
          unfold execOp
          first | (simp only [resolve, invoke, builtin, Sem.run_bind, Sem.run_pure, Result.andThen_ok, List.map_toArray, List.map_cons, List.map_nil]; erw [hcp_]; rfl) | (erw [hcp_]; rfl)
         refine hK.out _ _ ?_
         clear hK K
         refine done_ (done_of HT_.out (by kernel_rfl)) ?_
         try go_wp2
         go_roundg k1
         case measure => have := HK1.out; omega
         case rel => exact ⟨(wrap64 (x15_1 + 1)), (y349), (.slice (some ⟨go23, 0, none⟩) x346000_1.length co23), (by first | rfl | (simp; done) | (simp [*]; done)), H', ⟨by have := HK1.out; omega⟩, ⟨rq HQ31.out⟩, ⟨by (with_reducible repeat (first | refine blk_drewN ?_ _ | refine blk_drew ?_ | refine blk_alloc ?_ _)); exact blk_grown BK340.out hgr_ (fun e_ => (Kd.R_ne HO_346000.out BK340.out (by decide)) e_)⟩, ⟨by (with_reducible repeat (first | refine blk_drewN ?_ _ | refine blk_drew ?_ | refine blk_alloc ?_ _)); exact blk_grown BK341.out hgr_ (fun e_ => (Kd.R_ne HO_346000.out BK341.out (by decide)) e_)⟩, ⟨by (with_reducible repeat (first | refine blk_drewN ?_ _ | refine blk_drew ?_ | refine blk_alloc ?_ _)); exact blk_grown BK345.out hgr_ (fun e_ => (Kd.R_ne HO_346000.out BK345.out (by decide)) e_)⟩, ⟨by (with_reducible repeat (first | apply below_alloc | apply pw_below_drewN | apply below_drew1)); exact HB.out.grown hgr_ HB.out.size (fun k_ e_ => by injection e_ with e_; subst e_; exact GB23.out)⟩⟩
        ·rw [if_neg c22] at H
         exact absurd H (by simp)
       ·rw [if_neg c21] at H
        exact absurd H (by simp)
      ·replace c19 := Bool.eq_false_iff.mpr c19
       subst c19
       have H1 : (impl_done.l0 k1 l1 l0_1 (l0_1.length : Int) (wrap64 (x15_1 + 1)) x346000_1) = some (r1, r2) := by rw [if_neg (show ¬ (false = true) by decide)] at H; exact H
       clear H
       have H := H1
       clear H1
       have H' := Ak H
       clear H
       have p346 : 0 ≤ (x15_1 : Int) := of_decide_eq_true (by first | (with_reducible assumption) | assumption)
       have q346 : x15_1 < (l0_1.length : Int) := of_decide_eq_true (by first | (with_reducible assumption) | assumption)
       obtain ⟨ad346, A346_1, c346_1, e346, hx346_0, hx346_1, hl346_1, hi346_1⟩ := at_T34 HR0_1.out x15_1 p346 q346
       cases e346
       replace hx346_0 := (HB.out.cell (World.block_lt_of_cell? w _ hx346_0)).trans hx346_0
       replace hx346_1 := (HB.out.cell (World.block_lt_of_cell? w _ hx346_1)).trans hx346_1
       have HR346_1 := Ak hi346_1
       have HC346_1 := Ak hl346_1
       clear hi346_1 hl346_1
       replace p346 := eq_true p346
       replace q346 := eq_true q346
       go_wp2_with (first | ((with_reducible refine gate_dst (N := 7) rfl ?_); refine box_event ?hg (N := 7) ?hd (cs := #[.int .i64 0, .slice none 0 0]) (t := 34) ?hr ?_; (case hd => rfl); (case hg => rfl); (case hr => first | (go_simp; done) | (go_simp; rfl)); intro gb347 hg w32 hbox hb; have n0_ := Ak (Kd.R_below (rq HO_346000.out) hb); have n1_ := Ak (blk_below (g := gb340) (o := .cells #[.slice A0_0 l0_0.length c0_0, .slice (some ad346) l0_1.length c0_1] 26 (0, 0)) (bq BK340.out) hb); have n2_ := Ak (blk_below (g := gb341) (o := .cells #[.slice none 0 0, .slice none 0 0] 26 (0, 0)) (bq BK341.out) hb); have n3_ := Ak (blk_below (g := gb345) (o := .cells #[u346000, .slice none 0 0] 26 (0, 0)) (bq BK345.out) hb); have n4_ := Ak (below_step (bw3 HB.out GE340.out GE341.out GE345.out) hb); have n5_ := Ak (hbox); have n6_ := Ak ((by rw [hg]; exact (below_size (bw3 HB.out GE340.out GE341.out GE345.out)) : w.heap.size ≤ gb347)); have n7_ := Ak ((by rw [hg]; exact (below_size (bw3 HB.out GE340.out GE341.out GE345.out)) : w.heap.size ≤ gb347)); have n8_ := Ak ((by rw [hg]; exact Nat.ne_of_lt (blk_lt (g := gb340) (o := .cells #[.slice A0_0 l0_0.length c0_0, .slice (some ad346) l0_1.length c0_1] 26 (0, 0)) (bq BK340.out)) : gb340 ≠ gb347)); have n9_ := Ak ((by rw [hg]; exact Nat.ne_of_gt (blk_lt (g := gb340) (o := .cells #[.slice A0_0 l0_0.length c0_0, .slice (some ad346) l0_1.length c0_1] 26 (0, 0)) (bq BK340.out)) : gb347 ≠ gb340)); have n10_ := Ak ((by rw [hg]; exact Nat.ne_of_lt (blk_lt (g := gb341) (o := .cells #[.slice none 0 0, .slice none 0 0] 26 (0, 0)) (bq BK341.out)) : gb341 ≠ gb347)); have n11_ := Ak ((by rw [hg]; exact Nat.ne_of_gt (blk_lt (g := gb341) (o := .cells #[.slice none 0 0, .slice none 0 0] 26 (0, 0)) (bq BK341.out)) : gb347 ≠ gb341)); have n12_ := Ak ((by rw [hg]; exact Nat.ne_of_lt (blk_lt (g := gb345) (o := .cells #[u346000, .slice none 0 0] 26 (0, 0)) (bq BK345.out)) : gb345 ≠ gb347)); have n13_ := Ak ((by rw [hg]; exact Nat.ne_of_gt (blk_lt (g := gb345) (o := .cells #[u346000, .slice none 0 0] 26 (0, 0)) (bq BK345.out)) : gb347 ≠ gb345)); clear HO_346000; clear BK340; clear BK341; clear BK345; clear HB; have HO_346000 := n0_; have BK340 := n1_; have BK341 := n2_; have BK345 := n3_; have HB := n4_; have BK347 := n5_; have GW347 := n6_; have GE347 := n7_; have NB340_347 := n8_; have NB347_340 := n9_; have NB341_347 := n10_; have NB347_341 := n11_; have NB345_347 := n12_; have NB347_345 := n13_; clear n0_ n1_ n2_ n3_ n4_ n5_ n6_ n7_ n8_ n9_ n10_ n11_ n12_ n13_; clear hb hbox hg; have hnb33 := NB347_340.out; have hnc33 := NB340_347.out; have hnb34 := NB347_341.out; have hnc34 := NB341_347.out; have hnb35 := NB347_345.out; have hnc35 := NB345_347.out; have hcz36_0 : w32.cell? ⟨gb347, 0, none⟩ = some (.int .i64 0) := (blk_cell BK347.out 0).trans rfl; have hcz36_1 : w32.cell? ⟨gb347, 1, none⟩ = some (.slice none 0 0) := (blk_cell BK347.out 1).trans rfl; have hfz36_0 := blk_frozen BK347.out 0; have hfz36_1 := blk_frozen BK347.out 1) | ((with_reducible refine gate_dst (N := 22) rfl ?_); refine goesC_ (some 22) rfl rfl Try.func65 (by kernel_rfl) rfl #[.int .i64 x15_1, .pointer (some ⟨gx, 0, none⟩)] #[.pointer (some ⟨gx, 0, none⟩)] rfl (by rfl) gm ?_; (with_reducible refine (impl_CrashOne.calls x15_1 A1 c1 l1 false gx _ ?hpx ?side1 ?side2 A18.out).mono ?_); (case hpx => exact cell_below HPX.out (bw4 HB.out GE340.out GE341.out GE345.out GE347.out)); (case side1 => exact Kd.C_below HR1.out (bw4 HB.out GE340.out GE341.out GE345.out GE347.out)); (case side2 => exact HC1.out); rintro e w' ⟨rfl, ⟨nd, rfl⟩⟩; refine ⟨_, rfl, ?_⟩))
       go_roundg k1
       case measure => have := HK1.out; omega
       case rel => exact ⟨(wrap64 (x15_1 + 1)), (x346000_1), (u346000), (by first | rfl | (simp; done) | (simp [*]; done)), H', ⟨by have := HK1.out; omega⟩, ⟨by (with_reducible repeat (first | apply Kd.R_alloc | apply Kd.R_drewN | apply Kd.R_drew)); exact Kd.R_mono (Kd.R_far (p := ⟨gb347, 1, none⟩) (Kd.R_far (p := ⟨gb347, 0, none⟩) (Kd.R_types HO_346000.out BK347.out (by decide)) (fun _ hk => hk.2) (.int .i64 ((rd_T34 l0_1 x15_1).f0))) (fun _ hk => hk.2) (.slice A346_1 ((rd_T34 l0_1 x15_1).f1).length c346_1)) (fun _ hk => trivial)⟩, ⟨by (with_reducible repeat (first | refine blk_drewN ?_ _ | refine blk_drew ?_ | refine blk_alloc ?_ _)); refine blk_far ?_ NB340_347.out _; (with_reducible repeat (first | refine blk_drewN ?_ _ | refine blk_drew ?_ | refine blk_alloc ?_ _)); refine blk_far ?_ NB340_347.out _; (with_reducible repeat (first | refine blk_drewN ?_ _ | refine blk_drew ?_ | refine blk_alloc ?_ _)); exact BK340.out⟩, ⟨by (with_reducible repeat (first | refine blk_drewN ?_ _ | refine blk_drew ?_ | refine blk_alloc ?_ _)); refine blk_far ?_ NB341_347.out _; (with_reducible repeat (first | refine blk_drewN ?_ _ | refine blk_drew ?_ | refine blk_alloc ?_ _)); refine blk_far ?_ NB341_347.out _; (with_reducible repeat (first | refine blk_drewN ?_ _ | refine blk_drew ?_ | refine blk_alloc ?_ _)); exact BK341.out⟩, ⟨by (with_reducible repeat (first | refine blk_drewN ?_ _ | refine blk_drew ?_ | refine blk_alloc ?_ _)); refine blk_far ?_ NB345_347.out _; (with_reducible repeat (first | refine blk_drewN ?_ _ | refine blk_drew ?_ | refine blk_alloc ?_ _)); refine blk_far ?_ NB345_347.out _; (with_reducible repeat (first | refine blk_drewN ?_ _ | refine blk_drew ?_ | refine blk_alloc ?_ _)); exact BK345.out⟩, ⟨bw4 HB.out GE340.out GE341.out GE345.out GE347.out⟩⟩
     ·rw [if_neg c17] at H
      exact absurd H (by simp)
    ·rw [if_neg c16] at H
     exact absurd H (by simp)
   ·rw [if_neg c15] at H
    have c15b0 : decide (x15_1 < (l0_1.length : Int)) = false := decide_eq_false c15
    clear c15
    simp only [Option.some.injEq, Prod.mk.injEq] at H
    obtain ⟨rfl, rfl⟩ := H
    have hnb37 := NB345_340.out
    have hnc37 := NB340_345.out
    have hnb38 := NB345_341.out
    have hnc38 := NB341_345.out
    have hcz39_0 : wr.cell? ⟨gb345, 0, none⟩ = some (u346000) := (blk_cell BK345.out 0).trans rfl
    have hcz39_1 : wr.cell? ⟨gb345, 1, none⟩ = some (.slice none 0 0) := (blk_cell BK345.out 1).trans rfl
    have hfz39_0 := blk_frozen BK345.out 0
    have hfz39_1 := blk_frozen BK345.out 1
    obtain ⟨Ao40, co40, eo40⟩ := Kd.R_slice HO_346000.out
    subst eo40
    have hnb41 := NB341_340.out
    have hnc41 := NB340_341.out
    have hcz42_0 : wr.cell? ⟨gb341, 0, none⟩ = some (.slice none 0 0) := (blk_cell BK341.out 0).trans rfl
    have hcz42_1 : wr.cell? ⟨gb341, 1, none⟩ = some (.slice none 0 0) := (blk_cell BK341.out 1).trans rfl
    have hfz42_0 := blk_frozen BK341.out 0
    have hfz42_1 := blk_frozen BK341.out 1
    go_wp2
    refine bodyPost_ret (results_cell_row rfl _ _ gb341 26 #[.slice Ao40 x346000_1.length co40, .slice none 0 0] (0, 0) _ rfl (by (with_reducible repeat (first | refine blk_drewN ?_ _ | refine blk_drew ?_ | refine blk_alloc ?_ _)); refine blk_put (cs := #[.slice Ao40 x346000_1.length co40, .slice none 0 0]) ?_ 1 _ rfl; (with_reducible repeat (first | refine blk_drewN ?_ _ | refine blk_drew ?_ | refine blk_alloc ?_ _)); refine blk_put (cs := #[.slice none 0 0, .slice none 0 0]) ?_ 0 _ rfl; (with_reducible repeat (first | refine blk_drewN ?_ _ | refine blk_drew ?_ | refine blk_alloc ?_ _)); exact BK341.out) Try.underlying26 rfl (by kernel_rfl)) rfl ?_
    exact ⟨_, _, by first | rfl | (simp [errW_none, errW_some] <;> rfl) | (simp [*, errW_none, errW_some] <;> rfl), by (with_reducible repeat (first | apply Kd.R_alloc | apply Kd.R_drewN | apply Kd.R_drew)); exact Kd.R_mono (Kd.R_far (p := ⟨gb341, 1, none⟩) (Kd.R_far (p := ⟨gb341, 0, none⟩) (Kd.R_types HO_346000.out BK341.out (by decide)) (fun _ hk => hk.2) (.slice Ao40 x346000_1.length co40)) (fun _ hk => hk.2) (.slice none 0 0)) (fun _ hk => trivial), by first | exact Kd.S_nil _ _ _ _ _ | exact Kd.N_nil _ _ _ _ _ | exact Kd.V_nil _ _ _ _ _ | exact Kd.Q_nil _ _ _ _ _ | exact Kd.R_nil _ _ _ _ _, bw3 HB.out GE340.out GE341.out GE345.out⟩

end Go.Proofs.Ytinilabmffjnaaa.PFnDisk
