/- Functions that the law reaches, with their contracts. -/
import Derived.Test.YtgmnphckgicadaaQFnExactLogAddx18
import Derived.Test.YtgmnphckgicadaaQFnExactLogAddx22
namespace Go.Proofs.Ytgmnphckgicadaa.PFnExactLogAdd
open Go.RowKit Go.Proofs.YtgmnphckgicadaaW.PrintWords Go.Proofs.YtgmnphckgicadaaW.PrintLast Go.Proofs.YtgmnphckgicadaaW.PrintMore
attribute [local go_sem] max2_int min2_int max_two min_two max_three min_three max_four min_four
set_option linter.unusedVariables false
set_option linter.unusedSimpArgs false

/-- copy(xs[off:], ys), xs a row of bytes of one's own, where all of ys goes over. -/
theorem copy_at {P : Program} (W : World) (base : Nat) (ok : Nat → Prop) (t t' T e : TypeId) (ht : P.underlying t = some (.slice e)) (hinfo : (P.info? e).map (·.size) = some 1) (g cap off c : Nat) (A : Option Addr) (xs ys : List Int)
  (HO : Kd.R (Kd.int .u8) e W base ok (.slice (some ⟨g, 0, none⟩) xs.length cap) xs) (HR : Kd.C (Kd.int .u8) W A ys.length ys) (hp : 0 < ys.length) (hfit : off + ys.length ≤ xs.length) :
  ∃ w1, (Builtin.copy_ #[t, t'] T #[.slice (some ⟨g, off, none⟩) (xs.length - off) (cap - off), .slice A ys.length c]).run P W = .ok (goInt ((ys.length : Nat) : Int)) w1 ∧ Kd.R (Kd.int .u8) e w1 base ok (.slice (some ⟨g, 0, none⟩) xs.length cap) (xs.take off ++ ys ++ xs.drop (off + ys.length)) ∧ W.grownBy w1 (some g) := by
 have hR := Kd.reads_of_C (enc := Value.int .u8) (d := (0 : Int)) (h1 := fun _ => rfl) HR
 have hown := Kd.own_of_R (enc := Value.int .u8) (h1 := fun _ => rfl) HO
 obtain ⟨ad, hA, hc⟩ := hR.2.2 hp
 rcases hown.2 with ⟨hv0, _⟩ | ⟨g', cap', cur, hv, hb, hh, hnc, hcm, hcs, htake⟩
 ·cases hv0
 ·injection hv with hv1 hv2 hv3
  injection hv1 with hv1
  injection hv1 with hv1
  subst hv1
  subst hv3
  have hsrc : ∀ j u, (encs (Value.int .u8) ys)[j]? = some u → W.cell? (ad.add j) = some u := by
   intro j u hu
   have hj : j < ys.length := by
    rcases Nat.lt_or_ge j ys.length with h | h
    ·exact h
    ·rw [List.getElem?_eq_none (by rw [encs_length]; exact h)] at hu
     cases hu
   rw [encs_get (d := (0 : Int)) _ j hj] at hu
   rw [hc j (by omega), ← hu]
  have hkl : (encs (Value.int .u8) ys).length = ys.length := encs_length _
  have hr := run_copy_cells (P := P) W t t' T e g off (xs.length - off) (cap - off) ad ys.length c (encs (Value.int .u8) ys) ht hinfo (by rw [hkl]; exact (Nat.min_eq_left (by omega)).symm) hsrc
   (fun j hj => by rw [cell_of_row W g _ cur e (0, 0) hh]; simp; omega) (fun j _ => blk_frozen hh _) (by intro u hu; simp only [encs, List.mem_map] at hu; obtain ⟨q, _, rfl⟩ := hu; rfl)
  obtain ⟨cur', h3, h4, h5⟩ := setCells_row (encs (Value.int .u8) ys) off W cur hh (by rw [hkl]; omega)
  obtain ⟨s1, s2, s3, s4⟩ := setCells_same g (encs (Value.int .u8) ys) off W
  have hln : (xs.take off ++ ys ++ xs.drop (off + ys.length)).length = xs.length := by
   rw [List.length_append, List.length_append, List.length_take, List.length_drop]
   omega
  refine ⟨_, by rw [hA, hr, hkl], Kd.R_of_own ?_ HO.1, ⟨s1, s2, s3, by rw [s4]; exact Nat.le_refl _, fun k _ hk => setCells_far _ _ k (fun he => hk (by rw [he]))⟩⟩
  rw [hln]
  refine ⟨by rw [encs_length, hln, Nat.mul_one], .inr ⟨g, cap, cur', rfl, hb, h3, hnc, hcm, by rw [h4, hcs], ?_⟩⟩
  have htk : cur.toList.take xs.length = encs (Value.int .u8) xs := by rw [← htake, Nat.mul_one]
  rw [h5, hkl, encs_append, encs_append, Nat.mul_one]
  have hd : encs (Value.int .u8) (xs.drop (off + ys.length)) = (cur.toList.take xs.length).drop (off + ys.length) := by rw [htk]; simp [encs, List.map_drop]
  have hk2 : encs (Value.int .u8) (xs.take off) = (cur.toList.take xs.length).take off := by rw [htk]; simp [encs, List.map_take]
  have hcl : cur.toList.length = cap := by rw [Array.length_toList]; omega
  have e1 : (List.take off cur.toList ++ encs (Value.int .u8) ys).length = off + ys.length := by rw [List.length_append, List.length_take, hkl]; omega
  rw [hd, hk2, List.take_take, Nat.min_eq_left (show off ≤ xs.length by omega), List.take_append, e1, List.take_of_length_le (by rw [e1]; omega), List.drop_take]
/-- A row of bytes with others laid over it. -/
def spl (b : List Int) (o : Nat) (ys : List Int) : List Int := b.take o ++ ys ++ b.drop (o + ys.length)
def impl_done.l0 : Nat → List (S96) → Int → Int → List Int → Option (List Int × (List (S96)))
 | 0, _, _, _, _ => none
 | k + 1, x13, x14, x15, x386000 => if x15 < x14 then (if 0 ≤ x15 then (if x15 < (x13.length : Int) then ((impl_SyncOne.f x15).bind fun t388 => (if t388 = true then (if 0 ≤ (wrap64 (((rd_T96 x13 x15).f0) * 64)) then (if (0 < ((rd_T96 x13 x15).f1).length ∧ ((wrap64 (((rd_T96 x13 x15).f0) * 64)) : Int).toNat + ((rd_T96 x13 x15).f1).length ≤ x386000.length) then (impl_done.l0 k x13 x14 (wrap64 (x15 + 1)) (spl x386000 ((wrap64 (((rd_T96 x13 x15).f0) * 64)) : Int).toNat ((rd_T96 x13 x15).f1))) else (none)) else (none)) else (impl_done.l0 k x13 x14 (wrap64 (x15 + 1)) x386000))) else (none)) else (none)) else (some (x386000, ([] : List (S96))))
def impl_done.f (k : Nat) (l0_0 : List Int) (l0_1 : List (S96)) : Option (List Int × (List (S96))) := (slices_Clone_byte_byte.f l0_0).bind fun t382 => (impl_done.l0 k l0_1 (l0_1.length : Int) 0 t382)
def impl_done.T6 : Bool × List (List Nat × List Nat) := (true, [([], []), ([0], [0]), ([], []), ([2], [2]), ([3], [3]), ([1, 4], [1, 4]), ([], []), ([6], [6]), ([5, 7], [5, 7])])
def impl_done.B6 : List Nat := [0, 1, 0, 4, 12, 31, 0, 64, 255]
theorem impl_done.tab6 : rtab .any (opsOf Try.f68 6) = impl_done.T6 := by kernel_rfl
theorem impl_done.bits6 : waitsOk impl_done.T6.2 impl_done.B6 = true := by kernel_rfl
/-- A call through a slot that holds a plain function, in a plain region. -/
theorem goesT_ {P : Program} {ops : Array Oper} {Q : Exit → Act → World → Prop} {rest : List Oper} {oi : Oper} {a : Act} {w : World} (N : Option Tmp) (hd : oi.dst = N) (hg : oi.guard = none) {f : FuncId} {fn : Func} {zs : Array Operand} {ts : Array TypeId} {t : Tmp}
  (hf : P.funcs[f]? = some fn) (hname : (fn.name == "runtime.NumGoroutine") = false) (hb : fn.body.isSome = true) (args : Array Value)
  (hop : oi.op = .call { callee := .value (.tmp t), args := zs, argTypes := ts }) (ht : a.eval (.tmp t) = .func (.func f) #[] #[]) (hargs : zs.map a.eval = args)
  (h : Calls P f args w fun e w' => ∃ v, e = .returned v ∧ wpList P ops Q rest (a.put N v) w') : wpList P ops Q (oi :: rest) a w := by
 refine wpList_plain hg fun K hK => ?_
 have he := enters_ hf hname hb args w
 have hrun : (execOp a.eval oi).run P w = .ok (.enter f args) w := by
  unfold execOp
  simp [hop, resolve, Deferred.ofValue, ht, invoke, hargs, he]
 unfold Oper.wp
 rw [hrun, Oper.upon_enter]
 refine h.mono fun e w'' hh => ?_
 obtain ⟨v, rfl, hk⟩ := hh
 subst hd
 exact hK _ _ hk
set_option maxHeartbeats 8000000 in
set_option maxRecDepth 100000 in
theorem impl_done.calls (k : Nat) (A0_0 : Option Addr) (c0_0 : Nat) (l0_0 : List Int) (A0_1 : Option Addr) (c0_1 : Nat) (l0_1 : List (S96)) (r1 : List Int) (r2 : List (S96)) (w : World) (hr0_0 : Kd.C (Kd.int .u8) w A0_0 l0_0.length l0_0) (hc0_0 : l0_0.length ≤ c0_0) (hr0_1 : Kd.C k96 w A0_1 l0_1.length l0_1) (hc0_1 : l0_1.length ≤ c0_1) (h : impl_done.f k l0_0 l0_1 = some (r1, r2)) :
  Calls Try.prog 68 #[.agg #[.slice A0_0 l0_0.length c0_0, .slice A0_1 l0_1.length c0_1], .func (.func 102) #[] #[]] w fun e w' => ∃ v0_ v1_ : Value, e = .returned (.agg #[v0_, v1_]) ∧ Kd.R (Kd.int .u8) 5 w' w.heap.size (fun _ => True) v0_ r1 ∧ Kd.S k96 96 w' w.heap.size (fun k_ => some k_ ≠ (v0_ : Value).ownBlock) v1_ r2 ∧ Below w.heap.size w w' := by
 have hu31 := Try.underlying31
 have hu96 := Try.underlying96
 have HR0_0 := Ak hr0_0
 have HC0_0 := Ak hc0_0
 clear hr0_0 hc0_0
 have HR0_1 := Ak hr0_1
 have HC0_1 := Ak hc0_1
 clear hr0_1 hc0_1
 have HB := Ak (Below.refl w.heap.size w)
 have H : ((slices_Clone_byte_byte.f l0_0).bind fun t382 => (impl_done.l0 k l0_1 (l0_1.length : Int) 0 t382)) = some (r1, r2) := h
 clear h
 replace H := Option.bind_eq_some_iff.mp H
 obtain ⟨t382, A20, H⟩ := H
 have A2 := Ak A20
 clear A20
 have H' := Ak H
 clear H
 go_enter Try.func68, Try.ntmps68
 go_wp2_with (first | ((with_reducible refine gate_dst (N := 2) rfl ?_); refine box_event ?hg (N := 2) ?hd (cs := #[.slice A0_0 l0_0.length c0_0, .slice A0_1 l0_1.length c0_1]) (t := 31) ?hr ?_; (case hd => rfl); (case hg => rfl); (case hr => first | (go_simp; done) | (go_simp; rfl)); intro gb380 hg w3 hbox hb; have BK380 := Ak (hbox); have GW380 := Ak (zb hg (bw HB.out)); have GE380 := Ak (zb hg (bw HB.out)); replace HB := Ak (below_step (bw HB.out) hb); clear hb hbox hg) | ((with_reducible refine gate_dst (N := 4) rfl ?_); refine box_event ?hg (N := 4) ?hd (cs := #[.slice none 0 0, .slice none 0 0]) (t := 31) ?hr ?_; (case hd => rfl); (case hg => rfl); (case hr => first | (go_simp; done) | (go_simp; rfl)); intro gb381 hg w4 hbox hb; have BK381 := Ak (hbox); have GW381 := Ak (zb hg (bw1 HB.out GE380.out)); have GE381 := Ak (zb hg (bw1 HB.out GE380.out)); replace HB := Ak (below_step (bw1 HB.out GE380.out) hb); have NB380_381 := Ak (zl hg (bq BK380.out)); have NB381_380 := Ak (zm hg (bq BK380.out)); replace BK380 := Ak (blk_below (bq BK380.out) hb); clear hb hbox hg; have hnb5 := NB380_381.out; have hnc5 := NB381_380.out; have hcz6_0 := zk0 BK380.out; have hcz6_1 := zk1 BK380.out; have hfz6_0 := blk_frozen BK380.out 0; have hfz6_1 := blk_frozen BK380.out 1) | ((with_reducible refine gate_callee (f := 100) rfl ?_); refine goesL_ (some 10) rfl rfl Try.func100 (by kernel_rfl) rfl #[.slice A0_0 l0_0.length c0_0] rfl gm ?_; (with_reducible refine (slices_Clone_byte_byte.calls _ _ l0_0 t382 _ ?side1 ?side2 A2.out).mono ?_); (case side1 => exact zq (Kd.C_below HR0_0.out HB.out)); (case side2 => exact HC0_0.out); rintro e w7 ⟨v383, rfl, ho0, hb⟩; refine ⟨_, rfl, ?_⟩; have HO384 := Ak (Kd.R_lower ho0 (below_size (bw2 HB.out GE380.out GE381.out))); replace BK380 := Ak (blk_below (bq BK380.out) hb); replace BK381 := Ak (blk_below (bq BK381.out) hb); replace HB := Ak (below_step (bw2 HB.out GE380.out GE381.out) hb); obtain ⟨Ao8, co8, eo8⟩ := Kd.R_slice HO384.out; subst eo8) | ((with_reducible refine gate_dst (N := 5) rfl ?_); refine box_event ?hg (N := 5) ?hd (cs := #[.slice none 0 0, .slice none 0 0]) (t := 31) ?hr ?_; (case hd => rfl); (case hg => rfl); (case hr => first | (go_simp; done) | (go_simp; rfl)); intro gb385 hg w9 hbox hb; replace HO384 := Ak (Kd.R_below (rq HO384.out) hb); have BK385 := Ak (hbox); have GW385 := Ak (zb hg (bw2 HB.out GE380.out GE381.out)); have GE385 := Ak (zb hg (bw2 HB.out GE380.out GE381.out)); replace HB := Ak (below_step (bw2 HB.out GE380.out GE381.out) hb); have NB380_385 := Ak (zl hg (bq BK380.out)); have NB385_380 := Ak (zm hg (bq BK380.out)); replace BK380 := Ak (blk_below (bq BK380.out) hb); have NB381_385 := Ak (zl hg (bq BK381.out)); have NB385_381 := Ak (zm hg (bq BK381.out)); replace BK381 := Ak (blk_below (bq BK381.out) hb); clear hb hbox hg; have hnb10 := NB385_380.out; have hnc10 := NB380_385.out; have hnb11 := NB385_381.out; have hnc11 := NB381_385.out; have hcz12_0 := zk0 BK385.out; have hcz12_1 := zk1 BK385.out; have hfz12_0 := blk_frozen BK385.out 0; have hfz12_1 := blk_frozen BK385.out 1; have hcz13_0 := zk0 BK380.out; have hcz13_1 := zk1 BK380.out; have hfz13_0 := blk_frozen BK380.out 0; have hfz13_1 := blk_frozen BK380.out 1))
 go_loopg [15] k (fun kq v15 w' => ∃ (x15_1 : Int) (x386000_1 : List Int) (u386000 : Value), v15 = .int .i64 x15_1 ∧ Aside0 (impl_done.l0 kq l0_1 (l0_1.length : Int) x15_1 x386000_1 = some (r1, r2)) ∧ Aside0 (kq ≤ k) ∧ Aside0 (Kd.R (Kd.int .u8) 5 w' w.heap.size (fun _ => True) u386000 x386000_1) ∧ Aside0 (w'.heap[gb380]? = some (.cells #[(.slice A0_0 l0_0.length c0_0), (.slice A0_1 l0_1.length c0_1)] 31 (0, 0))) ∧ Aside0 (w'.heap[gb381]? = some (.cells #[(.slice none 0 0), (.slice none 0 0)] 31 (0, 0))) ∧ Aside0 (w'.heap[gb385]? = some (.cells #[u386000, (.slice none 0 0)] 31 (0, 0))) ∧ Aside0 (Below w.heap.size w w'))
 case atStart => exact ⟨(0), (t382), (.slice Ao8 t382.length co8), (by first | rfl | (simp; done) | (simp [*]; done)), H', ⟨Nat.le_refl _⟩, ⟨by refine rq ?_; exact Kd.R_mono (Kd.R_far (p := ⟨gb385, 1, none⟩) (Kd.R_far (p := ⟨gb385, 0, none⟩) (Kd.R_types HO384.out BK385.out (by decide)) (fun _ hk => hk.2) (.slice Ao8 t382.length co8)) (fun _ hk => hk.2) (.slice none 0 0)) (fun _ hk => trivial)⟩, ⟨by refine bq ?_; refine blk_far ?_ NB380_385.out _; refine bq ?_; refine blk_far ?_ NB380_385.out _; exact bq BK380.out⟩, ⟨by refine bq ?_; refine blk_far ?_ NB381_385.out _; refine bq ?_; refine blk_far ?_ NB381_385.out _; exact bq BK381.out⟩, ⟨by refine bq ?_; refine blk_put (cs := #[.slice Ao8 t382.length co8, .slice none 0 0]) ?_ 1 _ rfl; refine bq ?_; refine blk_put (cs := #[.slice none 0 0, .slice none 0 0]) ?_ 0 _ rfl; exact bq BK385.out⟩, ⟨bw3 HB.out GE380.out GE381.out GE385.out⟩⟩
 case round =>
  clear H'
  obtain ⟨x15_1, x386000_1, u386000, rfl, HA, HK1, HO_386000, BK380, BK381, BK385, HB⟩ := hrel
  cases gk with
  | zero => exact absurd HA.out (by simp [impl_done.l0])
  | succ k1 =>
   have H := HA.out
   clear HA
   simp only [impl_done.l0] at H
   by_cases c14 : x15_1 < (l0_1.length : Int)
   ·rw [if_pos c14] at H
    have c14b0 : decide (x15_1 < (l0_1.length : Int)) = true := decide_eq_true c14
    clear c14
    by_cases c15 : 0 ≤ x15_1
    ·rw [if_pos c15] at H
     have c15b0 : decide (0 ≤ x15_1) = true := decide_eq_true c15
     clear c15
     by_cases c16 : x15_1 < (l0_1.length : Int)
     ·rw [if_pos c16] at H
      have c16b0 : decide (x15_1 < (l0_1.length : Int)) = true := decide_eq_true c16
      clear c16
      replace H := Option.bind_eq_some_iff.mp H
      obtain ⟨t388, A170, H⟩ := H
      have A17 := Ak A170
      clear A170
      by_cases c18 : t388 = true
      ·subst c18
       have H1 : (if 0 ≤ (wrap64 (((rd_T96 l0_1 x15_1).f0) * 64)) then (if (0 < ((rd_T96 l0_1 x15_1).f1).length ∧ ((wrap64 (((rd_T96 l0_1 x15_1).f0) * 64)) : Int).toNat + ((rd_T96 l0_1 x15_1).f1).length ≤ x386000_1.length) then (impl_done.l0 k1 l0_1 (l0_1.length : Int) (wrap64 (x15_1 + 1)) (spl x386000_1 ((wrap64 (((rd_T96 l0_1 x15_1).f0) * 64)) : Int).toNat ((rd_T96 l0_1 x15_1).f1))) else (none)) else (none)) = some (r1, r2) := by rw [if_pos rfl] at H; exact H
       clear H
       have H := H1
       clear H1
       obtain ⟨ji19, hji19⟩ : ∃ j_ : Int, (wrap64 (((rd_T96 l0_1 x15_1).f0) * 64)) = j_ := ⟨_, rfl⟩
       replace H : (if 0 ≤ (ji19) then (if (0 < ((rd_T96 l0_1 x15_1).f1).length ∧ ((ji19) : Int).toNat + ((rd_T96 l0_1 x15_1).f1).length ≤ x386000_1.length) then (impl_done.l0 k1 l0_1 (l0_1.length : Int) (wrap64 (x15_1 + 1)) (spl x386000_1 ((ji19) : Int).toNat ((rd_T96 l0_1 x15_1).f1))) else (none)) else (none)) = some (r1, r2) := by first | (rw [hji19] at H; exact H) | (simp only [hji19] at H ⊢; exact H)
       (try rw [hji19] at A17)
       have hji19w : (IntKind.i64.wrap (((rd_T96 l0_1 x15_1).f0) * 64)) = ji19 := (i64_w _).trans hji19
       by_cases c20 : 0 ≤ (ji19)
       ·rw [if_pos c20] at H
        have c20b0 : decide (0 ≤ (ji19)) = true := decide_eq_true c20
        clear c20
        by_cases c21 : (0 < ((rd_T96 l0_1 x15_1).f1).length ∧ ((ji19) : Int).toNat + ((rd_T96 l0_1 x15_1).f1).length ≤ x386000_1.length)
        ·rw [if_pos c21] at H
         have LC_ := Ak c21
         have p0_ : 0 ≤ (ji19) := of_decide_eq_true c20b0
         have c21b0 : decide ((ji19) < (x386000_1.length : Int)) = true := decide_eq_true (by have := LC_.out; omega)
         have cle_ : decide ((ji19) ≤ (x386000_1.length : Int)) = true := decide_eq_true (by have := LC_.out; omega)
         clear c21
         obtain ⟨y389, hy389⟩ : ∃ y_ : List Int, y_ = (spl x386000_1 ((ji19) : Int).toNat ((rd_T96 l0_1 x15_1).f1)) := ⟨_, rfl⟩
         replace H : (impl_done.l0 k1 l0_1 (l0_1.length : Int) (wrap64 (x15_1 + 1)) y389) = some (r1, r2) := by first | (rw [hy389]; with_reducible exact H) | (have H2_ := (Option.bind_some _ _).symm.trans H; rw [hy389]; with_reducible exact H2_) | (have H2_ := (Option.bind_some _ _).symm.trans H; with_reducible exact H2_) | with_reducible exact H | (rw [hy389]; exact H) | exact H
         have Ny389 := Ak hy389
         clear hy389
         have H' := Ak H
         clear H
         have p386 : 0 ≤ (x15_1 : Int) := of_decide_eq_true (by first | (with_reducible assumption) | assumption)
         have q386 : x15_1 < (l0_1.length : Int) := of_decide_eq_true (by first | (with_reducible assumption) | assumption)
         obtain ⟨ad386, A386_1, c386_1, e386, hx386_0, hx386_1, hl386_1, hi386_1⟩ := at_T96 HR0_1.out x15_1 p386 q386
         cases e386
         replace hx386_0 := (HB.out.cell (World.block_lt_of_cell? w _ hx386_0)).trans hx386_0
         replace hx386_1 := (HB.out.cell (World.block_lt_of_cell? w _ hx386_1)).trans hx386_1
         have HR386_1 := Ak hi386_1
         have HC386_1 := Ak hl386_1
         clear hi386_1 hl386_1
         replace p386 := eq_true p386
         replace q386 := eq_true q386
         try go_wp2_with (first | ((with_reducible refine gate_dst (N := 7) rfl ?_); refine box_event ?hg (N := 7) ?hd (cs := #[.int .i64 0, .slice none 0 0]) (t := 96) ?hr ?_; (case hd => rfl); (case hg => rfl); (case hr => first | (go_simp; done) | (go_simp; rfl)); intro gb387 hg w23 hbox hb; replace HO_386000 := Ak (Kd.R_below (rq HO_386000.out) hb); have BK387 := Ak (hbox); have GW387 := Ak (zb hg (bw3 HB.out GE380.out GE381.out GE385.out)); have GE387 := Ak (zb hg (bw3 HB.out GE380.out GE381.out GE385.out)); replace HB := Ak (below_step (bw3 HB.out GE380.out GE381.out GE385.out) hb); have NB380_387 := Ak (zl hg (bq BK380.out)); have NB387_380 := Ak (zm hg (bq BK380.out)); replace BK380 := Ak (blk_below (bq BK380.out) hb); have NB381_387 := Ak (zl hg (bq BK381.out)); have NB387_381 := Ak (zm hg (bq BK381.out)); replace BK381 := Ak (blk_below (bq BK381.out) hb); have NB385_387 := Ak (zl hg (bq BK385.out)); have NB387_385 := Ak (zm hg (bq BK385.out)); replace BK385 := Ak (blk_below (bq BK385.out) hb); clear hb hbox hg; have hnb24 := NB387_380.out; have hnc24 := NB380_387.out; have hnb25 := NB387_381.out; have hnc25 := NB381_387.out; have hnb26 := NB387_385.out; have hnc26 := NB385_387.out; have hcz27_0 := zk0 BK387.out; have hcz27_1 := zk1 BK387.out; have hfz27_0 := blk_frozen BK387.out 0; have hfz27_1 := blk_frozen BK387.out 1) | ((with_reducible refine gate_dst (N := 22) rfl ?_); refine goesT_ (some 22) rfl rfl Try.func102 (by kernel_rfl) rfl #[.int .i64 x15_1] rfl (by rfl) gm ?_; (with_reducible refine (impl_SyncOne.calls x15_1 true _ A17.out).mono ?_); rintro e w' ⟨rfl, ⟨nd, rfl⟩⟩; refine ⟨_, rfl, ?_⟩))
         have n0_ : Aside0 (Kd.R (Kd.int .u8) 5 ((w23.setCell ⟨gb387, 0, none⟩ (.int .i64 ((rd_T96 l0_1 x15_1).f0))).setCell ⟨gb387, 1, none⟩ (.slice A386_1 ((rd_T96 l0_1 x15_1).f1).length c386_1)) w.heap.size (fun _ => True) u386000 x386000_1) := ⟨by refine rq ?_; exact Kd.R_mono (Kd.R_far (p := ⟨gb387, 1, none⟩) (Kd.R_far (p := ⟨gb387, 0, none⟩) (Kd.R_types HO_386000.out BK387.out (by decide)) (fun _ hk => hk.2) (.int .i64 ((rd_T96 l0_1 x15_1).f0))) (fun _ hk => hk.2) (.slice A386_1 ((rd_T96 l0_1 x15_1).f1).length c386_1)) (fun _ hk => trivial)⟩
         have n1_ : Aside0 (((w23.setCell ⟨gb387, 0, none⟩ (.int .i64 ((rd_T96 l0_1 x15_1).f0))).setCell ⟨gb387, 1, none⟩ (.slice A386_1 ((rd_T96 l0_1 x15_1).f1).length c386_1)).heap[gb380]? = some (.cells #[.slice A0_0 l0_0.length c0_0, .slice (some ad386) l0_1.length c0_1] 31 (0, 0))) := ⟨by refine bq ?_; refine blk_far ?_ NB380_387.out _; refine bq ?_; refine blk_far ?_ NB380_387.out _; exact bq BK380.out⟩
         have n2_ : Aside0 (((w23.setCell ⟨gb387, 0, none⟩ (.int .i64 ((rd_T96 l0_1 x15_1).f0))).setCell ⟨gb387, 1, none⟩ (.slice A386_1 ((rd_T96 l0_1 x15_1).f1).length c386_1)).heap[gb381]? = some (.cells #[.slice none 0 0, .slice none 0 0] 31 (0, 0))) := ⟨by refine bq ?_; refine blk_far ?_ NB381_387.out _; refine bq ?_; refine blk_far ?_ NB381_387.out _; exact bq BK381.out⟩
         have n3_ : Aside0 (((w23.setCell ⟨gb387, 0, none⟩ (.int .i64 ((rd_T96 l0_1 x15_1).f0))).setCell ⟨gb387, 1, none⟩ (.slice A386_1 ((rd_T96 l0_1 x15_1).f1).length c386_1)).heap[gb385]? = some (.cells #[u386000, .slice none 0 0] 31 (0, 0))) := ⟨by refine bq ?_; refine blk_far ?_ NB385_387.out _; refine bq ?_; refine blk_far ?_ NB385_387.out _; exact bq BK385.out⟩
         have n4_ : Aside0 (((w23.setCell ⟨gb387, 0, none⟩ (.int .i64 ((rd_T96 l0_1 x15_1).f0))).setCell ⟨gb387, 1, none⟩ (.slice A386_1 ((rd_T96 l0_1 x15_1).f1).length c386_1)).heap[gb387]? = some (.cells #[.int .i64 ((rd_T96 l0_1 x15_1).f0), .slice A386_1 ((rd_T96 l0_1 x15_1).f1).length c386_1] 96 (0, 0))) := ⟨by refine bq ?_; refine blk_put (cs := #[.int .i64 ((rd_T96 l0_1 x15_1).f0), .slice none 0 0]) ?_ 1 _ rfl; refine bq ?_; refine blk_put (cs := #[.int .i64 0, .slice none 0 0]) ?_ 0 _ rfl; exact bq BK387.out⟩
         have n5_ : Aside0 (Below w.heap.size w ((w23.setCell ⟨gb387, 0, none⟩ (.int .i64 ((rd_T96 l0_1 x15_1).f0))).setCell ⟨gb387, 1, none⟩ (.slice A386_1 ((rd_T96 l0_1 x15_1).f1).length c386_1))) := ⟨bw4 HB.out GE380.out GE381.out GE385.out GE387.out⟩
         (try clear HO_386000)
         (try clear BK380)
         (try clear BK381)
         (try clear BK385)
         (try clear BK387)
         (try clear HB)
         generalize ((w23.setCell ⟨gb387, 0, none⟩ (.int .i64 ((rd_T96 l0_1 x15_1).f0))).setCell ⟨gb387, 1, none⟩ (.slice A386_1 ((rd_T96 l0_1 x15_1).f1).length c386_1)) = w28 at n0_ n1_ n2_ n3_ n4_ n5_ ⊢
         have HO_386000 := n0_
         have BK380 := n1_
         have BK381 := n2_
         have BK385 := n3_
         have BK387 := n4_
         have HB := n5_
         clear n0_ n1_ n2_ n3_ n4_ n5_
         (try (rw [drewN_self w28]; generalize hq_ : World.drewN w28 _ = w28; replace HO_386000 : Aside0 (Kd.R (Kd.int .u8) 5 w28 w.heap.size (fun _ => True) u386000 x386000_1) := ⟨by rw [← hq_]; exact (rq HO_386000.out)⟩; replace BK380 : Aside0 (w28.heap[gb380]? = some (.cells #[.slice A0_0 l0_0.length c0_0, .slice (some ad386) l0_1.length c0_1] 31 (0, 0))) := ⟨by rw [← hq_]; exact (bq BK380.out)⟩; replace BK381 : Aside0 (w28.heap[gb381]? = some (.cells #[.slice none 0 0, .slice none 0 0] 31 (0, 0))) := ⟨by rw [← hq_]; exact (bq BK381.out)⟩; replace BK385 : Aside0 (w28.heap[gb385]? = some (.cells #[u386000, .slice none 0 0] 31 (0, 0))) := ⟨by rw [← hq_]; exact (bq BK385.out)⟩; replace BK387 : Aside0 (w28.heap[gb387]? = some (.cells #[.int .i64 ((rd_T96 l0_1 x15_1).f0), .slice A386_1 ((rd_T96 l0_1 x15_1).f1).length c386_1] 96 (0, 0))) := ⟨by rw [← hq_]; exact (bq BK387.out)⟩; replace HB : Aside0 (Below w.heap.size w w28) := ⟨by rw [← hq_]; exact (bw4 HB.out GE380.out GE381.out GE385.out GE387.out)⟩; clear hq_))
         replace HO_386000 := Ak (Kd.R_drew HO_386000.out)
         replace BK380 := Ak (blk_drew BK380.out)
         replace BK381 := Ak (blk_drew BK381.out)
         replace BK385 := Ak (blk_drew BK385.out)
         replace BK387 := Ak (blk_drew BK387.out)
         replace HB := Ak (below_drew1 HB.out)
         have p22 : 0 ≤ ((ji19) : Int) := of_decide_eq_true (by first | (with_reducible assumption) | assumption)
         have q22 : ((ji19) : Int) < ((x386000_1.length : Int) : Int) := of_decide_eq_true (by first | (with_reducible assumption) | assumption)
         obtain ⟨go22, co22, eo22, gb22, gl22, cl22, HG22⟩ := Kd.R_form HO_386000.out (by omega)
         (first | cases eo22 | (injection eo22 with ea_ en_ ec_; (first | subst ea_ | (injection ea_ with ea_; subst ea_)); subst ec_; clear en_))
         have GB22 := Ak gb22
         have GG22 := Ak HG22
         clear gb22 gl22 HG22
         obtain ⟨hx22_0, hf22_0⟩ := Kd.R_celln 0 HO_386000.out ((ji19) : Int) p22 q22
         replace p22 := eq_true p22
         replace q22 := eq_true q22
         obtain ⟨w1_, hcp_, hr_, hgr_⟩ := copy_at (P := Try.prog) w28.drew w.heap.size (fun _ => True) 22 22 3 5 Try.underlying22 (by kernel_rfl) go22 co22 ((ji19) : Int).toNat c386_1 A386_1 x386000_1 ((rd_T96 l0_1 x15_1).f1) HO_386000.out (Kd.C_below HR386_1.out HB.out) LC_.out.1 LC_.out.2
         have HQ30 := Ak (show Kd.R (Kd.int .u8) 5 w1_ w.heap.size (fun _ => True) (.slice (some ⟨go22, 0, none⟩) x386000_1.length co22) y389 from by rw [Ny389.out]; exact hr_)
         clear hr_
         have hne_ : ¬ (co22 = ((ji19) : Int).toNat) := by have h1_ := (Kd.R_reads' HO_386000.out).2.1; have h2_ := LC_.out; omega
         refine start_ (n := 9) (S := fun w' => w'.cell? ⟨gb385, 0, none⟩ = some (.slice (some ⟨go22, 0, none⟩) x386000_1.length co22) ∧ w'.cell? ⟨gb385, 1, none⟩ = some (.slice none 0 0) ∧ w'.cell? ⟨gb387, 0, none⟩ = some (.int .i64 ((rd_T96 l0_1 x15_1).f0)) ∧ w'.cell? ⟨gb387, 1, none⟩ = some (.slice A386_1 ((rd_T96 l0_1 x15_1).f1).length c386_1)) (ds := [8]) #[false, false, false, false, false, false, false, false, false] (by kernel_rfl) rfl rfl ⟨zk0 BK385.out, zk1 BK385.out, zk0 BK387.out, zk1 BK387.out⟩ (fun hHeld => ?_); refine with_tabW impl_done.tab6 impl_done.bits6 (fun HT_ HW_ => ?_)
         generalize w28.drew = w29 at HO_386000 BK380 BK381 BK385 BK387 HB GG22 hf22_0 hx22_0 hcp_ hgr_ hHeld ⊢
         refine pure_ (i := 0) (N := some 23) (v := ?_) (a' := ?_) #[true, false, false, false, false, false, false, false, false] rfl rfl (any_of HT_.out (by kernel_rfl)) (fun _ _ _ h => h) (Or.inl ⟨by rfl, ?_⟩) ?_ ?_
         rotate_left
         ·intro w'
          go_simp
          with_reducible rfl
         rotate_left
         ·simp only [Act.put, sT, sZ, sS, i64_w, i32_w]
          rfl
         refine pure_ (i := 2) (N := some 25) (v := ?_) (a' := ?_) #[true, false, true, false, false, false, false, false, false] rfl rfl (any_of HT_.out (by kernel_rfl)) (fun _ _ _ h => h) (Or.inl ⟨by rfl, ?_⟩) ?_ ?_
         rotate_left
         ·intro w'
          go_simp
          with_reducible rfl
         rotate_left
         ·simp only [Act.put, sT, sZ, sS, i64_w, i32_w]
          rfl
         refine pure_ (i := 6) (N := some 29) (v := ?_) (a' := ?_) #[true, false, true, false, false, false, true, false, false] rfl rfl (any_of HT_.out (by kernel_rfl)) (fun _ _ _ h => h) (Or.inl ⟨by rfl, ?_⟩) ?_ ?_
         rotate_left
         ·intro w'
          go_simp
          with_reducible rfl
         rotate_left
         ·simp only [Act.put, sT, sZ, sS, i64_w, i32_w]
          rfl
         refine take_ (i := 1) (N := some 24) (v := ?_) (a' := ?_) #[true, true, true, false, false, false, true, false, false] rfl rfl (take_ofW HT_.out HW_.out (by kernel_rfl)) (fun _ _ _ h => h) (Or.inl ⟨by rfl, ?_⟩) hHeld ?_ ?_
         rotate_left
         ·rintro w' ⟨s0, s1, s2, s3⟩
          go_simp
          with_reducible rfl
         rotate_left
         ·simp only [Act.put, sT, sZ, sS, i64_w, i32_w]
          rfl
         refine take_ (i := 3) (N := some 26) (v := ?_) (a' := ?_) #[true, true, true, true, false, false, true, false, false] rfl rfl (take_ofW HT_.out HW_.out (by kernel_rfl)) (fun _ _ _ h => h) (Or.inl ⟨by rfl, ?_⟩) hHeld ?_ ?_
         rotate_left
         ·rintro w' ⟨s0, s1, s2, s3⟩
          go_simp
          with_reducible rfl
         rotate_left
         ·simp only [Act.put, sT, sZ, sS, i64_w, i32_w]
          rfl
         refine pure_ (i := 4) (N := some 27) (v := ?_) (a' := ?_) #[true, true, true, true, true, false, true, false, false] rfl rfl (any_of HT_.out (by kernel_rfl)) (fun _ _ _ h => h) (Or.inl ⟨by rfl, ?_⟩) ?_ ?_
         rotate_left
         ·intro w'
          go_simp
          with_reducible rfl
         rotate_left
         ·simp only [Act.put, sT, sZ, sS, i64_w, i32_w]
          rfl
         refine pure_ (i := 5) (N := some 28) (v := ?_) (a' := ?_) #[true, true, true, true, true, true, true, false, false] rfl rfl (any_of HT_.out (by kernel_rfl)) (fun _ _ _ h => h) (Or.inl ⟨by rfl, ?_⟩) ?_ ?_
         rotate_left
         ·intro w'
          go_simp
          first | (with_reducible rfl) | (rw [if_pos (of_decide_eq_true cle_)])
         rotate_left
         ·simp only [Act.put, sT, sZ, sS, i64_w, i32_w]
          rfl
         refine take_ (i := 7) (N := some 30) (v := ?_) (a' := ?_) #[true, true, true, true, true, true, true, true, false] rfl rfl (take_ofW HT_.out HW_.out (by kernel_rfl)) (fun _ _ _ h => h) (Or.inl ⟨by rfl, ?_⟩) hHeld ?_ ?_
         rotate_left
         ·rintro w' ⟨s0, s1, s2, s3⟩
          go_simp
          with_reducible rfl
         rotate_left
         ·simp only [Act.put, sT, sZ, sS, i64_w, i32_w]
          rfl
         refine last_ (i := 8) (N := some 31) #[true, true, true, true, true, true, true, true, true] rfl rfl (one_of HT_.out (by kernel_rfl)) (by decide) (fun K hK => ?_)
         refine value_ (w1 := w1_) (v := goInt ((((rd_T96 l0_1 x15_1).f1).length : Nat) : Int)) (by rfl) rfl ?_ ?_
         ·show Sem.run _ (execOp _ { dst := some 31, op := Go.Op.call _, type := 3, pos := _, after := _, guard := none }) _ = _
          unfold execOp
          first | (simp only [resolve, invoke, builtin, Sem.run_bind, Sem.run_pure, Result.andThen_ok, List.map_toArray, List.map_cons, List.map_nil]; erw [hcp_]; rfl) | (erw [hcp_]; rfl)
         refine hK.out _ _ ?_
         clear hK K
         refine done_ (done_of HT_.out (by kernel_rfl)) ?_
         try go_wp2
         go_roundg k1
         case measure => have := HK1.out; omega
         case rel => exact ⟨(wrap64 (x15_1 + 1)), (y389), (.slice (some ⟨go22, 0, none⟩) x386000_1.length co22), (by first | rfl | (simp; done) | (simp [*]; done)), H', ⟨by have := HK1.out; omega⟩, ⟨rq HQ30.out⟩, ⟨by refine bq ?_; exact blk_grown BK380.out hgr_ (fun e_ => (Kd.R_ne HO_386000.out BK380.out (by decide)) e_)⟩, ⟨by refine bq ?_; exact blk_grown BK381.out hgr_ (fun e_ => (Kd.R_ne HO_386000.out BK381.out (by decide)) e_)⟩, ⟨by refine bq ?_; exact blk_grown BK385.out hgr_ (fun e_ => (Kd.R_ne HO_386000.out BK385.out (by decide)) e_)⟩, ⟨by (with_reducible repeat (first | apply below_alloc | apply pw_below_drewN | apply below_drew1)); exact HB.out.grown hgr_ HB.out.size (fun k_ e_ => by injection e_ with e_; subst e_; exact GB22.out)⟩⟩
        ·rw [if_neg c21] at H
         exact absurd H (by simp)
       ·rw [if_neg c20] at H
        exact absurd H (by simp)
      ·replace c18 := Bool.eq_false_iff.mpr c18
       subst c18
       have H1 : (impl_done.l0 k1 l0_1 (l0_1.length : Int) (wrap64 (x15_1 + 1)) x386000_1) = some (r1, r2) := by rw [if_neg (show ¬ (false = true) by decide)] at H; exact H
       clear H
       have H := H1
       clear H1
       have H' := Ak H
       clear H
       have p386 : 0 ≤ (x15_1 : Int) := of_decide_eq_true (by first | (with_reducible assumption) | assumption)
       have q386 : x15_1 < (l0_1.length : Int) := of_decide_eq_true (by first | (with_reducible assumption) | assumption)
       obtain ⟨ad386, A386_1, c386_1, e386, hx386_0, hx386_1, hl386_1, hi386_1⟩ := at_T96 HR0_1.out x15_1 p386 q386
       cases e386
       replace hx386_0 := (HB.out.cell (World.block_lt_of_cell? w _ hx386_0)).trans hx386_0
       replace hx386_1 := (HB.out.cell (World.block_lt_of_cell? w _ hx386_1)).trans hx386_1
       have HR386_1 := Ak hi386_1
       have HC386_1 := Ak hl386_1
       clear hi386_1 hl386_1
       replace p386 := eq_true p386
       replace q386 := eq_true q386
       go_wp2_with (first | ((with_reducible refine gate_dst (N := 7) rfl ?_); refine box_event ?hg (N := 7) ?hd (cs := #[.int .i64 0, .slice none 0 0]) (t := 96) ?hr ?_; (case hd => rfl); (case hg => rfl); (case hr => first | (go_simp; done) | (go_simp; rfl)); intro gb387 hg w31 hbox hb; replace HO_386000 := Ak (Kd.R_below (rq HO_386000.out) hb); have BK387 := Ak (hbox); have GW387 := Ak (zb hg (bw3 HB.out GE380.out GE381.out GE385.out)); have GE387 := Ak (zb hg (bw3 HB.out GE380.out GE381.out GE385.out)); replace HB := Ak (below_step (bw3 HB.out GE380.out GE381.out GE385.out) hb); have NB380_387 := Ak (zl hg (bq BK380.out)); have NB387_380 := Ak (zm hg (bq BK380.out)); replace BK380 := Ak (blk_below (bq BK380.out) hb); have NB381_387 := Ak (zl hg (bq BK381.out)); have NB387_381 := Ak (zm hg (bq BK381.out)); replace BK381 := Ak (blk_below (bq BK381.out) hb); have NB385_387 := Ak (zl hg (bq BK385.out)); have NB387_385 := Ak (zm hg (bq BK385.out)); replace BK385 := Ak (blk_below (bq BK385.out) hb); clear hb hbox hg; have hnb32 := NB387_380.out; have hnc32 := NB380_387.out; have hnb33 := NB387_381.out; have hnc33 := NB381_387.out; have hnb34 := NB387_385.out; have hnc34 := NB385_387.out; have hcz35_0 := zk0 BK387.out; have hcz35_1 := zk1 BK387.out; have hfz35_0 := blk_frozen BK387.out 0; have hfz35_1 := blk_frozen BK387.out 1) | ((with_reducible refine gate_dst (N := 22) rfl ?_); refine goesT_ (some 22) rfl rfl Try.func102 (by kernel_rfl) rfl #[.int .i64 x15_1] rfl (by rfl) gm ?_; (with_reducible refine (impl_SyncOne.calls x15_1 false _ A17.out).mono ?_); rintro e w' ⟨rfl, ⟨nd, rfl⟩⟩; refine ⟨_, rfl, ?_⟩))
       go_roundg k1
       case measure => have := HK1.out; omega
       case rel => exact ⟨(wrap64 (x15_1 + 1)), (x386000_1), (u386000), (by first | rfl | (simp; done) | (simp [*]; done)), H', ⟨by have := HK1.out; omega⟩, ⟨by refine rq ?_; exact Kd.R_mono (Kd.R_far (p := ⟨gb387, 1, none⟩) (Kd.R_far (p := ⟨gb387, 0, none⟩) (Kd.R_types HO_386000.out BK387.out (by decide)) (fun _ hk => hk.2) (.int .i64 ((rd_T96 l0_1 x15_1).f0))) (fun _ hk => hk.2) (.slice A386_1 ((rd_T96 l0_1 x15_1).f1).length c386_1)) (fun _ hk => trivial)⟩, ⟨by refine bq ?_; refine blk_far ?_ NB380_387.out _; refine bq ?_; refine blk_far ?_ NB380_387.out _; exact bq BK380.out⟩, ⟨by refine bq ?_; refine blk_far ?_ NB381_387.out _; refine bq ?_; refine blk_far ?_ NB381_387.out _; exact bq BK381.out⟩, ⟨by refine bq ?_; refine blk_far ?_ NB385_387.out _; refine bq ?_; refine blk_far ?_ NB385_387.out _; exact bq BK385.out⟩, ⟨bw4 HB.out GE380.out GE381.out GE385.out GE387.out⟩⟩
     ·rw [if_neg c16] at H
      exact absurd H (by simp)
    ·rw [if_neg c15] at H
     exact absurd H (by simp)
   ·rw [if_neg c14] at H
    have c14b0 : decide (x15_1 < (l0_1.length : Int)) = false := decide_eq_false c14
    clear c14
    simp only [Option.some.injEq, Prod.mk.injEq] at H
    obtain ⟨rfl, rfl⟩ := H
    have hnb36 := NB385_380.out
    have hnc36 := NB380_385.out
    have hnb37 := NB385_381.out
    have hnc37 := NB381_385.out
    have hcz38_0 : wr.cell? ⟨gb385, 0, none⟩ = some (u386000) := zk0 BK385.out
    have hcz38_1 : wr.cell? ⟨gb385, 1, none⟩ = some (.slice none 0 0) := zk1 BK385.out
    have hfz38_0 := blk_frozen BK385.out 0
    have hfz38_1 := blk_frozen BK385.out 1
    obtain ⟨Ao39, co39, eo39⟩ := Kd.R_slice HO_386000.out
    subst eo39
    have hnb40 := NB381_380.out
    have hnc40 := NB380_381.out
    have hcz41_0 : wr.cell? ⟨gb381, 0, none⟩ = some (.slice none 0 0) := zk0 BK381.out
    have hcz41_1 : wr.cell? ⟨gb381, 1, none⟩ = some (.slice none 0 0) := zk1 BK381.out
    have hfz41_0 := blk_frozen BK381.out 0
    have hfz41_1 := blk_frozen BK381.out 1
    go_wp2
    refine bodyPost_ret (results_cell_row rfl _ _ gb381 31 #[.slice Ao39 x386000_1.length co39, .slice none 0 0] (0, 0) _ rfl (by refine bq ?_; refine blk_put (cs := #[.slice Ao39 x386000_1.length co39, .slice none 0 0]) ?_ 1 _ rfl; refine bq ?_; refine blk_put (cs := #[.slice none 0 0, .slice none 0 0]) ?_ 0 _ rfl; exact bq BK381.out) Try.underlying31 rfl (by kernel_rfl)) rfl ?_
    exact ⟨_, _, zw, by refine rq ?_; exact Kd.R_mono (Kd.R_far (p := ⟨gb381, 1, none⟩) (Kd.R_far (p := ⟨gb381, 0, none⟩) (Kd.R_types HO_386000.out BK381.out (by decide)) (fun _ hk => hk.2) (.slice Ao39 x386000_1.length co39)) (fun _ hk => hk.2) (.slice none 0 0)) (fun _ hk => trivial), by first | exact Kd.S_nil _ _ _ _ _ | exact Kd.N_nil _ _ _ _ _ | exact Kd.V_nil _ _ _ _ _ | exact Kd.Q_nil _ _ _ _ _ | exact Kd.R_nil _ _ _ _ _, bw3 HB.out GE380.out GE381.out GE385.out⟩

end Go.Proofs.Ytgmnphckgicadaa.PFnExactLogAdd

