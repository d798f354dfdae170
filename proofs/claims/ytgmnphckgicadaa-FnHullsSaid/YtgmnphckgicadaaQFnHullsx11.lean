/- The functions that the law FnHulls reaches, each with what it computes and its contract. -/
import Derived.Test.YtgmnphckgicadaaQFnHullsx0
import Derived.Test.YtgmnphckgicadaaQFnHullsx1
namespace Go.Proofs.Ytgmnphckgicadaa.PFnHulls
open Go.RowKit Go.Proofs.YtgmnphckgicadaaW.PrintWords Go.Proofs.YtgmnphckgicadaaW.PrintLast Go.Proofs.YtgmnphckgicadaaW.PrintMore
attribute [local go_sem] max2_int min2_int max_two min_two max_three min_three max_four min_four
set_option linter.unusedVariables false
set_option linter.unusedSimpArgs false

attribute [local go_sem high] eqA67
mutual
def impl_Pt_79.l0 : Nat → List (S67) → Int → Option ((List (S67)))
 | 0, _, _ => none
 | k + 1, x0, x3 => if x3 < (x0.length : Int) then (if 0 ≤ x3 then (if 0 ≤ (wrap64 (x3 - 1)) then (if (wrap64 (x3 - 1)) < (x0.length : Int) then (if (((rd_T67 x0 x3).f0) == ((rd_T67 x0 (wrap64 (x3 - 1))).f0) && (((rd_T67 x0 x3).f1) == ((rd_T67 x0 (wrap64 (x3 - 1))).f1))) = true then (if x3 ≤ (x0.length : Int) then (impl_Pt_79.l1 k x0 x3 (x0.drop (x3 : Int).toNat) 1) else (none)) else (impl_Pt_79.l0 k x0 (wrap64 (x3 + 1)))) else (none)) else (none)) else (none)) else (some x0)
def impl_Pt_79.l1 : Nat → List (S67) → Int → List (S67) → Int → Option ((List (S67)))
 | 0, _, _, _, _ => none
 | k + 1, x0, x3, x4, x5 => if x5 < (x4.length : Int) then (if 0 ≤ x5 then (if 0 ≤ (wrap64 (x5 - 1)) then (if (wrap64 (x5 - 1)) < (x4.length : Int) then (if (!(((rd_T67 x4 x5).f0) == ((rd_T67 x4 (wrap64 (x5 - 1))).f0)) || (!(((rd_T67 x4 x5).f1) == ((rd_T67 x4 (wrap64 (x5 - 1))).f1)))) = true then (if 0 ≤ x3 then (if x3 < (x0.length : Int) then (impl_Pt_79.l1 k (x0.set (x3 : Int).toNat (⟨(rd_T67 x4 x5).f0, (rd_T67 x4 x5).f1⟩ : S67)) (wrap64 (x3 + 1)) x4 (wrap64 (x5 + 1))) else (none)) else (none)) else (impl_Pt_79.l1 k x0 x3 x4 (wrap64 (x5 + 1)))) else (none)) else (none)) else (none)) else (if 0 ≤ x3 then (if x3 ≤ (x0.length : Int) then (some (x0.take (x3 : Int).toNat)) else (none)) else (none))
end
def impl_Pt_79.f (k : Nat) (l0 : List (S67)) : Option ((List (S67))) := if (l0.length : Int) < 2 then (some l0) else (impl_Pt_79.l0 k l0 1)
theorem R67_small {w : World} {base : Nat} {ok : Nat → Prop} {v : Value} {xs : List S67} (h : Kd.R k67 67 w base ok v xs) : xs.length ≤ 9223372036854775807 := by
 obtain ⟨_, inner, ho, _⟩ := h
 rcases ho.2 with ⟨_, h0⟩ | ⟨g, cap, cur, _, _, _, h1, h2, _⟩
 ·omega
 ·simp only [maxLen] at h2; omega
theorem clear67_run {W : World} {base : Nat} {ty : TypeId} {ad : Addr} {n c m : Nat} {xs : List S67} {ok : Nat → Prop} (HO : Kd.R k67 67 W base ok (.slice (some ad) n c) xs) (hm : m ≤ n) {A : Option Addr}
  (hA : A = if c = m then some ad else (some ad).map (·.add (m * 2))) {t : Nat} (ht : t = n - m) (c2 : Nat) :
  ∃ w1, (Builtin.clear_ #[58] ty #[.slice A t c2]).run Try.prog W = .ok (.tuple #[]) w1 ∧ Kd.R k67 67 w1 base ok (.slice (some ad) m c) (xs.take m) ∧ W.grownBy w1 (some ad.block) := by
 obtain ⟨hn, hnc, _⟩ := Kd.R_reads' HO
 rcases Nat.eq_zero_or_pos t with h0 | h0
 ·subst h0
  refine ⟨W, ?_, Kd.R_take HO (by omega), ⟨rfl, rfl, rfl, Nat.le_refl _, fun _ _ _ => rfl⟩⟩
  cases A <;> simp [Builtin.clear_, run_underlying Try.underlying58]
 obtain ⟨hok, inner, hown, hr⟩ := HO
 rcases hown.2 with ⟨hv, _⟩ | ⟨g, cap, cur, hv, hb, hh, hcap, hcm, hcs, htake⟩
 ·cases hv
 injection hv with ha _ hc
 injection ha with ha
 subst ha; subst hc
 have hcmn : ¬ (c = m) := by omega
 rw [if_neg hcmn] at hA
 have hadd : (⟨g, 0, none⟩ : Addr).add (m * 2) = ⟨g, m * 2, none⟩ := by unfold Addr.add; split <;> simp_all
 replace hA : A = some ⟨g, m * 2, none⟩ := by rw [hA]; simp [hadd]
 subst hA
 obtain ⟨vs, hvs⟩ : ∃ vs, vs = (Builtin.zeroCells #[.int .i64 0, .int .i64 0] t).toList := ⟨_, rfl⟩
 have hl : vs.length = t * 2 := by rw [hvs]; simp [Builtin.zeroCells]
 have h1 : ∀ v ∈ vs, v.oneCell' = true := by
  intro v hv
  rw [hvs] at hv
  simp only [Builtin.zeroCells, Array.toList_map, List.mem_map] at hv
  obtain ⟨i, _, rfl⟩ := hv
  rcases Nat.mod_two_eq_zero_or_one i with e | e <;> simp [e] <;> rfl
 have hsz : m * 2 + 0 + vs.length ≤ cur.size := by rw [hl, hcs]; have : k67.sz = 2 := rfl; rw [this]; omega
 have hst := run_storeCells_at (P := Try.prog) g (m * 2) 67 vs 0 cur W hh hsz h1
 simp only [Nat.add_zero] at hst hsz
 obtain ⟨cur', hcur'⟩ : ∃ c', c' = (cur.toList.take (m * 2) ++ vs ++ cur.toList.drop (m * 2 + vs.length)).toArray := ⟨_, rfl⟩
 rw [← hcur'] at hst
 have hcz : cur'.size = cur.size := by
  rw [hcur']
  simp only [List.size_toArray, List.length_append, List.length_take, List.length_drop, Array.length_toList]
  omega
 have hh' : (W.setRow g cur').heap[g]? = some (.cells cur' 67 (0, 0)) := by
  simp only [World.setRow, Array.getElem?_modify, if_true, hh, Option.map_some]
 have hlt : (xs.take m).length = m := by rw [List.length_take]; omega
 have esz : k67.sz = 2 := rfl
 refine ⟨W.setRow g cur', ?_, ⟨fun k hk => hok k (by simpa [Value.ownBlock] using hk), inner.take (m * 2), ?_, ?_⟩, ?_⟩
 ·obtain ⟨t', rfl⟩ : ∃ t', t = t' + 1 := ⟨t - 1, by omega⟩
  simp only [Builtin.clear_]
  simp [run_underlying Try.underlying58, Try.zeroValue67, Value.cells, ← hvs, hst]
 ·rw [hlt]
  refine ⟨?_, .inr ⟨g, c, cur', rfl, hb, hh', by omega, hcm, by rw [hcz]; exact hcs, ?_⟩⟩
  ·have := hr.1
   rw [List.length_take, this, esz]; omega
  ·rw [esz, hcur']
   rw [esz] at htake
   rw [← htake]
   simp only [List.take_append, List.length_take, List.take_take]
   have e1 : min (m * 2) cur.toList.length = m * 2 := by rw [Array.length_toList]; omega
   have e2 : min (m * 2) (xs.length * 2) = m * 2 := by omega
   rw [e1, e2]
   simp
   left
   omega
 ·exact (Kd.reps_take hr (by omega)).imp_ (fun p cs hp => by obtain rfl := k67_openM hp; exact k67_mkM _ _ _ _)
 ·refine ⟨rfl, rfl, rfl, ?_, ?_⟩
  ·simp [World.setRow]
  ·intro k _ hk
   simp only [World.setRow, Array.getElem?_modify]
   rw [if_neg (fun e => hk (by rw [e]))]
theorem clear67_event {ops : Array Oper} {rest : List Oper} {o : Oper} {a : Act} {Q : Exit → Act → World → Prop} {W : World} {base : Nat} (hgd : o.guard = none) (x : Operand)
  (ho : o.op = .call { callee := .builtin .clear, args := #[x], argTypes := #[58] }) {ad : Addr} {n c m t c2 : Nat} {A : Option Addr} {xs : List S67} {ok : Nat → Prop} (hx : a.eval x = .slice A t c2)
  (HO : Kd.R k67 67 W base ok (.slice (some ad) n c) xs) (hm : m ≤ n) (hA : A = if c = m then some ad else (some ad).map (·.add (m * 2))) (ht : t = n - m)
  (h : ∀ w1, Kd.R k67 67 w1 base ok (.slice (some ad) m c) (xs.take m) → W.grownBy w1 (some ad.block) → wpList Try.prog ops Q rest (a.put o.dst (.tuple #[])) w1) : wpList Try.prog ops Q (o :: rest) a W := by
 obtain ⟨w1, hr, h1, h2⟩ := clear67_run (ty := o.type) HO hm hA ht c2
 refine wpList_plain hgd fun K hK => ?_
 unfold Oper.wp execOp
 simp only [ho, resolve, invoke, builtin, Sem.run_bind, Sem.run_pure, Result.andThen_ok, List.map_toArray, List.map_cons, List.map_nil, hx, hr]
 exact hK _ _ (h w1 h1 h2)
set_option maxHeartbeats 8000000 in
set_option maxRecDepth 100000 in
theorem impl_Pt_79.calls (k : Nat) (P0_ : Nat → Prop) (u9000_ : Value) (l0 : List (S67)) (r : List (S67)) (w0 w : World) (hB : Below w0.heap.size w0 w) (ho0 : Kd.R k67 67 w w0.heap.size P0_ u9000_ l0) (h : impl_Pt_79.f k l0 = some r) :
  Calls Try.prog 79 #[u9000_] w fun e w' => ∃ v0_ : Value, e = .returned (v0_) ∧ Kd.R k67 67 w' w0.heap.size (fun k_ => (P0_ k_ ∨ w.heap.size ≤ k_)) v0_ r ∧ Below w0.heap.size w0 w' ∧ Kept w w' (fun k_ => P0_ k_) := by
 have hu67 := Try.underlying67
 have HO0 := Ak (show Kd.R k67 67 w w0.heap.size (fun k_ => (P0_ k_ ∨ w.heap.size ≤ k_)) u9000_ l0 from Kd.R_mono ho0 (fun k_ hk => (.inl hk)))
 have HK := Ak (Kept.refl w (fun k_ => P0_ k_))
 have HW0 := Ak hB.size
 have HB := Ak hB
 clear hB
 have H : (if (l0.length : Int) < 2 then (some l0) else (impl_Pt_79.l0 k l0 1)) = some r := h
 clear h
 by_cases c2 : (l0.length : Int) < 2
 ·rw [if_pos c2] at H
  have c2b0 : decide ((l0.length : Int) < 2) = true := decide_eq_true c2
  have c2b1 : decide (l0.length < 2) = true := decide_eq_true (by omega)
  clear c2
  obtain rfl := Option.some.inj H
  obtain ⟨Ao3, co3, eo3⟩ := Kd.R_slice HO0.out
  subst eo3
  go_enter Try.func79, Try.ntmps79
  go_wp2
  repeat (go_quiet (fail); try go_wp2)
  go_ret
  exact ⟨_, zw, rq HO0.out, bw HB.out, by repeat (first | (with_reducible first | exact HK.out | apply Kept.alloc | apply Kept.drewN | apply Kept.drew) | exact HK.out)⟩
 ·rw [if_neg c2] at H
  have c2b0 : decide ((l0.length : Int) < 2) = false := decide_eq_false c2
  have c2b1 : decide (l0.length < 2) = false := decide_eq_false (by omega)
  clear c2
  have H' := Ak H
  clear H
  obtain ⟨Ao4, co4, eo4⟩ := Kd.R_slice HO0.out
  subst eo4
  obtain ⟨gA_, cA_, eA_, _, _, _, _⟩ := Kd.R_form HO0.out (by have h_ := of_decide_eq_false c2b1; omega)
  cases eA_
  go_enter Try.func79, Try.ntmps79
  go_wp2
  repeat (go_quiet (fail); try go_wp2)
  go_loopg [3] k (fun kq v3 w' => ∃ (x0_1 : List (S67)) (x3_1 : Int), v3 = .int .i64 x3_1 ∧ Aside0 (impl_Pt_79.l0 kq x0_1 x3_1 = some r) ∧ Aside0 (kq ≤ k) ∧ Aside0 (Kd.R k67 67 w' w0.heap.size (fun k_ => (P0_ k_ ∨ w.heap.size ≤ k_)) (.slice (some (⟨gA_, 0, none⟩ : Addr)) l0.length co4) x0_1) ∧ Aside0 (Kept w w' (fun k_ => P0_ k_)) ∧ Aside0 (Below w0.heap.size w0 w'))
  case atStart => exact ⟨(l0), (1), (by first | rfl | (simp; done) | (simp [*]; done)), H', ⟨Nat.le_refl _⟩, ⟨rq HO0.out⟩, ⟨by repeat (first | (with_reducible first | exact HK.out | apply Kept.alloc | apply Kept.drewN | apply Kept.drew) | exact HK.out)⟩, ⟨bw HB.out⟩⟩
  case round =>
   clear H'
   try clear c2b0
   try clear c2b1
   obtain ⟨x0_1, x3_1, rfl, HA, HK1, HO_0, HK, HB⟩ := hrel
   have hl0_1 := (Kd.R_reads' HO_0.out).1
   rw [hl0_1] at HO_0
   (try simp only [hl0_1])
   cases gk with
   | zero => exact absurd HA.out (by simp [impl_Pt_79.l0])
   | succ k1 =>
    have H := HA.out
    clear HA
    simp only [impl_Pt_79.l0] at H
    by_cases c5 : x3_1 < (x0_1.length : Int)
    ·rw [if_pos c5] at H
     have c5b0 : decide (x3_1 < (x0_1.length : Int)) = true := decide_eq_true c5
     clear c5
     by_cases c6 : 0 ≤ x3_1
     ·rw [if_pos c6] at H
      have c6b0 : decide (0 ≤ x3_1) = true := decide_eq_true c6
      clear c6
      obtain ⟨ji7, hji7⟩ : ∃ j_ : Int, (wrap64 (x3_1 - 1)) = j_ := ⟨_, rfl⟩
      replace H : (if 0 ≤ (ji7) then (if (ji7) < (x0_1.length : Int) then (if (((rd_T67 x0_1 x3_1).f0) == ((rd_T67 x0_1 (ji7)).f0) && (((rd_T67 x0_1 x3_1).f1) == ((rd_T67 x0_1 (ji7)).f1))) = true then (if x3_1 ≤ (x0_1.length : Int) then (impl_Pt_79.l1 k1 x0_1 x3_1 (x0_1.drop (x3_1 : Int).toNat) 1) else (none)) else (impl_Pt_79.l0 k1 x0_1 (wrap64 (x3_1 + 1)))) else (none)) else (none)) = some r := by first | (rw [hji7] at H; exact H) | (simp only [hji7] at H ⊢; exact H)
      have hji7w : (IntKind.i64.wrap (x3_1 - 1)) = ji7 := (i64_w _).trans hji7
      by_cases c8 : 0 ≤ (ji7)
      ·rw [if_pos c8] at H
       have c8b0 : decide (0 ≤ (ji7)) = true := decide_eq_true c8
       clear c8
       by_cases c9 : (ji7) < (x0_1.length : Int)
       ·rw [if_pos c9] at H
        have c9b0 : decide ((ji7) < (x0_1.length : Int)) = true := decide_eq_true c9
        clear c9
        by_cases c10 : (((rd_T67 x0_1 x3_1).f0) == ((rd_T67 x0_1 (ji7)).f0) && (((rd_T67 x0_1 x3_1).f1) == ((rd_T67 x0_1 (ji7)).f1))) = true
        ·rw [if_pos c10] at H
         have c10b0 : (((rd_T67 x0_1 x3_1).f0) == ((rd_T67 x0_1 (ji7)).f0) && (((rd_T67 x0_1 x3_1).f1) == ((rd_T67 x0_1 (ji7)).f1))) = true := c10
         (try (have c10b1 : decide (((rd_T67 x0_1 x3_1).f0) = ((rd_T67 x0_1 (ji7)).f0) && (((rd_T67 x0_1 x3_1).f1) == ((rd_T67 x0_1 (ji7)).f1))) = true := by simpa using c10))
         (try (have c10b2 : (((rd_T67 x0_1 x3_1).f0) == ((rd_T67 x0_1 (ji7)).f0) && (((rd_T67 x0_1 x3_1).f1) == ((rd_T67 x0_1 (ji7)).f1))) = true := by simpa using c10))
         clear c10
         have c11b0 := eq_true (of_decide_eq_true (by first | (with_reducible assumption) | assumption) : 0 ≤ x3_1)
         by_cases c12 : x3_1 ≤ (x0_1.length : Int)
         ·rw [if_pos c12] at H
          have c12b0 := eq_true c12
          have c12b1 : decide (x3_1 ≤ (x0_1.length : Int)) = true := decide_eq_true c12
          clear c12
          obtain ⟨y215, hy215⟩ : ∃ y_ : List (S67), y_ = (x0_1.drop (x3_1 : Int).toNat) := ⟨_, rfl⟩
          replace H : (impl_Pt_79.l1 k1 x0_1 x3_1 y215 1) = some r := by first | (rw [hy215]; with_reducible exact H) | (have H2_ := (Option.bind_some _ _).symm.trans H; rw [hy215]; with_reducible exact H2_) | (have H2_ := (Option.bind_some _ _).symm.trans H; with_reducible exact H2_) | with_reducible exact H | (rw [hy215]; exact H) | exact H
          have Ny215 := Ak hy215
          clear hy215
          have H' := Ak H
          clear H
          have p213 : 0 ≤ (x3_1 : Int) := of_decide_eq_true (by first | (with_reducible assumption) | assumption)
          have q213 : x3_1 < (x0_1.length : Int) := of_decide_eq_true (by first | (with_reducible assumption) | assumption)
          obtain ⟨ad213, e213, hx213_0, hx213_1⟩ := at_T67 (Kd.R_reads' HO_0.out).2.2 x3_1 p213 q213
          cases e213
          (first | simp only [add_plain] at hx213_0 | skip)
          (first | simp only [add_plain] at hx213_1 | skip)
          replace p213 := eq_true p213
          replace q213 := eq_true q213
          have p214 : 0 ≤ ((ji7) : Int) := of_decide_eq_true (by first | (with_reducible assumption) | assumption)
          have q214 : (ji7) < (x0_1.length : Int) := of_decide_eq_true (by first | (with_reducible assumption) | assumption)
          obtain ⟨ad214, e214, hx214_0, hx214_1⟩ := at_T67 (Kd.R_reads' HO_0.out).2.2 (ji7) p214 q214
          obtain rfl : (⟨gA_, 0, none⟩ : Addr) = ad214 := (by injection e214)
          (first | simp only [add_plain] at hx214_0 | skip)
          (first | simp only [add_plain] at hx214_1 | skip)
          replace p214 := eq_true p214
          replace q214 := eq_true q214
          have q13 : (x3_1 : Int) ≤ ((x0_1.length : Int) : Int) := of_decide_eq_true (by first | (with_reducible assumption) | assumption)
          obtain ⟨i013, hi013, _, hsz13, _⟩ := info_parts info67
          have hroom13 : x0_1.length ≤ co4 := (Kd.R_reads' HO_0.out).2.1
          have hC13 : Kd.C k67 _ (some (⟨gA_, 0, none⟩ : Addr)) x0_1.length x0_1 := (Kd.R_reads' HO_0.out).2.2
          have q013 : (0 : Int) ≤ (x3_1 : Int) := of_decide_eq_true (by first | (with_reducible assumption) | assumption)
          have hcut13 := cut_from (P := Try.prog) 58 67 .i64 Try.underlying58 hi013 2 hsz13 (some (⟨gA_, 0, none⟩ : Addr)) x0_1.length co4 x3_1 q013 q13
          have hr13 := Kd.C_drop (m := (x3_1 : Int).toNat) (c := co4) hC13 (by omega) hroom13
          obtain ⟨A13, hA13⟩ : ∃ A1, A1 = (if co4 = (x3_1 : Int).toNat then (some (⟨gA_, 0, none⟩ : Addr)) else ((some (⟨gA_, 0, none⟩ : Addr)) : Option Addr).map (·.add ((x3_1 : Int).toNat * 2))) := ⟨_, rfl⟩
          obtain ⟨c13, hc13⟩ : ∃ c1, c1 = co4 - (x3_1 : Int).toNat := ⟨_, rfl⟩
          have hy13 : y215.length = x0_1.length - (x3_1 : Int).toNat := (by rw [Ny215.out, List.length_drop] <;> omega)
          rw [show (x0_1).drop (x3_1 : Int).toNat = y215 from Ny215.out.symm] at hr13
          replace hr13 : Kd.C k67 _ A13 y215.length y215 := (by rw [hA13]; exact hr13)
          rw [← hy13, ← hA13, ← hc13] at hcut13
          have HR218 := Ak hr13
          have HC218 := Ak (show y215.length ≤ c13 from by rw [hy13, hc13]; exact Nat.sub_le_sub_right hroom13 _)
          clear hr13 hC13 hroom13 hi013 hsz13 hc13
          have KY13 := Ak hy13
          have KA13 := Ak hA13
          clear hy13 hA13
          have KL13 := Ak (show (x3_1 : Int).toNat ≤ x0_1.length from by omega)
          replace q13 := eq_true q13
          go_wp2
          repeat (go_quiet (fail); try go_wp2)
          have hK0_ := Ak (show 0 ≤ x3_1 from of_decide_eq_true (by first | (with_reducible assumption) | assumption))
          have hL0_ := Ak (R67_small HO_0.out)
          go_loopg [3, 5] k1 (fun kq v3 v5 w' => ∃ (x0_2 : List (S67)) (x3_2 : Int) (x5_2 : Int), v3 = .int .i64 x3_2 ∧ v5 = .int .i64 x5_2 ∧ Aside0 (impl_Pt_79.l1 kq x0_2 x3_2 y215 x5_2 = some r) ∧ Aside0 (kq ≤ k1) ∧ Aside0 (Kd.R k67 67 w' w0.heap.size (fun k_ => (P0_ k_ ∨ w.heap.size ≤ k_)) (.slice (some (⟨gA_, 0, none⟩ : Addr)) x0_1.length co4) x0_2) ∧ Aside0 (Kept w w' (fun k_ => P0_ k_)) ∧ Aside0 (Below w0.heap.size w0 w') ∧ Aside0 (1 ≤ x5_2 ∧ 0 ≤ x3_2 ∧ x3_2 ≤ x3_1 + x5_2 - 1 ∧ x0_2.length = x0_1.length ∧ x0_2.drop (x3_1 + x5_2 - 1).toNat = y215.drop (x5_2 - 1).toNat))
          case atStart => exact ⟨(x0_1), (x3_1), (1), (by first | rfl | (simp; done) | (simp [*]; done)), (by first | rfl | (simp; done) | (simp [*]; done)), H', ⟨Nat.le_refl _⟩, ⟨by (try simp only [hl0_1]); (with_reducible repeat (first | apply Kd.R_alloc | apply Kd.R_drewN | apply Kd.R_drew)); exact HO_0.out⟩, ⟨by repeat (first | (with_reducible first | exact HK.out | apply Kept.alloc | apply Kept.drewN | apply Kept.drew) | exact HK.out)⟩, ⟨bw HB.out⟩, ⟨by decide, hK0_.out, by omega, rfl, by rw [Ny215.out, show x3_1 + 1 - 1 = x3_1 by omega]; simp⟩⟩
          case round =>
           clear H'
           try clear q1
           try clear c2b0
           try clear c2b1
           try clear q2
           try clear hx2
           try clear c5b0
           try clear c6b0
           try clear c8b0
           try clear c9b0
           try clear c10b0
           try clear c10b1
           try clear c10b2
           try clear c11b0
           try clear c12b0
           try clear c12b1
           try clear q13
           try clear hx213_0
           try clear hx213_1
           try clear hx214_0
           try clear hx214_1
           try clear q013
           try clear q13
           try clear q213
           try clear q214
           obtain ⟨x0_2, x3_2, x5_2, rfl, rfl, HA, HK2, HO_0, HK, HB, HI⟩ := hrel
           have hl0_2 := (Kd.R_reads' HO_0.out).1
           rw [hl0_2] at HO_0
           (try simp only [hl0_2])
           obtain ⟨hI1, hI2, hI3, hI4, hI5⟩ := HI.out
           have hYL_ : y215.length = x0_1.length - x3_1.toNat := by rw [Ny215.out, List.length_drop]
           have HV : Aside0 (Kd.C k67 wr A13 y215.length (x0_2.drop x3_1.toNat)) := by
            have h1 := Kd.C_drop (m := (x3_1 : Int).toNat) (c := co4) (Kd.R_reads' HO_0.out).2.2 (by have := KL13.out; omega) (Kd.R_reads' HO_0.out).2.1
            rw [List.length_drop, show k67.sz = 2 from rfl] at h1
            rw [hYL_, ← hI4, KA13.out]
            exact ⟨h1⟩
           have hrd_ : ∀ j : Int, x5_2 - 1 ≤ j → rd_T67 (x0_2.drop x3_1.toNat) j = rd_T67 y215 j := by
            intro j hj
            unfold rd_T67
            have e := congrArg (fun l => l[(j - (x5_2 - 1)).toNat]?) hI5
            simp only [List.getElem?_drop] at e
            have h0 := hK0_.out
            have e1 : (x3_1 + x5_2 - 1).toNat + (j - (x5_2 - 1)).toNat = x3_1.toNat + j.toNat := by omega
            have e2 : (x5_2 - 1).toNat + (j - (x5_2 - 1)).toNat = j.toNat := by omega
            rw [e1, e2] at e
            rw [List.getD_eq_getElem?_getD, List.getD_eq_getElem?_getD, List.getElem?_drop, e]
           have hw5_ : x5_2 < (y215.length : Int) → wrap64 (x5_2 + 1) = x5_2 + 1 := by intro h_; have := hL0_.out; unfold wrap64; omega
           have hw3_ : x5_2 < (y215.length : Int) → wrap64 (x3_2 + 1) = x3_2 + 1 := by intro h_; have := hL0_.out; have := hK0_.out; unfold wrap64; omega
           have hwj_ : x5_2 < (y215.length : Int) → wrap64 (x5_2 - 1) = x5_2 - 1 := by intro h_; have := hL0_.out; unfold wrap64; omega
           have HRD := Ak hrd_
           have HW5 := Ak hw5_
           have HW3 := Ak hw3_
           have HWJ := Ak hwj_
           clear hI1 hI2 hI3 hI4 hI5 hYL_ hrd_ hw5_ hw3_ hwj_
           cases gk with
           | zero => exact absurd HA.out (by simp [impl_Pt_79.l1])
           | succ k2 =>
            have H := HA.out
            clear HA
            simp only [impl_Pt_79.l1] at H
            by_cases c14 : x5_2 < (y215.length : Int)
            ·rw [if_pos c14] at H
             have c14b0 : decide (x5_2 < (y215.length : Int)) = true := decide_eq_true c14
             clear c14
             by_cases c15 : 0 ≤ x5_2
             ·rw [if_pos c15] at H
              have c15b0 : decide (0 ≤ x5_2) = true := decide_eq_true c15
              clear c15
              obtain ⟨ji16, hji16⟩ : ∃ j_ : Int, (wrap64 (x5_2 - 1)) = j_ := ⟨_, rfl⟩
              replace H : (if 0 ≤ (ji16) then (if (ji16) < (y215.length : Int) then (if (!(((rd_T67 y215 x5_2).f0) == ((rd_T67 y215 (ji16)).f0)) || (!(((rd_T67 y215 x5_2).f1) == ((rd_T67 y215 (ji16)).f1)))) = true then (if 0 ≤ x3_2 then (if x3_2 < (x0_2.length : Int) then (impl_Pt_79.l1 k2 (x0_2.set (x3_2 : Int).toNat (⟨(rd_T67 y215 x5_2).f0, (rd_T67 y215 x5_2).f1⟩ : S67)) (wrap64 (x3_2 + 1)) y215 (wrap64 (x5_2 + 1))) else (none)) else (none)) else (impl_Pt_79.l1 k2 x0_2 x3_2 y215 (wrap64 (x5_2 + 1)))) else (none)) else (none)) = some r := by first | (rw [hji16] at H; exact H) | (simp only [hji16] at H ⊢; exact H)
              have hji16w : (IntKind.i64.wrap (x5_2 - 1)) = ji16 := (i64_w _).trans hji16
              by_cases c17 : 0 ≤ (ji16)
              ·rw [if_pos c17] at H
               have c17b0 : decide (0 ≤ (ji16)) = true := decide_eq_true c17
               clear c17
               by_cases c18 : (ji16) < (y215.length : Int)
               ·rw [if_pos c18] at H
                have c18b0 : decide ((ji16) < (y215.length : Int)) = true := decide_eq_true c18
                clear c18
                by_cases c19 : (!(((rd_T67 y215 x5_2).f0) == ((rd_T67 y215 (ji16)).f0)) || (!(((rd_T67 y215 x5_2).f1) == ((rd_T67 y215 (ji16)).f1)))) = true
                ·rw [if_pos c19] at H
                 have c19b0 : (!(((rd_T67 y215 x5_2).f0) == ((rd_T67 y215 (ji16)).f0)) || (!(((rd_T67 y215 x5_2).f1) == ((rd_T67 y215 (ji16)).f1)))) = true := c19
                 clear c19
                 by_cases c20 : 0 ≤ x3_2
                 ·rw [if_pos c20] at H
                  have c20b0 : decide (0 ≤ x3_2) = true := decide_eq_true c20
                  clear c20
                  by_cases c21 : x3_2 < (x0_2.length : Int)
                  ·rw [if_pos c21] at H
                   have c21b0 : decide (x3_2 < (x0_2.length : Int)) = true := decide_eq_true c21
                   clear c21
                   obtain ⟨y222, hy222⟩ : ∃ y_ : List (S67), y_ = (x0_2.set (x3_2 : Int).toNat (⟨(rd_T67 y215 x5_2).f0, (rd_T67 y215 x5_2).f1⟩ : S67)) := ⟨_, rfl⟩
                   replace H : (impl_Pt_79.l1 k2 y222 (wrap64 (x3_2 + 1)) y215 (wrap64 (x5_2 + 1))) = some r := by first | (rw [hy222]; with_reducible exact H) | (have H2_ := (Option.bind_some _ _).symm.trans H; rw [hy222]; with_reducible exact H2_) | (have H2_ := (Option.bind_some _ _).symm.trans H; with_reducible exact H2_) | with_reducible exact H | (rw [hy222]; exact H) | exact H
                   have Ny222 := Ak hy222
                   clear hy222
                   have H' := Ak H
                   clear H
                   have p219 : 0 ≤ (x5_2 : Int) := of_decide_eq_true (by first | (with_reducible assumption) | assumption)
                   have q219 : x5_2 < (y215.length : Int) := of_decide_eq_true (by first | (with_reducible assumption) | assumption)
                   obtain ⟨ad219, e219, hx219_0, hx219_1⟩ := at_T67 HV.out x5_2 p219 q219
                   cases e219
                   rw [HRD.out x5_2 (by omega)] at hx219_0 hx219_1
                   replace p219 := eq_true p219
                   replace q219 := eq_true q219
                   have p220 : 0 ≤ ((ji16) : Int) := of_decide_eq_true (by first | (with_reducible assumption) | assumption)
                   have q220 : (ji16) < (y215.length : Int) := of_decide_eq_true (by first | (with_reducible assumption) | assumption)
                   obtain ⟨ad220, e220, hx220_0, hx220_1⟩ := at_T67 HV.out (ji16) p220 q220
                   obtain rfl : ad219 = ad220 := (by injection e220)
                   rw [HRD.out (ji16) (by rw [← hji16, HWJ.out (of_decide_eq_true (by first | (with_reducible assumption) | assumption))]; omega)] at hx220_0 hx220_1
                   replace p220 := eq_true p220
                   replace q220 := eq_true q220
                   have p221 : 0 ≤ (x5_2 : Int) := of_decide_eq_true (by first | (with_reducible assumption) | assumption)
                   have q221 : x5_2 < (y215.length : Int) := of_decide_eq_true (by first | (with_reducible assumption) | assumption)
                   obtain ⟨ad221, e221, hx221_0, hx221_1⟩ := at_T67 HV.out x5_2 p221 q221
                   obtain rfl : ad219 = ad221 := (by injection e221)
                   rw [HRD.out x5_2 (by omega)] at hx221_0 hx221_1
                   replace p221 := eq_true p221
                   replace q221 := eq_true q221
                   have p22 : 0 ≤ (x3_2 : Int) := of_decide_eq_true (by first | (with_reducible assumption) | assumption)
                   have q22 : (x3_2 : Int) < ((x0_2.length : Int) : Int) := of_decide_eq_true (by first | (with_reducible assumption) | assumption)
                   obtain ⟨go22, co22, eo22, gb22, gl22, cl22, HG22⟩ := Kd.R_form HO_0.out (by omega)
                   (first | cases eo22 | (injection eo22 with ea_ en_ ec_; (first | subst ea_ | (injection ea_ with ea_; subst ea_)); subst ec_; clear en_))
                   have GB22 := Ak gb22
                   have GG22 := Ak HG22
                   clear gb22 gl22 HG22
                   have HMgo22 := Ak (show (P0_ gA_ ∨ w.heap.size ≤ gA_) from (HO_0.out.1 _ rfl))
                   (first | simp only [add_plain] at hx213_0 | skip)
                   (first | simp only [add_plain] at hx213_1 | skip)
                   (first | simp only [add_plain] at hx214_0 | skip)
                   (first | simp only [add_plain] at hx214_1 | skip)
                   obtain ⟨ce22, hcl22, hM22, hcc22, hfr22⟩ := Kd.R_elem HO_0.out z67 (x3_2 : Int) p22 q22
                   obtain rfl := k67_openM hM22
                   have hx22_0 : wr.cell? ⟨gA_, (x3_2 : Int).toNat * 2, none⟩ = some (.int .i64 ((rd_T67 x0_2 x3_2).f0)) := hcc22 0 _ rfl
                   have hx22_1 : wr.cell? ⟨gA_, (x3_2 : Int).toNat * 2 + 1, none⟩ = some (.int .i64 ((rd_T67 x0_2 x3_2).f1)) := hcc22 1 _ rfl
                   have hf22_0 : wr.frozen? ⟨gA_, (x3_2 : Int).toNat * 2, none⟩ = false := hfr22 0
                   have hf22_1 : wr.frozen? ⟨gA_, (x3_2 : Int).toNat * 2 + 1, none⟩ = false := hfr22 1
                   clear hcl22 hcc22 hfr22 hM22
                   replace p22 := eq_true p22
                   replace q22 := eq_true q22
                   have HX23 := Ak (show Kd.R k67 67 wr w0.heap.size (fun k_ => (P0_ k_ ∨ w.heap.size ≤ k_)) (.slice (some ⟨gA_, 0, none⟩) x0_2.length co4) x0_2 from (rq HO_0.out))
                   obtain ⟨ce23, hcl23, hM23, hcc23, hfr23⟩ := Kd.R_elem HX23.out z67 (x3_2 : Int) (of_decide_eq_true (by first | (with_reducible assumption) | assumption)) (by have h_ : (x3_2 : Int) < ((x0_2.length : Int) : Int) := of_decide_eq_true (by first | (with_reducible assumption) | assumption); first | exact h_ | (have e_ := (Kd.R_reads' HO_0.out).1; omega) | simpa using h_)
                   obtain rfl := k67_openM hM23
                   have HP23 := Kd.R_seg HX23.out (x3_2 : Int) (of_decide_eq_true (by first | (with_reducible assumption) | assumption)) (by have h_ : (x3_2 : Int) < ((x0_2.length : Int) : Int) := of_decide_eq_true (by first | (with_reducible assumption) | assumption); first | exact h_ | (have e_ := (Kd.R_reads' HO_0.out).1; omega) | simpa using h_) (seg := [.int .i64 ((rd_T67 y215 x5_2).f0), .int .i64 ((rd_T67 y215 x5_2).f1)]) (j := 0) hcl23 hcc23 (show 2 ≤ 2 from by decide) (x' := (⟨(rd_T67 y215 x5_2).f0, (rd_T67 y215 x5_2).f1⟩ : S67)) (k67_mkM _ _ _ (⟨(rd_T67 y215 x5_2).f0, (rd_T67 y215 x5_2).f1⟩ : S67) ) (fun _ hk => hk)
                   have hx23_0 := hcc23 0 _ rfl
                   (try simp only [show (k67).sz = 2 from rfl, Nat.mul_one, Nat.add_zero] at hx23_0)
                   have hf23_0 := hfr23 0
                   (try simp only [show (k67).sz = 2 from rfl, Nat.mul_one, Nat.add_zero] at hf23_0)
                   have hx23_1 := hcc23 1 _ rfl
                   (try simp only [show (k67).sz = 2 from rfl, Nat.mul_one, Nat.add_zero] at hx23_1)
                   have hf23_1 := hfr23 1
                   (try simp only [show (k67).sz = 2 from rfl, Nat.mul_one, Nat.add_zero] at hf23_1)
                   clear hcl23 hcc23 hfr23 hM23
                   go_wp2_with (first | ((with_reducible refine gate_store (t := 67) (p := 51) rfl ?_); (try (rw [drewN_self wr]; generalize hq_ : World.drewN wr _ = wr; replace HO_0 := Ak (Kd.R_at hq_ HO_0.out); replace HK := Ak (kept_at hq_ HK.out); replace HB := Ak (below_at hq_ HB.out); clear hq_; (try (have HX23 := Ak (show Kd.R k67 67 wr w0.heap.size (fun k_ => (P0_ k_ ∨ w.heap.size ≤ k_)) (.slice (some ⟨gA_, 0, none⟩) x0_2.length co4) x0_2 from (rq HO_0.out)))); (try (obtain ⟨ce23, hcl23, hM23, hcc23, hfr23⟩ := Kd.R_elem HX23.out z67 (x3_2 : Int) (of_decide_eq_true (by first | (with_reducible assumption) | assumption)) (by have h_ : (x3_2 : Int) < ((x0_2.length : Int) : Int) := of_decide_eq_true (by first | (with_reducible assumption) | assumption); first | exact h_ | (have e_ := (Kd.R_reads' HO_0.out).1; omega) | simpa using h_))); (try (obtain rfl := k67_openM hM23)); (try (have HP23 := Kd.R_seg HX23.out (x3_2 : Int) (of_decide_eq_true (by first | (with_reducible assumption) | assumption)) (by have h_ : (x3_2 : Int) < ((x0_2.length : Int) : Int) := of_decide_eq_true (by first | (with_reducible assumption) | assumption); first | exact h_ | (have e_ := (Kd.R_reads' HO_0.out).1; omega) | simpa using h_) (seg := [.int .i64 ((rd_T67 y215 x5_2).f0), .int .i64 ((rd_T67 y215 x5_2).f1)]) (j := 0) hcl23 hcc23 (show 2 ≤ 2 from by decide) (x' := (⟨(rd_T67 y215 x5_2).f0, (rd_T67 y215 x5_2).f1⟩ : S67)) (k67_mkM _ _ _ (⟨(rd_T67 y215 x5_2).f0, (rd_T67 y215 x5_2).f1⟩ : S67) ) (fun _ hk => hk))); (try (have hx23_0 := hcc23 0 _ rfl)); (try (try simp only [show (k67).sz = 2 from rfl, Nat.mul_one, Nat.add_zero] at hx23_0)); (try (have hf23_0 := hfr23 0)); (try (try simp only [show (k67).sz = 2 from rfl, Nat.mul_one, Nat.add_zero] at hf23_0)); (try (have hx23_1 := hcc23 1 _ rfl)); (try (try simp only [show (k67).sz = 2 from rfl, Nat.mul_one, Nat.add_zero] at hx23_1)); (try (have hf23_1 := hfr23 1)); (try (try simp only [show (k67).sz = 2 from rfl, Nat.mul_one, Nat.add_zero] at hf23_1)); (try (clear hcl23 hcc23 hfr23 hM23)))); refine store_event (t := 67) (p := 51) (v := ?vo_w24) (w1 := ((wr.setCell ⟨gA_, (x3_2 : Int).toNat * 2, none⟩ (.int .i64 ((rd_T67 y215 x5_2).f0))).setCell ⟨gA_, (x3_2 : Int).toNat * 2 + 1, none⟩ (.int .i64 ((rd_T67 y215 x5_2).f1)))) ?hg ?ho ?hn ?hr ?_; (case ho => rfl); (case hg => rfl); (case hn => rfl); (case hr => first | (go_simp; done) | (go_simp; rfl)); intro w24 hw; have hg : wr.grownBy w24 (some gA_) := (by rw [hw]; exact HP23.2); have hp_ : Kd.R k67 67 w24 w0.heap.size (fun k_ => (P0_ k_ ∨ w.heap.size ≤ k_)) (.slice (some ⟨gA_, 0, none⟩) x0_2.length co4) y222 := (by rw [hw, Ny222.out]; exact HP23.1); clear HP23; replace HB := Ak ((by rw [hw]; exact below_set (below_set (HB.out) GB22.out) GB22.out : Below w0.heap.size w0 w24)); replace HK := Ak (Kept.of_grown (S := (fun k_ => P0_ k_)) hg (by repeat (first | (with_reducible first | exact HK.out | apply Kept.alloc | apply Kept.drewN | apply Kept.drew) | exact HK.out)) (fun k_ e_ => (HO_0.out.1 k_ e_))); replace HO_0 := Ak (hp_); clear hg hw hp_))
                   repeat (go_quiet (first | ((with_reducible refine gate_store (t := 67) (p := 51) rfl ?_); (try (rw [drewN_self wr]; generalize hq_ : World.drewN wr _ = wr; replace HO_0 := Ak (Kd.R_at hq_ HO_0.out); replace HK := Ak (kept_at hq_ HK.out); replace HB := Ak (below_at hq_ HB.out); clear hq_; (try (have HX23 := Ak (show Kd.R k67 67 wr w0.heap.size (fun k_ => (P0_ k_ ∨ w.heap.size ≤ k_)) (.slice (some ⟨gA_, 0, none⟩) x0_2.length co4) x0_2 from (rq HO_0.out)))); (try (obtain ⟨ce23, hcl23, hM23, hcc23, hfr23⟩ := Kd.R_elem HX23.out z67 (x3_2 : Int) (of_decide_eq_true (by first | (with_reducible assumption) | assumption)) (by have h_ : (x3_2 : Int) < ((x0_2.length : Int) : Int) := of_decide_eq_true (by first | (with_reducible assumption) | assumption); first | exact h_ | (have e_ := (Kd.R_reads' HO_0.out).1; omega) | simpa using h_))); (try (obtain rfl := k67_openM hM23)); (try (have HP23 := Kd.R_seg HX23.out (x3_2 : Int) (of_decide_eq_true (by first | (with_reducible assumption) | assumption)) (by have h_ : (x3_2 : Int) < ((x0_2.length : Int) : Int) := of_decide_eq_true (by first | (with_reducible assumption) | assumption); first | exact h_ | (have e_ := (Kd.R_reads' HO_0.out).1; omega) | simpa using h_) (seg := [.int .i64 ((rd_T67 y215 x5_2).f0), .int .i64 ((rd_T67 y215 x5_2).f1)]) (j := 0) hcl23 hcc23 (show 2 ≤ 2 from by decide) (x' := (⟨(rd_T67 y215 x5_2).f0, (rd_T67 y215 x5_2).f1⟩ : S67)) (k67_mkM _ _ _ (⟨(rd_T67 y215 x5_2).f0, (rd_T67 y215 x5_2).f1⟩ : S67) ) (fun _ hk => hk))); (try (have hx23_0 := hcc23 0 _ rfl)); (try (try simp only [show (k67).sz = 2 from rfl, Nat.mul_one, Nat.add_zero] at hx23_0)); (try (have hf23_0 := hfr23 0)); (try (try simp only [show (k67).sz = 2 from rfl, Nat.mul_one, Nat.add_zero] at hf23_0)); (try (have hx23_1 := hcc23 1 _ rfl)); (try (try simp only [show (k67).sz = 2 from rfl, Nat.mul_one, Nat.add_zero] at hx23_1)); (try (have hf23_1 := hfr23 1)); (try (try simp only [show (k67).sz = 2 from rfl, Nat.mul_one, Nat.add_zero] at hf23_1)); (try (clear hcl23 hcc23 hfr23 hM23)))); refine store_event (t := 67) (p := 51) (v := ?vo_w24) (w1 := ((wr.setCell ⟨gA_, (x3_2 : Int).toNat * 2, none⟩ (.int .i64 ((rd_T67 y215 x5_2).f0))).setCell ⟨gA_, (x3_2 : Int).toNat * 2 + 1, none⟩ (.int .i64 ((rd_T67 y215 x5_2).f1)))) ?hg ?ho ?hn ?hr ?_; (case ho => rfl); (case hg => rfl); (case hn => rfl); (case hr => first | (go_simp; done) | (go_simp; rfl)); intro w24 hw; have hg : wr.grownBy w24 (some gA_) := (by rw [hw]; exact HP23.2); have hp_ : Kd.R k67 67 w24 w0.heap.size (fun k_ => (P0_ k_ ∨ w.heap.size ≤ k_)) (.slice (some ⟨gA_, 0, none⟩) x0_2.length co4) y222 := (by rw [hw, Ny222.out]; exact HP23.1); clear HP23; replace HB := Ak ((by rw [hw]; exact below_set (below_set (HB.out) GB22.out) GB22.out : Below w0.heap.size w0 w24)); replace HK := Ak (Kept.of_grown (S := (fun k_ => P0_ k_)) hg (by repeat (first | (with_reducible first | exact HK.out | apply Kept.alloc | apply Kept.drewN | apply Kept.drew) | exact HK.out)) (fun k_ e_ => (HO_0.out.1 k_ e_))); replace HO_0 := Ak (hp_); clear hg hw hp_)); try go_wp2_with (first | ((with_reducible refine gate_store (t := 67) (p := 51) rfl ?_); (try (rw [drewN_self wr]; generalize hq_ : World.drewN wr _ = wr; replace HO_0 := Ak (Kd.R_at hq_ HO_0.out); replace HK := Ak (kept_at hq_ HK.out); replace HB := Ak (below_at hq_ HB.out); clear hq_; (try (have HX23 := Ak (show Kd.R k67 67 wr w0.heap.size (fun k_ => (P0_ k_ ∨ w.heap.size ≤ k_)) (.slice (some ⟨gA_, 0, none⟩) x0_2.length co4) x0_2 from (rq HO_0.out)))); (try (obtain ⟨ce23, hcl23, hM23, hcc23, hfr23⟩ := Kd.R_elem HX23.out z67 (x3_2 : Int) (of_decide_eq_true (by first | (with_reducible assumption) | assumption)) (by have h_ : (x3_2 : Int) < ((x0_2.length : Int) : Int) := of_decide_eq_true (by first | (with_reducible assumption) | assumption); first | exact h_ | (have e_ := (Kd.R_reads' HO_0.out).1; omega) | simpa using h_))); (try (obtain rfl := k67_openM hM23)); (try (have HP23 := Kd.R_seg HX23.out (x3_2 : Int) (of_decide_eq_true (by first | (with_reducible assumption) | assumption)) (by have h_ : (x3_2 : Int) < ((x0_2.length : Int) : Int) := of_decide_eq_true (by first | (with_reducible assumption) | assumption); first | exact h_ | (have e_ := (Kd.R_reads' HO_0.out).1; omega) | simpa using h_) (seg := [.int .i64 ((rd_T67 y215 x5_2).f0), .int .i64 ((rd_T67 y215 x5_2).f1)]) (j := 0) hcl23 hcc23 (show 2 ≤ 2 from by decide) (x' := (⟨(rd_T67 y215 x5_2).f0, (rd_T67 y215 x5_2).f1⟩ : S67)) (k67_mkM _ _ _ (⟨(rd_T67 y215 x5_2).f0, (rd_T67 y215 x5_2).f1⟩ : S67) ) (fun _ hk => hk))); (try (have hx23_0 := hcc23 0 _ rfl)); (try (try simp only [show (k67).sz = 2 from rfl, Nat.mul_one, Nat.add_zero] at hx23_0)); (try (have hf23_0 := hfr23 0)); (try (try simp only [show (k67).sz = 2 from rfl, Nat.mul_one, Nat.add_zero] at hf23_0)); (try (have hx23_1 := hcc23 1 _ rfl)); (try (try simp only [show (k67).sz = 2 from rfl, Nat.mul_one, Nat.add_zero] at hx23_1)); (try (have hf23_1 := hfr23 1)); (try (try simp only [show (k67).sz = 2 from rfl, Nat.mul_one, Nat.add_zero] at hf23_1)); (try (clear hcl23 hcc23 hfr23 hM23)))); refine store_event (t := 67) (p := 51) (v := ?vo_w24) (w1 := ((wr.setCell ⟨gA_, (x3_2 : Int).toNat * 2, none⟩ (.int .i64 ((rd_T67 y215 x5_2).f0))).setCell ⟨gA_, (x3_2 : Int).toNat * 2 + 1, none⟩ (.int .i64 ((rd_T67 y215 x5_2).f1)))) ?hg ?ho ?hn ?hr ?_; (case ho => rfl); (case hg => rfl); (case hn => rfl); (case hr => first | (go_simp; done) | (go_simp; rfl)); intro w24 hw; have hg : wr.grownBy w24 (some gA_) := (by rw [hw]; exact HP23.2); have hp_ : Kd.R k67 67 w24 w0.heap.size (fun k_ => (P0_ k_ ∨ w.heap.size ≤ k_)) (.slice (some ⟨gA_, 0, none⟩) x0_2.length co4) y222 := (by rw [hw, Ny222.out]; exact HP23.1); clear HP23; replace HB := Ak ((by rw [hw]; exact below_set (below_set (HB.out) GB22.out) GB22.out : Below w0.heap.size w0 w24)); replace HK := Ak (Kept.of_grown (S := (fun k_ => P0_ k_)) hg (by repeat (first | (with_reducible first | exact HK.out | apply Kept.alloc | apply Kept.drewN | apply Kept.drew) | exact HK.out)) (fun k_ e_ => (HO_0.out.1 k_ e_))); replace HO_0 := Ak (hp_); clear hg hw hp_)))
                   (try simp only [← hl0_2])
                   go_roundg k2
                   case measure => have := HK1.out; have := HK2.out; omega
                   case rel => exact ⟨(y222), (wrap64 (x3_2 + 1)), (wrap64 (x5_2 + 1)), (by first | rfl | (simp; done) | (simp [*]; done)), (by first | rfl | (simp; done) | (simp [*]; done)), H', ⟨by have := HK1.out; have := HK2.out; omega⟩, ⟨by (try simp only [hl0_1]); (try simp only [hl0_2]); (with_reducible repeat (first | apply Kd.R_alloc | apply Kd.R_drewN | apply Kd.R_drew)); exact HO_0.out⟩, ⟨by repeat (first | (with_reducible first | exact HK.out | apply Kept.alloc | apply Kept.drewN | apply Kept.drew) | exact HK.out)⟩, ⟨bw HB.out⟩, ⟨(by (obtain ⟨hI1, hI2, hI3, hI4, hI5⟩ := HI.out; have hx_ := (of_decide_eq_true (show decide (x5_2 < (y215.length : Int)) = true by first | (with_reducible assumption) | assumption)); have h0_ := hK0_.out; have h5_ := HW5.out hx_; have h3_ := HW3.out hx_; rw [h5_]; omega)), (by (obtain ⟨hI1, hI2, hI3, hI4, hI5⟩ := HI.out; have hx_ := (of_decide_eq_true (show decide (x5_2 < (y215.length : Int)) = true by first | (with_reducible assumption) | assumption)); have h0_ := hK0_.out; have h5_ := HW5.out hx_; have h3_ := HW3.out hx_; rw [h3_]; omega)), (by (obtain ⟨hI1, hI2, hI3, hI4, hI5⟩ := HI.out; have hx_ := (of_decide_eq_true (show decide (x5_2 < (y215.length : Int)) = true by first | (with_reducible assumption) | assumption)); have h0_ := hK0_.out; have h5_ := HW5.out hx_; have h3_ := HW3.out hx_; rw [h5_, h3_]; omega)), (by (obtain ⟨hI1, hI2, hI3, hI4, hI5⟩ := HI.out; have hx_ := (of_decide_eq_true (show decide (x5_2 < (y215.length : Int)) = true by first | (with_reducible assumption) | assumption)); have h0_ := hK0_.out; have h5_ := HW5.out hx_; have h3_ := HW3.out hx_; rw [Ny222.out, List.length_set]; exact hI4)), (by (obtain ⟨hI1, hI2, hI3, hI4, hI5⟩ := HI.out; have hx_ := (of_decide_eq_true (show decide (x5_2 < (y215.length : Int)) = true by first | (with_reducible assumption) | assumption)); have h0_ := hK0_.out; have h5_ := HW5.out hx_; have h3_ := HW3.out hx_; rw [h5_, Ny222.out, show (x3_1 + (x5_2 + 1) - 1).toNat = (x3_1 + x5_2 - 1).toNat + 1 by omega, show (x5_2 + 1 - 1).toNat = (x5_2 - 1).toNat + 1 by omega, ← List.drop_drop, ← List.drop_drop, ← hI5, List.drop_drop, List.drop_drop, List.drop_set_of_lt (by omega)]))⟩⟩
                  ·rw [if_neg c21] at H
                   exact absurd H (by simp)
                 ·rw [if_neg c20] at H
                  exact absurd H (by simp)
                ·rw [if_neg c19] at H
                 have c19b0 : (!(((rd_T67 y215 x5_2).f0) == ((rd_T67 y215 (ji16)).f0)) || (!(((rd_T67 y215 x5_2).f1) == ((rd_T67 y215 (ji16)).f1)))) = false := by simpa using c19
                 clear c19
                 have H' := Ak H
                 clear H
                 have p219 : 0 ≤ (x5_2 : Int) := of_decide_eq_true (by first | (with_reducible assumption) | assumption)
                 have q219 : x5_2 < (y215.length : Int) := of_decide_eq_true (by first | (with_reducible assumption) | assumption)
                 obtain ⟨ad219, e219, hx219_0, hx219_1⟩ := at_T67 HV.out x5_2 p219 q219
                 cases e219
                 rw [HRD.out x5_2 (by omega)] at hx219_0 hx219_1
                 replace p219 := eq_true p219
                 replace q219 := eq_true q219
                 have p220 : 0 ≤ ((ji16) : Int) := of_decide_eq_true (by first | (with_reducible assumption) | assumption)
                 have q220 : (ji16) < (y215.length : Int) := of_decide_eq_true (by first | (with_reducible assumption) | assumption)
                 obtain ⟨ad220, e220, hx220_0, hx220_1⟩ := at_T67 HV.out (ji16) p220 q220
                 obtain rfl : ad219 = ad220 := (by injection e220)
                 rw [HRD.out (ji16) (by rw [← hji16, HWJ.out (of_decide_eq_true (by first | (with_reducible assumption) | assumption))]; omega)] at hx220_0 hx220_1
                 replace p220 := eq_true p220
                 replace q220 := eq_true q220
                 go_wp2
                 repeat (go_quiet (fail); try go_wp2)
                 (try simp only [← hl0_2])
                 go_roundg k2
                 case measure => have := HK1.out; have := HK2.out; omega
                 case rel => exact ⟨(x0_2), (x3_2), (wrap64 (x5_2 + 1)), (by first | rfl | (simp; done) | (simp [*]; done)), (by first | rfl | (simp; done) | (simp [*]; done)), H', ⟨by have := HK1.out; have := HK2.out; omega⟩, ⟨by (try simp only [hl0_1]); (try simp only [hl0_2]); (with_reducible repeat (first | apply Kd.R_alloc | apply Kd.R_drewN | apply Kd.R_drew)); exact HO_0.out⟩, ⟨by repeat (first | (with_reducible first | exact HK.out | apply Kept.alloc | apply Kept.drewN | apply Kept.drew) | exact HK.out)⟩, ⟨bw HB.out⟩, ⟨(by (obtain ⟨hI1, hI2, hI3, hI4, hI5⟩ := HI.out; have hx_ := (of_decide_eq_true (show decide (x5_2 < (y215.length : Int)) = true by first | (with_reducible assumption) | assumption)); have h0_ := hK0_.out; have h5_ := HW5.out hx_; have h3_ := HW3.out hx_; rw [h5_]; omega)), HI.out.2.1, (by (obtain ⟨hI1, hI2, hI3, hI4, hI5⟩ := HI.out; have hx_ := (of_decide_eq_true (show decide (x5_2 < (y215.length : Int)) = true by first | (with_reducible assumption) | assumption)); have h0_ := hK0_.out; have h5_ := HW5.out hx_; have h3_ := HW3.out hx_; rw [h5_]; omega)), HI.out.2.2.2.1, (by (obtain ⟨hI1, hI2, hI3, hI4, hI5⟩ := HI.out; have hx_ := (of_decide_eq_true (show decide (x5_2 < (y215.length : Int)) = true by first | (with_reducible assumption) | assumption)); have h0_ := hK0_.out; have h5_ := HW5.out hx_; have h3_ := HW3.out hx_; rw [h5_, show (x3_1 + (x5_2 + 1) - 1).toNat = (x3_1 + x5_2 - 1).toNat + 1 by omega, show (x5_2 + 1 - 1).toNat = (x5_2 - 1).toNat + 1 by omega, ← List.drop_drop, ← List.drop_drop, hI5]))⟩⟩
               ·rw [if_neg c18] at H
                exact absurd H (by simp)
              ·rw [if_neg c17] at H
               exact absurd H (by simp)
             ·rw [if_neg c15] at H
              exact absurd H (by simp)
            ·rw [if_neg c14] at H
             have c14b0 : decide (x5_2 < (y215.length : Int)) = false := decide_eq_false c14
             clear c14
             by_cases c25 : 0 ≤ x3_2
             ·rw [if_pos c25] at H
              have c25b0 := eq_true c25
              have c25b1 : decide (0 ≤ x3_2) = true := decide_eq_true c25
              clear c25
              by_cases c26 : x3_2 ≤ (x0_2.length : Int)
              ·rw [if_pos c26] at H
               have c26b0 := eq_true c26
               have c26b1 : decide (x3_2 ≤ (x0_2.length : Int)) = true := decide_eq_true c26
               clear c26
               obtain ⟨y223, hy223⟩ : ∃ y_ : List (S67), y_ = (x0_2.drop (x3_2 : Int).toNat) := ⟨_, rfl⟩
               replace H : (some (x0_2.take (x3_2 : Int).toNat)) = some r := by first | (rw [hy223]; with_reducible exact H) | (have H2_ := (Option.bind_some _ _).symm.trans H; rw [hy223]; with_reducible exact H2_) | (have H2_ := (Option.bind_some _ _).symm.trans H; with_reducible exact H2_) | with_reducible exact H | (rw [hy223]; exact H) | exact H
               have Ny223 := Ak hy223
               clear hy223
               have c27b0 := eq_true (of_decide_eq_true (by first | (with_reducible assumption) | assumption) : x3_2 ≤ (x0_2.length : Int))
               obtain ⟨y227, hy227⟩ : ∃ y_ : List (S67), y_ = (x0_2.take (x3_2 : Int).toNat) := ⟨_, rfl⟩
               replace H : (some y227) = some r := by first | (rw [hy227]; with_reducible exact H) | (have H2_ := (Option.bind_some _ _).symm.trans H; rw [hy227]; with_reducible exact H2_) | (have H2_ := (Option.bind_some _ _).symm.trans H; with_reducible exact H2_) | with_reducible exact H | (rw [hy227]; exact H) | exact H
               have Ny227 := Ak hy227
               clear hy227
               obtain rfl := Option.some.inj H
               have q28 : (x3_2 : Int) ≤ ((x0_2.length : Int) : Int) := of_decide_eq_true (by first | (with_reducible assumption) | assumption)
               obtain ⟨i028, hi028, _, hsz28, _⟩ := info_parts info67
               have hroom28 : x0_2.length ≤ co4 := (Kd.R_reads' HO_0.out).2.1
               have hC28 : Kd.C k67 _ (some (⟨gA_, 0, none⟩ : Addr)) x0_2.length x0_2 := (Kd.R_reads' HO_0.out).2.2
               have q028 : (0 : Int) ≤ (x3_2 : Int) := of_decide_eq_true (by first | (with_reducible assumption) | assumption)
               have hcut28 := cut_from (P := Try.prog) 58 67 .i64 Try.underlying58 hi028 2 hsz28 (some (⟨gA_, 0, none⟩ : Addr)) x0_2.length co4 x3_2 q028 q28
               have hr28 := Kd.C_drop (m := (x3_2 : Int).toNat) (c := co4) hC28 (by omega) hroom28
               obtain ⟨A28, hA28⟩ : ∃ A1, A1 = (if co4 = (x3_2 : Int).toNat then (some (⟨gA_, 0, none⟩ : Addr)) else ((some (⟨gA_, 0, none⟩ : Addr)) : Option Addr).map (·.add ((x3_2 : Int).toNat * 2))) := ⟨_, rfl⟩
               obtain ⟨c28, hc28⟩ : ∃ c1, c1 = co4 - (x3_2 : Int).toNat := ⟨_, rfl⟩
               have hy28 : y223.length = x0_2.length - (x3_2 : Int).toNat := (by rw [Ny223.out, List.length_drop] <;> omega)
               rw [show (x0_2).drop (x3_2 : Int).toNat = y223 from Ny223.out.symm] at hr28
               replace hr28 : Kd.C k67 _ A28 y223.length y223 := (by rw [hA28]; exact hr28)
               rw [← hy28, ← hA28, ← hc28] at hcut28
               have HR226 := Ak hr28
               have HC226 := Ak (show y223.length ≤ c28 from by rw [hy28, hc28]; exact Nat.sub_le_sub_right hroom28 _)
               clear hr28 hC28 hroom28 hi028 hsz28 hc28
               have KY28 := Ak hy28
               have KA28 := Ak hA28
               clear hy28 hA28
               have KL28 := Ak (show (x3_2 : Int).toNat ≤ x0_2.length from by omega)
               replace q28 := eq_true q28
               have q29 : (x3_2 : Int) ≤ ((x0_2.length : Int) : Int) := of_decide_eq_true (by first | (with_reducible assumption) | assumption)
               obtain ⟨i029, hi029, _, hsz29, _⟩ := info_parts info67
               have hcut29 := cut_to (P := Try.prog) 58 67 .i64 Try.underlying58 hi029 (some (⟨gA_, 0, none⟩ : Addr)) x0_2.length co4 x3_2 (of_decide_eq_true (by first | (with_reducible assumption) | assumption)) q29 (Kd.R_reads' HO_0.out).2.1
               have hr29 := Kd.R_take (m := (x3_2 : Int).toNat) HO_0.out (by omega)
               have hy29 : y227.length = (x3_2 : Int).toNat := (by rw [Ny227.out, List.length_take]; omega)
               rw [← Ny227.out] at hr29
               rw [← hy29] at hr29 hcut29
               have KY29 := Ak hy29
               clear hy29 hi029 hsz29
               have HO229 := Ak hr29
               clear hr29
               replace q29 := eq_true q29
               go_wp2_with (first | ((with_reducible refine gate_builtin (b := .clear) (xs := #[.tmp 56]) rfl ?_); refine clear67_event (base := w0.heap.size) rfl (.tmp 56) rfl rfl (rq HO_0.out) KL28.out KA28.out KY28.out ?_; intro w77 hR1 hg1; rw [← Ny227.out] at hR1; rw [← KY29.out] at hR1; replace HO229 := Ak hR1; replace HK := Ak (Kept.of_grown hg1 (by repeat (first | (with_reducible first | exact HK.out | apply Kept.alloc | apply Kept.drewN | apply Kept.drew) | exact HK.out)) (fun k_ e_ => by (injection e_ with e_; subst e_; exact HO_0.out.1 _ rfl))); replace HB := Ak (Below.grown (bw HB.out) hg1 (Nat.le_trans HB.out.size (Nat.le_refl _)) (fun k_ e_ => by (injection e_ with e_; subst e_; exact Kd.R_base HO_0.out _ rfl))); clear HO_0 hg1))
               go_ret
               exact ⟨_, by first | rfl | (simp [errW_none, errW_some] <;> rfl) | (simp only [← hji7]; first | rfl | (simp [errW_none, errW_some] <;> rfl)) | (simp [*, errW_none, errW_some] <;> rfl), rq HO229.out, bw HB.out, by repeat (first | (with_reducible first | exact HK.out | apply Kept.alloc | apply Kept.drewN | apply Kept.drew) | exact HK.out)⟩
              ·rw [if_neg c26] at H
               exact absurd H (by simp)
             ·rw [if_neg c25] at H
              exact absurd H (by simp)
         ·rw [if_neg c12] at H
          exact absurd H (by simp)
        ·rw [if_neg c10] at H
         have c10b0 : (((rd_T67 x0_1 x3_1).f0) == ((rd_T67 x0_1 (ji7)).f0) && (((rd_T67 x0_1 x3_1).f1) == ((rd_T67 x0_1 (ji7)).f1))) = false := by simpa using c10
         (try (have c10b1 : decide (((rd_T67 x0_1 x3_1).f0) = ((rd_T67 x0_1 (ji7)).f0) && (((rd_T67 x0_1 x3_1).f1) == ((rd_T67 x0_1 (ji7)).f1))) = false := by simpa using c10))
         (try (have c10b2 : (((rd_T67 x0_1 x3_1).f0) == ((rd_T67 x0_1 (ji7)).f0) && (((rd_T67 x0_1 x3_1).f1) == ((rd_T67 x0_1 (ji7)).f1))) = false := by simpa using c10))
         (try (have c10b3 : ¬ (((rd_T67 x0_1 x3_1).f0) = ((rd_T67 x0_1 (ji7)).f0) && (((rd_T67 x0_1 x3_1).f1) == ((rd_T67 x0_1 (ji7)).f1))) := by simpa using c10))
         clear c10
         have H' := Ak H
         clear H
         have p213 : 0 ≤ (x3_1 : Int) := of_decide_eq_true (by first | (with_reducible assumption) | assumption)
         have q213 : x3_1 < (x0_1.length : Int) := of_decide_eq_true (by first | (with_reducible assumption) | assumption)
         obtain ⟨ad213, e213, hx213_0, hx213_1⟩ := at_T67 (Kd.R_reads' HO_0.out).2.2 x3_1 p213 q213
         cases e213
         (first | simp only [add_plain] at hx213_0 | skip)
         (first | simp only [add_plain] at hx213_1 | skip)
         replace p213 := eq_true p213
         replace q213 := eq_true q213
         have p214 : 0 ≤ ((ji7) : Int) := of_decide_eq_true (by first | (with_reducible assumption) | assumption)
         have q214 : (ji7) < (x0_1.length : Int) := of_decide_eq_true (by first | (with_reducible assumption) | assumption)
         obtain ⟨ad214, e214, hx214_0, hx214_1⟩ := at_T67 (Kd.R_reads' HO_0.out).2.2 (ji7) p214 q214
         obtain rfl : (⟨gA_, 0, none⟩ : Addr) = ad214 := (by injection e214)
         (first | simp only [add_plain] at hx214_0 | skip)
         (first | simp only [add_plain] at hx214_1 | skip)
         replace p214 := eq_true p214
         replace q214 := eq_true q214
         go_wp2
         repeat (go_quiet (fail); try go_wp2)
         (try simp only [← hl0_1])
         go_roundg k1
         case measure => have := HK1.out; omega
         case rel => exact ⟨(x0_1), (wrap64 (x3_1 + 1)), (by first | rfl | (simp; done) | (simp [*]; done)), H', ⟨by have := HK1.out; omega⟩, ⟨by (try simp only [hl0_1]); (with_reducible repeat (first | apply Kd.R_alloc | apply Kd.R_drewN | apply Kd.R_drew)); exact HO_0.out⟩, ⟨by repeat (first | (with_reducible first | exact HK.out | apply Kept.alloc | apply Kept.drewN | apply Kept.drew) | exact HK.out)⟩, ⟨bw HB.out⟩⟩
       ·rw [if_neg c9] at H
        exact absurd H (by simp)
      ·rw [if_neg c8] at H
       exact absurd H (by simp)
     ·rw [if_neg c6] at H
      exact absurd H (by simp)
    ·rw [if_neg c5] at H
     have c5b0 : decide (x3_1 < (x0_1.length : Int)) = false := decide_eq_false c5
     clear c5
     obtain rfl := Option.some.inj H
     go_wp2
     repeat (go_quiet (fail); try go_wp2)
     go_ret
     exact ⟨_, zw, rq HO_0.out, bw HB.out, by repeat (first | (with_reducible first | exact HK.out | apply Kept.alloc | apply Kept.drewN | apply Kept.drew) | exact HK.out)⟩

end Go.Proofs.Ytgmnphckgicadaa.PFnHulls
