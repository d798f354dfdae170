/- The functions that the law FnExactFind reaches, each with what it computes and its contract. -/
import Derived.Test.YtinilabmffjnaaaQFnExactFindx0
import Derived.Test.YtinilabmffjnaaaQFnExactFindx15
namespace Go.Proofs.Ytinilabmffjnaaa.PFnExactFind
open Go.RowKit Go.Proofs.YtinilabmffjnaaaW.PrintWords Go.Proofs.YtinilabmffjnaaaW.PrintLast Go.Proofs.YtinilabmffjnaaaW.PrintMore
attribute [local go_sem] max2_int min2_int max_two min_two max_three min_three max_four min_four   -- for this text's walks alone
set_option linter.unusedVariables false
set_option linter.unusedSimpArgs false

/-! ### laws_markPtS: function 106 -/
def laws_markPtS.l0 : Nat → List (S73) → Int → Int → Option (Int × (List (S73)))
  | 0, _, _, _ => none
  | k + 1, x0, x1, x5 => if x5 < (x0.length : Int) then (if 0 ≤ x5 then ((some (x0.set (x5 : Int).toNat (⟨x1, (rd_T73 x0 x5).f1⟩ : S73) : List (S73))).bind fun y192 => (laws_markPtS.l0 k (y192.set (x5 : Int).toNat (⟨(rd_T73 y192 x5).f0, wrap64 (x1 + 1)⟩ : S73)) (wrap64 ((wrap64 (x1 + 1)) + 1)) (wrap64 (x5 + 1)))) else (none)) else (some (x1, x0))
def laws_markPtS.f (k : Nat) (l0 : List (S73)) (a1 : Int) : Option (Int × (List (S73))) := laws_markPtS.l0 k l0 a1 0
theorem laws_markPtS.mono_l : ∀ k, (∀ y0 y1 y2, LeO (laws_markPtS.l0 k y0 y1 y2) (laws_markPtS.l0 (k + 1) y0 y1 y2))
  | 0 => fun _ _ _ r h => by simp [laws_markPtS.l0] at h
  | k + 1 => by
    have ih0 := laws_markPtS.mono_l k
    · intro y0 y1 y2
      unfold laws_markPtS.l0
      repeat' first
      | (with_reducible exact ih0 _ _ _)
      | (with_reducible exact LeO.refl _)
      | (with_reducible exact LeO.none _)
      | (with_reducible refine LeO.ite ?_ ?_)
      | (with_reducible refine LeO.bind ?_ (fun _ => ?_))
      | exact ih0 _ _ _
      | exact LeO.none _
      | refine LeO.ite ?_ ?_
      | refine LeO.bind ?_ (fun _ => ?_)
theorem laws_markPtS.mono : ∀ a0 a1 k, LeO (laws_markPtS.f k a0 a1) (laws_markPtS.f (k + 1) a0 a1) := by
  intro a0 a1 k
  have ih0 := laws_markPtS.mono_l k
  unfold laws_markPtS.f
  repeat' first
      | (with_reducible exact ih0 _ _ _)
      | (with_reducible exact LeO.refl _)
      | (with_reducible exact LeO.none _)
      | (with_reducible refine LeO.ite ?_ ?_)
      | (with_reducible refine LeO.bind ?_ (fun _ => ?_))
      | exact ih0 _ _ _
      | exact LeO.none _
      | refine LeO.ite ?_ ?_
      | refine LeO.bind ?_ (fun _ => ?_)
set_option maxHeartbeats 8000000 in
set_option maxRecDepth 100000 in
theorem laws_markPtS.calls (k : Nat) (P0_ : Nat → Prop) (u9000_ : Value) (l0 : List (S73)) (a1 : Int) (r1 : Int) (r2 : List (S73)) (w0 w : World) (hB : Below w0.heap.size w0 w) (ho0 : Kd.R k73 73 w w0.heap.size P0_ u9000_ l0) (h : laws_markPtS.f k l0 a1 = some (r1, r2)) :
    Calls Try.prog 106 #[u9000_, .int .i64 a1] w fun e w' => e = .returned (.int .i64 r1) ∧ Kd.R k73 73 w' w0.heap.size (fun k_ => (P0_ k_ ∨ w.heap.size ≤ k_)) u9000_ r2 ∧ Below w0.heap.size w0 w' ∧ Kept w w' (fun k_ => P0_ k_) := by
  have HO0 := Aside0.mk (show Kd.R k73 73 w w0.heap.size (fun k_ => (P0_ k_ ∨ w.heap.size ≤ k_)) u9000_ l0 from Kd.R_mono ho0 (fun k_ hk => (.inl hk)))
  have HK := Aside0.mk (Kept.refl w (fun k_ => P0_ k_))
  have HW0 := Aside0.mk hB.size
  have HB := Aside0.mk hB
  clear hB
  have H : (laws_markPtS.l0 k l0 a1 0) = some (r1, r2) := h
  clear h
  have H' := Aside0.mk H
  clear H
  go_enter Try.func106, Try.ntmps106
  go_wp2
  go_loopg [1, 5] k (fun kq v1 v5 w' => ∃ (x0_1 : List (S73)) (x1_1 : Int) (x5_1 : Int), v1 = .int .i64 x1_1 ∧ v5 = .int .i64 x5_1 ∧ Aside0 (laws_markPtS.l0 kq x0_1 x1_1 x5_1 = some (r1, r2)) ∧ Aside0 (kq ≤ k) ∧ Aside0 (Kd.R k73 73 w' w0.heap.size (fun k_ => (P0_ k_ ∨ w.heap.size ≤ k_)) u9000_ x0_1) ∧ Aside0 (Kept w w' (fun k_ => P0_ k_)) ∧ Aside0 (Below w0.heap.size w0 w'))
  case atStart => exact ⟨(l0), (a1), (0), (by first | rfl | (simp; done) | (simp [*]; done)), (by first | rfl | (simp; done) | (simp [*]; done)), H', ⟨Nat.le_refl _⟩, ⟨by (with_reducible repeat (first | apply Kd.R_alloc | apply Kd.R_drewN | apply Kd.R_drew)); exact HO0.out⟩, ⟨by repeat (first | (with_reducible first | exact HK.out | apply Kept.alloc | apply Kept.drewN | apply Kept.drew) | exact HK.out)⟩, ⟨by repeat (first | (with_reducible first | exact HB.out | apply below_alloc | apply pw_below_drewN | apply below_drew1) | exact HB.out)⟩⟩
  case round =>
    clear H'
    try clear c1
    try clear p2
    obtain ⟨x0_1, x1_1, x5_1, rfl, rfl, HA, HK1, HO_0, HK, HB⟩ := hrel
    cases gk with
    | zero => exact absurd HA.out (by simp [laws_markPtS.l0])
    | succ k1 =>
      have H := HA.out
      clear HA
      simp only [laws_markPtS.l0] at H
      by_cases c3 : x5_1 < (x0_1.length : Int)
      · rw [if_pos c3] at H
        have c3b0 : decide (x5_1 < (x0_1.length : Int)) = true := decide_eq_true c3
        clear c3
        by_cases c4 : 0 ≤ x5_1
        · rw [if_pos c4] at H
          have c4b0 : decide (0 ≤ x5_1) = true := decide_eq_true c4
          clear c4
          obtain ⟨y192, hy192⟩ : ∃ y_ : List (S73), y_ = (x0_1.set (x5_1 : Int).toNat (⟨x1_1, (rd_T73 x0_1 x5_1).f1⟩ : S73)) := ⟨_, rfl⟩
          replace H : (laws_markPtS.l0 k1 (y192.set (x5_1 : Int).toNat (⟨(rd_T73 y192 x5_1).f0, wrap64 (x1_1 + 1)⟩ : S73)) (wrap64 ((wrap64 (x1_1 + 1)) + 1)) (wrap64 (x5_1 + 1))) = some (r1, r2) := by first | (rw [hy192]; with_reducible exact H) | (have H2_ := (Option.bind_some _ _).symm.trans H; rw [hy192]; with_reducible exact H2_) | (have H2_ := (Option.bind_some _ _).symm.trans H; with_reducible exact H2_) | with_reducible exact H | (rw [hy192]; exact H) | exact H
          have Ny192 := Aside0.mk hy192
          clear hy192
          obtain ⟨y193, hy193⟩ : ∃ y_ : List (S73), y_ = (y192.set (x5_1 : Int).toNat (⟨(rd_T73 y192 x5_1).f0, wrap64 (x1_1 + 1)⟩ : S73)) := ⟨_, rfl⟩
          replace H : (laws_markPtS.l0 k1 y193 (wrap64 ((wrap64 (x1_1 + 1)) + 1)) (wrap64 (x5_1 + 1))) = some (r1, r2) := by first | (rw [hy193]; with_reducible exact H) | (have H2_ := (Option.bind_some _ _).symm.trans H; rw [hy193]; with_reducible exact H2_) | (have H2_ := (Option.bind_some _ _).symm.trans H; with_reducible exact H2_) | with_reducible exact H | (rw [hy193]; exact H) | exact H
          have Ny193 := Aside0.mk hy193
          clear hy193
          have H' := Aside0.mk H
          clear H
          obtain ⟨Ao7, co7, eo7⟩ := Kd.R_slice HO_0.out
          subst eo7
          have p5 : 0 ≤ (x5_1 : Int) := of_decide_eq_true (by first | (with_reducible assumption) | assumption)
          have q5 : (x5_1 : Int) < ((x0_1.length : Int) : Int) := of_decide_eq_true (by first | (with_reducible assumption) | assumption)
          obtain ⟨go5, co5, eo5, gb5, gl5, cl5, HG5⟩ := Kd.R_form HO_0.out (by omega)
          (first | cases eo5 | (injection eo5 with ea_ en_ ec_; (first | subst ea_ | (injection ea_ with ea_; subst ea_)); subst ec_; clear en_))
          have GB5 := Aside0.mk gb5
          have GG5 := Aside0.mk HG5
          clear gb5 gl5 HG5
          have HMgo5 := Aside0.mk (show (P0_ go5 ∨ w.heap.size ≤ go5) from (HO_0.out.1 _ rfl))
          obtain ⟨ce5, hcl5, hM5, hcc5, hfr5⟩ := Kd.R_elem HO_0.out z73 (x5_1 : Int) p5 q5
          obtain rfl := k73_openM hM5
          have hx5_0 : wr.cell? ⟨go5, (x5_1 : Int).toNat * 2, none⟩ = some (.int .i64 ((rd_T73 x0_1 x5_1).f0)) := hcc5 0 _ rfl
          have hx5_1 : wr.cell? ⟨go5, (x5_1 : Int).toNat * 2 + 1, none⟩ = some (.int .i64 ((rd_T73 x0_1 x5_1).f1)) := hcc5 1 _ rfl
          have hf5_0 : wr.frozen? ⟨go5, (x5_1 : Int).toNat * 2, none⟩ = false := hfr5 0
          have hf5_1 : wr.frozen? ⟨go5, (x5_1 : Int).toNat * 2 + 1, none⟩ = false := hfr5 1
          clear hcl5 hcc5 hfr5 hM5
          replace p5 := eq_true p5
          replace q5 := eq_true q5
          have HX8 := Aside0.mk (show Kd.R k73 73 wr w0.heap.size (fun k_ => (P0_ k_ ∨ w.heap.size ≤ k_)) (.slice (some ⟨go5, 0, none⟩) x0_1.length co7) x0_1 from (by (with_reducible repeat (first | apply Kd.R_alloc | apply Kd.R_drewN | apply Kd.R_drew)); exact HO_0.out))
          obtain ⟨ce8, hcl8, hM8, hcc8, hfr8⟩ := Kd.R_elem HX8.out z73 (x5_1 : Int) (of_decide_eq_true (by first | (with_reducible assumption) | assumption)) (by have h_ : (x5_1 : Int) < ((x0_1.length : Int) : Int) := of_decide_eq_true (by first | (with_reducible assumption) | assumption); first | exact h_ | (have e_ := (Kd.R_reads' HO_0.out).1; omega) | simpa using h_)
          obtain rfl := k73_openM hM8
          have HP8 := Kd.R_seg HX8.out (x5_1 : Int) (of_decide_eq_true (by first | (with_reducible assumption) | assumption)) (by have h_ : (x5_1 : Int) < ((x0_1.length : Int) : Int) := of_decide_eq_true (by first | (with_reducible assumption) | assumption); first | exact h_ | (have e_ := (Kd.R_reads' HO_0.out).1; omega) | simpa using h_) (seg := [.int .i64 x1_1]) (j := 0) hcl8 hcc8 (show 1 ≤ 2 from by decide) (x' := (⟨x1_1, (rd_T73 x0_1 x5_1).f1⟩ : S73)) (k73_mkM _ _ _ (⟨x1_1, (rd_T73 x0_1 x5_1).f1⟩ : S73) ) (fun _ hk => hk)
          have hx8_0 := hcc8 0 _ rfl
          (try simp only [show (k73).sz = 2 from rfl, Nat.mul_one, Nat.add_zero] at hx8_0)
          have hf8_0 := hfr8 0
          (try simp only [show (k73).sz = 2 from rfl, Nat.mul_one, Nat.add_zero] at hf8_0)
          clear hcl8 hcc8 hfr8 hM8
          go_wp2_with (first | ((with_reducible refine gate_store (t := 3) (p := 16) rfl ?_); refine store_event (t := 3) (p := 16) (v := ?vo_w9) (w1 := (wr.setCell ⟨go5, (x5_1 : Int).toNat * 2, none⟩ (.int .i64 x1_1))) ?hg ?ho ?hn ?hr ?_; (case ho => rfl); (case hg => rfl); (case hn => rfl); (case hr => first | (go_simp; done) | (go_simp; rfl)); intro w9 hw; have hg : wr.grownBy w9 (some go5) := (by rw [hw]; exact HP8.2); have hp_ : Kd.R k73 73 w9 w0.heap.size (fun k_ => (P0_ k_ ∨ w.heap.size ≤ k_)) (.slice (some ⟨go5, 0, none⟩) x0_1.length co7) y192 := (by rw [hw, Ny192.out]; exact HP8.1); clear HP8; have n0_ := Aside0.mk (hp_); have n1_ := Aside0.mk ((by rw [hw]; exact below_set (HB.out) GB5.out : Below w0.heap.size w0 w9)); have n2_ := Aside0.mk (Kept.of_grown (S := (fun k_ => P0_ k_)) hg (by repeat (first | (with_reducible first | exact HK.out | apply Kept.alloc | apply Kept.drewN | apply Kept.drew) | exact HK.out)) (fun k_ e_ => (HO_0.out.1 k_ e_))); clear HO_0; clear HB; clear HK; have HO_0 := n0_; have HB := n1_; have HK := n2_; clear n0_ n1_ n2_; clear hg hw hp_; have p6 : 0 ≤ (x5_1 : Int) := of_decide_eq_true (by first | (with_reducible assumption) | assumption); have q6 : (x5_1 : Int) < ((x0_1.length : Int) : Int) := of_decide_eq_true (by first | (with_reducible assumption) | assumption); obtain ⟨ce6, hcl6, hM6, hcc6, hfr6⟩ := Kd.R_elem HO_0.out z73 (x5_1 : Int) p6 q6; obtain rfl := k73_openM hM6; have hx6_0 : w9.cell? ⟨go5, (x5_1 : Int).toNat * 2, none⟩ = some (.int .i64 ((rd_T73 y192 x5_1).f0)) := hcc6 0 _ rfl; have hx6_1 : w9.cell? ⟨go5, (x5_1 : Int).toNat * 2 + 1, none⟩ = some (.int .i64 ((rd_T73 y192 x5_1).f1)) := hcc6 1 _ rfl; have hf6_0 : w9.frozen? ⟨go5, (x5_1 : Int).toNat * 2, none⟩ = false := hfr6 0; have hf6_1 : w9.frozen? ⟨go5, (x5_1 : Int).toNat * 2 + 1, none⟩ = false := hfr6 1; clear hcl6 hcc6 hfr6 hM6; replace p6 := eq_true p6; replace q6 := eq_true q6; have HX10 := Aside0.mk (show Kd.R k73 73 w9 w0.heap.size (fun k_ => (P0_ k_ ∨ w.heap.size ≤ k_)) (.slice (some ⟨go5, 0, none⟩) x0_1.length co7) y192 from (by (with_reducible repeat (first | apply Kd.R_alloc | apply Kd.R_drewN | apply Kd.R_drew)); exact HO_0.out)); obtain ⟨ce10, hcl10, hM10, hcc10, hfr10⟩ := Kd.R_elem HX10.out z73 (x5_1 : Int) (of_decide_eq_true (by first | (with_reducible assumption) | assumption)) (by have h_ : (x5_1 : Int) < ((x0_1.length : Int) : Int) := of_decide_eq_true (by first | (with_reducible assumption) | assumption); first | exact h_ | (have e_ := (Kd.R_reads' HO_0.out).1; omega) | simpa using h_); obtain rfl := k73_openM hM10; have HP10 := Kd.R_seg HX10.out (x5_1 : Int) (of_decide_eq_true (by first | (with_reducible assumption) | assumption)) (by have h_ : (x5_1 : Int) < ((x0_1.length : Int) : Int) := of_decide_eq_true (by first | (with_reducible assumption) | assumption); first | exact h_ | (have e_ := (Kd.R_reads' HO_0.out).1; omega) | simpa using h_) (seg := [.int .i64 (wrap64 (x1_1 + 1))]) (j := 1) hcl10 hcc10 (show 2 ≤ 2 from by decide) (x' := (⟨(rd_T73 y192 x5_1).f0, wrap64 (x1_1 + 1)⟩ : S73)) (k73_mkM _ _ _ (⟨(rd_T73 y192 x5_1).f0, wrap64 (x1_1 + 1)⟩ : S73) ) (fun _ hk => hk); have hx10_1 := hcc10 1 _ rfl; (try simp only [show (k73).sz = 2 from rfl, Nat.mul_one, Nat.add_zero] at hx10_1); have hf10_1 := hfr10 1; (try simp only [show (k73).sz = 2 from rfl, Nat.mul_one, Nat.add_zero] at hf10_1); clear hcl10 hcc10 hfr10 hM10) | ((with_reducible refine gate_store (t := 3) (p := 23) rfl ?_); refine store_event (t := 3) (p := 23) (v := ?vo_w11) (w1 := (w9.setCell ⟨go5, (x5_1 : Int).toNat * 2 + 1, none⟩ (.int .i64 (wrap64 (x1_1 + 1))))) ?hg ?ho ?hn ?hr ?_; (case ho => rfl); (case hg => rfl); (case hn => rfl); (case hr => first | (go_simp; done) | (go_simp; rfl)); intro w11 hw; have hg : w9.grownBy w11 (some go5) := (by rw [hw]; exact HP10.2); have hp_ : Kd.R k73 73 w11 w0.heap.size (fun k_ => (P0_ k_ ∨ w.heap.size ≤ k_)) (.slice (some ⟨go5, 0, none⟩) x0_1.length co7) y193 := (by rw [hw, Ny193.out]; exact HP10.1); clear HP10; have n0_ := Aside0.mk (hp_); have n1_ := Aside0.mk ((by rw [hw]; exact below_set (HB.out) GB5.out : Below w0.heap.size w0 w11)); have n2_ := Aside0.mk (Kept.of_grown (S := (fun k_ => P0_ k_)) hg (by repeat (first | (with_reducible first | exact HK.out | apply Kept.alloc | apply Kept.drewN | apply Kept.drew) | exact HK.out)) (fun k_ e_ => (HO_0.out.1 k_ e_))); clear HO_0; clear HB; clear HK; have HO_0 := n0_; have HB := n1_; have HK := n2_; clear n0_ n1_ n2_; clear hg hw hp_))
          go_roundg k1
          case measure => have := HK1.out; omega
          case rel => exact ⟨(y193), (wrap64 ((wrap64 (x1_1 + 1)) + 1)), (wrap64 (x5_1 + 1)), (by first | rfl | (simp; done) | (simp [*]; done)), (by first | rfl | (simp; done) | (simp [*]; done)), H', ⟨by have := HK1.out; omega⟩, ⟨by (with_reducible repeat (first | apply Kd.R_alloc | apply Kd.R_drewN | apply Kd.R_drew)); exact HO_0.out⟩, ⟨by repeat (first | (with_reducible first | exact HK.out | apply Kept.alloc | apply Kept.drewN | apply Kept.drew) | exact HK.out)⟩, ⟨by repeat (first | (with_reducible first | exact HB.out | apply below_alloc | apply pw_below_drewN | apply below_drew1) | exact HB.out)⟩⟩
        · rw [if_neg c4] at H
          exact absurd H (by simp)
      · rw [if_neg c3] at H
        have c3b0 : decide (x5_1 < (x0_1.length : Int)) = false := decide_eq_false c3
        clear c3
        simp only [Option.some.injEq, Prod.mk.injEq] at H
        obtain ⟨rfl, rfl⟩ := H
        obtain ⟨Ao12, co12, eo12⟩ := Kd.R_slice HO_0.out
        subst eo12
        go_wp2
        go_ret
        exact ⟨by first | rfl | (simp [errW_none, errW_some] <;> rfl) | (simp [*, errW_none, errW_some] <;> rfl), by (with_reducible repeat (first | apply Kd.R_alloc | apply Kd.R_drewN | apply Kd.R_drew)); exact HO_0.out, by repeat (first | (with_reducible first | exact HB.out | apply below_alloc | apply pw_below_drewN | apply below_drew1) | exact HB.out), by repeat (first | (with_reducible first | exact HK.out | apply Kept.alloc | apply Kept.drewN | apply Kept.drew) | exact HK.out)⟩

/-- laws.markPtSS: each ring's points are marked in turn; what else there is stays. -/
def laws_markPtSS.l0 : Nat → List (List S73) → Int → Int → Option (Int × List (List S73))
  | 0, _, _, _ => none
  | k + 1, x0, x1, x5 => if x5 < (x0.length : Int) then (if 0 ≤ x5 then ((laws_markPtS.f k (x0.getD (x5 : Int).toNat ([] : List S73)) x1).bind fun bt => laws_markPtSS.l0 k (x0.set (x5 : Int).toNat bt.2) bt.1 (wrap64 (x5 + 1))) else none) else some (x1, x0)
def laws_markPtSS.f (k : Nat) (l0 : List (List S73)) (a1 : Int) : Option (Int × List (List S73)) := laws_markPtSS.l0 k l0 a1 0
theorem laws_markPtSS.mono_l : ∀ k, (∀ y0 y1 y2, LeO (laws_markPtSS.l0 k y0 y1 y2) (laws_markPtSS.l0 (k + 1) y0 y1 y2))
  | 0 => fun _ _ _ r h => by simp [laws_markPtSS.l0] at h
  | k + 1 => by
    have ih0 := laws_markPtSS.mono_l k
    · intro y0 y1 y2
      unfold laws_markPtSS.l0
      repeat' first
      | (with_reducible exact ih0 _ _ _)
      | (with_reducible exact laws_markPtS.mono _ _ _)
      | (with_reducible exact LeO.refl _)
      | (with_reducible exact LeO.none _)
      | (with_reducible refine LeO.ite ?_ ?_)
      | (with_reducible refine LeO.bind ?_ (fun _ => ?_))
      | exact ih0 _ _ _
theorem laws_markPtSS.mono : ∀ a0 a1 k, LeO (laws_markPtSS.f k a0 a1) (laws_markPtSS.f (k + 1) a0 a1) := by
  intro a0 a1 k
  exact laws_markPtSS.mono_l k _ _ _
/-- Where such a row may lie: in the blocks of P that hold writes or bytes. -/
def RowIn (P : Nat → Prop) (w : World) (k : Nat) : Prop := P k ∧ k < w.heap.size ∧ ∃ q, q ∈ 134 :: (Kd.slice 73 k73).E ∧ ∃ cells, w.heap[k]? = some (.cells cells q (0, 0))
theorem RowIn.of_S {w : World} {base : Nat} {P : Nat → Prop} {v : Value} {xs : List (List S73)} (h : Kd.S (Kd.slice 73 k73) 134 w base P v xs) : Kd.S (Kd.slice 73 k73) 134 w base (RowIn P w) v xs :=
  Kd.S_mono (Kd.S_bound h) (fun _ hk => ⟨hk.1, hk.2.2.1, hk.2.2.2⟩)
theorem RowIn.ne {P : Nat → Prop} {w : World} {g t : Nat} {cells : Array Value} (hb : w.heap[g]? = some (.cells cells t (0, 0))) (ht : ∀ q, q ∈ 134 :: (Kd.slice 73 k73).E → q ≠ t) : ¬ RowIn P w g := by
  rintro ⟨_, _, q, hq, cells', hc⟩
  rw [hc] at hb
  injection hb with hb
  injection hb with _ hb
  exact ht q hq hb
set_option maxHeartbeats 8000000 in
set_option maxRecDepth 100000 in
theorem laws_markPtSS.calls (k : Nat) (P1 : Nat → Prop) (u1 : Value) (l0 : List (List S73)) (a1 : Int) (r1 : Int) (r2 : List (List S73)) (w0 w : World) (hB : Below w0.heap.size w0 w) (ho0 : Kd.S (Kd.slice 73 k73) 134 w w0.heap.size P1 u1 l0) (h : laws_markPtSS.f k l0 a1 = some (r1, r2)) :
    Calls Try.prog 81 #[u1, .int .i64 a1] w fun e w' => e = .returned (.int .i64 r1) ∧ Kd.S (Kd.slice 73 k73) 134 w' w0.heap.size P1 u1 r2 ∧ r2.length = l0.length ∧ Below w0.heap.size w0 w' ∧ Kept w w' (RowIn P1 w) := by
  have HO := Aside0.mk (RowIn.of_S ho0)
  have HB := Aside0.mk hB
  have HK := Aside0.mk (Kept.refl w (RowIn P1 w))
  have H' := Aside0.mk (show laws_markPtSS.l0 k l0 a1 0 = some (r1, r2) from h)
  clear h hB ho0
  obtain ⟨Ao, co, eo⟩ := Kd.S_slice HO.out
  subst eo
  go_enter Try.func81, Try.ntmps81
  go_wp2
  go_loopg [1, 5] k (fun kq v1 v5 w' => ∃ (x0 : List (List S73)) (x1 : Int) (x5 : Int), v1 = .int .i64 x1 ∧ v5 = .int .i64 x5 ∧ Aside0 (x0.length = l0.length) ∧ Aside0 (laws_markPtSS.l0 kq x0 x1 x5 = some (r1, r2)) ∧ Aside0 (kq ≤ k) ∧ Aside0 (Kd.S (Kd.slice 73 k73) 134 w' w0.heap.size (RowIn P1 w) (.slice Ao l0.length co) x0) ∧ Aside0 (Kept w w' (RowIn P1 w)) ∧ Aside0 (Below w0.heap.size w0 w'))
  case atStart => exact ⟨l0, a1, 0, (by first | rfl | (simp; done) | (simp [*]; done)), (by first | rfl | (simp; done) | (simp [*]; done)), ⟨rfl⟩, H', ⟨Nat.le_refl _⟩, ⟨by (with_reducible repeat (first | apply Kd.S_alloc | apply Kd.S_drewN | apply Kd.S_drew)); exact HO.out⟩, ⟨by repeat (first | (with_reducible first | exact HK.out | apply Kept.alloc | apply Kept.drewN | apply Kept.drew) | exact HK.out)⟩, ⟨by repeat (first | (with_reducible first | exact HB.out | apply below_alloc | apply pw_below_drewN | apply below_drew1) | exact HB.out)⟩⟩
  case round =>
    clear H'
    try clear p2
    clear HO HK HB
    obtain ⟨x0, x1, x5, rfl, rfl, HL, HA, HK1, HO, HK, HB⟩ := hrel
    cases gk with
    | zero => exact absurd HA.out (by simp [laws_markPtSS.l0])
    | succ k1 =>
      have H := HA.out
      clear HA
      simp only [laws_markPtSS.l0] at H
      by_cases c3 : x5 < (x0.length : Int)
      · rw [if_pos c3] at H
        have c3b0 : decide (x5 < (l0.length : Int)) = true := decide_eq_true (by rw [← HL.out]; exact c3)
        by_cases c4 : 0 ≤ x5
        · rw [if_pos c4] at H
          have c4b0 : decide (0 ≤ x5) = true := decide_eq_true c4
          obtain ⟨⟨b1, b2⟩, A3, H⟩ := Option.bind_eq_some_iff.mp H
          have A3 := Aside0.mk A3
          have H' := Aside0.mk (show laws_markPtSS.l0 k1 (x0.set (x5 : Int).toNat b2) b1 (wrap64 (x5 + 1)) = some (r1, r2) from H)
          clear H
          have q5 : x5 < (l0.length : Int) := by rw [← HL.out]; exact c3
          clear c3
          obtain ⟨go, co5, eo5, gb5, gl5, cl5, HG5⟩ := Kd.S_form HO.out (by have := HL.out; omega)
          (first | cases eo5 | (injection eo5 with ea_ en_ ec_; (first | subst ea_ | (injection ea_ with ea_; subst ea_)); subst ec_; clear en_))
          have GB := Aside0.mk gb5
          have GO := Aside0.mk (HO.out.choose_spec.1 go rfl)
          obtain ⟨oki, ce, hcl, hM, hcc, hfr, hoki, hH⟩ := Kd.S_elem HO.out ([] : List S73) x5 c4 q5
          obtain ⟨dv2, rfl, hR⟩ := hM
          obtain ⟨e0, he0⟩ : ∃ e0, e0 = x0.getD x5.toNat ([] : List S73) := ⟨_, rfl⟩
          rw [← he0] at hR
          have hx0 := hcc 0 _ rfl
          rw [show (Kd.slice 73 k73).sz = 1 from rfl] at hx0
          (try simp only [Nat.add_zero, Nat.mul_one] at hx0)
          have A3 := Aside0.mk (show laws_markPtS.f k1 e0 x1 = some (b1, b2) from by rw [he0]; exact A3.out)
          have HR := Aside0.mk hR
          have HH := Aside0.mk hH
          have HI := Aside0.mk hoki
          clear hH hcl hcc hfr hoki hR he0
          go_wp2_with (first | ((with_reducible refine gate_callee (f := 106) rfl ?_); refine goesL_ (some 17) rfl rfl Try.func106 (by kernel_rfl) rfl #[dv2, .int .i64 x1] rfl (by (try simp only [List.map_toArray, List.map_cons, List.map_nil]); first | done | rfl | (simp only [List.length_drop, List.length_take]; rfl)) ?_; (with_reducible refine (laws_markPtS.calls k1 (fun k_ => some k_ = dv2.ownBlock) dv2 e0 x1 b1 b2 w0 _ ?side1 ?side2 A3.out).mono ?_); (case side1 => repeat (first | (with_reducible first | exact HB.out | apply below_alloc | apply pw_below_drewN | apply below_drew1) | exact HB.out)); (case side2 => exact Kd.R_tight rfl (by (with_reducible repeat (first | apply Kd.R_alloc | apply Kd.R_drewN | apply Kd.R_drew)); exact HR.out)); rintro e w9 ⟨rfl, hy0, hb, hkp⟩; refine ⟨_, rfl, ?_⟩; have hM2 := (⟨dv2, rfl, Kd.R_reok rfl hy0 (fun k_ e_ => HR.out.1 k_ e_)⟩ : (Kd.slice 73 k73).M w9 w0.heap.size oki b2 [dv2]); have hH2 := Kd.H_step (w1 := w9) HH.out (fun k_ _ hn hlt => hkp.2 k_ hlt (fun e_ => hn (HR.out.1 k_ e_.symm))); have n0_ := Aside0.mk (show Kd.S (Kd.slice 73 k73) 134 w9 w0.heap.size (RowIn P1 w) (.slice (some ⟨go, 0, none⟩) l0.length co) (x0.set (x5 : Int).toNat b2) from by have h_ := Kd.H_back hH2 hM2 (fun _ h => h); exact h_); have n1_ := Aside0.mk (Kept.then_ (S := RowIn P1 w) (by repeat (first | (with_reducible first | exact HK.out | apply Kept.alloc | apply Kept.drewN | apply Kept.drew) | exact HK.out)) hkp (fun k_ hs_ => .inl (HI.out k_ (HR.out.1 k_ hs_.symm)).1)); have n2_ := Aside0.mk hb; clear HO HK HB HR HH HI hM2 hH2 hkp hb hy0 hx0; have HO := n0_; have HK := n1_; have HB := n2_; clear n0_ n1_ n2_))
          go_roundg k1
          case measure => have := HK1.out; omega
          case rel => exact ⟨(x0.set (x5 : Int).toNat b2), b1, (wrap64 (x5 + 1)), (by first | rfl | (simp; done) | (simp [*]; done)), (by first | rfl | (simp; done) | (simp [*]; done)), ⟨by rw [List.length_set]; exact HL.out⟩, H', ⟨by have := HK1.out; omega⟩, ⟨by (with_reducible repeat (first | apply Kd.S_alloc | apply Kd.S_drewN | apply Kd.S_drew)); exact HO.out⟩, ⟨by repeat (first | (with_reducible first | exact HK.out | apply Kept.alloc | apply Kept.drewN | apply Kept.drew) | exact HK.out)⟩, ⟨by repeat (first | (with_reducible first | exact HB.out | apply below_alloc | apply pw_below_drewN | apply below_drew1) | exact HB.out)⟩⟩
        · rw [if_neg c4] at H
          exact absurd H (by simp)
      · rw [if_neg c3] at H
        have c3b0 : decide (x5 < (l0.length : Int)) = false := decide_eq_false (by rw [← HL.out]; exact c3)
        simp only [Option.some.injEq, Prod.mk.injEq] at H
        obtain ⟨rfl, rfl⟩ := H
        go_wp2
        go_ret
        exact ⟨by first | rfl | (simp [errW_none, errW_some] <;> rfl) | (simp [*, errW_none, errW_some] <;> rfl), Kd.S_mono (ok := RowIn P1 w) (by (with_reducible repeat (first | apply Kd.S_alloc | apply Kd.S_drewN | apply Kd.S_drew)); exact HO.out) (fun _ hk => hk.1), HL.out, by repeat (first | (with_reducible first | exact HB.out | apply below_alloc | apply pw_below_drewN | apply below_drew1) | exact HB.out), by repeat (first | (with_reducible first | exact HK.out | apply Kept.alloc | apply Kept.drewN | apply Kept.drew) | exact HK.out)⟩

/-! ### laws_markEntryS: function 38 (my own contract) -/
/-! The weak marks: what is told is the shape alone (whole numbers where whole numbers are, headers as they were), and where the blocks lie. -/
def IntC (w : World) (g o : Nat) : Prop := (∃ n, w.cell? ⟨g, o, none⟩ = some (.int .i64 n)) ∧ w.frozen? ⟨g, o, none⟩ = false
def Ovr (w w' : World) : Prop := (∀ g o, IntC w g o → IntC w' g o) ∧ ∀ g o A n c, w.cell? ⟨g, o, none⟩ = some (.slice A n c) → w'.cell? ⟨g, o, none⟩ = some (.slice A n c)
theorem Ovr.refl (w : World) : Ovr w w := ⟨fun _ _ h => h, fun _ _ _ _ _ h => h⟩
theorem Ovr.trans {w w1 w2 : World} (h : Ovr w w1) (k : Ovr w1 w2) : Ovr w w2 := ⟨fun g o x => k.1 g o (h.1 g o x), fun g o A n c x => k.2 g o A n c (h.2 g o A n c x)⟩
theorem Ovr.drew {w w1 : World} (h : Ovr w w1) : Ovr w w1.drew := h
theorem Ovr.drewN {w w1 : World} (h : Ovr w w1) (m : Nat) : Ovr w (w1.drewN m) := h
theorem Ovr.set {w w1 : World} (h : Ovr w w1) {g o : Nat} (hc : IntC w g o) (n : Int) : Ovr w (w1.setCell ⟨g, o, none⟩ (.int .i64 n)) := by
  have hc1 := h.1 g o hc
  refine h.trans ⟨fun g' o' x => ?_, fun g' o' A m c x => ?_⟩
  · obtain ⟨⟨m, hm⟩, hf⟩ := x
    refine ⟨?_, by rw [World.frozen?_setCell]; exact hf⟩
    by_cases e : (⟨g, o, none⟩ : Addr) = ⟨g', o', none⟩
    · rw [← e]; exact ⟨n, World.cell?_setCell_same _ _ _ hc1.1.choose_spec⟩
    · exact ⟨m, by rw [World.cell?_setCell_other _ _ _ _ e]; exact hm⟩
  · by_cases e : (⟨g, o, none⟩ : Addr) = ⟨g', o', none⟩
    · rw [← e, hc1.1.choose_spec] at x; cases x
    · rw [World.cell?_setCell_other _ _ _ _ e]; exact x
/-- A row of points. -/
def PtSh (Q : Nat → Prop) (w : World) (v : Value) (n : Nat) : Prop := ∃ A c, v = .slice A n c ∧ (0 < n → ∃ g, A = some ⟨g, 0, none⟩ ∧ Q g ∧ ∀ i, i < n → IntC w g (i * 2) ∧ IntC w g (i * 2 + 1))
/-- A row of rings. -/
def RgSh (Q : Nat → Prop) (w : World) (v : Value) (ns : List Nat) : Prop := ∃ A c, v = .slice A ns.length c ∧ (0 < ns.length → ∃ g, A = some ⟨g, 0, none⟩ ∧ ∀ i n, ns[i]? = some n → ∃ u, w.cell? ⟨g, i, none⟩ = some u ∧ PtSh Q w u n)
/-- A row of entries. -/
def EnSh (Q : Nat → Prop) (w : World) (v : Value) (ss : List (List Nat)) : Prop := ∃ A c, v = .slice A ss.length c ∧ (0 < ss.length → ∃ g, A = some ⟨g, 0, none⟩ ∧ Q g ∧ ∀ i ns, ss[i]? = some ns → IntC w g (i * 3) ∧ IntC w g (i * 3 + 1) ∧ ∃ u, w.cell? ⟨g, i * 3 + 2, none⟩ = some u ∧ RgSh Q w u ns)
theorem PtSh.step {Q : Nat → Prop} {w w' : World} {v : Value} {n : Nat} (h : PtSh Q w v n) (o : Ovr w w') : PtSh Q w' v n := by
  obtain ⟨A, c, e, h⟩ := h
  refine ⟨A, c, e, fun hn => ?_⟩
  obtain ⟨g, e2, hq, h⟩ := h hn
  exact ⟨g, e2, hq, fun i hi => ⟨o.1 _ _ (h i hi).1, o.1 _ _ (h i hi).2⟩⟩
theorem RgSh.step {Q : Nat → Prop} {w w' : World} {v : Value} {ns : List Nat} (h : RgSh Q w v ns) (o : Ovr w w') : RgSh Q w' v ns := by
  obtain ⟨A, c, e, h⟩ := h
  refine ⟨A, c, e, fun hn => ?_⟩
  obtain ⟨g, e2, h⟩ := h hn
  refine ⟨g, e2, fun i n hi => ?_⟩
  obtain ⟨u, hu, hp⟩ := h i n hi
  obtain ⟨A', c', e', hp'⟩ := hp
  subst e'
  exact ⟨_, o.2 _ _ _ _ _ hu, PtSh.step ⟨A', c', rfl, hp'⟩ o⟩
theorem EnSh.step {Q : Nat → Prop} {w w' : World} {v : Value} {ss : List (List Nat)} (h : EnSh Q w v ss) (o : Ovr w w') : EnSh Q w' v ss := by
  obtain ⟨A, c, e, h⟩ := h
  refine ⟨A, c, e, fun hn => ?_⟩
  obtain ⟨g, e2, hq, h⟩ := h hn
  refine ⟨g, e2, hq, fun i ns hi => ?_⟩
  obtain ⟨h1, h2, u, hu, hp⟩ := h i ns hi
  obtain ⟨A', c', e', hp'⟩ := hp
  subst e'
  exact ⟨o.1 _ _ h1, o.1 _ _ h2, _, o.2 _ _ _ _ _ hu, RgSh.step ⟨A', c', rfl, hp'⟩ o⟩
theorem PtSh.of_R {Q : Nat → Prop} {w : World} {base : Nat} {ok : Nat → Prop} {v : Value} {l : List S73} (h : Kd.R k73 73 w base ok v l) (hq : ∀ k, ok k → Q k) : PtSh Q w v l.length := by
  obtain ⟨A, c, e⟩ := Kd.R_slice h
  subst e
  refine ⟨A, c, rfl, fun hn => ?_⟩
  obtain ⟨go, co, eo, gb, gl, cl, HG⟩ := Kd.R_form h hn
  have ea : A = some ⟨go, 0, none⟩ := by injection eo
  subst ea
  refine ⟨go, rfl, hq _ (h.1 go rfl), fun i hi => ?_⟩
  obtain ⟨ce, hcl, hM, hcc, hfr⟩ := Kd.R_elem h z73 (i : Int) (by omega) (by omega)
  have ec := k73_openM hM
  subst ec
  have h0 := hcc 0 _ rfl
  have h1 := hcc 1 _ rfl
  have f0 := hfr 0
  have f1 := hfr 1
  rw [show (k73).sz = 2 from rfl, Int.toNat_natCast] at h0 h1 f0 f1
  exact ⟨⟨⟨_, h0⟩, f0⟩, ⟨⟨_, h1⟩, f1⟩⟩
theorem RgSh.of_R {Q : Nat → Prop} {w : World} {base : Nat} {ok : Nat → Prop} {v : Value} {l : List (List S73)} (h : Kd.R (Kd.slice 73 k73) 134 w base ok v l) (hq : ∀ k, ok k → Q k) : RgSh Q w v (l.map List.length) := by
  obtain ⟨A, c, e⟩ := Kd.R_slice h
  subst e
  refine ⟨A, c, by rw [List.length_map], fun hn => ?_⟩
  rw [List.length_map] at hn
  obtain ⟨go, co, eo, gb, gl, cl, HG⟩ := Kd.R_form h hn
  have ea : A = some ⟨go, 0, none⟩ := by injection eo
  subst ea
  refine ⟨go, rfl, fun i n hi => ?_⟩
  rw [List.getElem?_map] at hi
  obtain ⟨x, hx, rfl⟩ := Option.map_eq_some_iff.1 hi
  have hil := (List.getElem?_eq_some_iff.1 hx).1
  obtain ⟨ce, hcl, hM, hcc, hfr⟩ := Kd.R_elem h ([] : List S73) (i : Int) (by omega) (by omega)
  obtain ⟨dv, ec, hR⟩ := hM
  subst ec
  have h0 := hcc 0 _ rfl
  rw [show (Kd.slice 73 k73).sz = 1 from rfl, Int.toNat_natCast, Nat.mul_one, Nat.add_zero] at h0
  rw [Int.toNat_natCast, List.getD_eq_getElem?_getD, hx] at hR
  exact ⟨dv, h0, PtSh.of_R hR (fun k hk => hq k hk.1)⟩
theorem EnSh.of_R {Q : Nat → Prop} {w : World} {base : Nat} {ok : Nat → Prop} {v : Value} {l : List S106} (h : Kd.R k106 106 w base ok v l) (hq : ∀ k, ok k → Q k) : EnSh Q w v (l.map fun x => x.f1.f1.map List.length) := by
  obtain ⟨A, c, e⟩ := Kd.R_slice h
  subst e
  refine ⟨A, c, by rw [List.length_map], fun hn => ?_⟩
  rw [List.length_map] at hn
  obtain ⟨go, co, eo, gb, gl, cl, HG⟩ := Kd.R_form h hn
  have ea : A = some ⟨go, 0, none⟩ := by injection eo
  subst ea
  refine ⟨go, rfl, hq _ (h.1 go rfl), fun i ns hi => ?_⟩
  rw [List.getElem?_map] at hi
  obtain ⟨x, hx, rfl⟩ := Option.map_eq_some_iff.1 hi
  have hil := (List.getElem?_eq_some_iff.1 hx).1
  obtain ⟨ce, hcl, hM, hcc, hfr⟩ := Kd.R_elem h z106 (i : Int) (by omega) (by omega)
  obtain ⟨dv, ec, hR⟩ := k106_openM hM
  subst ec
  have h0 := hcc 0 _ rfl
  have h1 := hcc 1 _ rfl
  have h2 := hcc 2 _ rfl
  have f0 := hfr 0
  have f1 := hfr 1
  rw [show (k106).sz = 3 from rfl, Int.toNat_natCast] at h0 h1 h2 f0 f1
  rw [Int.toNat_natCast, List.getD_eq_getElem?_getD, hx] at hR
  exact ⟨⟨⟨_, h0⟩, f0⟩, ⟨⟨_, h1⟩, f1⟩, dv, h2, RgSh.of_R hR (fun k hk => hq k hk.1)⟩
/-- The count behind n points, behind rings, behind entries. -/
def cntP (a : Int) : Nat → Int
  | 0 => a
  | n + 1 => wrap64 (wrap64 (cntP a n + 1) + 1)
def cntR (a : Int) : List Nat → Int
  | [] => a
  | n :: r => cntR (cntP a n) r
def cntE (a : Int) : List (List Nat) → Int
  | [] => a
  | ns :: r => cntE (cntR (wrap64 (wrap64 (a + 1) + 1)) ns) r
theorem cntR_snoc (a : Int) : ∀ (l : List Nat) (n : Nat), cntR a (l ++ [n]) = cntP (cntR a l) n
  | [], n => rfl
  | m :: l, n => cntR_snoc (cntP a m) l n
theorem cntE_snoc (a : Int) : ∀ (l : List (List Nat)) (n : List Nat), cntE a (l ++ [n]) = cntR (wrap64 (wrap64 (cntE a l + 1) + 1)) n
  | [], n => rfl
  | m :: l, n => cntE_snoc _ l n
def lensOf (l : List S106) : List (List Nat) := l.map fun x => x.f1.f1.map List.length
def smallE (ss : List (List Nat)) : Bool := decide (ss.length ≤ 1073741824) && ss.all fun ns => decide (ns.length ≤ 1073741824) && ns.all fun n => decide (n ≤ 1073741824)
def laws_markEntryS.f (k : Nat) (l0 : List S106) (a1 : Int) : Option Int := if smallE (lensOf l0) = true then some (cntE a1 (lensOf l0)) else none
theorem laws_markEntryS.mono : ∀ a0 a1 k, LeO (laws_markEntryS.f k a0 a1) (laws_markEntryS.f (k + 1) a0 a1) := fun _ _ _ => LeO.refl _
set_option maxHeartbeats 8000000 in
set_option maxRecDepth 100000 in
theorem markPtS_weak (Q : Nat → Prop) (v : Value) (n : Nat) (a1 : Int) (w0 w : World) (hn : n ≤ 1073741824) (hB : Below w0.heap.size w0 w) (hQ : ∀ k, Q k → w0.heap.size ≤ k) (hs : PtSh Q w v n) :
    Calls Try.prog 106 #[v, .int .i64 a1] w fun e w' => e = .returned (.int .i64 (cntP a1 n)) ∧ Ovr w w' ∧ Kept w w' Q ∧ Below w0.heap.size w0 w' := by
  obtain ⟨A, c, rfl, hs⟩ := hs
  have HS := Aside0.mk hs
  have HQ := Aside0.mk hQ
  have HN := Aside0.mk hn
  have HB := Aside0.mk hB
  have HO := Aside0.mk (Ovr.refl w)
  have HK := Aside0.mk (Kept.refl w Q)
  clear hs hQ hn hB
  go_enter Try.func106, Try.ntmps106
  go_wp2
  go_loopg [1, 5] (n + 1) (fun kq v1 v5 w' => ∃ (i : Nat) (x1 : Int) (x5 : Int), v1 = .int .i64 x1 ∧ v5 = .int .i64 x5 ∧ Aside0 (x1 = cntP a1 i ∧ x5 = (i : Int) ∧ i + kq = n + 1 ∧ i ≤ n) ∧ Aside0 (kq ≤ n + 1) ∧ Aside0 (Ovr w w') ∧ Aside0 (Kept w w' Q) ∧ Aside0 (Below w0.heap.size w0 w'))
  case atStart => exact ⟨0, a1, 0, rfl, rfl, ⟨rfl, rfl, by omega, by omega⟩, ⟨Nat.le_refl _⟩, ⟨HO.out⟩, ⟨HK.out⟩, ⟨HB.out⟩⟩
  case round =>
    try clear p2
    clear HO HK HB
    obtain ⟨i, x1, x5, rfl, rfl, HI, HK1, HO, HK, HB⟩ := hrel
    cases gk with
    | zero => exact absurd HI.out (fun h => by obtain ⟨_, _, h, h2⟩ := h; omega)
    | succ k1 =>
      by_cases c3 : i < n
      · have c3b0 : decide (x5 < (n : Int)) = true := decide_eq_true (by have := HI.out.2.1; omega)
        have c4b0 : decide (0 ≤ x5) = true := decide_eq_true (by have := HI.out.2.1; omega)
        have p5 : (0 ≤ x5) = True := eq_true (of_decide_eq_true c4b0)
        have q5 : (x5 < (n : Int)) = True := eq_true (of_decide_eq_true c3b0)
        obtain ⟨g, eA, hq, hc⟩ := HS.out (by omega)
        subst eA
        have hi := hc i c3
        rw [show i = x5.toNat by have := HI.out.2.1; omega] at hi
        have HC0 := Aside0.mk hi.1
        have HC1 := Aside0.mk hi.2
        have HG := Aside0.mk hq
        clear hi hc hq c3
        obtain ⟨⟨m0, hx0⟩, hf0⟩ := HO.out.1 _ _ HC0.out
        obtain ⟨⟨m1, hx1⟩, hf1⟩ := HO.out.1 _ _ HC1.out
        go_wp2_with (first | ((with_reducible refine gate_store (t := 3) (p := 16) rfl ?_); refine store_event (t := 3) (p := 16) (v := ?vo_w8) (w1 := (wr.setCell ⟨g, x5.toNat * 2, none⟩ (.int .i64 x1))) ?hg ?ho ?hn ?hr ?_; (case ho => rfl); (case hg => rfl); (case hn => rfl); (case hr => first | (go_simp; done) | (go_simp; rfl)); intro w8 hw; have n0_ := Aside0.mk (show Ovr w w8 from by rw [hw]; exact HO.out.set HC0.out x1); have n1_ := Aside0.mk (show Kept w w8 Q from by rw [hw]; exact HK.out.setCell (.inl HG.out) _); have n2_ := Aside0.mk (show Below w0.heap.size w0 w8 from by rw [hw]; exact below_set HB.out (HQ.out _ HG.out)); clear HO HK HB hx0 hf0 hx1 hf1; have HO := n0_; have HK := n1_; have HB := n2_; clear n0_ n1_ n2_ hw; obtain ⟨⟨m2, hx1⟩, hf1⟩ := HO.out.1 _ _ HC1.out))
        go_roundg k1
        case measure => have := HK1.out; omega
        case rel => exact ⟨i + 1, wrap64 (wrap64 (x1 + 1) + 1), wrap64 (x5 + 1), (by first | rfl | (simp; done) | (simp [*]; done)), (by first | rfl | (simp; done) | (simp [*]; done)), ⟨by rw [HI.out.1]; rfl, by have := HI.out.2.1; have := HN.out; have := HI.out.2.2.2; unfold wrap64; omega, by have := HI.out.2.2.1; omega, by have := HI.out.2.1; have := of_decide_eq_true c3b0; omega⟩, ⟨by have := HK1.out; omega⟩, ⟨HO.out.set HC1.out _⟩, ⟨HK.out.setCell (.inl HG.out) _⟩, ⟨below_set HB.out (HQ.out _ HG.out)⟩⟩
      · have c3b0 : decide (x5 < (n : Int)) = false := decide_eq_false (by have := HI.out.2.1; omega)
        have ex : x1 = cntP a1 n := by rw [HI.out.1]; congr 1; have := HI.out.2.2.2; omega
        have HX := Aside0.mk ex
        clear ex
        go_wp2
        go_ret
        exact ⟨by rw [HX.out]; first | rfl | (simp; done) | (simp [*]; done), HO.out, HK.out, HB.out⟩
set_option maxHeartbeats 8000000 in
set_option maxRecDepth 100000 in
theorem markPtSS_weak (Q : Nat → Prop) (v : Value) (ns : List Nat) (a1 : Int) (w0 w : World) (hn : ns.length ≤ 1073741824) (hns : ∀ n ∈ ns, n ≤ 1073741824) (hB : Below w0.heap.size w0 w) (hQ : ∀ k, Q k → w0.heap.size ≤ k) (hs : RgSh Q w v ns) :
    Calls Try.prog 81 #[v, .int .i64 a1] w fun e w' => e = .returned (.int .i64 (cntR a1 ns)) ∧ Ovr w w' ∧ Kept w w' Q ∧ Below w0.heap.size w0 w' := by
  obtain ⟨A, c, rfl, hs⟩ := hs
  have HS := Aside0.mk hs
  have HQ := Aside0.mk hQ
  have HN := Aside0.mk hn
  have HM := Aside0.mk hns
  have HB := Aside0.mk hB
  have HO := Aside0.mk (Ovr.refl w)
  have HK := Aside0.mk (Kept.refl w Q)
  clear hs hQ hn hB hns
  go_enter Try.func81, Try.ntmps81
  go_wp2
  go_loopg [1, 5] (ns.length + 1) (fun kq v1 v5 w' => ∃ (i : Nat) (x1 : Int) (x5 : Int), v1 = .int .i64 x1 ∧ v5 = .int .i64 x5 ∧ Aside0 (x1 = cntR a1 (ns.take i) ∧ x5 = (i : Int) ∧ i + kq = ns.length + 1 ∧ i ≤ ns.length) ∧ Aside0 (kq ≤ ns.length + 1) ∧ Aside0 (Ovr w w') ∧ Aside0 (Kept w w' Q) ∧ Aside0 (Below w0.heap.size w0 w'))
  case atStart => exact ⟨0, a1, 0, rfl, rfl, ⟨rfl, rfl, by omega, by omega⟩, ⟨Nat.le_refl _⟩, ⟨HO.out⟩, ⟨HK.out⟩, ⟨HB.out⟩⟩
  case round =>
    try clear p2
    clear HO HK HB
    obtain ⟨i, x1, x5, rfl, rfl, HI, HK1, HO, HK, HB⟩ := hrel
    cases gk with
    | zero => exact absurd HI.out (fun h => by obtain ⟨_, _, h, h2⟩ := h; omega)
    | succ k1 =>
      by_cases c3 : i < ns.length
      · have c3b0 : decide (x5 < (ns.length : Int)) = true := decide_eq_true (by have := HI.out.2.1; omega)
        have c4b0 : decide (0 ≤ x5) = true := decide_eq_true (by have := HI.out.2.1; omega)
        have p5 : (0 ≤ x5) = True := eq_true (of_decide_eq_true c4b0)
        have q5 : (x5 < (ns.length : Int)) = True := eq_true (of_decide_eq_true c3b0)
        obtain ⟨g, eA, hc⟩ := HS.out (by omega)
        subst eA
        obtain ⟨n, hni⟩ : ∃ n, ns[i]? = some n := ⟨_, List.getElem?_eq_getElem c3⟩
        obtain ⟨u, hu, hp⟩ := hc i n hni
        obtain ⟨A', c', rfl, hp'⟩ := hp
        have HP := Aside0.mk (PtSh.step ⟨A', c', rfl, hp'⟩ HO.out)
        have hx0 := HO.out.2 _ _ _ _ _ hu
        rw [show i = x5.toNat by have := HI.out.2.1; omega] at hx0
        have HE := Aside0.mk hni
        have HNI := Aside0.mk (HM.out n (List.mem_of_getElem? hni))
        clear hc hu hp' hni c3
        go_wp2_with (first | ((with_reducible refine gate_callee (f := 106) rfl ?_); refine goesL_ (some 17) rfl rfl Try.func106 (by kernel_rfl) rfl #[.slice A' n c', .int .i64 x1] rfl (by (try simp only [List.map_toArray, List.map_cons, List.map_nil]); first | done | rfl | (simp only [List.length_drop, List.length_take]; rfl)) ?_; (with_reducible refine (markPtS_weak Q (.slice A' n c') n x1 w0 _ ?side0 ?side1 ?side2 ?side3).mono ?_); (case side0 => exact HNI.out); (case side1 => repeat (first | (with_reducible first | exact HB.out | apply below_alloc | apply pw_below_drewN | apply below_drew1) | exact HB.out)); (case side2 => exact HQ.out); (case side3 => exact HP.out); rintro e w9 ⟨rfl, ho, hkp, hb⟩; refine ⟨_, rfl, ?_⟩; have n0_ := Aside0.mk (show Ovr w w9 from HO.out.trans ho); have n1_ := Aside0.mk (show Kept w w9 Q from Kept.then_ HK.out hkp (fun _ h_ => .inl h_)); have n2_ := Aside0.mk (show Below w0.heap.size w0 w9 from hb); clear HO HK HB HP hx0 ho hkp hb; have HO := n0_; have HK := n1_; have HB := n2_; clear n0_ n1_ n2_))
        go_roundg k1
        case measure => have := HK1.out; omega
        case rel => exact ⟨i + 1, cntP x1 n, wrap64 (x5 + 1), (by first | rfl | (simp; done) | (simp [*]; done)), (by first | rfl | (simp; done) | (simp [*]; done)), ⟨by rw [HI.out.1, ← cntR_snoc]; congr 1; rw [List.take_add_one, HE.out]; rfl, by have := HI.out.2.1; have := HN.out; have := HI.out.2.2.2; unfold wrap64; omega, by have := HI.out.2.2.1; omega, by have := HI.out.2.1; have := of_decide_eq_true c3b0; omega⟩, ⟨by have := HK1.out; omega⟩, ⟨HO.out⟩, ⟨HK.out⟩, ⟨HB.out⟩⟩
      · have c3b0 : decide (x5 < (ns.length : Int)) = false := decide_eq_false (by have := HI.out.2.1; omega)
        have ex : x1 = cntR a1 ns := by rw [HI.out.1]; congr 1; exact List.take_of_length_le (by omega)
        have HX := Aside0.mk ex
        clear ex
        go_wp2
        go_ret
        exact ⟨by rw [HX.out]; first | rfl | (simp; done) | (simp [*]; done), HO.out, HK.out, HB.out⟩
/-- Where the entries' rows may lie. -/
def EntIn (P : Nat → Prop) (base : Nat) (w : World) (k : Nat) : Prop := P k ∧ base ≤ k ∧ k < w.heap.size ∧ ∃ q, q ∈ 106 :: k106.E ∧ ∃ cells, w.heap[k]? = some (.cells cells q (0, 0))
theorem EntIn.ne {P : Nat → Prop} {base : Nat} {w : World} {g t : Nat} {cells : Array Value} (hb : w.heap[g]? = some (.cells cells t (0, 0))) (ht : ∀ q, q ∈ 106 :: k106.E → q ≠ t) : ¬ EntIn P base w g := by
  rintro ⟨_, _, _, q, hq, cells', hc⟩
  rw [hc] at hb
  injection hb with hb
  injection hb with _ hb
  exact ht q hq hb
set_option maxHeartbeats 8000000 in
set_option maxRecDepth 100000 in
theorem laws_markEntryS.calls (k : Nat) (P1 : Nat → Prop) (u1 : Value) (l0 : List S106) (a1 r1 : Int) (w0 w : World) (hB : Below w0.heap.size w0 w) (ho : Kd.R k106 106 w w0.heap.size P1 u1 l0) (h : laws_markEntryS.f k l0 a1 = some r1) :
    Calls Try.prog 38 #[u1, .int .i64 a1] w fun e w' => e = .returned (.int .i64 r1) ∧ Below w0.heap.size w0 w' ∧ Kept w w' (EntIn P1 w0.heap.size w) := by
  have hs := EnSh.of_R (Q := EntIn P1 w0.heap.size w) (Kd.R_bound ho) (fun k hk => hk)
  unfold laws_markEntryS.f at h
  rw [show (l0.map fun x => x.f1.f1.map List.length) = lensOf l0 from rfl] at hs
  generalize lensOf l0 = ss at h hs
  have hQ : ∀ k, EntIn P1 w0.heap.size w k → w0.heap.size ≤ k := fun k hk => hk.2.1
  generalize hQe : EntIn P1 w0.heap.size w = Q at hs hQ ⊢
  by_cases hsm : smallE ss = true
  · rw [if_pos hsm] at h
    obtain rfl := Option.some.inj h
    unfold smallE at hsm
    simp only [Bool.and_eq_true, List.all_eq_true, decide_eq_true_eq] at hsm
    obtain ⟨A, c, rfl, hs⟩ := hs
    have HS := Aside0.mk hs
    have HQ := Aside0.mk hQ
    have HN := Aside0.mk hsm.1
    have HM := Aside0.mk hsm.2
    have HB := Aside0.mk hB
    have HO := Aside0.mk (Ovr.refl w)
    have HK := Aside0.mk (Kept.refl w Q)
    clear hs hQ hsm hB h ho hQe
    go_enter Try.func38, Try.ntmps38
    go_wp2
    go_loopg [1, 5] (ss.length + 1) (fun kq v1 v5 w' => ∃ (i : Nat) (x1 : Int) (x5 : Int), v1 = .int .i64 x1 ∧ v5 = .int .i64 x5 ∧ Aside0 (x1 = cntE a1 (ss.take i) ∧ x5 = (i : Int) ∧ i + kq = ss.length + 1 ∧ i ≤ ss.length) ∧ Aside0 (kq ≤ ss.length + 1) ∧ Aside0 (Ovr w w') ∧ Aside0 (Kept w w' Q) ∧ Aside0 (Below w0.heap.size w0 w'))
    case atStart => exact ⟨0, a1, 0, rfl, rfl, ⟨rfl, rfl, by omega, by omega⟩, ⟨Nat.le_refl _⟩, ⟨HO.out⟩, ⟨HK.out⟩, ⟨HB.out⟩⟩
    case round =>
      try clear p2
      clear HO HK HB
      obtain ⟨i, x1, x5, rfl, rfl, HI, HK1, HO, HK, HB⟩ := hrel
      cases gk with
      | zero => exact absurd HI.out (fun h => by obtain ⟨_, _, h, h2⟩ := h; omega)
      | succ k1 =>
        by_cases c3 : i < ss.length
        · have c3b0 : decide (x5 < (ss.length : Int)) = true := decide_eq_true (by have := HI.out.2.1; omega)
          have c4b0 : decide (0 ≤ x5) = true := decide_eq_true (by have := HI.out.2.1; omega)
          have p5 : (0 ≤ x5) = True := eq_true (of_decide_eq_true c4b0)
          have q5 : (x5 < (ss.length : Int)) = True := eq_true (of_decide_eq_true c3b0)
          obtain ⟨g, eA, hq, hc⟩ := HS.out (by omega)
          subst eA
          obtain ⟨ns, hni⟩ : ∃ n, ss[i]? = some n := ⟨_, List.getElem?_eq_getElem c3⟩
          obtain ⟨hi0, hi1, u, hu, hp⟩ := hc i ns hni
          obtain ⟨A', c', rfl, hp'⟩ := hp
          have HP := Aside0.mk (show RgSh Q w (.slice A' ns.length c') ns from ⟨A', c', rfl, hp'⟩)
          rw [show i = x5.toNat by have := HI.out.2.1; omega] at hu hi0 hi1
          have HC0 := Aside0.mk hi0
          have HC1 := Aside0.mk hi1
          have HU := Aside0.mk hu
          have HG := Aside0.mk hq
          have HE := Aside0.mk hni
          have HNI := Aside0.mk (HM.out ns (List.mem_of_getElem? hni))
          clear hc hu hp' hni c3 hi0 hi1 hq
          obtain ⟨⟨m0, hx0⟩, hf0⟩ := HO.out.1 _ _ HC0.out
          obtain ⟨⟨m1, hx1⟩, hf1⟩ := HO.out.1 _ _ HC1.out
          have hx2 := HO.out.2 _ _ _ _ _ HU.out
          have HO2 := Aside0.mk ((HO.out.set HC0.out x1).set HC1.out (wrap64 (x1 + 1)))
          have HK2 := Aside0.mk (Kept.setCell (Kept.setCell HK.out (p := ⟨g, x5.toNat * 3, none⟩) (.inl HG.out) (.int .i64 x1)) (p := ⟨g, x5.toNat * 3 + 1, none⟩) (.inl HG.out) (.int .i64 (wrap64 (x1 + 1))))
          have HB2 := Aside0.mk (below_set (g := g) (j := x5.toNat * 3 + 1) (v := .int .i64 (wrap64 (x1 + 1))) (below_set (g := g) (j := x5.toNat * 3) (v := .int .i64 x1) HB.out (HQ.out _ HG.out)) (HQ.out _ HG.out))
          go_wp2_with (first | ((with_reducible refine gate_callee (f := 81) rfl ?_); refine goesL_ (some 34) rfl rfl Try.func81 (by kernel_rfl) rfl #[.slice A' ns.length c', .int .i64 (wrap64 (wrap64 (x1 + 1) + 1))] rfl (by (try simp only [List.map_toArray, List.map_cons, List.map_nil]); first | done | rfl | (simp only [List.length_drop, List.length_take]; rfl)) ?_; (with_reducible refine (markPtSS_weak Q (.slice A' ns.length c') ns (wrap64 (wrap64 (x1 + 1) + 1)) w0 _ ?side0 ?side0b ?side1 ?side2 ?side3).mono ?_); (case side0 => exact HNI.out.1); (case side0b => exact HNI.out.2); (case side1 => exact HB2.out); (case side2 => exact HQ.out); (case side3 => exact RgSh.step HP.out HO2.out); rintro e w10 ⟨rfl, ho, hkp, hb⟩; refine ⟨_, rfl, ?_⟩; have n0_ := Aside0.mk (show Ovr w w10 from HO2.out.trans ho); have n1_ := Aside0.mk (show Kept w w10 Q from Kept.then_ HK2.out hkp (fun _ h_ => .inl h_)); have n2_ := Aside0.mk (show Below w0.heap.size w0 w10 from hb); clear HO HK HB HO2 HK2 HB2 HP hx2 ho hkp hb; have HO := n0_; have HK := n1_; have HB := n2_; clear n0_ n1_ n2_))
          go_roundg k1
          case measure => have := HK1.out; omega
          case rel => exact ⟨i + 1, cntR (wrap64 (wrap64 (x1 + 1) + 1)) ns, wrap64 (x5 + 1), (by first | rfl | (simp; done) | (simp [*]; done)), (by first | rfl | (simp; done) | (simp [*]; done)), ⟨by rw [HI.out.1, ← cntE_snoc]; congr 1; rw [List.take_add_one, HE.out]; rfl, by have := HI.out.2.1; have := HN.out; have := HI.out.2.2.2; unfold wrap64; omega, by have := HI.out.2.2.1; omega, by have := HI.out.2.1; have := of_decide_eq_true c3b0; omega⟩, ⟨by have := HK1.out; omega⟩, ⟨HO.out⟩, ⟨HK.out⟩, ⟨HB.out⟩⟩
        · have c3b0 : decide (x5 < (ss.length : Int)) = false := decide_eq_false (by have := HI.out.2.1; omega)
          have ex : x1 = cntE a1 ss := by rw [HI.out.1]; congr 1; exact List.take_of_length_le (by omega)
          have HX := Aside0.mk ex
          clear ex
          go_wp2
          go_ret
          exact ⟨by rw [HX.out]; first | rfl | (simp; done) | (simp [*]; done), HB.out, HK.out⟩
  · rw [if_neg hsm] at h; cases h


end Go.Proofs.Ytinilabmffjnaaa.PFnExactFind
