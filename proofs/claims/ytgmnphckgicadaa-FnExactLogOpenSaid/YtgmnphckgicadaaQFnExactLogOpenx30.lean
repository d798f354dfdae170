/- Functions that the law reaches, with their contracts. -/
import Derived.Test.YtgmnphckgicadaaQFnExactLogOpenx7
namespace Go.Proofs.Ytgmnphckgicadaa.PFnExactLogOpen
open Go.RowKit Go.Proofs.YtgmnphckgicadaaW.PrintWords Go.Proofs.YtgmnphckgicadaaW.PrintLast Go.Proofs.YtgmnphckgicadaaW.PrintMore
attribute [local go_sem] max2_int min2_int max_two min_two max_three min_three max_four min_four
set_option linter.unusedVariables false
set_option linter.unusedSimpArgs false

/-- laws.markByteSS: each ring's points are marked in turn; what else there is stays. -/
def laws_markByteSS.l0 : Nat → List (List Int) → Int → Int → Option (Int × List (List Int))
 | 0, _, _, _ => none
 | k + 1, x0, x1, x5 => if x5 < (x0.length : Int) then (if 0 ≤ x5 then ((laws_markByteS.f k (x0.getD (x5 : Int).toNat ([] : List Int)) x1).bind fun bt => laws_markByteSS.l0 k (x0.set (x5 : Int).toNat bt.2) bt.1 (wrap64 (x5 + 1))) else none) else some (x1, x0)
def laws_markByteSS.f (k : Nat) (l0 : List (List Int)) (a1 : Int) : Option (Int × List (List Int)) := laws_markByteSS.l0 k l0 a1 0
/-- Where such a row may lie: in the blocks of P that hold writes or bytes. -/
def RowInB (P : Nat → Prop) (w : World) (k : Nat) : Prop := P k ∧ k < w.heap.size ∧ ∃ q, q ∈ 22 :: (Kd.slice 5 (Kd.int .u8)).E ∧ ∃ cells, w.heap[k]? = some (.cells cells q (0, 0))
theorem RowInB.of_S {w : World} {base : Nat} {P : Nat → Prop} {v : Value} {xs : List (List Int)} (h : Kd.S (Kd.slice 5 (Kd.int .u8)) 22 w base P v xs) : Kd.S (Kd.slice 5 (Kd.int .u8)) 22 w base (RowInB P w) v xs :=
 Kd.S_mono (Kd.S_bound h) (fun _ hk => ⟨hk.1, hk.2.2.1, hk.2.2.2⟩)
theorem RowInB.ne {P : Nat → Prop} {w : World} {g t : Nat} {cells : Array Value} (hb : w.heap[g]? = some (.cells cells t (0, 0))) (ht : ∀ q, q ∈ 22 :: (Kd.slice 5 (Kd.int .u8)).E → q ≠ t) : ¬ RowInB P w g := by
 rintro ⟨_, _, q, hq, cells', hc⟩
 rw [hc] at hb
 injection hb with hb
 injection hb with _ hb
 exact ht q hq hb
set_option maxHeartbeats 8000000 in
set_option maxRecDepth 100000 in
theorem laws_markByteSS.calls (k : Nat) (P1 : Nat → Prop) (u1 : Value) (l0 : List (List Int)) (a1 : Int) (r1 : Int) (r2 : List (List Int)) (w0 w : World) (hB : Below w0.heap.size w0 w) (ho0 : Kd.S (Kd.slice 5 (Kd.int .u8)) 22 w w0.heap.size P1 u1 l0) (h : laws_markByteSS.f k l0 a1 = some (r1, r2)) :
  Calls Try.prog 23 #[u1, .int .i64 a1] w fun e w' => e = .returned (.int .i64 r1) ∧ Kd.S (Kd.slice 5 (Kd.int .u8)) 22 w' w0.heap.size P1 u1 r2 ∧ r2.length = l0.length ∧ Below w0.heap.size w0 w' ∧ Kept w w' (RowInB P1 w) := by
 have HO := Ak (RowInB.of_S ho0)
 have HB := Ak hB
 have HK := Ak (Kept.refl w (RowInB P1 w))
 have H' := Ak (show laws_markByteSS.l0 k l0 a1 0 = some (r1, r2) from h)
 clear h hB ho0
 obtain ⟨Ao, co, eo⟩ := Kd.S_slice HO.out
 subst eo
 go_enter Try.func23, Try.ntmps23
 go_wp2
 go_loopg [1, 5] k (fun kq v1 v5 w' => ∃ (x0 : List (List Int)) (x1 : Int) (x5 : Int), v1 = .int .i64 x1 ∧ v5 = .int .i64 x5 ∧ Aside0 (x0.length = l0.length) ∧ Aside0 (laws_markByteSS.l0 kq x0 x1 x5 = some (r1, r2)) ∧ Aside0 (kq ≤ k) ∧ Aside0 (Kd.S (Kd.slice 5 (Kd.int .u8)) 22 w' w0.heap.size (RowInB P1 w) (.slice Ao l0.length co) x0) ∧ Aside0 (Kept w w' (RowInB P1 w)) ∧ Aside0 (Below w0.heap.size w0 w'))
 case atStart => exact ⟨l0, a1, 0, (by first | rfl | (simp; done) | (simp [*]; done)), (by first | rfl | (simp; done) | (simp [*]; done)), ⟨rfl⟩, H', ⟨Nat.le_refl _⟩, ⟨sq HO.out⟩, ⟨by repeat (first | (with_reducible first | exact HK.out | apply Kept.alloc | apply Kept.drewN | apply Kept.drew) | exact HK.out)⟩, ⟨bw HB.out⟩⟩
 case round =>
  clear H'
  clear HO HK HB
  obtain ⟨x0, x1, x5, rfl, rfl, HL, HA, HK1, HO, HK, HB⟩ := hrel
  cases gk with
  | zero => exact absurd HA.out (by simp [laws_markByteSS.l0])
  | succ k1 =>
   have H := HA.out
   clear HA
   simp only [laws_markByteSS.l0] at H
   by_cases c3 : x5 < (x0.length : Int)
   ·rw [if_pos c3] at H
    have c3b0 : decide (x5 < (l0.length : Int)) = true := decide_eq_true (by rw [← HL.out]; exact c3)
    by_cases c4 : 0 ≤ x5
    ·rw [if_pos c4] at H
     have c4b0 : decide (0 ≤ x5) = true := decide_eq_true c4
     obtain ⟨⟨b1, b2⟩, A3, H⟩ := Option.bind_eq_some_iff.mp H
     have A3 := Ak A3
     have H' := Ak (show laws_markByteSS.l0 k1 (x0.set (x5 : Int).toNat b2) b1 (wrap64 (x5 + 1)) = some (r1, r2) from H)
     clear H
     have q5 : x5 < (l0.length : Int) := by rw [← HL.out]; exact c3
     clear c3
     obtain ⟨go, co5, eo5, gb5, gl5, cl5, HG5⟩ := Kd.S_form HO.out (by have := HL.out; omega)
     (first | cases eo5 | (injection eo5 with ea_ en_ ec_; (first | subst ea_ | (injection ea_ with ea_; subst ea_)); subst ec_; clear en_))
     have GB := Ak gb5
     have GO := Ak (HO.out.choose_spec.1 go rfl)
     obtain ⟨oki, ce, hcl, hM, hcc, hfr, hoki, hH⟩ := Kd.S_elem HO.out ([] : List Int) x5 c4 q5
     obtain ⟨dv2, rfl, hR⟩ := hM
     obtain ⟨e0, he0⟩ : ∃ e0, e0 = x0.getD x5.toNat ([] : List Int) := ⟨_, rfl⟩
     rw [← he0] at hR
     have hx0 := hcc 0 _ rfl
     rw [show (Kd.slice 5 (Kd.int .u8)).sz = 1 from rfl] at hx0
     (try simp only [Nat.add_zero, Nat.mul_one] at hx0)
     have A3 := Ak (show laws_markByteS.f k1 e0 x1 = some (b1, b2) from by rw [he0]; exact A3.out)
     have HR := Ak hR
     have HH := Ak hH
     have HI := Ak hoki
     clear hH hcl hcc hfr hoki hR he0
     go_wp2_with (first | ((with_reducible refine gate_callee (f := 18) rfl ?_); refine goesL_ (some 17) rfl rfl Try.func18 (by kernel_rfl) rfl #[dv2, .int .i64 x1] rfl gm ?_; (with_reducible refine (laws_markByteS.calls k1 (fun k_ => some k_ = dv2.ownBlock) dv2 e0 x1 b1 b2 w0 _ ?side1 ?side2 A3.out).mono ?_); (case side1 => repeat (first | (with_reducible first | exact HB.out | apply below_alloc | apply pw_below_drewN | apply below_drew1) | exact HB.out)); (case side2 => exact Kd.R_tight rfl (rq HR.out)); rintro e w9 ⟨rfl, hy0, hb, hkp⟩; refine ⟨_, rfl, ?_⟩; have hM2 := (⟨dv2, rfl, Kd.R_reok rfl hy0 (fun k_ e_ => HR.out.1 k_ e_)⟩ : (Kd.slice 5 (Kd.int .u8)).M w9 w0.heap.size oki b2 [dv2]); have hH2 := Kd.H_step (w1 := w9) HH.out (fun k_ _ hn hlt => hkp.2 k_ hlt (fun e_ => hn (HR.out.1 k_ e_.symm))); have n0_ := Ak (show Kd.S (Kd.slice 5 (Kd.int .u8)) 22 w9 w0.heap.size (RowInB P1 w) (.slice (some ⟨go, 0, none⟩) l0.length co) (x0.set (x5 : Int).toNat b2) from by have h_ := Kd.H_back hH2 hM2 (fun _ h => h); exact h_); have n1_ := Ak (Kept.then_ (S := RowInB P1 w) (by repeat (first | (with_reducible first | exact HK.out | apply Kept.alloc | apply Kept.drewN | apply Kept.drew) | exact HK.out)) hkp (fun k_ hs_ => .inl (HI.out k_ (HR.out.1 k_ hs_.symm)).1)); have n2_ := Ak hb; clear HO HK HB HR HH HI hM2 hH2 hkp hb hy0 hx0; have HO := n0_; have HK := n1_; have HB := n2_; clear n0_ n1_ n2_))
     go_roundg k1
     case measure => have := HK1.out; omega
     case rel => exact ⟨(x0.set (x5 : Int).toNat b2), b1, (wrap64 (x5 + 1)), (by first | rfl | (simp; done) | (simp [*]; done)), (by first | rfl | (simp; done) | (simp [*]; done)), ⟨by rw [List.length_set]; exact HL.out⟩, H', ⟨by have := HK1.out; omega⟩, ⟨sq HO.out⟩, ⟨by repeat (first | (with_reducible first | exact HK.out | apply Kept.alloc | apply Kept.drewN | apply Kept.drew) | exact HK.out)⟩, ⟨bw HB.out⟩⟩
    ·rw [if_neg c4] at H
     exact absurd H (by simp)
   ·rw [if_neg c3] at H
    have c3b0 : decide (x5 < (l0.length : Int)) = false := decide_eq_false (by rw [← HL.out]; exact c3)
    simp only [Option.some.injEq, Prod.mk.injEq] at H
    obtain ⟨rfl, rfl⟩ := H
    go_wp2
    go_ret
    exact ⟨by first | rfl | (simp [errW_none, errW_some] <;> rfl) | (simp [*, errW_none, errW_some] <;> rfl), Kd.S_mono (ok := RowInB P1 w) (sq HO.out) (fun _ hk => hk.1), HL.out, bw HB.out, by repeat (first | (with_reducible first | exact HK.out | apply Kept.alloc | apply Kept.drewN | apply Kept.drew) | exact HK.out)⟩

def laws_heldByteSS.l0 : Nat → List (List Int) → Int → Int → Option (Int)
 | 0, _, _, _ => none
 | k + 1, x0, x1, x5 => if x5 < (x0.length : Int) then (if 0 ≤ x5 then ((laws_heldByteS.f k (rd_L2 x0 x5) x1).bind fun t446 => (if t446 < 0 then (some (-1)) else (laws_heldByteSS.l0 k x0 t446 (wrap64 (x5 + 1))))) else (none)) else (some x1)
def laws_heldByteSS.f (k : Nat) (l0 : List (List Int)) (a1 : Int) : Option (Int) := laws_heldByteSS.l0 k l0 a1 0
set_option maxHeartbeats 8000000 in
set_option maxRecDepth 100000 in
theorem laws_heldByteSS.calls (k : Nat) (A0 : Option Addr) (c0 : Nat) (l0 : List (List Int)) (a1 : Int) (r : Int) (w : World) (hr0 : Kd.C (Kd.slice 5 (Kd.int .u8)) w A0 l0.length l0) (hc0 : l0.length ≤ c0) (h : laws_heldByteSS.f k l0 a1 = some r) :
  Calls Try.prog 24 #[.slice A0 l0.length c0, .int .i64 a1] w fun e w' => e = .returned (.int .i64 r) ∧ Drawn0 w w' := by
 have HR0 := Ak hr0
 have HC0 := Ak hc0
 clear hr0 hc0
 have H : (laws_heldByteSS.l0 k l0 a1 0) = some r := h
 clear h
 have H' := Ak H
 clear H
 go_enter Try.func24, Try.ntmps24
 go_wp2
 go_loopg [1, 5] k (fun kq v1 v5 w' => ∃ (x1_1 : Int) (x5_1 : Int), v1 = .int .i64 x1_1 ∧ v5 = .int .i64 x5_1 ∧ Aside0 (laws_heldByteSS.l0 kq l0 x1_1 x5_1 = some r) ∧ Aside0 (kq ≤ k) ∧ Drawn0 w w')
 case atStart => exact ⟨(a1), (0), (by first | rfl | (simp; done) | (simp [*]; done)), (by first | rfl | (simp; done) | (simp [*]; done)), H', ⟨Nat.le_refl _⟩, by repeat (first | exact Drawn0.refl _ | apply Drawn0.step)⟩
 case round =>
  clear H'
  obtain ⟨x1_1, x5_1, rfl, rfl, HA, HK1, ⟨m1, rfl⟩⟩ := hrel
  cases gk with
  | zero => exact absurd HA.out (by simp [laws_heldByteSS.l0])
  | succ k1 =>
   have H := HA.out
   clear HA
   simp only [laws_heldByteSS.l0] at H
   by_cases c3 : x5_1 < (l0.length : Int)
   ·rw [if_pos c3] at H
    have c3b0 : decide (x5_1 < (l0.length : Int)) = true := decide_eq_true c3
    clear c3
    by_cases c4 : 0 ≤ x5_1
    ·rw [if_pos c4] at H
     have c4b0 : decide (0 ≤ x5_1) = true := decide_eq_true c4
     clear c4
     replace H := Option.bind_eq_some_iff.mp H
     obtain ⟨t446, A50, H⟩ := H
     replace H : (if t446 < 0 then (some (-1)) else (laws_heldByteSS.l0 k1 l0 t446 (wrap64 (x5_1 + 1)))) = some r := H
     have A5 := Ak A50
     clear A50
     by_cases c6 : t446 < 0
     ·rw [if_pos c6] at H
      have c6b0 : decide (t446 < 0) = true := decide_eq_true c6
      clear c6
      obtain rfl := Option.some.inj H
      have p445 : 0 ≤ (x5_1 : Int) := of_decide_eq_true (by first | (with_reducible assumption) | assumption)
      have q445 : x5_1 < (l0.length : Int) := of_decide_eq_true (by first | (with_reducible assumption) | assumption)
      obtain ⟨ad445, A445_0, c445_0, e445, hx445_0, hl445_0, hi445_0⟩ := at_L2 HR0.out x5_1 p445 q445
      cases e445
      have HR445_0 := Ak hi445_0
      have HC445_0 := Ak hl445_0
      clear hi445_0 hl445_0
      replace p445 := eq_true p445
      replace q445 := eq_true q445
      go_wp2_with (first | ((with_reducible refine gate_callee (f := 54) rfl ?_); refine goesL_ (some 17) rfl rfl Try.func54 (by kernel_rfl) rfl #[.slice A445_0 (rd_L2 l0 x5_1).length c445_0, .int .i64 x1_1] rfl gm ?_; (with_reducible refine (laws_heldByteS.calls k1 _ _ (rd_L2 l0 x5_1) x1_1 t446 _ ?side1 ?side2 A5.out).mono ?_); (case side1 => repeat (first | exact HR445_0.out | (with_reducible refine Kd.C_alloc ?_ _) | (with_reducible refine Kd.C_drewN ?_ _) | (with_reducible refine Kd.C_drew ?_))); (case side2 => exact HC445_0.out); rintro e w' ⟨rfl, ⟨nd, rfl⟩⟩; refine ⟨_, rfl, ?_⟩))
      go_ret
      exact ⟨by first | rfl | (simp; done) | (simp [*]; done), by repeat (first | exact Drawn0.refl _ | apply Drawn0.step)⟩
     ·rw [if_neg c6] at H
      have c6b0 : decide (t446 < 0) = false := decide_eq_false c6
      clear c6
      have H' := Ak H
      clear H
      have p445 : 0 ≤ (x5_1 : Int) := of_decide_eq_true (by first | (with_reducible assumption) | assumption)
      have q445 : x5_1 < (l0.length : Int) := of_decide_eq_true (by first | (with_reducible assumption) | assumption)
      obtain ⟨ad445, A445_0, c445_0, e445, hx445_0, hl445_0, hi445_0⟩ := at_L2 HR0.out x5_1 p445 q445
      cases e445
      have HR445_0 := Ak hi445_0
      have HC445_0 := Ak hl445_0
      clear hi445_0 hl445_0
      replace p445 := eq_true p445
      replace q445 := eq_true q445
      go_wp2_with (first | ((with_reducible refine gate_callee (f := 54) rfl ?_); refine goesL_ (some 17) rfl rfl Try.func54 (by kernel_rfl) rfl #[.slice A445_0 (rd_L2 l0 x5_1).length c445_0, .int .i64 x1_1] rfl gm ?_; (with_reducible refine (laws_heldByteS.calls k1 _ _ (rd_L2 l0 x5_1) x1_1 t446 _ ?side1 ?side2 A5.out).mono ?_); (case side1 => repeat (first | exact HR445_0.out | (with_reducible refine Kd.C_alloc ?_ _) | (with_reducible refine Kd.C_drewN ?_ _) | (with_reducible refine Kd.C_drew ?_))); (case side2 => exact HC445_0.out); rintro e w' ⟨rfl, ⟨nd, rfl⟩⟩; refine ⟨_, rfl, ?_⟩))
      go_roundg k1
      case measure => have := HK1.out; omega
      case rel => exact ⟨(t446), (wrap64 (x5_1 + 1)), (by first | rfl | (simp; done) | (simp [*]; done)), (by first | rfl | (simp; done) | (simp [*]; done)), H', ⟨by have := HK1.out; omega⟩, by repeat (first | exact Drawn0.refl _ | apply Drawn0.step)⟩
    ·rw [if_neg c4] at H
     exact absurd H (by simp)
   ·rw [if_neg c3] at H
    have c3b0 : decide (x5_1 < (l0.length : Int)) = false := decide_eq_false c3
    clear c3
    obtain rfl := Option.some.inj H
    go_wp2
    go_ret
    exact ⟨by first | rfl | (simp; done) | (simp [*]; done), by repeat (first | exact Drawn0.refl _ | apply Drawn0.step)⟩

end Go.Proofs.Ytgmnphckgicadaa.PFnExactLogOpen

