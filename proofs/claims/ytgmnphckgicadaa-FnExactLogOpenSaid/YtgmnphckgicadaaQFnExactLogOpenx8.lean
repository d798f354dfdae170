/- Functions that the law reaches, with their contracts. -/
import Derived.Test.YtgmnphckgicadaaQFnExactLogOpenx7
namespace Go.Proofs.Ytgmnphckgicadaa.PFnExactLogOpen
open Go.RowKit Go.Proofs.YtgmnphckgicadaaW.PrintWords Go.Proofs.YtgmnphckgicadaaW.PrintLast Go.Proofs.YtgmnphckgicadaaW.PrintMore
attribute [local go_sem] max2_int min2_int max_two min_two max_three min_three max_four min_four
set_option linter.unusedVariables false
set_option linter.unusedSimpArgs false

/-- laws.markWriteS: each At, then each Data's bytes, are marked in turn; what else there is stays. -/
def laws_markWriteS.l0 : Nat → List S96 → Int → Int → Option (Int × List S96)
 | 0, _, _, _ => none
 | k + 1, x0, x1, x5 => if x5 < (x0.length : Int) then (if 0 ≤ x5 then ((laws_markByteS.f k ((rd_T96 x0 x5).f1) (wrap64 (x1 + 1))).bind fun bt => laws_markWriteS.l0 k (x0.set (x5 : Int).toNat ⟨x1, bt.2⟩) bt.1 (wrap64 (x5 + 1))) else none) else some (x1, x0)
def laws_markWriteS.f (k : Nat) (l0 : List S96) (a1 : Int) : Option (Int × List S96) := laws_markWriteS.l0 k l0 a1 0
/-- Where such a row may lie: in the blocks of P that hold writes or bytes. -/
def RowIn (P : Nat → Prop) (w : World) (k : Nat) : Prop := P k ∧ k < w.heap.size ∧ ∃ q, q ∈ 96 :: k96.E ∧ ∃ cells, w.heap[k]? = some (.cells cells q (0, 0))
theorem RowIn.of_S {w : World} {base : Nat} {P : Nat → Prop} {v : Value} {xs : List S96} (h : Kd.S k96 96 w base P v xs) : Kd.S k96 96 w base (RowIn P w) v xs :=
 Kd.S_mono (Kd.S_bound h) (fun _ hk => ⟨hk.1, hk.2.2.1, hk.2.2.2⟩)
theorem RowIn.ne {P : Nat → Prop} {w : World} {g t : Nat} {cells : Array Value} (hb : w.heap[g]? = some (.cells cells t (0, 0))) (ht : ∀ q, q ∈ 96 :: k96.E → q ≠ t) : ¬ RowIn P w g := by
 rintro ⟨_, _, q, hq, cells', hc⟩
 rw [hc] at hb
 injection hb with hb
 injection hb with _ hb
 exact ht q hq hb
set_option maxHeartbeats 8000000 in
set_option maxRecDepth 100000 in
theorem laws_markWriteS.calls (k : Nat) (P1 : Nat → Prop) (u1 : Value) (l0 : List S96) (a1 : Int) (r1 : Int) (r2 : List S96) (w0 w : World) (hB : Below w0.heap.size w0 w) (ho0 : Kd.S k96 96 w w0.heap.size P1 u1 l0) (h : laws_markWriteS.f k l0 a1 = some (r1, r2)) :
  Calls Try.prog 53 #[u1, .int .i64 a1] w fun e w' => e = .returned (.int .i64 r1) ∧ Kd.S k96 96 w' w0.heap.size P1 u1 r2 ∧ r2.length = l0.length ∧ Below w0.heap.size w0 w' ∧ Kept w w' (RowIn P1 w) := by
 have HO := Ak (RowIn.of_S ho0)
 have HB := Ak hB
 have HK := Ak (Kept.refl w (RowIn P1 w))
 have H' := Ak (show laws_markWriteS.l0 k l0 a1 0 = some (r1, r2) from h)
 clear h hB ho0
 obtain ⟨Ao, co, eo⟩ := Kd.S_slice HO.out
 subst eo
 go_enter Try.func53, Try.ntmps53
 go_wp2
 go_loopg [1, 5] k (fun kq v1 v5 w' => ∃ (x0 : List S96) (x1 : Int) (x5 : Int), v1 = .int .i64 x1 ∧ v5 = .int .i64 x5 ∧ Aside0 (x0.length = l0.length) ∧ Aside0 (laws_markWriteS.l0 kq x0 x1 x5 = some (r1, r2)) ∧ Aside0 (kq ≤ k) ∧ Aside0 (Kd.S k96 96 w' w0.heap.size (RowIn P1 w) (.slice Ao l0.length co) x0) ∧ Aside0 (Kept w w' (RowIn P1 w)) ∧ Aside0 (Below w0.heap.size w0 w'))
 case atStart => exact ⟨l0, a1, 0, (by first | rfl | (simp; done) | (simp [*]; done)), (by first | rfl | (simp; done) | (simp [*]; done)), ⟨rfl⟩, H', ⟨Nat.le_refl _⟩, ⟨sq HO.out⟩, ⟨by repeat (first | (with_reducible first | exact HK.out | apply Kept.alloc | apply Kept.drewN | apply Kept.drew) | exact HK.out)⟩, ⟨bw HB.out⟩⟩
 case round =>
  clear H'
  clear HO HK HB
  obtain ⟨x0, x1, x5, rfl, rfl, HL, HA, HK1, HO, HK, HB⟩ := hrel
  cases gk with
  | zero => exact absurd HA.out (by simp [laws_markWriteS.l0])
  | succ k1 =>
   have H := HA.out
   clear HA
   simp only [laws_markWriteS.l0] at H
   by_cases c3 : x5 < (x0.length : Int)
   ·rw [if_pos c3] at H
    have c3b0 : decide (x5 < (l0.length : Int)) = true := decide_eq_true (by rw [← HL.out]; exact c3)
    by_cases c4 : 0 ≤ x5
    ·rw [if_pos c4] at H
     have c4b0 : decide (0 ≤ x5) = true := decide_eq_true c4
     obtain ⟨⟨b1, b2⟩, A3, H⟩ := Option.bind_eq_some_iff.mp H
     have A3 := Ak A3
     have H' := Ak (show laws_markWriteS.l0 k1 (x0.set (x5 : Int).toNat ⟨x1, b2⟩) b1 (wrap64 (x5 + 1)) = some (r1, r2) from H)
     clear H
     have q5 : x5 < (l0.length : Int) := by rw [← HL.out]; exact c3
     clear c3
     obtain ⟨go, co5, eo5, gb5, gl5, cl5, HG5⟩ := Kd.S_form HO.out (by have := HL.out; omega)
     (first | cases eo5 | (injection eo5 with ea_ en_ ec_; (first | subst ea_ | (injection ea_ with ea_; subst ea_)); subst ec_; clear en_))
     have GB := Ak gb5
     have GO := Ak (HO.out.choose_spec.1 go rfl)
     obtain ⟨oki, ce, hcl, hM, hcc, hfr, hoki, hH⟩ := Kd.S_elem HO.out z96 x5 c4 q5
     obtain ⟨dv, rfl, hR⟩ := k96_openM hM
     obtain ⟨e0, he0⟩ : ∃ e0, e0 = x0.getD x5.toNat z96 := ⟨_, rfl⟩
     rw [← he0] at hR hcc hH
     have hx0 := hcc 0 _ rfl
     have hf0 := hfr 0
     have hx1 := hcc 1 _ rfl
     have hf1 := hfr 1
     rw [show k96.sz = 2 from rfl] at hx0 hf0 hx1 hf1
     (try simp only [Nat.add_zero] at hx0 hf0)
     have HP := Kd.S_seg0 hH c4 q5 (seg := [.int .i64 x1]) (j := 0) (show 0 + 1 ≤ 2 from by decide) (x' := (⟨x1, e0.f1⟩ : S96)) (k96_mkM _ _ _ (⟨x1, e0.f1⟩ : S96) hR) (fun _ hk => hk)
     have HP := Ak HP
     have A3 := Ak (show laws_markByteS.f k1 e0.f1 (wrap64 (x1 + 1)) = some (b1, b2) from by rw [he0]; exact A3.out)
     have GG := Ak (show ∀ k_, some go = some k_ → RowIn P1 w k_ ∨ w.heap.size ≤ k_ from fun k_ e_ => .inl (by injection e_ with e_; subst e_; exact GO.out))
     clear hH hcl hcc hfr hoki hM hR he0
     go_wp2_with (first | ((with_reducible refine gate_store (t := 3) (p := 16) rfl ?_); refine store_event (t := 3) (p := 16) (v := ?vo_w8) (w1 := (wr.setCell ⟨go, (x5 : Int).toNat * 2, none⟩ (.int .i64 x1))) ?hg ?ho ?hn ?hr ?_; (case ho => rfl); (case hg => rfl); (case hn => rfl); (case hr => first | (go_simp; done) | (go_simp; rfl)); intro w8 hw; have hg : wr.grownBy w8 (some go) := (by rw [hw]; exact HP.out.2); have n0_ := Ak (show Kd.S k96 96 w8 w0.heap.size (RowIn P1 w) (.slice (some ⟨go, 0, none⟩) l0.length co) (x0.set (x5 : Int).toNat (⟨x1, e0.f1⟩ : S96)) from by rw [hw]; exact HP.out.1); have n1_ := Ak ((by rw [hw]; exact below_set (HB.out) GB.out : Below w0.heap.size w0 w8)); have n2_ := Ak (Kept.of_grown (S := RowIn P1 w) hg (by repeat (first | (with_reducible first | exact HK.out | apply Kept.alloc | apply Kept.drewN | apply Kept.drew) | exact HK.out)) GG.out); clear HO HB HK HP hx0 hf0 hx1 hf1; have HO := n0_; have HB := n1_; have HK := n2_; clear n0_ n1_ n2_ hg hw; obtain ⟨oki, ce, hcl, hM, hcc, hfr, hoki, hH⟩ := Kd.S_elem HO.out z96 x5 c4 q5; obtain ⟨dv2, rfl, hR⟩ := k96_openM hM; have hge := (show (x0.set (x5 : Int).toNat (⟨x1, e0.f1⟩ : S96)).getD (x5 : Int).toNat z96 = ⟨x1, e0.f1⟩ from by rw [List.getD_eq_getElem?_getD, List.getElem?_set_self (by have := HL.out; omega)]; rfl); rw [hge] at hR hcc hH; have hx1 := hcc 1 _ rfl; have hf1 := hfr 1; rw [show k96.sz = 2 from rfl] at hx1 hf1; have HR := Ak hR; have HH := Ak hH; have HI := Ak hoki; clear hH hcl hcc hfr hoki hM hR hge) | ((with_reducible refine gate_callee (f := 18) rfl ?_); refine goesL_ (some 25) rfl rfl Try.func18 (by kernel_rfl) rfl #[dv2, .int .i64 (wrap64 (x1 + 1))] rfl gm ?_; (with_reducible refine (laws_markByteS.calls k1 (fun k_ => some k_ = dv2.ownBlock) dv2 e0.f1 (wrap64 (x1 + 1)) b1 b2 w0 _ ?side1 ?side2 A3.out).mono ?_); (case side1 => repeat (first | (with_reducible first | exact HB.out | apply below_alloc | apply pw_below_drewN | apply below_drew1) | exact HB.out)); (case side2 => exact Kd.R_tight rfl (rq HR.out)); rintro e w9 ⟨rfl, hy0, hb, hkp⟩; refine ⟨_, rfl, ?_⟩; have hM2 := k96_mkM _ _ oki (⟨x1, b2⟩ : S96) (Kd.R_reok rfl hy0 (fun k_ e_ => HR.out.1 k_ e_)); have hH2 := Kd.H_step (w1 := w9) HH.out (fun k_ _ hn hlt => hkp.2 k_ hlt (fun e_ => hn (HR.out.1 k_ e_.symm))); have n0_ := Ak (show Kd.S k96 96 w9 w0.heap.size (RowIn P1 w) (.slice (some ⟨go, 0, none⟩) l0.length co) (x0.set (x5 : Int).toNat (⟨x1, b2⟩ : S96)) from by have h_ := Kd.H_back hH2 hM2 (fun _ h => h); rwa [List.set_set] at h_); have n1_ := Ak (Kept.then_ (S := RowIn P1 w) (by repeat (first | (with_reducible first | exact HK.out | apply Kept.alloc | apply Kept.drewN | apply Kept.drew) | exact HK.out)) hkp (fun k_ hs_ => .inl (HI.out k_ (HR.out.1 k_ hs_.symm)).1)); have n2_ := Ak hb; clear HO HK HB HR HH HI hM2 hH2 hkp hb hy0 hx1 hf1; have HO := n0_; have HK := n1_; have HB := n2_; clear n0_ n1_ n2_))
     go_roundg k1
     case measure => have := HK1.out; omega
     case rel => exact ⟨(x0.set (x5 : Int).toNat (⟨x1, b2⟩ : S96)), b1, (wrap64 (x5 + 1)), (by first | rfl | (simp; done) | (simp [*]; done)), (by first | rfl | (simp; done) | (simp [*]; done)), ⟨by rw [List.length_set]; exact HL.out⟩, H', ⟨by have := HK1.out; omega⟩, ⟨sq HO.out⟩, ⟨by repeat (first | (with_reducible first | exact HK.out | apply Kept.alloc | apply Kept.drewN | apply Kept.drew) | exact HK.out)⟩, ⟨bw HB.out⟩⟩
    ·rw [if_neg c4] at H
     exact absurd H (by simp)
   ·rw [if_neg c3] at H
    have c3b0 : decide (x5 < (l0.length : Int)) = false := decide_eq_false (by rw [← HL.out]; exact c3)
    simp only [Option.some.injEq, Prod.mk.injEq] at H
    obtain ⟨rfl, rfl⟩ := H
    go_wp2
    go_ret
    exact ⟨by first | rfl | (simp [errW_none, errW_some] <;> rfl) | (simp [*, errW_none, errW_some] <;> rfl), Kd.S_mono (ok := RowIn P1 w) (sq HO.out) (fun _ hk => hk.1), HL.out, bw HB.out, by repeat (first | (with_reducible first | exact HK.out | apply Kept.alloc | apply Kept.drewN | apply Kept.drew) | exact HK.out)⟩

/-- laws.markDisk: the bytes, then the queue's rows, are marked; what else there is stays. -/
def laws_markDisk.f (k : Nat) (l0_0 : List Int) (l0_1 : List S96) (a1 : Int) : Option (Int × List Int × List S96) := (laws_markByteS.f k l0_0 a1).bind fun bt => (laws_markWriteS.f k l0_1 bt.1).bind fun bu => some (bu.1, bt.2, bu.2)
set_option maxHeartbeats 8000000 in
set_option maxRecDepth 100000 in
theorem laws_markDisk.calls (k : Nat) (P0 P1 : Nat → Prop) (u0 u1 : Value) (l0_0 : List Int) (l0_1 : List S96) (a1 : Int) (r1 : Int) (r2 : List Int) (r3 : List S96) (w0 w : World) (hB : Below w0.heap.size w0 w) (ho0 : Kd.R (Kd.int .u8) 5 w w0.heap.size P0 u0 l0_0) (ho1 : Kd.S k96 96 w w0.heap.size P1 u1 l0_1) (hap : ∀ k_, P1 k_ → some k_ ≠ u0.ownBlock) (h : laws_markDisk.f k l0_0 l0_1 a1 = some (r1, r2, r3)) :
  Calls Try.prog 17 #[.agg #[u0, u1], .int .i64 a1] w fun e w' => e = .returned (.int .i64 r1) ∧ Kd.R (Kd.int .u8) 5 w' w0.heap.size P0 u0 r2 ∧ Kd.S k96 96 w' w0.heap.size P1 u1 r3 ∧ r3.length = l0_1.length ∧ Below w0.heap.size w0 w' ∧ Kept w w' (fun k_ => some k_ = u0.ownBlock ∨ RowIn P1 w k_) := by
 have hu_ := Try.underlying31
 have HO := Ak ho0
 have HS := Ak (RowIn.of_S ho1)
 have HA := Ak (show ∀ k_, RowIn P1 w k_ → some k_ ≠ u0.ownBlock from fun k_ h_ => hap k_ h_.1)
 have HK := Ak (Kept.refl w (fun k_ => some k_ = u0.ownBlock ∨ RowIn P1 w k_))
 have HB := Ak hB
 clear hB ho0 ho1 hap
 replace h := Option.bind_eq_some_iff.mp h
 obtain ⟨⟨t1, t2⟩, A30, h⟩ := h
 have A3 := Ak A30
 replace h := Option.bind_eq_some_iff.mp h
 obtain ⟨⟨t3, t4⟩, A40, h⟩ := h
 simp only [Option.some.injEq, Prod.mk.injEq] at h
 obtain ⟨rfl, rfl, rfl⟩ := h
 have A4 := Ak A40
 clear A30 A40
 obtain ⟨Ao, co, eo⟩ := Kd.R_slice HO.out
 subst eo
 obtain ⟨Aq, cq, eq_⟩ := Kd.S_slice HS.out
 subst eq_
 go_enter Try.func17, Try.ntmps17
 go_wp2_with (first | ((with_reducible refine gate_dst (N := 2) rfl ?_); refine box_event ?hg (N := 2) ?hd (cs := #[.slice Ao l0_0.length co, .slice Aq l0_1.length cq]) (t := 31) ?hr ?_; (case hd => rfl); (case hg => rfl); (case hr => first | (go_simp; done) | (go_simp; rfl)); intro gb hg w6 hbox hb; have n0_ := Ak (Kd.R_below (rq HO.out) hb); have n1_ := Ak (Kd.S_below (sq HS.out) hb); have n2_ := Ak (Kept.below (S := (fun k_ => some k_ = (.slice Ao l0_0.length co : Value).ownBlock ∨ RowIn P1 w k_)) (by repeat (first | (with_reducible first | exact HK.out | apply Kept.alloc | apply Kept.drewN | apply Kept.drew) | exact HK.out)) hb); have n3_ := Ak (below_step (bw HB.out) hb); have n4_ := Ak hbox; clear HO HS HK HB; have HO := n0_; have HS := n1_; have HK := n2_; have HB := n3_; have BK := n4_; clear n0_ n1_ n2_ n3_ n4_; clear hb hbox hg; have hcz7_0 : w6.cell? ⟨gb, 0, none⟩ = some (.slice Ao l0_0.length co) := (blk_cell BK.out 0).trans rfl; have hcz7_1 : w6.cell? ⟨gb, 1, none⟩ = some (.slice Aq l0_1.length cq) := (blk_cell BK.out 1).trans rfl; have hfz7_0 := blk_frozen BK.out 0; have hfz7_1 := blk_frozen BK.out 1) | ((with_reducible refine gate_callee (f := 18) rfl ?_); refine goesL_ (some 8) rfl rfl Try.func18 (by kernel_rfl) rfl #[.slice Ao l0_0.length co, .int .i64 a1] rfl gm ?_; (with_reducible refine (laws_markByteS.calls k (fun k_ => some k_ = (.slice Ao l0_0.length co : Value).ownBlock) (.slice Ao l0_0.length co) l0_0 a1 t1 t2 w0 _ ?side1 ?side2 A3.out).mono ?_); (case side1 => repeat (first | (with_reducible first | exact HB.out | apply below_alloc | apply pw_below_drewN | apply below_drew1) | exact HB.out)); (case side2 => exact Kd.R_tight rfl (rq HO.out)); rintro e w8 ⟨rfl, hy0, hb, hkp⟩; refine ⟨_, rfl, ?_⟩; have n0_ := Ak (Kd.R_reok rfl hy0 (fun k_ e_ => HO.out.1 k_ e_)); have n1_ := Ak (Kd.S_kept (sq HS.out) hkp (fun k_ h_ e_ => HA.out k_ h_ e_)); have n2_ := Ak (blk_kept (bq BK.out) hkp (fun e_ => (Kd.R_ne HO.out BK.out (by decide)) e_)); have n3_ := Ak (Kept.then_ (S := (fun k_ => some k_ = (.slice Ao l0_0.length co : Value).ownBlock ∨ RowIn P1 w k_)) (by repeat (first | (with_reducible first | exact HK.out | apply Kept.alloc | apply Kept.drewN | apply Kept.drew) | exact HK.out)) hkp (fun k_ hs_ => .inl (.inl hs_))); have n4_ := Ak hb; clear HO HS BK HK HB; have HO := n0_; have HS := n1_; have BK := n2_; have HK := n3_; have HB := n4_; clear n0_ n1_ n2_ n3_ n4_ hb hkp hy0; have hcz9_0 : w8.cell? ⟨gb, 0, none⟩ = some (.slice Ao l0_0.length co) := (blk_cell BK.out 0).trans rfl; have hcz9_1 : w8.cell? ⟨gb, 1, none⟩ = some (.slice Aq l0_1.length cq) := (blk_cell BK.out 1).trans rfl; have hfz9_0 := blk_frozen BK.out 0; have hfz9_1 := blk_frozen BK.out 1) | ((with_reducible refine gate_callee (f := 53) rfl ?_); refine goesL_ (some 12) rfl rfl Try.func53 (by kernel_rfl) rfl #[.slice Aq l0_1.length cq, .int .i64 t1] rfl gm ?_; (with_reducible refine (laws_markWriteS.calls k (RowIn P1 w) (.slice Aq l0_1.length cq) l0_1 t1 t3 t4 w0 _ ?side1 ?side2 A4.out).mono ?_); (case side1 => repeat (first | (with_reducible first | exact HB.out | apply below_alloc | apply pw_below_drewN | apply below_drew1) | exact HB.out)); (case side2 => (with_reducible repeat (first | apply Kd.S_alloc | apply Kd.S_drewN | apply Kd.S_drew)); exact HS.out); rintro e w10 ⟨rfl, hy0, hl0, hb, hkp⟩; refine ⟨_, rfl, ?_⟩; have n0_ := Ak (Kd.R_reok rfl (Kd.R_kept (Kd.R_tight rfl (rq HO.out)) hkp (fun k_ e_ h_ => HA.out k_ h_.1 e_)) (fun k_ e_ => HO.out.1 k_ e_)); have n1_ := Ak hy0; have n3_ := Ak (Kept.then_ (S := (fun k_ => some k_ = (.slice Ao l0_0.length co : Value).ownBlock ∨ RowIn P1 w k_)) (by repeat (first | (with_reducible first | exact HK.out | apply Kept.alloc | apply Kept.drewN | apply Kept.drew) | exact HK.out)) hkp (fun k_ hs_ => .inl (.inr hs_.1))); have n4_ := Ak hb; have HL3 := Ak hl0; clear HO HS BK HK HB; have HO := n0_; have HS := n1_; have HK := n3_; have HB := n4_; clear n0_ n1_ n3_ n4_ hb hkp hy0 hl0))
 go_ret
 exact ⟨by first | rfl | (simp [errW_none, errW_some] <;> rfl) | (simp [*, errW_none, errW_some] <;> rfl), rq HO.out, Kd.S_mono (ok := RowIn P1 w) (sq HS.out) (fun _ hk => hk.1), HL3.out, bw HB.out, by repeat (first | (with_reducible first | exact HK.out | apply Kept.alloc | apply Kept.drewN | apply Kept.drew) | exact HK.out)⟩

def spec_l1In.f (a0 : Int) (a1 : Int) (a2 : Int) : Option (Bool) := if a0 ≥ a1 then (some (decide (a0 ≤ a2))) else (some false)
set_option maxHeartbeats 8000000 in
set_option maxRecDepth 100000 in
theorem spec_l1In.calls (a0 : Int) (a1 : Int) (a2 : Int) (r : Bool) (w : World) (h : spec_l1In.f a0 a1 a2 = some r) :
  Calls Try.prog 97 #[.int .i64 a0, .int .i64 a1, .int .i64 a2] w fun e w' => e = .returned (.bool r) ∧ Drawn0 w w' := by
 have H : (if a0 ≥ a1 then (some (decide (a0 ≤ a2))) else (some false)) = some r := h
 clear h
 by_cases c4 : a0 ≥ a1
 ·rw [if_pos c4] at H
  have c4b0 : decide (a1 ≤ a0) = true := decide_eq_true c4
  clear c4
  obtain rfl := Option.some.inj H
  go_enter Try.func97, Try.ntmps97
  go_wp2
  go_ret
  exact ⟨by first | rfl | (simp; done) | (simp [*]; done), by repeat (first | exact Drawn0.refl _ | apply Drawn0.step)⟩
 ·rw [if_neg c4] at H
  have c4b0 : decide (a1 ≤ a0) = false := decide_eq_false c4
  clear c4
  obtain rfl := Option.some.inj H
  go_enter Try.func97, Try.ntmps97
  go_wp2
  go_ret
  exact ⟨by first | rfl | (simp; done) | (simp [*]; done), by repeat (first | exact Drawn0.refl _ | apply Drawn0.step)⟩

end Go.Proofs.Ytgmnphckgicadaa.PFnExactLogOpen

