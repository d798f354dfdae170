/- The functions that the law FnExactFind reaches, each with what it computes and its contract. -/
import Derived.Test.YtinilabmffjnaaaQFnExactFindx0
import Derived.Test.YtinilabmffjnaaaQFnExactFindx2
import Derived.Test.YtinilabmffjnaaaQFnExactFindx4
import Derived.Test.YtinilabmffjnaaaQFnExactFindx7
import Derived.Test.YtinilabmffjnaaaQFnExactFindx10
import Derived.Test.YtinilabmffjnaaaQFnExactFindx13
import Derived.Test.YtinilabmffjnaaaQFnExactFindx14
import Derived.Test.YtinilabmffjnaaaQFnExactFindx16
import Derived.Test.YtinilabmffjnaaaQFnExactFindx17
namespace Go.Proofs.Ytinilabmffjnaaa.PFnExactFind
open Go.RowKit Go.Proofs.YtinilabmffjnaaaW.PrintWords Go.Proofs.YtinilabmffjnaaaW.PrintLast Go.Proofs.YtinilabmffjnaaaW.PrintMore
attribute [local go_sem] max2_int min2_int max_two min_two max_three min_three max_four min_four   -- for this text's walks alone
set_option linter.unusedVariables false
set_option linter.unusedSimpArgs false

/-! ### laws_FnExactFind: function 7 -/
mutual
def laws_FnExactFind.j0 : Nat → List (S104) → Int → Bool → List (S106) → Bool → Bool → Int → List (List (S73)) → Int → List (List (S73)) → Option (Bool)
  | 0, _, _, _, _, _, _, _, _, _, _ => none
  | k + 1, x0, x1, x7, x8, x10, x44, x239000, x239001, x248000, x248001 => if x44 = true then (some false) else ((laws_toEntryS.f k x0).bind fun t249 => ((laws_eqEntryS.f k x8 t249).bind fun t252 => (if t252 = true then ((laws_markEntryS.f k x8 1).bind fun t253 => (if t253 < 0 then (laws_FnExactFind.j1 k x0 x1 x7 true x239000 x239001 x248000 x248001) else ((laws_eqShape.f k x248000 x248001 x239000 x239001).bind fun t254 => (if t254 = true then (laws_FnExactFind.j1 k x0 x1 x7 (x10 != x7) x239000 x239001 x248000 x248001) else (laws_FnExactFind.j1 k x0 x1 x7 true x239000 x239001 x248000 x248001))))) else (some false))))
def laws_FnExactFind.j1 : Nat → List (S104) → Int → Bool → Bool → Int → List (List (S73)) → Int → List (List (S73)) → Option (Bool)
  | 0, _, _, _, _, _, _, _, _ => none
  | k + 1, x0, x1, x7, x65, x239000, x239001, x248000, x248001 => if x65 = true then (some false) else ((laws_markShape.f k x248001 1).bind fun bm => ((laws_heldShape.f k x248000 bm.2 1).bind fun t256 => (if t256 < 0 then (some false) else (if t256 = bm.1 then ((laws_toEntryS.f k x0).bind fun t257 => ((impl_Find.f k t257 x1).bind fun bt260 => ((laws_eqShape.f k bt260.1 bt260.2.1 x239000 x239001).bind fun t266 => (if t266 = true then (laws_FnExactFind.j2 k bm.1 (bt260.2.2 != x7) x248000 bm.2) else (laws_FnExactFind.j2 k bm.1 true x248000 bm.2))))) else (some false)))))
def laws_FnExactFind.j2 : Nat → Int → Bool → Int → List (List (S73)) → Option (Bool)
  | 0, _, _, _, _ => none
  | k + 1, x12, x92, x248000, x248001 => if x92 = true then (some false) else ((laws_heldShape.f k x248000 x248001 1).bind fun t267 => (if t267 < 0 then (some false) else (if t267 = x12 then (some true) else (some false))))
end
def laws_FnExactFind.f (k : Nat) (l0 : List (S104)) (a1 : Int) : Option (Bool) := (laws_szEntryS.f k l0 1048576).bind fun t229 => (if t229 < 0 then (some true) else ((laws_toEntryS.f k l0).bind fun t230 => ((spec_Find.f k t230 a1).bind fun bt233 => ((laws_toEntryS.f k l0).bind fun t239 => ((impl_Find.f k t239 a1).bind fun bt242 => ((laws_eqShape.f k bt242.1 bt242.2.1 bt233.1 bt233.2.1).bind fun t248 => (if t248 = true then (laws_FnExactFind.j0 k l0 a1 bt233.2.2 t239 bt242.2.2 (bt242.2.2 != bt233.2.2) bt233.1 bt233.2.1 bt242.1 bt242.2.1) else (laws_FnExactFind.j0 k l0 a1 bt233.2.2 t239 bt242.2.2 true bt233.1 bt233.2.1 bt242.1 bt242.2.1))))))))
theorem laws_FnExactFind.mono_l : ∀ k, (∀ y0 y1 y2 y3 y4 y5 y6 y7 y8 y9, LeO (laws_FnExactFind.j0 k y0 y1 y2 y3 y4 y5 y6 y7 y8 y9) (laws_FnExactFind.j0 (k + 1) y0 y1 y2 y3 y4 y5 y6 y7 y8 y9)) ∧ (∀ y0 y1 y2 y3 y4 y5 y6 y7, LeO (laws_FnExactFind.j1 k y0 y1 y2 y3 y4 y5 y6 y7) (laws_FnExactFind.j1 (k + 1) y0 y1 y2 y3 y4 y5 y6 y7)) ∧ (∀ y0 y1 y2 y3, LeO (laws_FnExactFind.j2 k y0 y1 y2 y3) (laws_FnExactFind.j2 (k + 1) y0 y1 y2 y3))
  | 0 => ⟨fun _ _ _ _ _ _ _ _ _ _ r h => by simp [laws_FnExactFind.j0] at h, fun _ _ _ _ _ _ _ _ r h => by simp [laws_FnExactFind.j1] at h, fun _ _ _ _ r h => by simp [laws_FnExactFind.j2] at h⟩
  | k + 1 => by
    obtain ⟨ih0, ih1, ih2⟩ := laws_FnExactFind.mono_l k
    refine ⟨?_, ?_, ?_⟩
    · intro y0 y1 y2 y3 y4 y5 y6 y7 y8 y9
      unfold laws_FnExactFind.j0
      repeat' first
      | (with_reducible exact ih0 _ _ _ _ _ _ _ _ _ _)
      | (with_reducible exact ih1 _ _ _ _ _ _ _ _)
      | (with_reducible exact ih2 _ _ _ _)
      | (with_reducible exact impl_Find.mono _ _ _)
      | (with_reducible exact laws_eqEntryS.mono _ _ _)
      | (with_reducible exact laws_eqShape.mono _ _ _ _ _)
      | (with_reducible exact laws_heldShape.mono _ _ _ _)
      | (with_reducible exact laws_markEntryS.mono _ _ _)
      | (with_reducible exact laws_markShape.mono _ _ _)
      | (with_reducible exact laws_szEntryS.mono _ _ _)
      | (with_reducible exact laws_toEntryS.mono _ _)
      | (with_reducible exact spec_Find.mono _ _ _)
      | (with_reducible exact LeO.refl _)
      | (with_reducible exact LeO.none _)
      | (with_reducible refine LeO.ite ?_ ?_)
      | (with_reducible refine LeO.bind ?_ (fun _ => ?_))
      | exact ih0 _ _ _ _ _ _ _ _ _ _
      | exact ih1 _ _ _ _ _ _ _ _
      | exact ih2 _ _ _ _
      | exact impl_Find.mono _ _ _
      | exact laws_eqEntryS.mono _ _ _
      | exact laws_eqShape.mono _ _ _ _ _
      | exact laws_heldShape.mono _ _ _ _
      | exact laws_markEntryS.mono _ _ _
      | exact laws_markShape.mono _ _ _
      | exact laws_szEntryS.mono _ _ _
      | exact laws_toEntryS.mono _ _
      | exact spec_Find.mono _ _ _
      | exact LeO.none _
      | refine LeO.ite ?_ ?_
      | refine LeO.bind ?_ (fun _ => ?_)
    · intro y0 y1 y2 y3 y4 y5 y6 y7
      unfold laws_FnExactFind.j1
      repeat' first
      | (with_reducible exact ih0 _ _ _ _ _ _ _ _ _ _)
      | (with_reducible exact ih1 _ _ _ _ _ _ _ _)
      | (with_reducible exact ih2 _ _ _ _)
      | (with_reducible exact impl_Find.mono _ _ _)
      | (with_reducible exact laws_eqEntryS.mono _ _ _)
      | (with_reducible exact laws_eqShape.mono _ _ _ _ _)
      | (with_reducible exact laws_heldShape.mono _ _ _ _)
      | (with_reducible exact laws_markEntryS.mono _ _ _)
      | (with_reducible exact laws_markShape.mono _ _ _)
      | (with_reducible exact laws_szEntryS.mono _ _ _)
      | (with_reducible exact laws_toEntryS.mono _ _)
      | (with_reducible exact spec_Find.mono _ _ _)
      | (with_reducible exact LeO.refl _)
      | (with_reducible exact LeO.none _)
      | (with_reducible refine LeO.ite ?_ ?_)
      | (with_reducible refine LeO.bind ?_ (fun _ => ?_))
      | exact ih0 _ _ _ _ _ _ _ _ _ _
      | exact ih1 _ _ _ _ _ _ _ _
      | exact ih2 _ _ _ _
      | exact impl_Find.mono _ _ _
      | exact laws_eqEntryS.mono _ _ _
      | exact laws_eqShape.mono _ _ _ _ _
      | exact laws_heldShape.mono _ _ _ _
      | exact laws_markEntryS.mono _ _ _
      | exact laws_markShape.mono _ _ _
      | exact laws_szEntryS.mono _ _ _
      | exact laws_toEntryS.mono _ _
      | exact spec_Find.mono _ _ _
      | exact LeO.none _
      | refine LeO.ite ?_ ?_
      | refine LeO.bind ?_ (fun _ => ?_)
    · intro y0 y1 y2 y3
      unfold laws_FnExactFind.j2
      repeat' first
      | (with_reducible exact ih0 _ _ _ _ _ _ _ _ _ _)
      | (with_reducible exact ih1 _ _ _ _ _ _ _ _)
      | (with_reducible exact ih2 _ _ _ _)
      | (with_reducible exact impl_Find.mono _ _ _)
      | (with_reducible exact laws_eqEntryS.mono _ _ _)
      | (with_reducible exact laws_eqShape.mono _ _ _ _ _)
      | (with_reducible exact laws_heldShape.mono _ _ _ _)
      | (with_reducible exact laws_markEntryS.mono _ _ _)
      | (with_reducible exact laws_markShape.mono _ _ _)
      | (with_reducible exact laws_szEntryS.mono _ _ _)
      | (with_reducible exact laws_toEntryS.mono _ _)
      | (with_reducible exact spec_Find.mono _ _ _)
      | (with_reducible exact LeO.refl _)
      | (with_reducible exact LeO.none _)
      | (with_reducible refine LeO.ite ?_ ?_)
      | (with_reducible refine LeO.bind ?_ (fun _ => ?_))
      | exact ih0 _ _ _ _ _ _ _ _ _ _
      | exact ih1 _ _ _ _ _ _ _ _
      | exact ih2 _ _ _ _
      | exact impl_Find.mono _ _ _
      | exact laws_eqEntryS.mono _ _ _
      | exact laws_eqShape.mono _ _ _ _ _
      | exact laws_heldShape.mono _ _ _ _
      | exact laws_markEntryS.mono _ _ _
      | exact laws_markShape.mono _ _ _
      | exact laws_szEntryS.mono _ _ _
      | exact laws_toEntryS.mono _ _
      | exact spec_Find.mono _ _ _
      | exact LeO.none _
      | refine LeO.ite ?_ ?_
      | refine LeO.bind ?_ (fun _ => ?_)
theorem laws_FnExactFind.mono : ∀ a0 a1 k, LeO (laws_FnExactFind.f k a0 a1) (laws_FnExactFind.f (k + 1) a0 a1) := by
  intro a0 a1 k
  obtain ⟨ih0, ih1, ih2⟩ := laws_FnExactFind.mono_l k
  unfold laws_FnExactFind.f
  repeat' first
      | (with_reducible exact ih0 _ _ _ _ _ _ _ _ _ _)
      | (with_reducible exact ih1 _ _ _ _ _ _ _ _)
      | (with_reducible exact ih2 _ _ _ _)
      | (with_reducible exact impl_Find.mono _ _ _)
      | (with_reducible exact laws_eqEntryS.mono _ _ _)
      | (with_reducible exact laws_eqShape.mono _ _ _ _ _)
      | (with_reducible exact laws_heldShape.mono _ _ _ _)
      | (with_reducible exact laws_markEntryS.mono _ _ _)
      | (with_reducible exact laws_markShape.mono _ _ _)
      | (with_reducible exact laws_szEntryS.mono _ _ _)
      | (with_reducible exact laws_toEntryS.mono _ _)
      | (with_reducible exact spec_Find.mono _ _ _)
      | (with_reducible exact LeO.refl _)
      | (with_reducible exact LeO.none _)
      | (with_reducible refine LeO.ite ?_ ?_)
      | (with_reducible refine LeO.bind ?_ (fun _ => ?_))
      | exact ih0 _ _ _ _ _ _ _ _ _ _
      | exact ih1 _ _ _ _ _ _ _ _
      | exact ih2 _ _ _ _
      | exact impl_Find.mono _ _ _
      | exact laws_eqEntryS.mono _ _ _
      | exact laws_eqShape.mono _ _ _ _ _
      | exact laws_heldShape.mono _ _ _ _
      | exact laws_markEntryS.mono _ _ _
      | exact laws_markShape.mono _ _ _
      | exact laws_szEntryS.mono _ _ _
      | exact laws_toEntryS.mono _ _
      | exact spec_Find.mono _ _ _
      | exact LeO.none _
      | refine LeO.ite ?_ ?_
      | refine LeO.bind ?_ (fun _ => ?_)
theorem find_name1 {W w2 : World} {b0 bw : Nat} {okx okw : Nat → Prop} {vx vw : Value} {lx : List S106} {lw : List (List S73)} (hb : Below W.heap.size W w2) (hx : Kd.R k106 106 w2 W.heap.size okx vx lx) (hw : Kd.S (Kd.slice 73 k73) 134 W bw okw vw lw) (hl : b0 ≤ W.heap.size) :
    ∃ N : Nat, b0 ≤ N ∧ Kd.R k106 106 w2 N okx vx lx ∧ Kd.S (Kd.slice 73 k73) 134 w2 bw (fun k => okw k ∧ k < N) vw lw := ⟨_, hl, hx, Kd.S_below (Kd.S_mono (Kd.S_bound hw) (fun _ h => ⟨h.1, h.2.2.1⟩)) hb⟩
theorem find_name3 {W w2 : World} {b0 bw bx : Nat} {okx okw okg : Nat → Prop} {vx vw vg : Value} {lx : List S106} {lw lg : List (List S73)} (hb : Below W.heap.size W w2) (hg : Kd.S (Kd.slice 73 k73) 134 w2 W.heap.size okg vg lg) (hx : Kd.R k106 106 W bx okx vx lx) (hw : Kd.S (Kd.slice 73 k73) 134 W bw okw vw lw) (hl : b0 ≤ W.heap.size) :
    ∃ N : Nat, b0 ≤ N ∧ Kd.S (Kd.slice 73 k73) 134 w2 N okg vg lg ∧ Kd.R k106 106 w2 bx (fun k => (okx k ∧ k < N) ∧ some k ≠ vg.ownBlock) vx lx ∧ Kd.S (Kd.slice 73 k73) 134 w2 bw (fun k => (okw k ∧ k < N) ∧ some k ≠ vg.ownBlock) vw lw := ⟨_, hl, hg, Kd.R_elder' (Kd.R_mono (Kd.R_bound hx) (fun _ h => ⟨h.1, h.2.2.1⟩)) (Kd.S_base hg) hb, Kd.S_elder' (Kd.S_mono (Kd.S_bound hw) (fun _ h => ⟨h.1, h.2.2.1⟩)) (Kd.S_base hg) hb⟩
set_option maxHeartbeats 8000000 in
set_option maxRecDepth 100000 in
theorem laws_FnExactFind.calls (k : Nat) (A0 : Option Addr) (c0 : Nat) (l0 : List (S104)) (a1 : Int) (r : Bool) (w : World) (hr0 : Kd.C k104 w A0 l0.length l0) (hc0 : l0.length ≤ c0) (h : laws_FnExactFind.f k l0 a1 = some r) (hrt : r = true) :
    Calls Try.prog 7 #[.slice A0 l0.length c0, .int .i64 a1] w fun e w' => e = .returned (.bool r) ∧ Below w.heap.size w w' := by
  have hu55 := Try.underlying55
  have HR0 := Aside0.mk hr0
  have HC0 := Aside0.mk hc0
  clear hr0 hc0
  have HB := Aside0.mk (Below.refl w.heap.size w)
  have H : ((laws_szEntryS.f k l0 1048576).bind fun t229 => (if t229 < 0 then (some true) else ((laws_toEntryS.f k l0).bind fun t230 => ((spec_Find.f k t230 a1).bind fun bt233 => ((laws_toEntryS.f k l0).bind fun t239 => ((impl_Find.f k t239 a1).bind fun bt242 => ((laws_eqShape.f k bt242.1 bt242.2.1 bt233.1 bt233.2.1).bind fun t248 => (if t248 = true then (laws_FnExactFind.j0 k l0 a1 bt233.2.2 t239 bt242.2.2 (bt242.2.2 != bt233.2.2) bt233.1 bt233.2.1 bt242.1 bt242.2.1) else (laws_FnExactFind.j0 k l0 a1 bt233.2.2 t239 bt242.2.2 true bt233.1 bt233.2.1 bt242.1 bt242.2.1))))))))) = some r := h
  clear h
  replace H := Option.bind_eq_some_iff.mp H
  obtain ⟨t229, A30, H⟩ := H
  replace H : (if t229 < 0 then (some true) else ((laws_toEntryS.f k l0).bind fun t230 => ((spec_Find.f k t230 a1).bind fun bt233 => ((laws_toEntryS.f k l0).bind fun t239 => ((impl_Find.f k t239 a1).bind fun bt242 => ((laws_eqShape.f k bt242.1 bt242.2.1 bt233.1 bt233.2.1).bind fun t248 => (if t248 = true then (laws_FnExactFind.j0 k l0 a1 bt233.2.2 t239 bt242.2.2 (bt242.2.2 != bt233.2.2) bt233.1 bt233.2.1 bt242.1 bt242.2.1) else (laws_FnExactFind.j0 k l0 a1 bt233.2.2 t239 bt242.2.2 true bt233.1 bt233.2.1 bt242.1 bt242.2.1)))))))) = some r := H
  have A3 := Aside0.mk A30
  clear A30
  by_cases c4 : t229 < 0
  · rw [if_pos c4] at H
    have c4b0 : decide (t229 < 0) = true := decide_eq_true c4
    clear c4
    obtain rfl := Option.some.inj H
    go_enter Try.func7, Try.ntmps7
    go_wp2_with (first | ((with_reducible refine gate_callee (f := 32) rfl ?_); refine goesL_ (some 18) rfl rfl Try.func32 (by kernel_rfl) rfl #[.slice A0 l0.length c0, .int .i64 1048576] rfl (by (try simp only [List.map_toArray, List.map_cons, List.map_nil]); first | done | rfl | (simp only [List.length_drop, List.length_take]; rfl)) ?_; (with_reducible refine (laws_szEntryS.calls k _ _ l0 1048576 t229 _ ?side1 ?side2 A3.out).mono ?_); (case side1 => repeat (first | exact HR0.out | (with_reducible refine Kd.C_alloc ?_ _) | (with_reducible refine Kd.C_drewN ?_ _) | (with_reducible refine Kd.C_drew ?_))); (case side2 => exact HC0.out); rintro e w5 ⟨rfl, hb⟩; refine ⟨_, rfl, ?_⟩; have n0_ := Aside0.mk (below_step (by repeat (first | (with_reducible first | exact HB.out | apply below_alloc | apply pw_below_drewN | apply below_drew1) | exact HB.out)) hb); clear HB; have HB := n0_; clear n0_; (try clear hb); (try clear hb2); (try clear hk); (try clear hi)))
    go_ret
    exact ⟨by first | rfl | (simp [errW_none, errW_some] <;> rfl) | (simp [*, errW_none, errW_some] <;> rfl), by repeat (first | (with_reducible first | exact HB.out | apply below_alloc | apply pw_below_drewN | apply below_drew1) | exact HB.out)⟩
  · rw [if_neg c4] at H
    have c4b0 : decide (t229 < 0) = false := decide_eq_false c4
    clear c4
    replace H := Option.bind_eq_some_iff.mp H
    obtain ⟨t230, A60, H⟩ := H
    replace H : ((spec_Find.f k t230 a1).bind fun bt233 => ((laws_toEntryS.f k l0).bind fun t239 => ((impl_Find.f k t239 a1).bind fun bt242 => ((laws_eqShape.f k bt242.1 bt242.2.1 bt233.1 bt233.2.1).bind fun t248 => (if t248 = true then (laws_FnExactFind.j0 k l0 a1 bt233.2.2 t239 bt242.2.2 (bt242.2.2 != bt233.2.2) bt233.1 bt233.2.1 bt242.1 bt242.2.1) else (laws_FnExactFind.j0 k l0 a1 bt233.2.2 t239 bt242.2.2 true bt233.1 bt233.2.1 bt242.1 bt242.2.1)))))) = some r := H
    have A6 := Aside0.mk A60
    clear A60
    replace H := Option.bind_eq_some_iff.mp H
    obtain ⟨⟨t233, t234, t237⟩, A70, H⟩ := H
    replace H : ((laws_toEntryS.f k l0).bind fun t239 => ((impl_Find.f k t239 a1).bind fun bt242 => ((laws_eqShape.f k bt242.1 bt242.2.1 t233 t234).bind fun t248 => (if t248 = true then (laws_FnExactFind.j0 k l0 a1 t237 t239 bt242.2.2 (bt242.2.2 != t237) t233 t234 bt242.1 bt242.2.1) else (laws_FnExactFind.j0 k l0 a1 t237 t239 bt242.2.2 true t233 t234 bt242.1 bt242.2.1))))) = some r := H
    have A7 := Aside0.mk A70
    clear A70
    replace H := Option.bind_eq_some_iff.mp H
    obtain ⟨t239, A80, H⟩ := H
    replace H : ((impl_Find.f k t239 a1).bind fun bt242 => ((laws_eqShape.f k bt242.1 bt242.2.1 t233 t234).bind fun t248 => (if t248 = true then (laws_FnExactFind.j0 k l0 a1 t237 t239 bt242.2.2 (bt242.2.2 != t237) t233 t234 bt242.1 bt242.2.1) else (laws_FnExactFind.j0 k l0 a1 t237 t239 bt242.2.2 true t233 t234 bt242.1 bt242.2.1)))) = some r := H
    have A8 := Aside0.mk A80
    clear A80
    replace H := Option.bind_eq_some_iff.mp H
    obtain ⟨⟨t242, t243, t246⟩, A90, H⟩ := H
    replace H : ((laws_eqShape.f k t242 t243 t233 t234).bind fun t248 => (if t248 = true then (laws_FnExactFind.j0 k l0 a1 t237 t239 t246 (t246 != t237) t233 t234 t242 t243) else (laws_FnExactFind.j0 k l0 a1 t237 t239 t246 true t233 t234 t242 t243))) = some r := H
    have A9 := Aside0.mk A90
    clear A90
    have HC10 := Aside0.mk H
    clear H
    go_enter Try.func7, Try.ntmps7
    go_upto_region 8 with (first | ((with_reducible refine gate_callee (f := 32) rfl ?_); refine goesL_ (some 18) rfl rfl Try.func32 (by kernel_rfl) rfl #[.slice A0 l0.length c0, .int .i64 1048576] rfl (by (try simp only [List.map_toArray, List.map_cons, List.map_nil]); first | done | rfl | (simp only [List.length_drop, List.length_take]; rfl)) ?_; (with_reducible refine (laws_szEntryS.calls k _ _ l0 1048576 t229 _ ?side1 ?side2 A3.out).mono ?_); (case side1 => repeat (first | exact HR0.out | (with_reducible refine Kd.C_alloc ?_ _) | (with_reducible refine Kd.C_drewN ?_ _) | (with_reducible refine Kd.C_drew ?_))); (case side2 => exact HC0.out); rintro e w11 ⟨rfl, hb⟩; refine ⟨_, rfl, ?_⟩; have n0_ := Aside0.mk (below_step (by repeat (first | (with_reducible first | exact HB.out | apply below_alloc | apply pw_below_drewN | apply below_drew1) | exact HB.out)) hb); clear HB; have HB := n0_; clear n0_; (try clear hb); (try clear hb2); (try clear hk); (try clear hi)) | ((with_reducible refine gate_callee (f := 34) rfl ?_); refine goesL_ (some 23) rfl rfl Try.func34 (by kernel_rfl) rfl #[.slice A0 l0.length c0] rfl (by (try simp only [List.map_toArray, List.map_cons, List.map_nil]); first | done | rfl | (simp only [List.length_drop, List.length_take]; rfl)) ?_; (with_reducible refine (laws_toEntryS.calls k _ _ l0 t230 _ ?side1 ?side2 A6.out).mono ?_); (case side1 => repeat (first | exact (Kd.C_below HR0.out HB.out) | (with_reducible refine Kd.C_alloc ?_ _) | (with_reducible refine Kd.C_drewN ?_ _) | (with_reducible refine Kd.C_drew ?_))); (case side2 => exact HC0.out); rintro e w12 ⟨v231, rfl, ho0, hb⟩; refine ⟨_, rfl, ?_⟩; have n0_ := Aside0.mk (Kd.R_lower ho0 (below_size (by repeat (first | (with_reducible first | exact HB.out | apply below_alloc | apply pw_below_drewN | apply below_drew1) | exact HB.out)))); have n1_ := Aside0.mk (below_step (by repeat (first | (with_reducible first | exact HB.out | apply below_alloc | apply pw_below_drewN | apply below_drew1) | exact HB.out)) hb); clear HB; have HO232 := n0_; have HB := n1_; clear n0_ n1_; (try clear hb); (try clear hb2); (try clear hk); (try clear hi); (try clear ho0); obtain ⟨Ao13, co13, eo13⟩ := Kd.R_slice HO232.out; subst eo13) | ((with_reducible refine gate_callee (f := 33) rfl ?_); refine goesL_ (some 25) rfl rfl Try.func33 (by kernel_rfl) rfl #[.slice Ao13 t230.length co13, .int .i64 a1] rfl (by (try simp only [List.map_toArray, List.map_cons, List.map_nil]); first | done | rfl | (simp only [List.length_drop, List.length_take]; rfl)) ?_; (with_reducible refine (spec_Find.calls k _ _ t230 a1 t233 t234 t237 _ ?side1 ?side2 A7.out).mono ?_); (case side1 => repeat (first | exact (Kd.R_reads' HO232.out).2.2 | (with_reducible refine Kd.C_alloc ?_ _) | (with_reducible refine Kd.C_drewN ?_ _) | (with_reducible refine Kd.C_drew ?_))); (case side2 => exact (Kd.R_reads' HO232.out).2.1); rintro e w14 ⟨v235, rfl, ho0, hb⟩; refine ⟨_, rfl, ?_⟩; have n0_ := Aside0.mk (Kd.R_elder' (by (with_reducible repeat (first | apply Kd.R_alloc | apply Kd.R_drewN | apply Kd.R_drew)); exact HO232.out) (Kd.S_base ho0) hb); have n1_ := Aside0.mk (Kd.S_lower ho0 (below_size (by repeat (first | (with_reducible first | exact HB.out | apply below_alloc | apply pw_below_drewN | apply below_drew1) | exact HB.out)))); have n2_ := Aside0.mk (below_step (by repeat (first | (with_reducible first | exact HB.out | apply below_alloc | apply pw_below_drewN | apply below_drew1) | exact HB.out)) hb); clear HO232; clear HB; have HO232 := n0_; have HO236 := n1_; have HB := n2_; clear n0_ n1_ n2_; (try clear hb); (try clear hb2); (try clear hk); (try clear hi); (try clear ho0)) | ((with_reducible refine gate_dst (N := 6) rfl ?_); refine box_event ?hg (N := 6) ?hd (cs := #[.int .i64 0, .slice none 0 0]) (t := 55) ?hr ?_; (case hd => rfl); (case hg => rfl); (case hr => first | (go_simp; done) | (go_simp; rfl)); intro gb238 hg w15 hbox hb; have n0_ := Aside0.mk (Kd.R_below (by (with_reducible repeat (first | apply Kd.R_alloc | apply Kd.R_drewN | apply Kd.R_drew)); exact HO232.out) hb); have n1_ := Aside0.mk (Kd.S_below (by (with_reducible repeat (first | apply Kd.S_alloc | apply Kd.S_drewN | apply Kd.S_drew)); exact HO236.out) hb); have n2_ := Aside0.mk (below_step (by repeat (first | (with_reducible first | exact HB.out | apply below_alloc | apply pw_below_drewN | apply below_drew1) | exact HB.out)) hb); have n3_ := Aside0.mk (hbox); have n4_ := Aside0.mk ((by rw [hg]; exact (below_size (by repeat (first | (with_reducible first | exact HB.out | apply below_alloc | apply pw_below_drewN | apply below_drew1) | exact HB.out))) : w.heap.size ≤ gb238)); have n5_ := Aside0.mk ((by rw [hg]; exact (below_size (by repeat (first | (with_reducible first | exact HB.out | apply below_alloc | apply pw_below_drewN | apply below_drew1) | exact HB.out))) : w.heap.size ≤ gb238)); clear HO232; clear HO236; clear HB; have HO232 := n0_; have HO236 := n1_; have HB := n2_; have BK238 := n3_; have GW238 := n4_; have GE238 := n5_; clear n0_ n1_ n2_ n3_ n4_ n5_; clear hb hbox hg; have hcz16_0 : w15.cell? ⟨gb238, 0, none⟩ = some (.int .i64 0) := (blk_cell BK238.out 0).trans rfl; have hcz16_1 : w15.cell? ⟨gb238, 1, none⟩ = some (.slice none 0 0) := (blk_cell BK238.out 1).trans rfl; have hfz16_0 := blk_frozen BK238.out 0; have hfz16_1 := blk_frozen BK238.out 1; obtain ⟨Ao17, co17, eo17⟩ := Kd.S_slice HO236.out; subst eo17) | ((with_reducible refine gate_callee (f := 34) rfl ?_); refine goesL_ (some 29) rfl rfl Try.func34 (by kernel_rfl) rfl #[.slice A0 l0.length c0] rfl (by (try simp only [List.map_toArray, List.map_cons, List.map_nil]); first | done | rfl | (simp only [List.length_drop, List.length_take]; rfl)) ?_; (with_reducible refine (laws_toEntryS.calls k _ _ l0 t239 _ ?side1 ?side2 A8.out).mono ?_); (case side1 => exact Kd.C_below HR0.out (by repeat (first | (with_reducible first | exact HB.out | apply below_alloc | apply pw_below_drewN | apply below_drew1 | refine below_set ?_ GE238.out) | exact HB.out))); (case side2 => exact HC0.out); rintro e w18 ⟨v240, rfl, ho0, hb⟩; refine ⟨_, rfl, ?_⟩; have n0_ := Aside0.mk (Kd.R_elder' (by (with_reducible repeat (first | apply Kd.R_alloc | apply Kd.R_drewN | apply Kd.R_drew)); exact (Kd.R_mono (Kd.R_far (p := ⟨gb238, 1, none⟩) (Kd.R_far (p := ⟨gb238, 0, none⟩) (Kd.R_types HO232.out BK238.out (by decide)) (fun _ hk => hk.2) (.int .i64 t233)) (fun _ hk => hk.2) (.slice Ao17 t234.length co17)) (fun _ h_ => h_.1))) (Kd.R_base ho0) hb); obtain ⟨N1_, LN1_, n2_, n1_⟩ := find_name1 (b0 := w.heap.size) hb (Kd.R_new' (Kd.R_new' ho0 (Kd.R_lt (by (with_reducible repeat (first | apply Kd.R_alloc | apply Kd.R_drewN | apply Kd.R_drew)); exact (Kd.R_mono (Kd.R_far (p := ⟨gb238, 1, none⟩) (Kd.R_far (p := ⟨gb238, 0, none⟩) (Kd.R_types HO232.out BK238.out (by decide)) (fun _ hk => hk.2) (.int .i64 t233)) (fun _ hk => hk.2) (.slice Ao17 t234.length co17)) (fun _ h_ => h_.1))))) (Kd.S_lt (by (with_reducible repeat (first | apply Kd.S_alloc | apply Kd.S_drewN | apply Kd.S_drew)); exact (Kd.S_mono (Kd.S_far (p := ⟨gb238, 1, none⟩) (Kd.S_far (p := ⟨gb238, 0, none⟩) (Kd.S_types HO236.out BK238.out (by decide)) (fun _ hk => hk.2) (.int .i64 t233)) (fun _ hk => hk.2) (.slice Ao17 t234.length co17)) (fun _ h_ => h_.1))))) (by (with_reducible repeat (first | apply Kd.S_alloc | apply Kd.S_drewN | apply Kd.S_drew)); exact (Kd.S_mono (Kd.S_far (p := ⟨gb238, 1, none⟩) (Kd.S_far (p := ⟨gb238, 0, none⟩) (Kd.S_types HO236.out BK238.out (by decide)) (fun _ hk => hk.2) (.int .i64 t233)) (fun _ hk => hk.2) (.slice Ao17 t234.length co17)) (fun _ h_ => h_.1))) (below_size (by repeat (first | (with_reducible first | exact HB.out | apply below_alloc | apply pw_below_drewN | apply below_drew1 | refine below_set ?_ GE238.out) | exact HB.out))); have LN1_ := Aside0.mk LN1_; have n2_ := Aside0.mk n2_; have n1_ := Aside0.mk n1_; have n3_ := Aside0.mk (blk_below (g := gb238) (o := .cells #[.int .i64 t233, .slice Ao17 t234.length co17] 55 (0, 0)) (by (with_reducible repeat (first | refine blk_drewN ?_ _ | refine blk_drew ?_ | refine blk_alloc ?_ _)); refine blk_put (cs := #[.int .i64 t233, .slice none 0 0]) ?_ 1 _ rfl; (with_reducible repeat (first | refine blk_drewN ?_ _ | refine blk_drew ?_ | refine blk_alloc ?_ _)); refine blk_put (cs := #[.int .i64 0, .slice none 0 0]) ?_ 0 _ rfl; (with_reducible repeat (first | refine blk_drewN ?_ _ | refine blk_drew ?_ | refine blk_alloc ?_ _)); exact BK238.out) hb); have n4_ := Aside0.mk (below_step (by repeat (first | (with_reducible first | exact HB.out | apply below_alloc | apply pw_below_drewN | apply below_drew1 | refine below_set ?_ GE238.out) | exact HB.out)) hb); clear HO232; clear HO236; clear BK238; clear HB; have HO232 := n0_; have HO236 := n1_; have HO241 := n2_; have BK238 := n3_; have HB := n4_; clear n0_ n1_ n2_ n3_ n4_; (try clear hb); (try clear hb2); (try clear hk); (try clear hi); (try clear ho0); obtain ⟨Ao19, co19, eo19⟩ := Kd.R_slice HO241.out; subst eo19) | ((with_reducible refine gate_callee (f := 35) rfl ?_); refine goesL_ (some 33) rfl rfl Try.func35 (by kernel_rfl) rfl #[.slice Ao19 t239.length co19, .int .i64 a1] rfl (by (try simp only [List.map_toArray, List.map_cons, List.map_nil]); first | done | rfl | (simp only [List.length_drop, List.length_take]; rfl)) ?_; (with_reducible refine (impl_Find.calls k _ _ t239 a1 t242 t243 t246 _ ?side1 ?side2 A9.out).mono ?_); (case side1 => repeat (first | exact (Kd.R_reads' HO241.out).2.2 | (with_reducible refine Kd.C_alloc ?_ _) | (with_reducible refine Kd.C_drewN ?_ _) | (with_reducible refine Kd.C_drew ?_))); (case side2 => exact (Kd.R_reads' HO241.out).2.1); rintro e w20 ⟨v244, rfl, ho0, hb⟩; refine ⟨_, rfl, ?_⟩; have n0_ := Aside0.mk (Kd.R_elder' (by (with_reducible repeat (first | apply Kd.R_alloc | apply Kd.R_drewN | apply Kd.R_drew)); exact HO232.out) (Kd.S_base ho0) hb); obtain ⟨N3_, LN3_, n3_, n2_, n1_⟩ := find_name3 (b0 := w.heap.size) hb (Kd.S_new' ho0 (Kd.S_lt (by (with_reducible repeat (first | apply Kd.S_alloc | apply Kd.S_drewN | apply Kd.S_drew)); exact HO236.out))) (by (with_reducible repeat (first | apply Kd.R_alloc | apply Kd.R_drewN | apply Kd.R_drew)); exact HO241.out) (by (with_reducible repeat (first | apply Kd.S_alloc | apply Kd.S_drewN | apply Kd.S_drew)); exact HO236.out) (below_size (by repeat (first | (with_reducible first | exact HB.out | apply below_alloc | apply pw_below_drewN | apply below_drew1 | refine below_set ?_ GE238.out) | exact HB.out))); have n2_ := Aside0.mk n2_; have n1_ := Aside0.mk n1_; have LN3_ := Aside0.mk LN3_; have n3_ := Aside0.mk n3_; have n4_ := Aside0.mk (blk_below (g := gb238) (o := .cells #[.int .i64 t233, .slice Ao17 t234.length co17] 55 (0, 0)) (by (with_reducible repeat (first | refine blk_drewN ?_ _ | refine blk_drew ?_ | refine blk_alloc ?_ _)); exact BK238.out) hb); have n5_ := Aside0.mk (below_step (by repeat (first | (with_reducible first | exact HB.out | apply below_alloc | apply pw_below_drewN | apply below_drew1 | refine below_set ?_ GE238.out) | exact HB.out)) hb); clear HO232; clear HO236; clear HO241; clear BK238; clear HB; have HO232 := n0_; have HO236 := n1_; have HO241 := n2_; have HO245 := n3_; have BK238 := n4_; have HB := n5_; clear n0_ n1_ n2_ n3_ n4_ n5_; (try clear hb); (try clear hb2); (try clear hk); (try clear hi); (try clear ho0)) | ((with_reducible refine gate_dst (N := 9) rfl ?_); refine box_event ?hg (N := 9) ?hd (cs := #[.int .i64 0, .slice none 0 0]) (t := 55) ?hr ?_; (case hd => rfl); (case hg => rfl); (case hr => first | (go_simp; done) | (go_simp; rfl)); intro gb247 hg w21 hbox hb; have n0_ := Aside0.mk (Kd.R_below (by (with_reducible repeat (first | apply Kd.R_alloc | apply Kd.R_drewN | apply Kd.R_drew)); exact HO232.out) hb); have n1_ := Aside0.mk (Kd.S_below (by (with_reducible repeat (first | apply Kd.S_alloc | apply Kd.S_drewN | apply Kd.S_drew)); exact HO236.out) hb); have n2_ := Aside0.mk (Kd.R_below (by (with_reducible repeat (first | apply Kd.R_alloc | apply Kd.R_drewN | apply Kd.R_drew)); exact HO241.out) hb); have n3_ := Aside0.mk (Kd.S_below (by (with_reducible repeat (first | apply Kd.S_alloc | apply Kd.S_drewN | apply Kd.S_drew)); exact HO245.out) hb); have n4_ := Aside0.mk (blk_below (g := gb238) (o := .cells #[.int .i64 t233, .slice Ao17 t234.length co17] 55 (0, 0)) (by (with_reducible repeat (first | refine blk_drewN ?_ _ | refine blk_drew ?_ | refine blk_alloc ?_ _)); exact BK238.out) hb); have n5_ := Aside0.mk (below_step (by repeat (first | (with_reducible first | exact HB.out | apply below_alloc | apply pw_below_drewN | apply below_drew1 | refine below_set ?_ GE238.out) | exact HB.out)) hb); have n6_ := Aside0.mk (hbox); have n7_ := Aside0.mk ((by rw [hg]; exact (below_size (by repeat (first | (with_reducible first | exact HB.out | apply below_alloc | apply pw_below_drewN | apply below_drew1 | refine below_set ?_ GE238.out) | exact HB.out))) : w.heap.size ≤ gb247)); have n8_ := Aside0.mk ((by rw [hg]; exact (below_size (by repeat (first | (with_reducible first | exact HB.out | apply below_alloc | apply pw_below_drewN | apply below_drew1 | refine below_set ?_ GE238.out) | exact HB.out))) : w.heap.size ≤ gb247)); have n9_ := Aside0.mk ((by rw [hg]; exact Nat.ne_of_lt (blk_lt (g := gb238) (o := .cells #[.int .i64 t233, .slice Ao17 t234.length co17] 55 (0, 0)) (by (with_reducible repeat (first | refine blk_drewN ?_ _ | refine blk_drew ?_ | refine blk_alloc ?_ _)); exact BK238.out)) : gb238 ≠ gb247)); have n10_ := Aside0.mk ((by rw [hg]; exact Nat.ne_of_gt (blk_lt (g := gb238) (o := .cells #[.int .i64 t233, .slice Ao17 t234.length co17] 55 (0, 0)) (by (with_reducible repeat (first | refine blk_drewN ?_ _ | refine blk_drew ?_ | refine blk_alloc ?_ _)); exact BK238.out)) : gb247 ≠ gb238)); clear HO232; clear HO236; clear HO241; clear HO245; clear BK238; clear HB; have HO232 := n0_; have HO236 := n1_; have HO241 := n2_; have HO245 := n3_; have BK238 := n4_; have HB := n5_; have BK247 := n6_; have GW247 := n7_; have GE247 := n8_; have NB238_247 := n9_; have NB247_238 := n10_; clear n0_ n1_ n2_ n3_ n4_ n5_ n6_ n7_ n8_ n9_ n10_; clear hb hbox hg; have hnb22 := NB247_238.out; have hnc22 := NB238_247.out; have hcz23_0 : w21.cell? ⟨gb247, 0, none⟩ = some (.int .i64 0) := (blk_cell BK247.out 0).trans rfl; have hcz23_1 : w21.cell? ⟨gb247, 1, none⟩ = some (.slice none 0 0) := (blk_cell BK247.out 1).trans rfl; have hfz23_0 := blk_frozen BK247.out 0; have hfz23_1 := blk_frozen BK247.out 1; obtain ⟨Ao24, co24, eo24⟩ := Kd.S_slice HO245.out; subst eo24))
    (try simp only [Act.put, List.setIfInBounds_toArray, List.set_cons_zero, List.set_cons_succ])
    go_cut [44] (fun v44 wc => ∃ (kq : Nat) (x44_9 : Bool), v44 = .bool x44_9 ∧ Aside0 (laws_FnExactFind.j0 kq l0 a1 t237 t239 t246 x44_9 t233 t234 t242 t243 = some r) ∧ Aside0 (kq ≤ k) ∧ Aside0 (Kd.R k106 106 wc N1_ (fun k_ => some k_ ≠ ((.slice Ao17 t234.length co17) : Value).ownBlock ∧ some k_ ≠ ((.slice Ao24 t243.length co24) : Value).ownBlock ∧ k_ < N3_) (.slice Ao19 t239.length co19) t239) ∧ Aside0 (Kd.S (Kd.slice 73 k73) 134 wc w.heap.size (fun k_ => some k_ ≠ ((.slice Ao24 t243.length co24) : Value).ownBlock ∧ k_ < N1_ ∧ k_ < N3_) (.slice Ao17 t234.length co17) t234) ∧ Aside0 (Kd.S (Kd.slice 73 k73) 134 wc N3_ (fun k_ => some k_ ≠ ((.slice Ao17 t234.length co17) : Value).ownBlock) (.slice Ao24 t243.length co24) t243) ∧ Aside0 (wc.heap[gb238]? = some (.cells #[.int .i64 t233, (.slice Ao17 t234.length co17)] 55 (0, 0))) ∧ Aside0 (wc.heap[gb247]? = some (.cells #[.int .i64 t242, (.slice Ao24 t243.length co24)] 55 (0, 0))) ∧ Aside0 (Below w.heap.size w wc))
    case first =>
      have H := HC10.out
      clear HC10
      replace H := Option.bind_eq_some_iff.mp H
      obtain ⟨t248, A250, H⟩ := H
      replace H : (if t248 = true then (laws_FnExactFind.j0 k l0 a1 t237 t239 t246 (t246 != t237) t233 t234 t242 t243) else (laws_FnExactFind.j0 k l0 a1 t237 t239 t246 true t233 t234 t242 t243)) = some r := H
      have A25 := Aside0.mk A250
      clear A250
      by_cases c26 : t248 = true
      · subst c26
        have H1 : (laws_FnExactFind.j0 k l0 a1 t237 t239 t246 (t246 != t237) t233 t234 t242 t243) = some r := by rw [if_pos rfl] at H; exact H
        clear H
        have H := H1
        clear H1
        have H' := Aside0.mk H
        clear H
        have hnb27 := NB247_238.out
        have hnc27 := NB238_247.out
        have hcz28_0 : w21.cell? ⟨gb247, 0, none⟩ = some (.int .i64 0) := (blk_cell BK247.out 0).trans rfl
        have hcz28_1 : w21.cell? ⟨gb247, 1, none⟩ = some (.slice none 0 0) := (blk_cell BK247.out 1).trans rfl
        have hfz28_0 := blk_frozen BK247.out 0
        have hfz28_1 := blk_frozen BK247.out 1
        have hcz29_0 : w21.cell? ⟨gb238, 0, none⟩ = some (.int .i64 t233) := (blk_cell BK238.out 0).trans rfl
        have hcz29_1 : w21.cell? ⟨gb238, 1, none⟩ = some (.slice Ao17 t234.length co17) := (blk_cell BK238.out 1).trans rfl
        have hfz29_0 := blk_frozen BK238.out 0
        have hfz29_1 := blk_frozen BK238.out 1
        go_wp2_with (first | ((with_reducible refine gate_callee (f := 36) rfl ?_); refine goesL_ (some 38) rfl rfl Try.func36 (by kernel_rfl) rfl #[.agg #[.int .i64 t242, .slice Ao24 t243.length co24], .agg #[.int .i64 t233, .slice Ao17 t234.length co17]] rfl (by (try simp only [List.map_toArray, List.map_cons, List.map_nil]); first | done | rfl | (simp only [List.length_drop, List.length_take]; rfl)) ?_; (with_reducible refine (laws_eqShape.calls k t242 _ _ t243 t233 _ _ t234 true _ ?side1 ?side2 ?side3 ?side4 A25.out).mono ?_); (case side1 => refine (Kd.S_reads' (e := 134) (base := N3_) (ok := fun k_ => (True ∧ some k_ ≠ (.slice Ao17 t234.length co17 : Value).ownBlock)) (n := t243.length) (c := co24) ?_).2.2; exact (by (with_reducible repeat (first | apply Kd.S_alloc | apply Kd.S_drewN | apply Kd.S_drew)); exact (Kd.S_mono (Kd.S_far (p := ⟨gb247, 1, none⟩) (Kd.S_far (p := ⟨gb247, 0, none⟩) (Kd.S_types HO245.out BK247.out (by decide)) (fun _ hk => hk.2) (.int .i64 t242)) (fun _ hk => hk.2) (.slice Ao24 t243.length co24)) (fun k_ hk_ => by (revert hk_; (try simp only [and_imp]); intros; (repeat' (first | (with_reducible assumption) | (with_reducible refine And.intro ?_ ?_)))))))); (case side2 => exact (Kd.S_reads' HO245.out).2.1); (case side3 => refine (Kd.S_reads' (e := 134) (base := w.heap.size) (ok := fun k_ => (True ∧ some k_ ≠ (.slice Ao24 t243.length co24 : Value).ownBlock)) (n := t234.length) (c := co17) ?_).2.2; exact (by (with_reducible repeat (first | apply Kd.S_alloc | apply Kd.S_drewN | apply Kd.S_drew)); exact (Kd.S_mono (Kd.S_far (p := ⟨gb247, 1, none⟩) (Kd.S_far (p := ⟨gb247, 0, none⟩) (Kd.S_types HO236.out BK247.out (by decide)) (fun _ hk => hk.2) (.int .i64 t242)) (fun _ hk => hk.2) (.slice Ao24 t243.length co24)) (fun k_ hk_ => by (revert hk_; (try simp only [and_imp]); intros; (repeat' (first | (with_reducible assumption) | (with_reducible refine And.intro ?_ ?_)))))))); (case side4 => exact (Kd.S_reads' HO236.out).2.1); rintro e w30 ⟨rfl, hb⟩; refine ⟨_, rfl, ?_⟩; have n0_ := Aside0.mk (Kd.R_below (by (with_reducible repeat (first | apply Kd.R_alloc | apply Kd.R_drewN | apply Kd.R_drew)); exact (Kd.R_mono (Kd.R_far (p := ⟨gb247, 1, none⟩) (Kd.R_far (p := ⟨gb247, 0, none⟩) (Kd.R_types HO232.out BK247.out (by decide)) (fun _ hk => hk.2) (.int .i64 t242)) (fun _ hk => hk.2) (.slice Ao24 t243.length co24)) (fun _ h_ => h_.1))) hb); have n1_ := Aside0.mk (Kd.S_below (by (with_reducible repeat (first | apply Kd.S_alloc | apply Kd.S_drewN | apply Kd.S_drew)); exact (Kd.S_mono (Kd.S_far (p := ⟨gb247, 1, none⟩) (Kd.S_far (p := ⟨gb247, 0, none⟩) (Kd.S_types HO236.out BK247.out (by decide)) (fun _ hk => hk.2) (.int .i64 t242)) (fun _ hk => hk.2) (.slice Ao24 t243.length co24)) (fun _ h_ => h_.1))) hb); have n2_ := Aside0.mk (Kd.R_below (by (with_reducible repeat (first | apply Kd.R_alloc | apply Kd.R_drewN | apply Kd.R_drew)); exact (Kd.R_mono (Kd.R_far (p := ⟨gb247, 1, none⟩) (Kd.R_far (p := ⟨gb247, 0, none⟩) (Kd.R_types HO241.out BK247.out (by decide)) (fun _ hk => hk.2) (.int .i64 t242)) (fun _ hk => hk.2) (.slice Ao24 t243.length co24)) (fun _ h_ => h_.1))) hb); have n3_ := Aside0.mk (Kd.S_below (by (with_reducible repeat (first | apply Kd.S_alloc | apply Kd.S_drewN | apply Kd.S_drew)); exact (Kd.S_mono (Kd.S_far (p := ⟨gb247, 1, none⟩) (Kd.S_far (p := ⟨gb247, 0, none⟩) (Kd.S_types HO245.out BK247.out (by decide)) (fun _ hk => hk.2) (.int .i64 t242)) (fun _ hk => hk.2) (.slice Ao24 t243.length co24)) (fun _ h_ => h_.1))) hb); have n4_ := Aside0.mk (blk_below (g := gb238) (o := .cells #[.int .i64 t233, .slice Ao17 t234.length co17] 55 (0, 0)) (by (with_reducible repeat (first | refine blk_drewN ?_ _ | refine blk_drew ?_ | refine blk_alloc ?_ _)); refine blk_far ?_ NB238_247.out _; (with_reducible repeat (first | refine blk_drewN ?_ _ | refine blk_drew ?_ | refine blk_alloc ?_ _)); refine blk_far ?_ NB238_247.out _; (with_reducible repeat (first | refine blk_drewN ?_ _ | refine blk_drew ?_ | refine blk_alloc ?_ _)); exact BK238.out) hb); have n5_ := Aside0.mk (blk_below (g := gb247) (o := .cells #[.int .i64 t242, .slice Ao24 t243.length co24] 55 (0, 0)) (by (with_reducible repeat (first | refine blk_drewN ?_ _ | refine blk_drew ?_ | refine blk_alloc ?_ _)); refine blk_put (cs := #[.int .i64 t242, .slice none 0 0]) ?_ 1 _ rfl; (with_reducible repeat (first | refine blk_drewN ?_ _ | refine blk_drew ?_ | refine blk_alloc ?_ _)); refine blk_put (cs := #[.int .i64 0, .slice none 0 0]) ?_ 0 _ rfl; (with_reducible repeat (first | refine blk_drewN ?_ _ | refine blk_drew ?_ | refine blk_alloc ?_ _)); exact BK247.out) hb); have n6_ := Aside0.mk (below_step (by repeat (first | (with_reducible first | exact HB.out | apply below_alloc | apply pw_below_drewN | apply below_drew1 | refine below_set ?_ GE238.out | refine below_set ?_ GE247.out) | exact HB.out)) hb); clear HO232; clear HO236; clear HO241; clear HO245; clear BK238; clear BK247; clear HB; have HO232 := n0_; have HO236 := n1_; have HO241 := n2_; have HO245 := n3_; have BK238 := n4_; have BK247 := n5_; have HB := n6_; clear n0_ n1_ n2_ n3_ n4_ n5_ n6_; (try clear hb); (try clear hb2); (try clear hk); (try clear hi)))
        go_meet
        case rel => exact ⟨_, ((t246 != t237)), (by first | rfl | (simp; done) | (simp [*]; done)), H', ⟨by first | omega | exact Nat.le_refl _⟩, ⟨by (with_reducible repeat (first | apply Kd.R_alloc | apply Kd.R_drewN | apply Kd.R_drew)); exact Kd.R_mono HO241.out (fun k_ hk_ => by (revert hk_; (try simp only [and_imp]); intros; (repeat' (first | (with_reducible assumption) | (with_reducible refine And.intro ?_ ?_)))))⟩, ⟨by (with_reducible repeat (first | apply Kd.S_alloc | apply Kd.S_drewN | apply Kd.S_drew)); exact Kd.S_mono HO236.out (fun k_ hk_ => by (revert hk_; (try simp only [and_imp]); intros; (repeat' (first | (with_reducible assumption) | (with_reducible refine And.intro ?_ ?_)))))⟩, ⟨by (with_reducible repeat (first | apply Kd.S_alloc | apply Kd.S_drewN | apply Kd.S_drew)); exact Kd.S_mono HO245.out (fun k_ hk_ => by (revert hk_; (try simp only [and_imp]); intros; (repeat' (first | (with_reducible assumption) | (with_reducible refine And.intro ?_ ?_)))))⟩, ⟨by (with_reducible repeat (first | refine blk_drewN ?_ _ | refine blk_drew ?_ | refine blk_alloc ?_ _)); exact BK238.out⟩, ⟨by (with_reducible repeat (first | refine blk_drewN ?_ _ | refine blk_drew ?_ | refine blk_alloc ?_ _)); exact BK247.out⟩, ⟨by repeat (first | (with_reducible first | exact HB.out | apply below_alloc | apply pw_below_drewN | apply below_drew1 | refine below_set ?_ GE238.out | refine below_set ?_ GE247.out) | exact HB.out)⟩⟩
      · replace c26 := Bool.eq_false_iff.mpr c26
        subst c26
        have H1 : (laws_FnExactFind.j0 k l0 a1 t237 t239 t246 true t233 t234 t242 t243) = some r := by rw [if_neg (show ¬ (false = true) by decide)] at H; exact H
        clear H
        exact by (cases k with | zero => exact absurd H1 (by simp [laws_FnExactFind.j0]) | succ q_ => (exact absurd ((Option.some.inj (show some false = some r from by simpa only [laws_FnExactFind.j0, if_true] using H1)).trans hrt) (by decide)))
    case rest =>
      clear HC10
      try clear c2
      try clear p2
      try clear c3
      try clear c4
      try clear c4b0
      try clear c7
      try clear c22
      try clear c26
      try clear c27
      try clear c31
      try clear c32
      try clear c33
      try clear c34
      try clear hcz16_0
      try clear hcz16_1
      try clear hcz23_0
      try clear hcz23_1
      try clear hcz28_0
      try clear hcz28_1
      try clear hcz29_0
      try clear hcz29_1
      try clear hcz32_0
      try clear hcz32_1
      try clear hcz33_0
      try clear hcz33_1
      try clear hfz16_0
      try clear hfz16_1
      try clear hfz23_0
      try clear hfz23_1
      try clear hfz28_0
      try clear hfz28_1
      try clear hfz29_0
      try clear hfz29_1
      try clear hfz32_0
      try clear hfz32_1
      try clear hfz33_0
      try clear hfz33_1
      obtain ⟨kq, x44_9, rfl, HA, HJ9, HO_8, HO_239001, HO_248001, BK238, BK247, HB⟩ := hcut
      cases kq with
      | zero => exact absurd HA.out (by simp [laws_FnExactFind.j0])
      | succ kj9 =>
        have H := HA.out
        clear HA
        simp only [laws_FnExactFind.j0] at H
        by_cases c35 : x44_9 = true
        · subst c35
          have H1 : (some false) = some r := by rw [if_pos rfl] at H; exact H
          clear H
          have H := H1
          clear H1
          exact absurd ((Option.some.inj H).trans hrt) (by decide)
        · replace c35 := Bool.eq_false_iff.mpr c35
          subst c35
          have H1 : ((laws_toEntryS.f kj9 l0).bind fun t249 => ((laws_eqEntryS.f kj9 t239 t249).bind fun t252 => (if t252 = true then ((laws_markEntryS.f kj9 t239 1).bind fun t253 => (if t253 < 0 then (laws_FnExactFind.j1 kj9 l0 a1 t237 true t233 t234 t242 t243) else ((laws_eqShape.f kj9 t242 t243 t233 t234).bind fun t254 => (if t254 = true then (laws_FnExactFind.j1 kj9 l0 a1 t237 (t246 != t237) t233 t234 t242 t243) else (laws_FnExactFind.j1 kj9 l0 a1 t237 true t233 t234 t242 t243))))) else (some false)))) = some r := by rw [if_neg (show ¬ (false = true) by decide)] at H; exact H
          clear H
          have H := H1
          clear H1
          replace H := Option.bind_eq_some_iff.mp H
          obtain ⟨t249, A360, H⟩ := H
          replace H : ((laws_eqEntryS.f kj9 t239 t249).bind fun t252 => (if t252 = true then ((laws_markEntryS.f kj9 t239 1).bind fun t253 => (if t253 < 0 then (laws_FnExactFind.j1 kj9 l0 a1 t237 true t233 t234 t242 t243) else ((laws_eqShape.f kj9 t242 t243 t233 t234).bind fun t254 => (if t254 = true then (laws_FnExactFind.j1 kj9 l0 a1 t237 (t246 != t237) t233 t234 t242 t243) else (laws_FnExactFind.j1 kj9 l0 a1 t237 true t233 t234 t242 t243))))) else (some false))) = some r := H
          have A36 := Aside0.mk A360
          clear A360
          replace H := Option.bind_eq_some_iff.mp H
          obtain ⟨t252, A370, H⟩ := H
          replace H : (if t252 = true then ((laws_markEntryS.f kj9 t239 1).bind fun t253 => (if t253 < 0 then (laws_FnExactFind.j1 kj9 l0 a1 t237 true t233 t234 t242 t243) else ((laws_eqShape.f kj9 t242 t243 t233 t234).bind fun t254 => (if t254 = true then (laws_FnExactFind.j1 kj9 l0 a1 t237 (t246 != t237) t233 t234 t242 t243) else (laws_FnExactFind.j1 kj9 l0 a1 t237 true t233 t234 t242 t243))))) else (some false)) = some r := H
          have A37 := Aside0.mk A370
          clear A370
          by_cases c38 : t252 = true
          · subst c38
            have H1 : ((laws_markEntryS.f kj9 t239 1).bind fun t253 => (if t253 < 0 then (laws_FnExactFind.j1 kj9 l0 a1 t237 true t233 t234 t242 t243) else ((laws_eqShape.f kj9 t242 t243 t233 t234).bind fun t254 => (if t254 = true then (laws_FnExactFind.j1 kj9 l0 a1 t237 (t246 != t237) t233 t234 t242 t243) else (laws_FnExactFind.j1 kj9 l0 a1 t237 true t233 t234 t242 t243))))) = some r := by rw [if_pos rfl] at H; exact H
            clear H
            have H := H1
            clear H1
            replace H := Option.bind_eq_some_iff.mp H
            obtain ⟨t253, A390, H⟩ := H
            replace H : (if t253 < 0 then (laws_FnExactFind.j1 kj9 l0 a1 t237 true t233 t234 t242 t243) else ((laws_eqShape.f kj9 t242 t243 t233 t234).bind fun t254 => (if t254 = true then (laws_FnExactFind.j1 kj9 l0 a1 t237 (t246 != t237) t233 t234 t242 t243) else (laws_FnExactFind.j1 kj9 l0 a1 t237 true t233 t234 t242 t243)))) = some r := H
            have A39 := Aside0.mk A390
            clear A390
            have HC40 := Aside0.mk H
            clear H
            go_upto_region 14 with (first | ((with_reducible refine gate_callee (f := 34) rfl ?_); refine goesL_ (some 47) rfl rfl Try.func34 (by kernel_rfl) rfl #[.slice A0 l0.length c0] rfl (by (try simp only [List.map_toArray, List.map_cons, List.map_nil]); first | done | rfl | (simp only [List.length_drop, List.length_take]; rfl)) ?_; (with_reducible refine (laws_toEntryS.calls kj9 _ _ l0 t249 _ ?side1 ?side2 A36.out).mono ?_); (case side1 => repeat (first | exact (Kd.C_below HR0.out HB.out) | (with_reducible refine Kd.C_alloc ?_ _) | (with_reducible refine Kd.C_drewN ?_ _) | (with_reducible refine Kd.C_drew ?_))); (case side2 => exact HC0.out); rintro e w41 ⟨v250, rfl, ho0, hb⟩; refine ⟨_, rfl, ?_⟩; have n0_ := Aside0.mk (Kd.R_elder' (by (with_reducible repeat (first | apply Kd.R_alloc | apply Kd.R_drewN | apply Kd.R_drew)); exact HO_8.out) (Kd.R_base ho0) hb); have n1_ := Aside0.mk (Kd.S_below (by (with_reducible repeat (first | apply Kd.S_alloc | apply Kd.S_drewN | apply Kd.S_drew)); exact HO_239001.out) hb); have n2_ := Aside0.mk (Kd.S_below (by (with_reducible repeat (first | apply Kd.S_alloc | apply Kd.S_drewN | apply Kd.S_drew)); exact HO_248001.out) hb); have n3_ := Aside0.mk (Kd.R_lower (Kd.R_new' (Kd.R_new' (Kd.R_new' ho0 (Kd.R_lt (by (with_reducible repeat (first | apply Kd.R_alloc | apply Kd.R_drewN | apply Kd.R_drew)); exact HO_8.out))) (Kd.S_lt (by (with_reducible repeat (first | apply Kd.S_alloc | apply Kd.S_drewN | apply Kd.S_drew)); exact HO_239001.out))) (Kd.S_lt (by (with_reducible repeat (first | apply Kd.S_alloc | apply Kd.S_drewN | apply Kd.S_drew)); exact HO_248001.out))) (below_size (by repeat (first | (with_reducible first | exact HB.out | apply below_alloc | apply pw_below_drewN | apply below_drew1 | refine below_set ?_ GE238.out | refine below_set ?_ GE247.out) | exact HB.out)))); have n4_ := Aside0.mk (blk_below (g := gb238) (o := .cells #[.int .i64 t233, .slice Ao17 t234.length co17] 55 (0, 0)) (by (with_reducible repeat (first | refine blk_drewN ?_ _ | refine blk_drew ?_ | refine blk_alloc ?_ _)); exact BK238.out) hb); have n5_ := Aside0.mk (blk_below (g := gb247) (o := .cells #[.int .i64 t242, .slice Ao24 t243.length co24] 55 (0, 0)) (by (with_reducible repeat (first | refine blk_drewN ?_ _ | refine blk_drew ?_ | refine blk_alloc ?_ _)); exact BK247.out) hb); have n6_ := Aside0.mk (below_step (by repeat (first | (with_reducible first | exact HB.out | apply below_alloc | apply pw_below_drewN | apply below_drew1 | refine below_set ?_ GE238.out | refine below_set ?_ GE247.out) | exact HB.out)) hb); clear HO_8; clear HO_239001; clear HO_248001; clear BK238; clear BK247; clear HB; have HO_8 := n0_; have HO_239001 := n1_; have HO_248001 := n2_; have HO251 := n3_; have BK238 := n4_; have BK247 := n5_; have HB := n6_; clear n0_ n1_ n2_ n3_ n4_ n5_ n6_; (try clear hb); (try clear hb2); (try clear hk); (try clear hi); (try clear ho0); obtain ⟨Ao42, co42, eo42⟩ := Kd.R_slice HO251.out; subst eo42) | ((with_reducible refine gate_callee (f := 37) rfl ?_); refine goesL_ (some 48) rfl rfl Try.func37 (by kernel_rfl) rfl #[.slice Ao19 t239.length co19, .slice Ao42 t249.length co42] rfl (by (try simp only [List.map_toArray, List.map_cons, List.map_nil]); first | done | rfl | (simp only [List.length_drop, List.length_take]; rfl)) ?_; (with_reducible refine (laws_eqEntryS.calls kj9 _ _ t239 _ _ t249 true _ ?side1 ?side2 ?side3 ?side4 A37.out).mono ?_); (case side1 => repeat (first | exact (Kd.R_reads' HO_8.out).2.2 | (with_reducible refine Kd.C_alloc ?_ _) | (with_reducible refine Kd.C_drewN ?_ _) | (with_reducible refine Kd.C_drew ?_))); (case side2 => exact (Kd.R_reads' HO_8.out).2.1); (case side3 => repeat (first | exact (Kd.R_reads' HO251.out).2.2 | (with_reducible refine Kd.C_alloc ?_ _) | (with_reducible refine Kd.C_drewN ?_ _) | (with_reducible refine Kd.C_drew ?_))); (case side4 => exact (Kd.R_reads' HO251.out).2.1); rintro e w43 ⟨rfl, hb⟩; refine ⟨_, rfl, ?_⟩; have n0_ := Aside0.mk (Kd.R_below (by (with_reducible repeat (first | apply Kd.R_alloc | apply Kd.R_drewN | apply Kd.R_drew)); exact HO_8.out) hb); have n1_ := Aside0.mk (Kd.S_below (by (with_reducible repeat (first | apply Kd.S_alloc | apply Kd.S_drewN | apply Kd.S_drew)); exact HO_239001.out) hb); have n2_ := Aside0.mk (Kd.S_below (by (with_reducible repeat (first | apply Kd.S_alloc | apply Kd.S_drewN | apply Kd.S_drew)); exact HO_248001.out) hb); have n3_ := Aside0.mk (Kd.R_below (by (with_reducible repeat (first | apply Kd.R_alloc | apply Kd.R_drewN | apply Kd.R_drew)); exact HO251.out) hb); have n4_ := Aside0.mk (blk_below (g := gb238) (o := .cells #[.int .i64 t233, .slice Ao17 t234.length co17] 55 (0, 0)) (by (with_reducible repeat (first | refine blk_drewN ?_ _ | refine blk_drew ?_ | refine blk_alloc ?_ _)); exact BK238.out) hb); have n5_ := Aside0.mk (blk_below (g := gb247) (o := .cells #[.int .i64 t242, .slice Ao24 t243.length co24] 55 (0, 0)) (by (with_reducible repeat (first | refine blk_drewN ?_ _ | refine blk_drew ?_ | refine blk_alloc ?_ _)); exact BK247.out) hb); have n6_ := Aside0.mk (below_step (by repeat (first | (with_reducible first | exact HB.out | apply below_alloc | apply pw_below_drewN | apply below_drew1 | refine below_set ?_ GE238.out | refine below_set ?_ GE247.out) | exact HB.out)) hb); clear HO_8; clear HO_239001; clear HO_248001; clear HO251; clear BK238; clear BK247; clear HB; have HO_8 := n0_; have HO_239001 := n1_; have HO_248001 := n2_; have HO251 := n3_; have BK238 := n4_; have BK247 := n5_; have HB := n6_; clear n0_ n1_ n2_ n3_ n4_ n5_ n6_; (try clear hb); (try clear hb2); (try clear hk); (try clear hi)) | ((with_reducible refine gate_callee (f := 38) rfl ?_); refine goesL_ (some 52) rfl rfl Try.func38 (by kernel_rfl) rfl #[.slice Ao19 t239.length co19, .int .i64 1] rfl (by (try simp only [List.map_toArray, List.map_cons, List.map_nil]); first | done | rfl | (simp only [List.length_drop, List.length_take]; rfl)) ?_; (with_reducible refine (laws_markEntryS.calls kj9 (fun k_ => N1_ ≤ k_ ∧ k_ < N3_) (.slice Ao19 t239.length co19) t239 1 t253 w _ ?side1 ?side2 A39.out).mono ?_); (case side1 => repeat (first | (with_reducible first | exact HB.out | apply below_alloc | apply pw_below_drewN | apply below_drew1) | exact HB.out)); (case side2 => exact Kd.R_lower (Kd.R_mono (ok' := fun k_ => N1_ ≤ k_ ∧ k_ < N3_) (Kd.R_bound (by (with_reducible repeat (first | apply Kd.R_alloc | apply Kd.R_drewN | apply Kd.R_drew)); exact HO_8.out)) (fun k_ hk_ => by (revert hk_; (try simp only [and_imp]); intros; (repeat' (first | (with_reducible assumption) | (with_reducible refine And.intro ?_ ?_)))))) LN1_.out); rintro e w43 ⟨rfl, hb, hkp⟩; refine ⟨_, rfl, ?_⟩; have n0_ := Aside0.mk (Kd.S_kept (by (with_reducible repeat (first | apply Kd.S_alloc | apply Kd.S_drewN | apply Kd.S_drew)); exact HO_239001.out) hkp (fun k_ hk_ hs_ => by (obtain ⟨⟨h1_, _⟩, _⟩ := hs_; revert hk_; simp only [and_imp]; intros; exact absurd h1_ (Nat.not_le_of_lt (by with_reducible assumption))))); have n1_ := Aside0.mk (Kd.S_mono (Kd.S_kept (Kd.S_bound (by (with_reducible repeat (first | apply Kd.S_alloc | apply Kd.S_drewN | apply Kd.S_drew)); exact HO_248001.out)) hkp (fun k_ hk_ hs_ => absurd hs_.1.2 (Nat.not_lt_of_le hk_.2.1))) (fun _ h_ => h_.1)); have n2_ := Aside0.mk (blk_kept (by (with_reducible repeat (first | refine blk_drewN ?_ _ | refine blk_drew ?_ | refine blk_alloc ?_ _)); exact BK238.out) hkp (EntIn.ne (by (with_reducible repeat (first | refine blk_drewN ?_ _ | refine blk_drew ?_ | refine blk_alloc ?_ _)); exact BK238.out) (by decide))); have n3_ := Aside0.mk (blk_kept (by (with_reducible repeat (first | refine blk_drewN ?_ _ | refine blk_drew ?_ | refine blk_alloc ?_ _)); exact BK247.out) hkp (EntIn.ne (by (with_reducible repeat (first | refine blk_drewN ?_ _ | refine blk_drew ?_ | refine blk_alloc ?_ _)); exact BK247.out) (by decide))); have n4_ := Aside0.mk (hb); clear HO_239001; clear HO_248001; clear BK238; clear BK247; clear HB; have HO_239001 := n0_; have HO_248001 := n1_; have BK238 := n2_; have BK247 := n3_; have HB := n4_; clear n0_ n1_ n2_ n3_ n4_; clear hb hkp))
            (try simp only [Act.put, List.setIfInBounds_toArray, List.set_cons_zero, List.set_cons_succ])
            go_cut [65] (fun v65 wc => ∃ (kq : Nat) (x65_39 : Bool), v65 = .bool x65_39 ∧ Aside0 (laws_FnExactFind.j1 kq l0 a1 t237 x65_39 t233 t234 t242 t243 = some r) ∧ Aside0 (kq ≤ kj9) ∧ Aside0 (Kd.S (Kd.slice 73 k73) 134 wc w.heap.size (fun k_ => some k_ ≠ ((.slice Ao24 t243.length co24) : Value).ownBlock ∧ k_ < N1_ ∧ k_ < N3_) (.slice Ao17 t234.length co17) t234) ∧ Aside0 (Kd.S (Kd.slice 73 k73) 134 wc N3_ (fun k_ => some k_ ≠ ((.slice Ao17 t234.length co17) : Value).ownBlock) (.slice Ao24 t243.length co24) t243) ∧ Aside0 (wc.heap[gb238]? = some (.cells #[.int .i64 t233, (.slice Ao17 t234.length co17)] 55 (0, 0))) ∧ Aside0 (wc.heap[gb247]? = some (.cells #[.int .i64 t242, (.slice Ao24 t243.length co24)] 55 (0, 0))) ∧ Aside0 (Below w.heap.size w wc))
            case first =>
              have H := HC40.out
              clear HC40
              by_cases c44 : t253 < 0
              · rw [if_pos c44] at H
                have c44b0 : decide (t253 < 0) = true := decide_eq_true c44
                clear c44
                (first | rw [c44b0] | (simp only [i64_w, i32_w]; rw [c44b0]) | skip)
                have H' := Aside0.mk H
                clear H
                go_wp2
                go_meet
                case rel => exact ⟨_, (true), (by first | rfl | (simp; done) | (simp [*]; done)), H', ⟨by have := HJ9.out; first | omega | exact Nat.le_refl _⟩, ⟨by (with_reducible repeat (first | apply Kd.S_alloc | apply Kd.S_drewN | apply Kd.S_drew)); exact Kd.S_mono HO_239001.out (fun k_ hk_ => by (revert hk_; (try simp only [and_imp]); intros; (repeat' (first | (with_reducible assumption) | (with_reducible refine And.intro ?_ ?_)))))⟩, ⟨by (with_reducible repeat (first | apply Kd.S_alloc | apply Kd.S_drewN | apply Kd.S_drew)); exact Kd.S_mono HO_248001.out (fun k_ hk_ => by (revert hk_; (try simp only [and_imp]); intros; (repeat' (first | (with_reducible assumption) | (with_reducible refine And.intro ?_ ?_)))))⟩, ⟨by (with_reducible repeat (first | refine blk_drewN ?_ _ | refine blk_drew ?_ | refine blk_alloc ?_ _)); exact BK238.out⟩, ⟨by (with_reducible repeat (first | refine blk_drewN ?_ _ | refine blk_drew ?_ | refine blk_alloc ?_ _)); exact BK247.out⟩, ⟨by repeat (first | (with_reducible first | exact HB.out | apply below_alloc | apply pw_below_drewN | apply below_drew1 | refine below_set ?_ GE238.out | refine below_set ?_ GE247.out) | exact HB.out)⟩⟩
              · rw [if_neg c44] at H
                have c44b0 : decide (t253 < 0) = false := decide_eq_false c44
                clear c44
                (first | rw [c44b0] | (simp only [i64_w, i32_w]; rw [c44b0]) | skip)
                replace H := Option.bind_eq_some_iff.mp H
                obtain ⟨t254, A450, H⟩ := H
                replace H : (if t254 = true then (laws_FnExactFind.j1 kj9 l0 a1 t237 (t246 != t237) t233 t234 t242 t243) else (laws_FnExactFind.j1 kj9 l0 a1 t237 true t233 t234 t242 t243)) = some r := H
                have A45 := Aside0.mk A450
                clear A450
                by_cases c46 : t254 = true
                · subst c46
                  have H1 : (laws_FnExactFind.j1 kj9 l0 a1 t237 (t246 != t237) t233 t234 t242 t243) = some r := by rw [if_pos rfl] at H; exact H
                  clear H
                  have H := H1
                  clear H1
                  have H' := Aside0.mk H
                  clear H
                  have hnb47 := NB247_238.out
                  have hnc47 := NB238_247.out
                  have hcz48_0 : w43.cell? ⟨gb247, 0, none⟩ = some (.int .i64 t242) := (blk_cell BK247.out 0).trans rfl
                  have hcz48_1 : w43.cell? ⟨gb247, 1, none⟩ = some (.slice Ao24 t243.length co24) := (blk_cell BK247.out 1).trans rfl
                  have hfz48_0 := blk_frozen BK247.out 0
                  have hfz48_1 := blk_frozen BK247.out 1
                  have hcz49_0 : w43.cell? ⟨gb238, 0, none⟩ = some (.int .i64 t233) := (blk_cell BK238.out 0).trans rfl
                  have hcz49_1 : w43.cell? ⟨gb238, 1, none⟩ = some (.slice Ao17 t234.length co17) := (blk_cell BK238.out 1).trans rfl
                  have hfz49_0 := blk_frozen BK238.out 0
                  have hfz49_1 := blk_frozen BK238.out 1
                  go_wp2_with (first | (go_at_call 36; (with_reducible refine (laws_eqShape.calls kj9 t242 _ _ t243 t233 _ _ t234 true _ ?side1 ?side2 ?side3 ?side4 A45.out).mono ?_); (case side1 => repeat (first | exact (Kd.S_reads' HO_248001.out).2.2 | (with_reducible refine Kd.C_alloc ?_ _) | (with_reducible refine Kd.C_drewN ?_ _) | (with_reducible refine Kd.C_drew ?_))); (case side2 => exact (Kd.S_reads' HO_248001.out).2.1); (case side3 => repeat (first | exact (Kd.S_reads' HO_239001.out).2.2 | (with_reducible refine Kd.C_alloc ?_ _) | (with_reducible refine Kd.C_drewN ?_ _) | (with_reducible refine Kd.C_drew ?_))); (case side4 => exact (Kd.S_reads' HO_239001.out).2.1); rintro e w50 ⟨rfl, hb⟩; have n1_ := Aside0.mk (Kd.S_below (by (with_reducible repeat (first | apply Kd.S_alloc | apply Kd.S_drewN | apply Kd.S_drew)); exact HO_239001.out) hb); have n2_ := Aside0.mk (Kd.S_below (by (with_reducible repeat (first | apply Kd.S_alloc | apply Kd.S_drewN | apply Kd.S_drew)); exact HO_248001.out) hb); have n4_ := Aside0.mk (blk_below (g := gb238) (o := .cells #[.int .i64 t233, .slice Ao17 t234.length co17] 55 (0, 0)) (by (with_reducible repeat (first | refine blk_drewN ?_ _ | refine blk_drew ?_ | refine blk_alloc ?_ _)); exact BK238.out) hb); have n5_ := Aside0.mk (blk_below (g := gb247) (o := .cells #[.int .i64 t242, .slice Ao24 t243.length co24] 55 (0, 0)) (by (with_reducible repeat (first | refine blk_drewN ?_ _ | refine blk_drew ?_ | refine blk_alloc ?_ _)); exact BK247.out) hb); have n6_ := Aside0.mk (below_step (by repeat (first | (with_reducible first | exact HB.out | apply below_alloc | apply pw_below_drewN | apply below_drew1 | refine below_set ?_ GE238.out | refine below_set ?_ GE247.out) | exact HB.out)) hb); clear HO_239001; clear HO_248001; clear BK238; clear BK247; clear HB; have HO_239001 := n1_; have HO_248001 := n2_; have BK238 := n4_; have BK247 := n5_; have HB := n6_; clear n1_ n2_ n4_ n5_ n6_; (try clear hb); (try clear hb2); (try clear hk); (try clear hi)))
                  go_meet
                  case rel => exact ⟨_, ((t246 != t237)), (by first | rfl | (simp; done) | (simp [*]; done)), H', ⟨by have := HJ9.out; first | omega | exact Nat.le_refl _⟩, ⟨by (with_reducible repeat (first | apply Kd.S_alloc | apply Kd.S_drewN | apply Kd.S_drew)); exact Kd.S_mono HO_239001.out (fun k_ hk_ => by (revert hk_; (try simp only [and_imp]); intros; (repeat' (first | (with_reducible assumption) | (with_reducible refine And.intro ?_ ?_)))))⟩, ⟨by (with_reducible repeat (first | apply Kd.S_alloc | apply Kd.S_drewN | apply Kd.S_drew)); exact Kd.S_mono HO_248001.out (fun k_ hk_ => by (revert hk_; (try simp only [and_imp]); intros; (repeat' (first | (with_reducible assumption) | (with_reducible refine And.intro ?_ ?_)))))⟩, ⟨by (with_reducible repeat (first | refine blk_drewN ?_ _ | refine blk_drew ?_ | refine blk_alloc ?_ _)); exact BK238.out⟩, ⟨by (with_reducible repeat (first | refine blk_drewN ?_ _ | refine blk_drew ?_ | refine blk_alloc ?_ _)); exact BK247.out⟩, ⟨by repeat (first | (with_reducible first | exact HB.out | apply below_alloc | apply pw_below_drewN | apply below_drew1 | refine below_set ?_ GE238.out | refine below_set ?_ GE247.out) | exact HB.out)⟩⟩
                · replace c46 := Bool.eq_false_iff.mpr c46
                  subst c46
                  have H1 : (laws_FnExactFind.j1 kj9 l0 a1 t237 true t233 t234 t242 t243) = some r := by rw [if_neg (show ¬ (false = true) by decide)] at H; exact H
                  clear H
                  exact by (cases kj9 with | zero => exact absurd H1 (by simp [laws_FnExactFind.j1]) | succ q_ => (exact absurd ((Option.some.inj (show some false = some r from by simpa only [laws_FnExactFind.j1, if_true] using H1)).trans hrt) (by decide)))
            case rest =>
              clear HC40
              try clear c2
              try clear p2
              try clear c3
              try clear c4
              try clear c4b0
              try clear c5
              try clear c7
              try clear c22
              try clear c26
              try clear c27
              try clear c31
              try clear c32
              try clear c33
              try clear c34
              try clear c35
              try clear c36
              try clear c37
              try clear c38
              try clear c44
              try clear c44b0
              try clear c46
              try clear c47
              try clear c51
              try clear hcz16_0
              try clear hcz16_1
              try clear hcz23_0
              try clear hcz23_1
              try clear hcz28_0
              try clear hcz28_1
              try clear hcz29_0
              try clear hcz29_1
              try clear hcz32_0
              try clear hcz32_1
              try clear hcz33_0
              try clear hcz33_1
              try clear hcz48_0
              try clear hcz48_1
              try clear hcz49_0
              try clear hcz49_1
              try clear hcz52_0
              try clear hcz52_1
              try clear hcz53_0
              try clear hcz53_1
              try clear hfz16_0
              try clear hfz16_1
              try clear hfz23_0
              try clear hfz23_1
              try clear hfz28_0
              try clear hfz28_1
              try clear hfz29_0
              try clear hfz29_1
              try clear hfz32_0
              try clear hfz32_1
              try clear hfz33_0
              try clear hfz33_1
              try clear hfz48_0
              try clear hfz48_1
              try clear hfz49_0
              try clear hfz49_1
              try clear hfz52_0
              try clear hfz52_1
              try clear hfz53_0
              try clear hfz53_1
              try clear p2
              obtain ⟨kq, x65_39, rfl, HA, HJ39, HO_239001, HO_248001, BK238, BK247, HB⟩ := hcut
              cases kq with
              | zero => exact absurd HA.out (by simp [laws_FnExactFind.j1])
              | succ kj39 =>
                have H := HA.out
                clear HA
                simp only [laws_FnExactFind.j1] at H
                by_cases c55 : x65_39 = true
                · subst c55
                  have H1 : (some false) = some r := by rw [if_pos rfl] at H; exact H
                  clear H
                  have H := H1
                  clear H1
                  exact absurd ((Option.some.inj H).trans hrt) (by decide)
                · replace c55 := Bool.eq_false_iff.mpr c55
                  subst c55
                  have H1 : ((laws_markShape.f kj39 t243 1).bind fun bm => ((laws_heldShape.f kj39 t242 bm.2 1).bind fun t256 => (if t256 < 0 then (some false) else (if t256 = bm.1 then ((laws_toEntryS.f kj39 l0).bind fun t257 => ((impl_Find.f kj39 t257 a1).bind fun bt260 => ((laws_eqShape.f kj39 bt260.1 bt260.2.1 t233 t234).bind fun t266 => (if t266 = true then (laws_FnExactFind.j2 kj39 bm.1 (bt260.2.2 != t237) t242 bm.2) else (laws_FnExactFind.j2 kj39 bm.1 true t242 bm.2))))) else (some false))))) = some r := by rw [if_neg (show ¬ (false = true) by decide)] at H; exact H
                  clear H
                  have H := H1
                  clear H1
                  replace H := Option.bind_eq_some_iff.mp H
                  obtain ⟨⟨t255, y255⟩, A560, H⟩ := H
                  replace H : ((laws_heldShape.f kj39 t242 y255 1).bind fun t256 => (if t256 < 0 then (some false) else (if t256 = t255 then ((laws_toEntryS.f kj39 l0).bind fun t257 => ((impl_Find.f kj39 t257 a1).bind fun bt260 => ((laws_eqShape.f kj39 bt260.1 bt260.2.1 t233 t234).bind fun t266 => (if t266 = true then (laws_FnExactFind.j2 kj39 t255 (bt260.2.2 != t237) t242 y255) else (laws_FnExactFind.j2 kj39 t255 true t242 y255))))) else (some false)))) = some r := H
                  have A56 := Aside0.mk A560
                  clear A560
                  replace H := Option.bind_eq_some_iff.mp H
                  obtain ⟨t256, A570, H⟩ := H
                  replace H : (if t256 < 0 then (some false) else (if t256 = t255 then ((laws_toEntryS.f kj39 l0).bind fun t257 => ((impl_Find.f kj39 t257 a1).bind fun bt260 => ((laws_eqShape.f kj39 bt260.1 bt260.2.1 t233 t234).bind fun t266 => (if t266 = true then (laws_FnExactFind.j2 kj39 t255 (bt260.2.2 != t237) t242 y255) else (laws_FnExactFind.j2 kj39 t255 true t242 y255))))) else (some false))) = some r := H
                  have A57 := Aside0.mk A570
                  clear A570
                  by_cases c58 : t256 < 0
                  · rw [if_pos c58] at H
                    have c58b0 : decide (t256 < 0) = true := decide_eq_true c58
                    clear c58
                    exact absurd ((Option.some.inj H).trans hrt) (by decide)
                  · rw [if_neg c58] at H
                    have c58b0 : decide (t256 < 0) = false := decide_eq_false c58
                    clear c58
                    by_cases c64 : t256 = t255
                    · rw [if_pos c64] at H
                      have c64b0 : (t256 == t255) = true := beq_iff_eq.mpr c64
                      have c64b1 : (t256 != t255) = false := bne_eq_false_iff_eq.mpr c64
                      clear c64
                      replace H := Option.bind_eq_some_iff.mp H
                      obtain ⟨t257, A650, H⟩ := H
                      replace H : ((impl_Find.f kj39 t257 a1).bind fun bt260 => ((laws_eqShape.f kj39 bt260.1 bt260.2.1 t233 t234).bind fun t266 => (if t266 = true then (laws_FnExactFind.j2 kj39 t255 (bt260.2.2 != t237) t242 y255) else (laws_FnExactFind.j2 kj39 t255 true t242 y255)))) = some r := H
                      have A65 := Aside0.mk A650
                      clear A650
                      replace H := Option.bind_eq_some_iff.mp H
                      obtain ⟨⟨t260, t261, t264⟩, A660, H⟩ := H
                      replace H : ((laws_eqShape.f kj39 t260 t261 t233 t234).bind fun t266 => (if t266 = true then (laws_FnExactFind.j2 kj39 t255 (t264 != t237) t242 y255) else (laws_FnExactFind.j2 kj39 t255 true t242 y255))) = some r := H
                      have A66 := Aside0.mk A660
                      clear A660
                      have HC67 := Aside0.mk H
                      clear H
                      have hnb68 := NB247_238.out
                      have hnc68 := NB238_247.out
                      have hcz69_0 : wc.cell? ⟨gb247, 0, none⟩ = some (.int .i64 t242) := (blk_cell BK247.out 0).trans rfl
                      have hcz69_1 : wc.cell? ⟨gb247, 1, none⟩ = some (.slice Ao24 t243.length co24) := (blk_cell BK247.out 1).trans rfl
                      have hfz69_0 := blk_frozen BK247.out 0
                      have hfz69_1 := blk_frozen BK247.out 1
                      go_upto_region 25 with (first | ((with_reducible refine gate_callee (f := 39) rfl ?_); refine goesL_ (some 68) rfl rfl Try.func39 (by kernel_rfl) rfl #[.agg #[.int .i64 t242, .slice Ao24 t243.length co24], .int .i64 1] rfl (by (try simp only [List.map_toArray, List.map_cons, List.map_nil]); first | done | rfl | (simp only [List.length_drop, List.length_take]; rfl)) ?_; (with_reducible refine (laws_markShape.calls kj39 (fun k_ => (some k_ ≠ ((.slice Ao17 t234.length co17) : Value).ownBlock) ∧ N3_ ≤ k_) t242 (.slice Ao24 t243.length co24) t243 1 t255 y255 w _ ?side1 ?side2 A56.out).mono ?_); (case side1 => repeat (first | (with_reducible first | exact HB.out | apply below_alloc | apply pw_below_drewN | apply below_drew1) | exact HB.out)); (case side2 => exact Kd.S_lower (Kd.S_mono (Kd.S_bound (by (with_reducible repeat (first | apply Kd.S_alloc | apply Kd.S_drewN | apply Kd.S_drew)); exact HO_248001.out)) (fun k_ hk_ => ⟨hk_.1, hk_.2.1⟩)) LN3_.out); rintro e w70 ⟨rfl, hyS, hyL, hb, hkp⟩; refine ⟨_, rfl, ?_⟩; have HYL := Aside0.mk hyL; have n0_ := Aside0.mk (Kd.S_kept (by (with_reducible repeat (first | apply Kd.S_alloc | apply Kd.S_drewN | apply Kd.S_drew)); exact HO_239001.out) hkp (fun k_ hk_ hs_ => by (obtain ⟨⟨_, h1_⟩, _⟩ := hs_; revert hk_; simp only [and_imp]; intros; exact absurd h1_ (Nat.not_le_of_lt (by with_reducible assumption))))); have n1_ := Aside0.mk (hyS); have n2_ := Aside0.mk (blk_kept (by (with_reducible repeat (first | refine blk_drewN ?_ _ | refine blk_drew ?_ | refine blk_alloc ?_ _)); exact BK238.out) hkp (RowIn.ne (by (with_reducible repeat (first | refine blk_drewN ?_ _ | refine blk_drew ?_ | refine blk_alloc ?_ _)); exact BK238.out) (by decide))); have n3_ := Aside0.mk (blk_kept (by (with_reducible repeat (first | refine blk_drewN ?_ _ | refine blk_drew ?_ | refine blk_alloc ?_ _)); exact BK247.out) hkp (RowIn.ne (by (with_reducible repeat (first | refine blk_drewN ?_ _ | refine blk_drew ?_ | refine blk_alloc ?_ _)); exact BK247.out) (by decide))); have n4_ := Aside0.mk (hb); clear HO_239001; clear HO_248001; clear BK238; clear BK247; clear HB; have HO_239001 := n0_; have HO_248001 := n1_; have BK238 := n2_; have BK247 := n3_; have HB := n4_; clear n0_ n1_ n2_ n3_ n4_; clear hb hkp; have hczm_0 : w70.cell? ⟨gb247, 0, none⟩ = some (.int .i64 t242) := (blk_cell BK247.out 0).trans rfl; have hczm_1 : w70.cell? ⟨gb247, 1, none⟩ = some (.slice Ao24 t243.length co24) := (blk_cell BK247.out 1).trans rfl) | ((with_reducible refine gate_callee (f := 40) rfl ?_); refine goesL_ (some 71) rfl rfl Try.func40 (by kernel_rfl) rfl #[.agg #[.int .i64 t242, .slice Ao24 y255.length co24], .int .i64 1] rfl (by (try simp only [List.map_toArray, List.map_cons, List.map_nil]); first | done | (rw [show y255.length = t243.length from HYL.out]; first | done | rfl) | rfl | (simp only [List.length_drop, List.length_take]; rfl)) ?_; (with_reducible refine (laws_heldShape.calls kj39 t242 _ _ y255 1 t256 _ ?side1 ?side2 A57.out).mono ?_); (case side1 => repeat (first | exact (Kd.S_reads' HO_248001.out).2.2 | (with_reducible refine Kd.C_alloc ?_ _) | (with_reducible refine Kd.C_drewN ?_ _) | (with_reducible refine Kd.C_drew ?_))); (case side2 => first | exact (Kd.S_reads' HO_248001.out).2.1 | (rw [show y255.length = t243.length from HYL.out]; exact (Kd.S_reads' HO_248001.out).2.1)); rintro e w72 ⟨rfl, hb⟩; refine ⟨_, rfl, ?_⟩; have n0_ := Aside0.mk (Kd.S_below (by (with_reducible repeat (first | apply Kd.S_alloc | apply Kd.S_drewN | apply Kd.S_drew)); exact HO_239001.out) hb); have n1_ := Aside0.mk (Kd.S_below (by (with_reducible repeat (first | apply Kd.S_alloc | apply Kd.S_drewN | apply Kd.S_drew)); exact HO_248001.out) hb); have n2_ := Aside0.mk (blk_below (g := gb238) (o := .cells #[.int .i64 t233, .slice Ao17 t234.length co17] 55 (0, 0)) (by (with_reducible repeat (first | refine blk_drewN ?_ _ | refine blk_drew ?_ | refine blk_alloc ?_ _)); exact BK238.out) hb); have n3_ := Aside0.mk (blk_below (g := gb247) (o := .cells #[.int .i64 t242, .slice Ao24 t243.length co24] 55 (0, 0)) (by (with_reducible repeat (first | refine blk_drewN ?_ _ | refine blk_drew ?_ | refine blk_alloc ?_ _)); exact BK247.out) hb); have n4_ := Aside0.mk (below_step (by repeat (first | (with_reducible first | exact HB.out | apply below_alloc | apply pw_below_drewN | apply below_drew1 | refine below_set ?_ GE238.out | refine below_set ?_ GE247.out) | exact HB.out)) hb); clear HO_239001; clear HO_248001; clear BK238; clear BK247; clear HB; have HO_239001 := n0_; have HO_248001 := n1_; have BK238 := n2_; have BK247 := n3_; have HB := n4_; clear n0_ n1_ n2_ n3_ n4_; (try clear hb); (try clear hb2); (try clear hk); (try clear hi)) | ((with_reducible refine gate_callee (f := 34) rfl ?_); refine goesL_ (some 79) rfl rfl Try.func34 (by kernel_rfl) rfl #[.slice A0 l0.length c0] rfl (by (try simp only [List.map_toArray, List.map_cons, List.map_nil]); first | done | rfl | (simp only [List.length_drop, List.length_take]; rfl)) ?_; (with_reducible refine (laws_toEntryS.calls kj39 _ _ l0 t257 _ ?side1 ?side2 A65.out).mono ?_); (case side1 => repeat (first | exact (Kd.C_below HR0.out HB.out) | (with_reducible refine Kd.C_alloc ?_ _) | (with_reducible refine Kd.C_drewN ?_ _) | (with_reducible refine Kd.C_drew ?_))); (case side2 => exact HC0.out); rintro e w73 ⟨v258, rfl, ho0, hb⟩; refine ⟨_, rfl, ?_⟩; have n0_ := Aside0.mk (Kd.S_below (by (with_reducible repeat (first | apply Kd.S_alloc | apply Kd.S_drewN | apply Kd.S_drew)); exact HO_239001.out) hb); have n1_ := Aside0.mk (Kd.S_below (by (with_reducible repeat (first | apply Kd.S_alloc | apply Kd.S_drewN | apply Kd.S_drew)); exact HO_248001.out) hb); have n2_ := Aside0.mk (Kd.R_lower (Kd.R_new' (Kd.R_new' ho0 (Kd.S_lt (by (with_reducible repeat (first | apply Kd.S_alloc | apply Kd.S_drewN | apply Kd.S_drew)); exact HO_239001.out))) (Kd.S_lt (by (with_reducible repeat (first | apply Kd.S_alloc | apply Kd.S_drewN | apply Kd.S_drew)); exact HO_248001.out))) (below_size (by repeat (first | (with_reducible first | exact HB.out | apply below_alloc | apply pw_below_drewN | apply below_drew1 | refine below_set ?_ GE238.out | refine below_set ?_ GE247.out) | exact HB.out)))); have n3_ := Aside0.mk (blk_below (g := gb238) (o := .cells #[.int .i64 t233, .slice Ao17 t234.length co17] 55 (0, 0)) (by (with_reducible repeat (first | refine blk_drewN ?_ _ | refine blk_drew ?_ | refine blk_alloc ?_ _)); exact BK238.out) hb); have n4_ := Aside0.mk (blk_below (g := gb247) (o := .cells #[.int .i64 t242, .slice Ao24 t243.length co24] 55 (0, 0)) (by (with_reducible repeat (first | refine blk_drewN ?_ _ | refine blk_drew ?_ | refine blk_alloc ?_ _)); exact BK247.out) hb); have n5_ := Aside0.mk (below_step (by repeat (first | (with_reducible first | exact HB.out | apply below_alloc | apply pw_below_drewN | apply below_drew1 | refine below_set ?_ GE238.out | refine below_set ?_ GE247.out) | exact HB.out)) hb); clear HO_239001; clear HO_248001; clear BK238; clear BK247; clear HB; have HO_239001 := n0_; have HO_248001 := n1_; have HO259 := n2_; have BK238 := n3_; have BK247 := n4_; have HB := n5_; clear n0_ n1_ n2_ n3_ n4_ n5_; (try clear hb); (try clear hb2); (try clear hk); (try clear hi); (try clear ho0); obtain ⟨Ao74, co74, eo74⟩ := Kd.R_slice HO259.out; subst eo74) | ((with_reducible refine gate_callee (f := 35) rfl ?_); refine goesL_ (some 81) rfl rfl Try.func35 (by kernel_rfl) rfl #[.slice Ao74 t257.length co74, .int .i64 a1] rfl (by (try simp only [List.map_toArray, List.map_cons, List.map_nil]); first | done | rfl | (simp only [List.length_drop, List.length_take]; rfl)) ?_; (with_reducible refine (impl_Find.calls kj39 _ _ t257 a1 t260 t261 t264 _ ?side1 ?side2 A66.out).mono ?_); (case side1 => repeat (first | exact (Kd.R_reads' HO259.out).2.2 | (with_reducible refine Kd.C_alloc ?_ _) | (with_reducible refine Kd.C_drewN ?_ _) | (with_reducible refine Kd.C_drew ?_))); (case side2 => exact (Kd.R_reads' HO259.out).2.1); rintro e w75 ⟨v262, rfl, ho0, hb⟩; refine ⟨_, rfl, ?_⟩; have n0_ := Aside0.mk (Kd.S_elder' (by (with_reducible repeat (first | apply Kd.S_alloc | apply Kd.S_drewN | apply Kd.S_drew)); exact HO_239001.out) (Kd.S_base ho0) hb); have n1_ := Aside0.mk (Kd.S_elder' (by (with_reducible repeat (first | apply Kd.S_alloc | apply Kd.S_drewN | apply Kd.S_drew)); exact HO_248001.out) (Kd.S_base ho0) hb); have n2_ := Aside0.mk (Kd.R_elder' (by (with_reducible repeat (first | apply Kd.R_alloc | apply Kd.R_drewN | apply Kd.R_drew)); exact HO259.out) (Kd.S_base ho0) hb); have n3_ := Aside0.mk (Kd.S_lower (Kd.S_new' (Kd.S_new' ho0 (Kd.S_lt (by (with_reducible repeat (first | apply Kd.S_alloc | apply Kd.S_drewN | apply Kd.S_drew)); exact HO_239001.out))) (Kd.S_lt (by (with_reducible repeat (first | apply Kd.S_alloc | apply Kd.S_drewN | apply Kd.S_drew)); exact HO_248001.out))) (below_size (by repeat (first | (with_reducible first | exact HB.out | apply below_alloc | apply pw_below_drewN | apply below_drew1 | refine below_set ?_ GE238.out | refine below_set ?_ GE247.out) | exact HB.out)))); have n4_ := Aside0.mk (blk_below (g := gb238) (o := .cells #[.int .i64 t233, .slice Ao17 t234.length co17] 55 (0, 0)) (by (with_reducible repeat (first | refine blk_drewN ?_ _ | refine blk_drew ?_ | refine blk_alloc ?_ _)); exact BK238.out) hb); have n5_ := Aside0.mk (blk_below (g := gb247) (o := .cells #[.int .i64 t242, .slice Ao24 t243.length co24] 55 (0, 0)) (by (with_reducible repeat (first | refine blk_drewN ?_ _ | refine blk_drew ?_ | refine blk_alloc ?_ _)); exact BK247.out) hb); have n6_ := Aside0.mk (below_step (by repeat (first | (with_reducible first | exact HB.out | apply below_alloc | apply pw_below_drewN | apply below_drew1 | refine below_set ?_ GE238.out | refine below_set ?_ GE247.out) | exact HB.out)) hb); clear HO_239001; clear HO_248001; clear HO259; clear BK238; clear BK247; clear HB; have HO_239001 := n0_; have HO_248001 := n1_; have HO259 := n2_; have HO263 := n3_; have BK238 := n4_; have BK247 := n5_; have HB := n6_; clear n0_ n1_ n2_ n3_ n4_ n5_ n6_; (try clear hb); (try clear hb2); (try clear hk); (try clear hi); (try clear ho0)) | ((with_reducible refine gate_dst (N := 14) rfl ?_); refine box_event ?hg (N := 14) ?hd (cs := #[.int .i64 0, .slice none 0 0]) (t := 55) ?hr ?_; (case hd => rfl); (case hg => rfl); (case hr => first | (go_simp; done) | (go_simp; rfl)); intro gb265 hg w76 hbox hb; have n0_ := Aside0.mk (Kd.S_below (by (with_reducible repeat (first | apply Kd.S_alloc | apply Kd.S_drewN | apply Kd.S_drew)); exact HO_239001.out) hb); have n1_ := Aside0.mk (Kd.S_below (by (with_reducible repeat (first | apply Kd.S_alloc | apply Kd.S_drewN | apply Kd.S_drew)); exact HO_248001.out) hb); have n2_ := Aside0.mk (Kd.R_below (by (with_reducible repeat (first | apply Kd.R_alloc | apply Kd.R_drewN | apply Kd.R_drew)); exact HO259.out) hb); have n3_ := Aside0.mk (Kd.S_below (by (with_reducible repeat (first | apply Kd.S_alloc | apply Kd.S_drewN | apply Kd.S_drew)); exact HO263.out) hb); have n4_ := Aside0.mk (blk_below (g := gb238) (o := .cells #[.int .i64 t233, .slice Ao17 t234.length co17] 55 (0, 0)) (by (with_reducible repeat (first | refine blk_drewN ?_ _ | refine blk_drew ?_ | refine blk_alloc ?_ _)); exact BK238.out) hb); have n5_ := Aside0.mk (blk_below (g := gb247) (o := .cells #[.int .i64 t242, .slice Ao24 t243.length co24] 55 (0, 0)) (by (with_reducible repeat (first | refine blk_drewN ?_ _ | refine blk_drew ?_ | refine blk_alloc ?_ _)); exact BK247.out) hb); have n6_ := Aside0.mk (below_step (by repeat (first | (with_reducible first | exact HB.out | apply below_alloc | apply pw_below_drewN | apply below_drew1 | refine below_set ?_ GE238.out | refine below_set ?_ GE247.out) | exact HB.out)) hb); have n7_ := Aside0.mk (hbox); have n8_ := Aside0.mk ((by rw [hg]; exact (below_size (by repeat (first | (with_reducible first | exact HB.out | apply below_alloc | apply pw_below_drewN | apply below_drew1 | refine below_set ?_ GE238.out | refine below_set ?_ GE247.out) | exact HB.out))) : w.heap.size ≤ gb265)); have n9_ := Aside0.mk ((by rw [hg]; exact (below_size (by repeat (first | (with_reducible first | exact HB.out | apply below_alloc | apply pw_below_drewN | apply below_drew1 | refine below_set ?_ GE238.out | refine below_set ?_ GE247.out) | exact HB.out))) : w.heap.size ≤ gb265)); have n10_ := Aside0.mk ((by rw [hg]; exact Nat.ne_of_lt (blk_lt (g := gb238) (o := .cells #[.int .i64 t233, .slice Ao17 t234.length co17] 55 (0, 0)) (by (with_reducible repeat (first | refine blk_drewN ?_ _ | refine blk_drew ?_ | refine blk_alloc ?_ _)); exact BK238.out)) : gb238 ≠ gb265)); have n11_ := Aside0.mk ((by rw [hg]; exact Nat.ne_of_gt (blk_lt (g := gb238) (o := .cells #[.int .i64 t233, .slice Ao17 t234.length co17] 55 (0, 0)) (by (with_reducible repeat (first | refine blk_drewN ?_ _ | refine blk_drew ?_ | refine blk_alloc ?_ _)); exact BK238.out)) : gb265 ≠ gb238)); have n12_ := Aside0.mk ((by rw [hg]; exact Nat.ne_of_lt (blk_lt (g := gb247) (o := .cells #[.int .i64 t242, .slice Ao24 t243.length co24] 55 (0, 0)) (by (with_reducible repeat (first | refine blk_drewN ?_ _ | refine blk_drew ?_ | refine blk_alloc ?_ _)); exact BK247.out)) : gb247 ≠ gb265)); have n13_ := Aside0.mk ((by rw [hg]; exact Nat.ne_of_gt (blk_lt (g := gb247) (o := .cells #[.int .i64 t242, .slice Ao24 t243.length co24] 55 (0, 0)) (by (with_reducible repeat (first | refine blk_drewN ?_ _ | refine blk_drew ?_ | refine blk_alloc ?_ _)); exact BK247.out)) : gb265 ≠ gb247)); clear HO_239001; clear HO_248001; clear HO259; clear HO263; clear BK238; clear BK247; clear HB; have HO_239001 := n0_; have HO_248001 := n1_; have HO259 := n2_; have HO263 := n3_; have BK238 := n4_; have BK247 := n5_; have HB := n6_; have BK265 := n7_; have GW265 := n8_; have GE265 := n9_; have NB238_265 := n10_; have NB265_238 := n11_; have NB247_265 := n12_; have NB265_247 := n13_; clear n0_ n1_ n2_ n3_ n4_ n5_ n6_ n7_ n8_ n9_ n10_ n11_ n12_ n13_; clear hb hbox hg; have hnb77 := NB265_238.out; have hnc77 := NB238_265.out; have hnb78 := NB265_247.out; have hnc78 := NB247_265.out; have hcz79_0 : w76.cell? ⟨gb265, 0, none⟩ = some (.int .i64 0) := (blk_cell BK265.out 0).trans rfl; have hcz79_1 : w76.cell? ⟨gb265, 1, none⟩ = some (.slice none 0 0) := (blk_cell BK265.out 1).trans rfl; have hfz79_0 := blk_frozen BK265.out 0; have hfz79_1 := blk_frozen BK265.out 1; obtain ⟨Ao80, co80, eo80⟩ := Kd.S_slice HO263.out; subst eo80))
                      (try simp only [Act.put, List.setIfInBounds_toArray, List.set_cons_zero, List.set_cons_succ])
                      go_cut [92] (fun v92 wc => ∃ (kq : Nat) (x92_66 : Bool), v92 = .bool x92_66 ∧ Aside0 (laws_FnExactFind.j2 kq t255 x92_66 t242 y255 = some r) ∧ Aside0 (kq ≤ kj39) ∧ Aside0 (Kd.S (Kd.slice 73 k73) 134 wc w.heap.size (fun k_ => some k_ ≠ ((.slice Ao24 t243.length co24) : Value).ownBlock ∧ some k_ ≠ ((.slice Ao80 t261.length co80) : Value).ownBlock ∧ k_ < N1_ ∧ k_ < N3_) (.slice Ao17 t234.length co17) t234) ∧ Aside0 (Kd.S (Kd.slice 73 k73) 134 wc w.heap.size (fun k_ => some k_ ≠ ((.slice Ao17 t234.length co17) : Value).ownBlock ∧ some k_ ≠ ((.slice Ao80 t261.length co80) : Value).ownBlock ∧ N3_ ≤ k_) (.slice Ao24 t243.length co24) y255) ∧ Aside0 (Kd.S (Kd.slice 73 k73) 134 wc w.heap.size (fun k_ => some k_ ≠ ((.slice Ao17 t234.length co17) : Value).ownBlock ∧ some k_ ≠ ((.slice Ao24 t243.length co24) : Value).ownBlock) (.slice Ao80 t261.length co80) t261) ∧ Aside0 (wc.heap[gb238]? = some (.cells #[.int .i64 t233, (.slice Ao17 t234.length co17)] 55 (0, 0))) ∧ Aside0 (wc.heap[gb247]? = some (.cells #[.int .i64 t242, (.slice Ao24 t243.length co24)] 55 (0, 0))) ∧ Aside0 (wc.heap[gb265]? = some (.cells #[.int .i64 t260, (.slice Ao80 t261.length co80)] 55 (0, 0))) ∧ Aside0 (Below w.heap.size w wc))
                      case first =>
                        have H := HC67.out
                        clear HC67
                        replace H := Option.bind_eq_some_iff.mp H
                        obtain ⟨t266, A810, H⟩ := H
                        replace H : (if t266 = true then (laws_FnExactFind.j2 kj39 t255 (t264 != t237) t242 y255) else (laws_FnExactFind.j2 kj39 t255 true t242 y255)) = some r := H
                        have A81 := Aside0.mk A810
                        clear A810
                        by_cases c82 : t266 = true
                        · subst c82
                          have H1 : (laws_FnExactFind.j2 kj39 t255 (t264 != t237) t242 y255) = some r := by rw [if_pos rfl] at H; exact H
                          clear H
                          have H := H1
                          clear H1
                          have H' := Aside0.mk H
                          clear H
                          have hnb83 := NB265_238.out
                          have hnc83 := NB238_265.out
                          have hnb84 := NB265_247.out
                          have hnc84 := NB247_265.out
                          have hcz85_0 : w76.cell? ⟨gb265, 0, none⟩ = some (.int .i64 0) := (blk_cell BK265.out 0).trans rfl
                          have hcz85_1 : w76.cell? ⟨gb265, 1, none⟩ = some (.slice none 0 0) := (blk_cell BK265.out 1).trans rfl
                          have hfz85_0 := blk_frozen BK265.out 0
                          have hfz85_1 := blk_frozen BK265.out 1
                          have hnb86 := NB238_247.out
                          have hnc86 := NB247_238.out
                          have hcz87_0 : w76.cell? ⟨gb238, 0, none⟩ = some (.int .i64 t233) := (blk_cell BK238.out 0).trans rfl
                          have hcz87_1 : w76.cell? ⟨gb238, 1, none⟩ = some (.slice Ao17 t234.length co17) := (blk_cell BK238.out 1).trans rfl
                          have hfz87_0 := blk_frozen BK238.out 0
                          have hfz87_1 := blk_frozen BK238.out 1
                          go_wp2_with (first | ((with_reducible refine gate_callee (f := 36) rfl ?_); refine goesL_ (some 86) rfl rfl Try.func36 (by kernel_rfl) rfl #[.agg #[.int .i64 t260, .slice Ao80 t261.length co80], .agg #[.int .i64 t233, .slice Ao17 t234.length co17]] rfl (by (try simp only [List.map_toArray, List.map_cons, List.map_nil]); first | done | rfl | (simp only [List.length_drop, List.length_take]; rfl)) ?_; (with_reducible refine (laws_eqShape.calls kj39 t260 _ _ t261 t233 _ _ t234 true _ ?side1 ?side2 ?side3 ?side4 A81.out).mono ?_); (case side1 => refine (Kd.S_reads' (e := 134) (base := w.heap.size) (ok := fun k_ => ((True ∧ some k_ ≠ (.slice Ao17 t234.length co17 : Value).ownBlock) ∧ some k_ ≠ (.slice Ao24 t243.length co24 : Value).ownBlock)) (n := t261.length) (c := co80) ?_).2.2; exact (by (with_reducible repeat (first | apply Kd.S_alloc | apply Kd.S_drewN | apply Kd.S_drew)); exact (Kd.S_mono (Kd.S_far (p := ⟨gb265, 1, none⟩) (Kd.S_far (p := ⟨gb265, 0, none⟩) (Kd.S_types HO263.out BK265.out (by decide)) (fun _ hk => hk.2) (.int .i64 t260)) (fun _ hk => hk.2) (.slice Ao80 t261.length co80)) (fun _ h_ => h_.1)))); (case side2 => exact (Kd.S_reads' HO263.out).2.1); (case side3 => refine (Kd.S_reads' (e := 134) (base := w.heap.size) (ok := fun k_ => (some k_ ≠ (.slice Ao24 t243.length co24 : Value).ownBlock ∧ some k_ ≠ (.slice Ao80 t261.length co80 : Value).ownBlock)) (n := t234.length) (c := co17) ?_).2.2; exact (by (with_reducible repeat (first | apply Kd.S_alloc | apply Kd.S_drewN | apply Kd.S_drew)); exact (Kd.S_mono (Kd.S_far (p := ⟨gb265, 1, none⟩) (Kd.S_far (p := ⟨gb265, 0, none⟩) (Kd.S_types HO_239001.out BK265.out (by decide)) (fun _ hk => hk.2) (.int .i64 t260)) (fun _ hk => hk.2) (.slice Ao80 t261.length co80)) (fun k_ hk_ => by (revert hk_; (try simp only [and_imp]); intros; (repeat' (first | (with_reducible assumption) | (with_reducible refine And.intro ?_ ?_)))))))); (case side4 => exact (Kd.S_reads' HO_239001.out).2.1); rintro e w88 ⟨rfl, hb⟩; refine ⟨_, rfl, ?_⟩; have n0_ := Aside0.mk (Kd.S_below (by (with_reducible repeat (first | apply Kd.S_alloc | apply Kd.S_drewN | apply Kd.S_drew)); exact (Kd.S_mono (Kd.S_far (p := ⟨gb265, 1, none⟩) (Kd.S_far (p := ⟨gb265, 0, none⟩) (Kd.S_types HO_239001.out BK265.out (by decide)) (fun _ hk => hk.2) (.int .i64 t260)) (fun _ hk => hk.2) (.slice Ao80 t261.length co80)) (fun _ h_ => h_.1))) hb); have n1_ := Aside0.mk (Kd.S_below (by (with_reducible repeat (first | apply Kd.S_alloc | apply Kd.S_drewN | apply Kd.S_drew)); exact (Kd.S_mono (Kd.S_far (p := ⟨gb265, 1, none⟩) (Kd.S_far (p := ⟨gb265, 0, none⟩) (Kd.S_types HO_248001.out BK265.out (by decide)) (fun _ hk => hk.2) (.int .i64 t260)) (fun _ hk => hk.2) (.slice Ao80 t261.length co80)) (fun _ h_ => h_.1))) hb); have n2_ := Aside0.mk (Kd.R_below (by (with_reducible repeat (first | apply Kd.R_alloc | apply Kd.R_drewN | apply Kd.R_drew)); exact (Kd.R_mono (Kd.R_far (p := ⟨gb265, 1, none⟩) (Kd.R_far (p := ⟨gb265, 0, none⟩) (Kd.R_types HO259.out BK265.out (by decide)) (fun _ hk => hk.2) (.int .i64 t260)) (fun _ hk => hk.2) (.slice Ao80 t261.length co80)) (fun _ h_ => h_.1))) hb); have n3_ := Aside0.mk (Kd.S_below (by (with_reducible repeat (first | apply Kd.S_alloc | apply Kd.S_drewN | apply Kd.S_drew)); exact (Kd.S_mono (Kd.S_far (p := ⟨gb265, 1, none⟩) (Kd.S_far (p := ⟨gb265, 0, none⟩) (Kd.S_types HO263.out BK265.out (by decide)) (fun _ hk => hk.2) (.int .i64 t260)) (fun _ hk => hk.2) (.slice Ao80 t261.length co80)) (fun _ h_ => h_.1))) hb); have n4_ := Aside0.mk (blk_below (g := gb238) (o := .cells #[.int .i64 t233, .slice Ao17 t234.length co17] 55 (0, 0)) (by (with_reducible repeat (first | refine blk_drewN ?_ _ | refine blk_drew ?_ | refine blk_alloc ?_ _)); refine blk_far ?_ NB238_265.out _; (with_reducible repeat (first | refine blk_drewN ?_ _ | refine blk_drew ?_ | refine blk_alloc ?_ _)); refine blk_far ?_ NB238_265.out _; (with_reducible repeat (first | refine blk_drewN ?_ _ | refine blk_drew ?_ | refine blk_alloc ?_ _)); exact BK238.out) hb); have n5_ := Aside0.mk (blk_below (g := gb247) (o := .cells #[.int .i64 t242, .slice Ao24 t243.length co24] 55 (0, 0)) (by (with_reducible repeat (first | refine blk_drewN ?_ _ | refine blk_drew ?_ | refine blk_alloc ?_ _)); refine blk_far ?_ NB247_265.out _; (with_reducible repeat (first | refine blk_drewN ?_ _ | refine blk_drew ?_ | refine blk_alloc ?_ _)); refine blk_far ?_ NB247_265.out _; (with_reducible repeat (first | refine blk_drewN ?_ _ | refine blk_drew ?_ | refine blk_alloc ?_ _)); exact BK247.out) hb); have n6_ := Aside0.mk (blk_below (g := gb265) (o := .cells #[.int .i64 t260, .slice Ao80 t261.length co80] 55 (0, 0)) (by (with_reducible repeat (first | refine blk_drewN ?_ _ | refine blk_drew ?_ | refine blk_alloc ?_ _)); refine blk_put (cs := #[.int .i64 t260, .slice none 0 0]) ?_ 1 _ rfl; (with_reducible repeat (first | refine blk_drewN ?_ _ | refine blk_drew ?_ | refine blk_alloc ?_ _)); refine blk_put (cs := #[.int .i64 0, .slice none 0 0]) ?_ 0 _ rfl; (with_reducible repeat (first | refine blk_drewN ?_ _ | refine blk_drew ?_ | refine blk_alloc ?_ _)); exact BK265.out) hb); have n7_ := Aside0.mk (below_step (by repeat (first | (with_reducible first | exact HB.out | apply below_alloc | apply pw_below_drewN | apply below_drew1 | refine below_set ?_ GE238.out | refine below_set ?_ GE247.out | refine below_set ?_ GE265.out) | exact HB.out)) hb); clear HO_239001; clear HO_248001; clear HO259; clear HO263; clear BK238; clear BK247; clear BK265; clear HB; have HO_239001 := n0_; have HO_248001 := n1_; have HO259 := n2_; have HO263 := n3_; have BK238 := n4_; have BK247 := n5_; have BK265 := n6_; have HB := n7_; clear n0_ n1_ n2_ n3_ n4_ n5_ n6_ n7_; (try clear hb); (try clear hb2); (try clear hk); (try clear hi)))
                          go_meet
                          case rel => exact ⟨_, ((t264 != t237)), (by first | rfl | (simp; done) | (simp [*]; done)), H', ⟨by have := HJ9.out; have := HJ39.out; first | omega | exact Nat.le_refl _⟩, ⟨by (with_reducible repeat (first | apply Kd.S_alloc | apply Kd.S_drewN | apply Kd.S_drew)); exact Kd.S_mono HO_239001.out (fun k_ hk_ => by (revert hk_; (try simp only [and_imp]); intros; (repeat' (first | (with_reducible assumption) | (with_reducible refine And.intro ?_ ?_)))))⟩, ⟨by (with_reducible repeat (first | apply Kd.S_alloc | apply Kd.S_drewN | apply Kd.S_drew)); exact Kd.S_mono HO_248001.out (fun k_ hk_ => by (revert hk_; (try simp only [and_imp]); intros; (repeat' (first | (with_reducible assumption) | (with_reducible refine And.intro ?_ ?_)))))⟩, ⟨by (with_reducible repeat (first | apply Kd.S_alloc | apply Kd.S_drewN | apply Kd.S_drew)); exact Kd.S_mono HO263.out (fun _ hk => ⟨hk.1.2, hk.2⟩)⟩, ⟨by (with_reducible repeat (first | refine blk_drewN ?_ _ | refine blk_drew ?_ | refine blk_alloc ?_ _)); exact BK238.out⟩, ⟨by (with_reducible repeat (first | refine blk_drewN ?_ _ | refine blk_drew ?_ | refine blk_alloc ?_ _)); exact BK247.out⟩, ⟨by (with_reducible repeat (first | refine blk_drewN ?_ _ | refine blk_drew ?_ | refine blk_alloc ?_ _)); exact BK265.out⟩, ⟨by repeat (first | (with_reducible first | exact HB.out | apply below_alloc | apply pw_below_drewN | apply below_drew1 | refine below_set ?_ GE238.out | refine below_set ?_ GE247.out | refine below_set ?_ GE265.out) | exact HB.out)⟩⟩
                        · replace c82 := Bool.eq_false_iff.mpr c82
                          subst c82
                          have H1 : (laws_FnExactFind.j2 kj39 t255 true t242 y255) = some r := by rw [if_neg (show ¬ (false = true) by decide)] at H; exact H
                          clear H
                          exact by (cases kj39 with | zero => exact absurd H1 (by simp [laws_FnExactFind.j2]) | succ q_ => (exact absurd ((Option.some.inj (show some false = some r from by simpa only [laws_FnExactFind.j2, if_true] using H1)).trans hrt) (by decide)))
                      case rest =>
                        clear HC67
                        try clear c2
                        try clear p2
                        try clear c3
                        try clear c4
                        try clear c4b0
                        try clear c5
                        try clear c6
                        try clear c7
                        try clear c8
                        try clear c9
                        try clear c22
                        try clear c26
                        try clear c27
                        try clear c31
                        try clear c32
                        try clear c33
                        try clear c34
                        try clear c35
                        try clear c36
                        try clear c37
                        try clear c38
                        try clear c39
                        try clear c40
                        try clear c44
                        try clear c44b0
                        try clear c46
                        try clear c47
                        try clear c51
                        try clear c55
                        try clear c58
                        try clear c58b0
                        try clear c59
                        try clear c64
                        try clear c64b0
                        try clear c64b1
                        try clear c68
                        try clear c77
                        try clear c78
                        try clear c82
                        try clear c83
                        try clear c84
                        try clear c86
                        try clear c89
                        try clear c90
                        try clear c92
                        try clear hcz16_0
                        try clear hcz16_1
                        try clear hcz23_0
                        try clear hcz23_1
                        try clear hcz28_0
                        try clear hcz28_1
                        try clear hcz29_0
                        try clear hcz29_1
                        try clear hcz32_0
                        try clear hcz32_1
                        try clear hcz33_0
                        try clear hcz33_1
                        try clear hcz48_0
                        try clear hcz48_1
                        try clear hcz49_0
                        try clear hcz49_1
                        try clear hcz52_0
                        try clear hcz52_1
                        try clear hcz53_0
                        try clear hcz53_1
                        try clear hcz60_0
                        try clear hcz60_1
                        try clear hcz62_0
                        try clear hcz62_1
                        try clear hcz69_0
                        try clear hcz69_1
                        try clear hcz71_0
                        try clear hcz71_1
                        try clear hcz79_0
                        try clear hcz79_1
                        try clear hcz85_0
                        try clear hcz85_1
                        try clear hcz87_0
                        try clear hcz87_1
                        try clear hcz91_0
                        try clear hcz91_1
                        try clear hcz93_0
                        try clear hcz93_1
                        try clear hfz16_0
                        try clear hfz16_1
                        try clear hfz23_0
                        try clear hfz23_1
                        try clear hfz28_0
                        try clear hfz28_1
                        try clear hfz29_0
                        try clear hfz29_1
                        try clear hfz32_0
                        try clear hfz32_1
                        try clear hfz33_0
                        try clear hfz33_1
                        try clear hfz48_0
                        try clear hfz48_1
                        try clear hfz49_0
                        try clear hfz49_1
                        try clear hfz52_0
                        try clear hfz52_1
                        try clear hfz53_0
                        try clear hfz53_1
                        try clear hfz60_0
                        try clear hfz60_1
                        try clear hfz62_0
                        try clear hfz62_1
                        try clear hfz69_0
                        try clear hfz69_1
                        try clear hfz71_0
                        try clear hfz71_1
                        try clear hfz79_0
                        try clear hfz79_1
                        try clear hfz85_0
                        try clear hfz85_1
                        try clear hfz87_0
                        try clear hfz87_1
                        try clear hfz91_0
                        try clear hfz91_1
                        try clear hfz93_0
                        try clear hfz93_1
                        try clear p2
                        obtain ⟨kq, x92_66, rfl, HA, HJ66, HO_239001, HO_248001, HO_266001, BK238, BK247, BK265, HB⟩ := hcut
                        cases kq with
                        | zero => exact absurd HA.out (by simp [laws_FnExactFind.j2])
                        | succ kj66 =>
                          have H := HA.out
                          clear HA
                          simp only [laws_FnExactFind.j2] at H
                          by_cases c95 : x92_66 = true
                          · subst c95
                            have H1 : (some false) = some r := by rw [if_pos rfl] at H; exact H
                            clear H
                            have H := H1
                            clear H1
                            exact absurd ((Option.some.inj H).trans hrt) (by decide)
                          · replace c95 := Bool.eq_false_iff.mpr c95
                            subst c95
                            have H1 : ((laws_heldShape.f kj66 t242 y255 1).bind fun t267 => (if t267 < 0 then (some false) else (if t267 = t255 then (some true) else (some false)))) = some r := by rw [if_neg (show ¬ (false = true) by decide)] at H; exact H
                            clear H
                            have H := H1
                            clear H1
                            replace H := Option.bind_eq_some_iff.mp H
                            obtain ⟨t267, A960, H⟩ := H
                            replace H : (if t267 < 0 then (some false) else (if t267 = t255 then (some true) else (some false))) = some r := H
                            have A96 := Aside0.mk A960
                            clear A960
                            by_cases c97 : t267 < 0
                            · rw [if_pos c97] at H
                              have c97b0 : decide (t267 < 0) = true := decide_eq_true c97
                              clear c97
                              exact absurd ((Option.some.inj H).trans hrt) (by decide)
                            · rw [if_neg c97] at H
                              have c97b0 : decide (t267 < 0) = false := decide_eq_false c97
                              clear c97
                              by_cases c102 : t267 = t255
                              · rw [if_pos c102] at H
                                have c102b0 : (t267 == t255) = true := beq_iff_eq.mpr c102
                                have c102b1 : (t267 != t255) = false := bne_eq_false_iff_eq.mpr c102
                                clear c102
                                obtain rfl := Option.some.inj H
                                have hnb103 := NB247_238.out
                                have hnc103 := NB238_247.out
                                have hnb104 := NB247_265.out
                                have hnc104 := NB265_247.out
                                have hcz105_0 : wc.cell? ⟨gb247, 0, none⟩ = some (.int .i64 t242) := (blk_cell BK247.out 0).trans rfl
                                have hcz105_1 : wc.cell? ⟨gb247, 1, none⟩ = some (.slice Ao24 t243.length co24) := (blk_cell BK247.out 1).trans rfl
                                have hfz105_0 := blk_frozen BK247.out 0
                                have hfz105_1 := blk_frozen BK247.out 1
                                go_wp2_with (first | ((with_reducible refine gate_callee (f := 40) rfl ?_); refine goesL_ (some 95) rfl rfl Try.func40 (by kernel_rfl) rfl #[.agg #[.int .i64 t242, .slice Ao24 y255.length co24], .int .i64 1] rfl (by (try simp only [List.map_toArray, List.map_cons, List.map_nil]); first | done | (rw [show y255.length = t243.length from HYL.out]; first | done | rfl) | rfl | (simp only [List.length_drop, List.length_take]; rfl)) ?_; (with_reducible refine (laws_heldShape.calls kj66 t242 _ _ y255 1 t267 _ ?side1 ?side2 A96.out).mono ?_); (case side1 => repeat (first | exact (Kd.S_reads' HO_248001.out).2.2 | (with_reducible refine Kd.C_alloc ?_ _) | (with_reducible refine Kd.C_drewN ?_ _) | (with_reducible refine Kd.C_drew ?_))); (case side2 => first | exact (Kd.S_reads' HO_248001.out).2.1 | (rw [show y255.length = t243.length from HYL.out]; exact (Kd.S_reads' HO_248001.out).2.1)); rintro e w106 ⟨rfl, hb⟩; refine ⟨_, rfl, ?_⟩; have n0_ := Aside0.mk (Kd.S_below (by (with_reducible repeat (first | apply Kd.S_alloc | apply Kd.S_drewN | apply Kd.S_drew)); exact HO_239001.out) hb); have n1_ := Aside0.mk (Kd.S_below (by (with_reducible repeat (first | apply Kd.S_alloc | apply Kd.S_drewN | apply Kd.S_drew)); exact HO_248001.out) hb); have n2_ := Aside0.mk (Kd.S_below (by (with_reducible repeat (first | apply Kd.S_alloc | apply Kd.S_drewN | apply Kd.S_drew)); exact HO_266001.out) hb); have n3_ := Aside0.mk (blk_below (g := gb238) (o := .cells #[.int .i64 t233, .slice Ao17 t234.length co17] 55 (0, 0)) (by (with_reducible repeat (first | refine blk_drewN ?_ _ | refine blk_drew ?_ | refine blk_alloc ?_ _)); exact BK238.out) hb); have n4_ := Aside0.mk (blk_below (g := gb247) (o := .cells #[.int .i64 t242, .slice Ao24 t243.length co24] 55 (0, 0)) (by (with_reducible repeat (first | refine blk_drewN ?_ _ | refine blk_drew ?_ | refine blk_alloc ?_ _)); exact BK247.out) hb); have n5_ := Aside0.mk (blk_below (g := gb265) (o := .cells #[.int .i64 t260, .slice Ao80 t261.length co80] 55 (0, 0)) (by (with_reducible repeat (first | refine blk_drewN ?_ _ | refine blk_drew ?_ | refine blk_alloc ?_ _)); exact BK265.out) hb); have n6_ := Aside0.mk (below_step (by repeat (first | (with_reducible first | exact HB.out | apply below_alloc | apply pw_below_drewN | apply below_drew1 | refine below_set ?_ GE238.out | refine below_set ?_ GE247.out | refine below_set ?_ GE265.out) | exact HB.out)) hb); clear HO_239001; clear HO_248001; clear HO_266001; clear BK238; clear BK247; clear BK265; clear HB; have HO_239001 := n0_; have HO_248001 := n1_; have HO_266001 := n2_; have BK238 := n3_; have BK247 := n4_; have BK265 := n5_; have HB := n6_; clear n0_ n1_ n2_ n3_ n4_ n5_ n6_; (try clear hb); (try clear hb2); (try clear hk); (try clear hi)))
                                go_ret
                                exact ⟨by first | rfl | (simp [errW_none, errW_some] <;> rfl) | (simp [*, errW_none, errW_some] <;> rfl), by repeat (first | (with_reducible first | exact HB.out | apply below_alloc | apply pw_below_drewN | apply below_drew1 | refine below_set ?_ GE238.out | refine below_set ?_ GE247.out | refine below_set ?_ GE265.out) | exact HB.out)⟩
                              · rw [if_neg c102] at H
                                have c102b0 : (t267 == t255) = false := beq_eq_false_iff_ne.mpr c102
                                have c102b1 : (t267 != t255) = true := bne_iff_ne.mpr c102
                                exact absurd ((Option.some.inj H).trans hrt) (by decide)
                    · rw [if_neg c64] at H
                      have c64b0 : (t256 == t255) = false := beq_eq_false_iff_ne.mpr c64
                      have c64b1 : (t256 != t255) = true := bne_iff_ne.mpr c64
                      exact absurd ((Option.some.inj H).trans hrt) (by decide)
          · replace c38 := Bool.eq_false_iff.mpr c38
            subst c38
            have H1 : (some false) = some r := by rw [if_neg (show ¬ (false = true) by decide)] at H; exact H
            clear H
            have H := H1
            clear H1
            exact absurd ((Option.some.inj H).trans hrt) (by decide)

end Go.Proofs.Ytinilabmffjnaaa.PFnExactFind
