/- The functions that the law FnExactDiskOk reaches, each with what it computes and its contract. -/
import Derived.Test.YtebnhcliileneaaQFnExactDiskOkx0
import Derived.Test.YtebnhcliileneaaQFnExactDiskOkx8
namespace Go.Proofs.Ytebnhcliileneaa.PFnExactDiskOk
open Go.RowKit Go.Proofs.YtebnhcliileneaaW.PrintWords Go.Proofs.YtebnhcliileneaaW.PrintLast Go.Proofs.YtebnhcliileneaaW.PrintMore
attribute [local go_sem] max2_int min2_int max_two min_two max_three min_three max_four min_four   -- for this text's walks alone
set_option linter.unusedVariables false
set_option linter.unusedSimpArgs false

/-! ### impl_Disk_isSector: function 102 -/
def impl_Disk_isSector.f (l0 : List Int) (a1 : Int) : Option (Bool) := (impl_Disk_sectors.f l0).bind fun t157 => ((impl_inRange.f a1 0 (wrap64 (t157 - 1))).bind fun t158 => (some t158))
set_option maxHeartbeats 8000000 in
set_option maxRecDepth 100000 in
theorem impl_Disk_isSector.calls (g : Nat) (A0 : Option Addr) (c0 : Nat) (l0 : List Int) (a1 : Int) (r : Bool) (w : World) (hp : w.cell? ⟨g, 0, none⟩ = some (.slice A0 l0.length c0)) (h : impl_Disk_isSector.f l0 a1 = some r) :
    Calls Try.prog 102 #[.pointer (some ⟨g, 0, none⟩), .int .i64 a1] w fun e w' => e = .returned (.bool r) ∧ Drawn0 w w' := by
  have H : ((impl_Disk_sectors.f l0).bind fun t157 => ((impl_inRange.f a1 0 (wrap64 (t157 - 1))).bind fun t158 => (some t158))) = some r := h
  clear h
  replace H := Option.bind_eq_some_iff.mp H
  obtain ⟨t157, A30, H⟩ := H
  replace H : ((impl_inRange.f a1 0 (wrap64 (t157 - 1))).bind fun t158 => (some t158)) = some r := H
  have A3 := Aside0.mk A30
  clear A30
  replace H := Option.bind_eq_some_iff.mp H
  obtain ⟨t158, A40, H⟩ := H
  replace H : (some t158) = some r := H
  have A4 := Aside0.mk A40
  clear A40
  obtain rfl := Option.some.inj H
  go_enter Try.func102, Try.ntmps102
  go_wp2_with (first | ((with_reducible refine gate_callee (f := 101) rfl ?_); refine goesL_ (some 7) rfl rfl Try.func101 (by kernel_rfl) rfl #[.pointer (some ⟨g, 0, none⟩)] rfl (by (try simp only [List.map_toArray, List.map_cons, List.map_nil]); first | done | rfl | (simp only [List.length_drop, List.length_take]; rfl)) ?_; (with_reducible refine (impl_Disk_sectors.calls g A0 c0 l0 t157 _ ?side1 A3.out).mono ?_); (case side1 => first | exact hp | (go_simp; done) | simpa using hp); rintro e w' ⟨rfl, ⟨nd, rfl⟩⟩; refine ⟨_, rfl, ?_⟩) | ((with_reducible refine gate_callee (f := 77) rfl ?_); refine goesL_ (some 9) rfl rfl Try.func77 (by kernel_rfl) rfl #[.int .i64 a1, .int .i64 0, .int .i64 (wrap64 (t157 - 1))] rfl (by (try simp only [List.map_toArray, List.map_cons, List.map_nil]); first | done | rfl | (simp only [List.length_drop, List.length_take]; rfl)) ?_; (with_reducible refine (impl_inRange.calls a1 0 (wrap64 (t157 - 1)) t158 _ A4.out).mono ?_); rintro e w' ⟨rfl, ⟨nd, rfl⟩⟩; refine ⟨_, rfl, ?_⟩))
  go_ret
  exact ⟨by first | rfl | (simp; done) | (simp [*]; done), by repeat (first | exact Drawn0.refl _ | apply Drawn0.step)⟩

end Go.Proofs.Ytebnhcliileneaa.PFnExactDiskOk
