/- Functions that the law reaches, with their contracts. -/
import Derived.Test.YtgmnphckgicadaaMFnLogxc
import Derived.Test.YtgmnphckgicadaaMFnLogxd
import Derived.Test.YtgmnphckgicadaaMFnLogxa
import Derived.Test.YtgmnphckgicadaaMFnLogxb
namespace Go.Proofs.Ytgmnphckgicadaa.PFnLog
open Go.RowKit Go.Proofs.YtgmnphckgicadaaW.PrintWords Go.Proofs.YtgmnphckgicadaaW.PrintLast Go.Proofs.YtgmnphckgicadaaW.PrintMore
attribute [local go_sem] max2_int min2_int max_two min_two max_three min_three max_four min_four
set_option linter.unusedVariables false
set_option linter.unusedSimpArgs false

def spec_l12Draw.l0 : Nat → Int → List Int → Int → Int → List Int → List (S96) → Int → Int → Int → Int → Option (List Int × (List (S96)) × Int × Int × Int × Int × Int × Int)
 | 0, _, _, _, _, _, _, _, _, _, _ => none
 | k + 1, x9, x1000, x1001, x1002, x610000, x610001, x626000, x626001, x626002, x626003 => if x9 > 0 then ((spec_l1Int.f x1000 x1001 x1002 (([0, 1, 44, 45, 90, 130] : List Int))).bind fun bt632 => ((spec_l1Bytes.f k x1000 bt632.2.1 bt632.2.2 bt632.1).bind fun bt635 => ((spec_l1Once.f x1000 bt635.2.1 bt635.2.2 3).bind fun bt640 => (if bt640.1 = true then ((spec_LogWrites.f k x626000 x626001 x626002 x626003 bt635.1).bind fun t643 => ((spec_l11Copy.f k x610000 x610001).bind fun bt646 => (if bt646.2.length + t643.length < 4398046511104 then ((spec_l1Bytes.f k x1000 bt640.2.1 bt640.2.2 1).bind fun bt656 => ((spec_Crash.f k bt646.1 (bt646.2 ++ t643) bt656.1).bind fun bt661 => ((spec_LogOpen.f k bt661.1 bt661.2 x626000 x626001).bind fun bt667 => (spec_l12Draw.l0 k (wrap64 (x9 - 1)) x1000 bt656.2.1 bt656.2.2 bt661.1 bt661.2 bt667.1 bt667.2.1 bt667.2.2.1 bt667.2.2.2.1)))) else (none)))) else ((spec_LogAdd.f k x610000 x610001 x626000 x626001 x626002 x626003 bt635.1).bind fun bt675 => (spec_l12Draw.l0 k (wrap64 (x9 - 1)) x1000 bt640.2.1 bt640.2.2 bt675.1 bt675.2.1 bt675.2.2.1 bt675.2.2.2.1 bt675.2.2.2.2.1 bt675.2.2.2.2.2.1)))))) else (some (x610000, x610001, x626000, x626001, x626002, x626003, x1001, x1002))
def spec_l12Draw.f (k : Nat) (s0_0 : List Int) (s0_1 : Int) (s0_2 : Int) : Option (List Int × (List (S96)) × Int × Int × Int × Int × Int × Int) := (spec_l1Below.f s0_0 s0_1 s0_2 20).bind fun bt600 => ((spec_DiskNew.f (wrap64 (6 + bt600.1))).bind fun bt603 => ((spec_l1Below.f s0_0 bt600.2.1 bt600.2.2 3).bind fun bt610 => ((spec_l11Many.f bt603.1 bt603.2).bind fun t613 => ((spec_l1Below.f s0_0 bt610.2.1 bt610.2.2 2).bind fun bt614 => ((spec_LogOpen.f k bt603.1 bt603.2 bt610.1 (wrap64 ((wrap64 (t613 - 1)) - bt614.1))).bind fun bt617 => ((spec_l1Below.f s0_0 bt614.2.1 bt614.2.2 8).bind fun bt626 => (spec_l12Draw.l0 k bt626.1 s0_0 bt626.2.1 bt626.2.2 bt603.1 bt603.2 bt617.1 bt617.2.1 bt617.2.2.1 bt617.2.2.2.1)))))))
def spec_l12Draw.T3 : Bool × List (List Nat × List Nat) := (true, [([], []), ([], []), ([], []), ([2], [2]), ([3], [3]), ([], []), ([5, 3], [5]), ([4, 6], [4, 6]), ([0, 1, 7, 6], [0, 1, 7]), ([8], [8]), ([9], [9]), ([9], [9]), ([9], [9]), ([], []), ([13, 10, 8, 0, 1, 2, 3, 4, 5, 6, 7, 8, 9, 10, 13], [10, 13]), ([11, 14, 0, 1, 2, 3, 4, 5, 6, 7, 8, 9, 10, 11, 13, 14], [11]), ([12, 15, 0, 1, 2, 3, 4, 5, 6, 7, 8, 9, 10, 11, 12, 13, 14, 15], [12])])
def spec_l12Draw.B3 : List Nat := [0, 0, 0, 4, 12, 0, 44, 124, 255, 511, 1023, 1023, 1023, 0, 10239, 28671, 65535]
theorem spec_l12Draw.tab3 : rtab .any (opsOf Try.f62 3) = spec_l12Draw.T3 := by kernel_rfl
theorem spec_l12Draw.bits3 : waitsOk spec_l12Draw.T3.2 spec_l12Draw.B3 = true := by kernel_rfl
theorem at126 {w0 : World} {g : Nat} {a : List Int} {b c : Int} : Mem.At g (fun W => IsS126 w0 W g a b c) := fun _ _ e ⟨A, c, h, r⟩ => ⟨A, c, e.trans h, r⟩
set_option maxHeartbeats 8000000 in
set_option maxRecDepth 100000 in
theorem spec_l12Draw.calls (k : Nat) (g : Nat) (s0_0 : List Int) (s0_1 : Int) (s0_2 : Int) (r1 : List Int) (r2 : List (S96)) (r3 : Int) (r4 : Int) (r5 : Int) (r6 : Int) (r7 : Int) (r8 : Int) (w0 w : World) (hI : IsS126 w0 w g s0_0 s0_1 s0_2) (hB : Below w0.heap.size w0 w) (h : spec_l12Draw.f k s0_0 s0_1 s0_2 = some (r1, r2, r3, r4, r5, r6, r7, r8)) :
  Calls Try.prog 62 #[.pointer (some ⟨g, 0, none⟩)] w fun e w' => ∃ v0_ v1_ : Value, e = .returned (.tuple #[.agg #[v0_, v1_], .agg #[.int .i64 r3, .int .i64 r4, .int .i64 r5, .int .i64 r6]]) ∧ Kd.V (Kd.int .u8) 5 w' 0 (fun k_ => w.heap.size ≤ k_) v0_ r1 ∧ Kd.V k96 96 w' 0 (fun k_ => w.heap.size ≤ k_) v1_ r2 ∧ IsS126 w0 w' g s0_0 r7 r8 ∧ Below w0.heap.size w0 w' ∧ KeepBut w w' g none := by
 have hu31 := Try.underlying31
 have hu32 := Try.underlying32
 have M := Mem.Mem.startS hB (IsS126.ge hI) (IsS126.lt hI) at126 hI
 have HB0 := Ak hB
 clear hI hB
 have H := h
 unfold spec_l12Draw.f at H
 clear h
 replace H := Option.bind_eq_some_iff.mp H
 obtain ⟨⟨t600, t601, t602⟩, A20, H⟩ := H
 have A2 := Ak A20; clear A20; (try dsimp only at H)
 replace H := Option.bind_eq_some_iff.mp H
 obtain ⟨⟨t603, t606⟩, A30, H⟩ := H
 have A3 := Ak A30; clear A30; (try dsimp only at H)
 replace H := Option.bind_eq_some_iff.mp H
 obtain ⟨⟨t610, t611, t612⟩, A40, H⟩ := H
 have A4 := Ak A40; clear A40; (try dsimp only at H)
 replace H := Option.bind_eq_some_iff.mp H
 obtain ⟨t613, A50, H⟩ := H
 have A5 := Ak A50; clear A50; (try dsimp only at H)
 replace H := Option.bind_eq_some_iff.mp H
 obtain ⟨⟨t614, t615, t616⟩, A60, H⟩ := H
 have A6 := Ak A60; clear A60; (try dsimp only at H)
 replace H := Option.bind_eq_some_iff.mp H
 obtain ⟨⟨t617, t618, t619, t620, t621, t624⟩, A70, H⟩ := H
 have A7 := Ak A70; clear A70; (try dsimp only at H)
 replace H := Option.bind_eq_some_iff.mp H
 obtain ⟨⟨t626, t627, t628⟩, A80, H⟩ := H
 have A8 := Ak A80; clear A80; (try dsimp only at H)
 have H' := Ak H
 clear H
 go_enter Try.func62, Try.ntmps62
 go_wp2_with ((with_reducible refine Mem.gateW ?_); first | (refine Mem.Mem.boxE 2 31 [.slice none 0 0, .slice none 0 0] (M := M) (h := fun gb598 w9 M => ?_)) | (refine Mem.Mem.boxE 3 32 [.int .i64 0, .int .i64 0, .int .i64 0, .int .i64 0] (M := M) (h := fun gb599 w10 M => ?_)) | (refine Mem.Mem.callE (some 14) Try.func86 #[.pointer (some ⟨g, 0, none⟩), .int .i64 20] (M := M) (h := fun M => (spec_l1Below.calls g s0_0 s0_1 s0_2 20 t600 t601 t602 w0 _ (M.at_stt 2 rfl) M.below A2.out).mono ?_); rintro e w11 ⟨rfl, hi, hb, hk⟩; refine ⟨_, rfl, ?_⟩; have M := M.state 2 hk hb at126 hi rfl; clear hi hb hk) | (refine Mem.Mem.callE (some 16) Try.func109 #[.int .i64 (wrap64 (6 + t600))] (M := M) (h := fun M => (spec_DiskNew.calls (wrap64 (6 + t600)) t603 t606 _ A3.out).mono ?_); rintro e w12 ⟨v604, v607, rfl, ho0, ho1, hb⟩; refine ⟨_, rfl, ?_⟩; have M := M.V2 hb (Mem.frR ho0) (Mem.frS ho1); clear hb ho0 ho1) | (refine Mem.Mem.boxE 4 31 [.slice none 0 0, .slice none 0 0] (M := M) (h := fun gb609 w13 M => ?_); obtain ⟨Ao14, co14, eo14⟩ := M.row_form 1 rfl; subst eo14; obtain ⟨Ao19, co19, eo19⟩ := M.row_form 2 rfl; subst eo19; have hz609 := M.look 0) | (refine Mem.Mem.callE (some 18) Try.func86 #[.pointer (some ⟨g, 0, none⟩), .int .i64 3] (M := Mem.Mem.st 0 1 (M := Mem.Mem.st 0 0 (M := M))) (h := fun M => (spec_l1Below.calls g s0_0 t601 t602 3 t610 t611 t612 w0 _ (M.at_stt 5 rfl) M.below A4.out).mono ?_); rintro e w20 ⟨rfl, hi, hb, hk⟩; refine ⟨_, rfl, ?_⟩; have M := M.state 5 hk hb at126 hi rfl; clear hi hb hk))
 have M := M.drew
 refine start_ (n := 17) (S := fun w' => w'.cell? ⟨gb609, 0, none⟩ = some (.slice Ao14 t603.length co14) ∧ w'.cell? ⟨gb609, 1, none⟩ = some (.slice Ao19 t606.length co19)) (ds := []) #[false, false, false, false, false, false, false, false, false, false, false, false, false, false, false, false, false] (by kernel_rfl) rfl rfl (M.two 0) (fun hHeld => ?_); refine with_tabW spec_l12Draw.tab3 spec_l12Draw.bits3 (fun HT_ HW_ => ?_)
 generalize w20.drew = w21 at M hHeld ⊢
 refine puT 1 21 HT_ (h := ?_)
 refine puT 5 25 HT_ (h := ?_)
 refine taT 0 20 HT_ HW_ hHeld (h := ?_)
 refine taT 2 22 HT_ HW_ hHeld (h := ?_)
 refine join_ (σ := Value × Nat) 3 #[true, true, true, true, true, true, true, true, true, true, true, true, true, true, false, false, false] (fun s_ => [(23, .int .i64 t613), (26, .int .i64 t614), (28, .tuple #[.agg #[.int .i64 t617, .int .i64 t618, .int .i64 t619, .int .i64 t620], s_.1, .bool t624]), (6, .pointer (some ⟨s_.2, 0, none⟩)), (24, .int .i64 (wrap64 (t613 - 1))), (27, .int .i64 (wrap64 ((wrap64 (t613 - 1)) - t614))), (19, .tuple #[.agg #[.int .i64 t617, .int .i64 t618, .int .i64 t619, .int .i64 t620], s_.1, .bool t624]), (29, .agg #[.int .i64 t617, .int .i64 t618, .int .i64 t619, .int .i64 t620]), (30, s_.1), (31, .bool t624)]) (fun s_ w' => (w'.cell? ⟨gb609, 0, none⟩ = some (.slice Ao14 t603.length co14) ∧ w'.cell? ⟨gb609, 1, none⟩ = some (.slice Ao19 t606.length co19)) ∧ Mem.Mem w0 w' [Mem.blk s_.2 32 [.int .i64 0, .int .i64 0, .int .i64 0, .int .i64 0], Mem.blk gb609 31 [.slice Ao14 t603.length co14, .slice Ao19 t606.length co19], Mem.row (Kd.int .u8) 5 (.slice Ao14 t603.length co14) t603, Mem.row k96 96 (.slice Ao19 t606.length co19) t606, Mem.blk gb599 32 [.int .i64 0, .int .i64 0, .int .i64 0, .int .i64 0], Mem.blk gb598 31 [.slice none 0 0, .slice none 0 0], Mem.stt g (fun W => IsS126 w0 W g s0_0 t615 t616), Mem.kept w0 w g]) ?_ ?_
 rotate_left
 ·intro hCont
  refine Mem.twT 3 13 (some 23) (some 6) HT_ (h1 := fun K hK => ?_) (h2 := fun K hK => ?_)
  ·refine Mem.Mem.callS Try.func104 #[.agg #[.slice Ao14 t603.length co14, .slice Ao19 t606.length co19]] (M := M) (h := fun M => (spec_l11Many.calls _ _ t603 _ _ t606 t613 _ (M.C 1 rfl) (M.cap 1 rfl) (M.C 2 rfl) (M.cap 2 rfl) A5.out).mono ?_)
   rintro e w22 ⟨rfl, hb⟩
   have M := M.call hb; clear hb
   refine ⟨_, rfl, Mem.nx (some 23) hK (M.two 0) (fun hHeld => ?_)⟩; clear hK K
   refine puT 4 24 HT_ (h := ?_)
   refine Mem.twT 6 13 (some 26) (some 6) HT_ (h1 := fun K hK => ?_) (h2 := fun K hK => ?_)
   ·refine Mem.Mem.callS Try.func86 #[.pointer (some ⟨g, 0, none⟩), .int .i64 2] (M := M) (h := fun M => (spec_l1Below.calls g s0_0 t611 t612 2 t614 t615 t616 w0 _ (M.at_stt 5 rfl) M.below A6.out).mono ?_)
    rintro e w23 ⟨rfl, hi, hb, hk⟩
    have M := M.state 5 hk hb at126 hi rfl; clear hi hb hk
    refine ⟨_, rfl, Mem.nx (some 26) hK (M.two 0) (fun hHeld => ?_)⟩; clear hK K
    refine puT 7 27 HT_ (h := ?_)
    refine Mem.twT 8 13 (some 28) (some 6) HT_ (h1 := fun K hK => ?_) (h2 := fun K hK => ?_)
    ·refine Mem.Mem.callS Try.func20 #[.agg #[.slice Ao14 t603.length co14, .slice Ao19 t606.length co19], .int .i64 t610, .int .i64 (wrap64 ((wrap64 (t613 - 1)) - t614))] (M := M) (h := fun M => (spec_LogOpen.calls k _ _ t603 _ _ t606 t610 (wrap64 ((wrap64 (t613 - 1)) - t614)) t617 t618 t619 t620 t621 t624 _ (M.C 1 rfl) (M.cap 1 rfl) (M.C 2 rfl) (M.cap 2 rfl) A7.out).mono ?_)
     rintro e w24 ⟨v622, rfl, ho0, hb⟩
     have M := M.call hb; clear hb ho0
     refine ⟨_, rfl, Mem.nx (some 28) hK (M.two 0) (fun hHeld => ?_)⟩; clear hK K
     refine puT 9 19 HT_ (h := puT 10 29 HT_ (h := puT 11 30 HT_ (h := puT 12 31 HT_ (h := ?_))))
     refine onT 13 (some 6) HT_ (h := fun K hK => ?_)
     refine Mem.Mem.boxS 6 32 [.int .i64 0, .int .i64 0, .int .i64 0, .int .i64 0] (hd := rfl) (M := M) (h := fun gb625 w29 M => Mem.nx (some 6) hK (M.two 1) (fun hHeld => ?_)); clear hK K
     exact norm_ (by simp only [putAll, Act.put, sT, sZ, sS]) (hCont (v622, gb625) _ ⟨hHeld, M⟩)
    ·refine Mem.Mem.boxS 6 32 [.int .i64 0, .int .i64 0, .int .i64 0, .int .i64 0] (hd := rfl) (M := M) (h := fun gb625 w29 M => Mem.nx (some 6) hK (M.two 1) (fun hHeld => ?_)); clear hK K
     refine onT 8 (some 28) HT_ (h := fun K hK => ?_)
     refine Mem.Mem.callS Try.func20 #[.agg #[.slice Ao14 t603.length co14, .slice Ao19 t606.length co19], .int .i64 t610, .int .i64 (wrap64 ((wrap64 (t613 - 1)) - t614))] (M := M) (h := fun M => (spec_LogOpen.calls k _ _ t603 _ _ t606 t610 (wrap64 ((wrap64 (t613 - 1)) - t614)) t617 t618 t619 t620 t621 t624 _ (M.C 2 rfl) (M.cap 2 rfl) (M.C 3 rfl) (M.cap 3 rfl) A7.out).mono ?_)
     rintro e w25 ⟨v622, rfl, ho0, hb⟩
     have M := M.call hb; clear hb ho0
     refine ⟨_, rfl, Mem.nx (some 28) hK (M.two 1) (fun hHeld => ?_)⟩; clear hK K
     refine puT 9 19 HT_ (h := puT 10 29 HT_ (h := puT 11 30 HT_ (h := puT 12 31 HT_ (h := ?_))))
     exact norm_ (by simp only [putAll, Act.put, sT, sZ, sS]) (hCont (v622, gb625) _ ⟨hHeld, M⟩)
   ·refine Mem.Mem.boxS 6 32 [.int .i64 0, .int .i64 0, .int .i64 0, .int .i64 0] (hd := rfl) (M := M) (h := fun gb625 w29 M => Mem.nx (some 6) hK (M.two 1) (fun hHeld => ?_)); clear hK K
    refine onT 6 (some 26) HT_ (h := fun K hK => ?_)
    refine Mem.Mem.callS Try.func86 #[.pointer (some ⟨g, 0, none⟩), .int .i64 2] (M := M) (h := fun M => (spec_l1Below.calls g s0_0 t611 t612 2 t614 t615 t616 w0 _ (M.at_stt 6 rfl) M.below A6.out).mono ?_)
    rintro e w24 ⟨rfl, hi, hb, hk⟩
    have M := M.state 6 hk hb at126 hi rfl; clear hi hb hk
    refine ⟨_, rfl, Mem.nx (some 26) hK (M.two 1) (fun hHeld => ?_)⟩; clear hK K
    refine puT 7 27 HT_ (h := ?_)
    refine onT 8 (some 28) HT_ (h := fun K hK => ?_)
    refine Mem.Mem.callS Try.func20 #[.agg #[.slice Ao14 t603.length co14, .slice Ao19 t606.length co19], .int .i64 t610, .int .i64 (wrap64 ((wrap64 (t613 - 1)) - t614))] (M := M) (h := fun M => (spec_LogOpen.calls k _ _ t603 _ _ t606 t610 (wrap64 ((wrap64 (t613 - 1)) - t614)) t617 t618 t619 t620 t621 t624 _ (M.C 2 rfl) (M.cap 2 rfl) (M.C 3 rfl) (M.cap 3 rfl) A7.out).mono ?_)
    rintro e w25 ⟨v622, rfl, ho0, hb⟩
    have M := M.call hb; clear hb ho0
    refine ⟨_, rfl, Mem.nx (some 28) hK (M.two 1) (fun hHeld => ?_)⟩; clear hK K
    refine puT 9 19 HT_ (h := puT 10 29 HT_ (h := puT 11 30 HT_ (h := puT 12 31 HT_ (h := ?_))))
    exact norm_ (by simp only [putAll, Act.put, sT, sZ, sS]) (hCont (v622, gb625) _ ⟨hHeld, M⟩)
  ·refine Mem.Mem.boxS 6 32 [.int .i64 0, .int .i64 0, .int .i64 0, .int .i64 0] (hd := rfl) (M := M) (h := fun gb625 w29 M => Mem.nx (some 6) hK (M.two 1) (fun hHeld => ?_)); clear hK K
   refine onT 3 (some 23) HT_ (h := fun K hK => ?_)
   refine Mem.Mem.callS Try.func104 #[.agg #[.slice Ao14 t603.length co14, .slice Ao19 t606.length co19]] (M := M) (h := fun M => (spec_l11Many.calls _ _ t603 _ _ t606 t613 _ (M.C 2 rfl) (M.cap 2 rfl) (M.C 3 rfl) (M.cap 3 rfl) A5.out).mono ?_)
   rintro e w23 ⟨rfl, hb⟩
   have M := M.call hb; clear hb
   refine ⟨_, rfl, Mem.nx (some 23) hK (M.two 1) (fun hHeld => ?_)⟩; clear hK K
   refine puT 4 24 HT_ (h := ?_)
   refine onT 6 (some 26) HT_ (h := fun K hK => ?_)
   refine Mem.Mem.callS Try.func86 #[.pointer (some ⟨g, 0, none⟩), .int .i64 2] (M := M) (h := fun M => (spec_l1Below.calls g s0_0 t611 t612 2 t614 t615 t616 w0 _ (M.at_stt 6 rfl) M.below A6.out).mono ?_)
   rintro e w24 ⟨rfl, hi, hb, hk⟩
   have M := M.state 6 hk hb at126 hi rfl; clear hi hb hk
   refine ⟨_, rfl, Mem.nx (some 26) hK (M.two 1) (fun hHeld => ?_)⟩; clear hK K
   refine puT 7 27 HT_ (h := ?_)
   refine onT 8 (some 28) HT_ (h := fun K hK => ?_)
   refine Mem.Mem.callS Try.func20 #[.agg #[.slice Ao14 t603.length co14, .slice Ao19 t606.length co19], .int .i64 t610, .int .i64 (wrap64 ((wrap64 (t613 - 1)) - t614))] (M := M) (h := fun M => (spec_LogOpen.calls k _ _ t603 _ _ t606 t610 (wrap64 ((wrap64 (t613 - 1)) - t614)) t617 t618 t619 t620 t621 t624 _ (M.C 2 rfl) (M.cap 2 rfl) (M.C 3 rfl) (M.cap 3 rfl) A7.out).mono ?_)
   rintro e w25 ⟨v622, rfl, ho0, hb⟩
   have M := M.call hb; clear hb ho0
   refine ⟨_, rfl, Mem.nx (some 28) hK (M.two 1) (fun hHeld => ?_)⟩; clear hK K
   refine puT 9 19 HT_ (h := puT 10 29 HT_ (h := puT 11 30 HT_ (h := puT 12 31 HT_ (h := ?_))))
   exact norm_ (by simp only [putAll, Act.put, sT, sZ, sS]) (hCont (v622, gb625) _ ⟨hHeld, M⟩)
 rintro ⟨v622, gb625⟩ w26 ⟨hHeld, M⟩
 refine norm_ (a' := ?_) ?_ ?_
 rotate_left
 ·simp only [putAll, Act.put, sT, sZ, sS]
  rfl
 refine onT 14 none HT_ (h := fun K hK => ?_)
 have hz := M.look 0
 refine Mem.stoS (w1 := ?_) ?_ ?_
 rotate_left
 ·go_simp
  rfl
 clear hz
 have M := M.put4 0 (.int .i64 t617) (.int .i64 t618) (.int .i64 t619) (.int .i64 t620)
 refine hK.out _ _ (M.two 1) (fun hHeld => ?_); clear hK K
 refine puT 15 7 HT_ (h := puT 16 8 HT_ (h := ?_))
 refine done_ (done_of HT_.out (by kernel_rfl)) ?_
 go_wp2_with ((with_reducible refine Mem.gateW ?_); first | (refine Mem.Mem.callE (some 33) Try.func86 #[.pointer (some ⟨g, 0, none⟩), .int .i64 8] (M := M) (h := fun M => (spec_l1Below.calls g s0_0 t615 t616 8 t626 t627 t628 w0 _ (M.at_stt 6 rfl) M.below A8.out).mono ?_); rintro e w33 ⟨rfl, hi, hb, hk⟩; refine ⟨_, rfl, ?_⟩; have M := M.state 6 hk hb at126 hi rfl; clear hi hb hk))
 go_loopg [9] k (fun kq v9 w' => ∃ (x9_1 : Int) (x1 x2 : Int) (xb : List Int) (xq : List (S96)) (y0 y1 y2 y3 : Int) (u0 u1 : Value), v9 = .int .i64 x9_1 ∧ Aside0 (spec_l12Draw.l0 kq x9_1 s0_0 x1 x2 xb xq y0 y1 y2 y3 = some (r1, r2, r3, r4, r5, r6, r7, r8)) ∧ Aside0 (kq ≤ k) ∧ Aside0 (Mem.Mem w0 w' [Mem.blk gb625 32 [.int .i64 y0, .int .i64 y1, .int .i64 y2, .int .i64 y3], Mem.blk gb609 31 [u0, u1], Mem.row (Kd.int .u8) 5 u0 xb, Mem.row k96 96 u1 xq, Mem.blk gb599 32 [.int .i64 0, .int .i64 0, .int .i64 0, .int .i64 0], Mem.blk gb598 31 [.slice none 0 0, .slice none 0 0], Mem.stt g (fun W => IsS126 w0 W g s0_0 x1 x2), Mem.kept w0 w g]))
 case atStart => exact ⟨t626, t627, t628, t603, t606, t617, t618, t619, t620, _, _, rfl, H', ⟨Nat.le_refl _⟩, ⟨Mem.Mem.dr (M := M)⟩⟩
 case round =>
  clear H' M
  obtain ⟨x9_1, x1, x2, xb, xq, y0, y1, y2, y3, u0, u1, rfl, HA, HK1, M0⟩ := hrel
  have M := M0.out
  clear M0
  obtain ⟨Ab, cb, eb⟩ := M.row_form 2 rfl
  subst eb
  obtain ⟨Aq, cq, eq⟩ := M.row_form 3 rfl
  subst eq
  cases gk with
  | zero => exact absurd HA.out (by simp [spec_l12Draw.l0])
  | succ k1 =>
   have H := HA.out
   clear HA
   simp only [spec_l12Draw.l0] at H
   by_cases c32 : x9_1 > 0
   ·rw [if_pos c32] at H
    have c32b0 : decide (0 < x9_1) = true := decide_eq_true c32
    clear c32
    generalize hy629 : ([0, 1, 44, 45, 90, 130] : List Int) = y629 at H
    have Ny629 := Ak hy629; clear hy629
    replace H := Option.bind_eq_some_iff.mp H
    obtain ⟨⟨t632, t633, t634⟩, A330, H⟩ := H
    have A33 := Ak A330; clear A330; (try dsimp only at H)
    replace H := Option.bind_eq_some_iff.mp H
    obtain ⟨⟨t635, t638, t639⟩, A340, H⟩ := H
    have A34 := Ak A340; clear A340; (try dsimp only at H)
    replace H := Option.bind_eq_some_iff.mp H
    obtain ⟨⟨t640, t641, t642⟩, A350, H⟩ := H
    have A35 := Ak A350; clear A350; (try dsimp only at H)
    go_upto_region 8 with ((with_reducible refine Mem.gateW ?_); first | (refine Mem.Mem.litE 40 (Kd.int .i64) 3 [0, 1, 44, 45, 90, 130] [.int .i64 0, .int .i64 1, .int .i64 44, .int .i64 45, .int .i64 90, .int .i64 130] (hp := Mem.Els.ints) (M := M) (h := fun v630 w40 M => ?_); rw [Ny629.out] at M; obtain ⟨Ai, ci, ei⟩ := M.formN 0 rfl; subst ei) | (refine Mem.Mem.callE (some 41) Try.func64 #[.pointer (some ⟨g, 0, none⟩), .slice Ai y629.length ci] (M := M) (h := fun M => (spec_l1Int.calls g s0_0 x1 x2 Ai ci y629 t632 t633 t634 w0 _ (M.at_stt 7 rfl) M.below (M.CN 0 rfl) (M.capN 0 rfl) (M.ownS_far 0 7 rfl rfl (by decide)) A33.out).mono ?_); rintro e w41 ⟨rfl, hi, hb, hk⟩; refine ⟨_, rfl, ?_⟩; have M := M.state 7 hk hb at126 hi rfl; clear hi hb hk) | (refine Mem.Mem.callE (some 42) Try.func63 #[.pointer (some ⟨g, 0, none⟩), .int .i64 t632] (M := M) (h := fun M => (spec_l1Bytes.calls k1 g s0_0 t633 t634 t632 t635 t638 t639 w0 _ (M.at_stt 7 rfl) M.below A34.out).mono ?_); rintro e w42 ⟨v636, rfl, ho0, hi, hb, hk⟩; refine ⟨_, rfl, ?_⟩; have M := M.stateV 7 hk hb at126 hi (Mem.frR ho0) rfl; obtain ⟨Ar, cr, er⟩ := M.row_form 0 rfl; subst er; clear ho0 hi hb hk))
    by_cases c36 : t640 = true
    ·subst c36
     rw [if_pos rfl] at H
     replace H := Option.bind_eq_some_iff.mp H
     obtain ⟨t643, A370, H⟩ := H
     have A37 := Ak A370; clear A370; (try dsimp only at H)
     replace H := Option.bind_eq_some_iff.mp H
     obtain ⟨⟨t646, t649⟩, A380, H⟩ := H
     have A38 := Ak A380; clear A380; (try dsimp only at H)
     by_cases c39 : t649.length + t643.length < 4398046511104
     ·rw [if_pos c39] at H
      have LMc39 := Ak c39; clear c39
      generalize hy653 : t649 ++ t643 = y653 at H
      have Ny653 := Ak hy653; clear hy653
      replace H := Option.bind_eq_some_iff.mp H
      obtain ⟨⟨t656, t659, t660⟩, A400, H⟩ := H
      have A40 := Ak A400; clear A400; (try dsimp only at H)
      replace H := Option.bind_eq_some_iff.mp H
      obtain ⟨⟨t661, t664⟩, A410, H⟩ := H
      have A41 := Ak A410; clear A410; (try dsimp only at H)
      replace H := Option.bind_eq_some_iff.mp H
      obtain ⟨⟨t667, t668, t669, t670, t671, t674⟩, A420, H⟩ := H
      have A42 := Ak A420; clear A420; (try dsimp only at H)
      have H' := Ak H
      clear H
      go_wp2_with ((with_reducible refine Mem.gateW ?_); first | (refine Mem.Mem.callE (some 44) Try.func85 #[.pointer (some ⟨g, 0, none⟩), .int .i64 3] (M := M) (h := fun M => (spec_l1Once.calls g s0_0 t638 t639 3 true t641 t642 w0 _ (M.at_stt 8 rfl) M.below A35.out).mono ?_); rintro e w44 ⟨rfl, hi, hb, hk⟩; refine ⟨_, rfl, ?_⟩; have M := M.state 8 hk hb at126 hi rfl; clear hi hb hk; have hz625 := M.look 2; have hz609 := M.look 3) | (refine Mem.Mem.callE (some 47) Try.func45 #[.agg #[.int .i64 y0, .int .i64 y1, .int .i64 y2, .int .i64 y3], .slice Ar t635.length cr] (M := M) (h := fun M => (spec_LogWrites.calls k1 y0 y1 y2 y3 _ _ t635 t643 _ (M.C 0 rfl) (M.cap 0 rfl) A37.out).mono ?_); rintro e w47 ⟨v644, rfl, ho0, hb⟩; refine ⟨_, rfl, ?_⟩; have M := M.V hb (Mem.frS ho0); clear hb ho0; obtain ⟨Al, cl, el⟩ := M.row_form 0 rfl; subst el; have hz609 := M.look 4) | (refine Mem.Mem.callE (some 49) Try.func44 #[.agg #[.slice Ab xb.length cb, .slice Aq xq.length cq]] (M := M) (h := fun M => (spec_l11Copy.calls k1 _ _ xb _ _ xq t646 t649 _ (M.C 5 rfl) (M.cap 5 rfl) (M.C 6 rfl) (M.cap 6 rfl) A38.out).mono ?_); rintro e w49 ⟨v647, v650, rfl, ho0, ho1, hb⟩; refine ⟨_, rfl, ?_⟩; have M := M.RS hb rfl ho0 ho1; clear hb ho0 ho1) | (refine Mem.Mem.boxE 12 31 [.slice none 0 0, .slice none 0 0] (M := M) (h := fun gb652 w50 M => ?_); obtain ⟨Ac, cc, ec⟩ := M.row_form 1 rfl; subst ec; obtain ⟨Ad, cd, ed⟩ := M.formN 2 rfl; subst ed; have hz652 := M.look 0) | (refine Mem.Mem.appE 2 3 k96 (.tmp 51) (.tmp 52) 29 96 (.agg #[(.int .i64 0), (.slice none 0 0)]) 32 Try.underlying29 info96 (hl := by have := LMc39.out; omega) (M := Mem.Mem.st 0 1 (M := Mem.Mem.st 0 0 (M := M))) (h := fun v654 w53 M => ?_); rw [Ny653.out] at M; obtain ⟨Ay, cy, ey⟩ := M.formN 2 rfl; subst ey; have hz653 := M.look 0))
      have M := (M.set 0 1 (.slice Ay y653.length cy) rfl).drew
      refine start_ (n := 5) (S := fun w' => w'.cell? ⟨gb652, 0, none⟩ = some (.slice Ac t646.length cc) ∧ w'.cell? ⟨gb652, 1, none⟩ = some (.slice Ay y653.length cy)) (ds := []) #[false, false, false, false, false] (by kernel_rfl) rfl rfl (M.two 0) (fun hHeld => ?_)
      generalize (w53.setCell ⟨gb652, 1, none⟩ (.slice Ay y653.length cy)).drew = w54 at M hHeld ⊢
      refine pu 1 56 (h := ?_)
      refine ta 0 55 hHeld (h := ?_)
      refine on 2 (some 57) (h := fun K hK => ?_)
      refine Mem.Mem.callS Try.func63 #[.pointer (some ⟨g, 0, none⟩), .int .i64 1] (M := M) (h := fun M => (spec_l1Bytes.calls k1 g s0_0 t641 t642 1 t656 t659 t660 w0 _ (M.at_stt 12 rfl) M.below A40.out).mono ?_)
      rintro e w57 ⟨v657, rfl, ho0, hi, hb, hk⟩
      have M := M.stateV 12 hk hb at126 hi (Mem.frR ho0) rfl
      clear ho0 hi hb hk
      obtain ⟨Ae, ce, ee⟩ := M.row_form 0 rfl
      subst ee
      refine ⟨_, rfl, Mem.nx (some 57) hK (M.two 1) (fun hHeld => ?_)⟩; clear hK K
      refine on 3 (some 58) (h := fun K hK => ?_)
      refine Mem.Mem.callS Try.func110 #[.agg #[.slice Ac t646.length cc, .slice Ay y653.length cy], .slice Ae t656.length ce] (M := M) (h := fun M => (spec_Crash.calls k1 _ _ t646 _ _ y653 _ _ t656 t661 t664 _ (M.C 2 rfl) (M.cap 2 rfl) (M.CN 3 rfl) (M.capN 3 rfl) (M.C 0 rfl) (M.cap 0 rfl) A41.out).mono ?_)
      rintro e w58 ⟨v662, v665, rfl, ho0, ho1, hb⟩
      have M := M.V2 hb (Mem.frR ho0) (Mem.frS ho1)
      clear ho0 ho1 hb
      obtain ⟨Af, cf, ef⟩ := M.row_form 0 rfl
      subst ef
      obtain ⟨Ag, cg, eg⟩ := M.row_form 1 rfl
      subst eg
      refine ⟨_, rfl, Mem.nx (some 58) hK (M.two 3) (fun hHeld => ?_)⟩; clear hK K
      refine on 4 none (h := fun K hK => ?_)
      have hz609 := M.look 10
      refine Mem.stoS (w1 := ?_) ?_ ?_
      rotate_left
      ·go_simp
       rfl
      clear hz609
      have M := M.put2 10 (.slice Af t661.length cf) (.slice Ag t664.length cg)
      refine hK.out _ _ (M.two 3) (fun hHeld => ?_); clear hK K hHeld
      refine done_ (by kernel_rfl) ?_
      generalize (w58.setCell ⟨gb609, 0, none⟩ (.slice Af t661.length cf)).setCell ⟨gb609, 1, none⟩ (.slice Ag t664.length cg) = w59 at M ⊢
      have hz609 := M.look 10
      have hz625 := M.look 9
      go_wp2_with ((with_reducible refine Mem.gateW ?_); first | (refine Mem.Mem.callE (some 65) Try.func20 #[.agg #[.slice Af t661.length cf, .slice Ag t664.length cg], .int .i64 y0, .int .i64 y1] (M := M) (h := fun M => (spec_LogOpen.calls k1 _ _ t661 _ _ t664 y0 y1 t667 t668 t669 t670 t671 t674 _ (M.C 0 rfl) (M.cap 0 rfl) (M.C 1 rfl) (M.cap 1 rfl) A42.out).mono ?_); rintro e w65 ⟨v672, rfl, ho0, hb⟩; refine ⟨_, rfl, ?_⟩; have M := M.call hb; clear hb ho0; have hz625 := M.look 9))
      have M := M.put4 9 (.int .i64 t667) (.int .i64 t668) (.int .i64 t669) (.int .i64 t670)
      go_roundg k1
      case measure => have := HK1.out; omega
      case rel => exact ⟨wrap64 (x9_1 - 1), t659, t660, t661, t664, t667, t668, t669, t670, _, _, rfl, H', ⟨by have := HK1.out; omega⟩, ⟨(Mem.Mem.dr (M := M)).pick [9, 10, 0, 1, 13, 14, 15, 16] (by decide) rfl⟩⟩
     ·rw [if_neg c39] at H
      exact absurd H (by simp)
    ·replace c36 := Bool.eq_false_iff.mpr c36
     subst c36
     rw [if_neg (show ¬ (false = true) by decide)] at H
     replace H := Option.bind_eq_some_iff.mp H
     obtain ⟨⟨t675, t678, t681, t682, t683, t684, t685⟩, A890, H⟩ := H
     have A89 := Ak A890; clear A890; (try dsimp only at H)
     have H' := Ak H
     clear H
     go_wp2_with ((with_reducible refine Mem.gateW ?_); first | (refine Mem.Mem.callE (some 44) Try.func85 #[.pointer (some ⟨g, 0, none⟩), .int .i64 3] (M := M) (h := fun M => (spec_l1Once.calls g s0_0 t638 t639 3 false t641 t642 w0 _ (M.at_stt 8 rfl) M.below A35.out).mono ?_); rintro e w44 ⟨rfl, hi, hb, hk⟩; refine ⟨_, rfl, ?_⟩; have M := M.state 8 hk hb at126 hi rfl; clear hi hb hk; have hz625 := M.look 2; have hz609 := M.look 3) | (refine Mem.Mem.callE (some 73) Try.func9 #[.agg #[.slice Ab xb.length cb, .slice Aq xq.length cq], .agg #[.int .i64 y0, .int .i64 y1, .int .i64 y2, .int .i64 y3], .slice Ar t635.length cr] (M := M) (h := fun M => (spec_LogAdd.calls k1 _ _ xb _ _ xq y0 y1 y2 y3 _ _ t635 t675 t678 t681 t682 t683 t684 t685 _ (M.C 4 rfl) (M.cap 4 rfl) (M.C 5 rfl) (M.cap 5 rfl) (M.C 0 rfl) (M.cap 0 rfl) A89.out).mono ?_); rintro e w73 ⟨v676, v679, rfl, ho0, ho1, hb⟩; refine ⟨_, rfl, ?_⟩; have M := M.V2 hb ho0 ho1; clear hb ho0 ho1; obtain ⟨Ac, cc, ec⟩ := M.row_form 0 rfl; subst ec; obtain ⟨Ad, cd, ed⟩ := M.row_form 1 rfl; subst ed; have hz625 := M.look 4; have hz609 := M.look 5; have hn1 := M.ne 4 5 rfl rfl (by decide); have hn2 := M.ne 5 4 rfl rfl (by decide)))
     have M := (M.put2 5 (.slice Ac t675.length cc) (.slice Ad t678.length cd)).put4 4 (.int .i64 t681) (.int .i64 t682) (.int .i64 t683) (.int .i64 t684)
     go_roundg k1
     case measure => have := HK1.out; omega
     case rel => exact ⟨wrap64 (x9_1 - 1), t641, t642, t675, t678, t681, t682, t683, t684, _, _, rfl, H', ⟨by have := HK1.out; omega⟩, ⟨(Mem.Mem.dr (M := M)).pick [4, 5, 0, 1, 8, 9, 10, 11] (by decide) rfl⟩⟩
   ·rw [if_neg c32] at H
    have c32b0 : decide (0 < x9_1) = false := decide_eq_false c32
    clear c32
    simp only [Option.some.injEq, Prod.mk.injEq] at H
    obtain ⟨rfl, rfl, rfl, rfl, rfl, rfl, rfl, rfl⟩ := H
    go_wp2
    have M := M.drew
    refine start_ (n := 4) (S := fun w' => (w'.cell? ⟨gb609, 0, none⟩ = some (.slice Ab xb.length cb) ∧ w'.cell? ⟨gb609, 1, none⟩ = some (.slice Aq xq.length cq)) ∧ w'.cell? ⟨gb625, 0, none⟩ = some (.int .i64 y0) ∧ w'.cell? ⟨gb625, 1, none⟩ = some (.int .i64 y1) ∧ w'.cell? ⟨gb625, 2, none⟩ = some (.int .i64 y2) ∧ w'.cell? ⟨gb625, 3, none⟩ = some (.int .i64 y3)) (ds := [3]) #[false, false, false, false] (by kernel_rfl) rfl rfl ⟨M.two 1, M.four 0⟩ (fun hHeld => ?_)
    generalize wr.drew = w113 at M hHeld ⊢
    refine ta 0 77 hHeld (h := ?_)
    refine ta 1 78 hHeld (h := ?_)
    refine on 2 none (h := fun K hK => ?_)
    have hz598 := M.look 5
    refine Mem.stoS (w1 := ?_) ?_ ?_
    rotate_left
    ·go_simp
     rfl
    clear hz598
    have M := M.put2 5 (.slice Ab xb.length cb) (.slice Aq xq.length cq)
    refine hK.out _ _ ⟨M.two 1, M.four 0⟩ (fun hHeld => ?_); clear hK K
    refine la 3 none (h := fun K hK => ?_)
    have hz599 := M.look 4
    refine Mem.stoS (w1 := ?_) ?_ ?_
    rotate_left
    ·go_simp
     rfl
    clear hz599
    have M := M.put4 4 (.int .i64 y0) (.int .i64 y1) (.int .i64 y2) (.int .i64 y3)
    refine hK.out _ _ ?_; clear hK K
    refine done_ (by kernel_rfl) ?_
    go_wp2
    refine bodyPost_ret (results_cc rfl _ _ gb598 gb599 31 32 #[.slice Ab xb.length cb, .slice Aq xq.length cq] #[.int .i64 y0, .int .i64 y1, .int .i64 y2, .int .i64 y3] (0, 0) (0, 0) _ _ rfl (M.at_blk 5 rfl) Try.underlying31 rfl (by kernel_rfl) rfl (M.at_blk 4 rfl) Try.underlying32 rfl (by kernel_rfl)) rfl ?_
    exact ⟨_, _, zw, M.at_rowK 2 6 7 rfl rfl rfl, M.at_rowK 3 6 7 rfl rfl rfl, M.at_stt 6 rfl, M.below, M.keepOf 6 7 HB0.out rfl rfl⟩

def spec_DrawLogged.f (k : Nat) (l0 : List Int) : Option (List Int × (List (S96)) × Int × Int × Int × Int × List Int × List Int) := (spec_l1New.f k l0).bind fun bt688 => ((spec_l12Draw.f k bt688.1 bt688.2.1 bt688.2.2).bind fun bt692 => ((spec_l1Int.f bt688.1 bt692.2.2.2.2.2.2.1 bt692.2.2.2.2.2.2.2 (([0, 1, 44, 45, 90, 200] : List Int))).bind fun bt709 => ((spec_l1Bytes.f k bt688.1 bt709.2.1 bt709.2.2 bt709.1).bind fun bt712 => ((spec_l1Bytes.f k bt688.1 bt712.2.1 bt712.2.2 1).bind fun bt717 => (some (bt692.1, bt692.2.1, bt692.2.2.1, bt692.2.2.2.1, bt692.2.2.2.2.1, bt692.2.2.2.2.2.1, bt712.1, bt717.1))))))
def spec_DrawLogged.T3 : Bool × List (List Nat × List Nat) := (true, [([], []), ([], []), ([], []), ([], []), ([], []), ([3, 4], [3, 4]), ([2, 5, 5], [2, 5]), ([], []), ([7, 6], [7]), ([0, 8, 0], [0]), ([1, 9, 0, 1, 9], [1]), ([6, 10, 0, 1, 2, 3, 4, 5, 6, 9, 10], [6]), ([8, 11, 0, 1, 2, 3, 4, 5, 6, 7, 8, 9, 10, 11], [8])])
def spec_DrawLogged.B3 : List Nat := [0, 0, 0, 0, 0, 24, 60, 0, 252, 509, 1023, 2047, 4095]
theorem spec_DrawLogged.tab3 : rtab .any (opsOf Try.f26 3) = spec_DrawLogged.T3 := by kernel_rfl
theorem spec_DrawLogged.bits3 : waitsOk spec_DrawLogged.T3.2 spec_DrawLogged.B3 = true := by kernel_rfl
set_option maxHeartbeats 8000000 in
set_option maxRecDepth 100000 in
theorem spec_DrawLogged.calls (k : Nat) (A0 : Option Addr) (c0 : Nat) (l0 : List Int) (r1 : List Int) (r2 : List (S96)) (r3 : Int) (r4 : Int) (r5 : Int) (r6 : Int) (r7 : List Int) (r8 : List Int) (w : World) (hr0 : Kd.C (Kd.int .u8) w A0 l0.length l0) (hc0 : l0.length ≤ c0) (h : spec_DrawLogged.f k l0 = some (r1, r2, r3, r4, r5, r6, r7, r8)) :
  Calls Try.prog 26 #[.slice A0 l0.length c0] w fun e w' => ∃ v0_ v1_ v6_ v7_ : Value, e = .returned (.tuple #[.agg #[v0_, v1_], .agg #[.int .i64 r3, .int .i64 r4, .int .i64 r5, .int .i64 r6], v6_, v7_]) ∧ Kd.V (Kd.int .u8) 5 w' 0 (fun k_ => w.heap.size ≤ k_) v0_ r1 ∧ Kd.V k96 96 w' 0 (fun k_ => w.heap.size ≤ k_) v1_ r2 ∧ Kd.V (Kd.int .u8) 5 w' 0 (fun k_ => w.heap.size ≤ k_) v6_ r7 ∧ Kd.V (Kd.int .u8) 5 w' 0 (fun k_ => w.heap.size ≤ k_) v7_ r8 ∧ Below w.heap.size w w' := by
 have hu31 := Try.underlying31
 have hu32 := Try.underlying32
 have HR0 := Ak hr0
 have HC0 := Ak hc0
 clear hr0 hc0
 have H := h
 unfold spec_DrawLogged.f at H
 clear h
 replace H := Option.bind_eq_some_iff.mp H
 obtain ⟨⟨t688, t689, t690⟩, A20, H⟩ := H
 have A2 := Ak A20; clear A20; (try dsimp only at H)
 replace H := Option.bind_eq_some_iff.mp H
 obtain ⟨⟨t692, t695, t698, t699, t700, t701, t702, t703⟩, A30, H⟩ := H
 have A3 := Ak A30; clear A30; (try dsimp only at H)
 generalize hy706 : ([0, 1, 44, 45, 90, 200] : List Int) = y706 at H
 have Ny706 := Ak hy706; clear hy706
 replace H := Option.bind_eq_some_iff.mp H
 obtain ⟨⟨t709, t710, t711⟩, A40, H⟩ := H
 have A4 := Ak A40; clear A40; (try dsimp only at H)
 replace H := Option.bind_eq_some_iff.mp H
 obtain ⟨⟨t712, t715, t716⟩, A50, H⟩ := H
 have A5 := Ak A50; clear A50; (try dsimp only at H)
 replace H := Option.bind_eq_some_iff.mp H
 obtain ⟨⟨t717, t720, t721⟩, A60, H⟩ := H
 have A6 := Ak A60; clear A60; (try dsimp only at H)
 simp only [Option.some.injEq, Prod.mk.injEq] at H
 obtain ⟨rfl, rfl, rfl, rfl, rfl, rfl, rfl, rfl⟩ := H
 have M := Mem.Mem.start w
 go_enter Try.func26, Try.ntmps26
 go_wp2_with ((with_reducible refine Mem.gateW ?_); first | (refine Mem.Mem.boxE 2 31 [.slice none 0 0, .slice none 0 0] (M := M) (h := fun gb686 w7 M => ?_)) | (refine Mem.Mem.boxE 3 32 [.int .i64 0, .int .i64 0, .int .i64 0, .int .i64 0] (M := M) (h := fun gb687 w8 M => ?_)) | (refine Mem.Mem.callE (some 10) Try.func61 #[.slice A0 l0.length c0] (M := M) (h := fun M => (spec_l1New.calls k _ _ l0 t688 t689 t690 w _ M.below HR0.out HC0.out A2.out).mono ?_); rintro e w9 ⟨g691, rfl, hi, hb, hb2, hg⟩; refine ⟨_, rfl, ?_⟩; have M := M.newS hb2 hg (IsS126.lt hi) at126 hi; clear hi hb hb2 hg) | (refine Mem.Mem.callE (some 13) Try.func62 #[.pointer (some ⟨g691, 0, none⟩)] (M := M) (h := fun M => (spec_l12Draw.calls k g691 t688 t689 t690 t692 t695 t698 t699 t700 t701 t702 t703 w _ (M.at_stt 0 rfl) M.below A3.out).mono ?_); rintro e w10 ⟨v693, v696, rfl, ho0, ho1, hi, hb, hk⟩; refine ⟨_, rfl, ?_⟩; have M := M.stateV2 0 hk hb at126 hi ho0 ho1 rfl; clear ho0 ho1 hi hb hk; obtain ⟨Aa, ca, ea⟩ := M.row_form 0 rfl; subst ea; obtain ⟨Ab, cb, eb⟩ := M.row_form 1 rfl; subst eb) | (refine Mem.Mem.boxE 7 31 [.slice none 0 0, .slice none 0 0] (M := M) (h := fun gb704 w11 M => ?_)) | (refine Mem.Mem.boxE 8 32 [.int .i64 0, .int .i64 0, .int .i64 0, .int .i64 0] (M := M) (h := fun gb705 w12 M => ?_); have hz1 := M.look 0; have hz2 := M.look 1; have hn1 := M.ne 0 1 rfl rfl (by decide); have hn2 := M.ne 1 0 rfl rfl (by decide)))
 have M := ((M.put2 1 (.slice Aa t692.length ca) (.slice Ab t695.length cb)).put4 0 (.int .i64 t698) (.int .i64 t699) (.int .i64 t700) (.int .i64 t701)).drew
 refine start_ (n := 13) (S := fun w' => (w'.cell? ⟨gb704, 0, none⟩ = some (.slice Aa t692.length ca) ∧ w'.cell? ⟨gb704, 1, none⟩ = some (.slice Ab t695.length cb)) ∧ w'.cell? ⟨gb705, 0, none⟩ = some (.int .i64 t698) ∧ w'.cell? ⟨gb705, 1, none⟩ = some (.int .i64 t699) ∧ w'.cell? ⟨gb705, 2, none⟩ = some (.int .i64 t700) ∧ w'.cell? ⟨gb705, 3, none⟩ = some (.int .i64 t701)) (ds := []) #[false, false, false, false, false, false, false, false, false, false, false, false, false] (by kernel_rfl) rfl rfl ⟨M.two 1, M.four 0⟩ (fun hHeld => ?_); refine with_tabW spec_DrawLogged.tab3 spec_DrawLogged.bits3 (fun HT_ HW_ => ?_)
 generalize hw_ : World.drew _ = w13 at M hHeld ⊢
 clear hw_ hz1 hz2
 refine puT 2 18 HT_ (h := puT 3 19 HT_ (h := puT 7 23 HT_ (h := ?_)))
 refine taT 0 16 HT_ HW_ hHeld (h := ?_)
 refine taT 1 17 HT_ HW_ hHeld (h := ?_)
 refine onT 4 (some 20) HT_ (h := fun K hK => ?_)
 refine Mem.Mem.litS 20 (Kd.int .i64) 3 [0, 1, 44, 45, 90, 200] [.int .i64 0, .int .i64 1, .int .i64 44, .int .i64 45, .int .i64 90, .int .i64 200] (hd := rfl) (hp := Mem.Els.ints) (M := M) (h := fun v20 w14 M => ?_)
 rw [Ny706.out] at M
 obtain ⟨Ac, cc, ec⟩ := M.formN 0 rfl
 subst ec
 refine Mem.nx (some 20) hK ⟨M.two 2, M.four 1⟩ (fun hHeld => ?_); clear hK K
 refine onT 5 (some 21) HT_ (h := fun K hK => ?_)
 refine Mem.Mem.callS Try.func64 #[.pointer (some ⟨g691, 0, none⟩), .slice Ac y706.length cc] (M := M) (h := fun M => (spec_l1Int.calls g691 t688 t702 t703 Ac cc y706 t709 t710 t711 w _ (M.at_stt 5 rfl) M.below (M.CN 0 rfl) (M.capN 0 rfl) (M.ownS_far 0 5 rfl rfl (by decide)) A4.out).mono ?_)
 rintro e w15 ⟨rfl, hi, hb, hk⟩
 have M := M.state 5 hk hb at126 hi rfl
 clear hi hb hk
 refine ⟨_, rfl, Mem.nx (some 21) hK ⟨M.two 2, M.four 1⟩ (fun hHeld => ?_)⟩; clear hK K
 refine onT 6 (some 22) HT_ (h := fun K hK => ?_)
 refine Mem.Mem.callS Try.func63 #[.pointer (some ⟨g691, 0, none⟩), .int .i64 t709] (M := M) (h := fun M => (spec_l1Bytes.calls k g691 t688 t710 t711 t709 t712 t715 t716 w _ (M.at_stt 5 rfl) M.below A5.out).mono ?_)
 rintro e w16 ⟨v713, rfl, ho0, hi, hb, hk⟩
 have M := M.stateV 5 hk hb at126 hi (Mem.frR ho0) rfl
 clear ho0 hi hb hk
 refine ⟨_, rfl, Mem.nx (some 22) hK ⟨M.two 3, M.four 2⟩ (fun hHeld => ?_)⟩; clear hK K
 refine onT 8 (some 24) HT_ (h := fun K hK => ?_)
 refine Mem.Mem.callS Try.func63 #[.pointer (some ⟨g691, 0, none⟩), .int .i64 1] (M := M) (h := fun M => (spec_l1Bytes.calls k g691 t688 t715 t716 1 t717 t720 t721 w _ (M.at_stt 6 rfl) M.below A6.out).mono ?_)
 rintro e w17 ⟨v718, rfl, ho0, hi, hb, hk⟩
 have M := M.stateV 6 hk hb at126 hi (Mem.frR ho0) rfl
 clear ho0 hi hb hk
 refine ⟨_, rfl, Mem.nx (some 24) hK ⟨M.two 4, M.four 3⟩ (fun hHeld => ?_)⟩; clear hK K
 refine onT 9 none HT_ (h := fun K hK => ?_)
 have hz := M.look 9
 refine Mem.stoS (w1 := ?_) ?_ ?_
 rotate_left
 ·go_simp
  rfl
 clear hz
 have M := M.put2 9 (.slice Aa t692.length ca) (.slice Ab t695.length cb)
 refine hK.out _ _ ⟨M.two 4, M.four 3⟩ (fun hHeld => ?_); clear hK K
 refine onT 10 none HT_ (h := fun K hK => ?_)
 have hz := M.look 8
 refine Mem.stoS (w1 := ?_) ?_ ?_
 rotate_left
 ·go_simp
  rfl
 clear hz
 have M := M.put4 8 (.int .i64 t698) (.int .i64 t699) (.int .i64 t700) (.int .i64 t701)
 refine hK.out _ _ ⟨M.two 4, M.four 3⟩ (fun hHeld => ?_); clear hK K
 refine puT 11 4 HT_ (h := puT 12 5 HT_ (h := ?_))
 refine done_ (done_of HT_.out (by kernel_rfl)) ?_
 go_wp2
 refine bodyPost_ret (results_list (rs := [.cell 2 31, .cell 3 32, .tmp 4, .tmp 5]) rfl (by simp) (.cell gb686 31 #[.slice Aa t692.length ca, .slice Ab t695.length cb] (0, 0) _ rfl (M.at_blk 9 rfl) Try.underlying31 rfl (by kernel_rfl) (.cell gb687 32 #[.int .i64 t698, .int .i64 t699, .int .i64 t700, .int .i64 t701] (0, 0) _ rfl (M.at_blk 8 rfl) Try.underlying32 rfl (by kernel_rfl) (.tmp (.tmp .nil))))) rfl ?_
 exact ⟨_, _, _, _, zw, M.at_row 5 rfl, M.at_row 6 rfl, M.at_row 1 rfl, M.at_row 0 rfl, M.below⟩

def impl_Crash.f (k : Nat) (l0_0 : List Int) (l0_1 : List (S96)) (l1 : List Int) : Option (List Int × (List (S96))) := (impl_DiskOk.f k l0_0 l0_1).bind fun t736 => (if t736 = true then ((impl_done.f k l0_0 l0_1 l1).bind fun bt737 => (some (bt737.1, bt737.2))) else ((impl_copyDisk.f k l0_0 l0_1).bind fun bt743 => (some (bt743.1, bt743.2))))
set_option maxHeartbeats 8000000 in
set_option maxRecDepth 100000 in
theorem impl_Crash.calls (k : Nat) (A0_0 : Option Addr) (c0_0 : Nat) (l0_0 : List Int) (A0_1 : Option Addr) (c0_1 : Nat) (l0_1 : List (S96)) (A1 : Option Addr) (c1 : Nat) (l1 : List Int) (r1 : List Int) (r2 : List (S96)) (w : World) (hr0_0 : Kd.C (Kd.int .u8) w A0_0 l0_0.length l0_0) (hc0_0 : l0_0.length ≤ c0_0) (hr0_1 : Kd.C k96 w A0_1 l0_1.length l0_1) (hc0_1 : l0_1.length ≤ c0_1) (hr1 : Kd.C (Kd.int .u8) w A1 l1.length l1) (hc1 : l1.length ≤ c1) (h : impl_Crash.f k l0_0 l0_1 l1 = some (r1, r2)) :
  Calls Try.prog 29 #[.agg #[.slice A0_0 l0_0.length c0_0, .slice A0_1 l0_1.length c0_1], .slice A1 l1.length c1] w fun e w' => ∃ v0_ v1_ : Value, e = .returned (.agg #[v0_, v1_]) ∧ Kd.R (Kd.int .u8) 5 w' w.heap.size (fun _ => True) v0_ r1 ∧ Kd.S k96 96 w' w.heap.size (fun k_ => some k_ ≠ (v0_ : Value).ownBlock) v1_ r2 ∧ Below w.heap.size w w' := by
 have hu31 := Try.underlying31
 have HR0_0 := Ak hr0_0
 have HC0_0 := Ak hc0_0
 clear hr0_0 hc0_0
 have HR0_1 := Ak hr0_1
 have HC0_1 := Ak hc0_1
 clear hr0_1 hc0_1
 have HR1 := Ak hr1
 have HC1 := Ak hc1
 clear hr1 hc1
 have HB := Ak (Below.refl w.heap.size w)
 have H := h
 unfold impl_Crash.f at H
 clear h
 replace H := Option.bind_eq_some_iff.mp H
 obtain ⟨t736, A30, H⟩ := H
 have A3 := Ak A30
 clear A30
 by_cases c4 : t736 = true
 ·subst c4
  rw [if_pos rfl] at H
  replace H := Option.bind_eq_some_iff.mp H
  obtain ⟨⟨t737, t740⟩, A50, H⟩ := H
  (try dsimp only at H)
  have A5 := Ak A50
  clear A50
  simp only [Option.some.injEq, Prod.mk.injEq] at H
  obtain ⟨rfl, rfl⟩ := H
  go_enter Try.func29, Try.ntmps29
  go_wp2_with (first | ((with_reducible refine gate_dst (N := 2) rfl ?_); refine box_event ?hg (N := 2) ?hd (cs := #[.slice A0_0 l0_0.length c0_0, .slice A0_1 l0_1.length c0_1]) (t := 31) ?hr ?_; (case hd => rfl); (case hg => rfl); (case hr => first | (go_simp; done) | (go_simp; rfl)); intro gb733 hg w6 hbox hb; have BK733 := Ak (hbox); have GW733 := Ak ((zb hg (bw HB.out))); have GE733 := Ak ((zb hg (bw HB.out))); replace HB := Ak (below_step (bw HB.out) hb); clear hb hbox hg) | ((with_reducible refine gate_dst (N := 3) rfl ?_); refine box_event ?hg (N := 3) ?hd (cs := #[.slice A1 l1.length c1]) (t := 22) ?hr ?_; (case hd => rfl); (case hg => rfl); (case hr => first | (go_simp; done) | (go_simp; rfl)); intro gb734 hg w7 hbox hb; have BK734 := Ak (hbox); have GW734 := Ak ((zb hg (bw1 HB.out GE733.out))); have GE734 := Ak ((zb hg (bw1 HB.out GE733.out))); replace HB := Ak (below_step (bw1 HB.out GE733.out) hb); have NB733_734 := Ak ((zl hg (bq BK733.out))); have NB734_733 := Ak ((zm hg (bq BK733.out))); replace BK733 := Ak (blk_below (bq BK733.out) hb); clear hb hbox hg) | ((with_reducible refine gate_dst (N := 4) rfl ?_); refine box_event ?hg (N := 4) ?hd (cs := #[.slice none 0 0, .slice none 0 0]) (t := 31) ?hr ?_; (case hd => rfl); (case hg => rfl); (case hr => first | (go_simp; done) | (go_simp; rfl)); intro gb735 hg w8 hbox hb; have BK735 := Ak (hbox); have GW735 := Ak ((zb hg (bw2 HB.out GE733.out GE734.out))); have GE735 := Ak ((zb hg (bw2 HB.out GE733.out GE734.out))); replace HB := Ak (below_step (bw2 HB.out GE733.out GE734.out) hb); have NB733_735 := Ak ((zl hg (bq BK733.out))); have NB735_733 := Ak ((zm hg (bq BK733.out))); replace BK733 := Ak (blk_below (bq BK733.out) hb); have NB734_735 := Ak ((zl hg (bq BK734.out))); have NB735_734 := Ak ((zm hg (bq BK734.out))); replace BK734 := Ak (blk_below (bq BK734.out) hb); clear hb hbox hg; have hnb9 := NB733_734.out; have hnc9 := NB734_733.out; have hnb10 := NB733_735.out; have hnc10 := NB735_733.out; have hcz11_0 := zk0 BK733.out; have hcz11_1 := zk1 BK733.out; have hfz11_0 := blk_frozen BK733.out 0; have hfz11_1 := blk_frozen BK733.out 1) | ((with_reducible refine gate_callee (f := 67) rfl ?_); refine goesL_ (some 6) rfl rfl Try.func67 (by kernel_rfl) rfl #[.agg #[.slice A0_0 l0_0.length c0_0, .slice A0_1 l0_1.length c0_1]] rfl gm ?_; (with_reducible refine (impl_DiskOk.calls k _ _ l0_0 _ _ l0_1 true _ ?side1 ?side2 ?side3 ?side4 A3.out).mono ?_); (case side1 => exact zq (Kd.C_below HR0_0.out HB.out)); (case side2 => exact HC0_0.out); (case side3 => exact zq (Kd.C_below HR0_1.out HB.out)); (case side4 => exact HC0_1.out); rintro e w12 ⟨rfl, hb⟩; refine ⟨_, rfl, ?_⟩; replace BK733 := Ak (blk_below (bq BK733.out) hb); replace BK734 := Ak (blk_below (bq BK734.out) hb); replace BK735 := Ak (blk_below (bq BK735.out) hb); replace HB := Ak (below_step (bw3 HB.out GE733.out GE734.out GE735.out) hb); have hcz13_0 := zk0 BK733.out; have hcz13_1 := zk1 BK733.out; have hfz13_0 := blk_frozen BK733.out 0; have hfz13_1 := blk_frozen BK733.out 1; have hnb14 := NB734_735.out; have hnc14 := NB735_734.out; have hcz15_0 := zk0 BK734.out; have hfz15_0 := blk_frozen BK734.out 0) | ((with_reducible refine gate_callee (f := 68) rfl ?_); refine goesL_ (some 12) rfl rfl Try.func68 (by kernel_rfl) rfl #[.agg #[.slice A0_0 l0_0.length c0_0, .slice A0_1 l0_1.length c0_1], .func (.func 69) #[] #[.pointer (some ⟨gb734, 0, none⟩)]] rfl gm ?_; (with_reducible refine (impl_done.calls k _ _ l0_0 _ _ l0_1 A1 c1 l1 t737 t740 gb734 _ ?hpx ?side1 ?side2 ?side3 ?side4 ?side5 ?side6 A5.out).mono ?_); (case hpx => exact (blk_cell (bq BK734.out) 0).trans rfl); (case side1 => exact zq (Kd.C_below HR0_0.out HB.out)); (case side2 => exact HC0_0.out); (case side3 => exact zq (Kd.C_below HR0_1.out HB.out)); (case side4 => exact HC0_1.out); (case side5 => exact zq (Kd.C_below HR1.out HB.out)); (case side6 => exact HC1.out); rintro e w16 ⟨v738, v741, rfl, ho0, ho1, hb⟩; refine ⟨_, rfl, ?_⟩; have HO739 := Ak (Kd.R_lower ho0 (below_size (bw3 HB.out GE733.out GE734.out GE735.out))); have HO742 := Ak (Kd.S_lower ho1 (below_size (bw3 HB.out GE733.out GE734.out GE735.out))); replace BK733 := Ak (blk_below (bq BK733.out) hb); replace BK734 := Ak (blk_below (bq BK734.out) hb); replace BK735 := Ak (blk_below (bq BK735.out) hb); replace HB := Ak (below_step (bw3 HB.out GE733.out GE734.out GE735.out) hb); obtain ⟨Ao17, co17, eo17⟩ := Kd.R_slice HO739.out; subst eo17; have hcz18_0 := zk0 BK735.out; have hcz18_1 := zk1 BK735.out; have hfz18_0 := blk_frozen BK735.out 0; have hfz18_1 := blk_frozen BK735.out 1; obtain ⟨Ao19, co19, eo19⟩ := Kd.S_slice HO742.out; subst eo19))
  refine bodyPost_ret (results_cell_row rfl _ _ gb735 31 #[.slice Ao17 t737.length co17, .slice Ao19 t740.length co19] (0, 0) _ rfl (by refine bq ?_; refine blk_put (cs := #[.slice Ao17 t737.length co17, .slice none 0 0]) ?_ 1 _ rfl; refine bq ?_; refine blk_put (cs := #[.slice none 0 0, .slice none 0 0]) ?_ 0 _ rfl; exact bq BK735.out) Try.underlying31 rfl (by kernel_rfl)) rfl ?_
  exact ⟨_, _, zw, by refine rq ?_; exact Kd.R_mono (Kd.R_far (p := ⟨gb735, 1, none⟩) (Kd.R_far (p := ⟨gb735, 0, none⟩) (Kd.R_types HO739.out BK735.out (by decide)) (fun _ hk => hk.2) (.slice Ao17 t737.length co17)) (fun _ hk => hk.2) (.slice Ao19 t740.length co19)) (fun _ hk => trivial), by refine sq ?_; exact Kd.S_mono (Kd.S_far (p := ⟨gb735, 1, none⟩) (Kd.S_far (p := ⟨gb735, 0, none⟩) (Kd.S_types HO742.out BK735.out (by decide)) (fun _ hk => hk.2) (.slice Ao17 t737.length co17)) (fun _ hk => hk.2) (.slice Ao19 t740.length co19)) (fun _ hk => hk.1), bw3 HB.out GE733.out GE734.out GE735.out⟩
 ·replace c4 := Bool.eq_false_iff.mpr c4
  subst c4
  rw [if_neg (show ¬ (false = true) by decide)] at H
  replace H := Option.bind_eq_some_iff.mp H
  obtain ⟨⟨t743, t746⟩, A200, H⟩ := H
  (try dsimp only at H)
  have A20 := Ak A200
  clear A200
  simp only [Option.some.injEq, Prod.mk.injEq] at H
  obtain ⟨rfl, rfl⟩ := H
  go_enter Try.func29, Try.ntmps29
  go_wp2_with (first | ((with_reducible refine gate_dst (N := 2) rfl ?_); refine box_event ?hg (N := 2) ?hd (cs := #[.slice A0_0 l0_0.length c0_0, .slice A0_1 l0_1.length c0_1]) (t := 31) ?hr ?_; (case hd => rfl); (case hg => rfl); (case hr => first | (go_simp; done) | (go_simp; rfl)); intro gb733 hg w21 hbox hb; have BK733 := Ak (hbox); have GW733 := Ak ((zb hg (bw HB.out))); have GE733 := Ak ((zb hg (bw HB.out))); replace HB := Ak (below_step (bw HB.out) hb); clear hb hbox hg) | ((with_reducible refine gate_dst (N := 3) rfl ?_); refine box_event ?hg (N := 3) ?hd (cs := #[.slice A1 l1.length c1]) (t := 22) ?hr ?_; (case hd => rfl); (case hg => rfl); (case hr => first | (go_simp; done) | (go_simp; rfl)); intro gb734 hg w22 hbox hb; have BK734 := Ak (hbox); have GW734 := Ak ((zb hg (bw1 HB.out GE733.out))); have GE734 := Ak ((zb hg (bw1 HB.out GE733.out))); replace HB := Ak (below_step (bw1 HB.out GE733.out) hb); have NB733_734 := Ak ((zl hg (bq BK733.out))); have NB734_733 := Ak ((zm hg (bq BK733.out))); replace BK733 := Ak (blk_below (bq BK733.out) hb); clear hb hbox hg) | ((with_reducible refine gate_dst (N := 4) rfl ?_); refine box_event ?hg (N := 4) ?hd (cs := #[.slice none 0 0, .slice none 0 0]) (t := 31) ?hr ?_; (case hd => rfl); (case hg => rfl); (case hr => first | (go_simp; done) | (go_simp; rfl)); intro gb735 hg w23 hbox hb; have BK735 := Ak (hbox); have GW735 := Ak ((zb hg (bw2 HB.out GE733.out GE734.out))); have GE735 := Ak ((zb hg (bw2 HB.out GE733.out GE734.out))); replace HB := Ak (below_step (bw2 HB.out GE733.out GE734.out) hb); have NB733_735 := Ak ((zl hg (bq BK733.out))); have NB735_733 := Ak ((zm hg (bq BK733.out))); replace BK733 := Ak (blk_below (bq BK733.out) hb); have NB734_735 := Ak ((zl hg (bq BK734.out))); have NB735_734 := Ak ((zm hg (bq BK734.out))); replace BK734 := Ak (blk_below (bq BK734.out) hb); clear hb hbox hg; have hnb24 := NB733_734.out; have hnc24 := NB734_733.out; have hnb25 := NB733_735.out; have hnc25 := NB735_733.out; have hcz26_0 := zk0 BK733.out; have hcz26_1 := zk1 BK733.out; have hfz26_0 := blk_frozen BK733.out 0; have hfz26_1 := blk_frozen BK733.out 1) | ((with_reducible refine gate_callee (f := 67) rfl ?_); refine goesL_ (some 6) rfl rfl Try.func67 (by kernel_rfl) rfl #[.agg #[.slice A0_0 l0_0.length c0_0, .slice A0_1 l0_1.length c0_1]] rfl gm ?_; (with_reducible refine (impl_DiskOk.calls k _ _ l0_0 _ _ l0_1 false _ ?side1 ?side2 ?side3 ?side4 A3.out).mono ?_); (case side1 => exact zq (Kd.C_below HR0_0.out HB.out)); (case side2 => exact HC0_0.out); (case side3 => exact zq (Kd.C_below HR0_1.out HB.out)); (case side4 => exact HC0_1.out); rintro e w27 ⟨rfl, hb⟩; refine ⟨_, rfl, ?_⟩; replace BK733 := Ak (blk_below (bq BK733.out) hb); replace BK734 := Ak (blk_below (bq BK734.out) hb); replace BK735 := Ak (blk_below (bq BK735.out) hb); replace HB := Ak (below_step (bw3 HB.out GE733.out GE734.out GE735.out) hb); have hcz28_0 := zk0 BK733.out; have hcz28_1 := zk1 BK733.out; have hfz28_0 := blk_frozen BK733.out 0; have hfz28_1 := blk_frozen BK733.out 1) | ((with_reducible refine gate_callee (f := 49) rfl ?_); refine goesL_ (some 9) rfl rfl Try.func49 (by kernel_rfl) rfl #[.agg #[.slice A0_0 l0_0.length c0_0, .slice A0_1 l0_1.length c0_1]] rfl gm ?_; (with_reducible refine (impl_copyDisk.calls k _ _ l0_0 _ _ l0_1 t743 t746 _ ?side1 ?side2 ?side3 ?side4 A20.out).mono ?_); (case side1 => exact zq (Kd.C_below HR0_0.out HB.out)); (case side2 => exact HC0_0.out); (case side3 => exact zq (Kd.C_below HR0_1.out HB.out)); (case side4 => exact HC0_1.out); rintro e w29 ⟨v744, v747, rfl, ho0, ho1, hb⟩; refine ⟨_, rfl, ?_⟩; have HO745 := Ak (Kd.R_lower ho0 (below_size (bw3 HB.out GE733.out GE734.out GE735.out))); have HO748 := Ak (Kd.S_lower ho1 (below_size (bw3 HB.out GE733.out GE734.out GE735.out))); replace BK733 := Ak (blk_below (bq BK733.out) hb); replace BK734 := Ak (blk_below (bq BK734.out) hb); replace BK735 := Ak (blk_below (bq BK735.out) hb); replace HB := Ak (below_step (bw3 HB.out GE733.out GE734.out GE735.out) hb); obtain ⟨Ao30, co30, eo30⟩ := Kd.R_slice HO745.out; subst eo30; have hnb31 := NB735_734.out; have hnc31 := NB734_735.out; have hcz32_0 := zk0 BK735.out; have hcz32_1 := zk1 BK735.out; have hfz32_0 := blk_frozen BK735.out 0; have hfz32_1 := blk_frozen BK735.out 1; obtain ⟨Ao33, co33, eo33⟩ := Kd.S_slice HO748.out; subst eo33))
  refine bodyPost_ret (results_cell_row rfl _ _ gb735 31 #[.slice Ao30 t743.length co30, .slice Ao33 t746.length co33] (0, 0) _ rfl (by refine bq ?_; refine blk_put (cs := #[.slice Ao30 t743.length co30, .slice none 0 0]) ?_ 1 _ rfl; refine bq ?_; refine blk_put (cs := #[.slice none 0 0, .slice none 0 0]) ?_ 0 _ rfl; exact bq BK735.out) Try.underlying31 rfl (by kernel_rfl)) rfl ?_
  exact ⟨_, _, zw, by refine rq ?_; exact Kd.R_mono (Kd.R_far (p := ⟨gb735, 1, none⟩) (Kd.R_far (p := ⟨gb735, 0, none⟩) (Kd.R_types HO745.out BK735.out (by decide)) (fun _ hk => hk.2) (.slice Ao30 t743.length co30)) (fun _ hk => hk.2) (.slice Ao33 t746.length co33)) (fun _ hk => trivial), by refine sq ?_; exact Kd.S_mono (Kd.S_far (p := ⟨gb735, 1, none⟩) (Kd.S_far (p := ⟨gb735, 0, none⟩) (Kd.S_types HO748.out BK735.out (by decide)) (fun _ hk => hk.2) (.slice Ao30 t743.length co30)) (fun _ hk => hk.2) (.slice Ao33 t746.length co33)) (fun _ hk => hk.1), bw3 HB.out GE733.out GE734.out GE735.out⟩

def laws_sameBytes.l0 : Nat → List Int → List Int → Int → Option (Bool)
 | 0, _, _, _ => none
 | k + 1, x0, x1, x5 => if x5 < (x0.length : Int) then (if 0 ≤ x5 then (if x5 < (x1.length : Int) then (if (rd x0 x5) = (rd x1 x5) then (laws_sameBytes.l0 k x0 x1 (wrap64 (x5 + 1))) else (some false)) else (none)) else (none)) else (some true)
def laws_sameBytes.f (k : Nat) (l0 : List Int) (l1 : List Int) : Option (Bool) := if (l0.length : Int) = (l1.length : Int) then (laws_sameBytes.l0 k l0 l1 0) else (some false)
set_option maxHeartbeats 8000000 in
set_option maxRecDepth 100000 in
theorem laws_sameBytes.calls (k : Nat) (A0 : Option Addr) (c0 : Nat) (l0 : List Int) (A1 : Option Addr) (c1 : Nat) (l1 : List Int) (r : Bool) (w : World) (hr0 : Kd.C (Kd.int .u8) w A0 l0.length l0) (hc0 : l0.length ≤ c0) (hr1 : Kd.C (Kd.int .u8) w A1 l1.length l1) (hc1 : l1.length ≤ c1) (h : laws_sameBytes.f k l0 l1 = some r) :
  Calls Try.prog 70 #[.slice A0 l0.length c0, .slice A1 l1.length c1] w fun e w' => e = .returned (.bool r) ∧ Drawn0 w w' := by
 have HR0 := Ak hr0
 have HC0 := Ak hc0
 clear hr0 hc0
 have HR1 := Ak hr1
 have HC1 := Ak hc1
 clear hr1 hc1
 have H := h
 unfold laws_sameBytes.f at H
 clear h
 by_cases c3 : (l0.length : Int) = (l1.length : Int)
 ·rw [if_pos c3] at H
  have c3b0 : ((l0.length : Int) == (l1.length : Int)) = true := beq_iff_eq.mpr c3
  have c3b1 : ((l0.length : Int) != (l1.length : Int)) = false := bne_eq_false_iff_eq.mpr c3
  have c3b2 : (l0.length == l1.length) = true := by first | simpa using c3 | (simp at c3 ⊢; omega)
  clear c3
  have H' := Ak H
  clear H
  go_enter Try.func70, Try.ntmps70
  go_wp2
  repeat (go_quiet (fail); try go_wp2)
  go_loopg [5] k (fun kq v5 w' => ∃ (x5_1 : Int), v5 = .int .i64 x5_1 ∧ Aside0 (laws_sameBytes.l0 kq l0 l1 x5_1 = some r) ∧ Aside0 (kq ≤ k) ∧ Drawn0 w w')
  case atStart => exact ⟨(0), (by first | rfl | (simp; done) | (simp [*]; done)), H', ⟨Nat.le_refl _⟩, by repeat (first | exact Drawn0.refl _ | apply Drawn0.step)⟩
  case round =>
   clear H'
   try clear c3b0
   try clear c3b1
   try clear c3b2
   obtain ⟨x5_1, rfl, HA, HK1, ⟨m1, rfl⟩⟩ := hrel
   cases gk with
   | zero => exact absurd HA.out (by simp [laws_sameBytes.l0])
   | succ k1 =>
    have H := HA.out
    clear HA
    simp only [laws_sameBytes.l0] at H
    by_cases c4 : x5_1 < (l0.length : Int)
    ·rw [if_pos c4] at H
     have c4b0 := decide_eq_true c4
     clear c4
     by_cases c5 : 0 ≤ x5_1
     ·rw [if_pos c5] at H
      have c5b0 := decide_eq_true c5
      clear c5
      by_cases c6 : x5_1 < (l1.length : Int)
      ·rw [if_pos c6] at H
       have c6b0 := decide_eq_true c6
       clear c6
       by_cases c7 : (rd l0 x5_1) = (rd l1 x5_1)
       ·rw [if_pos c7] at H
        have c7b0 : ((rd l0 x5_1) == (rd l1 x5_1)) = true := beq_iff_eq.mpr c7
        have c7b1 : ((rd l0 x5_1) != (rd l1 x5_1)) = false := bne_eq_false_iff_eq.mpr c7
        clear c7
        have H' := Ak H
        clear H
        have p749 : 0 ≤ (x5_1 : Int) := of_decide_eq_true (by first | (with_reducible assumption) | assumption)
        have q749 : x5_1 < (l0.length : Int) := of_decide_eq_true (by first | (with_reducible assumption) | assumption)
        obtain ⟨ad749, e749, hx749_0⟩ := Kd.at_int HR0.out x5_1 p749 q749
        cases e749
        replace p749 := eq_true p749
        replace q749 := eq_true q749
        have p750 : 0 ≤ (x5_1 : Int) := of_decide_eq_true (by first | (with_reducible assumption) | assumption)
        have q750 : x5_1 < (l1.length : Int) := of_decide_eq_true (by first | (with_reducible assumption) | assumption)
        obtain ⟨ad750, e750, hx750_0⟩ := Kd.at_int HR1.out x5_1 p750 q750
        cases e750
        replace p750 := eq_true p750
        replace q750 := eq_true q750
        go_wp2
        repeat (go_quiet (fail); try go_wp2)
        go_roundg k1
        case measure => have := HK1.out; omega
        case rel => exact ⟨(wrap64 (x5_1 + 1)), (by first | rfl | (simp; done) | (simp [*]; done)), H', ⟨by have := HK1.out; omega⟩, by repeat (first | exact Drawn0.refl _ | apply Drawn0.step)⟩
       ·rw [if_neg c7] at H
        have c7b0 : ((rd l0 x5_1) == (rd l1 x5_1)) = false := beq_eq_false_iff_ne.mpr c7
        have c7b1 : ((rd l0 x5_1) != (rd l1 x5_1)) = true := bne_iff_ne.mpr c7
        obtain rfl := Option.some.inj H
        have p749 : 0 ≤ (x5_1 : Int) := of_decide_eq_true (by first | (with_reducible assumption) | assumption)
        have q749 : x5_1 < (l0.length : Int) := of_decide_eq_true (by first | (with_reducible assumption) | assumption)
        obtain ⟨ad749, e749, hx749_0⟩ := Kd.at_int HR0.out x5_1 p749 q749
        cases e749
        replace p749 := eq_true p749
        replace q749 := eq_true q749
        have p750 : 0 ≤ (x5_1 : Int) := of_decide_eq_true (by first | (with_reducible assumption) | assumption)
        have q750 : x5_1 < (l1.length : Int) := of_decide_eq_true (by first | (with_reducible assumption) | assumption)
        obtain ⟨ad750, e750, hx750_0⟩ := Kd.at_int HR1.out x5_1 p750 q750
        cases e750
        replace p750 := eq_true p750
        replace q750 := eq_true q750
        go_wp2
        repeat (go_quiet (fail); try go_wp2)
        go_ret
        exact ⟨by first | rfl | (simp; done) | (simp [*]; done), by repeat (first | exact Drawn0.refl _ | apply Drawn0.step)⟩
      ·rw [if_neg c6] at H
       exact absurd H (by simp)
     ·rw [if_neg c5] at H
      exact absurd H (by simp)
    ·rw [if_neg c4] at H
     have c4b0 := decide_eq_false c4
     clear c4
     obtain rfl := Option.some.inj H
     go_wp2
     repeat (go_quiet (fail); try go_wp2)
     go_ret
     exact ⟨by first | rfl | (simp; done) | (simp [*]; done), by repeat (first | exact Drawn0.refl _ | apply Drawn0.step)⟩
 ·rw [if_neg c3] at H
  have c3b0 : ((l0.length : Int) == (l1.length : Int)) = false := beq_eq_false_iff_ne.mpr c3
  have c3b1 : ((l0.length : Int) != (l1.length : Int)) = true := bne_iff_ne.mpr c3
  have c3b2 : (l0.length == l1.length) = false := by first | simpa using c3 | (simp at c3 ⊢; omega)
  obtain rfl := Option.some.inj H
  go_enter Try.func70, Try.ntmps70
  go_wp2
  repeat (go_quiet (fail); try go_wp2)
  go_ret
  exact ⟨by first | rfl | (simp; done) | (simp [*]; done), by repeat (first | exact Drawn0.refl _ | apply Drawn0.step)⟩

def laws_sameRecords.l0 : Nat → List (List Int) → List (List Int) → Int → Option (Bool)
 | 0, _, _, _ => none
 | k + 1, x0, x1, x5 => if x5 < (x0.length : Int) then (if 0 ≤ x5 then (if x5 < (x1.length : Int) then ((laws_sameBytes.f k (rd_L2 x0 x5) (rd_L2 x1 x5)).bind fun t753 => (if t753 = true then (laws_sameRecords.l0 k x0 x1 (wrap64 (x5 + 1))) else (some false))) else (none)) else (none)) else (some true)
def laws_sameRecords.f (k : Nat) (l0 : List (List Int)) (l1 : List (List Int)) : Option (Bool) := if (l0.length : Int) = (l1.length : Int) then (laws_sameRecords.l0 k l0 l1 0) else (some false)
set_option maxHeartbeats 8000000 in
set_option maxRecDepth 100000 in
theorem laws_sameRecords.calls (k : Nat) (A0 : Option Addr) (c0 : Nat) (l0 : List (List Int)) (A1 : Option Addr) (c1 : Nat) (l1 : List (List Int)) (r : Bool) (w : World) (hr0 : Kd.C (Kd.slice 5 (Kd.int .u8)) w A0 l0.length l0) (hc0 : l0.length ≤ c0) (hr1 : Kd.C (Kd.slice 5 (Kd.int .u8)) w A1 l1.length l1) (hc1 : l1.length ≤ c1) (h : laws_sameRecords.f k l0 l1 = some r) :
  Calls Try.prog 30 #[.slice A0 l0.length c0, .slice A1 l1.length c1] w fun e w' => e = .returned (.bool r) ∧ Drawn0 w w' := by
 have HR0 := Ak hr0
 have HC0 := Ak hc0
 clear hr0 hc0
 have HR1 := Ak hr1
 have HC1 := Ak hc1
 clear hr1 hc1
 have H := h
 unfold laws_sameRecords.f at H
 clear h
 by_cases c3 : (l0.length : Int) = (l1.length : Int)
 ·rw [if_pos c3] at H
  have c3b0 : ((l0.length : Int) == (l1.length : Int)) = true := beq_iff_eq.mpr c3
  have c3b1 : ((l0.length : Int) != (l1.length : Int)) = false := bne_eq_false_iff_eq.mpr c3
  have c3b2 : (l0.length == l1.length) = true := by first | simpa using c3 | (simp at c3 ⊢; omega)
  clear c3
  have H' := Ak H
  clear H
  go_enter Try.func30, Try.ntmps30
  go_wp2
  repeat (go_quiet (fail); try go_wp2)
  go_loopg [5] k (fun kq v5 w' => ∃ (x5_1 : Int), v5 = .int .i64 x5_1 ∧ Aside0 (laws_sameRecords.l0 kq l0 l1 x5_1 = some r) ∧ Aside0 (kq ≤ k) ∧ Drawn0 w w')
  case atStart => exact ⟨(0), (by first | rfl | (simp; done) | (simp [*]; done)), H', ⟨Nat.le_refl _⟩, by repeat (first | exact Drawn0.refl _ | apply Drawn0.step)⟩
  case round =>
   clear H'
   try clear c3b0
   try clear c3b1
   try clear c3b2
   obtain ⟨x5_1, rfl, HA, HK1, ⟨m1, rfl⟩⟩ := hrel
   cases gk with
   | zero => exact absurd HA.out (by simp [laws_sameRecords.l0])
   | succ k1 =>
    have H := HA.out
    clear HA
    simp only [laws_sameRecords.l0] at H
    by_cases c4 : x5_1 < (l0.length : Int)
    ·rw [if_pos c4] at H
     have c4b0 := decide_eq_true c4
     clear c4
     by_cases c5 : 0 ≤ x5_1
     ·rw [if_pos c5] at H
      have c5b0 := decide_eq_true c5
      clear c5
      by_cases c6 : x5_1 < (l1.length : Int)
      ·rw [if_pos c6] at H
       have c6b0 := decide_eq_true c6
       clear c6
       replace H := Option.bind_eq_some_iff.mp H
       obtain ⟨t753, A70, H⟩ := H
       have A7 := Ak A70
       clear A70
       by_cases c8 : t753 = true
       ·subst c8
        rw [if_pos rfl] at H
        have H' := Ak H
        clear H
        have p751 : 0 ≤ (x5_1 : Int) := of_decide_eq_true (by first | (with_reducible assumption) | assumption)
        have q751 : x5_1 < (l0.length : Int) := of_decide_eq_true (by first | (with_reducible assumption) | assumption)
        obtain ⟨ad751, A751_0, c751_0, e751, hx751_0, hl751_0, hi751_0⟩ := at_L2 HR0.out x5_1 p751 q751
        cases e751
        have HR751_0 := Ak hi751_0
        have HC751_0 := Ak hl751_0
        clear hi751_0 hl751_0
        replace p751 := eq_true p751
        replace q751 := eq_true q751
        have p752 : 0 ≤ (x5_1 : Int) := of_decide_eq_true (by first | (with_reducible assumption) | assumption)
        have q752 : x5_1 < (l1.length : Int) := of_decide_eq_true (by first | (with_reducible assumption) | assumption)
        obtain ⟨ad752, A752_0, c752_0, e752, hx752_0, hl752_0, hi752_0⟩ := at_L2 HR1.out x5_1 p752 q752
        cases e752
        have HR752_0 := Ak hi752_0
        have HC752_0 := Ak hl752_0
        clear hi752_0 hl752_0
        replace p752 := eq_true p752
        replace q752 := eq_true q752
        go_wp2_with (first | (go_at_call 70; (with_reducible refine (laws_sameBytes.calls k1 _ _ (rd_L2 l0 x5_1) _ _ (rd_L2 l1 x5_1) true _ ?side1 ?side2 ?side3 ?side4 A7.out).mono ?_); (case side1 => exact zq HR751_0.out); (case side2 => exact HC751_0.out); (case side3 => exact zq HR752_0.out); (case side4 => exact HC752_0.out); rintro e w' ⟨rfl, ⟨nd, rfl⟩⟩; (try first | exact ⟨rfl, _, World.drewN_drewN _ _ _⟩ | exact ⟨rfl, _, Eq.trans (World.drewN_drewN _ _ _) (congrArg (World.drewN _) (Nat.add_assoc _ _ _))⟩)))
        repeat (go_quiet (first | (go_at_call 70; (with_reducible refine (laws_sameBytes.calls k1 _ _ (rd_L2 l0 x5_1) _ _ (rd_L2 l1 x5_1) true _ ?side1 ?side2 ?side3 ?side4 A7.out).mono ?_); (case side1 => exact zq HR751_0.out); (case side2 => exact HC751_0.out); (case side3 => exact zq HR752_0.out); (case side4 => exact HC752_0.out); rintro e w' ⟨rfl, ⟨nd, rfl⟩⟩; (try first | exact ⟨rfl, _, World.drewN_drewN _ _ _⟩ | exact ⟨rfl, _, Eq.trans (World.drewN_drewN _ _ _) (congrArg (World.drewN _) (Nat.add_assoc _ _ _))⟩))); try go_wp2_with (first | (go_at_call 70; (with_reducible refine (laws_sameBytes.calls k1 _ _ (rd_L2 l0 x5_1) _ _ (rd_L2 l1 x5_1) true _ ?side1 ?side2 ?side3 ?side4 A7.out).mono ?_); (case side1 => exact zq HR751_0.out); (case side2 => exact HC751_0.out); (case side3 => exact zq HR752_0.out); (case side4 => exact HC752_0.out); rintro e w' ⟨rfl, ⟨nd, rfl⟩⟩; (try first | exact ⟨rfl, _, World.drewN_drewN _ _ _⟩ | exact ⟨rfl, _, Eq.trans (World.drewN_drewN _ _ _) (congrArg (World.drewN _) (Nat.add_assoc _ _ _))⟩))))
        go_roundg k1
        case measure => have := HK1.out; omega
        case rel => exact ⟨(wrap64 (x5_1 + 1)), (by first | rfl | (simp; done) | (simp [*]; done)), H', ⟨by have := HK1.out; omega⟩, by repeat (first | exact Drawn0.refl _ | apply Drawn0.step)⟩
       ·replace c8 := Bool.eq_false_iff.mpr c8
        subst c8
        rw [if_neg (show ¬ (false = true) by decide)] at H
        obtain rfl := Option.some.inj H
        have p751 : 0 ≤ (x5_1 : Int) := of_decide_eq_true (by first | (with_reducible assumption) | assumption)
        have q751 : x5_1 < (l0.length : Int) := of_decide_eq_true (by first | (with_reducible assumption) | assumption)
        obtain ⟨ad751, A751_0, c751_0, e751, hx751_0, hl751_0, hi751_0⟩ := at_L2 HR0.out x5_1 p751 q751
        cases e751
        have HR751_0 := Ak hi751_0
        have HC751_0 := Ak hl751_0
        clear hi751_0 hl751_0
        replace p751 := eq_true p751
        replace q751 := eq_true q751
        have p752 : 0 ≤ (x5_1 : Int) := of_decide_eq_true (by first | (with_reducible assumption) | assumption)
        have q752 : x5_1 < (l1.length : Int) := of_decide_eq_true (by first | (with_reducible assumption) | assumption)
        obtain ⟨ad752, A752_0, c752_0, e752, hx752_0, hl752_0, hi752_0⟩ := at_L2 HR1.out x5_1 p752 q752
        cases e752
        have HR752_0 := Ak hi752_0
        have HC752_0 := Ak hl752_0
        clear hi752_0 hl752_0
        replace p752 := eq_true p752
        replace q752 := eq_true q752
        go_wp2_with (first | (go_at_call 70; (with_reducible refine (laws_sameBytes.calls k1 _ _ (rd_L2 l0 x5_1) _ _ (rd_L2 l1 x5_1) false _ ?side1 ?side2 ?side3 ?side4 A7.out).mono ?_); (case side1 => exact zq HR751_0.out); (case side2 => exact HC751_0.out); (case side3 => exact zq HR752_0.out); (case side4 => exact HC752_0.out); rintro e w' ⟨rfl, ⟨nd, rfl⟩⟩; (try first | exact ⟨rfl, _, World.drewN_drewN _ _ _⟩ | exact ⟨rfl, _, Eq.trans (World.drewN_drewN _ _ _) (congrArg (World.drewN _) (Nat.add_assoc _ _ _))⟩)))
        repeat (go_quiet (first | (go_at_call 70; (with_reducible refine (laws_sameBytes.calls k1 _ _ (rd_L2 l0 x5_1) _ _ (rd_L2 l1 x5_1) false _ ?side1 ?side2 ?side3 ?side4 A7.out).mono ?_); (case side1 => exact zq HR751_0.out); (case side2 => exact HC751_0.out); (case side3 => exact zq HR752_0.out); (case side4 => exact HC752_0.out); rintro e w' ⟨rfl, ⟨nd, rfl⟩⟩; (try first | exact ⟨rfl, _, World.drewN_drewN _ _ _⟩ | exact ⟨rfl, _, Eq.trans (World.drewN_drewN _ _ _) (congrArg (World.drewN _) (Nat.add_assoc _ _ _))⟩))); try go_wp2_with (first | (go_at_call 70; (with_reducible refine (laws_sameBytes.calls k1 _ _ (rd_L2 l0 x5_1) _ _ (rd_L2 l1 x5_1) false _ ?side1 ?side2 ?side3 ?side4 A7.out).mono ?_); (case side1 => exact zq HR751_0.out); (case side2 => exact HC751_0.out); (case side3 => exact zq HR752_0.out); (case side4 => exact HC752_0.out); rintro e w' ⟨rfl, ⟨nd, rfl⟩⟩; (try first | exact ⟨rfl, _, World.drewN_drewN _ _ _⟩ | exact ⟨rfl, _, Eq.trans (World.drewN_drewN _ _ _) (congrArg (World.drewN _) (Nat.add_assoc _ _ _))⟩))))
        go_ret
        exact ⟨by first | rfl | (simp; done) | (simp [*]; done), by repeat (first | exact Drawn0.refl _ | apply Drawn0.step)⟩
      ·rw [if_neg c6] at H
       exact absurd H (by simp)
     ·rw [if_neg c5] at H
      exact absurd H (by simp)
    ·rw [if_neg c4] at H
     have c4b0 := decide_eq_false c4
     clear c4
     obtain rfl := Option.some.inj H
     go_wp2
     repeat (go_quiet (fail); try go_wp2)
     go_ret
     exact ⟨by first | rfl | (simp; done) | (simp [*]; done), by repeat (first | exact Drawn0.refl _ | apply Drawn0.step)⟩
 ·rw [if_neg c3] at H
  have c3b0 : ((l0.length : Int) == (l1.length : Int)) = false := beq_eq_false_iff_ne.mpr c3
  have c3b1 : ((l0.length : Int) != (l1.length : Int)) = true := bne_iff_ne.mpr c3
  have c3b2 : (l0.length == l1.length) = false := by first | simpa using c3 | (simp at c3 ⊢; omega)
  obtain rfl := Option.some.inj H
  go_enter Try.func30, Try.ntmps30
  go_wp2
  repeat (go_quiet (fail); try go_wp2)
  go_ret
  exact ⟨by first | rfl | (simp; done) | (simp [*]; done), by repeat (first | exact Drawn0.refl _ | apply Drawn0.step)⟩

attribute [local go_sem high] eqA32
def laws_FnLog.j0 : Nat → List (List Int) → Bool → Int → Int → Int → Int → List Int → List (S96) → Int → Int → Int → Int → Option (Bool)
 | 0, _, _, _, _, _, _, _, _, _, _, _, _ => none
 | k + 1, x20, x127, x773000, x773001, x773002, x773003, x831000, x831001, x840000, x840001, x840002, x840003 => if x127 = true then (some false) else ((impl_LogAdd.f k x831000 x831001 x840000 x840001 x840002 x840003 (([7, 7] : List Int))).bind fun bt846 => (if bt846.2.2.2.2.2.2 = true then ((impl_LogOpen.f k bt846.1 bt846.2.1 x773000 x773001).bind fun bt859 => ((some (([] : List (List Int)) : List (List Int))).bind fun y868 => (if y868.length + x20.length < 5864062014805 then ((some (y868 ++ x20 : List (List Int))).bind fun y871 => (if y871.length < 5864062014805 then ((laws_sameRecords.f k bt859.2.2.2.2.1 (y871 ++ [(([7, 7] : List Int))])).bind fun t880 => (some t880)) else (none))) else (none)))) else ((impl_LogRoom.f x840000 x840001 x840002 x840003).bind fun t881 => (some (t881 == 0)))))
def laws_FnLog.f (k : Nat) (l0 : List Int) : Option (Bool) := (laws_big.f l0).bind fun t754 => (if t754 = true then (some true) else ((spec_DrawLogged.f k l0).bind fun bt755 => ((impl_LogOpen.f k bt755.1 bt755.2.1 bt755.2.2.1 bt755.2.2.2.1).bind fun bt773 => ((some (([] : List (List Int)) : List (List Int))).bind fun y782 => (if y782.length + bt773.2.2.2.2.1.length < 5864062014805 then ((some (y782 ++ bt773.2.2.2.2.1 : List (List Int))).bind fun y785 => (if y785.length < 5864062014805 then ((some (y785 ++ [bt755.2.2.2.2.2.2.1] : List (List Int))).bind fun y788 => ((impl_LogAdd.f k bt755.1 bt755.2.1 bt755.2.2.1 bt755.2.2.2.1 bt755.2.2.2.2.1 bt755.2.2.2.2.2.1 bt755.2.2.2.2.2.2.1).bind fun bt791 => (if bt773.2.2.2.2.2 = true then (if bt791.2.2.2.2.2.2 = true then ((impl_LogOpen.f k bt791.1 bt791.2.1 bt755.2.2.1 bt755.2.2.2.1).bind fun bt805 => ((some (([] : List Int) : List Int)).bind fun y814 => (if y814.length + bt755.1.length < 140737488355328 then ((impl_LogWrites.f k bt755.2.2.1 bt755.2.2.2.1 bt755.2.2.2.2.1 bt755.2.2.2.2.2.1 bt755.2.2.2.2.2.2.1).bind fun t820 => ((impl_Crash.f k (y814 ++ bt755.1) t820 bt755.2.2.2.2.2.2.2).bind fun bt824 => ((impl_LogOpen.f k bt824.1 bt824.2 bt755.2.2.1 bt755.2.2.2.1).bind fun bt831 => (if bt831.2.2.2.2.2 = true then ((laws_sameRecords.f k bt805.2.2.2.2.1 y788).bind fun t840 => (if t840 = true then ((laws_sameRecords.f k bt831.2.2.2.2.1 bt773.2.2.2.2.1).bind fun t841 => (if t841 = true then (laws_FnLog.j0 k bt831.2.2.2.2.1 false bt755.2.2.1 bt755.2.2.2.1 bt755.2.2.2.2.1 bt755.2.2.2.2.2.1 bt824.1 bt824.2 bt831.1 bt831.2.1 bt831.2.2.1 bt831.2.2.2.1) else ((laws_sameRecords.f k bt831.2.2.2.2.1 y788).bind fun t842 => (laws_FnLog.j0 k bt831.2.2.2.2.1 (!t842) bt755.2.2.1 bt755.2.2.2.1 bt755.2.2.2.2.1 bt755.2.2.2.2.2.1 bt824.1 bt824.2 bt831.1 bt831.2.1 bt831.2.2.1 bt831.2.2.2.1)))) else (laws_FnLog.j0 k bt831.2.2.2.2.1 true bt755.2.2.1 bt755.2.2.2.1 bt755.2.2.2.2.1 bt755.2.2.2.2.2.1 bt824.1 bt824.2 bt831.1 bt831.2.1 bt831.2.2.1 bt831.2.2.2.1))) else (laws_FnLog.j0 k bt831.2.2.2.2.1 true bt755.2.2.1 bt755.2.2.2.1 bt755.2.2.2.2.1 bt755.2.2.2.2.2.1 bt824.1 bt824.2 bt831.1 bt831.2.1 bt831.2.2.1 bt831.2.2.2.1))))) else (none)))) else ((impl_LogRoom.f bt755.2.2.1 bt755.2.2.2.1 bt755.2.2.2.2.1 bt755.2.2.2.2.2.1).bind fun t804 => (if t804 < (wrap64 ((wrap64 ((bt755.2.2.2.2.2.2.1.length : Int) / 44)) + 1)) then (some (bt791.2.2.1 == bt755.2.2.1 && (bt791.2.2.2.1 == bt755.2.2.2.1 && (bt791.2.2.2.2.1 == bt755.2.2.2.2.1 && (bt791.2.2.2.2.2.1 == bt755.2.2.2.2.2.1))))) else (some false)))) else (some false)))) else (none))) else (none))))))
def laws_FnLog.T12 : Bool × List (List Nat × List Nat) := (true, [([], []), ([], []), ([1], [1]), ([0, 2], [0, 2]), ([], []), ([], []), ([4, 5, 3], [4, 5]), ([3, 6], [3, 6]), ([], []), ([8, 7, 6, 0, 1, 2, 3, 4, 5, 6, 7, 8], [7, 8])])
def laws_FnLog.B12 : List Nat := [0, 0, 2, 7, 0, 0, 63, 127, 0, 511]
theorem laws_FnLog.tab12 : rtab .any (opsOf Try.f5 12) = laws_FnLog.T12 := by kernel_rfl
theorem laws_FnLog.bits12 : waitsOk laws_FnLog.T12.2 laws_FnLog.B12 = true := by kernel_rfl
theorem laws_FnLog.j0_no {k : Nat} {x20 : List (List Int)} {a b c d : Int} {e : List Int} {f : List S96} {g h i j : Int} (H : laws_FnLog.j0 k x20 true a b c d e f g h i j = some true) : False := by
 cases k <;> simp [laws_FnLog.j0] at H
set_option maxHeartbeats 8000000 in
set_option maxRecDepth 100000 in
theorem laws_FnLog.calls (k : Nat) (A0 : Option Addr) (c0 : Nat) (l0 : List Int) (r : Bool) (w : World) (hr0 : Kd.C (Kd.int .u8) w A0 l0.length l0) (hc0 : l0.length ≤ c0) (h : laws_FnLog.f k l0 = some r) (hrt : r = true) :
  Calls Try.prog 5 #[.slice A0 l0.length c0] w fun e w' => e = .returned (.bool r) ∧ Below w.heap.size w w' := by
 subst hrt
 have hu31 := Try.underlying31
 have hu32 := Try.underlying32
 have HR0 := Ak hr0
 have HC0 := Ak hc0
 clear hr0 hc0
 have M := Mem.Mem.start w
 have H := h
 unfold laws_FnLog.f at H
 clear h
 replace H := Option.bind_eq_some_iff.mp H
 obtain ⟨t754, A20, H⟩ := H
 have A2 := Ak A20; clear A20
 by_cases c3 : t754 = true
 ·subst c3
  clear H
  go_enter Try.func5, Try.ntmps5
  go_wp2_with ((with_reducible refine Mem.gateW ?_); first | (refine Mem.Mem.callE (some 29) Try.func25 #[.slice A0 l0.length c0] (M := M) (h := fun M => (laws_big.calls _ _ l0 true _ (Kd.C_below HR0.out M.below) HC0.out A2.out).mono ?_); rintro e w' ⟨rfl, ⟨nd, rfl⟩⟩; refine ⟨_, rfl, ?_⟩))
  go_ret
  exact ⟨zw, (Mem.Mem.dr (M := M)).below⟩
 replace c3 := Bool.eq_false_iff.mpr c3
 subst c3
 rw [if_neg (show ¬ (false = true) by decide)] at H
 replace H := Option.bind_eq_some_iff.mp H
 obtain ⟨⟨t755, t758, t761, t762, t763, t764, t765, t768⟩, A40, H⟩ := H
 have A4 := Ak A40; clear A40; (try dsimp only at H)
 replace H := Option.bind_eq_some_iff.mp H
 obtain ⟨⟨t773, t774, t775, t776, t777, t780⟩, A50, H⟩ := H
 have A5 := Ak A50; clear A50; (try dsimp only at H)
 rw [Option.bind_some] at H
 by_cases c6 : ([] : List (List Int)).length + t777.length < 5864062014805
 case neg =>
  rw [if_neg c6] at H
  exact absurd H (by simp)
 rw [if_pos c6, Option.bind_some] at H
 by_cases c7 : (([] : List (List Int)) ++ t777).length < 5864062014805
 case neg =>
  rw [if_neg c7] at H
  exact absurd H (by simp)
 rw [if_pos c7, Option.bind_some] at H
 have LMc7 := Ak (show t777.length < 5864062014805 from c7); clear c6 c7
 rw [List.nil_append] at H
 generalize hy788 : t777 ++ [t765] = y788 at H
 have Ny788 := Ak hy788; clear hy788
 replace H := Option.bind_eq_some_iff.mp H
 obtain ⟨⟨t791, t794, t797, t798, t799, t800, t801⟩, A80, H⟩ := H
 have A8 := Ak A80; clear A80; (try dsimp only at H)
 by_cases c9 : t780 = true
 case neg =>
  rw [if_neg c9] at H
  exact absurd H (by simp)
 subst c9
 rw [if_pos rfl] at H
 go_enter Try.func5, Try.ntmps5
 have HC16 := Ak H
 clear H
 go_upto_region 3 with ((with_reducible refine Mem.gateW ?_); first | (refine Mem.Mem.callE (some 29) Try.func25 #[.slice A0 l0.length c0] (M := M) (h := fun M => (laws_big.calls _ _ l0 false _ (Kd.C_below HR0.out M.below) HC0.out A2.out).mono ?_); rintro e w' ⟨rfl, ⟨nd, rfl⟩⟩; refine ⟨_, rfl, ?_⟩))
 go_upto_region 4 with ((with_reducible refine Mem.gateW ?_); first | (refine Mem.Mem.callE (some 32) Try.func26 #[.slice A0 l0.length c0] (M := M) (h := fun M => (spec_DrawLogged.calls k _ _ l0 t755 t758 t761 t762 t763 t764 t765 t768 _ (Kd.C_below HR0.out M.below) HC0.out A4.out).mono ?_); rintro e w17 ⟨v756, v759, v766, v769, rfl, ho0, ho1, ho2, ho3, hb⟩; refine ⟨_, rfl, ?_⟩; have M := M.V4 hb ho0 ho1 ho2 ho3; clear ho0 ho1 ho2 ho3 hb; obtain ⟨Aa, ca, ea⟩ := M.row_form 0 rfl; subst ea; obtain ⟨Ab, cb, eb⟩ := M.row_form 1 rfl; subst eb; obtain ⟨Ac, cc, ec⟩ := M.row_form 2 rfl; subst ec; obtain ⟨Ad, cd, ed⟩ := M.row_form 3 rfl; subst ed) | (refine Mem.Mem.boxE 3 31 [.slice none 0 0, .slice none 0 0] (M := M) (h := fun gb771 w18 M => ?_)) | (refine Mem.Mem.boxE 4 32 [.int .i64 0, .int .i64 0, .int .i64 0, .int .i64 0] (M := M) (h := fun gb772 w19 M => ?_)) | (refine Mem.Mem.stoE 1 31 (.tmp 3) (.tmp 33) [.slice Aa t755.length ca, .slice Ab t758.length cb] (M := M) (h := fun w20 M => ?_)) | (refine Mem.Mem.stoE 0 32 (.tmp 4) (.tmp 34) [.int .i64 t761, .int .i64 t762, .int .i64 t763, .int .i64 t764] (M := M) (h := fun w21 M => ?_); have hz := M.look 0))
 go_upto_region 5 with ((with_reducible refine Mem.gateW ?_); first | (refine Mem.Mem.ldE 1 31 (.tmp 3) hu31 (M := M) (h := fun M => ?_)) | (refine Mem.Mem.callE (some 43) Try.func21 #[.agg #[.slice Aa t755.length ca, .slice Ab t758.length cb], .int .i64 t761, .int .i64 t762] (M := M) (h := fun M => (impl_LogOpen.calls k _ _ t755 _ _ t758 t761 t762 t773 t774 t775 t776 t777 true _ (M.C 2 rfl) (M.cap 2 rfl) (M.C 3 rfl) (M.cap 3 rfl) A5.out).mono ?_); rintro e w25 ⟨v778, rfl, ho0, hb⟩; refine ⟨_, rfl, ?_⟩; have M := M.V hb (Mem.frS ho0); clear hb ho0 hz; obtain ⟨Ae, ce, ee⟩ := M.row_form 0 rfl; subst ee) | (refine Mem.Mem.boxE 7 32 [.int .i64 0, .int .i64 0, .int .i64 0, .int .i64 0] (M := M) (h := fun gb781 w26 M => ?_)) | (refine Mem.Mem.stoE 0 32 (.tmp 7) (.tmp 44) [.int .i64 t773, .int .i64 t774, .int .i64 t775, .int .i64 t776] (M := M) (h := fun w27 M => ?_)))
 go_upto_region 6 with ((with_reducible refine Mem.gateW ?_); first | (refine Mem.Mem.litE 47 (Kd.slice 5 (Kd.int .u8)) 22 [] [] (hp := Mem.Els.nil) (M := M) (h := fun v783 w30 M => ?_)) | (refine Mem.Mem.appE 0 2 (Kd.slice 5 (Kd.int .u8)) (.tmp 47) (.tmp 48) 44 22 (.slice none 0 0) 24 Try.underlying44 info22 (hl := by have := LMc7.out; simp; omega) (M := M) (h := fun v786 w32 M => ?_); rw [List.nil_append] at M) | (refine Mem.Mem.oneE 0 (Kd.slice 5 (Kd.int .u8)) (.tmp 49) (.tmp 51) 44 22 (.slice none 0 0) 24 Try.underlying44 info22 t765 [.slice Ac t765.length cc] (hl := by have := LMc7.out; omega) (hp := Mem.El.slice 7) (M := M) (h := fun v789 w34 M => ?_); rw [Ny788.out] at M; obtain ⟨Af, cf, ef⟩ := M.formN 0 rfl; subst ef))
 go_upto_region 7 with ((with_reducible refine Mem.gateW ?_); first | (refine Mem.Mem.ldE 4 31 (.tmp 3) hu31 (M := M) (h := fun M => ?_)) | (refine Mem.Mem.ldE 3 32 (.tmp 4) hu32 (M := M) (h := fun M => ?_)) | (refine Mem.Mem.callE (some 57) Try.func13 #[.agg #[.slice Aa t755.length ca, .slice Ab t758.length cb], .agg #[.int .i64 t761, .int .i64 t762, .int .i64 t763, .int .i64 t764], .slice Ac t765.length cc] (M := M) (h := fun M => (impl_LogAdd.calls k _ _ t755 _ _ t758 t761 t762 t763 t764 _ _ t765 t791 t794 t797 t798 t799 t800 t801 _ (M.C 5 rfl) (M.cap 5 rfl) (M.C 6 rfl) (M.cap 6 rfl) (M.C 7 rfl) (M.cap 7 rfl) A8.out).mono ?_); rintro e w38 ⟨v792, v795, rfl, ho0, ho1, hb⟩; refine ⟨_, rfl, ?_⟩; have M := M.V2 hb ho0 ho1; clear hb ho0 ho1; obtain ⟨Ag, cg, eg⟩ := M.row_form 0 rfl; subst eg; obtain ⟨Ah, ch, eh⟩ := M.row_form 1 rfl; subst eh) | (refine Mem.Mem.boxE 11 31 [.slice none 0 0, .slice none 0 0] (M := M) (h := fun gb802 w39 M => ?_)) | (refine Mem.Mem.boxE 12 32 [.int .i64 0, .int .i64 0, .int .i64 0, .int .i64 0] (M := M) (h := fun gb803 w40 M => ?_)) | (refine Mem.Mem.stoE 1 31 (.tmp 11) (.tmp 58) [.slice Ag t791.length cg, .slice Ah t794.length ch] (M := M) (h := fun w41 M => ?_)) | (refine Mem.Mem.stoE 0 32 (.tmp 12) (.tmp 59) [.int .i64 t797, .int .i64 t798, .int .i64 t799, .int .i64 t800] (M := M) (h := fun w42 M => ?_)))
 go_upto_region 9 with fail
 have H := HC16.out
 clear HC16
 by_cases c10 : t801 = true
 case neg =>
  replace c10 := Bool.eq_false_iff.mpr c10
  subst c10
  rw [if_neg (show ¬ (false = true) by decide)] at H
  replace H := Option.bind_eq_some_iff.mp H
  obtain ⟨t804, A2540, H⟩ := H
  have A254 := Ak A2540; clear A2540; (try dsimp only at H)
  by_cases c255 : t804 < (wrap64 ((wrap64 ((t765.length : Int) / 44)) + 1))
  case neg =>
   rw [if_neg c255] at H
   exact absurd H (by simp)
  rw [if_pos c255] at H
  have c255b0 := decide_eq_true c255
  clear c255
  simp only [Option.some.injEq, Bool.and_eq_true, beq_iff_eq] at H
  obtain ⟨rfl, rfl, rfl, rfl⟩ := H
  go_wp2_with ((with_reducible refine Mem.gateW ?_); first | (refine Mem.Mem.ldE 7 32 (.tmp 4) hu32 (M := M) (h := fun M => ?_)) | (refine Mem.Mem.ldE 0 32 (.tmp 12) hu32 (M := M) (h := fun M => ?_)) | (refine Mem.Mem.callE (some 66) Try.func27 #[.agg #[.int .i64 _, .int .i64 _, .int .i64 _, .int .i64 _]] (M := M) (h := fun M => (impl_LogRoom.calls _ _ _ _ t804 _ A254.out).mono ?_); rintro e w43 ⟨rfl, hb⟩; refine ⟨_, rfl, ?_⟩; have M := M.call hb; clear hb))
  go_ret
  exact ⟨zw, (Mem.Mem.dr (M := M)).below⟩
 subst c10
 rw [if_pos rfl] at H
 replace H := Option.bind_eq_some_iff.mp H
 obtain ⟨⟨t805, t806, t807, t808, t809, t812⟩, A110, H⟩ := H
 have A11 := Ak A110; clear A110; (try dsimp only at H)
 rw [Option.bind_some] at H
 by_cases c12 : ([] : List Int).length + t755.length < 140737488355328
 case neg =>
  rw [if_neg c12] at H
  exact absurd H (by simp)
 rw [if_pos c12, List.nil_append] at H
 have LMc12 := Ak (show t755.length < 140737488355328 by simpa using c12); clear c12
 replace H := Option.bind_eq_some_iff.mp H
 obtain ⟨t820, A130, H⟩ := H
 have A13 := Ak A130; clear A130; (try dsimp only at H)
 replace H := Option.bind_eq_some_iff.mp H
 obtain ⟨⟨t824, t827⟩, A140, H⟩ := H
 have A14 := Ak A140; clear A140; (try dsimp only at H)
 replace H := Option.bind_eq_some_iff.mp H
 obtain ⟨⟨t831, t832, t833, t834, t835, t838⟩, A150, H⟩ := H
 have A15 := Ak A150; clear A150; (try dsimp only at H)
 by_cases c107 : t838 = true
 case neg =>
  rw [if_neg c107] at H
  exact (laws_FnLog.j0_no H).elim
 subst c107
 rw [if_pos rfl] at H
 replace H := Option.bind_eq_some_iff.mp H
 obtain ⟨t840, A1080, H⟩ := H
 by_cases c109 : t840 = true
 case neg =>
  rw [if_neg c109] at H
  exact (laws_FnLog.j0_no H).elim
 subst c109
 have A108 := Ak A1080; clear A1080
 rw [if_pos rfl] at H
 replace H := Option.bind_eq_some_iff.mp H
 obtain ⟨t841, A1100, H⟩ := H
 have A110 := Ak A1100; clear A1100
 have HJ : laws_FnLog.j0 k t835 false t761 t762 t763 t764 t824 t827 t831 t832 t833 t834 = some true ∧ (t841 = true ∨ t841 = false ∧ laws_sameRecords.f k t835 y788 = some true) := by
  by_cases c111 : t841 = true
  ·rw [if_pos c111] at H
   exact ⟨H, .inl c111⟩
  ·rw [if_neg c111] at H
   replace H := Option.bind_eq_some_iff.mp H
   obtain ⟨t842, hA, H⟩ := H
   cases t842 with
   | false => exact (laws_FnLog.j0_no H).elim
   | true => exact ⟨H, .inr ⟨Bool.eq_false_iff.mpr c111, hA⟩⟩
 clear H
 have HJ1 := Ak HJ.1
 have HJ2 := Ak HJ.2
 clear HJ
 simp only [sZ, sS, List.cons_append, List.nil_append] at M
 have hz := M.look 7
 go_upto_region 12 with ((with_reducible refine Mem.gateW ?_); first | (refine Mem.Mem.ldE 1 31 (.tmp 11) hu31 (M := M) (h := fun M => ?_)) | (refine Mem.Mem.callE (some 83) Try.func21 #[.agg #[.slice Ag t791.length cg, .slice Ah t794.length ch], .int .i64 t761, .int .i64 t762] (M := M) (h := fun M => (impl_LogOpen.calls k _ _ t791 _ _ t794 t761 t762 t805 t806 t807 t808 t809 t812 _ (M.C 2 rfl) (M.cap 2 rfl) (M.C 3 rfl) (M.cap 3 rfl) A11.out).mono ?_); rintro e w53 ⟨v810, rfl, ho0, hb⟩; refine ⟨_, rfl, ?_⟩; have M := M.V hb (Mem.frS ho0); clear hb ho0 hz; obtain ⟨Ai, ci, ei⟩ := M.row_form 0 rfl; subst ei) | (refine Mem.Mem.boxE 14 32 [.int .i64 0, .int .i64 0, .int .i64 0, .int .i64 0] (M := M) (h := fun gb813 w54 M => ?_)) | (refine Mem.Mem.stoE 0 32 (.tmp 14) (.tmp 84) [.int .i64 t805, .int .i64 t806, .int .i64 t807, .int .i64 t808] (M := M) (h := fun w55 M => ?_)))
 have M := M.drew
 refine start_ (n := 10) (S := fun w' => (w'.cell? ⟨gb771, 0, none⟩ = some (.slice Aa t755.length ca) ∧ w'.cell? ⟨gb771, 1, none⟩ = some (.slice Ab t758.length cb)) ∧ w'.cell? ⟨gb772, 0, none⟩ = some (.int .i64 t761) ∧ w'.cell? ⟨gb772, 1, none⟩ = some (.int .i64 t762) ∧ w'.cell? ⟨gb772, 2, none⟩ = some (.int .i64 t763) ∧ w'.cell? ⟨gb772, 3, none⟩ = some (.int .i64 t764)) (ds := []) #[false, false, false, false, false, false, false, false, false, false] (by kernel_rfl) rfl rfl ⟨M.two 10, M.four 9⟩ (fun hHeld => ?_); refine with_tabW laws_FnLog.tab12 laws_FnLog.bits12 (fun HT_ HW_ => ?_)
 generalize w55.drew = w56 at M hHeld ⊢
 refine puT 1 88 HT_ (h := puT 5 92 HT_ (h := ?_))
 refine taT 2 89 HT_ HW_ hHeld (h := ?_)
 refine taT 4 91 HT_ HW_ hHeld (h := ?_)
 refine Mem.Mem.joinM (σ := Value × Value × Value × Nat) M 1 #[true, true, true, true, true, true, true, true, true, false] (fun s_ => [(87, s_.1), (90, s_.2.1), (93, s_.2.2.1), (17, .pointer (some ⟨s_.2.2.2, 0, none⟩)), (94, .agg #[s_.2.1, s_.2.2.1])]) (fun s_ => [Mem.blk s_.2.2.2 31 [.slice none 0 0, .slice none 0 0], Mem.row k96 96 s_.2.2.1 t820, Mem.ownN (Kd.int .u8) 5 s_.2.1 t755]) ?_ ?_
 rotate_left
 ·intro hCont
  refine Mem.twT 0 8 (some 87) (some 17) HT_ (h1 := fun K hK => ?_) (h2 := fun K hK => ?_)
  ·refine Mem.Mem.litS 87 (Kd.int .u8) 5 [] [] (hd := rfl) (hp := Mem.Els.nil) (M := M) (h := fun v815 w61 M => Mem.nx (some 87) hK ⟨M.two 11, M.four 10⟩ (fun hHeld => ?_)); clear hK K
   refine Mem.twT 3 8 (some 90) (some 17) HT_ (h1 := fun K hK => ?_) (h2 := fun K hK => ?_)
   ·refine Mem.Mem.appS 0 12 (Kd.int .u8) (.tmp 87) (.tmp 89) 22 5 (.int .u8 0) 1 Try.underlying22 info5 (ho := rfl) (hl := by have := LMc12.out; simp; omega) (M := M) (h := fun v818 w62 M => Mem.nx (some 90) hK ⟨M.two 11, M.four 10⟩ (fun hHeld => ?_)); clear hK K
    rw [List.nil_append] at M
    obtain ⟨Ax, cx, ex⟩ := M.formN 0 rfl
    subst ex
    refine Mem.twT 6 8 (some 93) (some 17) HT_ (h1 := fun K hK => ?_) (h2 := fun K hK => ?_)
    ·refine Mem.Mem.callS Try.func28 #[.agg #[.int .i64 t761, .int .i64 t762, .int .i64 t763, .int .i64 t764], .slice Ac t765.length cc] (M := M) (h := fun M => (impl_LogWrites.calls k t761 t762 t763 t764 _ _ t765 t820 _ (M.C 14 rfl) (M.cap 14 rfl) A13.out).mono ?_)
     rintro e w63 ⟨v821, rfl, ho0, hb⟩
     have M := M.V hb (Mem.frS ho0)
     clear ho0 hb
     obtain ⟨Aw, cw, ew⟩ := M.row_form 0 rfl
     subst ew
     refine ⟨_, rfl, Mem.nx (some 93) hK ⟨M.two 12, M.four 11⟩ (fun hHeld => ?_)⟩; clear hK K
     refine puT 7 94 HT_ (h := ?_)
     refine onT 8 (some 17) HT_ (h := fun K hK => ?_)
     refine Mem.Mem.boxS 17 31 [.slice none 0 0, .slice none 0 0] (hd := rfl) (M := M) (h := fun gb823 w64 M => Mem.nx (some 17) hK ⟨M.two 13, M.four 12⟩ (fun hHeld => ?_)); clear hK K
     exact norm_ (by simp only [putAll, Act.put, sT, sZ, sS]) (hCont (v815, .slice Ax t755.length cx, .slice Aw t820.length cw, gb823) _ hHeld M)
    ·refine Mem.Mem.boxS 17 31 [.slice none 0 0, .slice none 0 0] (hd := rfl) (M := M) (h := fun gb823 w64 M => Mem.nx (some 17) hK ⟨M.two 12, M.four 11⟩ (fun hHeld => ?_)); clear hK K
     refine onT 6 (some 93) HT_ (h := fun K hK => ?_)
     refine Mem.Mem.callS Try.func28 #[.agg #[.int .i64 t761, .int .i64 t762, .int .i64 t763, .int .i64 t764], .slice Ac t765.length cc] (M := M) (h := fun M => (impl_LogWrites.calls k t761 t762 t763 t764 _ _ t765 t820 _ (M.C 15 rfl) (M.cap 15 rfl) A13.out).mono ?_)
     rintro e w63 ⟨v821, rfl, ho0, hb⟩
     have M := M.V hb (Mem.frS ho0)
     clear ho0 hb
     obtain ⟨Aw, cw, ew⟩ := M.row_form 0 rfl
     subst ew
     refine ⟨_, rfl, Mem.nx (some 93) hK ⟨M.two 13, M.four 12⟩ (fun hHeld => ?_)⟩; clear hK K
     refine puT 7 94 HT_ (h := ?_)
     exact norm_ (by simp only [putAll, Act.put, sT, sZ, sS]) (hCont (v815, .slice Ax t755.length cx, .slice Aw t820.length cw, gb823) _ hHeld (M.pick [1, 0, 2, 3, 4, 5, 6, 7, 8, 9, 10, 11, 12, 13, 14, 15, 16, 17] (by decide) rfl))
   ·refine Mem.Mem.boxS 17 31 [.slice none 0 0, .slice none 0 0] (hd := rfl) (M := M) (h := fun gb823 w64 M => Mem.nx (some 17) hK ⟨M.two 12, M.four 11⟩ (fun hHeld => ?_)); clear hK K
    refine onT 3 (some 90) HT_ (h := fun K hK => ?_)
    refine Mem.Mem.appS 1 13 (Kd.int .u8) (.tmp 87) (.tmp 89) 22 5 (.int .u8 0) 1 Try.underlying22 info5 (ho := rfl) (hl := by have := LMc12.out; simp; omega) (M := M) (h := fun v818 w62 M => Mem.nx (some 90) hK ⟨M.two 12, M.four 11⟩ (fun hHeld => ?_)); clear hK K
    rw [List.nil_append] at M
    obtain ⟨Ax, cx, ex⟩ := M.formN 1 rfl
    subst ex
    refine onT 6 (some 93) HT_ (h := fun K hK => ?_)
    refine Mem.Mem.callS Try.func28 #[.agg #[.int .i64 t761, .int .i64 t762, .int .i64 t763, .int .i64 t764], .slice Ac t765.length cc] (M := M) (h := fun M => (impl_LogWrites.calls k t761 t762 t763 t764 _ _ t765 t820 _ (M.C 15 rfl) (M.cap 15 rfl) A13.out).mono ?_)
    rintro e w63 ⟨v821, rfl, ho0, hb⟩
    have M := M.V hb (Mem.frS ho0)
    clear ho0 hb
    obtain ⟨Aw, cw, ew⟩ := M.row_form 0 rfl
    subst ew
    refine ⟨_, rfl, Mem.nx (some 93) hK ⟨M.two 13, M.four 12⟩ (fun hHeld => ?_)⟩; clear hK K
    refine puT 7 94 HT_ (h := ?_)
    exact norm_ (by simp only [putAll, Act.put, sT, sZ, sS]) (hCont (v815, .slice Ax t755.length cx, .slice Aw t820.length cw, gb823) _ hHeld (M.pick [1, 0, 2, 3, 4, 5, 6, 7, 8, 9, 10, 11, 12, 13, 14, 15, 16, 17] (by decide) rfl))
  ·refine Mem.Mem.boxS 17 31 [.slice none 0 0, .slice none 0 0] (hd := rfl) (M := M) (h := fun gb823 w64 M => Mem.nx (some 17) hK ⟨M.two 11, M.four 10⟩ (fun hHeld => ?_)); clear hK K
   refine onT 0 (some 87) HT_ (h := fun K hK => ?_)
   refine Mem.Mem.litS 87 (Kd.int .u8) 5 [] [] (hd := rfl) (hp := Mem.Els.nil) (M := M) (h := fun v815 w61 M => Mem.nx (some 87) hK ⟨M.two 12, M.four 11⟩ (fun hHeld => ?_)); clear hK K
   refine onT 3 (some 90) HT_ (h := fun K hK => ?_)
   refine Mem.Mem.appS 0 13 (Kd.int .u8) (.tmp 87) (.tmp 89) 22 5 (.int .u8 0) 1 Try.underlying22 info5 (ho := rfl) (hl := by have := LMc12.out; simp; omega) (M := M) (h := fun v818 w62 M => Mem.nx (some 90) hK ⟨M.two 12, M.four 11⟩ (fun hHeld => ?_)); clear hK K
   rw [List.nil_append] at M
   obtain ⟨Ax, cx, ex⟩ := M.formN 0 rfl
   subst ex
   refine onT 6 (some 93) HT_ (h := fun K hK => ?_)
   refine Mem.Mem.callS Try.func28 #[.agg #[.int .i64 t761, .int .i64 t762, .int .i64 t763, .int .i64 t764], .slice Ac t765.length cc] (M := M) (h := fun M => (impl_LogWrites.calls k t761 t762 t763 t764 _ _ t765 t820 _ (M.C 15 rfl) (M.cap 15 rfl) A13.out).mono ?_)
   rintro e w63 ⟨v821, rfl, ho0, hb⟩
   have M := M.V hb (Mem.frS ho0)
   clear ho0 hb
   obtain ⟨Aw, cw, ew⟩ := M.row_form 0 rfl
   subst ew
   refine ⟨_, rfl, Mem.nx (some 93) hK ⟨M.two 13, M.four 12⟩ (fun hHeld => ?_)⟩; clear hK K
   refine puT 7 94 HT_ (h := ?_)
   exact norm_ (by simp only [putAll, Act.put, sT, sZ, sS]) (hCont (v815, .slice Ax t755.length cx, .slice Aw t820.length cw, gb823) _ hHeld (M.pick [2, 0, 1, 3, 4, 5, 6, 7, 8, 9, 10, 11, 12, 13, 14, 15, 16, 17] (by decide) rfl))
 clear M hHeld
 rintro ⟨v815, v818, v821, gb823⟩ w65 hHeld M
 obtain ⟨Ax, cx, ex⟩ := M.formN 2 rfl
 subst ex
 obtain ⟨Aw, cw, ew⟩ := M.row_form 1 rfl
 subst ew
 simp only [sZ, sS, List.cons_append, List.nil_append] at M
 refine norm_ (a' := ?_) ?_ ?_
 rotate_left
 ·simp only [putAll, Act.put, sT, sZ, sS]
  rfl
 refine onT 9 none HT_ (h := fun K hK => ?_)
 refine Mem.Mem.stoR 0 31 (.tmp 17) (.tmp 94) [.slice Ax t755.length cx, .slice Aw t820.length cw] (M := M) (h := fun w66 M => hK.out _ _ ⟨M.two 13, M.four 12⟩ (fun hHeld => ?_)); clear hK K hHeld
 refine done_ (done_of HT_.out (by kernel_rfl)) ?_
 go_upto_region 14 with ((with_reducible refine Mem.gateW ?_); first | (refine Mem.Mem.ldE 0 31 (.tmp 17) hu31 (M := M) (h := fun M => ?_)) | (refine Mem.Mem.callE (some 97) Try.func29 #[.agg #[.slice Ax t755.length cx, .slice Aw t820.length cw], .slice Ad t768.length cd] (M := M) (h := fun M => (impl_Crash.calls k _ _ t755 _ _ t820 _ _ t768 t824 t827 _ (M.CN 2 rfl) (M.capN 2 rfl) (M.C 1 rfl) (M.cap 1 rfl) (M.C 17 rfl) (M.cap 17 rfl) A14.out).mono ?_); rintro e w67 ⟨v825, v828, rfl, ho0, ho1, hb⟩; refine ⟨_, rfl, ?_⟩; have M := M.V2 hb (Mem.frR ho0) (Mem.frS ho1); clear hb ho0 ho1; obtain ⟨Aj, cj, ej⟩ := M.row_form 0 rfl; subst ej; obtain ⟨Ak_, ck, ek⟩ := M.row_form 1 rfl; subst ek) | (refine Mem.Mem.boxE 18 31 [.slice none 0 0, .slice none 0 0] (M := M) (h := fun gb830 w68 M => ?_)) | (refine Mem.Mem.stoE 0 31 (.tmp 18) (.tmp 97) [.slice Aj t824.length cj, .slice Ak_ t827.length ck] (M := M) (h := fun w69 M => ?_)))
 simp only [sZ, sS, List.cons_append, List.nil_append] at M
 have hz := M.look 15
 go_upto_region 15 with ((with_reducible refine Mem.gateW ?_); first | (refine Mem.Mem.ldE 0 31 (.tmp 18) hu31 (M := M) (h := fun M => ?_)) | (refine Mem.Mem.callE (some 104) Try.func21 #[.agg #[.slice Aj t824.length cj, .slice Ak_ t827.length ck], .int .i64 t761, .int .i64 t762] (M := M) (h := fun M => (impl_LogOpen.calls k _ _ t824 _ _ t827 t761 t762 t831 t832 t833 t834 t835 true _ (M.C 1 rfl) (M.cap 1 rfl) (M.C 2 rfl) (M.cap 2 rfl) A15.out).mono ?_); rintro e w70 ⟨v836, rfl, ho0, hb⟩; refine ⟨_, rfl, ?_⟩; have M := M.V hb (Mem.frS ho0); clear hb ho0 hz; obtain ⟨Al, cl, el⟩ := M.row_form 0 rfl; subst el) | (refine Mem.Mem.boxE 19 32 [.int .i64 0, .int .i64 0, .int .i64 0, .int .i64 0] (M := M) (h := fun gb839 w71 M => ?_)) | (refine Mem.Mem.stoE 0 32 (.tmp 19) (.tmp 105) [.int .i64 t831, .int .i64 t832, .int .i64 t833, .int .i64 t834] (M := M) (h := fun w72 M => ?_)))
 go_cut [127] (fun v127 wc => v127 = .bool false ∧ ∃ n, wc = w72.drewN n)
 case first =>
  rcases HJ2.out with rfl | ⟨rfl, hA⟩
  ·clear HJ2
   go_wp2_with fail
   refine Mem.Mem.goC (M := M) (h := fun N => (laws_sameRecords.calls k _ _ t809 _ _ y788 true _ (N.C 9 rfl) (N.cap 9 rfl) (N.CN 14 rfl) (N.capN 14 rfl) A108.out).mono ?_)
   rintro e w' ⟨rfl, ⟨_, rfl⟩⟩
   go_wp2_with fail
   refine Mem.Mem.goC (M := M) (h := fun N => (laws_sameRecords.calls k _ _ t835 _ _ t777 true _ (N.C 1 rfl) (N.cap 1 rfl) (N.C 16 rfl) (N.cap 16 rfl) A110.out).mono ?_)
   rintro e w' ⟨rfl, ⟨_, rfl⟩⟩
   go_wp2_with fail
   go_meet
   exact ⟨rfl, _, rfl⟩
  ·replace hA := Ak hA
   clear HJ2
   go_wp2_with fail
   refine Mem.Mem.goC (M := M) (h := fun N => (laws_sameRecords.calls k _ _ t809 _ _ y788 true _ (N.C 9 rfl) (N.cap 9 rfl) (N.CN 14 rfl) (N.capN 14 rfl) A108.out).mono ?_)
   rintro e w' ⟨rfl, ⟨_, rfl⟩⟩
   go_wp2_with fail
   refine Mem.Mem.goC (M := M) (h := fun N => (laws_sameRecords.calls k _ _ t835 _ _ t777 false _ (N.C 1 rfl) (N.cap 1 rfl) (N.C 16 rfl) (N.cap 16 rfl) A110.out).mono ?_)
   rintro e w' ⟨rfl, ⟨_, rfl⟩⟩
   go_wp2_with fail
   refine Mem.Mem.goC (M := M) (h := fun N => (laws_sameRecords.calls k _ _ t835 _ _ y788 true _ (N.C 1 rfl) (N.cap 1 rfl) (N.CN 14 rfl) (N.capN 14 rfl) hA.out).mono ?_)
   rintro e w' ⟨rfl, ⟨_, rfl⟩⟩
   go_wp2_with fail
   go_meet
   exact ⟨rfl, _, rfl⟩
 case rest =>
  obtain ⟨rfl, n_, rfl⟩ := hcut
  have M := M.drewN n_
  generalize w72.drewN n_ = w73 at M ⊢
  have H := HJ1.out
  clear HJ1 HJ2 A2 A4 A5 A8 A11 A13 A14 A15 A108 A110
  cases k with
  | zero => exact absurd H (by simp [laws_FnLog.j0])
  | succ k =>
   simp only [laws_FnLog.j0, Bool.false_eq_true, if_false] at H
   generalize hy77 : ([7, 7] : List Int) = y77 at H
   have Ny77 := Ak hy77; clear hy77
   replace H := Option.bind_eq_some_iff.mp H
   obtain ⟨⟨t846, t849, t852, t853, t854, t855, t856⟩, A160, H⟩ := H
   have A16 := Ak A160; clear A160; (try dsimp only at H)
   have HC := Ak H
   clear H
   go_upto_region 18 with ((with_reducible refine Mem.gateW ?_); first | (refine Mem.Mem.ldE 2 31 (.tmp 18) hu31 (M := M) (h := fun M => ?_)) | (refine Mem.Mem.ldE 0 32 (.tmp 19) hu32 (M := M) (h := fun M => ?_)) | (refine Mem.Mem.litE 131 (Kd.int .u8) 5 [7, 7] [.int .u8 7, .int .u8 7] (hp := Mem.Els.ints) (M := M) (h := fun v131 w74 M => ?_); rw [Ny77.out] at M; obtain ⟨As, cs, es⟩ := M.formN 0 rfl; subst es) | (refine Mem.Mem.callE (some 132) Try.func13 #[.agg #[.slice Aj t824.length cj, .slice Ak_ t827.length ck], .agg #[.int .i64 t831, .int .i64 t832, .int .i64 t833, .int .i64 t834], .slice As y77.length cs] (M := M) (h := fun M => (impl_LogAdd.calls k _ _ t824 _ _ t827 t831 t832 t833 t834 _ _ y77 t846 t849 t852 t853 t854 t855 t856 _ (M.C 4 rfl) (M.cap 4 rfl) (M.C 5 rfl) (M.cap 5 rfl) (M.CN 0 rfl) (M.capN 0 rfl) A16.out).mono ?_); rintro e w75 ⟨v847, v850, rfl, ho0, ho1, hb⟩; refine ⟨_, rfl, ?_⟩; have M := M.V2 hb ho0 ho1; clear hb ho0 ho1; obtain ⟨Au, cu, eu⟩ := M.row_form 0 rfl; subst eu; obtain ⟨Av, cv, ev⟩ := M.row_form 1 rfl; subst ev) | (refine Mem.Mem.boxE 22 31 [.slice none 0 0, .slice none 0 0] (M := M) (h := fun gb22 w76 M => ?_)) | (refine Mem.Mem.boxE 23 32 [.int .i64 0, .int .i64 0, .int .i64 0, .int .i64 0] (M := M) (h := fun gb23 w77 M => ?_)) | (refine Mem.Mem.stoE 1 31 (.tmp 22) (.tmp 133) [.slice Au t846.length cu, .slice Av t849.length cv] (M := M) (h := fun w78 M => ?_)) | (refine Mem.Mem.stoE 0 32 (.tmp 23) (.tmp 134) [.int .i64 t852, .int .i64 t853, .int .i64 t854, .int .i64 t855] (M := M) (h := fun w79 M => ?_)))
   have H := HC.out
   clear HC
   by_cases c17 : t856 = true
   case neg =>
    replace c17 := Bool.eq_false_iff.mpr c17
    subst c17
    rw [if_neg (show ¬ (false = true) by decide)] at H
    replace H := Option.bind_eq_some_iff.mp H
    obtain ⟨t881, A180, H⟩ := H
    have A18 := Ak A180; clear A180
    simp only [Option.some.injEq, beq_iff_eq] at H
    subst H
    go_wp2_with ((with_reducible refine Mem.gateW ?_); first | (refine Mem.Mem.ldE 5 32 (.tmp 19) hu32 (M := M) (h := fun M => ?_)) | (refine Mem.Mem.callE (some 139) Try.func27 #[.agg #[.int .i64 t831, .int .i64 t832, .int .i64 t833, .int .i64 t834]] (M := M) (h := fun M => (impl_LogRoom.calls _ _ _ _ 0 _ A18.out).mono ?_); rintro e w80 ⟨rfl, hb⟩; refine ⟨_, rfl, ?_⟩; have M := M.call hb; clear hb))
    go_ret
    exact ⟨zw, (Mem.Mem.dr (M := M)).below⟩
   subst c17
   rw [if_pos rfl] at H
   replace H := Option.bind_eq_some_iff.mp H
   obtain ⟨⟨t859, t860, t861, t862, t868, t869⟩, A180, H⟩ := H
   have A18 := Ak A180; clear A180; (try dsimp only at H)
   rw [Option.bind_some] at H
   by_cases c18 : ([] : List (List Int)).length + t835.length < 5864062014805
   case neg =>
    rw [if_neg c18] at H
    exact absurd H (by simp)
   rw [if_pos c18, Option.bind_some] at H
   by_cases c19 : (([] : List (List Int)) ++ t835).length < 5864062014805
   case neg =>
    rw [if_neg c19] at H
    exact absurd H (by simp)
   rw [if_pos c19, List.nil_append] at H
   have LMc19 := Ak (show t835.length < 5864062014805 from c19); clear c18 c19
   generalize hy880 : t835 ++ [y77] = y880 at H
   have Ny880 := Ak hy880; clear hy880
   replace H := Option.bind_eq_some_iff.mp H
   obtain ⟨t880, A190, H⟩ := H
   obtain rfl := Option.some.inj H
   have A19 := Ak A190; clear A190 H
   simp only [sZ, sS, List.cons_append, List.nil_append] at M
   have hz := M.look 22
   go_upto_region 21 with ((with_reducible refine Mem.gateW ?_); first | (refine Mem.Mem.ldE 1 31 (.tmp 22) hu31 (M := M) (h := fun M => ?_)) | (refine Mem.Mem.callE (some 147) Try.func21 #[.agg #[.slice Au t846.length cu, .slice Av t849.length cv], .int .i64 t761, .int .i64 t762] (M := M) (h := fun M => (impl_LogOpen.calls k _ _ t846 _ _ t849 t761 t762 t859 t860 t861 t862 t868 t869 _ (M.C 2 rfl) (M.cap 2 rfl) (M.C 3 rfl) (M.cap 3 rfl) A18.out).mono ?_); rintro e w80 ⟨v869, rfl, ho0, hb⟩; refine ⟨_, rfl, ?_⟩; have M := M.V hb (Mem.frS ho0); clear hb ho0 hz; obtain ⟨Ay, cy, ey⟩ := M.row_form 0 rfl; subst ey) | (refine Mem.Mem.boxE 25 32 [.int .i64 0, .int .i64 0, .int .i64 0, .int .i64 0] (M := M) (h := fun gb25 w81 M => ?_)) | (refine Mem.Mem.stoE 0 32 (.tmp 25) (.tmp 148) [.int .i64 t859, .int .i64 t860, .int .i64 t861, .int .i64 t862] (M := M) (h := fun w82 M => ?_)))
   go_wp2_with ((with_reducible refine Mem.gateW ?_); first | (refine Mem.Mem.litE 152 (Kd.slice 5 (Kd.int .u8)) 22 [] [] (hp := Mem.Els.nil) (M := M) (h := fun v152 w83 M => ?_)) | (refine Mem.Mem.appE 0 9 (Kd.slice 5 (Kd.int .u8)) (.tmp 152) (.tmp 153) 44 22 (.slice none 0 0) 24 Try.underlying44 info22 (hl := by have := LMc19.out; simp; omega) (M := M) (h := fun v154 w84 M => ?_); rw [List.nil_append] at M) | (refine Mem.Mem.litE 155 (Kd.int .u8) 5 [7, 7] [.int .u8 7, .int .u8 7] (hp := Mem.Els.ints) (M := M) (h := fun v155 w85 M => ?_); rw [Ny77.out] at M; obtain ⟨At, ct, et⟩ := M.formN 0 rfl; subst et; have M := M.share 0 rfl) | (refine Mem.Mem.oneE 1 (Kd.slice 5 (Kd.int .u8)) (.tmp 154) (.tmp 156) 44 22 (.slice none 0 0) 24 Try.underlying44 info22 y77 [.slice At y77.length ct] (hl := by have := LMc19.out; omega) (hp := Mem.El.slice 0) (M := M) (h := fun v157 w86 M => ?_); rw [Ny880.out] at M; obtain ⟨Aw_, cw_, ew_⟩ := M.formN 1 rfl; subst ew_) | (refine Mem.Mem.callE (some 158) Try.func30 #[.slice Ay t868.length cy, .slice Aw_ y880.length cw_] (M := M) (h := fun M => (laws_sameRecords.calls k _ _ t868 _ _ y880 true _ (M.C 3 rfl) (M.cap 3 rfl) (M.CN 1 rfl) (M.capN 1 rfl) A19.out).mono ?_); rintro e w' ⟨rfl, ⟨nd, rfl⟩⟩; refine ⟨_, rfl, ?_⟩))
   go_ret
   exact ⟨zw, (Mem.Mem.dr (M := M)).below⟩

/-- THE ONE PURE STATEMENT of laws_FnLog: yours. -/
def laws_FnLog.Pure : Prop := ∀ (l0 : List Int), l0.length ≤ maxLen → l0.length * 1 ≤ 140737488351232 → (∀ x ∈ l0, (Lit.int .u8 x).wf = true) → ∃ k, laws_FnLog.f k l0 = some true
theorem laws_FnLog.walk (P : laws_FnLog.Pure) (a0 : Option Addr) (len0 cap0 : Nat) (z0 : List Int) (w : World) (w0 : (a0 = none ∧ len0 = 0 ∧ cap0 = 0 ∧ z0 = []) ∨ ∃ x, a0 = some x ∧ len0 ≤ cap0 ∧ cap0 ≤ maxLen ∧ z0.length = cap0 ∧ (∀ i, i < z0.length → w.cell? (x.add i) = some (.int .u8 (z0.getD i 0))) ∧ ∀ n ∈ z0, (Lit.int .u8 n).wf = true) (y0 : len0 * 1 ≤ 140737488351232) :
  Calls Try.prog 5 #[.slice a0 len0 cap0] w fun e w' => e = .returned (.bool true) ∧ Below w.heap.size w w' := by
 obtain ⟨l0, rfl, hr0, hm0, hw0, hc0⟩ := ReadsInt.ofRowC w0
 obtain ⟨k, h⟩ := P l0 hm0 y0 hw0
 refine (laws_FnLog.calls k _ _ l0 true w (Kd.C_of_reads (d := (0 : Int)) (h1 := fun _ => rfl) hr0) hc0 h rfl).mono ?_
 rintro e w' ⟨rfl, hd⟩
 exact ⟨rfl, hd⟩

end Go.Proofs.Ytgmnphckgicadaa.PFnLog
