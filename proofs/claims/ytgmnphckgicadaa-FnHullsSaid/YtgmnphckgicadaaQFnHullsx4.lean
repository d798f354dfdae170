/- The functions that the law FnHulls reaches, each with what it computes and its contract. -/
import Derived.Test.YtgmnphckgicadaaQFnHullsx0
namespace Go.Proofs.Ytgmnphckgicadaa.PFnHulls
open Go.RowKit Go.Proofs.YtgmnphckgicadaaW.PrintWords Go.Proofs.YtgmnphckgicadaaW.PrintLast Go.Proofs.YtgmnphckgicadaaW.PrintMore
attribute [local go_sem] max2_int min2_int max_two min_two max_three min_three max_four min_four
set_option linter.unusedVariables false
set_option linter.unusedSimpArgs false

def spec_l3Area.f (a0_0 : Int) (a0_1 : Int) (a1_0 : Int) (a1_1 : Int) (a2_0 : Int) (a2_1 : Int) : Option (Int) := some (wrap64 ((wrap64 ((wrap64 (a1_0 - a0_0)) * (wrap64 (a2_1 - a0_1)))) - (wrap64 ((wrap64 (a1_1 - a0_1)) * (wrap64 (a2_0 - a0_0))))))
set_option maxHeartbeats 8000000 in
set_option maxRecDepth 100000 in
theorem spec_l3Area.calls (a0_0 : Int) (a0_1 : Int) (a1_0 : Int) (a1_1 : Int) (a2_0 : Int) (a2_1 : Int) (r : Int) (w : World) (h : spec_l3Area.f a0_0 a0_1 a1_0 a1_1 a2_0 a2_1 = some r) :
  Calls Try.prog 117 #[.agg #[.int .i64 a0_0, .int .i64 a0_1], .agg #[.int .i64 a1_0, .int .i64 a1_1], .agg #[.int .i64 a2_0, .int .i64 a2_1]] w fun e w' => e = .returned (.int .i64 r) ∧ Below w.heap.size w w' := by
 have hu67 := Try.underlying67
 have HB := Ak (Below.refl w.heap.size w)
 have H : (some (wrap64 ((wrap64 ((wrap64 (a1_0 - a0_0)) * (wrap64 (a2_1 - a0_1)))) - (wrap64 ((wrap64 (a1_1 - a0_1)) * (wrap64 (a2_0 - a0_0))))))) = some r := h
 clear h
 obtain rfl := Option.some.inj H
 go_enter Try.func117, Try.ntmps117
 go_wp2_with (first | ((with_reducible refine gate_dst (N := 3) rfl ?_); refine box_event ?hg (N := 3) ?hd (cs := #[.int .i64 a0_0, .int .i64 a0_1]) (t := 67) ?hr ?_; (case hd => rfl); (case hg => rfl); (case hr => first | (go_simp; done) | (go_simp; rfl)); intro gb124 hg w4 hbox hb; have BK124 := Ak (hbox); have GW124 := Ak ((zb hg (bw HB.out))); have GE124 := Ak ((zb hg (bw HB.out))); replace HB := Ak (below_step (bw HB.out) hb); clear hb hbox hg) | ((with_reducible refine gate_dst (N := 4) rfl ?_); refine box_event ?hg (N := 4) ?hd (cs := #[.int .i64 a1_0, .int .i64 a1_1]) (t := 67) ?hr ?_; (case hd => rfl); (case hg => rfl); (case hr => first | (go_simp; done) | (go_simp; rfl)); intro gb125 hg w5 hbox hb; have BK125 := Ak (hbox); have GW125 := Ak ((zb hg (bw1 HB.out GE124.out))); have GE125 := Ak ((zb hg (bw1 HB.out GE124.out))); replace HB := Ak (below_step (bw1 HB.out GE124.out) hb); have NB124_125 := Ak ((zl hg (bq BK124.out))); have NB125_124 := Ak ((zm hg (bq BK124.out))); replace BK124 := Ak (blk_below (bq BK124.out) hb); clear hb hbox hg) | ((with_reducible refine gate_dst (N := 5) rfl ?_); refine box_event ?hg (N := 5) ?hd (cs := #[.int .i64 a2_0, .int .i64 a2_1]) (t := 67) ?hr ?_; (case hd => rfl); (case hg => rfl); (case hr => first | (go_simp; done) | (go_simp; rfl)); intro gb126 hg w6 hbox hb; have BK126 := Ak (hbox); have GW126 := Ak ((zb hg (bw2 HB.out GE124.out GE125.out))); have GE126 := Ak ((zb hg (bw2 HB.out GE124.out GE125.out))); replace HB := Ak (below_step (bw2 HB.out GE124.out GE125.out) hb); have NB124_126 := Ak ((zl hg (bq BK124.out))); have NB126_124 := Ak ((zm hg (bq BK124.out))); replace BK124 := Ak (blk_below (bq BK124.out) hb); have NB125_126 := Ak ((zl hg (bq BK125.out))); have NB126_125 := Ak ((zm hg (bq BK125.out))); replace BK125 := Ak (blk_below (bq BK125.out) hb); clear hb hbox hg; have hnb7 := NB125_124.out; have hnc7 := NB124_125.out; have hnb8 := NB125_126.out; have hnc8 := NB126_125.out; have hcz9_0 := zk0 BK125.out; have hcz9_1 := zk1 BK125.out; have hfz9_0 := blk_frozen BK125.out 0; have hfz9_1 := blk_frozen BK125.out 1; have hnb10 := NB124_126.out; have hnc10 := NB126_124.out; have hcz11_0 := zk0 BK124.out; have hcz11_1 := zk1 BK124.out; have hfz11_0 := blk_frozen BK124.out 0; have hfz11_1 := blk_frozen BK124.out 1; have hcz12_0 := zk0 BK126.out; have hcz12_1 := zk1 BK126.out; have hfz12_0 := blk_frozen BK126.out 0; have hfz12_1 := blk_frozen BK126.out 1))
 go_ret
 exact ⟨zw, bw3 HB.out GE124.out GE125.out GE126.out⟩

end Go.Proofs.Ytgmnphckgicadaa.PFnHulls
