/- The functions that the law FnHulls reaches, each with what it computes and its contract. -/
import Derived.Test.YtgmnphckgicadaaProg
import Derived.Below
import Derived.Deep.Draws
import Derived.Deep.AppendLies
import Derived.Maps.AppendAt
import Derived.OwnWalk
import Derived.Laws.BytesArg
import Derived.Laws.MakeOwn
import Derived.Laws.OwnMore
import Derived.Deep.OwnRows
import Derived.Tactics
import Derived.Lib.ConvBytes
import Derived.Laws.Slices
import Derived.WalkKit
import Derived.KernelRfl
import Derived.RowKit3
import Derived.Deep.LoopGhost
import Derived.Deep.QuietTactic
import Derived.BigQuiet
import Derived.WideLaws
import Derived.Deep.DeepCutAuto
import Derived.Deep.CutBlock
import Derived.Deep.RegionHeld3
import Derived.Laws.Rows
import Derived.Lib.AppendStr
import Derived.ArgAppend
import Derived.Laws.IdiomCopy
import Derived.OrdersHeld
import Derived.Laws.BitsLemmas
import Derived.RowKit
import Derived.Test.YtgmnphckgicadaaWWords
import Derived.Test.YtgmnphckgicadaaWLast
import Derived.Test.YtgmnphckgicadaaWTab
import Derived.Test.YtgmnphckgicadaaWQPut
import Derived.Test.YtgmnphckgicadaaWApart
import Derived.Test.YtgmnphckgicadaaWArr
import Derived.Test.YtgmnphckgicadaaWZeros
import Derived.Test.YtgmnphckgicadaaWFoot
import Derived.Test.YtgmnphckgicadaaWKept
import Derived.Test.YtgmnphckgicadaaWShare
import Derived.Test.YtgmnphckgicadaaWN
import Derived.Test.YtgmnphckgicadaaWAt
import Derived.Test.YtgmnphckgicadaaWEqStruct
import Derived.Test.YtgmnphckgicadaaWRepsOne
import Derived.Test.YtgmnphckgicadaaWGuard
import Derived.Test.YtgmnphckgicadaaWNEv
import Derived.Test.YtgmnphckgicadaaWMore
namespace Go.Proofs.Ytgmnphckgicadaa.PFnHulls
open Go.RowKit Go.Proofs.YtgmnphckgicadaaW.PrintWords Go.Proofs.YtgmnphckgicadaaW.PrintLast Go.Proofs.YtgmnphckgicadaaW.PrintMore
attribute [local go_sem] max2_int min2_int max_two min_two max_three min_three max_four min_four
set_option linter.unusedVariables false
set_option linter.unusedSimpArgs false
/-! Short names for steps that come again and again. -/
theorem bq {w W : World} {g : Nat} {o : Obj} (h : w.heap[g]? = some o) (s : w.heap[g]? = some o → W.heap[g]? = some o := by intro h_; (with_reducible repeat (first | refine blk_drewN ?_ _ | refine blk_drew ?_ | refine blk_alloc ?_ _)); exact h_) : W.heap[g]? = some o := s h
theorem bw {B : Nat} {w W W' : World} (h : Below B w W) (s : Below B w W → Below B w W' := by intro h_; repeat (first | (with_reducible first | exact h_ | apply below_alloc | apply pw_below_drewN | apply below_drew1) | exact h_)) : Below B w W' := s h
theorem rq {α : Type} {d : Kd α} {e : Nat} {w W : World} {base : Nat} {ok : Nat → Prop} {v : Value} {xs : List α} (h : Kd.R d e w base ok v xs) (s : Kd.R d e w base ok v xs → Kd.R d e W base ok v xs := by intro h_; (with_reducible repeat (first | apply Kd.R_alloc | apply Kd.R_drewN | apply Kd.R_drew)); exact h_) : Kd.R d e W base ok v xs := s h
theorem sq {α : Type} {d : Kd α} {e : Nat} {w W : World} {base : Nat} {ok : Nat → Prop} {v : Value} {xs : List α} (h : Kd.S d e w base ok v xs) (s : Kd.S d e w base ok v xs → Kd.S d e W base ok v xs := by intro h_; (with_reducible repeat (first | apply Kd.S_alloc | apply Kd.S_drewN | apply Kd.S_drew)); exact h_) : Kd.S d e W base ok v xs := s h
theorem qq {α : Type} {d : Kd α} {e : Nat} {w W : World} {base : Nat} {ok : Nat → Prop} {v : Value} {xs : List α} (h : Kd.Q d e w base ok v xs) (s : Kd.Q d e w base ok v xs → Kd.Q d e W base ok v xs := by intro h_; (with_reducible repeat (first | apply Kd.Q_alloc | apply Kd.Q_drewN | apply Kd.Q_drew)); exact h_) : Kd.Q d e W base ok v xs := s h
theorem gm {α : Type} {a b : α} (h : a = b := by (try simp only [List.map_toArray, List.map_cons, List.map_nil]); first | done | rfl | (simp only [List.length_drop, List.length_take]; rfl)) : a = b := h
theorem bw1 {B : Nat} {w W W' : World} {p0 : Prop} (h : Below B w W) (g0 : p0) (s : p0 → Below B w W → Below B w W' := by intro g0_ h_; repeat (first | (with_reducible first | exact h_ | apply below_alloc | apply pw_below_drewN | apply below_drew1 | refine below_set ?_ g0_) | exact h_)) : Below B w W' := s g0 h
theorem bw2 {B : Nat} {w W W' : World} {p0 p1 : Prop} (h : Below B w W) (g0 : p0) (g1 : p1) (s : p0 → p1 → Below B w W → Below B w W' := by intro g0_ g1_ h_; repeat (first | (with_reducible first | exact h_ | apply below_alloc | apply pw_below_drewN | apply below_drew1 | refine below_set ?_ g0_ | refine below_set ?_ g1_) | exact h_)) : Below B w W' := s g0 g1 h
theorem bw3 {B : Nat} {w W W' : World} {p0 p1 p2 : Prop} (h : Below B w W) (g0 : p0) (g1 : p1) (g2 : p2) (s : p0 → p1 → p2 → Below B w W → Below B w W' := by intro g0_ g1_ g2_ h_; repeat (first | (with_reducible first | exact h_ | apply below_alloc | apply pw_below_drewN | apply below_drew1 | refine below_set ?_ g0_ | refine below_set ?_ g1_ | refine below_set ?_ g2_) | exact h_)) : Below B w W' := s g0 g1 g2 h
theorem bw4 {B : Nat} {w W W' : World} {p0 p1 p2 p3 : Prop} (h : Below B w W) (g0 : p0) (g1 : p1) (g2 : p2) (g3 : p3) (s : p0 → p1 → p2 → p3 → Below B w W → Below B w W' := by intro g0_ g1_ g2_ g3_ h_; repeat (first | (with_reducible first | exact h_ | apply below_alloc | apply pw_below_drewN | apply below_drew1 | refine below_set ?_ g0_ | refine below_set ?_ g1_ | refine below_set ?_ g2_ | refine below_set ?_ g3_) | exact h_)) : Below B w W' := s g0 g1 g2 g3 h
theorem kq0 {w W W' : World} {g : Nat} {row : Option Nat} (h : KeepBut w W g row)  (s : KeepBut w W g row → KeepBut w W' g row := by intro  h_; repeat (first | (with_reducible first | exact h_ | apply KeepBut.set_ | apply keep_drewN | apply keep_drew | apply keep_alloc) | exact h_)) : KeepBut w W' g row := s  h
theorem kq1 {w W W' : World} {g : Nat} {row : Option Nat} {p0 : Prop} (h : KeepBut w W g row) (g0 : p0) (s : p0 → KeepBut w W g row → KeepBut w W' g row := by intro g0_ h_; repeat (first | (with_reducible first | exact h_ | apply KeepBut.set_ | apply keep_drewN | apply keep_drew | apply keep_alloc | refine keep_far ?_ g0_ _) | exact h_)) : KeepBut w W' g row := s g0 h
theorem kq2 {w W W' : World} {g : Nat} {row : Option Nat} {p0 p1 : Prop} (h : KeepBut w W g row) (g0 : p0) (g1 : p1) (s : p0 → p1 → KeepBut w W g row → KeepBut w W' g row := by intro g0_ g1_ h_; repeat (first | (with_reducible first | exact h_ | apply KeepBut.set_ | apply keep_drewN | apply keep_drew | apply keep_alloc | refine keep_far ?_ g0_ _ | refine keep_far ?_ g1_ _) | exact h_)) : KeepBut w W' g row := s g0 g1 h
theorem kq3 {w W W' : World} {g : Nat} {row : Option Nat} {p0 p1 p2 : Prop} (h : KeepBut w W g row) (g0 : p0) (g1 : p1) (g2 : p2) (s : p0 → p1 → p2 → KeepBut w W g row → KeepBut w W' g row := by intro g0_ g1_ g2_ h_; repeat (first | (with_reducible first | exact h_ | apply KeepBut.set_ | apply keep_drewN | apply keep_drew | apply keep_alloc | refine keep_far ?_ g0_ _ | refine keep_far ?_ g1_ _ | refine keep_far ?_ g2_ _) | exact h_)) : KeepBut w W' g row := s g0 g1 g2 h
theorem Ak {p : Prop} (h : p) : Aside0 p := ⟨h⟩
theorem sT {α : Type} {l : List α} {i : Nat} {a : α} : l.toArray.setIfInBounds i a = (l.set i a).toArray := List.setIfInBounds_toArray l i a
theorem sZ {α : Type} {x : α} {xs : List α} {a : α} : (x :: xs).set 0 a = a :: xs := List.set_cons_zero
theorem sS {α : Type} {x : α} {xs : List α} {n : Nat} {a : α} : (x :: xs).set (n + 1) a = x :: xs.set n a := List.set_cons_succ
theorem zk0 {w : World} {g : Nat} {t : TypeId} {a : Value} {l : List Value} (h : w.heap[g]? = some (.cells (List.toArray (a :: l)) t (0, 0))) : w.cell? ⟨g, 0, none⟩ = some a := (blk_cell h 0).trans rfl
theorem zk1 {w : World} {g : Nat} {t : TypeId} {a b : Value} {l : List Value} (h : w.heap[g]? = some (.cells (List.toArray (a :: b :: l)) t (0, 0))) : w.cell? ⟨g, 1, none⟩ = some b := (blk_cell h 1).trans rfl
theorem zk2 {w : World} {g : Nat} {t : TypeId} {a b c : Value} {l : List Value} (h : w.heap[g]? = some (.cells (List.toArray (a :: b :: c :: l)) t (0, 0))) : w.cell? ⟨g, 2, none⟩ = some c := (blk_cell h 2).trans rfl
theorem zk3 {w : World} {g : Nat} {t : TypeId} {a b c d : Value} {l : List Value} (h : w.heap[g]? = some (.cells (List.toArray (a :: b :: c :: d :: l)) t (0, 0))) : w.cell? ⟨g, 3, none⟩ = some d := (blk_cell h 3).trans rfl
theorem zf {W : World} {a : Addr} {g i : Nat} {u : Value} {o : Option Value} (n : a.block ≠ g) (h : W.cell? a = o) : (W.setCell ⟨g, i, none⟩ u).cell? a = o := (cell_far (p := ⟨g, i, none⟩) n u).trans h
theorem zg {W : World} {a : Addr} {g i j : Nat} {u v : Value} {o : Option Value} (n : a.block ≠ g) (h : W.cell? a = o) : ((W.setCell ⟨g, i, none⟩ u).setCell ⟨g, j, none⟩ v).cell? a = o := zf n (zf n h)
theorem zh {W : World} {a : Addr} {g i j k m : Nat} {u v x y : Value} {o : Option Value} (n : a.block ≠ g) (h : W.cell? a = o) : ((((W.setCell ⟨g, i, none⟩ u).setCell ⟨g, j, none⟩ v).setCell ⟨g, k, none⟩ x).setCell ⟨g, m, none⟩ y).cell? a = o := zg n (zg n h)
theorem zw {α : Sort _} {a b : α} (h : a = b := by first | rfl | (simp [errW_none, errW_some] <;> rfl) | (simp [*, errW_none, errW_some] <;> rfl)) : a = b := h
theorem zb {g : Nat} {w W : World} (hg : g = W.heap.size) (h : Below w.heap.size w W) : w.heap.size ≤ g := by rw [hg]; exact below_size h
theorem zl {g k : Nat} {o : Obj} {W : World} (hg : k = W.heap.size) (h : W.heap[g]? = some o) : g ≠ k := by rw [hg]; exact Nat.ne_of_lt (blk_lt h)
theorem zm {g k : Nat} {o : Obj} {W : World} (hg : k = W.heap.size) (h : W.heap[g]? = some o) : k ≠ g := by rw [hg]; exact Nat.ne_of_gt (blk_lt h)
theorem zq {p : Prop} {q : Prop} (h : p) (s : p → q := by intro h_; repeat (first | exact h_ | (with_reducible refine Kd.C_alloc ?_ _) | (with_reducible refine Kd.C_drewN ?_ _) | (with_reducible refine Kd.C_drew ?_))) : q := s h
theorem zs {p q : Prop} (h : p) (s : p → q := by simp only [and_imp]; intros; (repeat' (first | (with_reducible assumption) | (with_reducible refine And.intro ?_ ?_)))) : q := s h
abbrev Nb (k : Nat) (v : Value) : Prop := some k ≠ v.ownBlock
theorem bw5 {B : Nat} {w W W' : World} {p0 p1 p2 p3 p4 : Prop} (h : Below B w W) (g0 : p0) (g1 : p1) (g2 : p2) (g3 : p3) (g4 : p4) (s : p0 → p1 → p2 → p3 → p4 → Below B w W → Below B w W' := by intro g0_ g1_ g2_ g3_ g4_ h_; repeat (first | (with_reducible first | exact h_ | apply below_alloc | apply pw_below_drewN | apply below_drew1 | refine below_set ?_ g0_ | refine below_set ?_ g1_ | refine below_set ?_ g2_ | refine below_set ?_ g3_ | refine below_set ?_ g4_) | exact h_)) : Below B w W' := s g0 g1 g2 g3 g4 h
theorem bw6 {B : Nat} {w W W' : World} {p0 p1 p2 p3 p4 p5 : Prop} (h : Below B w W) (g0 : p0) (g1 : p1) (g2 : p2) (g3 : p3) (g4 : p4) (g5 : p5) (s : p0 → p1 → p2 → p3 → p4 → p5 → Below B w W → Below B w W' := by intro g0_ g1_ g2_ g3_ g4_ g5_ h_; repeat (first | (with_reducible first | exact h_ | apply below_alloc | apply pw_below_drewN | apply below_drew1 | refine below_set ?_ g0_ | refine below_set ?_ g1_ | refine below_set ?_ g2_ | refine below_set ?_ g3_ | refine below_set ?_ g4_ | refine below_set ?_ g5_) | exact h_)) : Below B w W' := s g0 g1 g2 g3 g4 g5 h
theorem bw7 {B : Nat} {w W W' : World} {p0 p1 p2 p3 p4 p5 p6 : Prop} (h : Below B w W) (g0 : p0) (g1 : p1) (g2 : p2) (g3 : p3) (g4 : p4) (g5 : p5) (g6 : p6) (s : p0 → p1 → p2 → p3 → p4 → p5 → p6 → Below B w W → Below B w W' := by intro g0_ g1_ g2_ g3_ g4_ g5_ g6_ h_; repeat (first | (with_reducible first | exact h_ | apply below_alloc | apply pw_below_drewN | apply below_drew1 | refine below_set ?_ g0_ | refine below_set ?_ g1_ | refine below_set ?_ g2_ | refine below_set ?_ g3_ | refine below_set ?_ g4_ | refine below_set ?_ g5_ | refine below_set ?_ g6_) | exact h_)) : Below B w W' := s g0 g1 g2 g3 g4 g5 g6 h
theorem bw8 {B : Nat} {w W W' : World} {p0 p1 p2 p3 p4 p5 p6 p7 : Prop} (h : Below B w W) (g0 : p0) (g1 : p1) (g2 : p2) (g3 : p3) (g4 : p4) (g5 : p5) (g6 : p6) (g7 : p7) (s : p0 → p1 → p2 → p3 → p4 → p5 → p6 → p7 → Below B w W → Below B w W' := by intro g0_ g1_ g2_ g3_ g4_ g5_ g6_ g7_ h_; repeat (first | (with_reducible first | exact h_ | apply below_alloc | apply pw_below_drewN | apply below_drew1 | refine below_set ?_ g0_ | refine below_set ?_ g1_ | refine below_set ?_ g2_ | refine below_set ?_ g3_ | refine below_set ?_ g4_ | refine below_set ?_ g5_ | refine below_set ?_ g6_ | refine below_set ?_ g7_) | exact h_)) : Below B w W' := s g0 g1 g2 g3 g4 g5 g6 g7 h



def errW : Option Int → Value
 | none => .nilIface
 | some c => .iface 0 (.int .i64 c)
theorem errW_none : errW none = .nilIface := rfl
theorem errW_some (c : Int) : errW (some c) = .iface 0 (.int .i64 c) := rfl

theorem info3 : (Try.prog.info? 3).map (fun i => (i.zero, i.size, i.bytes)) = some (some (.int .i64 0), 1, 8) := by kernel_rfl
theorem info58 : (Try.prog.info? 58).map (fun i => (i.zero, i.size, i.bytes)) = some (some (.slice none 0 0), 1, 24) := by kernel_rfl
theorem info67 : (Try.prog.info? 67).map (fun i => (i.zero, i.size, i.bytes)) = some (some (.agg #[(.int .i64 0), (.int .i64 0)]), 2, 16) := by kernel_rfl
-- the values' own types
structure S67 where
 f0 : Int
 f1 : Int
def z67 : S67 := ⟨(0 : Int), (0 : Int)⟩
def k67 : Kd S67 := Kd.iso (Kd.pair (Kd.int .i64) (Kd.int .i64)) (fun x : S67 => (x.f0, x.f1))
theorem k67_open {w : World} {x : S67} {cs : List Value} (h : k67.K w x cs) : cs = [.int .i64 x.f0, .int .i64 x.f1] := by
 obtain ⟨_, _, rfl, rfl, rfl⟩ := h
 exact rfl
theorem k67_openM {w : World} {base : Nat} {ok : Nat → Prop} {x : S67} {cs : List Value} (h : k67.M w base ok x cs) : cs = [.int .i64 x.f0, .int .i64 x.f1] := by
 obtain ⟨_, _, rfl, rfl, rfl⟩ := h
 exact rfl
theorem k67_mk (w : World) (x : S67)  : k67.K w x [.int .i64 x.f0, .int .i64 x.f1] := ⟨[.int .i64 x.f0], [.int .i64 x.f1], rfl, rfl, rfl⟩
theorem k67_mkM (w : World) (base : Nat) (ok : Nat → Prop) (x : S67)  : k67.M w base ok x [.int .i64 x.f0, .int .i64 x.f1] := ⟨[.int .i64 x.f0], [.int .i64 x.f1], rfl, rfl, rfl⟩
theorem k67_mkF (W : World) (ok : Nat → Prop) (x : S67) : Kd.FK k67 W ok x [.int .i64 x.f0, .int .i64 x.f1] := fun W2 _ => k67_mk W2 x
def rd_T67 (xs : List S67) (i : Int) : S67 := xs.getD i.toNat z67
theorem at_T67 {w : World} {A : Option Addr} {n : Nat} {xs : List S67} (h : Kd.C k67 w A n xs) (i : Int) (h0 : 0 ≤ i) (h1 : i < n) : ∃ ad , A = some ad ∧ w.cell? (ad.add (i.toNat * 2)) = some (.int .i64 (rd_T67 xs i).f0) ∧ w.cell? ⟨(ad.add (i.toNat * 2)).block, (ad.add (i.toNat * 2)).off + 1, none⟩ = some (.int .i64 (rd_T67 xs i).f1) := by
 obtain ⟨ad, c, e, _, hK, hc0⟩ := Kd.C_get h z67 i h0 h1
 have hc : ∀ j u, c[j]? = some u → w.cell? (ad.add (i.toNat * 2 + j)) = some u := hc0
 obtain rfl := k67_open hK
 exact ⟨ad, e, hc 0 _ rfl, by rw [← add_field _ _ 1 (by omega)]; exact hc 1 _ rfl⟩

def rd_L3 (xs : List (List S67)) (i : Int) : (List S67) := xs.getD i.toNat ([] : List S67)
theorem at_L3 {w : World} {A : Option Addr} {n : Nat} {xs : List (List S67)} (h : Kd.C (Kd.slice 67 k67) w A n xs) (i : Int) (h0 : 0 ≤ i) (h1 : i < n) : ∃ ad A0 c0, A = some ad ∧ w.cell? (ad.add i.toNat) = some (.slice A0 (rd_L3 xs i).length c0) ∧ (rd_L3 xs i).length ≤ c0 ∧ k67.C w A0 (rd_L3 xs i).length (rd_L3 xs i) := by
 obtain ⟨ad, c, e, _, hK, hc0⟩ := Kd.C_get h ([] : List S67) i h0 h1
 have hc : ∀ j u, c[j]? = some u → w.cell? (ad.add (i.toNat * 1 + j)) = some u := hc0
 obtain ⟨A0, c0, rfl, l0, g0⟩ := hK
 exact ⟨ad, A0, c0, e, by have hq := hc 0 _ rfl; rwa [Nat.mul_one, Nat.add_zero] at hq, l0, g0⟩

end Go.Proofs.Ytgmnphckgicadaa.PFnHulls
