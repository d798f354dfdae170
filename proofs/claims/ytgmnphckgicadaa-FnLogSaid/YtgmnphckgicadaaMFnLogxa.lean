/- Functions that the law reaches, with their contracts. -/
import Derived.Test.YtgmnphckgicadaaProg
import Derived.Below
import Derived.Deep.Draws
import Derived.Deep.AppendLies
import Derived.Maps.AppendAt
import Derived.OwnWalk
import Derived.Laws.BytesArg
import Derived.Laws.MakeOwn
import Derived.Laws.OwnMore
import Derived.Deep.OwnRows
import Derived.Tactics
import Derived.Lib.ConvBytes
import Derived.Laws.Slices
import Derived.WalkKit
import Derived.KernelRfl
import Derived.RowKit3
import Derived.Deep.LoopGhost
import Derived.Deep.QuietTactic
import Derived.BigQuiet
import Derived.WideLaws
import Derived.Deep.DeepCutAuto
import Derived.Deep.CutBlock
import Derived.Deep.RegionHeld3
import Derived.Laws.Rows
import Derived.Lib.AppendStr
import Derived.ArgAppend
import Derived.Laws.IdiomCopy
import Derived.OrdersHeld
import Derived.Laws.BitsLemmas
import Derived.RowKit
import Derived.Test.YtgmnphckgicadaaWTab
import Derived.Test.YtgmnphckgicadaaWEqStruct
import Derived.Test.YtgmnphckgicadaaWRepsOne
import Derived.Test.YtgmnphckgicadaaWGuard
import Derived.Test.YtgmnphckgicadaaWMore
import Derived.Lib.SliceRun
namespace Go.Proofs.Ytgmnphckgicadaa.PFnLog
open Go.RowKit Go.Proofs.YtgmnphckgicadaaW.PrintWords Go.Proofs.YtgmnphckgicadaaW.PrintLast Go.Proofs.YtgmnphckgicadaaW.PrintMore
attribute [local go_sem] max2_int min2_int max_two min_two max_three min_three max_four min_four
set_option linter.unusedVariables false
set_option linter.unusedSimpArgs false

/-! Short names for steps that come again and again. -/
theorem bq {w W : World} {g : Nat} {o : Obj} (h : w.heap[g]? = some o) (s : w.heap[g]? = some o → W.heap[g]? = some o := by intro h_; (with_reducible repeat (first | refine blk_drewN ?_ _ | refine blk_drew ?_ | refine blk_alloc ?_ _)); exact h_) : W.heap[g]? = some o := s h
theorem bw {B : Nat} {w W W' : World} (h : Below B w W) (s : Below B w W → Below B w W' := by intro h_; repeat (first | (with_reducible first | exact h_ | apply below_alloc | apply pw_below_drewN | apply below_drew1) | exact h_)) : Below B w W' := s h
theorem rq {α : Type} {d : Kd α} {e : Nat} {w W : World} {base : Nat} {ok : Nat → Prop} {v : Value} {xs : List α} (h : Kd.R d e w base ok v xs) (s : Kd.R d e w base ok v xs → Kd.R d e W base ok v xs := by intro h_; (with_reducible repeat (first | apply Kd.R_alloc | apply Kd.R_drewN | apply Kd.R_drew)); exact h_) : Kd.R d e W base ok v xs := s h
theorem sq {α : Type} {d : Kd α} {e : Nat} {w W : World} {base : Nat} {ok : Nat → Prop} {v : Value} {xs : List α} (h : Kd.S d e w base ok v xs) (s : Kd.S d e w base ok v xs → Kd.S d e W base ok v xs := by intro h_; (with_reducible repeat (first | apply Kd.S_alloc | apply Kd.S_drewN | apply Kd.S_drew)); exact h_) : Kd.S d e W base ok v xs := s h
theorem gm {α : Type} {a b : α} (h : a = b := by (try simp only [List.map_toArray, List.map_cons, List.map_nil]); first | done | rfl | (simp only [List.length_drop, List.length_take]; rfl)) : a = b := h
theorem bw1 {B : Nat} {w W W' : World} {p0 : Prop} (h : Below B w W) (g0 : p0) (s : p0 → Below B w W → Below B w W' := by intro g0_ h_; repeat (first | (with_reducible first | exact h_ | apply below_alloc | apply pw_below_drewN | apply below_drew1 | refine below_set ?_ g0_) | exact h_)) : Below B w W' := s g0 h
theorem bw2 {B : Nat} {w W W' : World} {p0 p1 : Prop} (h : Below B w W) (g0 : p0) (g1 : p1) (s : p0 → p1 → Below B w W → Below B w W' := by intro g0_ g1_ h_; repeat (first | (with_reducible first | exact h_ | apply below_alloc | apply pw_below_drewN | apply below_drew1 | refine below_set ?_ g0_ | refine below_set ?_ g1_) | exact h_)) : Below B w W' := s g0 g1 h
theorem bw3 {B : Nat} {w W W' : World} {p0 p1 p2 : Prop} (h : Below B w W) (g0 : p0) (g1 : p1) (g2 : p2) (s : p0 → p1 → p2 → Below B w W → Below B w W' := by intro g0_ g1_ g2_ h_; repeat (first | (with_reducible first | exact h_ | apply below_alloc | apply pw_below_drewN | apply below_drew1 | refine below_set ?_ g0_ | refine below_set ?_ g1_ | refine below_set ?_ g2_) | exact h_)) : Below B w W' := s g0 g1 g2 h
theorem bw4 {B : Nat} {w W W' : World} {p0 p1 p2 p3 : Prop} (h : Below B w W) (g0 : p0) (g1 : p1) (g2 : p2) (g3 : p3) (s : p0 → p1 → p2 → p3 → Below B w W → Below B w W' := by intro g0_ g1_ g2_ g3_ h_; repeat (first | (with_reducible first | exact h_ | apply below_alloc | apply pw_below_drewN | apply below_drew1 | refine below_set ?_ g0_ | refine below_set ?_ g1_ | refine below_set ?_ g2_ | refine below_set ?_ g3_) | exact h_)) : Below B w W' := s g0 g1 g2 g3 h
theorem kq0 {w W W' : World} {g : Nat} {row : Option Nat} (h : KeepBut w W g row)  (s : KeepBut w W g row → KeepBut w W' g row := by intro  h_; repeat (first | (with_reducible first | exact h_ | apply KeepBut.set_ | apply keep_drewN | apply keep_drew | apply keep_alloc) | exact h_)) : KeepBut w W' g row := s  h
theorem Ak {p : Prop} (h : p) : Aside0 p := ⟨h⟩
theorem sT {α : Type} {l : List α} {i : Nat} {a : α} : l.toArray.setIfInBounds i a = (l.set i a).toArray := List.setIfInBounds_toArray l i a
theorem sZ {α : Type} {x : α} {xs : List α} {a : α} : (x :: xs).set 0 a = a :: xs := List.set_cons_zero
theorem sS {α : Type} {x : α} {xs : List α} {n : Nat} {a : α} : (x :: xs).set (n + 1) a = x :: xs.set n a := List.set_cons_succ
theorem zk0 {w : World} {g : Nat} {t : TypeId} {a : Value} {l : List Value} (h : w.heap[g]? = some (.cells (List.toArray (a :: l)) t (0, 0))) : w.cell? ⟨g, 0, none⟩ = some a := (blk_cell h 0).trans rfl
theorem zk1 {w : World} {g : Nat} {t : TypeId} {a b : Value} {l : List Value} (h : w.heap[g]? = some (.cells (List.toArray (a :: b :: l)) t (0, 0))) : w.cell? ⟨g, 1, none⟩ = some b := (blk_cell h 1).trans rfl
theorem zk2 {w : World} {g : Nat} {t : TypeId} {a b c : Value} {l : List Value} (h : w.heap[g]? = some (.cells (List.toArray (a :: b :: c :: l)) t (0, 0))) : w.cell? ⟨g, 2, none⟩ = some c := (blk_cell h 2).trans rfl
theorem zk3 {w : World} {g : Nat} {t : TypeId} {a b c d : Value} {l : List Value} (h : w.heap[g]? = some (.cells (List.toArray (a :: b :: c :: d :: l)) t (0, 0))) : w.cell? ⟨g, 3, none⟩ = some d := (blk_cell h 3).trans rfl
theorem zf {W : World} {a : Addr} {g i : Nat} {u : Value} {o : Option Value} (n : a.block ≠ g) (h : W.cell? a = o) : (W.setCell ⟨g, i, none⟩ u).cell? a = o := (cell_far (p := ⟨g, i, none⟩) n u).trans h
theorem zg {W : World} {a : Addr} {g i j : Nat} {u v : Value} {o : Option Value} (n : a.block ≠ g) (h : W.cell? a = o) : ((W.setCell ⟨g, i, none⟩ u).setCell ⟨g, j, none⟩ v).cell? a = o := zf n (zf n h)
theorem zw {α : Sort _} {a b : α} (h : a = b := by first | rfl | (simp [errW_none, errW_some] <;> rfl) | (simp [*, errW_none, errW_some] <;> rfl)) : a = b := h
theorem zb {g : Nat} {w W : World} (hg : g = W.heap.size) (h : Below w.heap.size w W) : w.heap.size ≤ g := by rw [hg]; exact below_size h
theorem zl {g k : Nat} {o : Obj} {W : World} (hg : k = W.heap.size) (h : W.heap[g]? = some o) : g ≠ k := by rw [hg]; exact Nat.ne_of_lt (blk_lt h)
theorem zm {g k : Nat} {o : Obj} {W : World} (hg : k = W.heap.size) (h : W.heap[g]? = some o) : k ≠ g := by rw [hg]; exact Nat.ne_of_gt (blk_lt h)
theorem zq {p : Prop} {q : Prop} (h : p) (s : p → q := by intro h_; repeat (first | exact h_ | (with_reducible refine Kd.C_alloc ?_ _) | (with_reducible refine Kd.C_drewN ?_ _) | (with_reducible refine Kd.C_drew ?_))) : q := s h
abbrev Nb (k : Nat) (v : Value) : Prop := some k ≠ v.ownBlock
section
set_option autoImplicit true
set_option relaxedAutoImplicit true
theorem pu {P : Program} {ops : Array Oper} {md : Region.Mode} {Q : Exit → Act → World → Prop} {S : World → Prop} {ds : List Nat} {oi : Oper} {v : Value} {fuel : Nat} {l l' : Array Bool} {a a' : Act} {w : World} (i N : Nat) (hi : ops[i]? = some oi := by exact rfl) (hN : oi.dst = some N := by rfl) (hl : l.setIfInBounds i true = l' := by (simp only [sT, sZ, sS]; rfl)) (hc : anyB md ops l l' i = true := by kernel_rfl) (hQ : ∀ c a w, Q (.panic c) (a.put oi.dst v) w → Q (.panic c) a w := by exact fun _ _ _ h => h) (hw : Region.wanted oi (yielded ops a.tmps) = true := by rfl) (hv : ∀ w, (execOp a.eval oi).run P w = .ok (.value v) w := by (intro w_; go_simp; with_reducible rfl)) (ha : a.put (some N) v = a' := by (simp only [Act.put, sT, sZ, sS, i64_w, i32_w]; rfl)) (h : wpAnyLast P md ops Q S ds fuel l' a' w) : wpAnyLast P md ops Q S ds (fuel + 1) l a w := pure_ l' hi hN hc hQ (Or.inl ⟨hw, hv⟩) ha h
theorem puT {P : Program} {ops : Array Oper} {md : Region.Mode} {Q : Exit → Act → World → Prop} {S : World → Prop} {ds : List Nat} {oi : Oper} {v : Value} {fuel : Nat} {l l' : Array Bool} {a a' : Act} {w : World} (i N : Nat) (hT : Aside0 (rtab md ops = T)) (hi : ops[i]? = some oi := by exact rfl) (hN : oi.dst = some N := by rfl) (hl : l.setIfInBounds i true = l' := by (simp only [sT, sZ, sS]; rfl)) (hc : anyT T l.toList l'.toList i = true := by kernel_rfl) (hQ : ∀ c a w, Q (.panic c) (a.put oi.dst v) w → Q (.panic c) a w := by exact fun _ _ _ h => h) (hw : Region.wanted oi (yielded ops a.tmps) = true := by rfl) (hv : ∀ w, (execOp a.eval oi).run P w = .ok (.value v) w := by (intro w_; go_simp; with_reducible rfl)) (ha : a.put (some N) v = a' := by (simp only [Act.put, sT, sZ, sS, i64_w, i32_w]; rfl)) (h : wpAnyLast P md ops Q S ds fuel l' a' w) : wpAnyLast P md ops Q S ds (fuel + 1) l a w := pure_ l' hi hN (any_of hT.out hc) hQ (Or.inl ⟨hw, hv⟩) ha h
theorem pnT {P : Program} {ops : Array Oper} {md : Region.Mode} {Q : Exit → Act → World → Prop} {S : World → Prop} {ds : List Nat} {oi : Oper} {fuel : Nat} {l l' : Array Bool} {a a' : Act} {w : World} (i N : Nat) (hT : Aside0 (rtab md ops = T)) (hi : ops[i]? = some oi := by exact rfl) (hN : oi.dst = some N := by rfl) (hl : l.setIfInBounds i true = l' := by (simp only [sT, sZ, sS]; rfl)) (hc : anyT T l.toList l'.toList i = true := by kernel_rfl) (hQ : ∀ c a w, Q (.panic c) (a.put oi.dst undef) w → Q (.panic c) a w := by exact fun _ _ _ h => h) (hw : Region.wanted oi (yielded ops a.tmps) = false := by rfl) (ha : a.put (some N) undef = a' := by (simp only [Act.put, sT, sZ, sS, i64_w, i32_w]; rfl)) (h : wpAnyLast P md ops Q S ds fuel l' a' w) : wpAnyLast P md ops Q S ds (fuel + 1) l a w := pure_ l' hi hN (any_of hT.out hc) hQ (Or.inr ⟨hw, rfl⟩) ha h
theorem ta {P : Program} {ops : Array Oper} {md : Region.Mode} {Q : Exit → Act → World → Prop} {S : World → Prop} {ds : List Nat} {oi : Oper} {v : Value} {fuel : Nat} {l l' : Array Bool} {a a' : Act} {w : World} (i N : Nat) (hS : S w) (hi : ops[i]? = some oi := by exact rfl) (hN : oi.dst = some N := by rfl) (hl : l.setIfInBounds i true = l' := by (simp only [sT, sZ, sS]; rfl)) (hc : takeB md ops ds l l' i = true := by kernel_rfl) (hQ : ∀ c a w, Q (.panic c) (a.put oi.dst v) w → Q (.panic c) a w := by exact fun _ _ _ h => h) (hw : Region.wanted oi (yielded ops a.tmps) = true := by rfl) (hv : ∀ w, S w → (execOp a.eval oi).run P w = .ok (.value v) w := by (intro w_ s_; (repeat (have h0_ := And.left s_; replace s_ := And.right s_)); go_simp; with_reducible rfl)) (ha : a.put (some N) v = a' := by (simp only [Act.put, sT, sZ, sS, i64_w, i32_w]; rfl)) (h : wpAnyLast P md ops Q S ds fuel l' a' w) : wpAnyLast P md ops Q S ds (fuel + 1) l a w := take_ l' hi hN hc hQ (Or.inl ⟨hw, hv⟩) hS ha h
theorem taT {P : Program} {ops : Array Oper} {md : Region.Mode} {Q : Exit → Act → World → Prop} {S : World → Prop} {ds : List Nat} {oi : Oper} {v : Value} {fuel : Nat} {l l' : Array Bool} {a a' : Act} {w : World} (i N : Nat) (hT : Aside0 (rtab md ops = T)) (hB : Aside0 (waitsOk T.2 B = true)) (hS : S w) (hi : ops[i]? = some oi := by exact rfl) (hN : oi.dst = some N := by rfl) (hl : l.setIfInBounds i true = l' := by (simp only [sT, sZ, sS]; rfl)) (hc : takeW T B ds l.toList l'.toList i = true := by kernel_rfl) (hQ : ∀ c a w, Q (.panic c) (a.put oi.dst v) w → Q (.panic c) a w := by exact fun _ _ _ h => h) (hw : Region.wanted oi (yielded ops a.tmps) = true := by rfl) (hv : ∀ w, S w → (execOp a.eval oi).run P w = .ok (.value v) w := by (intro w_ s_; (repeat (have h0_ := And.left s_; replace s_ := And.right s_)); go_simp; with_reducible rfl)) (ha : a.put (some N) v = a' := by (simp only [Act.put, sT, sZ, sS, i64_w, i32_w]; rfl)) (h : wpAnyLast P md ops Q S ds fuel l' a' w) : wpAnyLast P md ops Q S ds (fuel + 1) l a w := take_ l' hi hN (take_ofW hT.out hB.out hc) hQ (Or.inl ⟨hw, hv⟩) hS ha h
theorem on {P : Program} {ops : Array Oper} {md : Region.Mode} {Q : Exit → Act → World → Prop} {S : World → Prop} {ds : List Nat} {oi : Oper} {fuel : Nat} {l l' : Array Bool} {a : Act} {w : World} (i : Nat) (N : Option Tmp) (hi : ops[i]? = some oi := by exact rfl) (hN : oi.dst = N := by rfl) (hl : l.setIfInBounds i true = l' := by (simp only [sT, sZ, sS]; rfl)) (hc : readyB md ops l l' i = true := by kernel_rfl) (hd : i ∉ ds := by decide) (h : ∀ K : Act → World → Prop, Shut (∀ a' w', S w' → (S w' → wpAnyLast P md ops Q S ds fuel l' a' w') → K a' w') → if Region.wanted oi (yielded ops a.tmps) = true then Oper.wp P oi a w K Q else K (a.put N undef) w) : wpAnyLast P md ops Q S ds (fuel + 1) l a w := one_ l' hi hN hc hd h
theorem onT {P : Program} {ops : Array Oper} {md : Region.Mode} {Q : Exit → Act → World → Prop} {S : World → Prop} {ds : List Nat} {oi : Oper} {fuel : Nat} {l l' : Array Bool} {a : Act} {w : World} (i : Nat) (N : Option Tmp) (hT : Aside0 (rtab md ops = T)) (hi : ops[i]? = some oi := by exact rfl) (hN : oi.dst = N := by rfl) (hl : l.setIfInBounds i true = l' := by (simp only [sT, sZ, sS]; rfl)) (hc : (readyT T.2 l.toList == [i] && l.toList.set i true == l'.toList) = true := by kernel_rfl) (hd : i ∉ ds := by decide) (h : ∀ K : Act → World → Prop, Shut (∀ a' w', S w' → (S w' → wpAnyLast P md ops Q S ds fuel l' a' w') → K a' w') → if Region.wanted oi (yielded ops a.tmps) = true then Oper.wp P oi a w K Q else K (a.put N undef) w) : wpAnyLast P md ops Q S ds (fuel + 1) l a w := one_ l' hi hN (one_of hT.out hc) hd h
theorem la {P : Program} {ops : Array Oper} {md : Region.Mode} {Q : Exit → Act → World → Prop} {S : World → Prop} {ds : List Nat} {oi : Oper} {fuel : Nat} {l l' : Array Bool} {a : Act} {w : World} (i : Nat) (N : Option Tmp) (hi : ops[i]? = some oi := by exact rfl) (hN : oi.dst = N := by rfl) (hl : l.setIfInBounds i true = l' := by (simp only [sT, sZ, sS]; rfl)) (hc : readyB md ops l l' i = true := by kernel_rfl) (hd : i ∈ ds := by decide) (h : ∀ K : Act → World → Prop, Shut (∀ a' w', wpAnyLast P md ops Q S ds fuel l' a' w' → K a' w') → if Region.wanted oi (yielded ops a.tmps) = true then Oper.wp P oi a w K Q else K (a.put N undef) w) : wpAnyLast P md ops Q S ds (fuel + 1) l a w := last_ l' hi hN hc hd h
theorem laT {P : Program} {ops : Array Oper} {md : Region.Mode} {Q : Exit → Act → World → Prop} {S : World → Prop} {ds : List Nat} {oi : Oper} {fuel : Nat} {l l' : Array Bool} {a : Act} {w : World} (i : Nat) (N : Option Tmp) (hT : Aside0 (rtab md ops = T)) (hi : ops[i]? = some oi := by exact rfl) (hN : oi.dst = N := by rfl) (hl : l.setIfInBounds i true = l' := by (simp only [sT, sZ, sS]; rfl)) (hc : (readyT T.2 l.toList == [i] && l.toList.set i true == l'.toList) = true := by kernel_rfl) (hd : i ∈ ds := by decide) (h : ∀ K : Act → World → Prop, Shut (∀ a' w', wpAnyLast P md ops Q S ds fuel l' a' w' → K a' w') → if Region.wanted oi (yielded ops a.tmps) = true then Oper.wp P oi a w K Q else K (a.put N undef) w) : wpAnyLast P md ops Q S ds (fuel + 1) l a w := last_ l' hi hN (one_of hT.out hc) hd h
end



def errW : Option Int → Value
 | none => .nilIface
 | some c => .iface 0 (.int .i64 c)
theorem errW_none : errW none = .nilIface := rfl
theorem errW_some (c : Int) : errW (some c) = .iface 0 (.int .i64 c) := rfl

theorem info3 : (Try.prog.info? 3).map (fun i => (i.zero, i.size, i.bytes)) = some (some (.int .i64 0), 1, 8) := by kernel_rfl
theorem info5 : (Try.prog.info? 5).map (fun i => (i.zero, i.size, i.bytes)) = some (some (.int .u8 0), 1, 1) := by kernel_rfl
theorem info22 : (Try.prog.info? 22).map (fun i => (i.zero, i.size, i.bytes)) = some (some (.slice none 0 0), 1, 24) := by kernel_rfl
theorem info96 : (Try.prog.info? 96).map (fun i => (i.zero, i.size, i.bytes)) = some (some (.agg #[(.int .i64 0), (.slice none 0 0)]), 2, 32) := by kernel_rfl
-- the values' own types
def rd_L2 (xs : List (List Int)) (i : Int) : (List Int) := xs.getD i.toNat ([] : List Int)
theorem at_L2 {w : World} {A : Option Addr} {n : Nat} {xs : List (List Int)} (h : Kd.C (Kd.slice 5 (Kd.int .u8)) w A n xs) (i : Int) (h0 : 0 ≤ i) (h1 : i < n) : ∃ ad A0 c0, A = some ad ∧ w.cell? (ad.add i.toNat) = some (.slice A0 (rd_L2 xs i).length c0) ∧ (rd_L2 xs i).length ≤ c0 ∧ (Kd.int .u8).C w A0 (rd_L2 xs i).length (rd_L2 xs i) := by
 obtain ⟨ad, c, e, _, hK, hc0⟩ := Kd.C_get h ([] : List Int) i h0 h1
 have hc : ∀ j u, c[j]? = some u → w.cell? (ad.add (i.toNat * 1 + j)) = some u := hc0
 obtain ⟨A0, c0, rfl, l0, g0⟩ := hK
 exact ⟨ad, A0, c0, e, by have hq := hc 0 _ rfl; rwa [Nat.mul_one, Nat.add_zero] at hq, l0, g0⟩

structure S96 where
 f0 : Int
 f1 : (List Int)
def z96 : S96 := ⟨(0 : Int), ([] : List Int)⟩
def k96 : Kd S96 := Kd.iso (Kd.pair (Kd.int .i64) (Kd.slice 5 (Kd.int .u8))) (fun x : S96 => (x.f0, x.f1))
theorem k96_open {w : World} {x : S96} {cs : List Value} (h : k96.K w x cs) : ∃ A1 c1, cs = [.int .i64 x.f0, .slice A1 x.f1.length c1] ∧ x.f1.length ≤ c1 ∧ (Kd.int .u8).C w A1 x.f1.length x.f1 := by
 obtain ⟨_, _, rfl, rfl, ⟨A1, c1, rfl, l1, g1⟩⟩ := h
 exact ⟨A1, c1, rfl, l1, g1⟩
theorem k96_mk (w : World) (x : S96) {A1 : Option Addr} {c1 : Nat} (l1 : x.f1.length ≤ c1) (g1 : (Kd.int .u8).C w A1 x.f1.length x.f1) : k96.K w x [.int .i64 x.f0, .slice A1 x.f1.length c1] := ⟨[.int .i64 x.f0], [.slice A1 x.f1.length c1], rfl, rfl, ⟨A1, c1, rfl, l1, g1⟩⟩
theorem k96_mkM (w : World) (base : Nat) (ok : Nat → Prop) (x : S96) {v1 : Value} (g1 : (Kd.int .u8).R 5 w base ok v1 x.f1) : k96.M w base ok x [.int .i64 x.f0, v1] := ⟨[.int .i64 x.f0], [v1], rfl, rfl, ⟨v1, rfl, g1⟩⟩
theorem k96_openF {W : World} {ok : Nat → Prop} {x : S96} {cs : List Value} (h : Kd.FK k96 W ok x cs) : ∃ A1 c1, cs = [.int .i64 x.f0, .slice A1 x.f1.length c1] ∧ x.f1.length ≤ c1 ∧ Kd.F (Kd.int .u8) W ok A1 x.f1.length x.f1 := by
 obtain ⟨A1, c1, rfl, l1, _⟩ := k96_open (Kd.FK_now h)
 exact ⟨A1, c1, rfl, l1, (fun W' hW => by obtain ⟨A1_, c1_, he, l1_, g1_⟩ := k96_open (h W' hW); injection (Option.some.inj (show some (Value.slice A1 x.f1.length c1) = some (Value.slice A1_ x.f1.length c1_) from congrArg (fun l => l[1]?) he)) with ha_ _ _; rw [ha_]; exact g1_)⟩
theorem k96_mkF (W : World) (ok : Nat → Prop) (x : S96) {A1 : Option Addr} {c1 : Nat} (l1 : x.f1.length ≤ c1) (g1 : Kd.F (Kd.int .u8) W ok A1 x.f1.length x.f1) : Kd.FK k96 W ok x [.int .i64 x.f0, .slice A1 x.f1.length c1] := fun W2 hW => k96_mk W2 x l1 (g1 W2 hW)
def rd_T96 (xs : List S96) (i : Int) : S96 := xs.getD i.toNat z96
theorem at_T96 {w : World} {A : Option Addr} {n : Nat} {xs : List S96} (h : Kd.C k96 w A n xs) (i : Int) (h0 : 0 ≤ i) (h1 : i < n) : ∃ ad A1 c1, A = some ad ∧ w.cell? (ad.add (i.toNat * 2)) = some (.int .i64 (rd_T96 xs i).f0) ∧ w.cell? ⟨(ad.add (i.toNat * 2)).block, (ad.add (i.toNat * 2)).off + 1, none⟩ = some (.slice A1 (rd_T96 xs i).f1.length c1) ∧ (rd_T96 xs i).f1.length ≤ c1 ∧ (Kd.int .u8).C w A1 (rd_T96 xs i).f1.length (rd_T96 xs i).f1 := by
 obtain ⟨ad, c, e, _, hK, hc0⟩ := Kd.C_get h z96 i h0 h1
 have hc : ∀ j u, c[j]? = some u → w.cell? (ad.add (i.toNat * 2 + j)) = some u := hc0
 obtain ⟨A1, c1, rfl, l1, g1⟩ := k96_open hK
 exact ⟨ad, A1, c1, e, hc 0 _ rfl, by rw [← add_field _ _ 1 (by omega)]; exact hc 1 _ rfl, l1, g1⟩

theorem eqA32 (d : Nat) (w : World) (x0 y0 : Int) (x1 y1 : Int) (x2 y2 : Int) (x3 y3 : Int) :
  (Op.equalIn (d + 2) 32 (.agg #[.int .i64 x0, .int .i64 x1, .int .i64 x2, .int .i64 x3]) (.agg #[.int .i64 y0, .int .i64 y1, .int .i64 y2, .int .i64 y3])).run Try.prog w = .ok (x0 == y0 && (x1 == y1 && (x2 == y2 && (x3 == y3)))) w := by
 refine eqA_of Try.underlying32 (by kernel_rfl) ?_
 refine eqf_cons (by rfl) (by go_simp; rfl) (by go_simp; rfl) (by go_simp) ?_
 refine eqf_cons (by rfl) (by go_simp; rfl) (by go_simp; rfl) (by go_simp) ?_
 refine eqf_cons (by rfl) (by go_simp; rfl) (by go_simp; rfl) (by go_simp) ?_
 exact eqf_last (by rfl) (by go_simp; rfl) (by go_simp; rfl) (by go_simp)

def impl_LogRoom.f (a0_0 : Int) (a0_1 : Int) (a0_2 : Int) (a0_3 : Int) : Option (Int) := some (mx (wrap64 ((wrap64 ((wrap64 (a0_1 - a0_0)) + 1)) - a0_2)) 0)
set_option maxHeartbeats 8000000 in
set_option maxRecDepth 100000 in
theorem impl_LogRoom.calls (a0_0 : Int) (a0_1 : Int) (a0_2 : Int) (a0_3 : Int) (r : Int) (w : World) (h : impl_LogRoom.f a0_0 a0_1 a0_2 a0_3 = some r) :
  Calls Try.prog 27 #[.agg #[.int .i64 a0_0, .int .i64 a0_1, .int .i64 a0_2, .int .i64 a0_3]] w fun e w' => e = .returned (.int .i64 r) ∧ Below w.heap.size w w' := by
 have hu32 := Try.underlying32
 have HB := Ak (Below.refl w.heap.size w)
 have H := h
 unfold impl_LogRoom.f at H
 clear h
 obtain ⟨ji2, hji2⟩ : ∃ j_ : Int, (mx (wrap64 ((wrap64 ((wrap64 (a0_1 - a0_0)) + 1)) - a0_2)) 0) = j_ := ⟨_, rfl⟩
 replace H : (some ji2) = some r := by first | (rw [hji2] at H; exact H) | (simp only [hji2] at H ⊢; exact H)
 (try (have hji2l : 0 ≤ ji2 := by (rw [← hji2]; unfold mx; (repeat' split) <;> omega)))
 (try (have hji2m : 0 ≤ ji2 := by omega))
 have hji2_ : (if (wrap64 ((wrap64 ((wrap64 (a0_1 - a0_0)) + 1)) - a0_2)) < 0 then 0 else (wrap64 ((wrap64 ((wrap64 (a0_1 - a0_0)) + 1)) - a0_2))) = ji2 := hji2
 obtain rfl := Option.some.inj H
 go_enter Try.func27, Try.ntmps27
 go_wp2_with (first | ((with_reducible refine gate_dst (N := 1) rfl ?_); refine box_event ?hg (N := 1) ?hd (cs := #[.int .i64 a0_0, .int .i64 a0_1, .int .i64 a0_2, .int .i64 a0_3]) (t := 32) ?hr ?_; (case hd => rfl); (case hg => rfl); (case hr => first | (go_simp; done) | (go_simp; rfl)); intro gb101 hg w3 hbox hb; have BK101 := Ak (hbox); have GW101 := Ak ((zb hg (bw HB.out))); have GE101 := Ak ((zb hg (bw HB.out))); replace HB := Ak (below_step (bw HB.out) hb); clear hb hbox hg; have hcz4_0 := zk0 BK101.out; have hcz4_1 := zk1 BK101.out; have hcz4_2 := zk2 BK101.out; have hcz4_3 := zk3 BK101.out; have hfz4_0 := blk_frozen BK101.out 0; have hfz4_1 := blk_frozen BK101.out 1; have hfz4_2 := blk_frozen BK101.out 2; have hfz4_3 := blk_frozen BK101.out 3))
 go_ret
 exact ⟨by first | rfl | (simp [errW_none, errW_some] <;> rfl) | (simp only [← hji2]; first | rfl | (simp [errW_none, errW_some] <;> rfl)) | (simp [*, errW_none, errW_some] <;> rfl), bw1 HB.out GE101.out⟩

def impl_piecesOf.f (l0 : List Int) : Option (Int) := some (mx (wrap64 (Int.tdiv (wrap64 ((wrap64 ((l0.length : Int) + 44)) - 1)) 44)) 1)
set_option maxHeartbeats 8000000 in
set_option maxRecDepth 100000 in
theorem impl_piecesOf.calls (A0 : Option Addr) (c0 : Nat) (l0 : List Int) (r : Int) (w : World) (hr0 : Kd.C (Kd.int .u8) w A0 l0.length l0) (hc0 : l0.length ≤ c0) (h : impl_piecesOf.f l0 = some r) :
  Calls Try.prog 65 #[.slice A0 l0.length c0] w fun e w' => e = .returned (.int .i64 r) ∧ Below w.heap.size w w' := by
 have HR0 := Ak hr0
 have HC0 := Ak hc0
 clear hr0 hc0
 have HB := Ak (Below.refl w.heap.size w)
 have H := h
 unfold impl_piecesOf.f at H
 clear h
 obtain ⟨ji2, hji2⟩ : ∃ j_ : Int, (mx (wrap64 (Int.tdiv (wrap64 ((wrap64 ((l0.length : Int) + 44)) - 1)) 44)) 1) = j_ := ⟨_, rfl⟩
 replace H : (some ji2) = some r := by first | (rw [hji2] at H; exact H) | (simp only [hji2] at H ⊢; exact H)
 (try (have hji2l : 1 ≤ ji2 := by (rw [← hji2]; unfold mx; (repeat' split) <;> omega)))
 (try (have hji2m : 0 ≤ ji2 := by omega))
 have hji2_ : (if (wrap64 (Int.tdiv (wrap64 ((wrap64 ((l0.length : Int) + 44)) - 1)) 44)) < 1 then 1 else (wrap64 (Int.tdiv (wrap64 ((wrap64 ((l0.length : Int) + 44)) - 1)) 44))) = ji2 := hji2
 obtain rfl := Option.some.inj H
 go_enter Try.func65, Try.ntmps65
 go_wp2
 go_ret
 exact ⟨by first | rfl | (simp [errW_none, errW_some] <;> rfl) | (simp only [← hji2]; first | rfl | (simp [errW_none, errW_some] <;> rfl)) | (simp [*, errW_none, errW_some] <;> rfl), bw HB.out⟩

def impl_putLow.l0 : Nat → List Int → Int → Int → Int → Option (List Int)
 | 0, _, _, _, _ => none
 | k + 1, x0, x1, x8, x9 => if x9 < x8 then (if 0 ≤ (IntKind.u64.wrap (wrap64 (8 * x9))) then (if x0.length < 140737488355328 then (impl_putLow.l0 k (x0 ++ [(shr .i64 x1 (IntKind.u64.wrap (wrap64 (8 * x9)))) % 256]) x1 x8 (wrap64 (x9 + 1))) else (none)) else (none)) else (some x0)
def impl_putLow.f (k : Nat) (l0 : List Int) (a1 : Int) (a2 : Int) : Option (List Int) := impl_putLow.l0 k l0 a1 a2 0
set_option maxHeartbeats 8000000 in
set_option maxRecDepth 100000 in
theorem impl_putLow.calls (k : Nat) (P0_ : Nat → Prop) (u9000_ : Value) (l0 : List Int) (a1 : Int) (a2 : Int) (r : List Int) (w0 w : World) (hB : Below w0.heap.size w0 w) (ho0 : Kd.R (Kd.int .u8) 5 w w0.heap.size P0_ u9000_ l0) (h : impl_putLow.f k l0 a1 a2 = some r) :
  Calls Try.prog 112 #[u9000_, .int .i64 a1, .int .i64 a2] w fun e w' => ∃ v0_ : Value, e = .returned (v0_) ∧ Kd.R (Kd.int .u8) 5 w' w0.heap.size (fun k_ => (P0_ k_ ∨ w.heap.size ≤ k_)) v0_ r ∧ Below w0.heap.size w0 w' ∧ Kept w w' (fun k_ => P0_ k_) := by
 have HO0 := Ak (show Kd.R (Kd.int .u8) 5 w w0.heap.size (fun k_ => (P0_ k_ ∨ w.heap.size ≤ k_)) u9000_ l0 from Kd.R_mono ho0 (fun k_ hk => (.inl hk)))
 have HK := Ak (Kept.refl w (fun k_ => P0_ k_))
 have HW0 := Ak hB.size
 have HB := Ak hB
 clear hB
 have H := h
 unfold impl_putLow.f at H
 clear h
 have H' := Ak H
 clear H
 go_enter Try.func112, Try.ntmps112
 go_wp2
 go_loopg [0, 9] k (fun kq v0 v9 w' => ∃ (x0_1 : List Int) (x9_1 : Int), v9 = .int .i64 x9_1 ∧ Aside0 (impl_putLow.l0 kq x0_1 a1 a2 x9_1 = some r) ∧ Aside0 (kq ≤ k) ∧ Aside0 (Kd.R (Kd.int .u8) 5 w' w0.heap.size (fun k_ => (P0_ k_ ∨ w.heap.size ≤ k_)) v0 x0_1) ∧ Aside0 (Kept w w' (fun k_ => P0_ k_)) ∧ Aside0 (Below w0.heap.size w0 w'))
 case atStart => exact ⟨(l0), (0), (by first | rfl | (simp; done) | (simp [*]; done)), H', ⟨Nat.le_refl _⟩, ⟨rq HO0.out⟩, ⟨by repeat (first | (with_reducible first | exact HK.out | apply Kept.alloc | apply Kept.drewN | apply Kept.drew) | exact HK.out)⟩, ⟨bw HB.out⟩⟩
 case round =>
  clear H'
  obtain ⟨x0_1, x9_1, rfl, HA, HK1, HO_0, HK, HB⟩ := hrel
  cases gk with
  | zero => exact absurd HA.out (by simp [impl_putLow.l0])
  | succ k1 =>
   have H := HA.out
   clear HA
   simp only [impl_putLow.l0] at H
   by_cases c4 : x9_1 < a2
   ·rw [if_pos c4] at H
    have c4b0 := decide_eq_true c4
    clear c4
    obtain ⟨ji5, hji5⟩ : ∃ j_ : Int, (IntKind.u64.wrap (wrap64 (8 * x9_1))) = j_ := ⟨_, rfl⟩
    replace H : (if 0 ≤ (ji5) then (if x0_1.length < 140737488355328 then (impl_putLow.l0 k1 (x0_1 ++ [(shr .i64 a1 (ji5)) % 256]) a1 a2 (wrap64 (x9_1 + 1))) else (none)) else (none)) = some r := by first | (rw [hji5] at H; exact H) | (simp only [hji5] at H ⊢; exact H)
    by_cases c6 : 0 ≤ (ji5)
    ·rw [if_pos c6] at H
     have c6b0 := eq_true c6
     have c6b1 := decide_eq_true c6
     clear c6
     obtain ⟨ji7, hji7⟩ : ∃ j_ : Int, (shr .i64 a1 (ji5)) = j_ := ⟨_, rfl⟩
     replace H : (if x0_1.length < 140737488355328 then (impl_putLow.l0 k1 (x0_1 ++ [(ji7) % 256]) a1 a2 (wrap64 (x9_1 + 1))) else (none)) = some r := by first | (rw [hji7] at H; exact H) | (simp only [hji7] at H ⊢; exact H)
     have hji7_ : (a1 / 2 ^ min (ji5).toNat 64) = ji7 := hji7
     have hji7z : (ji5) ≤ 64 → (a1 / 2 ^ (ji5).toNat) = ji7 := shr_small hji7
     by_cases c8 : x0_1.length < 140737488355328
     ·rw [if_pos c8] at H
      have LMc8 := Ak c8
      clear c8
      generalize hy102 : (x0_1 ++ [(ji7) % 256] : List Int) = y102 at H
      try rw [Option.bind_some] at H
      have Ny102 := Ak hy102.symm
      clear hy102
      have H' := Ak H
      clear H
      go_wp2_with (first | ((with_reducible refine gate_builtin (b := .append) (xs := #[.tmp 12, .tmp 19]) rfl ?_); at_builtin; refine Kd.R_append (Kd.int .u8) (w0 := w0) w0.heap.size rfl (.tmp 12) (.tmp 19) 22 5 (.int .u8 0) 1 rfl Try.underlying22 info5 rfl (by decide) (by omega) u0 x0_1 ((ji7) % 256) [.int .u8 ((ji7) % 256)] (fun k_ => (P0_ k_ ∨ w.heap.size ≤ k_)) (fun _ => False) rfl rfl ?aP (fun _ hk => hk.elim) ?aF ?aO ?aB ?aS ?aL ?_; (case aP => exact rfl); (case aB => exact (bw HB.out)); (case aF => exact (fun k_ hk => (.inr (Nat.le_trans (by first | exact HK.out.1 | exact (show Kept w _ (fun k_ => P0_ k_) from by repeat (first | (with_reducible first | exact HK.out | apply Kept.alloc | apply Kept.drewN | apply Kept.drew) | exact HK.out)).1) hk)))); (case aO => exact (rq HO_0.out)); (case aS => exact (below_size (bw HB.out))); (case aL => have := LMc8.out; omega); intro v103 w9 ho hb hg hat; rw [← Ny102.out] at ho; replace HB := Ak (hb); replace HK := Ak (Kept.of_grown (S := (fun k_ => P0_ k_)) hg (by repeat (first | (with_reducible first | exact HK.out | apply Kept.alloc | apply Kept.drewN | apply Kept.drew) | exact HK.out)) (fun k_ e_ => (HO_0.out.1 k_ e_))); have HO104 := Ak (ho); clear HO_0; clear ho hb hg hat))
      go_roundg k1
      case measure => have := HK1.out; omega
      case rel => exact ⟨(y102), (wrap64 (x9_1 + 1)), (by first | rfl | (simp; done) | (simp [*]; done)), H', ⟨by have := HK1.out; omega⟩, ⟨rq HO104.out⟩, ⟨by repeat (first | (with_reducible first | exact HK.out | apply Kept.alloc | apply Kept.drewN | apply Kept.drew) | exact HK.out)⟩, ⟨bw HB.out⟩⟩
     ·rw [if_neg c8] at H
      exact absurd H (by simp)
    ·rw [if_neg c6] at H
     exact absurd H (by simp)
   ·rw [if_neg c4] at H
    have c4b0 := decide_eq_false c4
    clear c4
    obtain rfl := Option.some.inj H
    go_wp2
    go_ret
    exact ⟨_, zw, rq HO_0.out, bw HB.out, by repeat (first | (with_reducible first | exact HK.out | apply Kept.alloc | apply Kept.drewN | apply Kept.drew) | exact HK.out)⟩

def impl_sumOf.l0 : Nat → Int → List Int → Int → Int → Option (Int)
 | 0, _, _, _, _ => none
 | k + 1, x3, x6, x7, x8 => if x8 < x7 then (if 0 ≤ x8 then (if x8 < (x6.length : Int) then (impl_sumOf.l0 k (((Go.bits .xor .u32 x3 ((rd x6 x8) % 4294967296)) * 16777619) % 4294967296) x6 x7 (wrap64 (x8 + 1))) else (none)) else (none)) else (some (wrap64 (x3)))
def impl_sumOf.f (k : Nat) (l0 : List Int) : Option (Int) := impl_sumOf.l0 k 2166136261 l0 (l0.length : Int) 0
set_option maxHeartbeats 8000000 in
set_option maxRecDepth 100000 in
theorem impl_sumOf.calls (k : Nat) (A0 : Option Addr) (c0 : Nat) (l0 : List Int) (r : Int) (w : World) (hr0 : Kd.C (Kd.int .u8) w A0 l0.length l0) (hc0 : l0.length ≤ c0) (h : impl_sumOf.f k l0 = some r) :
  Calls Try.prog 113 #[.slice A0 l0.length c0] w fun e w' => e = .returned (.int .i64 r) ∧ Drawn0 w w' := by
 have HR0 := Ak hr0
 have HC0 := Ak hc0
 clear hr0 hc0
 have H := h
 unfold impl_sumOf.f at H
 clear h
 have H' := Ak H
 clear H
 go_enter Try.func113, Try.ntmps113
 go_wp2
 go_loopg [3, 8] k (fun kq v3 v8 w' => ∃ (x3_1 : Int) (x8_1 : Int), v3 = .int .u32 x3_1 ∧ v8 = .int .i64 x8_1 ∧ Aside0 (impl_sumOf.l0 kq x3_1 l0 (l0.length : Int) x8_1 = some r) ∧ Aside0 (kq ≤ k) ∧ Drawn0 w w')
 case atStart => exact ⟨(2166136261), (0), (by first | rfl | (simp; done) | (simp [*]; done)), (by first | rfl | (simp; done) | (simp [*]; done)), H', ⟨Nat.le_refl _⟩, by repeat (first | exact Drawn0.refl _ | apply Drawn0.step)⟩
 case round =>
  clear H'
  obtain ⟨x3_1, x8_1, rfl, rfl, HA, HK1, ⟨m1, rfl⟩⟩ := hrel
  cases gk with
  | zero => exact absurd HA.out (by simp [impl_sumOf.l0])
  | succ k1 =>
   have H := HA.out
   clear HA
   simp only [impl_sumOf.l0] at H
   by_cases c2 : x8_1 < (l0.length : Int)
   ·rw [if_pos c2] at H
    have c2b0 := decide_eq_true c2
    clear c2
    by_cases c3 : 0 ≤ x8_1
    ·rw [if_pos c3] at H
     have c3b0 := decide_eq_true c3
     clear c3
     by_cases c4 : x8_1 < (l0.length : Int)
     ·rw [if_pos c4] at H
      have c4b0 := decide_eq_true c4
      clear c4
      have H' := Ak H
      clear H
      have p105 : 0 ≤ (x8_1 : Int) := of_decide_eq_true (by first | (with_reducible assumption) | assumption)
      have q105 : x8_1 < (l0.length : Int) := of_decide_eq_true (by first | (with_reducible assumption) | assumption)
      obtain ⟨ad105, e105, hx105_0⟩ := Kd.at_int HR0.out x8_1 p105 q105
      cases e105
      replace p105 := eq_true p105
      replace q105 := eq_true q105
      go_wp2
      go_roundg k1
      case measure => have := HK1.out; omega
      case rel => exact ⟨(((Go.bits .xor .u32 x3_1 ((rd l0 x8_1) % 4294967296)) * 16777619) % 4294967296), (wrap64 (x8_1 + 1)), (by first | rfl | (simp; done) | (simp [*]; done)), (by first | rfl | (simp; done) | (simp [*]; done)), H', ⟨by have := HK1.out; omega⟩, by repeat (first | exact Drawn0.refl _ | apply Drawn0.step)⟩
     ·rw [if_neg c4] at H
      exact absurd H (by simp)
    ·rw [if_neg c3] at H
     exact absurd H (by simp)
   ·rw [if_neg c2] at H
    have c2b0 := decide_eq_false c2
    clear c2
    obtain rfl := Option.some.inj H
    go_wp2
    go_ret
    exact ⟨by first | rfl | (simp; done) | (simp [*]; done), by repeat (first | exact Drawn0.refl _ | apply Drawn0.step)⟩

def impl_sector_bytes.f (k : Nat) (a0_0 : Int) (a0_1 : Int) (a0_2 : Int) (l0_3 : List Int) : Option (List Int) := (impl_putLow.f k ([] : List Int) a0_0 4).bind fun t107 => ((impl_putLow.f k t107 a0_1 4).bind fun t110 => ((some (([a0_2, ((l0_3.length : Int)) % 256] : List Int) : List Int)).bind fun y113 => (if t110.length + y113.length < 140737488355328 then ((some (t110 ++ y113 : List Int)).bind fun y116 => (if 0 ≤ (wrap64 (16 - (y116.length : Int))) then (if y116.length + (wrap64 (16 - (y116.length : Int)) : Int).toNat < 140737488355328 then ((some (y116 ++ List.replicate (wrap64 (16 - (y116.length : Int)) : Int).toNat 0 : List Int)).bind fun y119 => (if y119.length + l0_3.length < 140737488355328 then ((some (y119 ++ l0_3 : List Int)).bind fun y122 => (if 0 ≤ (wrap64 (60 - (y122.length : Int))) then (if y122.length + (wrap64 (60 - (y122.length : Int)) : Int).toNat < 140737488355328 then ((some (y122 ++ List.replicate (wrap64 (60 - (y122.length : Int)) : Int).toNat 0 : List Int)).bind fun y125 => ((impl_sumOf.f k y125).bind fun t128 => ((impl_putLow.f k y125 t128 4).bind fun t129 => (some t129)))) else (none)) else (none))) else (none))) else (none)) else (none))) else (none))))
set_option maxHeartbeats 8000000 in
set_option maxRecDepth 100000 in
theorem impl_sector_bytes.calls (k : Nat) (a0_0 : Int) (a0_1 : Int) (a0_2 : Int) (A0_3 : Option Addr) (c0_3 : Nat) (l0_3 : List Int) (r : List Int) (w : World) (hr0_3 : Kd.C (Kd.int .u8) w A0_3 l0_3.length l0_3) (hc0_3 : l0_3.length ≤ c0_3) (h : impl_sector_bytes.f k a0_0 a0_1 a0_2 l0_3 = some r) :
  Calls Try.prog 66 #[.agg #[.int .i64 a0_0, .int .i64 a0_1, .int .u8 a0_2, .slice A0_3 l0_3.length c0_3]] w fun e w' => ∃ v0_ : Value, e = .returned (v0_) ∧ Kd.R (Kd.int .u8) 5 w' w.heap.size (fun _ => True) v0_ r ∧ Below w.heap.size w w' := by
 have hu93 := Try.underlying93
 have HR0_3 := Ak hr0_3
 have HC0_3 := Ak hc0_3
 clear hr0_3 hc0_3
 have HB := Ak (Below.refl w.heap.size w)
 have H := h
 unfold impl_sector_bytes.f at H
 clear h
 replace H := Option.bind_eq_some_iff.mp H
 obtain ⟨t107, A20, H⟩ := H
 have A2 := Ak A20
 clear A20
 replace H := Option.bind_eq_some_iff.mp H
 obtain ⟨t110, A30, H⟩ := H
 have A3 := Ak A30
 clear A30
 generalize hy113 : (([a0_2, ((l0_3.length : Int)) % 256] : List Int) : List Int) = y113 at H
 try rw [Option.bind_some] at H
 have Ny113 := Ak hy113.symm
 clear hy113
 by_cases c4 : t110.length + y113.length < 140737488355328
 ·rw [if_pos c4] at H
  have LMc4 := Ak c4
  clear c4
  generalize hy116 : (t110 ++ y113 : List Int) = y116 at H
  try rw [Option.bind_some] at H
  have Ny116 := Ak hy116.symm
  clear hy116
  obtain ⟨ji5, hji5⟩ : ∃ j_ : Int, (wrap64 (16 - (y116.length : Int))) = j_ := ⟨_, rfl⟩
  replace H : (if 0 ≤ (ji5) then (if y116.length + (ji5 : Int).toNat < 140737488355328 then ((some (y116 ++ List.replicate (ji5 : Int).toNat 0 : List Int)).bind fun y119 => (if y119.length + l0_3.length < 140737488355328 then ((some (y119 ++ l0_3 : List Int)).bind fun y122 => (if 0 ≤ (wrap64 (60 - (y122.length : Int))) then (if y122.length + (wrap64 (60 - (y122.length : Int)) : Int).toNat < 140737488355328 then ((some (y122 ++ List.replicate (wrap64 (60 - (y122.length : Int)) : Int).toNat 0 : List Int)).bind fun y125 => ((impl_sumOf.f k y125).bind fun t128 => ((impl_putLow.f k y125 t128 4).bind fun t129 => (some t129)))) else (none)) else (none))) else (none))) else (none)) else (none)) = some r := by first | (rw [hji5] at H; exact H) | (simp only [hji5] at H ⊢; exact H)
  (try rw [hji5] at A2)
  (try rw [hji5] at A3)
  have hji5w : (IntKind.i64.wrap (16 - (y116.length : Int))) = ji5 := (i64_w _).trans hji5
  by_cases c6 : 0 ≤ (ji5)
  ·rw [if_pos c6] at H
   have c6b0 := eq_true c6
   have c6b1 := decide_eq_true c6
   clear c6
   by_cases c7 : y116.length + (ji5 : Int).toNat < 140737488355328
   ·rw [if_pos c7] at H
    have LMc7 := Ak c7
    clear c7
    generalize hy119 : (y116 ++ List.replicate (ji5 : Int).toNat 0 : List Int) = y119 at H
    try rw [Option.bind_some] at H
    have Ny119 := Ak hy119.symm
    clear hy119
    by_cases c8 : y119.length + l0_3.length < 140737488355328
    ·rw [if_pos c8] at H
     have LMc8 := Ak c8
     clear c8
     generalize hy122 : (y119 ++ l0_3 : List Int) = y122 at H
     try rw [Option.bind_some] at H
     have Ny122 := Ak hy122.symm
     clear hy122
     obtain ⟨ji9, hji9⟩ : ∃ j_ : Int, (wrap64 (60 - (y122.length : Int))) = j_ := ⟨_, rfl⟩
     replace H : (if 0 ≤ (ji9) then (if y122.length + (ji9 : Int).toNat < 140737488355328 then ((some (y122 ++ List.replicate (ji9 : Int).toNat 0 : List Int)).bind fun y125 => ((impl_sumOf.f k y125).bind fun t128 => ((impl_putLow.f k y125 t128 4).bind fun t129 => (some t129)))) else (none)) else (none)) = some r := by first | (rw [hji9] at H; exact H) | (simp only [hji9] at H ⊢; exact H)
     (try rw [hji9] at A2)
     (try rw [hji9] at A3)
     have hji9w : (IntKind.i64.wrap (60 - (y122.length : Int))) = ji9 := (i64_w _).trans hji9
     by_cases c10 : 0 ≤ (ji9)
     ·rw [if_pos c10] at H
      have c10b0 := eq_true c10
      have c10b1 := decide_eq_true c10
      clear c10
      by_cases c11 : y122.length + (ji9 : Int).toNat < 140737488355328
      ·rw [if_pos c11] at H
       have LMc11 := Ak c11
       clear c11
       generalize hy125 : (y122 ++ List.replicate (ji9 : Int).toNat 0 : List Int) = y125 at H
       try rw [Option.bind_some] at H
       have Ny125 := Ak hy125.symm
       clear hy125
       replace H := Option.bind_eq_some_iff.mp H
       obtain ⟨t128, A120, H⟩ := H
       have A12 := Ak A120
       clear A120
       replace H := Option.bind_eq_some_iff.mp H
       obtain ⟨t129, A130, H⟩ := H
       have A13 := Ak A130
       clear A130
       obtain rfl := Option.some.inj H
       go_enter Try.func66, Try.ntmps66
       try go_wp2_with (first | ((with_reducible refine gate_dst (N := 1) rfl ?_); refine box_event ?hg (N := 1) ?hd (cs := #[.int .i64 a0_0, .int .i64 a0_1, .int .u8 a0_2, .slice A0_3 l0_3.length c0_3]) (t := 93) ?hr ?_; (case hd => rfl); (case hg => rfl); (case hr => first | (go_simp; done) | (go_simp; rfl)); intro gb106 hg w14 hbox hb; have BK106 := Ak (hbox); have GW106 := Ak ((zb hg (bw HB.out))); have GE106 := Ak ((zb hg (bw HB.out))); replace HB := Ak (below_step (bw HB.out) hb); clear hb hbox hg))
       replace BK106 := Ak (blk_drew BK106.out)
       replace HB := Ak (below_drew1 HB.out)
       refine start_ (n := 7) (S := fun w' => w'.cell? ⟨gb106, 0, none⟩ = some (.int .i64 a0_0) ∧ w'.cell? ⟨gb106, 1, none⟩ = some (.int .i64 a0_1) ∧ w'.cell? ⟨gb106, 2, none⟩ = some (.int .u8 a0_2) ∧ w'.cell? ⟨gb106, 3, none⟩ = some (.slice A0_3 l0_3.length c0_3)) (ds := []) #[false, false, false, false, false, false, false] (by kernel_rfl) rfl rfl ⟨zk0 BK106.out, zk1 BK106.out, zk2 BK106.out, zk3 BK106.out⟩ (fun hHeld => ?_)
       generalize w14.drew = w15 at BK106 HB hHeld ⊢
       refine pu 0 4 (h := ?_)
       refine pu 3 7 (h := ?_)
       refine ta 1 5 hHeld (h := ?_)
       refine ta 4 8 hHeld (h := ?_)
       refine on 2 (some 6) (h := fun K hK => ?_)
       refine goes_ Try.func112 (by kernel_rfl) rfl #[.slice none 0 0, .int .i64 a0_0, .int .i64 4] (by rfl) rfl rfl gm ?_
       refine (impl_putLow.calls k (fun k_ => some k_ = (.slice none 0 0 : Value).ownBlock) (.slice none 0 0) ([] : List Int) a0_0 4 t107 w _ ?side1 ?side2 A2.out).mono ?_
       (case side1 => repeat (first | (with_reducible first | exact HB.out | apply below_alloc | apply pw_below_drewN | apply below_drew1 | refine below_set ?_ GE106.out) | exact HB.out))
       (case side2 => exact Kd.R_nil _ _ _ _ _)
       rintro e w16 ⟨v108, rfl, ho0, hb, hkp⟩
       refine ⟨_, rfl, ?_⟩
       replace BK106 := Ak (blk_kept (bq BK106.out) hkp (fun hs_ => (fun e_ => by simp [Value.ownBlock] at e_) hs_))
       have HO109 := Ak (Kd.R_mono (ok' := fun k_ => True) ho0 (fun k_ hk_ => trivial))
       replace HB := Ak (hb)
       obtain ⟨Ao17, co17, eo17⟩ := Kd.R_slice HO109.out
       (first | subst eo17 | (injection eo17 with f1_ f2_ f3_; have f4_ := f1_.symm; have f5_ := f3_.symm; clear f1_ f2_ f3_; subst f4_; subst f5_))
       refine hK.out _ _ ⟨zk0 BK106.out, zk1 BK106.out, zk2 BK106.out, zk3 BK106.out⟩ (fun hHeld => ?_)
       clear hK K
       refine norm_ (a' := ?_) ?_ ?_
       rotate_left
       ·show Act.put _ (some 6) _ = _
        simp only [Act.put, sT, sZ, sS, i64_w, i32_w]
        rfl
       refine on 5 (some 9) (h := fun K hK => ?_)
       refine goes_ Try.func112 (by kernel_rfl) rfl #[.slice Ao17 t107.length co17, .int .i64 a0_1, .int .i64 4] (by rfl) rfl rfl gm ?_
       with_reducible refine (impl_putLow.calls k (fun k_ => some k_ = (.slice Ao17 t107.length co17 : Value).ownBlock) (.slice Ao17 t107.length co17) t107 a0_1 4 t110 w _ ?side1 ?side2 A3.out).mono ?_
       (case side1 => repeat (first | (with_reducible first | exact HB.out | apply below_alloc | apply pw_below_drewN | apply below_drew1 | refine below_set ?_ GE106.out) | exact HB.out))
       (case side2 => exact Kd.R_tight rfl HO109.out)
       rintro e w18 ⟨v111, rfl, ho0, hb, hkp⟩
       refine ⟨_, rfl, ?_⟩
       replace BK106 := Ak (blk_kept (bq BK106.out) hkp (fun hs_ => (fun e_ => (Kd.R_ne HO109.out BK106.out (by decide)) e_) hs_))
       have HO112 := Ak (Kd.R_mono (ok' := fun k_ => True) ho0 (fun k_ hk_ => trivial))
       replace HB := Ak (hb)
       clear HO109
       refine hK.out _ _ ⟨zk0 BK106.out, zk1 BK106.out, zk2 BK106.out, zk3 BK106.out⟩ (fun hHeld => ?_)
       clear hK K
       refine norm_ (a' := ?_) ?_ ?_
       rotate_left
       ·show Act.put _ (some 9) _ = _
        simp only [Act.put, sT, sZ, sS, i64_w, i32_w]
        rfl
       refine pu 6 3 (h := ?_)
       refine done_ (by kernel_rfl) ?_
       have hcz19_0 := zk0 BK106.out
       have hcz19_1 := zk1 BK106.out
       have hcz19_2 := zk2 BK106.out
       have hcz19_3 := zk3 BK106.out
       have hfz19_0 := blk_frozen BK106.out 0
       have hfz19_1 := blk_frozen BK106.out 1
       have hfz19_2 := blk_frozen BK106.out 2
       have hfz19_3 := blk_frozen BK106.out 3
       try go_wp2_with (first | ((with_reducible refine gate_dst (N := 17) rfl ?_); refine Kd.R_lit (Kd.int .u8) _ 5 ?hg (N := 17) ?hd (xs := ([a0_2, ((l0_3.length : Int)) % 256] : List Int)) (inner := [.int .u8 a0_2, .int .u8 (((l0_3.length : Int)) % 256)]) (ok := fun _ => True) (okp := fun _ => True) ?hr ?hp (fun _ hk => hk) trivial (Below.refl _ _) (Nat.le_refl _) (by simp) ?_; (case hd => rfl); (case hg => rfl); (case hr => first | (go_simp; done) | (go_simp; rfl)); (case hp => exact (Reps.one (show Kd.M (Kd.int .u8) _ _ _ a0_2 [.int .u8 a0_2] from rfl) (Reps.one (show Kd.M (Kd.int .u8) _ _ _ (((l0_3.length : Int)) % 256) [.int .u8 (((l0_3.length : Int)) % 256)] from rfl) (Reps.none _ _)))); intro v114 w20 ho21 hb hg_ hnew_; clear hg_ hnew_; (first | rw [← Ny113.out] at ho21 | (simp only [Int.reduceToNat] at ho21; rw [← Ny113.out] at ho21)); have HO115 := Ak (Kd.R_lower (Kd.R_new' ho21 (Kd.R_lt (rq HO112.out))) (below_size (bw1 HB.out GE106.out))); replace HO112 := Ak (Kd.R_elder' (rq HO112.out) (Kd.R_base ho21) hb); replace BK106 := Ak (blk_below (bq BK106.out) hb); replace HB := Ak (below_step (bw1 HB.out GE106.out) hb); clear hb ho21; obtain ⟨Ao23, co23, eo23⟩ := Kd.R_slice HO115.out; subst eo23) | ((with_reducible refine gate_builtin (b := .append) (xs := #[.tmp 10, .tmp 17]) rfl ?_); at_builtin; refine Kd.R_append_rows (Kd.int .u8) (w0 := w) w.heap.size rfl (.tmp 10) (.tmp 17) 22 5 (.int .u8 0) 1 rfl Try.underlying22 info5 rfl (by decide) (by omega) v111 t110 y113 _ _ _ (fun k_ => Nb k_ (.slice Ao23 y113.length co23)) (fun _ => False) rfl rfl ?aO ?aR (fun _ _ h => h) (fun _ h => h.elim) ?aF ?aB ?aS ?aL ?_; (case aR => repeat (first | exact (Kd.R_reads' HO115.out).2.2 | (with_reducible refine Kd.C_alloc ?_ _) | (with_reducible refine Kd.C_drewN ?_ _) | (with_reducible refine Kd.C_drew ?_))); (case aB => exact (bw1 HB.out GE106.out)); (case aF => exact (fun k_ hk => Kd.fresh' (Kd.R_lt (rq HO115.out)) k_ hk)); (case aO => exact (by refine rq ?_; exact Kd.R_mono HO112.out (fun _ hk => hk.2))); (case aS => exact (below_size (bw1 HB.out GE106.out))); (case aL => have := LMc4.out; omega); intro v117 w22 ho hb hg hat; rw [← Ny116.out] at ho; replace BK106 := Ak (blk_grown (g := gb106) (o := .cells #[.int .i64 a0_0, .int .i64 a0_1, .int .u8 a0_2, .slice A0_3 l0_3.length c0_3] 93 (0, 0)) (bq BK106.out) hg (Kd.R_ne HO112.out BK106.out (by decide))); replace HO115 := Ak (Kd.R_after (ok := (fun _ => True)) (rq HO115.out) hg hat); replace HB := Ak (hb); have HO118 := Ak (ho); clear HO112; clear ho hb hg hat; obtain ⟨Ao24, co24, eo24⟩ := Kd.R_slice HO118.out; subst eo24) | (at_builtin; refine Kd.R_append_zeros (Kd.int .u8) (w0 := w) w.heap.size rfl (.tmp 19) (.tmp 22) 22 3 5 (.int .u8 0) 1 rfl Try.underlying22 Try.underlying3 info5 rfl (by decide) (by omega) (.slice Ao24 y116.length co24) y116 0 (ji5 : Int) (fun k_ => Nb k_ (.slice Ao23 y113.length co23)) rfl rfl rfl ?aF ?aO (of_decide_eq_true (by first | (with_reducible assumption) | assumption)) ?aB ?aS ?aL ?_; (case aB => exact (bw1 HB.out GE106.out)); (case aF => exact (fun k_ hk => Kd.fresh' (Kd.R_lt (rq HO115.out)) k_ hk)); (case aO => exact (rq HO118.out)); (case aS => exact (below_size (bw1 HB.out GE106.out))); (case aL => have := LMc7.out; omega); intro v120 w25 ho hb hg hat; rw [← Ny119.out] at ho; replace BK106 := Ak (blk_grown (g := gb106) (o := .cells #[.int .i64 a0_0, .int .i64 a0_1, .int .u8 a0_2, .slice A0_3 l0_3.length c0_3] 93 (0, 0)) (bq BK106.out) hg (Kd.R_ne HO118.out BK106.out (by decide))); replace HO115 := Ak (Kd.R_after (ok := (fun _ => True)) (rq HO115.out) hg hat); replace HB := Ak (hb); have HO121 := Ak (ho); clear HO118; clear ho hb hg hat; have hcz26_0 := zk0 BK106.out; have hcz26_1 := zk1 BK106.out; have hcz26_2 := zk2 BK106.out; have hcz26_3 := zk3 BK106.out; have hfz26_0 := blk_frozen BK106.out 0; have hfz26_1 := blk_frozen BK106.out 1; have hfz26_2 := blk_frozen BK106.out 2; have hfz26_3 := blk_frozen BK106.out 3) | ((with_reducible refine gate_builtin (b := .append) (xs := #[.tmp 24, .tmp 26]) rfl ?_); at_builtin; refine Kd.R_append_rows (Kd.int .u8) (w0 := w) w.heap.size rfl (.tmp 24) (.tmp 26) 22 5 (.int .u8 0) 1 rfl Try.underlying22 info5 rfl (by decide) (by omega) v120 y119 l0_3 _ _ _ (fun k_ => Nb k_ (.slice Ao23 y113.length co23)) (fun _ => False) rfl rfl ?aO ?aR (fun _ _ h => h) (fun _ h => h.elim) ?aF ?aB ?aS ?aL ?_; (case aR => exact zq (Kd.C_below HR0_3.out HB.out)); (case aB => exact (bw1 HB.out GE106.out)); (case aF => exact (fun k_ hk => Kd.fresh' (Kd.R_lt (rq HO115.out)) k_ hk)); (case aO => exact (rq HO121.out)); (case aS => exact (below_size (bw1 HB.out GE106.out))); (case aL => have := LMc8.out; omega); intro v123 w27 ho hb hg hat; rw [← Ny122.out] at ho; replace BK106 := Ak (blk_grown (g := gb106) (o := .cells #[.int .i64 a0_0, .int .i64 a0_1, .int .u8 a0_2, .slice A0_3 l0_3.length c0_3] 93 (0, 0)) (bq BK106.out) hg (Kd.R_ne HO121.out BK106.out (by decide))); replace HO115 := Ak (Kd.R_after (ok := (fun _ => True)) (rq HO115.out) hg hat); replace HB := Ak (hb); have HO124 := Ak (ho); clear HO121; clear ho hb hg hat; obtain ⟨Ao28, co28, eo28⟩ := Kd.R_slice HO124.out; subst eo28) | (at_builtin; refine Kd.R_append_zeros (Kd.int .u8) (w0 := w) w.heap.size rfl (.tmp 28) (.tmp 31) 22 3 5 (.int .u8 0) 1 rfl Try.underlying22 Try.underlying3 info5 rfl (by decide) (by omega) (.slice Ao28 y122.length co28) y122 0 (ji9 : Int) (fun k_ => Nb k_ (.slice Ao23 y113.length co23)) rfl rfl rfl ?aF ?aO (of_decide_eq_true (by first | (with_reducible assumption) | assumption)) ?aB ?aS ?aL ?_; (case aB => exact (bw1 HB.out GE106.out)); (case aF => exact (fun k_ hk => Kd.fresh' (Kd.R_lt (rq HO115.out)) k_ hk)); (case aO => exact (rq HO124.out)); (case aS => exact (below_size (bw1 HB.out GE106.out))); (case aL => have := LMc11.out; omega); intro v126 w29 ho hb hg hat; rw [← Ny125.out] at ho; replace BK106 := Ak (blk_grown (g := gb106) (o := .cells #[.int .i64 a0_0, .int .i64 a0_1, .int .u8 a0_2, .slice A0_3 l0_3.length c0_3] 93 (0, 0)) (bq BK106.out) hg (Kd.R_ne HO124.out BK106.out (by decide))); replace HO115 := Ak (Kd.R_after (ok := (fun _ => True)) (rq HO115.out) hg hat); replace HB := Ak (hb); have HO127 := Ak (ho); clear HO124; clear ho hb hg hat; obtain ⟨Ao30, co30, eo30⟩ := Kd.R_slice HO127.out; subst eo30) | ((with_reducible refine gate_callee (f := 113) rfl ?_); refine goesL_ (some 35) rfl rfl Try.func113 (by kernel_rfl) rfl #[.slice Ao30 y125.length co30] rfl gm ?_; (with_reducible refine (impl_sumOf.calls k _ _ y125 t128 _ ?side1 ?side2 A12.out).mono ?_); (case side1 => repeat (first | exact (Kd.R_reads' HO127.out).2.2 | (with_reducible refine Kd.C_alloc ?_ _) | (with_reducible refine Kd.C_drewN ?_ _) | (with_reducible refine Kd.C_drew ?_))); (case side2 => exact (Kd.R_reads' HO127.out).2.1); rintro e w' ⟨rfl, ⟨nd, rfl⟩⟩; refine ⟨_, rfl, ?_⟩) | ((with_reducible refine gate_callee (f := 112) rfl ?_); refine goesL_ (some 36) rfl rfl Try.func112 (by kernel_rfl) rfl #[.slice Ao30 y125.length co30, .int .i64 t128, .int .i64 4] rfl gm ?_; (with_reducible refine (impl_putLow.calls k (fun k_ => some k_ = (.slice Ao30 y125.length co30 : Value).ownBlock) (.slice Ao30 y125.length co30) y125 t128 4 t129 w _ ?side1 ?side2 A13.out).mono ?_); (case side1 => repeat (first | (with_reducible first | exact HB.out | apply below_alloc | apply pw_below_drewN | apply below_drew1 | refine below_set ?_ GE106.out) | exact HB.out)); (case side2 => exact Kd.R_tight rfl HO127.out); rintro e w31 ⟨v130, rfl, ho0, hb, hkp⟩; refine ⟨_, rfl, ?_⟩; replace BK106 := Ak (blk_kept (bq BK106.out) hkp (fun hs_ => (fun e_ => (Kd.R_ne HO127.out BK106.out (by decide)) e_) hs_)); have HO131 := Ak (Kd.R_mono (ok' := fun k_ => Nb k_ (.slice Ao23 y113.length co23)) ho0 (fun k_ hk_ => Or.elim hk_ (fun hs_ => fun e_ => (((HO115.out).1 k_ e_.symm).2) hs_) (fun hn_ => (Kd.fresh' (Kd.R_lt (rq HO115.out)) k_ hn_)))); replace HO115 := Ak (Kd.R_mono (ok' := fun k_ => Nb k_ v130) (Kd.R_keptB (HO115.out) hkp (fun k_ hk_ hs_ => (hk_.2) hs_)) (fun k_ hk_ => fun e_ => Or.elim (ho0.1 k_ e_.symm) (fun hs_ => hk_.2.1 hs_) (fun hn_ => Nat.not_le.2 hk_.2.2 hn_))); replace HB := Ak (hb); clear HO127))
       go_ret
       exact ⟨_, by first | rfl | (simp [errW_none, errW_some] <;> rfl) | (simp only [← hji5, ← hji9]; first | rfl | (simp [errW_none, errW_some] <;> rfl)) | (simp [*, errW_none, errW_some] <;> rfl), by refine rq ?_; exact Kd.R_mono HO131.out (fun _ hk => trivial), bw1 HB.out GE106.out⟩
      ·rw [if_neg c11] at H
       exact absurd H (by simp)
     ·rw [if_neg c10] at H
      exact absurd H (by simp)
    ·rw [if_neg c8] at H
     exact absurd H (by simp)
   ·rw [if_neg c7] at H
    exact absurd H (by simp)
  ·rw [if_neg c6] at H
   exact absurd H (by simp)
 ·rw [if_neg c4] at H
  exact absurd H (by simp)

mutual
def impl_LogWrites.j0 : Nat → List Int → Int → Bool → Int → Int → Int → Int → Option ((List (S96)))
 | 0, _, _, _, _, _, _, _ => none
 | k + 1, x1, x5, x19, x133000, x133001, x133002, x133003 => if x19 = true then (some ([] : List (S96))) else (impl_LogWrites.l0 k x1 x5 ([] : List (S96)) x5 0 x133000 x133001 x133002 x133003)
def impl_LogWrites.l0 : Nat → List Int → Int → List (S96) → Int → Int → Int → Int → Int → Int → Option ((List (S96)))
 | 0, _, _, _, _, _, _, _, _, _ => none
 | k + 1, x1, x5, x6, x20, x21, x133000, x133001, x133002, x133003 => if x21 < x20 then (if 0 ≤ (wrap64 (x21 * 44)) then (if (wrap64 (x21 * 44)) ≤ (x1.length : Int) then (if x21 = (wrap64 (x5 - 1)) then ((impl_sector_bytes.f k x133003 (wrap64 (x133002 + x21)) 2 (x1.drop ((wrap64 (x21 * 44)) : Int).toNat)).bind fun t137 => (if x6.length < 4398046511104 then (impl_LogWrites.l0 k x1 x5 (x6 ++ [(⟨wrap64 ((wrap64 (x133000 + x133002)) + x21), t137⟩ : S96)]) x20 (wrap64 (x21 + 1)) x133000 x133001 x133002 x133003) else (none))) else (if 44 ≤ ((x1.drop ((wrap64 (x21 * 44)) : Int).toNat).length : Int) then ((impl_sector_bytes.f k x133003 (wrap64 (x133002 + x21)) 1 ((x1.drop ((wrap64 (x21 * 44)) : Int).toNat).take 44)).bind fun t144 => (if x6.length < 4398046511104 then (impl_LogWrites.l0 k x1 x5 (x6 ++ [(⟨wrap64 ((wrap64 (x133000 + x133002)) + x21), t144⟩ : S96)]) x20 (wrap64 (x21 + 1)) x133000 x133001 x133002 x133003) else (none))) else (none))) else (none)) else (none)) else (some x6)
end
def impl_LogWrites.f (k : Nat) (a0_0 : Int) (a0_1 : Int) (a0_2 : Int) (a0_3 : Int) (l1 : List Int) : Option ((List (S96))) := (impl_piecesOf.f l1).bind fun t133 => (if (l1.length : Int) > 4000 then (impl_LogWrites.j0 k l1 t133 true a0_0 a0_1 a0_2 a0_3) else ((impl_LogRoom.f a0_0 a0_1 a0_2 a0_3).bind fun t134 => (impl_LogWrites.j0 k l1 t133 (decide (t133 > t134)) a0_0 a0_1 a0_2 a0_3)))
def impl_LogWrites.T8 : Bool × List (List Nat × List Nat) := (true, [([], []), ([0], [0]), ([], []), ([2], [2]), ([], []), ([3, 4], [3, 4]), ([], []), ([], []), ([7], [7]), ([6, 8], [6, 8]), ([1, 5, 9], [1, 5, 9]), ([], []), ([11, 10, 0, 1, 2, 3, 4, 5, 6, 7, 8, 9, 10, 11], [10, 11])])
def impl_LogWrites.B8 : List Nat := [0, 1, 0, 4, 0, 28, 0, 0, 128, 448, 1023, 0, 4095]
theorem impl_LogWrites.tab8 : rtab .any (opsOf Try.f28 8) = impl_LogWrites.T8 := by kernel_rfl
theorem impl_LogWrites.bits8 : waitsOk impl_LogWrites.T8.2 impl_LogWrites.B8 = true := by kernel_rfl
def impl_LogWrites.T12 : Bool × List (List Nat × List Nat) := (true, [([], []), ([], []), ([1], [1]), ([], []), ([3], [3]), ([2, 4], [2, 4]), ([], []), ([5, 6], [5, 6]), ([], []), ([8], [8]), ([7, 9], [7, 9]), ([10], [10]), ([0, 11, 9], [0, 11]), ([12, 12, 0, 1, 2, 3, 4, 5, 6, 7, 8, 9, 10, 11, 12], [0, 12])])
def impl_LogWrites.B12 : List Nat := [0, 0, 2, 0, 8, 30, 0, 126, 0, 256, 1022, 2046, 4095, 8191]
theorem impl_LogWrites.tab12 : rtab .any (opsOf Try.f28 12) = impl_LogWrites.T12 := by kernel_rfl
theorem impl_LogWrites.bits12 : waitsOk impl_LogWrites.T12.2 impl_LogWrites.B12 = true := by kernel_rfl
set_option maxHeartbeats 8000000 in
set_option maxRecDepth 100000 in
theorem impl_LogWrites.calls (k : Nat) (a0_0 : Int) (a0_1 : Int) (a0_2 : Int) (a0_3 : Int) (A1 : Option Addr) (c1 : Nat) (l1 : List Int) (r : List (S96)) (w : World) (hr1 : Kd.C (Kd.int .u8) w A1 l1.length l1) (hc1 : l1.length ≤ c1) (h : impl_LogWrites.f k a0_0 a0_1 a0_2 a0_3 l1 = some r) :
  Calls Try.prog 28 #[.agg #[.int .i64 a0_0, .int .i64 a0_1, .int .i64 a0_2, .int .i64 a0_3], .slice A1 l1.length c1] w fun e w' => ∃ v0_ : Value, e = .returned (v0_) ∧ Kd.S k96 96 w' w.heap.size (fun _ => True) v0_ r ∧ Below w.heap.size w w' := by
 have hu32 := Try.underlying32
 have hu93 := Try.underlying93
 have hu96 := Try.underlying96
 have HR1 := Ak hr1
 have HC1 := Ak hc1
 clear hr1 hc1
 have HB := Ak (Below.refl w.heap.size w)
 have H := h
 unfold impl_LogWrites.f at H
 clear h
 replace H := Option.bind_eq_some_iff.mp H
 obtain ⟨t133, A30, H⟩ := H
 have A3 := Ak A30
 clear A30
 have HC4 := Ak H
 clear H
 go_enter Try.func28, Try.ntmps28
 go_upto_region 2 with (first | ((with_reducible refine gate_dst (N := 2) rfl ?_); refine box_event ?hg (N := 2) ?hd (cs := #[.int .i64 a0_0, .int .i64 a0_1, .int .i64 a0_2, .int .i64 a0_3]) (t := 32) ?hr ?_; (case hd => rfl); (case hg => rfl); (case hr => first | (go_simp; done) | (go_simp; rfl)); intro gb132 hg w5 hbox hb; have BK132 := Ak (hbox); have GW132 := Ak ((zb hg (bw HB.out))); have GE132 := Ak ((zb hg (bw HB.out))); replace HB := Ak (below_step (bw HB.out) hb); clear hb hbox hg) | ((with_reducible refine gate_callee (f := 65) rfl ?_); refine goesL_ (some 10) rfl rfl Try.func65 (by kernel_rfl) rfl #[.slice A1 l1.length c1] rfl gm ?_; (with_reducible refine (impl_piecesOf.calls _ _ l1 t133 _ ?side1 ?side2 A3.out).mono ?_); (case side1 => exact zq (Kd.C_below HR1.out HB.out)); (case side2 => exact HC1.out); rintro e w6 ⟨rfl, hb⟩; refine ⟨_, rfl, ?_⟩; replace BK132 := Ak (blk_below (bq BK132.out) hb); replace HB := Ak (below_step (bw1 HB.out GE132.out) hb)))
 (try simp only [Act.put, sT, sZ, sS])
 go_cut [19] (fun v19 wc => ∃ (kq : Nat) (x19_3 : Bool), v19 = .bool x19_3 ∧ Aside0 (impl_LogWrites.j0 kq l1 t133 x19_3 a0_0 a0_1 a0_2 a0_3 = some r) ∧ Aside0 (kq ≤ k) ∧ Aside0 (wc.heap[gb132]? = some (.cells #[.int .i64 a0_0, .int .i64 a0_1, .int .i64 a0_2, .int .i64 a0_3] 32 (0, 0))) ∧ Aside0 (Below w.heap.size w wc))
 case first =>
  have H := HC4.out
  clear HC4
  by_cases c7 : (l1.length : Int) > 4000
  ·rw [if_pos c7] at H
   have c7b0 : decide (4000 < (l1.length : Int)) = true := decide_eq_true c7
   have c7b1 : decide (4000 < l1.length) = true := decide_eq_true (by omega)
   clear c7
   (first | rw [c7b0] | (simp only [i64_w, i32_w]; rw [c7b0]) | skip)
   have H' := Ak H
   clear H
   go_wp2
   go_meet
   case rel => exact ⟨_, (true), (by first | rfl | (simp; done) | (simp [*]; done)), H', ⟨by first | omega | exact Nat.le_refl _⟩, ⟨bq BK132.out⟩, ⟨bw1 HB.out GE132.out⟩⟩
  ·rw [if_neg c7] at H
   have c7b0 : decide (4000 < (l1.length : Int)) = false := decide_eq_false c7
   have c7b1 : decide (4000 < l1.length) = false := decide_eq_false (by omega)
   clear c7
   (first | rw [c7b0] | (simp only [i64_w, i32_w]; rw [c7b0]) | skip)
   replace H := Option.bind_eq_some_iff.mp H
   obtain ⟨t134, A80, H⟩ := H
   have A8 := Ak A80
   clear A80
   have H' := Ak H
   clear H
   have hcz9_0 := zk0 BK132.out
   have hcz9_1 := zk1 BK132.out
   have hcz9_2 := zk2 BK132.out
   have hcz9_3 := zk3 BK132.out
   have hfz9_0 := blk_frozen BK132.out 0
   have hfz9_1 := blk_frozen BK132.out 1
   have hfz9_2 := blk_frozen BK132.out 2
   have hfz9_3 := blk_frozen BK132.out 3
   go_wp2_with (first | (go_at_call 27; (with_reducible refine (impl_LogRoom.calls a0_0 a0_1 a0_2 a0_3 t134 _ A8.out).mono ?_); rintro e w10 ⟨rfl, hb⟩; replace BK132 := Ak (blk_below (bq BK132.out) hb); replace HB := Ak (below_step (bw1 HB.out GE132.out) hb)))
   go_meet
   case rel => exact ⟨_, (decide (t133 > t134)), (by first | rfl | (simp; done) | (simp [*]; done)), H', ⟨by first | omega | exact Nat.le_refl _⟩, ⟨bq BK132.out⟩, ⟨bw1 HB.out GE132.out⟩⟩
 case rest =>
  clear HC4
  try clear c7b0
  try clear c7b1
  obtain ⟨kq, x19_3, rfl, HA, HJ3, BK132, HB⟩ := hcut
  cases kq with
  | zero => exact absurd HA.out (by simp [impl_LogWrites.j0])
  | succ kj3 =>
   have H := HA.out
   clear HA
   simp only [impl_LogWrites.j0] at H
   by_cases c11 : x19_3 = true
   ·subst c11
    rw [if_pos rfl] at H
    obtain rfl := Option.some.inj H
    go_wp2
    go_ret
    exact ⟨_, zw, by first | exact Kd.S_nil _ _ _ _ _ | exact Kd.N_nil _ _ _ _ _ | exact Kd.V_nil _ _ _ _ _ | exact Kd.Q_nil _ _ _ _ _ | exact Kd.R_nil _ _ _ _ _, bw1 HB.out GE132.out⟩
   ·replace c11 := Bool.eq_false_iff.mpr c11
    subst c11
    rw [if_neg (show ¬ (false = true) by decide)] at H
    have H' := Ak H
    clear H
    go_wp2
    go_loopg [6, 21] kj3 (fun kq v6 v21 w' => ∃ (x6_2 : List (S96)) (x21_2 : Int), v21 = .int .i64 x21_2 ∧ Aside0 (impl_LogWrites.l0 kq l1 t133 x6_2 t133 x21_2 a0_0 a0_1 a0_2 a0_3 = some r) ∧ Aside0 (kq ≤ kj3) ∧ Aside0 (Kd.S k96 96 w' w.heap.size (fun _ => True) v6 x6_2) ∧ Aside0 (w'.heap[gb132]? = some (.cells #[.int .i64 a0_0, .int .i64 a0_1, .int .i64 a0_2, .int .i64 a0_3] 32 (0, 0))) ∧ Aside0 (Below w.heap.size w w'))
    case atStart => exact ⟨(([] : List (S96))), (0), (by first | rfl | (simp; done) | (simp [*]; done)), H', ⟨Nat.le_refl _⟩, ⟨by first | exact Kd.S_nil _ _ _ _ _ | exact Kd.N_nil _ _ _ _ _ | exact Kd.V_nil _ _ _ _ _ | exact Kd.Q_nil _ _ _ _ _ | exact Kd.R_nil _ _ _ _ _⟩, ⟨bq BK132.out⟩, ⟨bw1 HB.out GE132.out⟩⟩
    case round =>
     clear H'
     try clear c7b0
     try clear c7b1
     obtain ⟨x6_2, x21_2, rfl, HA, HK2, HO_6, BK132, HB⟩ := hrel
     cases gk with
     | zero => exact absurd HA.out (by simp [impl_LogWrites.l0])
     | succ k2 =>
      have H := HA.out
      clear HA
      simp only [impl_LogWrites.l0] at H
      by_cases c12 : x21_2 < t133
      ·rw [if_pos c12] at H
       have c12b0 := decide_eq_true c12
       clear c12
       obtain ⟨ji13, hji13⟩ : ∃ j_ : Int, (wrap64 (x21_2 * 44)) = j_ := ⟨_, rfl⟩
       replace H : (if 0 ≤ (ji13) then (if (ji13) ≤ (l1.length : Int) then (if x21_2 = (wrap64 (t133 - 1)) then ((impl_sector_bytes.f k2 a0_3 (wrap64 (a0_2 + x21_2)) 2 (l1.drop ((ji13) : Int).toNat)).bind fun t137 => (if x6_2.length < 4398046511104 then (impl_LogWrites.l0 k2 l1 t133 (x6_2 ++ [(⟨wrap64 ((wrap64 (a0_0 + a0_2)) + x21_2), t137⟩ : S96)]) t133 (wrap64 (x21_2 + 1)) a0_0 a0_1 a0_2 a0_3) else (none))) else (if 44 ≤ ((l1.drop ((ji13) : Int).toNat).length : Int) then ((impl_sector_bytes.f k2 a0_3 (wrap64 (a0_2 + x21_2)) 1 ((l1.drop ((ji13) : Int).toNat).take 44)).bind fun t144 => (if x6_2.length < 4398046511104 then (impl_LogWrites.l0 k2 l1 t133 (x6_2 ++ [(⟨wrap64 ((wrap64 (a0_0 + a0_2)) + x21_2), t144⟩ : S96)]) t133 (wrap64 (x21_2 + 1)) a0_0 a0_1 a0_2 a0_3) else (none))) else (none))) else (none)) else (none)) = some r := by first | (rw [hji13] at H; exact H) | (simp only [hji13] at H ⊢; exact H)
       have hji13w : (IntKind.i64.wrap (x21_2 * 44)) = ji13 := (i64_w _).trans hji13
       by_cases c14 : 0 ≤ (ji13)
       ·rw [if_pos c14] at H
        have c14b0 := eq_true c14
        have c14b1 := decide_eq_true c14
        clear c14
        by_cases c15 : (ji13) ≤ (l1.length : Int)
        ·rw [if_pos c15] at H
         have c15b0 := eq_true c15
         have c15b1 := decide_eq_true c15
         clear c15
         by_cases c16 : x21_2 = (wrap64 (t133 - 1))
         ·rw [if_pos c16] at H
          have c16b0 : (x21_2 == (wrap64 (t133 - 1))) = true := beq_iff_eq.mpr c16
          have c16b1 : (x21_2 != (wrap64 (t133 - 1))) = false := bne_eq_false_iff_eq.mpr c16
          clear c16
          replace H := Option.bind_eq_some_iff.mp H
          obtain ⟨t137, A170, H⟩ := H
          have A17 := Ak A170
          clear A170
          by_cases c18 : x6_2.length < 4398046511104
          ·rw [if_pos c18] at H
           have LMc18 := Ak c18
           clear c18
           generalize hy140 : (x6_2 ++ [(⟨wrap64 ((wrap64 (a0_0 + a0_2)) + x21_2), t137⟩ : S96)] : List (S96)) = y140 at H
           try rw [Option.bind_some] at H
           have Ny140 := Ak hy140.symm
           clear hy140
           have H' := Ak H
           clear H
           try go_wp2
           replace HO_6 := Ak (Kd.S_drew HO_6.out)
           replace BK132 := Ak (blk_drew BK132.out)
           replace HB := Ak (below_drew1 HB.out)
           obtain ⟨i020, hi020, _, hsz20, _⟩ := info_parts info5
           obtain ⟨A20, hcut20, hA20, hC20⟩ := print_drop_of (P := Try.prog) (Value.int .u8) 0 22 5 .i64 Try.underlying22 hi020 hsz20 A1 c1 l1 (ji13) (of_decide_eq_true (by first | (with_reducible assumption) | assumption)) (of_decide_eq_true (by first | (with_reducible assumption) | assumption)) HC1.out
           have HR135 := Ak (Kd.C_of_reads (h1 := fun _ => rfl) (hA20 _ (Kd.reads_of_C HR1.out)))
           have HC135 := Ak hC20
           clear hA20 hC20 hi020 hsz20
           refine start_ (n := 13) (S := fun w' => w'.cell? ⟨gb132, 0, none⟩ = some (.int .i64 a0_0) ∧ w'.cell? ⟨gb132, 1, none⟩ = some (.int .i64 a0_1) ∧ w'.cell? ⟨gb132, 2, none⟩ = some (.int .i64 a0_2) ∧ w'.cell? ⟨gb132, 3, none⟩ = some (.int .i64 a0_3)) (ds := []) #[false, false, false, false, false, false, false, false, false, false, false, false, false] (by kernel_rfl) rfl rfl ⟨zk0 BK132.out, zk1 BK132.out, zk2 BK132.out, zk3 BK132.out⟩ (fun hHeld => ?_); refine with_tabW impl_LogWrites.tab8 impl_LogWrites.bits8 (fun HT_ HW_ => ?_)
           generalize wr.drew = w19 at HO_6 BK132 HB HR135 hHeld ⊢
           refine puT 0 24 HT_ (h := ?_)
           refine puT 2 26 HT_ (h := ?_)
           refine puT 4 28 HT_ (h := ?_)
           refine puT 6 30 HT_ (h := ?_)
           refine puT 7 31 HT_ (h := ?_)
           refine puT 8 32 HT_ (h := ?_)
           refine puT 9 33 HT_ (h := ?_)
           refine taT 1 25 HT_ HW_ hHeld (h := ?_)
           refine taT 3 27 HT_ HW_ hHeld (h := ?_)
           refine puT 5 29 HT_ (h := ?_)
           refine puT 10 34 HT_ (h := ?_)
           refine onT 11 (some 8) HT_ (h := fun K hK => ?_)
           refine box_step ?hg (N := 8) ?hd (cs := #[.int .i64 0, .int .i64 0, .int .u8 0, .slice none 0 0]) (t := 93) ?hr ?_; (case hd => rfl); (case hg => rfl); (case hr => first | (go_simp; done) | (go_simp; rfl))
           intro gb136 hg w21 hbox hb
           replace HO_6 := Ak (Kd.S_below (sq HO_6.out) hb)
           have BK136 := Ak (hbox)
           have GW136 := Ak ((zb hg (bw1 HB.out GE132.out)))
           have GE136 := Ak ((zb hg (bw1 HB.out GE132.out)))
           replace HB := Ak (below_step (bw1 HB.out GE132.out) hb)
           have NB132_136 := Ak ((zl hg (bq BK132.out)))
           have NB136_132 := Ak ((zm hg (bq BK132.out)))
           replace BK132 := Ak (blk_below (bq BK132.out) hb)
           clear hb hbox hg
           refine hK.out _ _ ⟨zk0 BK132.out, zk1 BK132.out, zk2 BK132.out, zk3 BK132.out⟩ (fun hHeld => ?_)
           clear hK K
           refine norm_ (a' := ?_) ?_ ?_
           rotate_left
           ·show Act.put _ (some 8) _ = _
            simp only [Act.put, sT, sZ, sS, i64_w, i32_w]
            rfl
           refine onT 12 none HT_ (h := fun K hK => ?_)
           have hs22 := zk0 BK136.out
           have hfs22 := blk_frozen BK136.out 0
           have hns22_0 := NB132_136.out
           have hms22_0 := NB136_132.out
           have hs23 := zk1 BK136.out
           have hfs23 := blk_frozen BK136.out 1
           have hs24 := zk2 BK136.out
           have hfs24 := blk_frozen BK136.out 2
           have hs25 := zk3 BK136.out
           have hfs25 := blk_frozen BK136.out 3
           refine skip_ (w1 := ?_) (by rfl) rfl ?_ ?_
           rotate_left
           ·go_simp
            rfl
           refine hK.out _ _ ⟨((cell_far (p := ⟨gb136, _, none⟩) NB132_136.out _).trans (((cell_far (p := ⟨gb136, _, none⟩) NB132_136.out _).trans ((zg NB132_136.out hHeld.1))))), ((cell_far (p := ⟨gb136, _, none⟩) NB132_136.out _).trans (((cell_far (p := ⟨gb136, _, none⟩) NB132_136.out _).trans ((zg NB132_136.out hHeld.2.1))))), ((cell_far (p := ⟨gb136, _, none⟩) NB132_136.out _).trans (((cell_far (p := ⟨gb136, _, none⟩) NB132_136.out _).trans ((zg NB132_136.out hHeld.2.2.1))))), ((cell_far (p := ⟨gb136, _, none⟩) NB132_136.out _).trans (((cell_far (p := ⟨gb136, _, none⟩) NB132_136.out _).trans ((zg NB132_136.out hHeld.2.2.2)))))⟩ (fun hHeld => ?_)
           clear hK K
           refine done_ (done_of HT_.out (by kernel_rfl)) ?_
           have hnb26 := NB136_132.out
           have hnc26 := NB132_136.out
           have hcz27_0 := zk0 BK136.out
           have hcz27_1 := zk1 BK136.out
           have hcz27_2 := zk2 BK136.out
           have hcz27_3 := zk3 BK136.out
           have hfz27_0 := blk_frozen BK136.out 0
           have hfz27_1 := blk_frozen BK136.out 1
           have hfz27_2 := blk_frozen BK136.out 2
           have hfz27_3 := blk_frozen BK136.out 3
           try go_wp2
           have n0_ : Aside0 (Kd.S k96 96 (((((w21.setCell ⟨gb136, 0, none⟩ (.int .i64 a0_3)).setCell ⟨gb136, 1, none⟩ (.int .i64 (wrap64 (a0_2 + x21_2)))).setCell ⟨gb136, 2, none⟩ (.int .u8 1)).setCell ⟨gb136, 3, none⟩ (.slice A20 (l1.drop ((ji13) : Int).toNat).length (c1 - (ji13).toNat))).setCell ⟨gb136, 2, none⟩ (.int .u8 2)) w.heap.size (fun _ => True) u6 x6_2) := ⟨by refine sq ?_; exact Kd.S_mono (Kd.S_far (p := ⟨gb136, 2, none⟩) (Kd.S_far (p := ⟨gb136, 3, none⟩) (Kd.S_far (p := ⟨gb136, 2, none⟩) (Kd.S_far (p := ⟨gb136, 1, none⟩) (Kd.S_far (p := ⟨gb136, 0, none⟩) (Kd.S_types HO_6.out BK136.out (by decide)) (fun _ hk => hk.2) (.int .i64 a0_3)) (fun _ hk => hk.2) (.int .i64 (wrap64 (a0_2 + x21_2)))) (fun _ hk => hk.2) (.int .u8 1)) (fun _ hk => hk.2) (.slice A20 (l1.drop ((ji13) : Int).toNat).length (c1 - (ji13).toNat))) (fun _ hk => hk.2) (.int .u8 2)) (fun _ hk => trivial)⟩
           have n1_ : Aside0 ((((((w21.setCell ⟨gb136, 0, none⟩ (.int .i64 a0_3)).setCell ⟨gb136, 1, none⟩ (.int .i64 (wrap64 (a0_2 + x21_2)))).setCell ⟨gb136, 2, none⟩ (.int .u8 1)).setCell ⟨gb136, 3, none⟩ (.slice A20 (l1.drop ((ji13) : Int).toNat).length (c1 - (ji13).toNat))).setCell ⟨gb136, 2, none⟩ (.int .u8 2)).heap[gb132]? = some (.cells #[.int .i64 a0_0, .int .i64 a0_1, .int .i64 a0_2, .int .i64 a0_3] 32 (0, 0))) := ⟨by refine bq ?_; refine blk_far ?_ NB132_136.out _; refine bq ?_; refine blk_far ?_ NB132_136.out _; refine bq ?_; refine blk_far ?_ NB132_136.out _; refine bq ?_; refine blk_far ?_ NB132_136.out _; refine bq ?_; refine blk_far ?_ NB132_136.out _; exact bq BK132.out⟩
           have n2_ : Aside0 ((((((w21.setCell ⟨gb136, 0, none⟩ (.int .i64 a0_3)).setCell ⟨gb136, 1, none⟩ (.int .i64 (wrap64 (a0_2 + x21_2)))).setCell ⟨gb136, 2, none⟩ (.int .u8 1)).setCell ⟨gb136, 3, none⟩ (.slice A20 (l1.drop ((ji13) : Int).toNat).length (c1 - (ji13).toNat))).setCell ⟨gb136, 2, none⟩ (.int .u8 2)).heap[gb136]? = some (.cells #[.int .i64 a0_3, .int .i64 (wrap64 (a0_2 + x21_2)), .int .u8 2, .slice A20 (l1.drop ((ji13) : Int).toNat).length (c1 - (ji13).toNat)] 93 (0, 0))) := ⟨by refine bq ?_; refine blk_put (cs := #[.int .i64 a0_3, .int .i64 (wrap64 (a0_2 + x21_2)), .int .u8 1, .slice A20 (l1.drop ((ji13) : Int).toNat).length (c1 - (ji13).toNat)]) ?_ 2 _ rfl; refine bq ?_; refine blk_put (cs := #[.int .i64 a0_3, .int .i64 (wrap64 (a0_2 + x21_2)), .int .u8 1, .slice none 0 0]) ?_ 3 _ rfl; refine bq ?_; refine blk_put (cs := #[.int .i64 a0_3, .int .i64 (wrap64 (a0_2 + x21_2)), .int .u8 0, .slice none 0 0]) ?_ 2 _ rfl; refine bq ?_; refine blk_put (cs := #[.int .i64 a0_3, .int .i64 0, .int .u8 0, .slice none 0 0]) ?_ 1 _ rfl; refine bq ?_; refine blk_put (cs := #[.int .i64 0, .int .i64 0, .int .u8 0, .slice none 0 0]) ?_ 0 _ rfl; exact bq BK136.out⟩
           have n3_ : Aside0 (Below w.heap.size w (((((w21.setCell ⟨gb136, 0, none⟩ (.int .i64 a0_3)).setCell ⟨gb136, 1, none⟩ (.int .i64 (wrap64 (a0_2 + x21_2)))).setCell ⟨gb136, 2, none⟩ (.int .u8 1)).setCell ⟨gb136, 3, none⟩ (.slice A20 (l1.drop ((ji13) : Int).toNat).length (c1 - (ji13).toNat))).setCell ⟨gb136, 2, none⟩ (.int .u8 2))) := ⟨bw2 HB.out GE132.out GE136.out⟩
           (try clear HO_6)
           (try clear BK132)
           (try clear BK136)
           (try clear HB)
           (try rw [show l1.length - ji13.toNat = (l1.drop ((ji13) : Int).toNat).length from (List.length_drop ..).symm])
           generalize (((((w21.setCell ⟨gb136, 0, none⟩ (.int .i64 a0_3)).setCell ⟨gb136, 1, none⟩ (.int .i64 (wrap64 (a0_2 + x21_2)))).setCell ⟨gb136, 2, none⟩ (.int .u8 1)).setCell ⟨gb136, 3, none⟩ (.slice A20 (l1.drop ((ji13) : Int).toNat).length (c1 - (ji13).toNat))).setCell ⟨gb136, 2, none⟩ (.int .u8 2)) = w28 at n0_ n1_ n2_ n3_ ⊢
           have HO_6 := n0_
           have BK132 := n1_
           have BK136 := n2_
           have HB := n3_
           clear n0_ n1_ n2_ n3_
           replace HO_6 := Ak (Kd.S_drew HO_6.out)
           replace BK132 := Ak (blk_drew BK132.out)
           replace BK136 := Ak (blk_drew BK136.out)
           replace HB := Ak (below_drew1 HB.out)
           refine start_ (n := 14) (S := fun w' => w'.cell? ⟨gb132, 0, none⟩ = some (.int .i64 a0_0) ∧ w'.cell? ⟨gb132, 1, none⟩ = some (.int .i64 a0_1) ∧ w'.cell? ⟨gb132, 2, none⟩ = some (.int .i64 a0_2) ∧ w'.cell? ⟨gb132, 3, none⟩ = some (.int .i64 a0_3) ∧ w'.cell? ⟨gb136, 0, none⟩ = some (.int .i64 a0_3) ∧ w'.cell? ⟨gb136, 1, none⟩ = some (.int .i64 (wrap64 (a0_2 + x21_2))) ∧ w'.cell? ⟨gb136, 2, none⟩ = some (.int .u8 2) ∧ w'.cell? ⟨gb136, 3, none⟩ = some (.slice A20 (l1.drop ((ji13) : Int).toNat).length (c1 - (ji13).toNat))) (ds := []) #[false, false, false, false, false, false, false, false, false, false, false, false, false, false] (by kernel_rfl) rfl rfl ⟨zk0 BK132.out, zk1 BK132.out, zk2 BK132.out, zk3 BK132.out, zk0 BK136.out, zk1 BK136.out, zk2 BK136.out, zk3 BK136.out⟩ (fun hHeld => ?_); refine with_tabW impl_LogWrites.tab12 impl_LogWrites.bits12 (fun HT_ HW_ => ?_)
           generalize w28.drew = w29 at HO_6 BK132 BK136 HB hHeld ⊢
           refine puT 0 44 HT_ (h := ?_)
           refine puT 1 45 HT_ (h := ?_)
           refine puT 3 47 HT_ (h := ?_)
           refine puT 6 50 HT_ (h := ?_)
           refine taT 2 46 HT_ HW_ hHeld (h := ?_)
           refine taT 4 48 HT_ HW_ hHeld (h := ?_)
           refine puT 5 49 HT_ (h := ?_)
           refine puT 7 51 HT_ (h := ?_)
           refine taT 8 52 HT_ HW_ hHeld (h := ?_)
           refine onT 9 (some 53) HT_ (h := fun K hK => ?_)
           refine goes_ Try.func66 (by kernel_rfl) rfl #[.agg #[.int .i64 a0_3, .int .i64 (wrap64 (a0_2 + x21_2)), .int .u8 2, .slice A20 (l1.drop ((ji13) : Int).toNat).length (c1 - (ji13).toNat)]] (by rfl) rfl rfl (by (try simp only [List.map_toArray, List.map_cons, List.map_nil]); first | done | (rw [show (l1.drop ((ji13) : Int).toNat).length = (l1.length - (ji13).toNat) from List.length_drop] <;> rfl) | (simp only [hji13]; rfl) | rfl | (simp only [List.length_drop, List.length_take]; rfl)) ?_
           with_reducible refine (impl_sector_bytes.calls k2 a0_3 (wrap64 (a0_2 + x21_2)) 2 _ _ (l1.drop ((ji13) : Int).toNat) t137 _ ?side1 ?side2 A17.out).mono ?_
           (case side1 => exact zq (Kd.C_below HR135.out HB.out))
           (case side2 => exact HC135.out)
           rintro e w30 ⟨v138, rfl, ho0, hb⟩
           refine ⟨_, rfl, ?_⟩
           replace HO_6 := Ak (Kd.S_elder' (sq HO_6.out) (Kd.R_base ho0) hb)
           have HO139 := Ak (Kd.R_lower ho0 (below_size (bw2 HB.out GE132.out GE136.out)))
           replace BK132 := Ak (blk_below (bq BK132.out) hb)
           replace BK136 := Ak (blk_below (bq BK136.out) hb)
           replace HB := Ak (below_step (bw2 HB.out GE132.out GE136.out) hb)
           obtain ⟨Ao31, co31, eo31⟩ := Kd.R_slice HO139.out
           (first | subst eo31 | (injection eo31 with f1_ f2_ f3_; have f4_ := f1_.symm; have f5_ := f3_.symm; clear f1_ f2_ f3_; subst f4_; subst f5_))
           refine hK.out _ _ ⟨zk0 BK132.out, zk1 BK132.out, zk2 BK132.out, zk3 BK132.out, zk0 BK136.out, zk1 BK136.out, zk2 BK136.out, zk3 BK136.out⟩ (fun hHeld => ?_)
           clear hK K
           refine norm_ (a' := ?_) ?_ ?_
           rotate_left
           ·show Act.put _ (some 53) _ = _
            simp only [Act.put, sT, sZ, sS, i64_w, i32_w]
            rfl
           refine puT 10 54 HT_ (h := ?_)
           refine onT 11 (some 55) HT_ (h := fun K hK => ?_)
           refine value_ (w1 := ?_) (v := ?_) (by rfl) rfl ?_ ?_
           rotate_left 2
           ·go_simp
            constructor
            ·rfl
            ·rfl
           refine hK.out _ _ ⟨(blk_cell (blk_alloc BK132.out _) 0).trans rfl, (blk_cell (blk_alloc BK132.out _) 1).trans rfl, (blk_cell (blk_alloc BK132.out _) 2).trans rfl, (blk_cell (blk_alloc BK132.out _) 3).trans rfl, (blk_cell (blk_alloc BK136.out _) 0).trans rfl, (blk_cell (blk_alloc BK136.out _) 1).trans rfl, (blk_cell (blk_alloc BK136.out _) 2).trans rfl, (blk_cell (blk_alloc BK136.out _) 3).trans rfl⟩ (fun hHeld => ?_)
           clear hK K
           refine norm_ (a' := ?_) ?_ ?_
           rotate_left
           ·show Act.put _ (some 55) _ = _
            simp only [Act.put, sT, sZ, sS, i64_w, i32_w]
            rfl
           refine onT 12 (some 56) HT_ (h := fun K hK => ?_)
           refine Kd.S_append_step k96 (w0 := w) w.heap.size (by rfl) (.tmp 44) (.tmp 55) 29 96 (.agg #[(.int .i64 0), (.slice none 0 0)]) 32 rfl Try.underlying29 info96 rfl (by decide) (by omega) u6 x6_2 (⟨wrap64 ((wrap64 (a0_0 + a0_2)) + x21_2), t137⟩ : S96) [.int .i64 (wrap64 ((wrap64 (a0_0 + a0_2)) + x21_2)), .slice Ao31 t137.length co31] (fun _ => True) (fun k_ => some k_ = (.slice Ao31 t137.length co31 : Value).ownBlock) rfl rfl ?aP (fun k_ hk_ => ((Kd.R_mono (ok' := fun k_ => ((fun _ => True)) k_ ∧ some k_ ≠ (u6 : Value).ownBlock) (Kd.R_apart' (HO139.out) (Kd.S_typed HO_6.out) (by decide)) (fun k_ hk => ⟨trivial, hk.2⟩))).1 k_ hk_.symm) ?aF ?aO ?aB ?aS ?aL ?_
           (case aP => exact k96_mkM _ _ _ (⟨wrap64 ((wrap64 (a0_0 + a0_2)) + x21_2), t137⟩ : S96) (Kd.R_mono (Kd.R_tight rfl (Kd.R_mono (ok' := fun k_ => ((fun _ => True)) k_ ∧ some k_ ≠ (u6 : Value).ownBlock) (Kd.R_apart' (HO139.out) (Kd.S_typed HO_6.out) (by decide)) (fun k_ hk => ⟨trivial, hk.2⟩))) (fun _ h_ => h_)))
           (case aB => exact (bw2 HB.out GE132.out GE136.out))
           (case aF => exact (fun _ _ => trivial))
           (case aO => exact (by refine sq ?_; exact Kd.S_mono HO_6.out (fun k_ hk => ⟨trivial, fun e_ => hk.2 e_⟩)))
           (case aS => exact (below_size (bw2 HB.out GE132.out GE136.out)))
           (case aL => have := LMc18.out; omega)
           intro v141 w32 ho hb hg hat
           rw [← Ny140.out] at ho
           replace BK132 := Ak (blk_grown (g := gb132) (o := .cells #[.int .i64 a0_0, .int .i64 a0_1, .int .i64 a0_2, .int .i64 a0_3] 32 (0, 0)) (bq BK132.out) hg (Kd.S_ne HO_6.out BK132.out (by decide)))
           replace BK136 := Ak (blk_grown (g := gb136) (o := .cells #[.int .i64 a0_3, .int .i64 (wrap64 (a0_2 + x21_2)), .int .u8 2, .slice A20 (l1.drop ((ji13) : Int).toNat).length (c1 - (ji13).toNat)] 93 (0, 0)) (bq BK136.out) hg (Kd.S_ne HO_6.out BK136.out (by decide)))
           replace HB := Ak (hb)
           have HO142 := Ak (ho)
           clear HO_6 HO139
           clear ho hb hg hat
           refine hK.out _ _ ⟨zk0 BK132.out, zk1 BK132.out, zk2 BK132.out, zk3 BK132.out, zk0 BK136.out, zk1 BK136.out, zk2 BK136.out, zk3 BK136.out⟩ (fun hHeld => ?_)
           clear hK K
           refine norm_ (a' := ?_) ?_ ?_
           rotate_left
           ·show Act.put _ (some 56) _ = _
            simp only [Act.put, sT, sZ, sS, i64_w, i32_w]
            rfl
           refine puT 13 6 HT_ (h := ?_)
           refine done_ (done_of HT_.out (by kernel_rfl)) ?_
           try go_wp2
           go_roundg k2
           case measure => have := HJ3.out; have := HK2.out; omega
           case rel => exact ⟨(y140), (wrap64 (x21_2 + 1)), (by first | rfl | (simp; done) | (simp [*]; done)), H', ⟨by have := HJ3.out; have := HK2.out; omega⟩, ⟨sq HO142.out⟩, ⟨bq BK132.out⟩, ⟨bw2 HB.out GE132.out GE136.out⟩⟩
          ·rw [if_neg c18] at H
           exact absurd H (by simp)
         ·rw [if_neg c16] at H
          have c16b0 : (x21_2 == (wrap64 (t133 - 1))) = false := beq_eq_false_iff_ne.mpr c16
          have c16b1 : (x21_2 != (wrap64 (t133 - 1))) = true := bne_iff_ne.mpr c16
          by_cases c33 : 44 ≤ ((l1.drop ((ji13) : Int).toNat).length : Int)
          ·rw [if_pos c33] at H
           have c33b0 := eq_true c33
           have c33b1 := decide_eq_true c33
           clear c33
           replace H := Option.bind_eq_some_iff.mp H
           obtain ⟨t144, A340, H⟩ := H
           have A34 := Ak A340
           clear A340
           by_cases c35 : x6_2.length < 4398046511104
           ·rw [if_pos c35] at H
            have LMc35 := Ak c35
            clear c35
            generalize hy147 : (x6_2 ++ [(⟨wrap64 ((wrap64 (a0_0 + a0_2)) + x21_2), t144⟩ : S96)] : List (S96)) = y147 at H
            try rw [Option.bind_some] at H
            have Ny147 := Ak hy147.symm
            clear hy147
            have H' := Ak H
            clear H
            try go_wp2
            replace HO_6 := Ak (Kd.S_drew HO_6.out)
            replace BK132 := Ak (blk_drew BK132.out)
            replace HB := Ak (below_drew1 HB.out)
            obtain ⟨i037, hi037, _, hsz37, _⟩ := info_parts info5
            obtain ⟨A37, hcut37, hA37, hC37⟩ := print_drop_of (P := Try.prog) (Value.int .u8) 0 22 5 .i64 Try.underlying22 hi037 hsz37 A1 c1 l1 (ji13) (of_decide_eq_true (by first | (with_reducible assumption) | assumption)) (of_decide_eq_true (by first | (with_reducible assumption) | assumption)) HC1.out
            have HR135 := Ak (Kd.C_of_reads (h1 := fun _ => rfl) (hA37 _ (Kd.reads_of_C HR1.out)))
            have HC135 := Ak hC37
            clear hA37 hC37 hi037 hsz37
            refine start_ (n := 13) (S := fun w' => w'.cell? ⟨gb132, 0, none⟩ = some (.int .i64 a0_0) ∧ w'.cell? ⟨gb132, 1, none⟩ = some (.int .i64 a0_1) ∧ w'.cell? ⟨gb132, 2, none⟩ = some (.int .i64 a0_2) ∧ w'.cell? ⟨gb132, 3, none⟩ = some (.int .i64 a0_3)) (ds := []) #[false, false, false, false, false, false, false, false, false, false, false, false, false] (by kernel_rfl) rfl rfl ⟨zk0 BK132.out, zk1 BK132.out, zk2 BK132.out, zk3 BK132.out⟩ (fun hHeld => ?_); refine with_tabW impl_LogWrites.tab8 impl_LogWrites.bits8 (fun HT_ HW_ => ?_)
            generalize wr.drew = w36 at HO_6 BK132 HB HR135 hHeld ⊢
            refine puT 0 24 HT_ (h := ?_)
            refine puT 2 26 HT_ (h := ?_)
            refine puT 4 28 HT_ (h := ?_)
            refine puT 6 30 HT_ (h := ?_)
            refine puT 7 31 HT_ (h := ?_)
            refine puT 8 32 HT_ (h := ?_)
            refine puT 9 33 HT_ (h := ?_)
            refine taT 1 25 HT_ HW_ hHeld (h := ?_)
            refine taT 3 27 HT_ HW_ hHeld (h := ?_)
            refine puT 5 29 HT_ (h := ?_)
            refine puT 10 34 HT_ (h := ?_)
            refine onT 11 (some 8) HT_ (h := fun K hK => ?_)
            refine box_step ?hg (N := 8) ?hd (cs := #[.int .i64 0, .int .i64 0, .int .u8 0, .slice none 0 0]) (t := 93) ?hr ?_; (case hd => rfl); (case hg => rfl); (case hr => first | (go_simp; done) | (go_simp; rfl))
            intro gb136 hg w38 hbox hb
            replace HO_6 := Ak (Kd.S_below (sq HO_6.out) hb)
            have BK136 := Ak (hbox)
            have GW136 := Ak ((zb hg (bw1 HB.out GE132.out)))
            have GE136 := Ak ((zb hg (bw1 HB.out GE132.out)))
            replace HB := Ak (below_step (bw1 HB.out GE132.out) hb)
            have NB132_136 := Ak ((zl hg (bq BK132.out)))
            have NB136_132 := Ak ((zm hg (bq BK132.out)))
            replace BK132 := Ak (blk_below (bq BK132.out) hb)
            clear hb hbox hg
            refine hK.out _ _ ⟨zk0 BK132.out, zk1 BK132.out, zk2 BK132.out, zk3 BK132.out⟩ (fun hHeld => ?_)
            clear hK K
            refine norm_ (a' := ?_) ?_ ?_
            rotate_left
            ·show Act.put _ (some 8) _ = _
             simp only [Act.put, sT, sZ, sS, i64_w, i32_w]
             rfl
            refine onT 12 none HT_ (h := fun K hK => ?_)
            have hs39 := zk0 BK136.out
            have hfs39 := blk_frozen BK136.out 0
            have hns39_0 := NB132_136.out
            have hms39_0 := NB136_132.out
            have hs40 := zk1 BK136.out
            have hfs40 := blk_frozen BK136.out 1
            have hs41 := zk2 BK136.out
            have hfs41 := blk_frozen BK136.out 2
            have hs42 := zk3 BK136.out
            have hfs42 := blk_frozen BK136.out 3
            refine skip_ (w1 := ?_) (by rfl) rfl ?_ ?_
            rotate_left
            ·go_simp
             rfl
            refine hK.out _ _ ⟨((cell_far (p := ⟨gb136, _, none⟩) NB132_136.out _).trans (((cell_far (p := ⟨gb136, _, none⟩) NB132_136.out _).trans ((zg NB132_136.out hHeld.1))))), ((cell_far (p := ⟨gb136, _, none⟩) NB132_136.out _).trans (((cell_far (p := ⟨gb136, _, none⟩) NB132_136.out _).trans ((zg NB132_136.out hHeld.2.1))))), ((cell_far (p := ⟨gb136, _, none⟩) NB132_136.out _).trans (((cell_far (p := ⟨gb136, _, none⟩) NB132_136.out _).trans ((zg NB132_136.out hHeld.2.2.1))))), ((cell_far (p := ⟨gb136, _, none⟩) NB132_136.out _).trans (((cell_far (p := ⟨gb136, _, none⟩) NB132_136.out _).trans ((zg NB132_136.out hHeld.2.2.2)))))⟩ (fun hHeld => ?_)
            clear hK K
            refine done_ (done_of HT_.out (by kernel_rfl)) ?_
            have hnb43 := NB136_132.out
            have hnc43 := NB132_136.out
            have hcz44_0 := zk0 BK136.out
            have hcz44_1 := zk1 BK136.out
            have hcz44_2 := zk2 BK136.out
            have hcz44_3 := zk3 BK136.out
            have hfz44_0 := blk_frozen BK136.out 0
            have hfz44_1 := blk_frozen BK136.out 1
            have hfz44_2 := blk_frozen BK136.out 2
            have hfz44_3 := blk_frozen BK136.out 3
            obtain ⟨i045, hi045, _, hsz45, _⟩ := info_parts info5
            have hcap_ : ¬ (((c1 - ji13.toNat : Nat) : Int) < 44) := by (have h1_ := of_decide_eq_true c33b1; have h2_ := HC1.out; simp only [List.length_drop] at h1_; omega)
            obtain ⟨hcut45, hA45, hC45⟩ := print_take_of (P := Try.prog) (Value.int .u8) 0 22 5 .i64 Try.underlying22 hi045 hsz45 A37 (c1 - (ji13).toNat) (l1.drop ((ji13) : Int).toNat) 44 (by omega) (of_decide_eq_true (by first | (with_reducible assumption) | assumption)) HC135.out
            have HR143 := Ak (Kd.C_of_reads (h1 := fun _ => rfl) (hA45 _ (Kd.reads_of_C HR135.out)))
            have HC143 := Ak hC45
            clear hA45 hC45 hi045 hsz45
            try go_wp2
            (try (case isFalse h_ => exact (hcap_ h_).elim))
            have n0_ : Aside0 (Kd.S k96 96 (((((w38.setCell ⟨gb136, 0, none⟩ (.int .i64 a0_3)).setCell ⟨gb136, 1, none⟩ (.int .i64 (wrap64 (a0_2 + x21_2)))).setCell ⟨gb136, 2, none⟩ (.int .u8 1)).setCell ⟨gb136, 3, none⟩ (.slice A37 (l1.drop ((ji13) : Int).toNat).length (c1 - (ji13).toNat))).setCell ⟨gb136, 3, none⟩ (.slice A37 ((l1.drop ((ji13) : Int).toNat).take 44).length (c1 - (ji13).toNat))) w.heap.size (fun _ => True) u6 x6_2) := ⟨by refine sq ?_; exact Kd.S_mono (Kd.S_far (p := ⟨gb136, 3, none⟩) (Kd.S_far (p := ⟨gb136, 3, none⟩) (Kd.S_far (p := ⟨gb136, 2, none⟩) (Kd.S_far (p := ⟨gb136, 1, none⟩) (Kd.S_far (p := ⟨gb136, 0, none⟩) (Kd.S_types HO_6.out BK136.out (by decide)) (fun _ hk => hk.2) (.int .i64 a0_3)) (fun _ hk => hk.2) (.int .i64 (wrap64 (a0_2 + x21_2)))) (fun _ hk => hk.2) (.int .u8 1)) (fun _ hk => hk.2) (.slice A37 (l1.drop ((ji13) : Int).toNat).length (c1 - (ji13).toNat))) (fun _ hk => hk.2) (.slice A37 ((l1.drop ((ji13) : Int).toNat).take 44).length (c1 - (ji13).toNat))) (fun _ hk => trivial)⟩
            have n1_ : Aside0 ((((((w38.setCell ⟨gb136, 0, none⟩ (.int .i64 a0_3)).setCell ⟨gb136, 1, none⟩ (.int .i64 (wrap64 (a0_2 + x21_2)))).setCell ⟨gb136, 2, none⟩ (.int .u8 1)).setCell ⟨gb136, 3, none⟩ (.slice A37 (l1.drop ((ji13) : Int).toNat).length (c1 - (ji13).toNat))).setCell ⟨gb136, 3, none⟩ (.slice A37 ((l1.drop ((ji13) : Int).toNat).take 44).length (c1 - (ji13).toNat))).heap[gb132]? = some (.cells #[.int .i64 a0_0, .int .i64 a0_1, .int .i64 a0_2, .int .i64 a0_3] 32 (0, 0))) := ⟨by refine bq ?_; refine blk_far ?_ NB132_136.out _; refine bq ?_; refine blk_far ?_ NB132_136.out _; refine bq ?_; refine blk_far ?_ NB132_136.out _; refine bq ?_; refine blk_far ?_ NB132_136.out _; refine bq ?_; refine blk_far ?_ NB132_136.out _; exact bq BK132.out⟩
            have n2_ : Aside0 ((((((w38.setCell ⟨gb136, 0, none⟩ (.int .i64 a0_3)).setCell ⟨gb136, 1, none⟩ (.int .i64 (wrap64 (a0_2 + x21_2)))).setCell ⟨gb136, 2, none⟩ (.int .u8 1)).setCell ⟨gb136, 3, none⟩ (.slice A37 (l1.drop ((ji13) : Int).toNat).length (c1 - (ji13).toNat))).setCell ⟨gb136, 3, none⟩ (.slice A37 ((l1.drop ((ji13) : Int).toNat).take 44).length (c1 - (ji13).toNat))).heap[gb136]? = some (.cells #[.int .i64 a0_3, .int .i64 (wrap64 (a0_2 + x21_2)), .int .u8 1, .slice A37 ((l1.drop ((ji13) : Int).toNat).take 44).length (c1 - (ji13).toNat)] 93 (0, 0))) := ⟨by refine bq ?_; refine blk_put (cs := #[.int .i64 a0_3, .int .i64 (wrap64 (a0_2 + x21_2)), .int .u8 1, .slice A37 (l1.drop ((ji13) : Int).toNat).length (c1 - (ji13).toNat)]) ?_ 3 _ rfl; refine bq ?_; refine blk_put (cs := #[.int .i64 a0_3, .int .i64 (wrap64 (a0_2 + x21_2)), .int .u8 1, .slice none 0 0]) ?_ 3 _ rfl; refine bq ?_; refine blk_put (cs := #[.int .i64 a0_3, .int .i64 (wrap64 (a0_2 + x21_2)), .int .u8 0, .slice none 0 0]) ?_ 2 _ rfl; refine bq ?_; refine blk_put (cs := #[.int .i64 a0_3, .int .i64 0, .int .u8 0, .slice none 0 0]) ?_ 1 _ rfl; refine bq ?_; refine blk_put (cs := #[.int .i64 0, .int .i64 0, .int .u8 0, .slice none 0 0]) ?_ 0 _ rfl; exact bq BK136.out⟩
            have n3_ : Aside0 (Below w.heap.size w (((((w38.setCell ⟨gb136, 0, none⟩ (.int .i64 a0_3)).setCell ⟨gb136, 1, none⟩ (.int .i64 (wrap64 (a0_2 + x21_2)))).setCell ⟨gb136, 2, none⟩ (.int .u8 1)).setCell ⟨gb136, 3, none⟩ (.slice A37 (l1.drop ((ji13) : Int).toNat).length (c1 - (ji13).toNat))).setCell ⟨gb136, 3, none⟩ (.slice A37 ((l1.drop ((ji13) : Int).toNat).take 44).length (c1 - (ji13).toNat)))) := ⟨bw2 HB.out GE132.out GE136.out⟩
            (try clear HO_6)
            (try clear BK132)
            (try clear BK136)
            (try clear HB)
            (try rw [show l1.length - ji13.toNat = (l1.drop ((ji13) : Int).toNat).length from (List.length_drop ..).symm])
            have h44_ : ((l1.drop ((ji13) : Int).toNat).take 44).length = 44 := by (have := of_decide_eq_true c33b1; rw [List.length_take]; omega)
            (try rw [show (Value.slice A37 44 (c1 - ji13.toNat)) = .slice A37 ((l1.drop ((ji13) : Int).toNat).take 44).length (c1 - ji13.toNat) from by rw [h44_]])
            generalize (((((w38.setCell ⟨gb136, 0, none⟩ (.int .i64 a0_3)).setCell ⟨gb136, 1, none⟩ (.int .i64 (wrap64 (a0_2 + x21_2)))).setCell ⟨gb136, 2, none⟩ (.int .u8 1)).setCell ⟨gb136, 3, none⟩ (.slice A37 (l1.drop ((ji13) : Int).toNat).length (c1 - (ji13).toNat))).setCell ⟨gb136, 3, none⟩ (.slice A37 ((l1.drop ((ji13) : Int).toNat).take 44).length (c1 - (ji13).toNat))) = w46 at n0_ n1_ n2_ n3_ ⊢
            have HO_6 := n0_
            have BK132 := n1_
            have BK136 := n2_
            have HB := n3_
            clear n0_ n1_ n2_ n3_
            replace HO_6 := Ak (Kd.S_drew HO_6.out)
            replace BK132 := Ak (blk_drew BK132.out)
            replace BK136 := Ak (blk_drew BK136.out)
            replace HB := Ak (below_drew1 HB.out)
            refine start_ (n := 14) (S := fun w' => w'.cell? ⟨gb132, 0, none⟩ = some (.int .i64 a0_0) ∧ w'.cell? ⟨gb132, 1, none⟩ = some (.int .i64 a0_1) ∧ w'.cell? ⟨gb132, 2, none⟩ = some (.int .i64 a0_2) ∧ w'.cell? ⟨gb132, 3, none⟩ = some (.int .i64 a0_3) ∧ w'.cell? ⟨gb136, 0, none⟩ = some (.int .i64 a0_3) ∧ w'.cell? ⟨gb136, 1, none⟩ = some (.int .i64 (wrap64 (a0_2 + x21_2))) ∧ w'.cell? ⟨gb136, 2, none⟩ = some (.int .u8 1) ∧ w'.cell? ⟨gb136, 3, none⟩ = some (.slice A37 ((l1.drop ((ji13) : Int).toNat).take 44).length (c1 - (ji13).toNat))) (ds := []) #[false, false, false, false, false, false, false, false, false, false, false, false, false, false] (by kernel_rfl) rfl rfl ⟨zk0 BK132.out, zk1 BK132.out, zk2 BK132.out, zk3 BK132.out, zk0 BK136.out, zk1 BK136.out, zk2 BK136.out, zk3 BK136.out⟩ (fun hHeld => ?_); refine with_tabW impl_LogWrites.tab12 impl_LogWrites.bits12 (fun HT_ HW_ => ?_)
            generalize w46.drew = w47 at HO_6 BK132 BK136 HB hHeld ⊢
            refine puT 0 44 HT_ (h := ?_)
            refine puT 1 45 HT_ (h := ?_)
            refine puT 3 47 HT_ (h := ?_)
            refine puT 6 50 HT_ (h := ?_)
            refine taT 2 46 HT_ HW_ hHeld (h := ?_)
            refine taT 4 48 HT_ HW_ hHeld (h := ?_)
            refine puT 5 49 HT_ (h := ?_)
            refine puT 7 51 HT_ (h := ?_)
            refine taT 8 52 HT_ HW_ hHeld (h := ?_)
            refine onT 9 (some 53) HT_ (h := fun K hK => ?_)
            refine goes_ Try.func66 (by kernel_rfl) rfl #[.agg #[.int .i64 a0_3, .int .i64 (wrap64 (a0_2 + x21_2)), .int .u8 1, .slice A37 ((l1.drop ((ji13) : Int).toNat).take 44).length (c1 - (ji13).toNat)]] (by rfl) rfl rfl (by (try simp only [List.map_toArray, List.map_cons, List.map_nil]); first | done | (rw [show ((l1.drop ((ji13) : Int).toNat).take 44).length = 44 from (by rw [List.length_take]; have h_ : (44 : Int) ≤ ((l1.drop ((ji13) : Int).toNat).length : Int) := of_decide_eq_true (by first | (with_reducible assumption) | assumption); omega)] <;> rfl) | (simp only [hji13]; rfl) | rfl | (simp only [List.length_drop, List.length_take]; rfl)) ?_
            with_reducible refine (impl_sector_bytes.calls k2 a0_3 (wrap64 (a0_2 + x21_2)) 1 _ _ ((l1.drop ((ji13) : Int).toNat).take 44) t144 _ ?side1 ?side2 A34.out).mono ?_
            (case side1 => exact zq (Kd.C_below HR143.out HB.out))
            (case side2 => exact HC143.out)
            rintro e w48 ⟨v145, rfl, ho0, hb⟩
            refine ⟨_, rfl, ?_⟩
            replace HO_6 := Ak (Kd.S_elder' (sq HO_6.out) (Kd.R_base ho0) hb)
            have HO146 := Ak (Kd.R_lower ho0 (below_size (bw2 HB.out GE132.out GE136.out)))
            replace BK132 := Ak (blk_below (bq BK132.out) hb)
            replace BK136 := Ak (blk_below (bq BK136.out) hb)
            replace HB := Ak (below_step (bw2 HB.out GE132.out GE136.out) hb)
            obtain ⟨Ao49, co49, eo49⟩ := Kd.R_slice HO146.out
            (first | subst eo49 | (injection eo49 with f1_ f2_ f3_; have f4_ := f1_.symm; have f5_ := f3_.symm; clear f1_ f2_ f3_; subst f4_; subst f5_))
            refine hK.out _ _ ⟨zk0 BK132.out, zk1 BK132.out, zk2 BK132.out, zk3 BK132.out, zk0 BK136.out, zk1 BK136.out, zk2 BK136.out, zk3 BK136.out⟩ (fun hHeld => ?_)
            clear hK K
            refine norm_ (a' := ?_) ?_ ?_
            rotate_left
            ·show Act.put _ (some 53) _ = _
             simp only [Act.put, sT, sZ, sS, i64_w, i32_w]
             rfl
            refine puT 10 54 HT_ (h := ?_)
            refine onT 11 (some 55) HT_ (h := fun K hK => ?_)
            refine value_ (w1 := ?_) (v := ?_) (by rfl) rfl ?_ ?_
            rotate_left 2
            ·go_simp
             constructor
             ·rfl
             ·rfl
            refine hK.out _ _ ⟨(blk_cell (blk_alloc BK132.out _) 0).trans rfl, (blk_cell (blk_alloc BK132.out _) 1).trans rfl, (blk_cell (blk_alloc BK132.out _) 2).trans rfl, (blk_cell (blk_alloc BK132.out _) 3).trans rfl, (blk_cell (blk_alloc BK136.out _) 0).trans rfl, (blk_cell (blk_alloc BK136.out _) 1).trans rfl, (blk_cell (blk_alloc BK136.out _) 2).trans rfl, (blk_cell (blk_alloc BK136.out _) 3).trans rfl⟩ (fun hHeld => ?_)
            clear hK K
            refine norm_ (a' := ?_) ?_ ?_
            rotate_left
            ·show Act.put _ (some 55) _ = _
             simp only [Act.put, sT, sZ, sS, i64_w, i32_w]
             rfl
            refine onT 12 (some 56) HT_ (h := fun K hK => ?_)
            refine Kd.S_append_step k96 (w0 := w) w.heap.size (by rfl) (.tmp 44) (.tmp 55) 29 96 (.agg #[(.int .i64 0), (.slice none 0 0)]) 32 rfl Try.underlying29 info96 rfl (by decide) (by omega) u6 x6_2 (⟨wrap64 ((wrap64 (a0_0 + a0_2)) + x21_2), t144⟩ : S96) [.int .i64 (wrap64 ((wrap64 (a0_0 + a0_2)) + x21_2)), .slice Ao49 t144.length co49] (fun _ => True) (fun k_ => some k_ = (.slice Ao49 t144.length co49 : Value).ownBlock) rfl rfl ?aP (fun k_ hk_ => ((Kd.R_mono (ok' := fun k_ => ((fun _ => True)) k_ ∧ some k_ ≠ (u6 : Value).ownBlock) (Kd.R_apart' (HO146.out) (Kd.S_typed HO_6.out) (by decide)) (fun k_ hk => ⟨trivial, hk.2⟩))).1 k_ hk_.symm) ?aF ?aO ?aB ?aS ?aL ?_
            (case aP => exact k96_mkM _ _ _ (⟨wrap64 ((wrap64 (a0_0 + a0_2)) + x21_2), t144⟩ : S96) (Kd.R_mono (Kd.R_tight rfl (Kd.R_mono (ok' := fun k_ => ((fun _ => True)) k_ ∧ some k_ ≠ (u6 : Value).ownBlock) (Kd.R_apart' (HO146.out) (Kd.S_typed HO_6.out) (by decide)) (fun k_ hk => ⟨trivial, hk.2⟩))) (fun _ h_ => h_)))
            (case aB => exact (bw2 HB.out GE132.out GE136.out))
            (case aF => exact (fun _ _ => trivial))
            (case aO => exact (by refine sq ?_; exact Kd.S_mono HO_6.out (fun k_ hk => ⟨trivial, fun e_ => hk.2 e_⟩)))
            (case aS => exact (below_size (bw2 HB.out GE132.out GE136.out)))
            (case aL => have := LMc35.out; omega)
            intro v148 w50 ho hb hg hat
            rw [← Ny147.out] at ho
            replace BK132 := Ak (blk_grown (g := gb132) (o := .cells #[.int .i64 a0_0, .int .i64 a0_1, .int .i64 a0_2, .int .i64 a0_3] 32 (0, 0)) (bq BK132.out) hg (Kd.S_ne HO_6.out BK132.out (by decide)))
            replace BK136 := Ak (blk_grown (g := gb136) (o := .cells #[.int .i64 a0_3, .int .i64 (wrap64 (a0_2 + x21_2)), .int .u8 1, .slice A37 ((l1.drop ((ji13) : Int).toNat).take 44).length (c1 - (ji13).toNat)] 93 (0, 0)) (bq BK136.out) hg (Kd.S_ne HO_6.out BK136.out (by decide)))
            replace HB := Ak (hb)
            have HO149 := Ak (ho)
            clear HO_6 HO146
            clear ho hb hg hat
            refine hK.out _ _ ⟨zk0 BK132.out, zk1 BK132.out, zk2 BK132.out, zk3 BK132.out, zk0 BK136.out, zk1 BK136.out, zk2 BK136.out, zk3 BK136.out⟩ (fun hHeld => ?_)
            clear hK K
            refine norm_ (a' := ?_) ?_ ?_
            rotate_left
            ·show Act.put _ (some 56) _ = _
             simp only [Act.put, sT, sZ, sS, i64_w, i32_w]
             rfl
            refine puT 13 6 HT_ (h := ?_)
            refine done_ (done_of HT_.out (by kernel_rfl)) ?_
            try go_wp2
            go_roundg k2
            case measure => have := HJ3.out; have := HK2.out; omega
            case rel => exact ⟨(y147), (wrap64 (x21_2 + 1)), (by first | rfl | (simp; done) | (simp [*]; done)), H', ⟨by have := HJ3.out; have := HK2.out; omega⟩, ⟨sq HO149.out⟩, ⟨bq BK132.out⟩, ⟨bw2 HB.out GE132.out GE136.out⟩⟩
           ·rw [if_neg c35] at H
            exact absurd H (by simp)
          ·rw [if_neg c33] at H
           exact absurd H (by simp)
        ·rw [if_neg c15] at H
         exact absurd H (by simp)
       ·rw [if_neg c14] at H
        exact absurd H (by simp)
      ·rw [if_neg c12] at H
       have c12b0 := decide_eq_false c12
       clear c12
       obtain rfl := Option.some.inj H
       go_wp2
       go_ret
       exact ⟨_, zw, sq HO_6.out, bw1 HB.out GE132.out⟩

def slices_Clone_byte_byte.f (l0 : List Int) : Option (List Int) := (some (([] : List Int) : List Int)).bind fun y150 => (if y150.length + l0.length < 140737488355328 then (some (y150 ++ l0)) else (none))
set_option maxHeartbeats 8000000 in
set_option maxRecDepth 100000 in
theorem slices_Clone_byte_byte.calls (A0 : Option Addr) (c0 : Nat) (l0 : List Int) (r : List Int) (w : World) (hr0 : Kd.C (Kd.int .u8) w A0 l0.length l0) (hc0 : l0.length ≤ c0) (h : slices_Clone_byte_byte.f l0 = some r) :
  Calls Try.prog 100 #[.slice A0 l0.length c0] w fun e w' => ∃ v0_ : Value, e = .returned (v0_) ∧ Kd.R (Kd.int .u8) 5 w' w.heap.size (fun _ => True) v0_ r ∧ Below w.heap.size w w' := by
 have HR0 := Ak hr0
 have HC0 := Ak hc0
 clear hr0 hc0
 have HB := Ak (Below.refl w.heap.size w)
 have H := h
 unfold slices_Clone_byte_byte.f at H
 clear h
 obtain ⟨y150, hy150⟩ : ∃ y_ : List Int, y_ = (([] : List Int)) := ⟨_, rfl⟩
 replace H : (if y150.length + l0.length < 140737488355328 then (some (y150 ++ l0)) else (none)) = some r := by first | (rw [hy150]; with_reducible exact H) | (have H2_ := (Option.bind_some _ _).symm.trans H; rw [hy150]; with_reducible exact H2_) | (have H2_ := (Option.bind_some _ _).symm.trans H; with_reducible exact H2_) | with_reducible exact H | (rw [hy150]; exact H) | exact H
 have Ny150 := Ak hy150
 clear hy150
 by_cases c2 : y150.length + l0.length < 140737488355328
 ·rw [if_pos c2] at H
  have LMc2 := Ak c2
  clear c2
  generalize hy153 : (y150 ++ l0 : List Int) = y153 at H
  try rw [Option.bind_some] at H
  have Ny153 := Ak hy153.symm
  clear hy153
  obtain rfl := Option.some.inj H
  cases A0 with
  | none =>
   have hz : l0.length = 0 := by
    rcases Nat.eq_zero_or_pos l0.length with h0 | h0
    ·exact h0
    ·obtain ⟨ad, e, _⟩ := HR0.out.2.2 h0
     cases e
   have hy : y153 = [] := by
    have := Ny153.out
    have e0 := Ny150.out
    have e1 := List.length_eq_zero_iff.1 hz
    rw [this, e0, e1]; rfl
   have q22_ : ∀ (w : World) (a : Option Addr) (n c n2 c2 : Nat), (binOp .eql 22 (.slice a n c) (.slice none n2 c2)).run Try.prog w = .ok (.bool a.isNone) w := fun w a n c n2 c2 => Lib.run_eql_slice_nil w _ _ a n c n2 c2 Try.underlying22
   subst hy
   go_enter Try.func100, Try.ntmps100
   go_wp2
   go_ret
   refine ⟨.slice none 0 0, by first | rfl | (simp; done), ?_, ?_⟩
   ·exact Kd.R_nil _ _ _ _ _
   ·repeat (first | (with_reducible first | exact HB.out | apply below_alloc | apply pw_below_drewN | apply below_drew1) | exact HB.out)
  | some ad =>
   go_enter Try.func100, Try.ntmps100
   have q22_ : ∀ (w : World) (a : Option Addr) (n c n2 c2 : Nat), (binOp .eql 22 (.slice a n c) (.slice none n2 c2)).run Try.prog w = .ok (.bool a.isNone) w := fun w a n c n2 c2 => Lib.run_eql_slice_nil w _ _ a n c n2 c2 Try.underlying22
   go_wp2_with (first | ((with_reducible refine gate_dst (N := 5) rfl ?_); refine Kd.R_lit (Kd.int .u8) _ 5 ?hg (N := 5) ?hd (xs := ([] : List Int)) (inner := []) (ok := fun _ => True) (okp := fun _ => True) ?hr ?hp (fun _ hk => hk) trivial (Below.refl _ _) (Nat.le_refl _) (by simp) ?_; (case hd => rfl); (case hg => rfl); (case hr => first | (go_simp; done) | (go_simp; rfl)); (case hp => exact (Reps.none _ _)); intro v151 w3 ho4 hb hg_ hnew_; clear hg_ hnew_; (first | rw [← Ny150.out] at ho4 | (simp only [Int.reduceToNat] at ho4; rw [← Ny150.out] at ho4)); have HO152 := Ak (Kd.R_lower ho4 (below_size (bw HB.out))); replace HB := Ak (below_step (bw HB.out) hb); clear hb ho4) | ((with_reducible refine gate_builtin (b := .append) (xs := #[.tmp 5, .tmp 6]) rfl ?_); at_builtin; refine Kd.R_append_rows (Kd.int .u8) (w0 := w) w.heap.size rfl (.tmp 5) (.tmp 6) 22 5 (.int .u8 0) 1 rfl Try.underlying22 info5 rfl (by decide) (by omega) v151 y150 l0 _ _ _ (fun _ => True) (fun _ => False) rfl rfl ?aO ?aR (fun _ _ h => h) (fun _ h => h.elim) ?aF ?aB ?aS ?aL ?_; (case aR => exact zq (Kd.C_below HR0.out HB.out)); (case aB => exact (bw HB.out)); (case aF => exact (fun _ _ => trivial)); (case aO => exact (rq HO152.out)); (case aS => exact (below_size (bw HB.out))); (case aL => have := LMc2.out; omega); intro v154 w5 ho hb hg hat; rw [← Ny153.out] at ho; replace HB := Ak (hb); have HO155 := Ak (ho); clear HO152; clear ho hb hg hat))
   go_ret
   exact ⟨_, zw, rq HO155.out, bw HB.out⟩
 ·rw [if_neg c2] at H
  exact absurd H (by simp)

def impl_copyDisk.l0 : Nat → List (S96) → Int → Int → List Int → List (S96) → Option (List Int × (List (S96)))
 | 0, _, _, _, _, _ => none
 | k + 1, x11, x12, x13, x162000, x162001 => if x13 < x12 then (if 0 ≤ x13 then (if x13 < (x11.length : Int) then ((slices_Clone_byte_byte.f ((rd_T96 x11 x13).f1)).bind fun t164 => (if x162001.length < 4398046511104 then (impl_copyDisk.l0 k x11 x12 (wrap64 (x13 + 1)) x162000 (x162001 ++ [(⟨(rd_T96 x11 x13).f0, t164⟩ : S96)])) else (none))) else (none)) else (none)) else (some (x162000, x162001))
def impl_copyDisk.f (k : Nat) (l0_0 : List Int) (l0_1 : List (S96)) : Option (List Int × (List (S96))) := (slices_Clone_byte_byte.f l0_0).bind fun t158 => (impl_copyDisk.l0 k l0_1 (l0_1.length : Int) 0 t158 ([] : List (S96)))
def impl_copyDisk.T5 : Bool × List (List Nat × List Nat) := (true, [([], []), ([0], [0]), ([], []), ([2], [2]), ([], []), ([4], [4]), ([5], [5]), ([3, 6], [3, 6]), ([7], [7]), ([1, 8, 6], [1, 8]), ([0, 1, 2, 3, 4, 5, 6, 7, 8, 9], []), ([10, 9, 9, 0, 1, 2, 3, 4, 5, 6, 7, 8, 9], [9, 10])])
def impl_copyDisk.B5 : List Nat := [0, 1, 0, 4, 0, 16, 48, 124, 252, 511, 1023, 2047]
theorem impl_copyDisk.tab5 : rtab .any (opsOf Try.f49 5) = impl_copyDisk.T5 := by kernel_rfl
theorem impl_copyDisk.bits5 : waitsOk impl_copyDisk.T5.2 impl_copyDisk.B5 = true := by kernel_rfl
set_option maxHeartbeats 8000000 in
set_option maxRecDepth 100000 in
theorem impl_copyDisk.calls (k : Nat) (A0_0 : Option Addr) (c0_0 : Nat) (l0_0 : List Int) (A0_1 : Option Addr) (c0_1 : Nat) (l0_1 : List (S96)) (r1 : List Int) (r2 : List (S96)) (w : World) (hr0_0 : Kd.C (Kd.int .u8) w A0_0 l0_0.length l0_0) (hc0_0 : l0_0.length ≤ c0_0) (hr0_1 : Kd.C k96 w A0_1 l0_1.length l0_1) (hc0_1 : l0_1.length ≤ c0_1) (h : impl_copyDisk.f k l0_0 l0_1 = some (r1, r2)) :
  Calls Try.prog 49 #[.agg #[.slice A0_0 l0_0.length c0_0, .slice A0_1 l0_1.length c0_1]] w fun e w' => ∃ v0_ v1_ : Value, e = .returned (.agg #[v0_, v1_]) ∧ Kd.R (Kd.int .u8) 5 w' w.heap.size (fun _ => True) v0_ r1 ∧ Kd.S k96 96 w' w.heap.size (fun k_ => some k_ ≠ (v0_ : Value).ownBlock) v1_ r2 ∧ Below w.heap.size w w' := by
 have hu31 := Try.underlying31
 have hu96 := Try.underlying96
 have HR0_0 := Ak hr0_0
 have HC0_0 := Ak hc0_0
 clear hr0_0 hc0_0
 have HR0_1 := Ak hr0_1
 have HC0_1 := Ak hc0_1
 clear hr0_1 hc0_1
 have HB := Ak (Below.refl w.heap.size w)
 have H := h
 unfold impl_copyDisk.f at H
 clear h
 replace H := Option.bind_eq_some_iff.mp H
 obtain ⟨t158, A20, H⟩ := H
 have A2 := Ak A20
 clear A20
 have H' := Ak H
 clear H
 go_enter Try.func49, Try.ntmps49
 go_wp2_with (first | ((with_reducible refine gate_dst (N := 1) rfl ?_); refine box_event ?hg (N := 1) ?hd (cs := #[.slice A0_0 l0_0.length c0_0, .slice A0_1 l0_1.length c0_1]) (t := 31) ?hr ?_; (case hd => rfl); (case hg => rfl); (case hr => first | (go_simp; done) | (go_simp; rfl)); intro gb156 hg w3 hbox hb; have BK156 := Ak (hbox); have GW156 := Ak ((zb hg (bw HB.out))); have GE156 := Ak ((zb hg (bw HB.out))); replace HB := Ak (below_step (bw HB.out) hb); clear hb hbox hg) | ((with_reducible refine gate_dst (N := 2) rfl ?_); refine box_event ?hg (N := 2) ?hd (cs := #[.slice none 0 0, .slice none 0 0]) (t := 31) ?hr ?_; (case hd => rfl); (case hg => rfl); (case hr => first | (go_simp; done) | (go_simp; rfl)); intro gb157 hg w4 hbox hb; have BK157 := Ak (hbox); have GW157 := Ak ((zb hg (bw1 HB.out GE156.out))); have GE157 := Ak ((zb hg (bw1 HB.out GE156.out))); replace HB := Ak (below_step (bw1 HB.out GE156.out) hb); have NB156_157 := Ak ((zl hg (bq BK156.out))); have NB157_156 := Ak ((zm hg (bq BK156.out))); replace BK156 := Ak (blk_below (bq BK156.out) hb); clear hb hbox hg; have hnb5 := NB156_157.out; have hnc5 := NB157_156.out; have hcz6_0 := zk0 BK156.out; have hcz6_1 := zk1 BK156.out; have hfz6_0 := blk_frozen BK156.out 0; have hfz6_1 := blk_frozen BK156.out 1) | ((with_reducible refine gate_callee (f := 100) rfl ?_); refine goesL_ (some 8) rfl rfl Try.func100 (by kernel_rfl) rfl #[.slice A0_0 l0_0.length c0_0] rfl gm ?_; (with_reducible refine (slices_Clone_byte_byte.calls _ _ l0_0 t158 _ ?side1 ?side2 A2.out).mono ?_); (case side1 => exact zq (Kd.C_below HR0_0.out HB.out)); (case side2 => exact HC0_0.out); rintro e w7 ⟨v159, rfl, ho0, hb⟩; refine ⟨_, rfl, ?_⟩; have HO160 := Ak (Kd.R_lower ho0 (below_size (bw2 HB.out GE156.out GE157.out))); replace BK156 := Ak (blk_below (bq BK156.out) hb); replace BK157 := Ak (blk_below (bq BK157.out) hb); replace HB := Ak (below_step (bw2 HB.out GE156.out GE157.out) hb); obtain ⟨Ao8, co8, eo8⟩ := Kd.R_slice HO160.out; subst eo8) | ((with_reducible refine gate_dst (N := 3) rfl ?_); refine box_event ?hg (N := 3) ?hd (cs := #[.slice none 0 0, .slice none 0 0]) (t := 31) ?hr ?_; (case hd => rfl); (case hg => rfl); (case hr => first | (go_simp; done) | (go_simp; rfl)); intro gb161 hg w9 hbox hb; replace HO160 := Ak (Kd.R_below (rq HO160.out) hb); have BK161 := Ak (hbox); have GW161 := Ak ((zb hg (bw2 HB.out GE156.out GE157.out))); have GE161 := Ak ((zb hg (bw2 HB.out GE156.out GE157.out))); replace HB := Ak (below_step (bw2 HB.out GE156.out GE157.out) hb); have NB156_161 := Ak ((zl hg (bq BK156.out))); have NB161_156 := Ak ((zm hg (bq BK156.out))); replace BK156 := Ak (blk_below (bq BK156.out) hb); have NB157_161 := Ak ((zl hg (bq BK157.out))); have NB161_157 := Ak ((zm hg (bq BK157.out))); replace BK157 := Ak (blk_below (bq BK157.out) hb); clear hb hbox hg; have hnb10 := NB161_156.out; have hnc10 := NB156_161.out; have hnb11 := NB161_157.out; have hnc11 := NB157_161.out; have hcz12_0 := zk0 BK161.out; have hcz12_1 := zk1 BK161.out; have hfz12_0 := blk_frozen BK161.out 0; have hfz12_1 := blk_frozen BK161.out 1; have hcz13_0 := zk0 BK156.out; have hcz13_1 := zk1 BK156.out; have hfz13_0 := blk_frozen BK156.out 0; have hfz13_1 := blk_frozen BK156.out 1))
 go_loopg [13] k (fun kq v13 w' => ∃ (x13_1 : Int) (x162001_1 : List (S96)) (u162001 : Value), v13 = .int .i64 x13_1 ∧ Aside0 (impl_copyDisk.l0 kq l0_1 (l0_1.length : Int) x13_1 t158 x162001_1 = some (r1, r2)) ∧ Aside0 (kq ≤ k) ∧ Aside0 (Kd.R (Kd.int .u8) 5 w' w.heap.size (fun _ => True) (.slice Ao8 t158.length co8) t158) ∧ Aside0 (Kd.S k96 96 w' w.heap.size (fun k_ => some k_ ≠ ((.slice Ao8 t158.length co8) : Value).ownBlock) u162001 x162001_1) ∧ Aside0 (w'.heap[gb156]? = some (.cells #[(.slice A0_0 l0_0.length c0_0), (.slice A0_1 l0_1.length c0_1)] 31 (0, 0))) ∧ Aside0 (w'.heap[gb157]? = some (.cells #[(.slice none 0 0), (.slice none 0 0)] 31 (0, 0))) ∧ Aside0 (w'.heap[gb161]? = some (.cells #[(.slice Ao8 t158.length co8), u162001] 31 (0, 0))) ∧ Aside0 (Below w.heap.size w w'))
 case atStart => exact ⟨(0), (([] : List (S96))), (.slice none 0 0), (by first | rfl | (simp; done) | (simp [*]; done)), H', ⟨Nat.le_refl _⟩, ⟨by refine rq ?_; exact Kd.R_mono (Kd.R_far (p := ⟨gb161, 1, none⟩) (Kd.R_far (p := ⟨gb161, 0, none⟩) (Kd.R_types HO160.out BK161.out (by decide)) (fun _ hk => hk.2) (.slice Ao8 t158.length co8)) (fun _ hk => hk.2) (.slice none 0 0)) (fun _ hk => trivial)⟩, ⟨by first | exact Kd.S_nil _ _ _ _ _ | exact Kd.N_nil _ _ _ _ _ | exact Kd.V_nil _ _ _ _ _ | exact Kd.Q_nil _ _ _ _ _ | exact Kd.R_nil _ _ _ _ _⟩, ⟨by refine bq ?_; refine blk_far ?_ NB156_161.out _; refine bq ?_; refine blk_far ?_ NB156_161.out _; exact bq BK156.out⟩, ⟨by refine bq ?_; refine blk_far ?_ NB157_161.out _; refine bq ?_; refine blk_far ?_ NB157_161.out _; exact bq BK157.out⟩, ⟨by refine bq ?_; refine blk_put (cs := #[.slice Ao8 t158.length co8, .slice none 0 0]) ?_ 1 _ rfl; refine bq ?_; refine blk_put (cs := #[.slice none 0 0, .slice none 0 0]) ?_ 0 _ rfl; exact bq BK161.out⟩, ⟨bw3 HB.out GE156.out GE157.out GE161.out⟩⟩
 case round =>
  clear H'
  obtain ⟨x13_1, x162001_1, u162001, rfl, HA, HK1, HO_162000, HO_162001, BK156, BK157, BK161, HB⟩ := hrel
  cases gk with
  | zero => exact absurd HA.out (by simp [impl_copyDisk.l0])
  | succ k1 =>
   have H := HA.out
   clear HA
   simp only [impl_copyDisk.l0] at H
   by_cases c14 : x13_1 < (l0_1.length : Int)
   ·rw [if_pos c14] at H
    have c14b0 := decide_eq_true c14
    clear c14
    by_cases c15 : 0 ≤ x13_1
    ·rw [if_pos c15] at H
     have c15b0 := decide_eq_true c15
     clear c15
     by_cases c16 : x13_1 < (l0_1.length : Int)
     ·rw [if_pos c16] at H
      have c16b0 := decide_eq_true c16
      clear c16
      replace H := Option.bind_eq_some_iff.mp H
      obtain ⟨t164, A170, H⟩ := H
      have A17 := Ak A170
      clear A170
      by_cases c18 : x162001_1.length < 4398046511104
      ·rw [if_pos c18] at H
       have LMc18 := Ak c18
       clear c18
       generalize hy167 : (x162001_1 ++ [(⟨(rd_T96 l0_1 x13_1).f0, t164⟩ : S96)] : List (S96)) = y167 at H
       try rw [Option.bind_some] at H
       have Ny167 := Ak hy167.symm
       clear hy167
       have H' := Ak H
       clear H
       have p162 : 0 ≤ (x13_1 : Int) := of_decide_eq_true (by first | (with_reducible assumption) | assumption)
       have q162 : x13_1 < (l0_1.length : Int) := of_decide_eq_true (by first | (with_reducible assumption) | assumption)
       obtain ⟨ad162, A162_1, c162_1, e162, hx162_0, hx162_1, hl162_1, hi162_1⟩ := at_T96 HR0_1.out x13_1 p162 q162
       cases e162
       replace hx162_0 := (HB.out.cell (World.block_lt_of_cell? w _ hx162_0)).trans hx162_0
       replace hx162_1 := (HB.out.cell (World.block_lt_of_cell? w _ hx162_1)).trans hx162_1
       have HR162_1 := Ak hi162_1
       have HC162_1 := Ak hl162_1
       clear hi162_1 hl162_1
       replace p162 := eq_true p162
       replace q162 := eq_true q162
       try go_wp2_with (first | ((with_reducible refine gate_dst (N := 5) rfl ?_); refine box_event ?hg (N := 5) ?hd (cs := #[.int .i64 0, .slice none 0 0]) (t := 96) ?hr ?_; (case hd => rfl); (case hg => rfl); (case hr => first | (go_simp; done) | (go_simp; rfl)); intro gb163 hg w19 hbox hb; replace HO_162000 := Ak (Kd.R_below (rq HO_162000.out) hb); replace HO_162001 := Ak (Kd.S_below (Kd.S_elderB (sq HO_162001.out) gb163 (Nat.le_of_eq hg.symm)) hb); have BK163 := Ak (hbox); have GW163 := Ak ((zb hg (bw3 HB.out GE156.out GE157.out GE161.out))); have GE163 := Ak ((zb hg (bw3 HB.out GE156.out GE157.out GE161.out))); replace HB := Ak (below_step (bw3 HB.out GE156.out GE157.out GE161.out) hb); have NB156_163 := Ak ((zl hg (bq BK156.out))); have NB163_156 := Ak ((zm hg (bq BK156.out))); replace BK156 := Ak (blk_below (bq BK156.out) hb); have NB157_163 := Ak ((zl hg (bq BK157.out))); have NB163_157 := Ak ((zm hg (bq BK157.out))); replace BK157 := Ak (blk_below (bq BK157.out) hb); have NB161_163 := Ak ((zl hg (bq BK161.out))); have NB163_161 := Ak ((zm hg (bq BK161.out))); replace BK161 := Ak (blk_below (bq BK161.out) hb); clear hb hbox hg; have hnb20 := NB163_156.out; have hnc20 := NB156_163.out; have hnb21 := NB163_157.out; have hnc21 := NB157_163.out; have hnb22 := NB163_161.out; have hnc22 := NB161_163.out; have hcz23_0 := zk0 BK163.out; have hcz23_1 := zk1 BK163.out; have hfz23_0 := blk_frozen BK163.out 0; have hfz23_1 := blk_frozen BK163.out 1))
       have n0_ : Aside0 (Kd.R (Kd.int .u8) 5 ((w19.setCell ⟨gb163, 0, none⟩ (.int .i64 ((rd_T96 l0_1 x13_1).f0))).setCell ⟨gb163, 1, none⟩ (.slice A162_1 ((rd_T96 l0_1 x13_1).f1).length c162_1)) w.heap.size (fun _ => True) (.slice Ao8 t158.length co8) t158) := ⟨by refine rq ?_; exact Kd.R_mono (Kd.R_far (p := ⟨gb163, 1, none⟩) (Kd.R_far (p := ⟨gb163, 0, none⟩) (Kd.R_types HO_162000.out BK163.out (by decide)) (fun _ hk => hk.2) (.int .i64 ((rd_T96 l0_1 x13_1).f0))) (fun _ hk => hk.2) (.slice A162_1 ((rd_T96 l0_1 x13_1).f1).length c162_1)) (fun _ hk => trivial)⟩
       have n1_ : Aside0 (Kd.S k96 96 ((w19.setCell ⟨gb163, 0, none⟩ (.int .i64 ((rd_T96 l0_1 x13_1).f0))).setCell ⟨gb163, 1, none⟩ (.slice A162_1 ((rd_T96 l0_1 x13_1).f1).length c162_1)) w.heap.size (fun k_ => Nb k_ (.slice Ao8 t158.length co8) ∧ k_ ≠ gb163) u162001 x162001_1) := ⟨by refine sq ?_; exact Kd.S_mono (Kd.S_far (p := ⟨gb163, 1, none⟩) (Kd.S_far (p := ⟨gb163, 0, none⟩) (Kd.S_mono HO_162001.out (fun k_ hk => (⟨hk, hk.2⟩ : _ ∧ k_ ≠ gb163))) (fun _ hk => hk.2) (.int .i64 ((rd_T96 l0_1 x13_1).f0))) (fun _ hk => hk.2) (.slice A162_1 ((rd_T96 l0_1 x13_1).f1).length c162_1)) (fun _ hk => ⟨hk.1.1, hk.1.2⟩)⟩
       have n2_ : Aside0 (((w19.setCell ⟨gb163, 0, none⟩ (.int .i64 ((rd_T96 l0_1 x13_1).f0))).setCell ⟨gb163, 1, none⟩ (.slice A162_1 ((rd_T96 l0_1 x13_1).f1).length c162_1)).heap[gb156]? = some (.cells #[.slice A0_0 l0_0.length c0_0, .slice (some ad162) l0_1.length c0_1] 31 (0, 0))) := ⟨by refine bq ?_; refine blk_far ?_ NB156_163.out _; refine bq ?_; refine blk_far ?_ NB156_163.out _; exact bq BK156.out⟩
       have n3_ : Aside0 (((w19.setCell ⟨gb163, 0, none⟩ (.int .i64 ((rd_T96 l0_1 x13_1).f0))).setCell ⟨gb163, 1, none⟩ (.slice A162_1 ((rd_T96 l0_1 x13_1).f1).length c162_1)).heap[gb157]? = some (.cells #[.slice none 0 0, .slice none 0 0] 31 (0, 0))) := ⟨by refine bq ?_; refine blk_far ?_ NB157_163.out _; refine bq ?_; refine blk_far ?_ NB157_163.out _; exact bq BK157.out⟩
       have n4_ : Aside0 (((w19.setCell ⟨gb163, 0, none⟩ (.int .i64 ((rd_T96 l0_1 x13_1).f0))).setCell ⟨gb163, 1, none⟩ (.slice A162_1 ((rd_T96 l0_1 x13_1).f1).length c162_1)).heap[gb161]? = some (.cells #[.slice Ao8 t158.length co8, u162001] 31 (0, 0))) := ⟨by refine bq ?_; refine blk_far ?_ NB161_163.out _; refine bq ?_; refine blk_far ?_ NB161_163.out _; exact bq BK161.out⟩
       have n5_ : Aside0 (((w19.setCell ⟨gb163, 0, none⟩ (.int .i64 ((rd_T96 l0_1 x13_1).f0))).setCell ⟨gb163, 1, none⟩ (.slice A162_1 ((rd_T96 l0_1 x13_1).f1).length c162_1)).heap[gb163]? = some (.cells #[.int .i64 ((rd_T96 l0_1 x13_1).f0), .slice A162_1 ((rd_T96 l0_1 x13_1).f1).length c162_1] 96 (0, 0))) := ⟨by refine bq ?_; refine blk_put (cs := #[.int .i64 ((rd_T96 l0_1 x13_1).f0), .slice none 0 0]) ?_ 1 _ rfl; refine bq ?_; refine blk_put (cs := #[.int .i64 0, .slice none 0 0]) ?_ 0 _ rfl; exact bq BK163.out⟩
       have n6_ : Aside0 (Below w.heap.size w ((w19.setCell ⟨gb163, 0, none⟩ (.int .i64 ((rd_T96 l0_1 x13_1).f0))).setCell ⟨gb163, 1, none⟩ (.slice A162_1 ((rd_T96 l0_1 x13_1).f1).length c162_1))) := ⟨bw4 HB.out GE156.out GE157.out GE161.out GE163.out⟩
       (try clear HO_162000)
       (try clear HO_162001)
       (try clear BK156)
       (try clear BK157)
       (try clear BK161)
       (try clear BK163)
       (try clear HB)
       generalize ((w19.setCell ⟨gb163, 0, none⟩ (.int .i64 ((rd_T96 l0_1 x13_1).f0))).setCell ⟨gb163, 1, none⟩ (.slice A162_1 ((rd_T96 l0_1 x13_1).f1).length c162_1)) = w24 at n0_ n1_ n2_ n3_ n4_ n5_ n6_ ⊢
       have HO_162000 := n0_
       have HO_162001 := n1_
       have BK156 := n2_
       have BK157 := n3_
       have BK161 := n4_
       have BK163 := n5_
       have HB := n6_
       clear n0_ n1_ n2_ n3_ n4_ n5_ n6_
       replace HO_162000 := Ak (Kd.R_drew HO_162000.out)
       replace HO_162001 := Ak (Kd.S_drew HO_162001.out)
       replace BK156 := Ak (blk_drew BK156.out)
       replace BK157 := Ak (blk_drew BK157.out)
       replace BK161 := Ak (blk_drew BK161.out)
       replace BK163 := Ak (blk_drew BK163.out)
       replace HB := Ak (below_drew1 HB.out)
       refine start_ (n := 12) (S := fun w' => w'.cell? ⟨gb161, 0, none⟩ = some (.slice Ao8 t158.length co8) ∧ w'.cell? ⟨gb161, 1, none⟩ = some (u162001) ∧ w'.cell? ⟨gb163, 0, none⟩ = some (.int .i64 ((rd_T96 l0_1 x13_1).f0)) ∧ w'.cell? ⟨gb163, 1, none⟩ = some (.slice A162_1 ((rd_T96 l0_1 x13_1).f1).length c162_1)) (ds := [11]) #[false, false, false, false, false, false, false, false, false, false, false, false] (by kernel_rfl) rfl rfl ⟨zk0 BK161.out, zk1 BK161.out, zk0 BK163.out, zk1 BK163.out⟩ (fun hHeld => ?_); refine with_tabW impl_copyDisk.tab5 impl_copyDisk.bits5 (fun HT_ HW_ => ?_)
       generalize w24.drew = w25 at HO_162000 HO_162001 BK156 BK157 BK161 BK163 HB hHeld ⊢
       refine puT 0 17 HT_ (h := ?_)
       refine puT 2 19 HT_ (h := ?_)
       refine puT 4 21 HT_ (h := ?_)
       refine taT 1 18 HT_ HW_ hHeld (h := ?_)
       refine taT 3 20 HT_ HW_ hHeld (h := ?_)
       refine taT 5 22 HT_ HW_ hHeld (h := ?_)
       refine onT 6 (some 23) HT_ (h := fun K hK => ?_)
       refine goes_ Try.func100 (by kernel_rfl) rfl #[.slice A162_1 ((rd_T96 l0_1 x13_1).f1).length c162_1] (by rfl) rfl rfl gm ?_
       with_reducible refine (slices_Clone_byte_byte.calls _ _ ((rd_T96 l0_1 x13_1).f1) t164 _ ?side1 ?side2 A17.out).mono ?_
       (case side1 => exact zq (Kd.C_below HR162_1.out HB.out))
       (case side2 => exact HC162_1.out)
       rintro e w26 ⟨v165, rfl, ho0, hb⟩
       refine ⟨_, rfl, ?_⟩
       replace HO_162001 := Ak (Kd.S_elder' (sq HO_162001.out) (Kd.R_base ho0) hb)
       have HO166 := Ak (Kd.R_lower (Kd.R_new' ho0 (Kd.R_lt (rq HO_162000.out))) (below_size (bw4 HB.out GE156.out GE157.out GE161.out GE163.out)))
       replace HO_162000 := Ak (Kd.R_elder' (rq HO_162000.out) (Kd.R_base ho0) hb)
       replace BK156 := Ak (blk_below (bq BK156.out) hb)
       replace BK157 := Ak (blk_below (bq BK157.out) hb)
       replace BK161 := Ak (blk_below (bq BK161.out) hb)
       replace BK163 := Ak (blk_below (bq BK163.out) hb)
       replace HB := Ak (below_step (bw4 HB.out GE156.out GE157.out GE161.out GE163.out) hb)
       obtain ⟨Ao27, co27, eo27⟩ := Kd.R_slice HO166.out
       (first | subst eo27 | (injection eo27 with f1_ f2_ f3_; have f4_ := f1_.symm; have f5_ := f3_.symm; clear f1_ f2_ f3_; subst f4_; subst f5_))
       refine hK.out _ _ ⟨zk0 BK161.out, zk1 BK161.out, zk0 BK163.out, zk1 BK163.out⟩ (fun hHeld => ?_)
       clear hK K
       refine norm_ (a' := ?_) ?_ ?_
       rotate_left
       ·show Act.put _ (some 23) _ = _
        simp only [Act.put, sT, sZ, sS, i64_w, i32_w]
        rfl
       refine puT 7 24 HT_ (h := ?_)
       refine onT 8 (some 25) HT_ (h := fun K hK => ?_)
       refine value_ (w1 := ?_) (v := ?_) (by rfl) rfl ?_ ?_
       rotate_left 2
       ·go_simp
        constructor
        ·rfl
        ·rfl
       refine hK.out _ _ ⟨(blk_cell (blk_alloc BK161.out _) 0).trans rfl, (blk_cell (blk_alloc BK161.out _) 1).trans rfl, (blk_cell (blk_alloc BK163.out _) 0).trans rfl, (blk_cell (blk_alloc BK163.out _) 1).trans rfl⟩ (fun hHeld => ?_)
       clear hK K
       refine norm_ (a' := ?_) ?_ ?_
       rotate_left
       ·show Act.put _ (some 25) _ = _
        simp only [Act.put, sT, sZ, sS, i64_w, i32_w]
        rfl
       refine onT 9 (some 26) HT_ (h := fun K hK => ?_)
       refine Kd.S_append_step k96 (w0 := w) w.heap.size (by rfl) (.tmp 18) (.tmp 25) 29 96 (.agg #[(.int .i64 0), (.slice none 0 0)]) 32 rfl Try.underlying29 info96 rfl (by decide) (by omega) u162001 x162001_1 (⟨(rd_T96 l0_1 x13_1).f0, t164⟩ : S96) [.int .i64 ((rd_T96 l0_1 x13_1).f0), .slice Ao27 t164.length co27] (fun k_ => Nb k_ (.slice Ao8 t158.length co8) ∧ k_ ≠ gb163) (fun k_ => some k_ = (.slice Ao27 t164.length co27 : Value).ownBlock) rfl rfl ?aP (fun k_ hk_ => ((Kd.R_mono (ok' := fun k_ => ((fun k_ => Nb k_ (.slice Ao8 t158.length co8) ∧ k_ ≠ gb163)) k_ ∧ some k_ ≠ (u162001 : Value).ownBlock) (Kd.R_types (Kd.R_apart' (HO166.out) (Kd.S_typed HO_162001.out) (by decide)) BK163.out (by decide)) (fun k_ hk => ⟨⟨hk.1.1.2, hk.2⟩, hk.1.2⟩))).1 k_ hk_.symm) ?aF ?aO ?aB ?aS ?aL ?_
       (case aP => exact k96_mkM _ _ _ (⟨(rd_T96 l0_1 x13_1).f0, t164⟩ : S96) (Kd.R_mono (Kd.R_tight rfl (Kd.R_mono (ok' := fun k_ => ((fun k_ => Nb k_ (.slice Ao8 t158.length co8) ∧ k_ ≠ gb163)) k_ ∧ some k_ ≠ (u162001 : Value).ownBlock) (Kd.R_types (Kd.R_apart' (HO166.out) (Kd.S_typed HO_162001.out) (by decide)) BK163.out (by decide)) (fun k_ hk => ⟨⟨hk.1.1.2, hk.2⟩, hk.1.2⟩))) (fun _ h_ => h_)))
       (case aB => exact (bw4 HB.out GE156.out GE157.out GE161.out GE163.out))
       (case aF => exact (fun k_ hk => ⟨Kd.fresh' (Kd.R_lt (rq HO_162000.out)) k_ hk, Kd.freshB (g := gb163) (o := .cells #[.int .i64 ((rd_T96 l0_1 x13_1).f0), .slice A162_1 ((rd_T96 l0_1 x13_1).f1).length c162_1] 96 (0, 0)) (bq BK163.out) k_ hk⟩))
       (case aO => exact (by refine sq ?_; exact Kd.S_mono HO_162001.out (fun k_ hk => ⟨⟨hk.1.1, hk.1.2⟩, fun e_ => hk.2 e_⟩)))
       (case aS => exact (below_size (bw4 HB.out GE156.out GE157.out GE161.out GE163.out)))
       (case aL => have := LMc18.out; omega)
       intro v168 w28 ho hb hg hat
       rw [← Ny167.out] at ho
       replace HO_162000 := Ak (Kd.R_over' (rq HO_162000.out) (Kd.S_typed (sq HO_162001.out)) (by decide) hg)
       replace BK156 := Ak (blk_grown (g := gb156) (o := .cells #[.slice A0_0 l0_0.length c0_0, .slice (some ad162) l0_1.length c0_1] 31 (0, 0)) (bq BK156.out) hg (Kd.S_ne HO_162001.out BK156.out (by decide)))
       replace BK157 := Ak (blk_grown (g := gb157) (o := .cells #[.slice none 0 0, .slice none 0 0] 31 (0, 0)) (bq BK157.out) hg (Kd.S_ne HO_162001.out BK157.out (by decide)))
       replace BK161 := Ak (blk_grown (g := gb161) (o := .cells #[.slice Ao8 t158.length co8, u162001] 31 (0, 0)) (bq BK161.out) hg (Kd.S_ne HO_162001.out BK161.out (by decide)))
       replace BK163 := Ak (blk_grown (g := gb163) (o := .cells #[.int .i64 ((rd_T96 l0_1 x13_1).f0), .slice A162_1 ((rd_T96 l0_1 x13_1).f1).length c162_1] 96 (0, 0)) (bq BK163.out) hg (Kd.S_away HO_162001.out (fun _ hk => hk.1.2)))
       replace HB := Ak (hb)
       have HO169 := Ak (ho)
       clear HO_162001 HO166
       clear ho hb hg hat
       obtain ⟨Ao29, co29, eo29⟩ := Kd.S_slice HO169.out
       (first | subst eo29 | (injection eo29 with f1_ f2_ f3_; have f4_ := f1_.symm; have f5_ := f3_.symm; clear f1_ f2_ f3_; subst f4_; subst f5_))
       refine hK.out _ _ ⟨zk0 BK161.out, zk1 BK161.out, zk0 BK163.out, zk1 BK163.out⟩ (fun hHeld => ?_)
       clear hK K
       refine norm_ (a' := ?_) ?_ ?_
       rotate_left
       ·show Act.put _ (some 26) _ = _
        simp only [Act.put, sT, sZ, sS, i64_w, i32_w]
        rfl
       refine puT 10 27 HT_ (h := ?_)
       refine laT 11 none HT_ (h := fun K hK => ?_)
       have hs30 := zk1 BK161.out
       have hfs30 := blk_frozen BK161.out 1
       have hns30_0 := NB156_161.out
       have hns30_1 := NB157_161.out
       have hns30_3 := NB163_161.out
       have hms30_0 := NB161_156.out
       have hms30_1 := NB161_157.out
       have hms30_3 := NB161_163.out
       refine skip_ (w1 := ?_) (by rfl) rfl ?_ ?_
       rotate_left
       ·go_simp
        rfl
       refine hK.out _ _ ?_
       clear hK K
       refine done_ (done_of HT_.out (by kernel_rfl)) ?_
       try go_wp2
       go_roundg k1
       case measure => have := HK1.out; omega
       case rel => exact ⟨(wrap64 (x13_1 + 1)), (y167), (.slice Ao29 y167.length co29), (by first | rfl | (simp; done) | (simp [*]; done)), H', ⟨by have := HK1.out; omega⟩, ⟨by refine rq ?_; exact Kd.R_mono (Kd.R_far (p := ⟨gb161, 1, none⟩) (Kd.R_types HO_162000.out BK161.out (by decide)) (fun _ hk => hk.2) (.slice Ao29 y167.length co29)) (fun _ hk => trivial)⟩, ⟨by refine sq ?_; exact Kd.S_mono (Kd.S_far (p := ⟨gb161, 1, none⟩) (Kd.S_types HO169.out BK161.out (by decide)) (fun _ hk => hk.2) (.slice Ao29 y167.length co29)) (fun _ hk => hk.1.1)⟩, ⟨by refine bq ?_; refine blk_far ?_ NB156_161.out _; exact bq BK156.out⟩, ⟨by refine bq ?_; refine blk_far ?_ NB157_161.out _; exact bq BK157.out⟩, ⟨by refine bq ?_; refine blk_put (cs := #[.slice Ao8 t158.length co8, u162001]) ?_ 1 _ rfl; exact bq BK161.out⟩, ⟨bw4 HB.out GE156.out GE157.out GE161.out GE163.out⟩⟩
      ·rw [if_neg c18] at H
       exact absurd H (by simp)
     ·rw [if_neg c16] at H
      exact absurd H (by simp)
    ·rw [if_neg c15] at H
     exact absurd H (by simp)
   ·rw [if_neg c14] at H
    have c14b0 := decide_eq_false c14
    clear c14
    simp only [Option.some.injEq, Prod.mk.injEq] at H
    obtain ⟨rfl, rfl⟩ := H
    have hnb31 := NB161_156.out
    have hnc31 := NB156_161.out
    have hnb32 := NB161_157.out
    have hnc32 := NB157_161.out
    have hcz33_0 : wr.cell? ⟨gb161, 0, none⟩ = some (.slice Ao8 t158.length co8) := zk0 BK161.out
    have hcz33_1 : wr.cell? ⟨gb161, 1, none⟩ = some (u162001) := zk1 BK161.out
    have hfz33_0 := blk_frozen BK161.out 0
    have hfz33_1 := blk_frozen BK161.out 1
    have hnb34 := NB157_156.out
    have hnc34 := NB156_157.out
    have hcz35_0 : wr.cell? ⟨gb157, 0, none⟩ = some (.slice none 0 0) := zk0 BK157.out
    have hcz35_1 : wr.cell? ⟨gb157, 1, none⟩ = some (.slice none 0 0) := zk1 BK157.out
    have hfz35_0 := blk_frozen BK157.out 0
    have hfz35_1 := blk_frozen BK157.out 1
    obtain ⟨Ao36, co36, eo36⟩ := Kd.S_slice HO_162001.out
    subst eo36
    go_wp2
    refine bodyPost_ret (results_cell_row rfl _ _ gb157 31 #[.slice Ao8 t158.length co8, .slice Ao36 x162001_1.length co36] (0, 0) _ rfl (by refine bq ?_; refine blk_put (cs := #[.slice Ao8 t158.length co8, .slice none 0 0]) ?_ 1 _ rfl; refine bq ?_; refine blk_put (cs := #[.slice none 0 0, .slice none 0 0]) ?_ 0 _ rfl; exact bq BK157.out) Try.underlying31 rfl (by kernel_rfl)) rfl ?_
    exact ⟨_, _, zw, by refine rq ?_; exact Kd.R_mono (Kd.R_far (p := ⟨gb157, 1, none⟩) (Kd.R_far (p := ⟨gb157, 0, none⟩) (Kd.R_types HO_162000.out BK157.out (by decide)) (fun _ hk => hk.2) (.slice Ao8 t158.length co8)) (fun _ hk => hk.2) (.slice Ao36 x162001_1.length co36)) (fun _ hk => trivial), by refine sq ?_; exact Kd.S_mono (Kd.S_far (p := ⟨gb157, 1, none⟩) (Kd.S_far (p := ⟨gb157, 0, none⟩) (Kd.S_types HO_162001.out BK157.out (by decide)) (fun _ hk => hk.2) (.slice Ao8 t158.length co8)) (fun _ hk => hk.2) (.slice Ao36 x162001_1.length co36)) (fun _ hk => hk.1), bw3 HB.out GE156.out GE157.out GE161.out⟩

def spec_l1In.f (a0 : Int) (a1 : Int) (a2 : Int) : Option (Bool) := if a0 ≥ a1 then (some (decide (a0 ≤ a2))) else (some false)
set_option maxHeartbeats 8000000 in
set_option maxRecDepth 100000 in
theorem spec_l1In.calls (a0 : Int) (a1 : Int) (a2 : Int) (r : Bool) (w : World) (h : spec_l1In.f a0 a1 a2 = some r) :
  Calls Try.prog 97 #[.int .i64 a0, .int .i64 a1, .int .i64 a2] w fun e w' => e = .returned (.bool r) ∧ Drawn0 w w' := by
 have H := h
 unfold spec_l1In.f at H
 clear h
 by_cases c4 : a0 ≥ a1
 ·rw [if_pos c4] at H
  have c4b0 : decide (a1 ≤ a0) = true := decide_eq_true c4
  clear c4
  obtain rfl := Option.some.inj H
  go_enter Try.func97, Try.ntmps97
  go_wp2
  go_ret
  exact ⟨by first | rfl | (simp; done) | (simp [*]; done), by repeat (first | exact Drawn0.refl _ | apply Drawn0.step)⟩
 ·rw [if_neg c4] at H
  have c4b0 : decide (a1 ≤ a0) = false := decide_eq_false c4
  clear c4
  obtain rfl := Option.some.inj H
  go_enter Try.func97, Try.ntmps97
  go_wp2
  go_ret
  exact ⟨by first | rfl | (simp; done) | (simp [*]; done), by repeat (first | exact Drawn0.refl _ | apply Drawn0.step)⟩

def spec_l11Many.f (l0_0 : List Int) (l0_1 : List (S96)) : Option (Int) := some (wrap64 ((l0_0.length : Int) / 64))
set_option maxHeartbeats 8000000 in
set_option maxRecDepth 100000 in
theorem spec_l11Many.calls (A0_0 : Option Addr) (c0_0 : Nat) (l0_0 : List Int) (A0_1 : Option Addr) (c0_1 : Nat) (l0_1 : List (S96)) (r : Int) (w : World) (hr0_0 : Kd.C (Kd.int .u8) w A0_0 l0_0.length l0_0) (hc0_0 : l0_0.length ≤ c0_0) (hr0_1 : Kd.C k96 w A0_1 l0_1.length l0_1) (hc0_1 : l0_1.length ≤ c0_1) (h : spec_l11Many.f l0_0 l0_1 = some r) :
  Calls Try.prog 104 #[.agg #[.slice A0_0 l0_0.length c0_0, .slice A0_1 l0_1.length c0_1]] w fun e w' => e = .returned (.int .i64 r) ∧ Below w.heap.size w w' := by
 have hu31 := Try.underlying31
 have HR0_0 := Ak hr0_0
 have HC0_0 := Ak hc0_0
 clear hr0_0 hc0_0
 have HR0_1 := Ak hr0_1
 have HC0_1 := Ak hc0_1
 clear hr0_1 hc0_1
 have HB := Ak (Below.refl w.heap.size w)
 have H := h
 unfold spec_l11Many.f at H
 clear h
 obtain rfl := Option.some.inj H
 go_enter Try.func104, Try.ntmps104
 go_wp2_with (first | ((with_reducible refine gate_dst (N := 1) rfl ?_); refine box_event ?hg (N := 1) ?hd (cs := #[.slice A0_0 l0_0.length c0_0, .slice A0_1 l0_1.length c0_1]) (t := 31) ?hr ?_; (case hd => rfl); (case hg => rfl); (case hr => first | (go_simp; done) | (go_simp; rfl)); intro gb170 hg w2 hbox hb; have BK170 := Ak (hbox); have GW170 := Ak ((zb hg (bw HB.out))); have GE170 := Ak ((zb hg (bw HB.out))); replace HB := Ak (below_step (bw HB.out) hb); clear hb hbox hg; have hcz3_0 := zk0 BK170.out; have hcz3_1 := zk1 BK170.out; have hfz3_0 := blk_frozen BK170.out 0; have hfz3_1 := blk_frozen BK170.out 1))
 go_ret
 exact ⟨zw, bw1 HB.out GE170.out⟩



def impl_inRange.f (a0 : Int) (a1 : Int) (a2 : Int) : Option (Bool) := if a0 ≥ a1 then (some (decide (a0 ≤ a2))) else (some false)
set_option maxHeartbeats 8000000 in
set_option maxRecDepth 100000 in
theorem impl_inRange.calls (a0 : Int) (a1 : Int) (a2 : Int) (r : Bool) (w : World) (h : impl_inRange.f a0 a1 a2 = some r) :
  Calls Try.prog 101 #[.int .i64 a0, .int .i64 a1, .int .i64 a2] w fun e w' => e = .returned (.bool r) ∧ Drawn0 w w' := by
 have H := h
 unfold impl_inRange.f at H
 clear h
 by_cases c4 : a0 ≥ a1
 ·rw [if_pos c4] at H
  have c4b0 : decide (a1 ≤ a0) = true := decide_eq_true c4
  clear c4
  obtain rfl := Option.some.inj H
  go_enter Try.func101, Try.ntmps101
  go_wp2
  go_ret
  exact ⟨by first | rfl | (simp; done) | (simp [*]; done), by repeat (first | exact Drawn0.refl _ | apply Drawn0.step)⟩
 ·rw [if_neg c4] at H
  have c4b0 : decide (a1 ≤ a0) = false := decide_eq_false c4
  clear c4
  obtain rfl := Option.some.inj H
  go_enter Try.func101, Try.ntmps101
  go_wp2
  go_ret
  exact ⟨by first | rfl | (simp; done) | (simp [*]; done), by repeat (first | exact Drawn0.refl _ | apply Drawn0.step)⟩

/-- A state of type 31 at block g of W; what its slices lead to came in by w0. -/
def IsS31 (w0 W : World) (g : Nat) (f0 : List Int) (f1 : List (S96)) : Prop := ∃ A0 c0, ∃ A1 c1, W.heap[g]? = some (.cells #[.slice A0 f0.length c0, .slice A1 f1.length c1] 31 (0, 0)) ∧ w0.heap.size ≤ g ∧ Kd.C (Kd.int .u8) w0 A0 f0.length f0 ∧ Kd.C k96 w0 A1 f1.length f1
theorem IsS31.drewN {w0 W : World} {g : Nat} {f0 : List Int} {f1 : List (S96)} (h : IsS31 w0 W g f0 f1) (m : Nat) : IsS31 w0 (W.drewN m) g f0 f1 := h
theorem IsS31.at_ {w0 W : World} {g : Nat} {f0 : List Int} {f1 : List (S96)} {w' : World} {m : Nat} (hq : W.drewN m = w') (h : IsS31 w0 W g f0 f1) : IsS31 w0 w' g f0 f1 := by subst hq; exact IsS31.drewN h m
theorem IsS31.apart {w0 W : World} {g : Nat} {f0 : List Int} {f1 : List (S96)} {α : Type} {d : Kd α} {e : Nat} {base : Nat} {ok : Nat → Prop} {v : Value} {xs : List α} (h : IsS31 w0 W g f0 f1) (ho : d.R e W base ok v xs) (ht : ∀ q, q ∈ e :: d.E → q ≠ 31) : d.R e W base (fun k => ok k ∧ k ≠ g) v xs := by
 obtain ⟨A0, c0, A1, c1, hb, hg, hr0, hr1⟩ := h
 exact Kd.R_types ho hb ht
def impl_Disk_sectors.f (l0 : List Int) : Option (Int) := some (wrap64 ((l0.length : Int) / 64))
set_option maxHeartbeats 8000000 in
set_option maxRecDepth 100000 in
theorem impl_Disk_sectors.calls (g : Nat) (A0 : Option Addr) (c0 : Nat) (l0 : List Int) (r : Int) (w : World) (hp : w.cell? ⟨g, 0, none⟩ = some (.slice A0 l0.length c0)) (h : impl_Disk_sectors.f l0 = some r) :
  Calls Try.prog 114 #[.pointer (some ⟨g, 0, none⟩)] w fun e w' => e = .returned (.int .i64 r) ∧ Drawn0 w w' := by
 have H := h
 unfold impl_Disk_sectors.f at H
 clear h
 obtain rfl := Option.some.inj H
 go_enter Try.func114, Try.ntmps114
 go_wp2
 go_ret
 exact ⟨by first | rfl | (simp; done) | (simp [*]; done), by repeat (first | exact Drawn0.refl _ | apply Drawn0.step)⟩

def impl_Disk_isSector.f (l0 : List Int) (a1 : Int) : Option (Bool) := (impl_Disk_sectors.f l0).bind fun t170 => ((impl_inRange.f a1 0 (wrap64 (t170 - 1))).bind fun t171 => (some t171))
set_option maxHeartbeats 8000000 in
set_option maxRecDepth 100000 in
theorem impl_Disk_isSector.calls (g : Nat) (A0 : Option Addr) (c0 : Nat) (l0 : List Int) (a1 : Int) (r : Bool) (w : World) (hp : w.cell? ⟨g, 0, none⟩ = some (.slice A0 l0.length c0)) (h : impl_Disk_isSector.f l0 a1 = some r) :
  Calls Try.prog 106 #[.pointer (some ⟨g, 0, none⟩), .int .i64 a1] w fun e w' => e = .returned (.bool r) ∧ Drawn0 w w' := by
 have H := h
 unfold impl_Disk_isSector.f at H
 clear h
 replace H := Option.bind_eq_some_iff.mp H
 obtain ⟨t170, A30, H⟩ := H
 have A3 := Ak A30
 clear A30
 replace H := Option.bind_eq_some_iff.mp H
 obtain ⟨t171, A40, H⟩ := H
 have A4 := Ak A40
 clear A40
 obtain rfl := Option.some.inj H
 go_enter Try.func106, Try.ntmps106
 go_wp2_with (first | ((with_reducible refine gate_callee (f := 114) rfl ?_); refine goesL_ (some 7) rfl rfl Try.func114 (by kernel_rfl) rfl #[.pointer (some ⟨g, 0, none⟩)] rfl gm ?_; (with_reducible refine (impl_Disk_sectors.calls g A0 c0 l0 t170 _ ?side1 A3.out).mono ?_); (case side1 => first | exact hp | (go_simp; done) | simpa using hp); rintro e w' ⟨rfl, ⟨nd, rfl⟩⟩; refine ⟨_, rfl, ?_⟩) | ((with_reducible refine gate_callee (f := 101) rfl ?_); refine goesL_ (some 9) rfl rfl Try.func101 (by kernel_rfl) rfl #[.int .i64 a1, .int .i64 0, .int .i64 (wrap64 (t170 - 1))] rfl gm ?_; (with_reducible refine (impl_inRange.calls a1 0 (wrap64 (t170 - 1)) t171 _ A4.out).mono ?_); rintro e w' ⟨rfl, ⟨nd, rfl⟩⟩; refine ⟨_, rfl, ?_⟩))
 go_ret
 exact ⟨by first | rfl | (simp; done) | (simp [*]; done), by repeat (first | exact Drawn0.refl _ | apply Drawn0.step)⟩
theorem impl_Disk_isSector.callsB (g : Nat) (A0 : Option Addr) (c0 : Nat) (l0 : List Int) (a1 : Int) (r : Bool) (w : World) (hp : w.cell? ⟨g, 0, none⟩ = some (.slice A0 l0.length c0)) (h : impl_Disk_isSector.f l0 a1 = some r) :
  Calls Try.prog 106 #[.pointer (some ⟨g, 0, none⟩), .int .i64 a1] w fun e w' => e = .returned (.bool r) ∧ Below w.heap.size w w' :=
 (impl_Disk_isSector.calls g A0 c0 l0 a1 r w hp h).mono fun _ _ ⟨he, hd⟩ => ⟨he, by obtain ⟨n, rfl⟩ := hd; exact pw_below_drewN (Below.refl _ _) n⟩

mutual
def impl_DiskOk.j0 : Nat → List Int → Bool → List Int → List (S96) → Option (Bool)
 | 0, _, _, _, _ => none
 | k + 1, x6, x14, x173000, x173001 => if x14 = true then (some false) else (impl_DiskOk.l0 k x6 x173001 (x173001.length : Int) 0)
def impl_DiskOk.l0 : Nat → List Int → List (S96) → Int → Int → Option (Bool)
 | 0, _, _, _, _ => none
 | k + 1, x6, x16, x17, x18 => if x18 < x17 then (if 0 ≤ x18 then (if x18 < (x16.length : Int) then ((impl_Disk_isSector.f x6 ((rd_T96 x16 x18).f0)).bind fun t177 => (if t177 = true then (if (((rd_T96 x16 x18).f1).length : Int) = 64 then (impl_DiskOk.l0 k x6 x16 x17 (wrap64 (x18 + 1))) else (some false)) else (some false))) else (none)) else (none)) else (some true)
end
def impl_DiskOk.f (k : Nat) (l0_0 : List Int) (l0_1 : List (S96)) : Option (Bool) := if ((l0_0.length : Int) % 64) = 0 then ((impl_Disk_sectors.f l0_0).bind fun t173 => ((impl_inRange.f t173 1 400).bind fun t174 => (impl_DiskOk.j0 k l0_0 (!t174) l0_0 l0_1))) else (impl_DiskOk.j0 k l0_0 true l0_0 l0_1)
set_option maxHeartbeats 8000000 in
set_option maxRecDepth 100000 in
theorem impl_DiskOk.calls (k : Nat) (A0_0 : Option Addr) (c0_0 : Nat) (l0_0 : List Int) (A0_1 : Option Addr) (c0_1 : Nat) (l0_1 : List (S96)) (r : Bool) (w : World) (hr0_0 : Kd.C (Kd.int .u8) w A0_0 l0_0.length l0_0) (hc0_0 : l0_0.length ≤ c0_0) (hr0_1 : Kd.C k96 w A0_1 l0_1.length l0_1) (hc0_1 : l0_1.length ≤ c0_1) (h : impl_DiskOk.f k l0_0 l0_1 = some r) :
  Calls Try.prog 67 #[.agg #[.slice A0_0 l0_0.length c0_0, .slice A0_1 l0_1.length c0_1]] w fun e w' => e = .returned (.bool r) ∧ Below w.heap.size w w' := by
 have hu31 := Try.underlying31
 have hu96 := Try.underlying96
 have HR0_0 := Ak hr0_0
 have HC0_0 := Ak hc0_0
 clear hr0_0 hc0_0
 have HR0_1 := Ak hr0_1
 have HC0_1 := Ak hc0_1
 clear hr0_1 hc0_1
 have HB := Ak (Below.refl w.heap.size w)
 have H := h
 unfold impl_DiskOk.f at H
 clear h
 have HC2 := Ak H
 clear H
 go_enter Try.func67, Try.ntmps67
 go_upto_region 1 with (first | ((with_reducible refine gate_dst (N := 1) rfl ?_); (try (refine gate_guard (by rfl) ?_; dsimp only)); refine box_event ?hg (N := 1) ?hd (cs := #[.slice A0_0 l0_0.length c0_0, .slice A0_1 l0_1.length c0_1]) (t := 31) ?hr ?_; (case hd => rfl); (case hg => rfl); (case hr => first | (go_simp; done) | (go_simp; rfl)); intro gb172 hg w3 hbox hb; have BK172 := Ak (hbox); have GW172 := Ak ((zb hg (bw HB.out))); have GE172 := Ak ((zb hg (bw HB.out))); replace HB := Ak (below_step (bw HB.out) hb); clear hb hbox hg))
 (try simp only [Act.put, sT, sZ, sS])
 go_cut [14] (fun v14 wc => ∃ (kq : Nat) (x14_1 : Bool), v14 = .bool x14_1 ∧ Aside0 (impl_DiskOk.j0 kq l0_0 x14_1 l0_0 l0_1 = some r) ∧ Aside0 (kq ≤ k) ∧ Aside0 (wc.heap[gb172]? = some (.cells #[(.slice A0_0 l0_0.length c0_0), (.slice A0_1 l0_1.length c0_1)] 31 (0, 0))) ∧ Aside0 (Below w.heap.size w wc))
 case first =>
  have H := HC2.out
  clear HC2
  by_cases c4 : ((l0_0.length : Int) % 64) = 0
  ·rw [if_pos c4] at H
   have c4b0 : (((l0_0.length : Int) % 64) == 0) = true := beq_iff_eq.mpr c4
   have c4b1 : (((l0_0.length : Int) % 64) != 0) = false := bne_eq_false_iff_eq.mpr c4
   clear c4
   (first | rw [c4b0] | (simp only [i64_w, i32_w]; rw [c4b0]) | skip)
   replace H := Option.bind_eq_some_iff.mp H
   obtain ⟨t173, A50, H⟩ := H
   have A5 := Ak A50
   clear A50
   replace H := Option.bind_eq_some_iff.mp H
   obtain ⟨t174, A60, H⟩ := H
   have A6 := Ak A60
   clear A60
   have H' := Ak H
   clear H
   have hcz7_0 := zk0 BK172.out
   have hcz7_1 := zk1 BK172.out
   have hfz7_0 := blk_frozen BK172.out 0
   have hfz7_1 := blk_frozen BK172.out 1
   go_wp2_with (first | (go_at_call 114; (with_reducible refine (impl_Disk_sectors.calls gb172 A0_0 c0_0 l0_0 t173 _ ?side1 A5.out).mono ?_); (case side1 => first | (go_simp; done) | exact (blk_cell (bq BK172.out) 0).trans rfl | (unfold World.cell?; (repeat rw [Below.heap_setCell _ ⟨gb176, _, none⟩ _ _ NB172_176.out]); rw [BK172.out]; rfl)); rintro e w' ⟨rfl, ⟨nd, rfl⟩⟩) | (go_at_call 101; (with_reducible refine (impl_inRange.calls t173 1 400 t174 _ A6.out).mono ?_); rintro e w' ⟨rfl, ⟨nd, rfl⟩⟩))
   go_meet
   case rel => exact ⟨_, (!t174), (by first | rfl | (simp; done) | (simp [*]; done)), H', ⟨by first | omega | exact Nat.le_refl _⟩, ⟨bq BK172.out⟩, ⟨bw1 HB.out GE172.out⟩⟩
  ·rw [if_neg c4] at H
   have c4b0 : (((l0_0.length : Int) % 64) == 0) = false := beq_eq_false_iff_ne.mpr c4
   have c4b1 : (((l0_0.length : Int) % 64) != 0) = true := bne_iff_ne.mpr c4
   (first | rw [c4b0] | (simp only [i64_w, i32_w]; rw [c4b0]) | skip)
   have H' := Ak H
   clear H
   have hcz8_0 := zk0 BK172.out
   have hcz8_1 := zk1 BK172.out
   have hfz8_0 := blk_frozen BK172.out 0
   have hfz8_1 := blk_frozen BK172.out 1
   go_wp2
   go_meet
   case rel => exact ⟨_, (true), (by first | rfl | (simp; done) | (simp [*]; done)), H', ⟨by first | omega | exact Nat.le_refl _⟩, ⟨bq BK172.out⟩, ⟨bw1 HB.out GE172.out⟩⟩
 case rest =>
  clear HC2
  try clear c4b0
  try clear c4b1
  obtain ⟨kq, x14_1, rfl, HA, HJ1, BK172, HB⟩ := hcut
  cases kq with
  | zero => exact absurd HA.out (by simp [impl_DiskOk.j0])
  | succ kj1 =>
   have H := HA.out
   clear HA
   simp only [impl_DiskOk.j0] at H
   by_cases c9 : x14_1 = true
   ·subst c9
    rw [if_pos rfl] at H
    obtain rfl := Option.some.inj H
    go_wp2
    go_ret
    exact ⟨zw, bw1 HB.out GE172.out⟩
   ·replace c9 := Bool.eq_false_iff.mpr c9
    subst c9
    rw [if_neg (show ¬ (false = true) by decide)] at H
    have H' := Ak H
    clear H
    have hcz10_0 : wc.cell? ⟨gb172, 0, none⟩ = some (.slice A0_0 l0_0.length c0_0) := zk0 BK172.out
    have hcz10_1 : wc.cell? ⟨gb172, 1, none⟩ = some (.slice A0_1 l0_1.length c0_1) := zk1 BK172.out
    have hfz10_0 := blk_frozen BK172.out 0
    have hfz10_1 := blk_frozen BK172.out 1
    go_wp2
    go_loopg [18] kj1 (fun kq v18 w' => ∃ (x18_2 : Int), v18 = .int .i64 x18_2 ∧ Aside0 (impl_DiskOk.l0 kq l0_0 l0_1 (l0_1.length : Int) x18_2 = some r) ∧ Aside0 (kq ≤ kj1) ∧ Aside0 (w'.heap[gb172]? = some (.cells #[(.slice A0_0 l0_0.length c0_0), (.slice A0_1 l0_1.length c0_1)] 31 (0, 0))) ∧ Aside0 (Below w.heap.size w w'))
    case atStart => exact ⟨(0), (by first | rfl | (simp; done) | (simp [*]; done)), H', ⟨Nat.le_refl _⟩, ⟨bq BK172.out⟩, ⟨bw1 HB.out GE172.out⟩⟩
    case round =>
     clear H'
     try clear c4b0
     try clear c4b1
     obtain ⟨x18_2, rfl, HA, HK2, BK172, HB⟩ := hrel
     cases gk with
     | zero => exact absurd HA.out (by simp [impl_DiskOk.l0])
     | succ k2 =>
      have H := HA.out
      clear HA
      simp only [impl_DiskOk.l0] at H
      by_cases c11 : x18_2 < (l0_1.length : Int)
      ·rw [if_pos c11] at H
       have c11b0 := decide_eq_true c11
       clear c11
       by_cases c12 : 0 ≤ x18_2
       ·rw [if_pos c12] at H
        have c12b0 := decide_eq_true c12
        clear c12
        by_cases c13 : x18_2 < (l0_1.length : Int)
        ·rw [if_pos c13] at H
         have c13b0 := decide_eq_true c13
         clear c13
         replace H := Option.bind_eq_some_iff.mp H
         obtain ⟨t177, A140, H⟩ := H
         have A14 := Ak A140
         clear A140
         by_cases c15 : t177 = true
         ·subst c15
          rw [if_pos rfl] at H
          by_cases c16 : (((rd_T96 l0_1 x18_2).f1).length : Int) = 64
          ·rw [if_pos c16] at H
           have c16b0 : ((((rd_T96 l0_1 x18_2).f1).length : Int) == 64) = true := beq_iff_eq.mpr c16
           have c16b1 : ((((rd_T96 l0_1 x18_2).f1).length : Int) != 64) = false := bne_eq_false_iff_eq.mpr c16
           clear c16
           have H' := Ak H
           clear H
           have p175 : 0 ≤ (x18_2 : Int) := of_decide_eq_true (by first | (with_reducible assumption) | assumption)
           have q175 : x18_2 < (l0_1.length : Int) := of_decide_eq_true (by first | (with_reducible assumption) | assumption)
           obtain ⟨ad175, A175_1, c175_1, e175, hx175_0, hx175_1, hl175_1, hi175_1⟩ := at_T96 HR0_1.out x18_2 p175 q175
           cases e175
           replace hx175_0 := (HB.out.cell (World.block_lt_of_cell? w _ hx175_0)).trans hx175_0
           replace hx175_1 := (HB.out.cell (World.block_lt_of_cell? w _ hx175_1)).trans hx175_1
           have HR175_1 := Ak hi175_1
           have HC175_1 := Ak hl175_1
           clear hi175_1 hl175_1
           replace p175 := eq_true p175
           replace q175 := eq_true q175
           go_wp2_with (first | ((with_reducible refine gate_dst (N := 4) rfl ?_); (try (refine gate_guard (by rfl) ?_; dsimp only)); refine box_event ?hg (N := 4) ?hd (cs := #[.int .i64 0, .slice none 0 0]) (t := 96) ?hr ?_; (case hd => rfl); (case hg => rfl); (case hr => first | (go_simp; done) | (go_simp; rfl)); intro gb176 hg w17 hbox hb; have BK176 := Ak (hbox); have GW176 := Ak ((zb hg (bw1 HB.out GE172.out))); have GE176 := Ak ((zb hg (bw1 HB.out GE172.out))); replace HB := Ak (below_step (bw1 HB.out GE172.out) hb); have NB172_176 := Ak ((zl hg (bq BK172.out))); have NB176_172 := Ak ((zm hg (bq BK172.out))); replace BK172 := Ak (blk_below (bq BK172.out) hb); clear hb hbox hg; have hnb18 := NB176_172.out; have hnc18 := NB172_176.out; have hcz19_0 := zk0 BK176.out; have hcz19_1 := zk1 BK176.out; have hfz19_0 := blk_frozen BK176.out 0; have hfz19_1 := blk_frozen BK176.out 1) | ((with_reducible refine gate_callee (f := 106) rfl ?_); refine goesL_ (some 24) rfl rfl Try.func106 (by kernel_rfl) rfl #[.pointer (some ⟨gb172, 0, none⟩), .int .i64 ((rd_T96 l0_1 x18_2).f0)] rfl gm ?_; (with_reducible refine (impl_Disk_isSector.calls gb172 A0_0 c0_0 l0_0 ((rd_T96 l0_1 x18_2).f0) true _ ?side1 A14.out).mono ?_); (case side1 => first | (go_simp; done) | exact (blk_cell (bq BK172.out) 0).trans rfl | (unfold World.cell?; (repeat rw [Below.heap_setCell _ ⟨gb176, _, none⟩ _ _ NB172_176.out]); rw [BK172.out]; rfl)); rintro e w' ⟨rfl, ⟨nd, rfl⟩⟩; refine ⟨_, rfl, ?_⟩))
           go_roundg k2
           case measure => have := HJ1.out; have := HK2.out; omega
           case rel => exact ⟨(wrap64 (x18_2 + 1)), (by first | rfl | (simp; done) | (simp [*]; done)), H', ⟨by have := HJ1.out; have := HK2.out; omega⟩, ⟨by refine bq ?_; refine blk_far ?_ NB172_176.out _; refine bq ?_; refine blk_far ?_ NB172_176.out _; exact bq BK172.out⟩, ⟨bw2 HB.out GE172.out GE176.out⟩⟩
          ·rw [if_neg c16] at H
           have c16b0 : ((((rd_T96 l0_1 x18_2).f1).length : Int) == 64) = false := beq_eq_false_iff_ne.mpr c16
           have c16b1 : ((((rd_T96 l0_1 x18_2).f1).length : Int) != 64) = true := bne_iff_ne.mpr c16
           obtain rfl := Option.some.inj H
           have p175 : 0 ≤ (x18_2 : Int) := of_decide_eq_true (by first | (with_reducible assumption) | assumption)
           have q175 : x18_2 < (l0_1.length : Int) := of_decide_eq_true (by first | (with_reducible assumption) | assumption)
           obtain ⟨ad175, A175_1, c175_1, e175, hx175_0, hx175_1, hl175_1, hi175_1⟩ := at_T96 HR0_1.out x18_2 p175 q175
           cases e175
           replace hx175_0 := (HB.out.cell (World.block_lt_of_cell? w _ hx175_0)).trans hx175_0
           replace hx175_1 := (HB.out.cell (World.block_lt_of_cell? w _ hx175_1)).trans hx175_1
           have HR175_1 := Ak hi175_1
           have HC175_1 := Ak hl175_1
           clear hi175_1 hl175_1
           replace p175 := eq_true p175
           replace q175 := eq_true q175
           go_wp2_with (first | ((with_reducible refine gate_dst (N := 4) rfl ?_); (try (refine gate_guard (by rfl) ?_; dsimp only)); refine box_event ?hg (N := 4) ?hd (cs := #[.int .i64 0, .slice none 0 0]) (t := 96) ?hr ?_; (case hd => rfl); (case hg => rfl); (case hr => first | (go_simp; done) | (go_simp; rfl)); intro gb176 hg w20 hbox hb; have BK176 := Ak (hbox); have GW176 := Ak ((zb hg (bw1 HB.out GE172.out))); have GE176 := Ak ((zb hg (bw1 HB.out GE172.out))); replace HB := Ak (below_step (bw1 HB.out GE172.out) hb); have NB172_176 := Ak ((zl hg (bq BK172.out))); have NB176_172 := Ak ((zm hg (bq BK172.out))); replace BK172 := Ak (blk_below (bq BK172.out) hb); clear hb hbox hg; have hnb21 := NB176_172.out; have hnc21 := NB172_176.out; have hcz22_0 := zk0 BK176.out; have hcz22_1 := zk1 BK176.out; have hfz22_0 := blk_frozen BK176.out 0; have hfz22_1 := blk_frozen BK176.out 1) | ((with_reducible refine gate_callee (f := 106) rfl ?_); refine goesL_ (some 24) rfl rfl Try.func106 (by kernel_rfl) rfl #[.pointer (some ⟨gb172, 0, none⟩), .int .i64 ((rd_T96 l0_1 x18_2).f0)] rfl gm ?_; (with_reducible refine (impl_Disk_isSector.calls gb172 A0_0 c0_0 l0_0 ((rd_T96 l0_1 x18_2).f0) true _ ?side1 A14.out).mono ?_); (case side1 => first | (go_simp; done) | exact (blk_cell (bq BK172.out) 0).trans rfl | (unfold World.cell?; (repeat rw [Below.heap_setCell _ ⟨gb176, _, none⟩ _ _ NB172_176.out]); rw [BK172.out]; rfl)); rintro e w' ⟨rfl, ⟨nd, rfl⟩⟩; refine ⟨_, rfl, ?_⟩))
           go_ret
           exact ⟨zw, bw2 HB.out GE172.out GE176.out⟩
         ·replace c15 := Bool.eq_false_iff.mpr c15
          subst c15
          rw [if_neg (show ¬ (false = true) by decide)] at H
          obtain rfl := Option.some.inj H
          have p175 : 0 ≤ (x18_2 : Int) := of_decide_eq_true (by first | (with_reducible assumption) | assumption)
          have q175 : x18_2 < (l0_1.length : Int) := of_decide_eq_true (by first | (with_reducible assumption) | assumption)
          obtain ⟨ad175, A175_1, c175_1, e175, hx175_0, hx175_1, hl175_1, hi175_1⟩ := at_T96 HR0_1.out x18_2 p175 q175
          cases e175
          replace hx175_0 := (HB.out.cell (World.block_lt_of_cell? w _ hx175_0)).trans hx175_0
          replace hx175_1 := (HB.out.cell (World.block_lt_of_cell? w _ hx175_1)).trans hx175_1
          have HR175_1 := Ak hi175_1
          have HC175_1 := Ak hl175_1
          clear hi175_1 hl175_1
          replace p175 := eq_true p175
          replace q175 := eq_true q175
          go_wp2_with (first | ((with_reducible refine gate_dst (N := 4) rfl ?_); (try (refine gate_guard (by rfl) ?_; dsimp only)); refine box_event ?hg (N := 4) ?hd (cs := #[.int .i64 0, .slice none 0 0]) (t := 96) ?hr ?_; (case hd => rfl); (case hg => rfl); (case hr => first | (go_simp; done) | (go_simp; rfl)); intro gb176 hg w23 hbox hb; have BK176 := Ak (hbox); have GW176 := Ak ((zb hg (bw1 HB.out GE172.out))); have GE176 := Ak ((zb hg (bw1 HB.out GE172.out))); replace HB := Ak (below_step (bw1 HB.out GE172.out) hb); have NB172_176 := Ak ((zl hg (bq BK172.out))); have NB176_172 := Ak ((zm hg (bq BK172.out))); replace BK172 := Ak (blk_below (bq BK172.out) hb); clear hb hbox hg; have hnb24 := NB176_172.out; have hnc24 := NB172_176.out; have hcz25_0 := zk0 BK176.out; have hcz25_1 := zk1 BK176.out; have hfz25_0 := blk_frozen BK176.out 0; have hfz25_1 := blk_frozen BK176.out 1) | ((with_reducible refine gate_callee (f := 106) rfl ?_); refine goesL_ (some 24) rfl rfl Try.func106 (by kernel_rfl) rfl #[.pointer (some ⟨gb172, 0, none⟩), .int .i64 ((rd_T96 l0_1 x18_2).f0)] rfl gm ?_; (with_reducible refine (impl_Disk_isSector.calls gb172 A0_0 c0_0 l0_0 ((rd_T96 l0_1 x18_2).f0) false _ ?side1 A14.out).mono ?_); (case side1 => first | (go_simp; done) | exact (blk_cell (bq BK172.out) 0).trans rfl | (unfold World.cell?; (repeat rw [Below.heap_setCell _ ⟨gb176, _, none⟩ _ _ NB172_176.out]); rw [BK172.out]; rfl)); rintro e w' ⟨rfl, ⟨nd, rfl⟩⟩; refine ⟨_, rfl, ?_⟩))
          go_ret
          exact ⟨zw, bw2 HB.out GE172.out GE176.out⟩
        ·rw [if_neg c13] at H
         exact absurd H (by simp)
       ·rw [if_neg c12] at H
        exact absurd H (by simp)
      ·rw [if_neg c11] at H
       have c11b0 := decide_eq_false c11
       clear c11
       obtain rfl := Option.some.inj H
       go_wp2
       go_ret
       exact ⟨zw, bw1 HB.out GE172.out⟩

def impl_canOpen.f (k : Nat) (l0_0 : List Int) (l0_1 : List (S96)) (a1 : Int) (a2 : Int) : Option (Bool) := if a1 ≥ 0 then (if a1 ≤ a2 then ((impl_Disk_isSector.f l0_0 a2).bind fun t181 => (if t181 = true then ((impl_DiskOk.f k l0_0 l0_1).bind fun t182 => (some t182)) else (some false))) else (some false)) else (some false)
set_option maxHeartbeats 8000000 in
set_option maxRecDepth 100000 in
theorem impl_canOpen.calls (k : Nat) (A0_0 : Option Addr) (c0_0 : Nat) (l0_0 : List Int) (A0_1 : Option Addr) (c0_1 : Nat) (l0_1 : List (S96)) (a1 : Int) (a2 : Int) (r : Bool) (w : World) (hr0_0 : Kd.C (Kd.int .u8) w A0_0 l0_0.length l0_0) (hc0_0 : l0_0.length ≤ c0_0) (hr0_1 : Kd.C k96 w A0_1 l0_1.length l0_1) (hc0_1 : l0_1.length ≤ c0_1) (h : impl_canOpen.f k l0_0 l0_1 a1 a2 = some r) :
  Calls Try.prog 59 #[.agg #[.slice A0_0 l0_0.length c0_0, .slice A0_1 l0_1.length c0_1], .int .i64 a1, .int .i64 a2] w fun e w' => e = .returned (.bool r) ∧ Below w.heap.size w w' := by
 have hu31 := Try.underlying31
 have HR0_0 := Ak hr0_0
 have HC0_0 := Ak hc0_0
 clear hr0_0 hc0_0
 have HR0_1 := Ak hr0_1
 have HC0_1 := Ak hc0_1
 clear hr0_1 hc0_1
 have HB := Ak (Below.refl w.heap.size w)
 have H := h
 unfold impl_canOpen.f at H
 clear h
 by_cases c4 : a1 ≥ 0
 ·rw [if_pos c4] at H
  have c4b0 : decide (0 ≤ a1) = true := decide_eq_true c4
  clear c4
  by_cases c5 : a1 ≤ a2
  ·rw [if_pos c5] at H
   have c5b0 := decide_eq_true c5
   clear c5
   replace H := Option.bind_eq_some_iff.mp H
   obtain ⟨t181, A60, H⟩ := H
   have A6 := Ak A60
   clear A60
   by_cases c7 : t181 = true
   ·subst c7
    rw [if_pos rfl] at H
    replace H := Option.bind_eq_some_iff.mp H
    obtain ⟨t182, A80, H⟩ := H
    have A8 := Ak A80
    clear A80
    obtain rfl := Option.some.inj H
    go_enter Try.func59, Try.ntmps59
    go_wp2_with (first | ((with_reducible refine gate_dst (N := 3) rfl ?_); refine box_event ?hg (N := 3) ?hd (cs := #[.slice A0_0 l0_0.length c0_0, .slice A0_1 l0_1.length c0_1]) (t := 31) ?hr ?_; (case hd => rfl); (case hg => rfl); (case hr => first | (go_simp; done) | (go_simp; rfl)); intro gb180 hg w9 hbox hb; have BK180 := Ak (hbox); have GW180 := Ak ((zb hg (bw HB.out))); have GE180 := Ak ((zb hg (bw HB.out))); replace HB := Ak (below_step (bw HB.out) hb); clear hb hbox hg) | (go_at_call 106; (with_reducible refine (impl_Disk_isSector.callsB gb180 A0_0 c0_0 l0_0 a2 true _ ?side1 A6.out).mono ?_); (case side1 => first | (go_simp; done) | exact (blk_cell (bq BK180.out) 0).trans rfl); rintro e w10 ⟨rfl, hb⟩; replace BK180 := Ak (blk_below (bq BK180.out) hb); replace HB := Ak (below_step (bw1 HB.out GE180.out) hb); have hcz11_0 := zk0 BK180.out; have hcz11_1 := zk1 BK180.out; have hfz11_0 := blk_frozen BK180.out 0; have hfz11_1 := blk_frozen BK180.out 1) | (go_at_call 67; (with_reducible refine (impl_DiskOk.calls k _ _ l0_0 _ _ l0_1 t182 _ ?side1 ?side2 ?side3 ?side4 A8.out).mono ?_); (case side1 => exact zq (Kd.C_below HR0_0.out HB.out)); (case side2 => exact HC0_0.out); (case side3 => exact zq (Kd.C_below HR0_1.out HB.out)); (case side4 => exact HC0_1.out); rintro e w12 ⟨rfl, hb⟩; replace BK180 := Ak (blk_below (bq BK180.out) hb); replace HB := Ak (below_step (bw1 HB.out GE180.out) hb)))
    go_ret
    exact ⟨zw, bw1 HB.out GE180.out⟩
   ·replace c7 := Bool.eq_false_iff.mpr c7
    subst c7
    rw [if_neg (show ¬ (false = true) by decide)] at H
    obtain rfl := Option.some.inj H
    go_enter Try.func59, Try.ntmps59
    go_wp2_with (first | ((with_reducible refine gate_dst (N := 3) rfl ?_); refine box_event ?hg (N := 3) ?hd (cs := #[.slice A0_0 l0_0.length c0_0, .slice A0_1 l0_1.length c0_1]) (t := 31) ?hr ?_; (case hd => rfl); (case hg => rfl); (case hr => first | (go_simp; done) | (go_simp; rfl)); intro gb180 hg w13 hbox hb; have BK180 := Ak (hbox); have GW180 := Ak ((zb hg (bw HB.out))); have GE180 := Ak ((zb hg (bw HB.out))); replace HB := Ak (below_step (bw HB.out) hb); clear hb hbox hg) | (go_at_call 106; (with_reducible refine (impl_Disk_isSector.callsB gb180 A0_0 c0_0 l0_0 a2 false _ ?side1 A6.out).mono ?_); (case side1 => first | (go_simp; done) | exact (blk_cell (bq BK180.out) 0).trans rfl); rintro e w14 ⟨rfl, hb⟩; replace BK180 := Ak (blk_below (bq BK180.out) hb); replace HB := Ak (below_step (bw1 HB.out GE180.out) hb)))
    go_ret
    exact ⟨zw, bw1 HB.out GE180.out⟩
  ·rw [if_neg c5] at H
   have c5b0 := decide_eq_false c5
   clear c5
   obtain rfl := Option.some.inj H
   go_enter Try.func59, Try.ntmps59
   go_wp2_with (first | ((with_reducible refine gate_dst (N := 3) rfl ?_); refine box_event ?hg (N := 3) ?hd (cs := #[.slice A0_0 l0_0.length c0_0, .slice A0_1 l0_1.length c0_1]) (t := 31) ?hr ?_; (case hd => rfl); (case hg => rfl); (case hr => first | (go_simp; done) | (go_simp; rfl)); intro gb180 hg w15 hbox hb; have BK180 := Ak (hbox); have GW180 := Ak ((zb hg (bw HB.out))); have GE180 := Ak ((zb hg (bw HB.out))); replace HB := Ak (below_step (bw HB.out) hb); clear hb hbox hg))
   go_ret
   exact ⟨zw, bw1 HB.out GE180.out⟩
 ·rw [if_neg c4] at H
  have c4b0 : decide (0 ≤ a1) = false := decide_eq_false c4
  clear c4
  obtain rfl := Option.some.inj H
  go_enter Try.func59, Try.ntmps59
  go_wp2_with (first | ((with_reducible refine gate_dst (N := 3) rfl ?_); refine box_event ?hg (N := 3) ?hd (cs := #[.slice A0_0 l0_0.length c0_0, .slice A0_1 l0_1.length c0_1]) (t := 31) ?hr ?_; (case hd => rfl); (case hg => rfl); (case hr => first | (go_simp; done) | (go_simp; rfl)); intro gb180 hg w16 hbox hb; have BK180 := Ak (hbox); have GW180 := Ak ((zb hg (bw HB.out))); have GE180 := Ak ((zb hg (bw HB.out))); replace HB := Ak (below_step (bw HB.out) hb); clear hb hbox hg))
  go_ret
  exact ⟨zw, bw1 HB.out GE180.out⟩

def impl_isLogOf.f (k : Nat) (l0_0 : List Int) (l0_1 : List (S96)) (a1_0 : Int) (a1_1 : Int) (a1_2 : Int) (a1_3 : Int) : Option (Bool) := (impl_canOpen.f k l0_0 l0_1 a1_0 a1_1).bind fun t185 => (if t185 = true then ((impl_inRange.f a1_2 0 (wrap64 ((wrap64 (a1_1 - a1_0)) + 1))).bind fun t186 => (if t186 = true then ((impl_inRange.f a1_3 1 1000000).bind fun t187 => (some t187)) else (some false))) else (some false))
set_option maxHeartbeats 8000000 in
set_option maxRecDepth 100000 in
theorem impl_isLogOf.calls (k : Nat) (A0_0 : Option Addr) (c0_0 : Nat) (l0_0 : List Int) (A0_1 : Option Addr) (c0_1 : Nat) (l0_1 : List (S96)) (a1_0 : Int) (a1_1 : Int) (a1_2 : Int) (a1_3 : Int) (r : Bool) (w : World) (hr0_0 : Kd.C (Kd.int .u8) w A0_0 l0_0.length l0_0) (hc0_0 : l0_0.length ≤ c0_0) (hr0_1 : Kd.C k96 w A0_1 l0_1.length l0_1) (hc0_1 : l0_1.length ≤ c0_1) (h : impl_isLogOf.f k l0_0 l0_1 a1_0 a1_1 a1_2 a1_3 = some r) :
  Calls Try.prog 50 #[.agg #[.slice A0_0 l0_0.length c0_0, .slice A0_1 l0_1.length c0_1], .agg #[.int .i64 a1_0, .int .i64 a1_1, .int .i64 a1_2, .int .i64 a1_3]] w fun e w' => e = .returned (.bool r) ∧ Below w.heap.size w w' := by
 have hu31 := Try.underlying31
 have hu32 := Try.underlying32
 have HR0_0 := Ak hr0_0
 have HC0_0 := Ak hc0_0
 clear hr0_0 hc0_0
 have HR0_1 := Ak hr0_1
 have HC0_1 := Ak hc0_1
 clear hr0_1 hc0_1
 have HB := Ak (Below.refl w.heap.size w)
 have H := h
 unfold impl_isLogOf.f at H
 clear h
 replace H := Option.bind_eq_some_iff.mp H
 obtain ⟨t185, A30, H⟩ := H
 have A3 := Ak A30
 clear A30
 by_cases c4 : t185 = true
 ·subst c4
  rw [if_pos rfl] at H
  replace H := Option.bind_eq_some_iff.mp H
  obtain ⟨t186, A50, H⟩ := H
  have A5 := Ak A50
  clear A50
  by_cases c6 : t186 = true
  ·subst c6
   rw [if_pos rfl] at H
   replace H := Option.bind_eq_some_iff.mp H
   obtain ⟨t187, A70, H⟩ := H
   have A7 := Ak A70
   clear A70
   obtain rfl := Option.some.inj H
   go_enter Try.func50, Try.ntmps50
   go_wp2_with (first | ((with_reducible refine gate_dst (N := 2) rfl ?_); refine box_event ?hg (N := 2) ?hd (cs := #[.slice A0_0 l0_0.length c0_0, .slice A0_1 l0_1.length c0_1]) (t := 31) ?hr ?_; (case hd => rfl); (case hg => rfl); (case hr => first | (go_simp; done) | (go_simp; rfl)); intro gb183 hg w8 hbox hb; have BK183 := Ak (hbox); have GW183 := Ak ((zb hg (bw HB.out))); have GE183 := Ak ((zb hg (bw HB.out))); replace HB := Ak (below_step (bw HB.out) hb); clear hb hbox hg) | ((with_reducible refine gate_dst (N := 3) rfl ?_); refine box_event ?hg (N := 3) ?hd (cs := #[.int .i64 a1_0, .int .i64 a1_1, .int .i64 a1_2, .int .i64 a1_3]) (t := 32) ?hr ?_; (case hd => rfl); (case hg => rfl); (case hr => first | (go_simp; done) | (go_simp; rfl)); intro gb184 hg w9 hbox hb; have BK184 := Ak (hbox); have GW184 := Ak ((zb hg (bw1 HB.out GE183.out))); have GE184 := Ak ((zb hg (bw1 HB.out GE183.out))); replace HB := Ak (below_step (bw1 HB.out GE183.out) hb); have NB183_184 := Ak ((zl hg (bq BK183.out))); have NB184_183 := Ak ((zm hg (bq BK183.out))); replace BK183 := Ak (blk_below (bq BK183.out) hb); clear hb hbox hg; have hnb10 := NB183_184.out; have hnc10 := NB184_183.out; have hcz11_0 := zk0 BK183.out; have hcz11_1 := zk1 BK183.out; have hfz11_0 := blk_frozen BK183.out 0; have hfz11_1 := blk_frozen BK183.out 1; have hcz12_0 := zk0 BK184.out; have hcz12_1 := zk1 BK184.out; have hcz12_2 := zk2 BK184.out; have hcz12_3 := zk3 BK184.out; have hfz12_0 := blk_frozen BK184.out 0; have hfz12_1 := blk_frozen BK184.out 1; have hfz12_2 := blk_frozen BK184.out 2; have hfz12_3 := blk_frozen BK184.out 3) | ((with_reducible refine gate_callee (f := 59) rfl ?_); refine goesL_ (some 10) rfl rfl Try.func59 (by kernel_rfl) rfl #[.agg #[.slice A0_0 l0_0.length c0_0, .slice A0_1 l0_1.length c0_1], .int .i64 a1_0, .int .i64 a1_1] rfl gm ?_; (with_reducible refine (impl_canOpen.calls k _ _ l0_0 _ _ l0_1 a1_0 a1_1 true _ ?side1 ?side2 ?side3 ?side4 A3.out).mono ?_); (case side1 => exact zq (Kd.C_below HR0_0.out HB.out)); (case side2 => exact HC0_0.out); (case side3 => exact zq (Kd.C_below HR0_1.out HB.out)); (case side4 => exact HC0_1.out); rintro e w13 ⟨rfl, hb⟩; refine ⟨_, rfl, ?_⟩; replace BK183 := Ak (blk_below (bq BK183.out) hb); replace BK184 := Ak (blk_below (bq BK184.out) hb); replace HB := Ak (below_step (bw2 HB.out GE183.out GE184.out) hb); have hcz14_0 := zk0 BK184.out; have hcz14_1 := zk1 BK184.out; have hcz14_2 := zk2 BK184.out; have hcz14_3 := zk3 BK184.out; have hfz14_0 := blk_frozen BK184.out 0; have hfz14_1 := blk_frozen BK184.out 1; have hfz14_2 := blk_frozen BK184.out 2; have hfz14_3 := blk_frozen BK184.out 3) | (go_at_call 101; (with_reducible refine (impl_inRange.calls a1_2 0 (wrap64 ((wrap64 (a1_1 - a1_0)) + 1)) true _ A5.out).mono ?_); rintro e w' ⟨rfl, ⟨nd, rfl⟩⟩) | (go_at_call 101; (with_reducible refine (impl_inRange.calls a1_3 1 1000000 t187 _ A7.out).mono ?_); rintro e w' ⟨rfl, ⟨nd, rfl⟩⟩))
   go_ret
   exact ⟨zw, bw2 HB.out GE183.out GE184.out⟩
  ·replace c6 := Bool.eq_false_iff.mpr c6
   subst c6
   rw [if_neg (show ¬ (false = true) by decide)] at H
   obtain rfl := Option.some.inj H
   go_enter Try.func50, Try.ntmps50
   go_wp2_with (first | ((with_reducible refine gate_dst (N := 2) rfl ?_); refine box_event ?hg (N := 2) ?hd (cs := #[.slice A0_0 l0_0.length c0_0, .slice A0_1 l0_1.length c0_1]) (t := 31) ?hr ?_; (case hd => rfl); (case hg => rfl); (case hr => first | (go_simp; done) | (go_simp; rfl)); intro gb183 hg w15 hbox hb; have BK183 := Ak (hbox); have GW183 := Ak ((zb hg (bw HB.out))); have GE183 := Ak ((zb hg (bw HB.out))); replace HB := Ak (below_step (bw HB.out) hb); clear hb hbox hg) | ((with_reducible refine gate_dst (N := 3) rfl ?_); refine box_event ?hg (N := 3) ?hd (cs := #[.int .i64 a1_0, .int .i64 a1_1, .int .i64 a1_2, .int .i64 a1_3]) (t := 32) ?hr ?_; (case hd => rfl); (case hg => rfl); (case hr => first | (go_simp; done) | (go_simp; rfl)); intro gb184 hg w16 hbox hb; have BK184 := Ak (hbox); have GW184 := Ak ((zb hg (bw1 HB.out GE183.out))); have GE184 := Ak ((zb hg (bw1 HB.out GE183.out))); replace HB := Ak (below_step (bw1 HB.out GE183.out) hb); have NB183_184 := Ak ((zl hg (bq BK183.out))); have NB184_183 := Ak ((zm hg (bq BK183.out))); replace BK183 := Ak (blk_below (bq BK183.out) hb); clear hb hbox hg; have hnb17 := NB183_184.out; have hnc17 := NB184_183.out; have hcz18_0 := zk0 BK183.out; have hcz18_1 := zk1 BK183.out; have hfz18_0 := blk_frozen BK183.out 0; have hfz18_1 := blk_frozen BK183.out 1; have hcz19_0 := zk0 BK184.out; have hcz19_1 := zk1 BK184.out; have hcz19_2 := zk2 BK184.out; have hcz19_3 := zk3 BK184.out; have hfz19_0 := blk_frozen BK184.out 0; have hfz19_1 := blk_frozen BK184.out 1; have hfz19_2 := blk_frozen BK184.out 2; have hfz19_3 := blk_frozen BK184.out 3) | ((with_reducible refine gate_callee (f := 59) rfl ?_); refine goesL_ (some 10) rfl rfl Try.func59 (by kernel_rfl) rfl #[.agg #[.slice A0_0 l0_0.length c0_0, .slice A0_1 l0_1.length c0_1], .int .i64 a1_0, .int .i64 a1_1] rfl gm ?_; (with_reducible refine (impl_canOpen.calls k _ _ l0_0 _ _ l0_1 a1_0 a1_1 true _ ?side1 ?side2 ?side3 ?side4 A3.out).mono ?_); (case side1 => exact zq (Kd.C_below HR0_0.out HB.out)); (case side2 => exact HC0_0.out); (case side3 => exact zq (Kd.C_below HR0_1.out HB.out)); (case side4 => exact HC0_1.out); rintro e w20 ⟨rfl, hb⟩; refine ⟨_, rfl, ?_⟩; replace BK183 := Ak (blk_below (bq BK183.out) hb); replace BK184 := Ak (blk_below (bq BK184.out) hb); replace HB := Ak (below_step (bw2 HB.out GE183.out GE184.out) hb); have hcz21_0 := zk0 BK184.out; have hcz21_1 := zk1 BK184.out; have hcz21_2 := zk2 BK184.out; have hcz21_3 := zk3 BK184.out; have hfz21_0 := blk_frozen BK184.out 0; have hfz21_1 := blk_frozen BK184.out 1; have hfz21_2 := blk_frozen BK184.out 2; have hfz21_3 := blk_frozen BK184.out 3) | (go_at_call 101; (with_reducible refine (impl_inRange.calls a1_2 0 (wrap64 ((wrap64 (a1_1 - a1_0)) + 1)) false _ A5.out).mono ?_); rintro e w' ⟨rfl, ⟨nd, rfl⟩⟩))
   go_ret
   exact ⟨zw, bw2 HB.out GE183.out GE184.out⟩
 ·replace c4 := Bool.eq_false_iff.mpr c4
  subst c4
  rw [if_neg (show ¬ (false = true) by decide)] at H
  obtain rfl := Option.some.inj H
  go_enter Try.func50, Try.ntmps50
  go_wp2_with (first | ((with_reducible refine gate_dst (N := 2) rfl ?_); refine box_event ?hg (N := 2) ?hd (cs := #[.slice A0_0 l0_0.length c0_0, .slice A0_1 l0_1.length c0_1]) (t := 31) ?hr ?_; (case hd => rfl); (case hg => rfl); (case hr => first | (go_simp; done) | (go_simp; rfl)); intro gb183 hg w22 hbox hb; have BK183 := Ak (hbox); have GW183 := Ak ((zb hg (bw HB.out))); have GE183 := Ak ((zb hg (bw HB.out))); replace HB := Ak (below_step (bw HB.out) hb); clear hb hbox hg) | ((with_reducible refine gate_dst (N := 3) rfl ?_); refine box_event ?hg (N := 3) ?hd (cs := #[.int .i64 a1_0, .int .i64 a1_1, .int .i64 a1_2, .int .i64 a1_3]) (t := 32) ?hr ?_; (case hd => rfl); (case hg => rfl); (case hr => first | (go_simp; done) | (go_simp; rfl)); intro gb184 hg w23 hbox hb; have BK184 := Ak (hbox); have GW184 := Ak ((zb hg (bw1 HB.out GE183.out))); have GE184 := Ak ((zb hg (bw1 HB.out GE183.out))); replace HB := Ak (below_step (bw1 HB.out GE183.out) hb); have NB183_184 := Ak ((zl hg (bq BK183.out))); have NB184_183 := Ak ((zm hg (bq BK183.out))); replace BK183 := Ak (blk_below (bq BK183.out) hb); clear hb hbox hg; have hnb24 := NB183_184.out; have hnc24 := NB184_183.out; have hcz25_0 := zk0 BK183.out; have hcz25_1 := zk1 BK183.out; have hfz25_0 := blk_frozen BK183.out 0; have hfz25_1 := blk_frozen BK183.out 1; have hcz26_0 := zk0 BK184.out; have hcz26_1 := zk1 BK184.out; have hcz26_2 := zk2 BK184.out; have hcz26_3 := zk3 BK184.out; have hfz26_0 := blk_frozen BK184.out 0; have hfz26_1 := blk_frozen BK184.out 1; have hfz26_2 := blk_frozen BK184.out 2; have hfz26_3 := blk_frozen BK184.out 3) | ((with_reducible refine gate_callee (f := 59) rfl ?_); refine goesL_ (some 10) rfl rfl Try.func59 (by kernel_rfl) rfl #[.agg #[.slice A0_0 l0_0.length c0_0, .slice A0_1 l0_1.length c0_1], .int .i64 a1_0, .int .i64 a1_1] rfl gm ?_; (with_reducible refine (impl_canOpen.calls k _ _ l0_0 _ _ l0_1 a1_0 a1_1 false _ ?side1 ?side2 ?side3 ?side4 A3.out).mono ?_); (case side1 => exact zq (Kd.C_below HR0_0.out HB.out)); (case side2 => exact HC0_0.out); (case side3 => exact zq (Kd.C_below HR0_1.out HB.out)); (case side4 => exact HC0_1.out); rintro e w27 ⟨rfl, hb⟩; refine ⟨_, rfl, ?_⟩; replace BK183 := Ak (blk_below (bq BK183.out) hb); replace BK184 := Ak (blk_below (bq BK184.out) hb); replace HB := Ak (below_step (bw2 HB.out GE183.out GE184.out) hb)))
  go_ret
  exact ⟨zw, bw2 HB.out GE183.out GE184.out⟩

def impl_CrashOne.f (a0 : Int) (l1 : List Int) : Option (Bool) := if (wrap64 (Int.tdiv a0 8)) < (l1.length : Int) then (if 0 ≤ (wrap64 (Int.tdiv a0 8)) then (if 0 ≤ (IntKind.u64.wrap (Int.tmod a0 8)) then (some ((Go.bits .and .u8 (shr .u8 (rd l1 (wrap64 (Int.tdiv a0 8))) (IntKind.u64.wrap (Int.tmod a0 8))) 1) == 1)) else (none)) else (none)) else (some false)
set_option maxHeartbeats 8000000 in
set_option maxRecDepth 100000 in
theorem impl_CrashOne.calls (a0 : Int) (A1 : Option Addr) (c1 : Nat) (l1 : List Int) (r : Bool) (gx : Nat) (w : World) (hpx : w.cell? ⟨gx, 0, none⟩ = some (.slice A1 l1.length c1)) (hr1 : Kd.C (Kd.int .u8) w A1 l1.length l1) (hc1 : l1.length ≤ c1) (h : impl_CrashOne.f a0 l1 = some r) :
  Calls Try.prog 69 #[.int .i64 a0, .pointer (some ⟨gx, 0, none⟩)] w fun e w' => e = .returned (.bool r) ∧ Drawn0 w w' := by
 have HR1 := Ak hr1
 have HC1 := Ak hc1
 clear hr1 hc1
 have H := h
 unfold impl_CrashOne.f at H
 clear h
 by_cases c3 : (wrap64 (Int.tdiv a0 8)) < (l1.length : Int)
 ·rw [if_pos c3] at H
  have c3b0 := decide_eq_true c3
  clear c3
  obtain ⟨ji4, hji4⟩ : ∃ j_ : Int, (wrap64 (Int.tdiv a0 8)) = j_ := ⟨_, rfl⟩
  replace H : (if 0 ≤ (ji4) then (if 0 ≤ (IntKind.u64.wrap (Int.tmod a0 8)) then (some ((Go.bits .and .u8 (shr .u8 (rd l1 (ji4)) (IntKind.u64.wrap (Int.tmod a0 8))) 1) == 1)) else (none)) else (none)) = some r := by first | (rw [hji4] at H; exact H) | (simp only [hji4] at H ⊢; exact H)
  (try rw [hji4] at c3b0)
  have hji4w : (IntKind.i64.wrap (Int.tdiv a0 8)) = ji4 := (i64_w _).trans hji4
  by_cases c5 : 0 ≤ (ji4)
  ·rw [if_pos c5] at H
   have c5b0 := decide_eq_true c5
   clear c5
   obtain ⟨ji6, hji6⟩ : ∃ j_ : Int, (IntKind.u64.wrap (Int.tmod a0 8)) = j_ := ⟨_, rfl⟩
   replace H : (if 0 ≤ (ji6) then (some ((Go.bits .and .u8 (shr .u8 (rd l1 (ji4)) (ji6)) 1) == 1)) else (none)) = some r := by first | (rw [hji6] at H; exact H) | (simp only [hji6] at H ⊢; exact H)
   by_cases c7 : 0 ≤ (ji6)
   ·rw [if_pos c7] at H
    have c7b0 := eq_true c7
    have c7b1 := decide_eq_true c7
    clear c7
    obtain ⟨ji8, hji8⟩ : ∃ j_ : Int, (shr .u8 (rd l1 (ji4)) (ji6)) = j_ := ⟨_, rfl⟩
    replace H : (some ((Go.bits .and .u8 (ji8) 1) == 1)) = some r := by first | (rw [hji8] at H; exact H) | (simp only [hji8] at H ⊢; exact H)
    have hji8_ : ((rd l1 (ji4)) / 2 ^ min (ji6).toNat 8) = ji8 := hji8
    have hji8z : (ji6) ≤ 8 → ((rd l1 (ji4)) / 2 ^ (ji6).toNat) = ji8 := shr_small hji8
    obtain rfl := Option.some.inj H
    have p722 : 0 ≤ ((ji4) : Int) := of_decide_eq_true (by first | (with_reducible assumption) | assumption)
    have q722 : (ji4) < (l1.length : Int) := of_decide_eq_true (by first | (with_reducible assumption) | assumption)
    obtain ⟨ad722, e722, hx722_0⟩ := Kd.at_int HR1.out (ji4) p722 q722
    cases e722
    replace p722 := eq_true p722
    replace q722 := eq_true q722
    go_enter Try.func69, Try.ntmps69
    go_wp2
    go_ret
    exact ⟨by first | rfl | (simp; done) | (simp only [← hji4, ← hji6, ← hji8] <;> (first | rfl | simp)) | (simp [*]; done), by repeat (first | exact Drawn0.refl _ | apply Drawn0.step)⟩
   ·rw [if_neg c7] at H
    exact absurd H (by simp)
  ·rw [if_neg c5] at H
   exact absurd H (by simp)
 ·rw [if_neg c3] at H
  have c3b0 := decide_eq_false c3
  clear c3
  obtain rfl := Option.some.inj H
  go_enter Try.func69, Try.ntmps69
  go_wp2
  go_ret
  exact ⟨by first | rfl | (simp; done) | (simp [*]; done), by repeat (first | exact Drawn0.refl _ | apply Drawn0.step)⟩

/-- copy(xs[off:], ys), xs a row of bytes of one's own, where all of ys goes over. -/
theorem copy_at {P : Program} (W : World) (base : Nat) (ok : Nat → Prop) (t t' T e : TypeId) (ht : P.underlying t = some (.slice e)) (hinfo : (P.info? e).map (·.size) = some 1) (g cap off c : Nat) (A : Option Addr) (xs ys : List Int)
  (HO : Kd.R (Kd.int .u8) e W base ok (.slice (some ⟨g, 0, none⟩) xs.length cap) xs) (HR : Kd.C (Kd.int .u8) W A ys.length ys) (hp : 0 < ys.length) (hfit : off + ys.length ≤ xs.length) :
  ∃ w1, (Builtin.copy_ #[t, t'] T #[.slice (some ⟨g, off, none⟩) (xs.length - off) (cap - off), .slice A ys.length c]).run P W = .ok (goInt ((ys.length : Nat) : Int)) w1 ∧ Kd.R (Kd.int .u8) e w1 base ok (.slice (some ⟨g, 0, none⟩) xs.length cap) (xs.take off ++ ys ++ xs.drop (off + ys.length)) ∧ W.grownBy w1 (some g) := by
 have hR := Kd.reads_of_C (enc := Value.int .u8) (d := (0 : Int)) (h1 := fun _ => rfl) HR
 have hown := Kd.own_of_R (enc := Value.int .u8) (h1 := fun _ => rfl) HO
 obtain ⟨ad, hA, hc⟩ := hR.2.2 hp
 rcases hown.2 with ⟨hv0, _⟩ | ⟨g', cap', cur, hv, hb, hh, hnc, hcm, hcs, htake⟩
 ·cases hv0
 ·injection hv with hv1 hv2 hv3
  injection hv1 with hv1
  injection hv1 with hv1
  subst hv1
  subst hv3
  have hsrc : ∀ j u, (encs (Value.int .u8) ys)[j]? = some u → W.cell? (ad.add j) = some u := by
   intro j u hu
   have hj : j < ys.length := by
    rcases Nat.lt_or_ge j ys.length with h | h
    ·exact h
    ·rw [List.getElem?_eq_none (by rw [encs_length]; exact h)] at hu
     cases hu
   rw [encs_get (d := (0 : Int)) _ j hj] at hu
   rw [hc j (by omega), ← hu]
  have hkl : (encs (Value.int .u8) ys).length = ys.length := encs_length _
  have hr := run_copy_cells (P := P) W t t' T e g off (xs.length - off) (cap - off) ad ys.length c (encs (Value.int .u8) ys) ht hinfo (by rw [hkl]; exact (Nat.min_eq_left (by omega)).symm) hsrc
   (fun j hj => by rw [cell_of_row W g _ cur e (0, 0) hh]; simp; omega) (fun j _ => blk_frozen hh _) (by intro u hu; simp only [encs, List.mem_map] at hu; obtain ⟨q, _, rfl⟩ := hu; rfl)
  obtain ⟨cur', h3, h4, h5⟩ := setCells_row (encs (Value.int .u8) ys) off W cur hh (by rw [hkl]; omega)
  obtain ⟨s1, s2, s3, s4⟩ := setCells_same g (encs (Value.int .u8) ys) off W
  have hln : (xs.take off ++ ys ++ xs.drop (off + ys.length)).length = xs.length := by
   rw [List.length_append, List.length_append, List.length_take, List.length_drop]
   omega
  refine ⟨_, by rw [hA, hr, hkl], Kd.R_of_own ?_ HO.1, ⟨s1, s2, s3, by rw [s4]; exact Nat.le_refl _, fun k _ hk => setCells_far _ _ k (fun he => hk (by rw [he]))⟩⟩
  rw [hln]
  refine ⟨by rw [encs_length, hln, Nat.mul_one], .inr ⟨g, cap, cur', rfl, hb, h3, hnc, hcm, by rw [h4, hcs], ?_⟩⟩
  have htk : cur.toList.take xs.length = encs (Value.int .u8) xs := by rw [← htake, Nat.mul_one]
  rw [h5, hkl, encs_append, encs_append, Nat.mul_one]
  have hd : encs (Value.int .u8) (xs.drop (off + ys.length)) = (cur.toList.take xs.length).drop (off + ys.length) := by rw [htk]; simp [encs, List.map_drop]
  have hk2 : encs (Value.int .u8) (xs.take off) = (cur.toList.take xs.length).take off := by rw [htk]; simp [encs, List.map_take]
  have hcl : cur.toList.length = cap := by rw [Array.length_toList]; omega
  have e1 : (List.take off cur.toList ++ encs (Value.int .u8) ys).length = off + ys.length := by rw [List.length_append, List.length_take, hkl]; omega
  rw [hd, hk2, List.take_take, Nat.min_eq_left (show off ≤ xs.length by omega), List.take_append, e1, List.take_of_length_le (by rw [e1]; omega), List.drop_take]
/-- A row of bytes with others laid over it. -/
def spl (b : List Int) (o : Nat) (ys : List Int) : List Int := b.take o ++ ys ++ b.drop (o + ys.length)
def impl_done.l0 : Nat → List Int → List (S96) → Int → Int → List Int → Option (List Int × (List (S96)))
 | 0, _, _, _, _, _ => none
 | k + 1, x1, x13, x14, x15, x729000 => if x15 < x14 then (if 0 ≤ x15 then (if x15 < (x13.length : Int) then ((impl_CrashOne.f x15 x1).bind fun t731 => (if t731 = true then (if 0 ≤ (wrap64 (((rd_T96 x13 x15).f0) * 64)) then (if (0 < ((rd_T96 x13 x15).f1).length ∧ ((wrap64 (((rd_T96 x13 x15).f0) * 64)) : Int).toNat + ((rd_T96 x13 x15).f1).length ≤ x729000.length) then (impl_done.l0 k x1 x13 x14 (wrap64 (x15 + 1)) (spl x729000 ((wrap64 (((rd_T96 x13 x15).f0) * 64)) : Int).toNat ((rd_T96 x13 x15).f1))) else (none)) else (none)) else (impl_done.l0 k x1 x13 x14 (wrap64 (x15 + 1)) x729000))) else (none)) else (none)) else (some (x729000, ([] : List (S96))))
def impl_done.f (k : Nat) (l0_0 : List Int) (l0_1 : List (S96)) (l1 : List Int) : Option (List Int × (List (S96))) := (slices_Clone_byte_byte.f l0_0).bind fun t725 => (impl_done.l0 k l1 l0_1 (l0_1.length : Int) 0 t725)
def impl_done.T6 : Bool × List (List Nat × List Nat) := (true, [([], []), ([0], [0]), ([], []), ([2], [2]), ([3], [3]), ([1, 4], [1, 4]), ([], []), ([6], [6]), ([5, 7], [5, 7])])
def impl_done.B6 : List Nat := [0, 1, 0, 4, 12, 31, 0, 64, 255]
theorem impl_done.tab6 : rtab .any (opsOf Try.f68 6) = impl_done.T6 := by kernel_rfl
theorem impl_done.bits6 : waitsOk impl_done.T6.2 impl_done.B6 = true := by kernel_rfl
/-- A call through a slot that holds a closure, in a plain region. -/
theorem goesC_ {P : Program} {ops : Array Oper} {Q : Exit → Act → World → Prop} {rest : List Oper} {oi : Oper} {a : Act} {w : World} (N : Option Tmp) (hd : oi.dst = N) (hg : oi.guard = none) {f : FuncId} {fn : Func} {zs : Array Operand} {ts : Array TypeId} {t : Tmp}
  (hf : P.funcs[f]? = some fn) (hname : (fn.name == "runtime.NumGoroutine") = false) (hb : fn.body.isSome = true) (args cap : Array Value)
  (hop : oi.op = .call { callee := .value (.tmp t), args := zs, argTypes := ts }) (ht : a.eval (.tmp t) = .func (.func f) #[] cap) (hargs : zs.map a.eval ++ cap = args)
  (h : Calls P f args w fun e w' => ∃ v, e = .returned v ∧ wpList P ops Q rest (a.put N v) w') : wpList P ops Q (oi :: rest) a w := by
 refine wpList_plain hg fun K hK => ?_
 have he := enters_ hf hname hb args w
 have hrun : (execOp a.eval oi).run P w = .ok (.enter f args) w := by
  unfold execOp
  simp [hop, resolve, Deferred.ofValue, ht, invoke, hargs, he]
 unfold Oper.wp
 rw [hrun, Oper.upon_enter]
 refine h.mono fun e w'' hh => ?_
 obtain ⟨v, rfl, hk⟩ := hh
 subst hd
 exact hK _ _ hk
/-- A cell that was there. -/
theorem cell_below {w w' : World} {a : Addr} {v : Value} (h : w.cell? a = some v) (hb : Below w.heap.size w w') : w'.cell? a = some v := (hb.cell (World.block_lt_of_cell? w _ h)).trans h
set_option maxHeartbeats 8000000 in
set_option maxRecDepth 100000 in
theorem impl_done.calls (k : Nat) (A0_0 : Option Addr) (c0_0 : Nat) (l0_0 : List Int) (A0_1 : Option Addr) (c0_1 : Nat) (l0_1 : List (S96)) (A1 : Option Addr) (c1 : Nat) (l1 : List Int) (r1 : List Int) (r2 : List (S96)) (gx : Nat) (w : World) (hpx : w.cell? ⟨gx, 0, none⟩ = some (.slice A1 l1.length c1)) (hr0_0 : Kd.C (Kd.int .u8) w A0_0 l0_0.length l0_0) (hc0_0 : l0_0.length ≤ c0_0) (hr0_1 : Kd.C k96 w A0_1 l0_1.length l0_1) (hc0_1 : l0_1.length ≤ c0_1) (hr1 : Kd.C (Kd.int .u8) w A1 l1.length l1) (hc1 : l1.length ≤ c1) (h : impl_done.f k l0_0 l0_1 l1 = some (r1, r2)) :
  Calls Try.prog 68 #[.agg #[.slice A0_0 l0_0.length c0_0, .slice A0_1 l0_1.length c0_1], .func (.func 69) #[] #[.pointer (some ⟨gx, 0, none⟩)]] w fun e w' => ∃ v0_ v1_ : Value, e = .returned (.agg #[v0_, v1_]) ∧ Kd.R (Kd.int .u8) 5 w' w.heap.size (fun _ => True) v0_ r1 ∧ Kd.S k96 96 w' w.heap.size (fun k_ => some k_ ≠ (v0_ : Value).ownBlock) v1_ r2 ∧ Below w.heap.size w w' := by
 have hu31 := Try.underlying31
 have hu96 := Try.underlying96
 have HR0_0 := Ak hr0_0
 have HC0_0 := Ak hc0_0
 clear hr0_0 hc0_0
 have HR0_1 := Ak hr0_1
 have HC0_1 := Ak hc0_1
 clear hr0_1 hc0_1
 have HR1 := Ak hr1
 have HPX := Ak hpx
 clear hpx
 have HC1 := Ak hc1
 clear hr1 hc1
 have HB := Ak (Below.refl w.heap.size w)
 have H := h
 unfold impl_done.f at H
 clear h
 replace H := Option.bind_eq_some_iff.mp H
 obtain ⟨t725, A30, H⟩ := H
 have A3 := Ak A30
 clear A30
 have H' := Ak H
 clear H
 go_enter Try.func68, Try.ntmps68
 go_wp2_with (first | ((with_reducible refine gate_dst (N := 2) rfl ?_); refine box_event ?hg (N := 2) ?hd (cs := #[.slice A0_0 l0_0.length c0_0, .slice A0_1 l0_1.length c0_1]) (t := 31) ?hr ?_; (case hd => rfl); (case hg => rfl); (case hr => first | (go_simp; done) | (go_simp; rfl)); intro gb723 hg w4 hbox hb; have BK723 := Ak (hbox); have GW723 := Ak ((zb hg (bw HB.out))); have GE723 := Ak ((zb hg (bw HB.out))); replace HB := Ak (below_step (bw HB.out) hb); clear hb hbox hg) | ((with_reducible refine gate_dst (N := 4) rfl ?_); refine box_event ?hg (N := 4) ?hd (cs := #[.slice none 0 0, .slice none 0 0]) (t := 31) ?hr ?_; (case hd => rfl); (case hg => rfl); (case hr => first | (go_simp; done) | (go_simp; rfl)); intro gb724 hg w5 hbox hb; have BK724 := Ak (hbox); have GW724 := Ak ((zb hg (bw1 HB.out GE723.out))); have GE724 := Ak ((zb hg (bw1 HB.out GE723.out))); replace HB := Ak (below_step (bw1 HB.out GE723.out) hb); have NB723_724 := Ak ((zl hg (bq BK723.out))); have NB724_723 := Ak ((zm hg (bq BK723.out))); replace BK723 := Ak (blk_below (bq BK723.out) hb); clear hb hbox hg; have hnb6 := NB723_724.out; have hnc6 := NB724_723.out; have hcz7_0 := zk0 BK723.out; have hcz7_1 := zk1 BK723.out; have hfz7_0 := blk_frozen BK723.out 0; have hfz7_1 := blk_frozen BK723.out 1) | ((with_reducible refine gate_callee (f := 100) rfl ?_); refine goesL_ (some 10) rfl rfl Try.func100 (by kernel_rfl) rfl #[.slice A0_0 l0_0.length c0_0] rfl gm ?_; (with_reducible refine (slices_Clone_byte_byte.calls _ _ l0_0 t725 _ ?side1 ?side2 A3.out).mono ?_); (case side1 => exact zq (Kd.C_below HR0_0.out HB.out)); (case side2 => exact HC0_0.out); rintro e w8 ⟨v726, rfl, ho0, hb⟩; refine ⟨_, rfl, ?_⟩; have HO727 := Ak (Kd.R_lower ho0 (below_size (bw2 HB.out GE723.out GE724.out))); replace BK723 := Ak (blk_below (bq BK723.out) hb); replace BK724 := Ak (blk_below (bq BK724.out) hb); replace HB := Ak (below_step (bw2 HB.out GE723.out GE724.out) hb); obtain ⟨Ao9, co9, eo9⟩ := Kd.R_slice HO727.out; subst eo9) | ((with_reducible refine gate_dst (N := 5) rfl ?_); refine box_event ?hg (N := 5) ?hd (cs := #[.slice none 0 0, .slice none 0 0]) (t := 31) ?hr ?_; (case hd => rfl); (case hg => rfl); (case hr => first | (go_simp; done) | (go_simp; rfl)); intro gb728 hg w10 hbox hb; replace HO727 := Ak (Kd.R_below (rq HO727.out) hb); have BK728 := Ak (hbox); have GW728 := Ak ((zb hg (bw2 HB.out GE723.out GE724.out))); have GE728 := Ak ((zb hg (bw2 HB.out GE723.out GE724.out))); replace HB := Ak (below_step (bw2 HB.out GE723.out GE724.out) hb); have NB723_728 := Ak ((zl hg (bq BK723.out))); have NB728_723 := Ak ((zm hg (bq BK723.out))); replace BK723 := Ak (blk_below (bq BK723.out) hb); have NB724_728 := Ak ((zl hg (bq BK724.out))); have NB728_724 := Ak ((zm hg (bq BK724.out))); replace BK724 := Ak (blk_below (bq BK724.out) hb); clear hb hbox hg; have hnb11 := NB728_723.out; have hnc11 := NB723_728.out; have hnb12 := NB728_724.out; have hnc12 := NB724_728.out; have hcz13_0 := zk0 BK728.out; have hcz13_1 := zk1 BK728.out; have hfz13_0 := blk_frozen BK728.out 0; have hfz13_1 := blk_frozen BK728.out 1; have hcz14_0 := zk0 BK723.out; have hcz14_1 := zk1 BK723.out; have hfz14_0 := blk_frozen BK723.out 0; have hfz14_1 := blk_frozen BK723.out 1))
 go_loopg [15] k (fun kq v15 w' => ∃ (x15_1 : Int) (x729000_1 : List Int) (u729000 : Value), v15 = .int .i64 x15_1 ∧ Aside0 (impl_done.l0 kq l1 l0_1 (l0_1.length : Int) x15_1 x729000_1 = some (r1, r2)) ∧ Aside0 (kq ≤ k) ∧ Aside0 (Kd.R (Kd.int .u8) 5 w' w.heap.size (fun _ => True) u729000 x729000_1) ∧ Aside0 (w'.heap[gb723]? = some (.cells #[(.slice A0_0 l0_0.length c0_0), (.slice A0_1 l0_1.length c0_1)] 31 (0, 0))) ∧ Aside0 (w'.heap[gb724]? = some (.cells #[(.slice none 0 0), (.slice none 0 0)] 31 (0, 0))) ∧ Aside0 (w'.heap[gb728]? = some (.cells #[u729000, (.slice none 0 0)] 31 (0, 0))) ∧ Aside0 (Below w.heap.size w w'))
 case atStart => exact ⟨(0), (t725), (.slice Ao9 t725.length co9), (by first | rfl | (simp; done) | (simp [*]; done)), H', ⟨Nat.le_refl _⟩, ⟨by refine rq ?_; exact Kd.R_mono (Kd.R_far (p := ⟨gb728, 1, none⟩) (Kd.R_far (p := ⟨gb728, 0, none⟩) (Kd.R_types HO727.out BK728.out (by decide)) (fun _ hk => hk.2) (.slice Ao9 t725.length co9)) (fun _ hk => hk.2) (.slice none 0 0)) (fun _ hk => trivial)⟩, ⟨by refine bq ?_; refine blk_far ?_ NB723_728.out _; refine bq ?_; refine blk_far ?_ NB723_728.out _; exact bq BK723.out⟩, ⟨by refine bq ?_; refine blk_far ?_ NB724_728.out _; refine bq ?_; refine blk_far ?_ NB724_728.out _; exact bq BK724.out⟩, ⟨by refine bq ?_; refine blk_put (cs := #[.slice Ao9 t725.length co9, .slice none 0 0]) ?_ 1 _ rfl; refine bq ?_; refine blk_put (cs := #[.slice none 0 0, .slice none 0 0]) ?_ 0 _ rfl; exact bq BK728.out⟩, ⟨bw3 HB.out GE723.out GE724.out GE728.out⟩⟩
 case round =>
  clear H'
  obtain ⟨x15_1, x729000_1, u729000, rfl, HA, HK1, HO_729000, BK723, BK724, BK728, HB⟩ := hrel
  cases gk with
  | zero => exact absurd HA.out (by simp [impl_done.l0])
  | succ k1 =>
   have H := HA.out
   clear HA
   simp only [impl_done.l0] at H
   by_cases c15 : x15_1 < (l0_1.length : Int)
   ·rw [if_pos c15] at H
    have c15b0 := decide_eq_true c15
    clear c15
    by_cases c16 : 0 ≤ x15_1
    ·rw [if_pos c16] at H
     have c16b0 := decide_eq_true c16
     clear c16
     by_cases c17 : x15_1 < (l0_1.length : Int)
     ·rw [if_pos c17] at H
      have c17b0 := decide_eq_true c17
      clear c17
      replace H := Option.bind_eq_some_iff.mp H
      obtain ⟨t731, A180, H⟩ := H
      have A18 := Ak A180
      clear A180
      by_cases c19 : t731 = true
      ·subst c19
       rw [if_pos rfl] at H
       obtain ⟨ji20, hji20⟩ : ∃ j_ : Int, (wrap64 (((rd_T96 l0_1 x15_1).f0) * 64)) = j_ := ⟨_, rfl⟩
       replace H : (if 0 ≤ (ji20) then (if (0 < ((rd_T96 l0_1 x15_1).f1).length ∧ ((ji20) : Int).toNat + ((rd_T96 l0_1 x15_1).f1).length ≤ x729000_1.length) then (impl_done.l0 k1 l1 l0_1 (l0_1.length : Int) (wrap64 (x15_1 + 1)) (spl x729000_1 ((ji20) : Int).toNat ((rd_T96 l0_1 x15_1).f1))) else (none)) else (none)) = some (r1, r2) := by first | (rw [hji20] at H; exact H) | (simp only [hji20] at H ⊢; exact H)
       (try rw [hji20] at A18)
       have hji20w : (IntKind.i64.wrap (((rd_T96 l0_1 x15_1).f0) * 64)) = ji20 := (i64_w _).trans hji20
       by_cases c21 : 0 ≤ (ji20)
       ·rw [if_pos c21] at H
        have c21b0 := decide_eq_true c21
        clear c21
        by_cases c22 : (0 < ((rd_T96 l0_1 x15_1).f1).length ∧ ((ji20) : Int).toNat + ((rd_T96 l0_1 x15_1).f1).length ≤ x729000_1.length)
        ·rw [if_pos c22] at H
         have LC_ := Ak c22
         have p0_ : 0 ≤ (ji20) := of_decide_eq_true c21b0
         have c22b0 : decide ((ji20) < (x729000_1.length : Int)) = true := decide_eq_true (by have := LC_.out; omega)
         have cle_ : decide ((ji20) ≤ (x729000_1.length : Int)) = true := decide_eq_true (by have := LC_.out; omega)
         clear c22
         generalize hy732 : (spl x729000_1 ((ji20) : Int).toNat ((rd_T96 l0_1 x15_1).f1) : List Int) = y732 at H
         try rw [Option.bind_some] at H
         have Ny732 := Ak hy732.symm
         clear hy732
         have H' := Ak H
         clear H
         have p729 : 0 ≤ (x15_1 : Int) := of_decide_eq_true (by first | (with_reducible assumption) | assumption)
         have q729 : x15_1 < (l0_1.length : Int) := of_decide_eq_true (by first | (with_reducible assumption) | assumption)
         obtain ⟨ad729, A729_1, c729_1, e729, hx729_0, hx729_1, hl729_1, hi729_1⟩ := at_T96 HR0_1.out x15_1 p729 q729
         cases e729
         replace hx729_0 := (HB.out.cell (World.block_lt_of_cell? w _ hx729_0)).trans hx729_0
         replace hx729_1 := (HB.out.cell (World.block_lt_of_cell? w _ hx729_1)).trans hx729_1
         have HR729_1 := Ak hi729_1
         have HC729_1 := Ak hl729_1
         clear hi729_1 hl729_1
         replace p729 := eq_true p729
         replace q729 := eq_true q729
         try go_wp2_with (first | ((with_reducible refine gate_dst (N := 7) rfl ?_); refine box_event ?hg (N := 7) ?hd (cs := #[.int .i64 0, .slice none 0 0]) (t := 96) ?hr ?_; (case hd => rfl); (case hg => rfl); (case hr => first | (go_simp; done) | (go_simp; rfl)); intro gb730 hg w24 hbox hb; replace HO_729000 := Ak (Kd.R_below (rq HO_729000.out) hb); have BK730 := Ak (hbox); have GW730 := Ak ((zb hg (bw3 HB.out GE723.out GE724.out GE728.out))); have GE730 := Ak ((zb hg (bw3 HB.out GE723.out GE724.out GE728.out))); replace HB := Ak (below_step (bw3 HB.out GE723.out GE724.out GE728.out) hb); have NB723_730 := Ak ((zl hg (bq BK723.out))); have NB730_723 := Ak ((zm hg (bq BK723.out))); replace BK723 := Ak (blk_below (bq BK723.out) hb); have NB724_730 := Ak ((zl hg (bq BK724.out))); have NB730_724 := Ak ((zm hg (bq BK724.out))); replace BK724 := Ak (blk_below (bq BK724.out) hb); have NB728_730 := Ak ((zl hg (bq BK728.out))); have NB730_728 := Ak ((zm hg (bq BK728.out))); replace BK728 := Ak (blk_below (bq BK728.out) hb); clear hb hbox hg; have hnb25 := NB730_723.out; have hnc25 := NB723_730.out; have hnb26 := NB730_724.out; have hnc26 := NB724_730.out; have hnb27 := NB730_728.out; have hnc27 := NB728_730.out; have hcz28_0 := zk0 BK730.out; have hcz28_1 := zk1 BK730.out; have hfz28_0 := blk_frozen BK730.out 0; have hfz28_1 := blk_frozen BK730.out 1) | ((with_reducible refine gate_dst (N := 22) rfl ?_); refine goesC_ (some 22) rfl rfl Try.func69 (by kernel_rfl) rfl #[.int .i64 x15_1, .pointer (some ⟨gx, 0, none⟩)] #[.pointer (some ⟨gx, 0, none⟩)] rfl (by rfl) gm ?_; (with_reducible refine (impl_CrashOne.calls x15_1 A1 c1 l1 true gx _ ?hpx ?side1 ?side2 A18.out).mono ?_); (case hpx => exact cell_below HPX.out (bw4 HB.out GE723.out GE724.out GE728.out GE730.out)); (case side1 => exact Kd.C_below HR1.out (bw4 HB.out GE723.out GE724.out GE728.out GE730.out)); (case side2 => exact HC1.out); rintro e w' ⟨rfl, ⟨nd, rfl⟩⟩; refine ⟨_, rfl, ?_⟩))
         have n0_ : Aside0 (Kd.R (Kd.int .u8) 5 ((w24.setCell ⟨gb730, 0, none⟩ (.int .i64 ((rd_T96 l0_1 x15_1).f0))).setCell ⟨gb730, 1, none⟩ (.slice A729_1 ((rd_T96 l0_1 x15_1).f1).length c729_1)) w.heap.size (fun _ => True) u729000 x729000_1) := ⟨by refine rq ?_; exact Kd.R_mono (Kd.R_far (p := ⟨gb730, 1, none⟩) (Kd.R_far (p := ⟨gb730, 0, none⟩) (Kd.R_types HO_729000.out BK730.out (by decide)) (fun _ hk => hk.2) (.int .i64 ((rd_T96 l0_1 x15_1).f0))) (fun _ hk => hk.2) (.slice A729_1 ((rd_T96 l0_1 x15_1).f1).length c729_1)) (fun _ hk => trivial)⟩
         have n1_ : Aside0 (((w24.setCell ⟨gb730, 0, none⟩ (.int .i64 ((rd_T96 l0_1 x15_1).f0))).setCell ⟨gb730, 1, none⟩ (.slice A729_1 ((rd_T96 l0_1 x15_1).f1).length c729_1)).heap[gb723]? = some (.cells #[.slice A0_0 l0_0.length c0_0, .slice (some ad729) l0_1.length c0_1] 31 (0, 0))) := ⟨by refine bq ?_; refine blk_far ?_ NB723_730.out _; refine bq ?_; refine blk_far ?_ NB723_730.out _; exact bq BK723.out⟩
         have n2_ : Aside0 (((w24.setCell ⟨gb730, 0, none⟩ (.int .i64 ((rd_T96 l0_1 x15_1).f0))).setCell ⟨gb730, 1, none⟩ (.slice A729_1 ((rd_T96 l0_1 x15_1).f1).length c729_1)).heap[gb724]? = some (.cells #[.slice none 0 0, .slice none 0 0] 31 (0, 0))) := ⟨by refine bq ?_; refine blk_far ?_ NB724_730.out _; refine bq ?_; refine blk_far ?_ NB724_730.out _; exact bq BK724.out⟩
         have n3_ : Aside0 (((w24.setCell ⟨gb730, 0, none⟩ (.int .i64 ((rd_T96 l0_1 x15_1).f0))).setCell ⟨gb730, 1, none⟩ (.slice A729_1 ((rd_T96 l0_1 x15_1).f1).length c729_1)).heap[gb728]? = some (.cells #[u729000, .slice none 0 0] 31 (0, 0))) := ⟨by refine bq ?_; refine blk_far ?_ NB728_730.out _; refine bq ?_; refine blk_far ?_ NB728_730.out _; exact bq BK728.out⟩
         have n4_ : Aside0 (((w24.setCell ⟨gb730, 0, none⟩ (.int .i64 ((rd_T96 l0_1 x15_1).f0))).setCell ⟨gb730, 1, none⟩ (.slice A729_1 ((rd_T96 l0_1 x15_1).f1).length c729_1)).heap[gb730]? = some (.cells #[.int .i64 ((rd_T96 l0_1 x15_1).f0), .slice A729_1 ((rd_T96 l0_1 x15_1).f1).length c729_1] 96 (0, 0))) := ⟨by refine bq ?_; refine blk_put (cs := #[.int .i64 ((rd_T96 l0_1 x15_1).f0), .slice none 0 0]) ?_ 1 _ rfl; refine bq ?_; refine blk_put (cs := #[.int .i64 0, .slice none 0 0]) ?_ 0 _ rfl; exact bq BK730.out⟩
         have n5_ : Aside0 (Below w.heap.size w ((w24.setCell ⟨gb730, 0, none⟩ (.int .i64 ((rd_T96 l0_1 x15_1).f0))).setCell ⟨gb730, 1, none⟩ (.slice A729_1 ((rd_T96 l0_1 x15_1).f1).length c729_1))) := ⟨bw4 HB.out GE723.out GE724.out GE728.out GE730.out⟩
         (try clear HO_729000)
         (try clear BK723)
         (try clear BK724)
         (try clear BK728)
         (try clear BK730)
         (try clear HB)
         generalize ((w24.setCell ⟨gb730, 0, none⟩ (.int .i64 ((rd_T96 l0_1 x15_1).f0))).setCell ⟨gb730, 1, none⟩ (.slice A729_1 ((rd_T96 l0_1 x15_1).f1).length c729_1)) = w29 at n0_ n1_ n2_ n3_ n4_ n5_ ⊢
         have HO_729000 := n0_
         have BK723 := n1_
         have BK724 := n2_
         have BK728 := n3_
         have BK730 := n4_
         have HB := n5_
         clear n0_ n1_ n2_ n3_ n4_ n5_
         (try (rw [drewN_self w29]; generalize hq_ : World.drewN w29 _ = w29; replace HO_729000 : Aside0 (Kd.R (Kd.int .u8) 5 w29 w.heap.size (fun _ => True) u729000 x729000_1) := ⟨by rw [← hq_]; exact (rq HO_729000.out)⟩; replace BK723 : Aside0 (w29.heap[gb723]? = some (.cells #[.slice A0_0 l0_0.length c0_0, .slice (some ad729) l0_1.length c0_1] 31 (0, 0))) := ⟨by rw [← hq_]; exact (bq BK723.out)⟩; replace BK724 : Aside0 (w29.heap[gb724]? = some (.cells #[.slice none 0 0, .slice none 0 0] 31 (0, 0))) := ⟨by rw [← hq_]; exact (bq BK724.out)⟩; replace BK728 : Aside0 (w29.heap[gb728]? = some (.cells #[u729000, .slice none 0 0] 31 (0, 0))) := ⟨by rw [← hq_]; exact (bq BK728.out)⟩; replace BK730 : Aside0 (w29.heap[gb730]? = some (.cells #[.int .i64 ((rd_T96 l0_1 x15_1).f0), .slice A729_1 ((rd_T96 l0_1 x15_1).f1).length c729_1] 96 (0, 0))) := ⟨by rw [← hq_]; exact (bq BK730.out)⟩; replace HB : Aside0 (Below w.heap.size w w29) := ⟨by rw [← hq_]; exact (bw4 HB.out GE723.out GE724.out GE728.out GE730.out)⟩; clear hq_))
         replace HO_729000 := Ak (Kd.R_drew HO_729000.out)
         replace BK723 := Ak (blk_drew BK723.out)
         replace BK724 := Ak (blk_drew BK724.out)
         replace BK728 := Ak (blk_drew BK728.out)
         replace BK730 := Ak (blk_drew BK730.out)
         replace HB := Ak (below_drew1 HB.out)
         have p23 : 0 ≤ ((ji20) : Int) := of_decide_eq_true (by first | (with_reducible assumption) | assumption)
         have q23 : ((ji20) : Int) < ((x729000_1.length : Int) : Int) := of_decide_eq_true (by first | (with_reducible assumption) | assumption)
         obtain ⟨go23, co23, eo23, gb23, gl23, cl23, HG23⟩ := Kd.R_form HO_729000.out (by omega)
         (first | cases eo23 | (injection eo23 with ea_ en_ ec_; (first | subst ea_ | (injection ea_ with ea_; subst ea_)); subst ec_; clear en_))
         have GB23 := Ak gb23
         have GG23 := Ak HG23
         clear gb23 gl23 HG23
         obtain ⟨hx23_0, hf23_0⟩ := Kd.R_celln 0 HO_729000.out ((ji20) : Int) p23 q23
         replace p23 := eq_true p23
         replace q23 := eq_true q23
         obtain ⟨w1_, hcp_, hr_, hgr_⟩ := copy_at (P := Try.prog) w29.drew w.heap.size (fun _ => True) 22 22 3 5 Try.underlying22 (by kernel_rfl) go23 co23 ((ji20) : Int).toNat c729_1 A729_1 x729000_1 ((rd_T96 l0_1 x15_1).f1) HO_729000.out (Kd.C_below HR729_1.out HB.out) LC_.out.1 LC_.out.2
         have HQ31 := Ak (show Kd.R (Kd.int .u8) 5 w1_ w.heap.size (fun _ => True) (.slice (some ⟨go23, 0, none⟩) x729000_1.length co23) y732 from by rw [Ny732.out]; exact hr_)
         clear hr_
         have hne_ : ¬ (co23 = ((ji20) : Int).toNat) := by have h1_ := (Kd.R_reads' HO_729000.out).2.1; have h2_ := LC_.out; omega
         refine start_ (n := 9) (S := fun w' => w'.cell? ⟨gb728, 0, none⟩ = some (.slice (some ⟨go23, 0, none⟩) x729000_1.length co23) ∧ w'.cell? ⟨gb728, 1, none⟩ = some (.slice none 0 0) ∧ w'.cell? ⟨gb730, 0, none⟩ = some (.int .i64 ((rd_T96 l0_1 x15_1).f0)) ∧ w'.cell? ⟨gb730, 1, none⟩ = some (.slice A729_1 ((rd_T96 l0_1 x15_1).f1).length c729_1)) (ds := [8]) #[false, false, false, false, false, false, false, false, false] (by kernel_rfl) rfl rfl ⟨zk0 BK728.out, zk1 BK728.out, zk0 BK730.out, zk1 BK730.out⟩ (fun hHeld => ?_); refine with_tabW impl_done.tab6 impl_done.bits6 (fun HT_ HW_ => ?_)
         generalize w29.drew = w30 at HO_729000 BK723 BK724 BK728 BK730 HB GG23 hf23_0 hx23_0 hcp_ hgr_ hHeld ⊢
         refine puT 0 23 HT_ (h := ?_)
         refine puT 2 25 HT_ (h := ?_)
         refine puT 6 29 HT_ (h := ?_)
         refine taT 1 24 HT_ HW_ hHeld (h := ?_)
         refine taT 3 26 HT_ HW_ hHeld (h := ?_)
         refine puT 4 27 HT_ (h := ?_)
         refine pure_ (i := 5) (N := some 28) (v := ?_) (a' := ?_) #[true, true, true, true, true, true, true, false, false] rfl rfl (any_of HT_.out (by kernel_rfl)) (fun _ _ _ h => h) (Or.inl ⟨by rfl, ?_⟩) ?_ ?_
         rotate_left
         ·intro w'
          go_simp
          first | (with_reducible rfl) | (rw [if_pos (of_decide_eq_true cle_)])
         rotate_left
         ·simp only [Act.put, sT, sZ, sS, i64_w, i32_w]
          rfl
         refine taT 7 30 HT_ HW_ hHeld (h := ?_)
         refine laT 8 (some 31) HT_ (h := fun K hK => ?_)
         refine value_ (w1 := w1_) (v := goInt ((((rd_T96 l0_1 x15_1).f1).length : Nat) : Int)) (by rfl) rfl ?_ ?_
         ·show Sem.run _ (execOp _ { dst := some 31, op := Go.Op.call _, type := 3, pos := _, after := _, guard := none }) _ = _
          unfold execOp
          first | (simp only [resolve, invoke, builtin, Sem.run_bind, Sem.run_pure, Result.andThen_ok, List.map_toArray, List.map_cons, List.map_nil]; erw [hcp_]; rfl) | (erw [hcp_]; rfl)
         refine hK.out _ _ ?_
         clear hK K
         refine done_ (done_of HT_.out (by kernel_rfl)) ?_
         try go_wp2
         go_roundg k1
         case measure => have := HK1.out; omega
         case rel => exact ⟨(wrap64 (x15_1 + 1)), (y732), (.slice (some ⟨go23, 0, none⟩) x729000_1.length co23), (by first | rfl | (simp; done) | (simp [*]; done)), H', ⟨by have := HK1.out; omega⟩, ⟨rq HQ31.out⟩, ⟨by refine bq ?_; exact blk_grown BK723.out hgr_ (fun e_ => (Kd.R_ne HO_729000.out BK723.out (by decide)) e_)⟩, ⟨by refine bq ?_; exact blk_grown BK724.out hgr_ (fun e_ => (Kd.R_ne HO_729000.out BK724.out (by decide)) e_)⟩, ⟨by refine bq ?_; exact blk_grown BK728.out hgr_ (fun e_ => (Kd.R_ne HO_729000.out BK728.out (by decide)) e_)⟩, ⟨by (with_reducible repeat (first | apply below_alloc | apply pw_below_drewN | apply below_drew1)); exact HB.out.grown hgr_ HB.out.size (fun k_ e_ => by injection e_ with e_; subst e_; exact GB23.out)⟩⟩
        ·rw [if_neg c22] at H
         exact absurd H (by simp)
       ·rw [if_neg c21] at H
        exact absurd H (by simp)
      ·replace c19 := Bool.eq_false_iff.mpr c19
       subst c19
       rw [if_neg (show ¬ (false = true) by decide)] at H
       have H' := Ak H
       clear H
       have p729 : 0 ≤ (x15_1 : Int) := of_decide_eq_true (by first | (with_reducible assumption) | assumption)
       have q729 : x15_1 < (l0_1.length : Int) := of_decide_eq_true (by first | (with_reducible assumption) | assumption)
       obtain ⟨ad729, A729_1, c729_1, e729, hx729_0, hx729_1, hl729_1, hi729_1⟩ := at_T96 HR0_1.out x15_1 p729 q729
       cases e729
       replace hx729_0 := (HB.out.cell (World.block_lt_of_cell? w _ hx729_0)).trans hx729_0
       replace hx729_1 := (HB.out.cell (World.block_lt_of_cell? w _ hx729_1)).trans hx729_1
       have HR729_1 := Ak hi729_1
       have HC729_1 := Ak hl729_1
       clear hi729_1 hl729_1
       replace p729 := eq_true p729
       replace q729 := eq_true q729
       go_wp2_with (first | ((with_reducible refine gate_dst (N := 7) rfl ?_); refine box_event ?hg (N := 7) ?hd (cs := #[.int .i64 0, .slice none 0 0]) (t := 96) ?hr ?_; (case hd => rfl); (case hg => rfl); (case hr => first | (go_simp; done) | (go_simp; rfl)); intro gb730 hg w32 hbox hb; replace HO_729000 := Ak (Kd.R_below (rq HO_729000.out) hb); have BK730 := Ak (hbox); have GW730 := Ak ((zb hg (bw3 HB.out GE723.out GE724.out GE728.out))); have GE730 := Ak ((zb hg (bw3 HB.out GE723.out GE724.out GE728.out))); replace HB := Ak (below_step (bw3 HB.out GE723.out GE724.out GE728.out) hb); have NB723_730 := Ak ((zl hg (bq BK723.out))); have NB730_723 := Ak ((zm hg (bq BK723.out))); replace BK723 := Ak (blk_below (bq BK723.out) hb); have NB724_730 := Ak ((zl hg (bq BK724.out))); have NB730_724 := Ak ((zm hg (bq BK724.out))); replace BK724 := Ak (blk_below (bq BK724.out) hb); have NB728_730 := Ak ((zl hg (bq BK728.out))); have NB730_728 := Ak ((zm hg (bq BK728.out))); replace BK728 := Ak (blk_below (bq BK728.out) hb); clear hb hbox hg; have hnb33 := NB730_723.out; have hnc33 := NB723_730.out; have hnb34 := NB730_724.out; have hnc34 := NB724_730.out; have hnb35 := NB730_728.out; have hnc35 := NB728_730.out; have hcz36_0 := zk0 BK730.out; have hcz36_1 := zk1 BK730.out; have hfz36_0 := blk_frozen BK730.out 0; have hfz36_1 := blk_frozen BK730.out 1) | ((with_reducible refine gate_dst (N := 22) rfl ?_); refine goesC_ (some 22) rfl rfl Try.func69 (by kernel_rfl) rfl #[.int .i64 x15_1, .pointer (some ⟨gx, 0, none⟩)] #[.pointer (some ⟨gx, 0, none⟩)] rfl (by rfl) gm ?_; (with_reducible refine (impl_CrashOne.calls x15_1 A1 c1 l1 false gx _ ?hpx ?side1 ?side2 A18.out).mono ?_); (case hpx => exact cell_below HPX.out (bw4 HB.out GE723.out GE724.out GE728.out GE730.out)); (case side1 => exact Kd.C_below HR1.out (bw4 HB.out GE723.out GE724.out GE728.out GE730.out)); (case side2 => exact HC1.out); rintro e w' ⟨rfl, ⟨nd, rfl⟩⟩; refine ⟨_, rfl, ?_⟩))
       go_roundg k1
       case measure => have := HK1.out; omega
       case rel => exact ⟨(wrap64 (x15_1 + 1)), (x729000_1), (u729000), (by first | rfl | (simp; done) | (simp [*]; done)), H', ⟨by have := HK1.out; omega⟩, ⟨by refine rq ?_; exact Kd.R_mono (Kd.R_far (p := ⟨gb730, 1, none⟩) (Kd.R_far (p := ⟨gb730, 0, none⟩) (Kd.R_types HO_729000.out BK730.out (by decide)) (fun _ hk => hk.2) (.int .i64 ((rd_T96 l0_1 x15_1).f0))) (fun _ hk => hk.2) (.slice A729_1 ((rd_T96 l0_1 x15_1).f1).length c729_1)) (fun _ hk => trivial)⟩, ⟨by refine bq ?_; refine blk_far ?_ NB723_730.out _; refine bq ?_; refine blk_far ?_ NB723_730.out _; exact bq BK723.out⟩, ⟨by refine bq ?_; refine blk_far ?_ NB724_730.out _; refine bq ?_; refine blk_far ?_ NB724_730.out _; exact bq BK724.out⟩, ⟨by refine bq ?_; refine blk_far ?_ NB728_730.out _; refine bq ?_; refine blk_far ?_ NB728_730.out _; exact bq BK728.out⟩, ⟨bw4 HB.out GE723.out GE724.out GE728.out GE730.out⟩⟩
     ·rw [if_neg c17] at H
      exact absurd H (by simp)
    ·rw [if_neg c16] at H
     exact absurd H (by simp)
   ·rw [if_neg c15] at H
    have c15b0 := decide_eq_false c15
    clear c15
    simp only [Option.some.injEq, Prod.mk.injEq] at H
    obtain ⟨rfl, rfl⟩ := H
    have hnb37 := NB728_723.out
    have hnc37 := NB723_728.out
    have hnb38 := NB728_724.out
    have hnc38 := NB724_728.out
    have hcz39_0 : wr.cell? ⟨gb728, 0, none⟩ = some (u729000) := zk0 BK728.out
    have hcz39_1 : wr.cell? ⟨gb728, 1, none⟩ = some (.slice none 0 0) := zk1 BK728.out
    have hfz39_0 := blk_frozen BK728.out 0
    have hfz39_1 := blk_frozen BK728.out 1
    obtain ⟨Ao40, co40, eo40⟩ := Kd.R_slice HO_729000.out
    subst eo40
    have hnb41 := NB724_723.out
    have hnc41 := NB723_724.out
    have hcz42_0 : wr.cell? ⟨gb724, 0, none⟩ = some (.slice none 0 0) := zk0 BK724.out
    have hcz42_1 : wr.cell? ⟨gb724, 1, none⟩ = some (.slice none 0 0) := zk1 BK724.out
    have hfz42_0 := blk_frozen BK724.out 0
    have hfz42_1 := blk_frozen BK724.out 1
    go_wp2
    refine bodyPost_ret (results_cell_row rfl _ _ gb724 31 #[.slice Ao40 x729000_1.length co40, .slice none 0 0] (0, 0) _ rfl (by refine bq ?_; refine blk_put (cs := #[.slice Ao40 x729000_1.length co40, .slice none 0 0]) ?_ 1 _ rfl; refine bq ?_; refine blk_put (cs := #[.slice none 0 0, .slice none 0 0]) ?_ 0 _ rfl; exact bq BK724.out) Try.underlying31 rfl (by kernel_rfl)) rfl ?_
    exact ⟨_, _, zw, by refine rq ?_; exact Kd.R_mono (Kd.R_far (p := ⟨gb724, 1, none⟩) (Kd.R_far (p := ⟨gb724, 0, none⟩) (Kd.R_types HO_729000.out BK724.out (by decide)) (fun _ hk => hk.2) (.slice Ao40 x729000_1.length co40)) (fun _ hk => hk.2) (.slice none 0 0)) (fun _ hk => trivial), by first | exact Kd.S_nil _ _ _ _ _ | exact Kd.N_nil _ _ _ _ _ | exact Kd.V_nil _ _ _ _ _ | exact Kd.Q_nil _ _ _ _ _ | exact Kd.R_nil _ _ _ _ _, bw3 HB.out GE723.out GE724.out GE728.out⟩

end Go.Proofs.Ytgmnphckgicadaa.PFnLog
