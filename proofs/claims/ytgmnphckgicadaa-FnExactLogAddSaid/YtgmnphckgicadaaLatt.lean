/- Words of the print (those that this claim uses). -/
/- A region in which boxes may be made at any time beside a chain of calls: each order is walked at once. -/
import Derived.Test.YtgmnphckgicadaaWTab
namespace Go.Proofs.Ytgmnphckgicadaa.Latt
open Go.RowKit Go.Proofs.YtgmnphckgicadaaW.PrintWords Go.Proofs.YtgmnphckgicadaaW.PrintLast
set_option linter.unusedVariables false

theorem put_comm {a : Act} {n m : Tmp} {v u : Value} (h : n ≠ m) : (a.put (some n) v).put (some m) u = (a.put (some m) u).put (some n) v := by
  simp only [Act.put]
  congr 1
  exact Array.setIfInBounds_comm _ _ h
theorem eval_put {a : Act} {n : Tmp} {v : Value} {x : Operand} (h : x ≠ .tmp n) : (a.put (some n) v).eval x = a.eval x := by
  cases x with
  | tmp t =>
    have hne : n ≠ t := fun e => h (by rw [e])
    simp only [Act.eval, Act.put]
    simp only [Array.getD_eq_getD_getElem?, Array.getElem?_setIfInBounds_ne hne]
  | const v => rfl
  | global g => rfl
  | func f => rfl
def bx (N : Tmp) : Option Nat → Act → Act
  | none, a => a
  | some g, a => a.put (some N) (.pointer (some ⟨g, 0, none⟩))
theorem bx_put {N n : Tmp} {o : Option Nat} {a : Act} {v : Value} (h : n ≠ N) : (bx N o a).put (some n) v = bx N o (a.put (some n) v) := by
  cases o with
  | none => rfl
  | some g => exact put_comm (fun e => h e.symm)
theorem bx_eval {N : Tmp} {o : Option Nat} {a : Act} {x : Operand} (h : x ≠ .tmp N) : (bx N o a).eval x = a.eval x := by
  cases o with
  | none => rfl
  | some g => exact eval_put h
def noTmp (N1 N2 : Tmp) : Operand → Bool
  | .tmp t => t != N1 && t != N2
  | _ => true
theorem noTmp_ne {N1 N2 : Tmp} {x : Operand} (h : noTmp N1 N2 x = true) : x ≠ .tmp N1 ∧ x ≠ .tmp N2 := by
  constructor <;> (rintro rfl; simp [noTmp] at h)
theorem map_bx {N1 N2 : Tmp} {o1 o2 : Option Nat} {a : Act} {as : Array Operand} (h : as.toList.all (noTmp N1 N2) = true) : as.map (bx N2 o2 (bx N1 o1 a)).eval = as.map a.eval := by
  apply Array.map_congr_left
  intro x hx
  have h1 := noTmp_ne (List.all_eq_true.1 h x (Array.mem_toList_iff.2 hx))
  rw [bx_eval h1.2, bx_eval h1.1]

theorem ready_of {md : Region.Mode} {ops : Array Oper} {T : Bool × List (List Nat × List Nat)} {l : Array Bool} {rs : List Nat} (hT : rtab md ops = T) (h : (readyT T.2 l.toList == rs) = true) : Region.ready md ops l = rs := by
  subst hT
  rw [ready_eq]
  exact eq_of_beq h
theorem old_ne {k n : Nat} {v : Value} (hk : k < n) (hb : ∀ j, v.ownBlock = some j → n ≤ j) : some k ≠ v.ownBlock := fun e => Nat.not_le_of_lt hk (hb k e.symm)
theorem calls_args {P : Program} {f : FuncId} {as as' : Array Value} {w : World} {R : Ending → World → Prop} (h : as = as') (hc : Calls P f as' w R) : Calls P f as w R := h ▸ hc
section
variable {P : Program} {ops : Array Oper} {Q : Exit → Act → World → Prop} {md : Region.Mode} {S : World → Prop}

def CallStep (P : Program) (ops : Array Oper) (ws : World) (i : Nat) (N N1 N2 : Tmp) (I J : Act → World → Prop) : Prop :=
  ∃ (oi : Oper) (f : FuncId) (fn : Func) (as : Array Operand) (ts : Array TypeId), ops[i]? = some oi ∧ oi.guard = none ∧ oi.dst = some N ∧ oi.op = .call { callee := .value (.func f), args := as, argTypes := ts } ∧
    P.funcs[f]? = some fn ∧ (fn.name == "runtime.NumGoroutine") = false ∧ fn.body.isSome = true ∧ as.toList.all (noTmp N1 N2) = true ∧ N ≠ N1 ∧ N ≠ N2 ∧
    ∀ ac w, Below ws.heap.size ws w → I ac w → Calls P f (as.map ac.eval) w fun e w' => ∃ v, e = .returned v ∧ Below w.heap.size w w' ∧ J (ac.put (some N) v) w'
def BoxStep (P : Program) (ops : Array Oper) (i : Nat) (N : Tmp) (cs : Array Value) (t : TypeId) : Prop :=
  ∃ oi : Oper, ops[i]? = some oi ∧ oi.guard = none ∧ oi.dst = some N ∧ ∀ (a : Act) (W : World), (execOp a.eval oi).run P W = .ok (.value (.pointer (some ⟨W.heap.size, 0, none⟩))) (W.alloc (.cells cs t (0, 0)))
def BxOk (ws : World) (cs : Array Value) (t : TypeId) (w : World) : Option Nat → Prop
  | none => True
  | some g => ws.heap.size ≤ g ∧ w.heap[g]? = some (.cells cs t (0, 0))
theorem BxOk.below {ws w w' : World} {cs : Array Value} {t : TypeId} {o : Option Nat} (h : BxOk ws cs t w o) (hb : Below w.heap.size w w') : BxOk ws cs t w' o := by
  cases o with
  | none => trivial
  | some g => exact ⟨h.1, blk_below h.2 hb⟩
theorem wanted_none {oi : Oper} {y : Nat → Option Bool} (h : oi.guard = none) : Region.wanted oi y = true := by simp [Region.wanted, h]

theorem lattice_ {fuel k : Nat} {a : Act} {ws : World} (n : Nat) (m : Nat → Nat) (N : Nat → Tmp) (f1 f2 : Nat) (N1 N2 : Tmp) (c1 c2 : Array Value) (t1 t2 : TypeId)
    (I : Act → Nat → Act → World → Prop) (L : Nat → Bool → Bool → Array Bool)
    (hS : ∀ w', Below ws.heap.size ws w' → S w') (hN : N1 ≠ N2)
    (hI : ∀ p ac w w', I a p ac w → Below w.heap.size w w' → I a p ac w')
    (hr : ∀ p, p < n → ∀ b1 b2, Region.ready md ops (L p b1 b2) = m p :: ((if b1 then [] else [f1]) ++ (if b2 then [] else [f2])))
    (hr' : ∀ b1 b2, (b1 && b2) = false → Region.ready md ops (L (n + 1) b1 b2) = (if b1 then [] else [f1]) ++ (if b2 then [] else [f2]))
    (hL : ∀ p, p < n → ∀ b1 b2, (L p b1 b2).setIfInBounds (m p) true = L (p + 1) b1 b2)
    (hL1 : ∀ p, p ≤ n + 1 → ∀ b2, (L p false b2).setIfInBounds f1 true = L p true b2)
    (hL2 : ∀ p, p ≤ n + 1 → ∀ b1, (L p b1 false).setIfInBounds f2 true = L p b1 true)
    (hcall : ∀ p, p < n → CallStep P ops ws (m p) (N p) N1 N2 (I a p) (I a (p + 1)))
    (hb1 : BoxStep P ops f1 N1 c1 t1) (hb2 : BoxStep P ops f2 N2 c2 t2)
    (hpost : ∀ (b1 b2 : Bool) (o1 o2 : Option Nat) (fu : Nat) (ac : Act) (w : World), o1.isSome = b1 → o2.isSome = b2 → S w → I a n ac w →
      (∀ ac', I a (n + 1) ac' w → wpAnyLast P md ops Q S [] fu (L (n + 1) b1 b2) (bx N2 o2 (bx N1 o1 ac')) w) → wpAnyLast P md ops Q S [] (fu + k) (L n b1 b2) (bx N2 o2 (bx N1 o1 ac)) w)
    (h0 : I a 0 a ws)
    (hfin : ∀ (ac : Act) (w : World) (g1 g2 : Nat), Below ws.heap.size ws w → I a (n + 1) ac w → ws.heap.size ≤ g1 → ws.heap.size ≤ g2 → g1 ≠ g2 →
      w.heap[g1]? = some (.cells c1 t1 (0, 0)) → w.heap[g2]? = some (.cells c2 t2 (0, 0)) →
      wpAnyLast P md ops Q S [] fuel (L (n + 1) true true) (((ac.put (some N1) (.pointer (some ⟨g1, 0, none⟩))).put (some N2) (.pointer (some ⟨g2, 0, none⟩)))) w) :
    wpAnyLast P md ops Q S [] (fuel + 2 + k + n) (L 0 false false) a ws := by
  have box1 : ∀ {fu : Nat} {p : Nat} {b2 : Bool} {o2 : Option Nat} {ac : Act} {w : World} {rs : List Nat}, p ≤ n + 1 → Below ws.heap.size ws w → BxOk ws c2 t2 w o2 →
      (∀ g w', Below ws.heap.size ws w' → Below w.heap.size w w' → BxOk ws c1 t1 w' (some g) → BxOk ws c2 t2 w' o2 → (∀ g2, o2 = some g2 → g ≠ g2) → wpAnyLast P md ops Q S [] fu (L p true b2) (bx N2 o2 (bx N1 (some g) ac)) w') →
      AllReadyL P md ops Q S [] fu (L p false b2) (bx N2 o2 (bx N1 none ac)) w rs → AllReadyL P md ops Q S [] fu (L p false b2) (bx N2 o2 (bx N1 none ac)) w (f1 :: rs) := by
    intro fu p b2 o2 ac w rs hp hb ho2 hk hrs
    obtain ⟨oi, hi, hg, hd, hrun⟩ := hb1
    refine AllReadyL.cons hi (by simp) (fun K hK => ?_) hrs
    refine box_step (wanted_none hg) hd (hrun _ _) ?_
    intro g hge w1 hbox hbw
    have hb' := below_step hb hbw
    refine hK.out _ _ (hS _ hb') (fun _ => ?_)
    rw [hd, hL1 p hp]
    have := hk g w1 hb' hbw ⟨hge ▸ below_size hb, hbox⟩ (ho2.below hbw) (fun g2 e => by subst e; rw [hge]; exact Nat.ne_of_gt (blk_lt ho2.2))
    rw [bx_put hN]
    exact this
  have box2 : ∀ {fu : Nat} {p : Nat} {b1 : Bool} {o1 : Option Nat} {ac : Act} {w : World} {rs : List Nat}, p ≤ n + 1 → Below ws.heap.size ws w → BxOk ws c1 t1 w o1 →
      (∀ g w', Below ws.heap.size ws w' → Below w.heap.size w w' → BxOk ws c2 t2 w' (some g) → BxOk ws c1 t1 w' o1 → (∀ g1, o1 = some g1 → g1 ≠ g) → wpAnyLast P md ops Q S [] fu (L p b1 true) (bx N2 (some g) (bx N1 o1 ac)) w') →
      AllReadyL P md ops Q S [] fu (L p b1 false) (bx N2 none (bx N1 o1 ac)) w rs → AllReadyL P md ops Q S [] fu (L p b1 false) (bx N2 none (bx N1 o1 ac)) w (f2 :: rs) := by
    intro fu p b1 o1 ac w rs hp hb ho1 hk hrs
    obtain ⟨oi, hi, hg, hd, hrun⟩ := hb2
    refine AllReadyL.cons hi (by simp) (fun K hK => ?_) hrs
    refine box_step (wanted_none hg) hd (hrun _ _) ?_
    intro g hge w1 hbox hbw
    have hb' := below_step hb hbw
    refine hK.out _ _ (hS _ hb') (fun _ => ?_)
    rw [hd, hL2 p hp]
    exact hk g w1 hb' hbw ⟨hge ▸ below_size hb, hbox⟩ (ho1.below hbw) (fun g1 e => by subst e; rw [hge]; exact Nat.ne_of_lt (blk_lt ho1.2))
  have last : ∀ (o1 o2 : Option Nat) (ac : Act) (w : World), Below ws.heap.size ws w → I a (n + 1) ac w → BxOk ws c1 t1 w o1 → BxOk ws c2 t2 w o2 → (∀ g1 g2, o1 = some g1 → o2 = some g2 → g1 ≠ g2) →
      wpAnyLast P md ops Q S [] (fuel + (if o1.isSome then 0 else 1) + (if o2.isSome then 0 else 1)) (L (n + 1) o1.isSome o2.isSome) (bx N2 o2 (bx N1 o1 ac)) w := by
    have l11 : ∀ (g1 g2 : Nat) (ac : Act) (w : World), Below ws.heap.size ws w → I a (n + 1) ac w → BxOk ws c1 t1 w (some g1) → BxOk ws c2 t2 w (some g2) → g1 ≠ g2 →
        wpAnyLast P md ops Q S [] fuel (L (n + 1) true true) (bx N2 (some g2) (bx N1 (some g1) ac)) w :=
      fun g1 g2 ac w hb h h1 h2 hne => hfin ac w g1 g2 hb h h1.1 h2.1 hne h1.2 h2.2
    have l01 : ∀ (g2 : Nat) (ac : Act) (w : World), Below ws.heap.size ws w → I a (n + 1) ac w → BxOk ws c2 t2 w (some g2) →
        wpAnyLast P md ops Q S [] (fuel + 1) (L (n + 1) false true) (bx N2 (some g2) (bx N1 none ac)) w := by
      intro g2 ac w hb h h2
      refine wpAnyLast_ready (hr' false true rfl) (by simp) ?_
      exact box1 (Nat.le_refl _) hb h2 (fun g w' hb' hbw hg h2' hne => l11 g g2 ac w' hb' (hI _ _ _ _ h hbw) hg h2' (hne g2 rfl)) AllReadyL.nil
    have l10 : ∀ (g1 : Nat) (ac : Act) (w : World), Below ws.heap.size ws w → I a (n + 1) ac w → BxOk ws c1 t1 w (some g1) →
        wpAnyLast P md ops Q S [] (fuel + 1) (L (n + 1) true false) (bx N2 none (bx N1 (some g1) ac)) w := by
      intro g1 ac w hb h h1
      refine wpAnyLast_ready (hr' true false rfl) (by simp) ?_
      exact box2 (Nat.le_refl _) hb h1 (fun g w' hb' hbw hg h1' hne => l11 g1 g ac w' hb' (hI _ _ _ _ h hbw) h1' hg (hne g1 rfl)) AllReadyL.nil
    intro o1 o2 ac w hb h h1 h2 hne
    cases o1 with
    | some g1 =>
      cases o2 with
      | some g2 => exact l11 g1 g2 ac w hb h h1 h2 (hne g1 g2 rfl rfl)
      | none => exact l10 g1 ac w hb h h1
    | none =>
      cases o2 with
      | some g2 => exact l01 g2 ac w hb h h2
      | none =>
        show wpAnyLast P md ops Q S [] (fuel + 1 + 1) _ _ _
        refine wpAnyLast_ready (hr' false false rfl) (by simp) ?_
        exact box1 (Nat.le_refl _) hb h2 (fun g w' hb' hbw hg _ _ => l10 g ac w' hb' (hI _ _ _ _ h hbw) hg)
          (box2 (Nat.le_refl _) hb h1 (fun g w' hb' hbw hg _ _ => l01 g ac w' hb' (hI _ _ _ _ h hbw) hg) AllReadyL.nil)
  have chain : ∀ (d p : Nat), p + d = n → ∀ (o1 o2 : Option Nat) (ac : Act) (w : World), Below ws.heap.size ws w → I a p ac w → BxOk ws c1 t1 w o1 → BxOk ws c2 t2 w o2 → (∀ g1 g2, o1 = some g1 → o2 = some g2 → g1 ≠ g2) →
      wpAnyLast P md ops Q S [] (fuel + (if o1.isSome then 0 else 1) + (if o2.isSome then 0 else 1) + k + d) (L p o1.isSome o2.isSome) (bx N2 o2 (bx N1 o1 ac)) w := by
    intro d
    induction d with
    | zero =>
      intro p hp o1 o2 ac w hb h h1 h2 hne
      have hp' : p = n := by omega
      subst hp'
      exact hpost _ _ o1 o2 _ ac w rfl rfl (hS _ hb) h (fun ac' h' => last o1 o2 ac' w hb h' h1 h2 hne)
    | succ d ih =>
      intro p hp
      have hlt : p < n := by omega
      have hp1 : p + 1 + d = n := by omega
      have cs : ∀ {b1 b2 : Bool} {o1 o2 : Option Nat} {ac : Act} {w : World} {fu : Nat} {rs : List Nat}, Below ws.heap.size ws w → I a p ac w →
          (∀ v w', Below ws.heap.size ws w' → Below w.heap.size w w' → I a (p + 1) (ac.put (some (N p)) v) w' → wpAnyLast P md ops Q S [] fu (L (p + 1) b1 b2) (bx N2 o2 (bx N1 o1 (ac.put (some (N p)) v))) w') →
          AllReadyL P md ops Q S [] fu (L p b1 b2) (bx N2 o2 (bx N1 o1 ac)) w rs → AllReadyL P md ops Q S [] fu (L p b1 b2) (bx N2 o2 (bx N1 o1 ac)) w (m p :: rs) := by
        intro b1 b2 o1 o2 ac w fu rs hb h hk hrs
        obtain ⟨oi, f, fn, as, ts, hi, hg, hd, hop, hf, hname, hbody, has, hn1, hn2, hc⟩ := hcall p hlt
        refine AllReadyL.cons hi (by simp) (fun K hK => ?_) hrs
        rw [hd]
        refine goes_ hf hname hbody _ (wanted_none hg) hd hop rfl ?_
        rw [map_bx has]
        refine (hc ac w hb h).mono ?_
        rintro e w' ⟨v, rfl, hbw, hJ⟩
        have hb' := below_step hb hbw
        refine ⟨v, rfl, hK.out _ _ (hS _ hb') (fun _ => ?_)⟩
        rw [hL p hlt, bx_put hn2, bx_put hn1]
        exact hk v w' hb' hbw hJ
      have s11 : ∀ (g1 g2 : Nat) (ac : Act) (w : World), Below ws.heap.size ws w → I a p ac w → BxOk ws c1 t1 w (some g1) → BxOk ws c2 t2 w (some g2) → g1 ≠ g2 →
          wpAnyLast P md ops Q S [] (fuel + k + d + 1) (L p true true) (bx N2 (some g2) (bx N1 (some g1) ac)) w := by
        intro g1 g2 ac w hb h h1 h2 hne
        refine wpAnyLast_ready (hr p hlt true true) (by simp) ?_
        exact cs hb h (fun v w' hb' hbw hJ => ih (p + 1) hp1 (some g1) (some g2) _ w' hb' hJ (h1.below hbw) (h2.below hbw) (fun _ _ e1 e2 => by cases e1; cases e2; exact hne)) AllReadyL.nil
      have s01 : ∀ (g2 : Nat) (ac : Act) (w : World), Below ws.heap.size ws w → I a p ac w → BxOk ws c2 t2 w (some g2) →
          wpAnyLast P md ops Q S [] (fuel + 1 + k + d + 1) (L p false true) (bx N2 (some g2) (bx N1 none ac)) w := by
        intro g2 ac w hb h h2
        refine wpAnyLast_ready (hr p hlt false true) (by simp) ?_
        refine cs hb h (fun v w' hb' hbw hJ => ih (p + 1) hp1 none (some g2) _ w' hb' hJ trivial (h2.below hbw) (fun _ _ e1 _ => by cases e1)) ?_
        refine box1 (by omega) hb h2 (fun g w' hb' hbw hg h2' hne => ?_) AllReadyL.nil
        have := s11 g g2 ac w' hb' (hI _ _ _ _ h hbw) hg h2' (hne g2 rfl)
        rwa [show fuel + 1 + k + d = fuel + k + d + 1 by omega]
      have s10 : ∀ (g1 : Nat) (ac : Act) (w : World), Below ws.heap.size ws w → I a p ac w → BxOk ws c1 t1 w (some g1) →
          wpAnyLast P md ops Q S [] (fuel + 1 + k + d + 1) (L p true false) (bx N2 none (bx N1 (some g1) ac)) w := by
        intro g1 ac w hb h h1
        refine wpAnyLast_ready (hr p hlt true false) (by simp) ?_
        refine cs hb h (fun v w' hb' hbw hJ => ih (p + 1) hp1 (some g1) none _ w' hb' hJ (h1.below hbw) trivial (fun _ _ _ e2 => by cases e2)) ?_
        refine box2 (by omega) hb h1 (fun g w' hb' hbw hg h1' hne => ?_) AllReadyL.nil
        have := s11 g1 g ac w' hb' (hI _ _ _ _ h hbw) h1' hg (hne g1 rfl)
        rwa [show fuel + 1 + k + d = fuel + k + d + 1 by omega]
      intro o1 o2 ac w hb h h1 h2 hne
      cases o1 with
      | some g1 =>
        cases o2 with
        | some g2 => exact s11 g1 g2 ac w hb h h1 h2 (hne g1 g2 rfl rfl)
        | none => exact s10 g1 ac w hb h h1
      | none =>
        cases o2 with
        | some g2 => exact s01 g2 ac w hb h h2
        | none =>
          show wpAnyLast P md ops Q S [] (fuel + 1 + 1 + k + d + 1) _ _ _
          refine wpAnyLast_ready (hr p hlt false false) (by simp) ?_
          refine cs hb h (fun v w' hb' hbw hJ => ih (p + 1) hp1 none none _ w' hb' hJ trivial trivial (fun _ _ e1 _ => by cases e1)) ?_
          refine box1 (by omega) hb h2 (fun g w' hb' hbw hg _ _ => ?_) (box2 (by omega) hb h1 (fun g w' hb' hbw hg _ _ => ?_) AllReadyL.nil)
          · have := s10 g ac w' hb' (hI _ _ _ _ h hbw) hg
            rwa [show fuel + 1 + 1 + k + d = fuel + 1 + k + d + 1 by omega]
          · have := s01 g ac w' hb' (hI _ _ _ _ h hbw) hg
            rwa [show fuel + 1 + 1 + k + d = fuel + 1 + k + d + 1 by omega]
  have := chain n 0 (by omega) none none a ws (Below.refl _ _) h0 trivial trivial (fun _ _ e _ => by cases e)
  exact this
end
end Go.Proofs.Ytgmnphckgicadaa.Latt
