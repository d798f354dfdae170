/- Words of the print (those that this claim uses). -/
/- Steps of a region over one list of memory: a call, a box, a store, each with what holds behind it. -/
import Derived.Test.YtgmnphckgicadaaMem
import Derived.Test.YtgmnphckgicadaaWTab
import Derived.Test.YtgmnphckgicadaaWRepsOne
namespace Go.Proofs.Ytgmnphckgicadaa.Mem
open Go.RowKit Go.Proofs.YtgmnphckgicadaaW.PrintWords Go.Proofs.YtgmnphckgicadaaW.PrintLast
set_option linter.unusedVariables false
theorem Els.ints {k : IntKind} {Γ : List Ent} : ∀ {xs : List Int}, Els (Kd.int k) xs (xs.map (Value.int k)) Γ
  | [] => fun _ _ _ _ => Reps.none _ _
  | _ :: xs => fun W D A h => Reps.one (fun _ _ => rfl) (Els.ints (xs := xs) W D A h)
section
variable {w W : World} {Γ : List Ent} {α : Type} {d : Kd α} {e g p q n c : Nat} {v : Value} {xs : List α} {A : Option Addr} {P : World → Prop}
theorem Mem.stateV2 {w W W1 : World} {Γ : List Ent} {α β : Type} {d : Kd α} {d' : Kd β} {e e' g base base' : Nat} {v v' : Value} {xs : List α} {ys : List β} {P Q : World → Prop} (M : Mem w W Γ) (p : Nat) (hk : KeepBut W W1 g none) (hb : Below w.heap.size w W1) (hQ : At g Q) (h : Q W1) (hv : Kd.V d e W1 base (fun k => W.heap.size ≤ k) v xs) (hv' : Kd.V d' e' W1 base' (fun k => W.heap.size ≤ k) v' ys) (e0 : Γ[p]? = some (stt g P)) : Mem w W1 (row d e v xs :: row d' e' v' ys :: Γ.set p (stt g Q)) :=
  M.stateL [row d e v xs, row d' e' v' ys] hk hb hQ h e0 (fun E hE => by
    rcases List.mem_cons.1 hE with rfl | hE
    · exact ⟨Loc.row _ _ _ _, fun D hD => V_fresh hv (fun _ => id) D hD⟩
    · obtain rfl := List.mem_singleton.1 hE
      exact ⟨Loc.row _ _ _ _, fun D hD => V_fresh hv' (fun _ => id) D hD⟩)
theorem Mem.V4 {w W W1 : World} {Γ : List Ent} {α β γ δ : Type} {d : Kd α} {d' : Kd β} {d2 : Kd γ} {d3 : Kd δ} {e e' e2 e3 base base' base2 base3 : Nat} {v v' v2 v3 : Value} {xs : List α} {ys : List β} {zs : List γ} {us : List δ} (M : Mem w W Γ) (hb : Below W.heap.size W W1) (h : Kd.V d e W1 base (fun k => W.heap.size ≤ k) v xs) (h' : Kd.V d' e' W1 base' (fun k => W.heap.size ≤ k) v' ys) (h2 : Kd.V d2 e2 W1 base2 (fun k => W.heap.size ≤ k) v2 zs) (h3 : Kd.V d3 e3 W1 base3 (fun k => W.heap.size ≤ k) v3 us) : Mem w W1 (row d e v xs :: row d' e' v' ys :: row d2 e2 v2 zs :: row d3 e3 v3 us :: Γ) :=
  M.rows [row d e v xs, row d' e' v' ys, row d2 e2 v2 zs, row d3 e3 v3 us] hb (fun E hE => by
    simp only [List.mem_cons, List.not_mem_nil, or_false] at hE
    rcases hE with rfl | rfl | rfl | rfl
    · exact ⟨Loc.row _ _ _ _, fun D hD => V_fresh h (fun _ => id) D hD⟩
    · exact ⟨Loc.row _ _ _ _, fun D hD => V_fresh h' (fun _ => id) D hD⟩
    · exact ⟨Loc.row _ _ _ _, fun D hD => V_fresh h2 (fun _ => id) D hD⟩
    · exact ⟨Loc.row _ _ _ _, fun D hD => V_fresh h3 (fun _ => id) D hD⟩)
theorem Mem.ownS_far (M : Mem w W Γ) (p q : Nat) (e0 : Γ[p]? = some (ownN d e (.slice A n c) xs)) (e1 : Γ[q]? = some (stt g P)) (hpq : p ≠ q) : ∀ ad, A = some ad → 0 < n → ad.block ≠ g := by
  obtain ⟨_, D, hD, h⟩ := M
  obtain ⟨S, T, h1, h2, h3⟩ := SepA.two h e0 e1 hpq
  rintro ad rfl _ rfl
  exact h3 _ (h1.2 _ (by simp [Value.ownBlock])) h2.1
theorem Mem.put2 {t : Nat} {x y : Value} (M : Mem w W Γ) (p : Nat) (a b : Value) (e0 : Γ[p]? = some (blk g t [x, y]) := by exact rfl) : Mem w ((W.setCell ⟨g, 0, none⟩ a).setCell ⟨g, 1, none⟩ b) (Γ.set p (blk g t [a, b])) := by
  have h := ((M.set p 0 a e0).set p 1 b (set_erase _ _ _ (at_lt e0)))
  simpa only [List.set_set, List.set_cons_zero, List.set_cons_succ] using h
theorem Mem.put4 {t : Nat} {x y z u : Value} (M : Mem w W Γ) (p : Nat) (a b c d : Value) (e0 : Γ[p]? = some (blk g t [x, y, z, u]) := by exact rfl) : Mem w ((((W.setCell ⟨g, 0, none⟩ a).setCell ⟨g, 1, none⟩ b).setCell ⟨g, 2, none⟩ c).setCell ⟨g, 3, none⟩ d) (Γ.set p (blk g t [a, b, c, d])) := by
  have h := ((M.set p 0 a e0).set p 1 b (set_erase _ _ _ (at_lt e0)))
  simp only [List.set_set, List.set_cons_zero, List.set_cons_succ] at h
  have h := ((h.set p 2 c (set_erase _ _ _ (at_lt e0))).set p 3 d (set_erase _ _ _ (by simpa using at_lt e0)))
  simpa only [List.set_set, List.set_cons_zero, List.set_cons_succ] using h
theorem Mem.two {t : Nat} {a b : Value} (M : Mem w W Γ) (p : Nat) (e0 : Γ[p]? = some (blk g t [a, b]) := by exact rfl) : W.cell? ⟨g, 0, none⟩ = some a ∧ W.cell? ⟨g, 1, none⟩ = some b := ⟨M.cell p 0 e0 rfl, M.cell p 1 e0 rfl⟩
theorem Mem.four {t : Nat} {a b c d : Value} (M : Mem w W Γ) (p : Nat) (e0 : Γ[p]? = some (blk g t [a, b, c, d]) := by exact rfl) : W.cell? ⟨g, 0, none⟩ = some a ∧ W.cell? ⟨g, 1, none⟩ = some b ∧ W.cell? ⟨g, 2, none⟩ = some c ∧ W.cell? ⟨g, 3, none⟩ = some d := ⟨M.cell p 0 e0 rfl, M.cell p 1 e0 rfl, M.cell p 2 e0 rfl, M.cell p 3 e0 rfl⟩
end
section
variable {P : Program} {ops : Array Oper} {md : Region.Mode} {Q : Exit → Act → World → Prop} {S : World → Prop} {ds : List Nat} {K : Act → World → Prop} {l' : Array Bool} {fuel : Nat}
theorem nx (N : Option Tmp) {a a' : Act} {v : Value} {w : World} (hK : Shut (∀ a w, S w → (S w → wpAnyLast P md ops Q S ds fuel l' a w) → K a w)) (hS : S w)
    (h : S w → wpAnyLast P md ops Q S ds fuel l' a' w) (ha : a.put N v = a' := by (simp only [Act.put, List.setIfInBounds_toArray, List.set_cons_zero, List.set_cons_succ, i64_w, i32_w]; rfl)) : K (a.put N v) w := hK.out _ _ hS (fun s => ha ▸ h s)
theorem twT {T : Bool × List (List Nat × List Nat)} (i j : Nat) (Ni Nj : Option Tmp) (hT : Aside0 (rtab md ops = T)) {oi oj : Oper} {l li lj : Array Bool} {a : Act} {w : World} (hi : ops[i]? = some oi := by exact rfl) (hj : ops[j]? = some oj := by exact rfl) (hNi : oi.dst = Ni := by rfl) (hNj : oj.dst = Nj := by rfl)
    (hli : l.setIfInBounds i true = li := by (simp only [List.setIfInBounds_toArray, List.set_cons_zero, List.set_cons_succ]; rfl)) (hlj : l.setIfInBounds j true = lj := by (simp only [List.setIfInBounds_toArray, List.set_cons_zero, List.set_cons_succ]; rfl))
    (hc : (readyT T.2 l.toList == [i, j] && l.toList.set i true == li.toList && l.toList.set j true == lj.toList) = true := by kernel_rfl) (hdi : i ∉ ds := by decide) (hdj : j ∉ ds := by decide)
    (h1 : ∀ K : Act → World → Prop, Shut (∀ a' w', S w' → (S w' → wpAnyLast P md ops Q S ds fuel li a' w') → K a' w') → if Region.wanted oi (yielded ops a.tmps) = true then Oper.wp P oi a w K Q else K (a.put Ni undef) w)
    (h2 : ∀ K : Act → World → Prop, Shut (∀ a' w', S w' → (S w' → wpAnyLast P md ops Q S ds fuel lj a' w') → K a' w') → if Region.wanted oj (yielded ops a.tmps) = true then Oper.wp P oj a w K Q else K (a.put Nj undef) w) :
    wpAnyLast P md ops Q S ds (fuel + 1) l a w := two_ li lj hi hj hNi hNj (two_of hT.out hc) hdi hdj h1 h2
theorem stoS {oi : Oper} {a : Act} {w w1 : World} (hrun : (execOp a.eval oi).run P w = .ok .skip w1) (h : K a w1) (hw : Region.wanted oi (yielded ops a.tmps) = true := by rfl) (hN : oi.dst = none := by rfl) : if Region.wanted oi (yielded ops a.tmps) = true then Oper.wp P oi a w K Q else K (a.put none undef) w := skip_ hw hN hrun h
end
theorem Mem.setRow {w W : World} {Γ : List Ent} {g t : Nat} {cs : List Value} (M : Mem w W Γ) (p : Nat) (cells : Array Value) (e0 : Γ[p]? = some (blk g t cs)) : Mem w (W.setRow g cells) (Γ.set p (blk g t cells.toList)) := by
  have hge := M.ge p e0
  obtain ⟨h0, D, hD, h⟩ := M
  obtain ⟨S, hS, hE, hr⟩ := SepA.take h e0
  have hsz : (W.setRow g cells).heap.size = W.heap.size := setRow_size _ _ _
  have hm : ∀ k, k ≠ g → (W.setRow g cells).heap[k]? = W.heap[k]? := fun k hk => by
    simp only [World.setRow, Array.getElem?_modify]
    rw [if_neg (fun e => hk e.symm)]
  refine ⟨⟨h0.os, h0.tape, h0.output, by rw [hsz]; exact h0.size, fun k hk => (hm k (by omega)).trans (h0.block k hk)⟩, D, fun k hk => by rw [hsz]; exact hD k hk, SepA.mono (SepA.put (Loc.blk _ _ _) (at_lt e0) hS ⟨hE.1, by simpa using setRow_heap W g _ cells t _ hE.2⟩ (SepA.move hr (fun k hk hl => hm k (fun he => ?_)) (fun _ => id))) (fun k hk => by rw [hsz]; exact hk)⟩
  subst he
  rcases hk with hk | hk
  · exact hk.2 hE.1
  · exact (hS k hE.1).2 hk
section
variable {P : Program} {ops : Array Oper} {rest : List Oper} {o : Oper} {a : Act} {Q : Exit → Act → World → Prop} {Kc : Act → World → Prop} {w W0 W : World} {Γ : List Ent} {g t : Nat} {cs : List Value}
theorem Mem.goC {f : FuncId} {as : Array Value} {R : Ending → World → Prop} (st : Mem w W0 Γ → Mem w W Γ := by (intro h_; (with_reducible repeat (first | apply Go.Proofs.Ytgmnphckgicadaa.Mem.Mem.drewN | apply Go.Proofs.Ytgmnphckgicadaa.Mem.Mem.drew | apply Go.Proofs.Ytgmnphckgicadaa.Mem.Mem.alloc)); exact h_)) (M : Mem w W0 Γ) (h : Mem w W Γ → Calls P f as W R) : Calls P f as W R := h (st M)
theorem gateW (h : wpList P ops Q (o :: rest) a W) : wpList P ops Q (o :: rest) a W := h
theorem Mem.stoE (p : Nat) (ty : TypeId) (x y : Operand) (cs' : List Value) (ho : o.op = .store ty x y := by with_reducible rfl) (e0 : Γ[p]? = some (blk g t cs) := by exact rfl) (hw : Region.wanted o (yielded ops a.tmps) = true := by rfl) (hd : o.dst = none := by rfl)
    (st : Mem w W0 Γ → Mem w W Γ := by (intro h_; (with_reducible repeat (first | apply Go.Proofs.Ytgmnphckgicadaa.Mem.Mem.drewN | apply Go.Proofs.Ytgmnphckgicadaa.Mem.Mem.drew | apply Go.Proofs.Ytgmnphckgicadaa.Mem.Mem.alloc)); exact h_)) (hx : a.eval x = .pointer (some ⟨g, 0, none⟩) := by (first | rfl | (go_simp; done) | (go_simp; rfl))) (hy : a.eval y = .agg cs'.toArray := by (first | rfl | (go_simp; done) | (go_simp; rfl))) (hi : (P.info? ty).map (·.size) = some cs'.toArray.size := by kernel_rfl) (hold : cs.toArray.size = cs'.toArray.size := by rfl) (h1 : cs'.all (·.oneCell') = true := by rfl)
    (M : Mem w W0 Γ) (h : ∀ W1, Mem w W1 (Γ.set p (blk g t cs')) → wpList P ops Q rest a W1) : wpList P ops Q (o :: rest) a W := by
  refine gate_guard hw (wpList_plain (o := { o with guard := none }) rfl fun K hK => wp_store_row ty x y ho g cs'.toArray hx hy t _ ((st M).at_blk p e0) hi hold (by simpa using h1) (hK _ _ ?_))
  show wpList P ops Q rest (a.put o.dst undef) _
  rw [hd]
  exact h _ ((st M).setRow p cs'.toArray e0)
theorem Mem.ldE (p : Nat) (ty : TypeId) (x : Operand) {de : TypeDesc} (hu : P.underlying ty = some de) (ho : o.op = .load ty x := by with_reducible rfl) (e0 : Γ[p]? = some (blk g t cs) := by exact rfl) (hw : Region.wanted o (yielded ops a.tmps) = true := by rfl)
    (st : Mem w W0 Γ → Mem w W Γ := by (intro h_; (with_reducible repeat (first | apply Go.Proofs.Ytgmnphckgicadaa.Mem.Mem.drewN | apply Go.Proofs.Ytgmnphckgicadaa.Mem.Mem.drew | apply Go.Proofs.Ytgmnphckgicadaa.Mem.Mem.alloc)); exact h_)) (hx : a.eval x = .pointer (some ⟨g, 0, none⟩) := by (first | rfl | (go_simp; done) | (go_simp; rfl))) (hd : (match de with | .struct _ | .array _ _ => true | _ => false) = true := by rfl) (hi : (P.info? ty).map (·.size) = some cs.toArray.size := by kernel_rfl)
    (M : Mem w W0 Γ) (h : Mem w W Γ → wpList P ops Q rest (a.put o.dst (.agg cs.toArray)) W) : wpList P ops Q (o :: rest) a W :=
  gate_guard hw (wpList_load_row (o := { o with guard := none }) rfl ty x ho g hx t _ _ _ ((st M).at_blk p e0) hu hd hi (h (st M)))
theorem Mem.stoR (p : Nat) (ty : TypeId) (x y : Operand) (cs' : List Value) (ho : o.op = .store ty x y := by rfl) (e0 : Γ[p]? = some (blk g t cs) := by exact rfl) (hw : Region.wanted o (yielded ops a.tmps) = true := by rfl) (hd : o.dst = none := by rfl)
    (st : Mem w W0 Γ → Mem w W Γ := by (intro h_; (with_reducible repeat (first | apply Go.Proofs.Ytgmnphckgicadaa.Mem.Mem.drewN | apply Go.Proofs.Ytgmnphckgicadaa.Mem.Mem.drew | apply Go.Proofs.Ytgmnphckgicadaa.Mem.Mem.alloc)); exact h_)) (hx : a.eval x = .pointer (some ⟨g, 0, none⟩) := by (first | rfl | (go_simp; done) | (go_simp; rfl))) (hy : a.eval y = .agg cs'.toArray := by (first | rfl | (go_simp; done) | (go_simp; rfl))) (hi : (P.info? ty).map (·.size) = some cs'.toArray.size := by kernel_rfl) (hold : cs.toArray.size = cs'.toArray.size := by rfl) (h1 : cs'.all (·.oneCell') = true := by rfl)
    (M : Mem w W0 Γ) (h : ∀ W1, Mem w W1 (Γ.set p (blk g t cs')) → Kc a W1) : if Region.wanted o (yielded ops a.tmps) = true then Oper.wp P o a W Kc Q else Kc (a.put none undef) W := by
  rw [if_pos hw]
  refine wp_store_row ty x y ho g cs'.toArray hx hy t _ ((st M).at_blk p e0) hi hold (by simpa using h1) ?_
  rw [hd]
  exact h _ ((st M).setRow p cs'.toArray e0)
end
theorem Mem.share {w W : World} {Γ : List Ent} {α : Type} {d : Kd α} {e : Nat} {v : Value} {xs : List α} (M : Mem w W Γ) (p : Nat) (e0 : Γ[p]? = some (ownN d e v xs)) : Mem w W (Γ.set p (row d e v xs)) := by
  obtain ⟨h0, D, hD, h⟩ := M
  obtain ⟨S, hS, hE, hr⟩ := SepA.take h e0
  refine ⟨h0, fun k => D k ∨ S k, fun k hk => hk.elim (hD k) (fun x => (hS k x).1), SepA.put (S := fun _ => False) (Loc.row _ _ _ _) (at_lt e0) (fun _ hk => hk.elim) (Kd.V_mono (Kd.N_V (base' := 0) hE.1) (fun k hk => hk.symm)) (SepA.mono (SepA.move (W := W) hr (fun _ _ _ => rfl) (fun k => .inl)) (fun k hk => ⟨⟨hk.1.1, fun x => x.elim hk.1.2 hk.2⟩, id⟩))⟩
section
variable {P : Program} {ops : Array Oper} {md : Region.Mode} {Q : Exit → Act → World → Prop} {S : World → Prop} {ds : List Nat} {w W : World} {Γ : List Ent}
theorem Mem.joinM {σ : Type} {fuel : Nat} {l : Array Bool} {a : Act} {W' : World} (M : Mem w W Γ) (fuel' : Nat) (l' : Array Bool) (ns : σ → List (Tmp × Value)) (F : σ → List Ent)
    (hcont : ∀ s w', S w' → Mem w w' (F s ++ Γ) → wpAnyLast P md ops Q S ds fuel' l' (putAll a (ns s)) w')
    (h : (∀ s w', S w' → Mem w w' (F s ++ Γ) → wpAnyLast P md ops Q S ds fuel' l' (putAll a (ns s)) w') → wpAnyLast P md ops Q S ds fuel l a W') : wpAnyLast P md ops Q S ds fuel l a W' := h hcont
end
end Go.Proofs.Ytgmnphckgicadaa.Mem
