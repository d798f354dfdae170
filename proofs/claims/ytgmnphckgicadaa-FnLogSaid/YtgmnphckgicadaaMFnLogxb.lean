/- Functions that the law reaches, with their contracts. -/
import Derived.Test.YtgmnphckgicadaaMFnLogxa
import Derived.Test.YtgmnphckgicadaaReg
import Derived.Test.YtgmnphckgicadaaView
namespace Go.Proofs.Ytgmnphckgicadaa.PFnLog
open Go.RowKit Go.Proofs.YtgmnphckgicadaaW.PrintWords Go.Proofs.YtgmnphckgicadaaW.PrintLast Go.Proofs.YtgmnphckgicadaaW.PrintMore
attribute [local go_sem] max2_int min2_int max_two min_two max_three min_three max_four min_four
set_option linter.unusedVariables false
set_option linter.unusedSimpArgs false

def impl_SyncOne.f (a0 : Int) : Option (Bool) := some true
set_option maxHeartbeats 8000000 in
set_option maxRecDepth 100000 in
theorem impl_SyncOne.calls (a0 : Int) (r : Bool) (w : World) (h : impl_SyncOne.f a0 = some r) :
  Calls Try.prog 102 #[.int .i64 a0] w fun e w' => e = .returned (.bool r) ∧ Drawn0 w w' := by
 have H := h
 unfold impl_SyncOne.f at H
 clear h
 obtain rfl := Option.some.inj H
 go_enter Try.func102, Try.ntmps102
 go_wp2
 go_ret
 exact ⟨by first | rfl | (simp; done) | (simp [*]; done), by repeat (first | exact Drawn0.refl _ | apply Drawn0.step)⟩

def impl_doneS.l0 : Nat → List (S96) → Int → Int → List Int → Option (List Int × (List (S96)))
 | 0, _, _, _, _ => none
 | k + 1, x13, x14, x15, x191000 => if x15 < x14 then (if 0 ≤ x15 then (if x15 < (x13.length : Int) then ((impl_SyncOne.f x15).bind fun t193 => (if t193 = true then (if 0 ≤ (wrap64 (((rd_T96 x13 x15).f0) * 64)) then (if (0 < ((rd_T96 x13 x15).f1).length ∧ ((wrap64 (((rd_T96 x13 x15).f0) * 64)) : Int).toNat + ((rd_T96 x13 x15).f1).length ≤ x191000.length) then (impl_doneS.l0 k x13 x14 (wrap64 (x15 + 1)) (spl x191000 ((wrap64 (((rd_T96 x13 x15).f0) * 64)) : Int).toNat ((rd_T96 x13 x15).f1))) else (none)) else (none)) else (impl_doneS.l0 k x13 x14 (wrap64 (x15 + 1)) x191000))) else (none)) else (none)) else (some (x191000, ([] : List (S96))))
def impl_doneS.f (k : Nat) (l0_0 : List Int) (l0_1 : List (S96)) : Option (List Int × (List (S96))) := (slices_Clone_byte_byte.f l0_0).bind fun t187 => (impl_doneS.l0 k l0_1 (l0_1.length : Int) 0 t187)
def impl_doneS.T6 : Bool × List (List Nat × List Nat) := (true, [([], []), ([0], [0]), ([], []), ([2], [2]), ([3], [3]), ([1, 4], [1, 4]), ([], []), ([6], [6]), ([5, 7], [5, 7])])
def impl_doneS.B6 : List Nat := [0, 1, 0, 4, 12, 31, 0, 64, 255]
theorem impl_doneS.tab6 : rtab .any (opsOf Try.f68 6) = impl_doneS.T6 := by kernel_rfl
theorem impl_doneS.bits6 : waitsOk impl_doneS.T6.2 impl_doneS.B6 = true := by kernel_rfl
/-- A call through a slot that holds a plain function, in a plain region. -/
theorem goesT_ {P : Program} {ops : Array Oper} {Q : Exit → Act → World → Prop} {rest : List Oper} {oi : Oper} {a : Act} {w : World} (N : Option Tmp) (hd : oi.dst = N) (hg : oi.guard = none) {f : FuncId} {fn : Func} {zs : Array Operand} {ts : Array TypeId} {t : Tmp}
  (hf : P.funcs[f]? = some fn) (hname : (fn.name == "runtime.NumGoroutine") = false) (hb : fn.body.isSome = true) (args : Array Value)
  (hop : oi.op = .call { callee := .value (.tmp t), args := zs, argTypes := ts }) (ht : a.eval (.tmp t) = .func (.func f) #[] #[]) (hargs : zs.map a.eval = args)
  (h : Calls P f args w fun e w' => ∃ v, e = .returned v ∧ wpList P ops Q rest (a.put N v) w') : wpList P ops Q (oi :: rest) a w := by
 refine wpList_plain hg fun K hK => ?_
 have he := enters_ hf hname hb args w
 have hrun : (execOp a.eval oi).run P w = .ok (.enter f args) w := by
  unfold execOp
  simp [hop, resolve, Deferred.ofValue, ht, invoke, hargs, he]
 unfold Oper.wp
 rw [hrun, Oper.upon_enter]
 refine h.mono fun e w'' hh => ?_
 obtain ⟨v, rfl, hk⟩ := hh
 subst hd
 exact hK _ _ hk
set_option maxHeartbeats 8000000 in
set_option maxRecDepth 100000 in
theorem impl_doneS.calls (k : Nat) (A0_0 : Option Addr) (c0_0 : Nat) (l0_0 : List Int) (A0_1 : Option Addr) (c0_1 : Nat) (l0_1 : List (S96)) (r1 : List Int) (r2 : List (S96)) (w : World) (hr0_0 : Kd.C (Kd.int .u8) w A0_0 l0_0.length l0_0) (hc0_0 : l0_0.length ≤ c0_0) (hr0_1 : Kd.C k96 w A0_1 l0_1.length l0_1) (hc0_1 : l0_1.length ≤ c0_1) (h : impl_doneS.f k l0_0 l0_1 = some (r1, r2)) :
  Calls Try.prog 68 #[.agg #[.slice A0_0 l0_0.length c0_0, .slice A0_1 l0_1.length c0_1], .func (.func 102) #[] #[]] w fun e w' => ∃ v0_ v1_ : Value, e = .returned (.agg #[v0_, v1_]) ∧ Kd.R (Kd.int .u8) 5 w' w.heap.size (fun _ => True) v0_ r1 ∧ Kd.S k96 96 w' w.heap.size (fun k_ => some k_ ≠ (v0_ : Value).ownBlock) v1_ r2 ∧ Below w.heap.size w w' := by
 have hu31 := Try.underlying31
 have hu96 := Try.underlying96
 have HR0_0 := Ak hr0_0
 have HC0_0 := Ak hc0_0
 clear hr0_0 hc0_0
 have HR0_1 := Ak hr0_1
 have HC0_1 := Ak hc0_1
 clear hr0_1 hc0_1
 have HB := Ak (Below.refl w.heap.size w)
 have H := h
 unfold impl_doneS.f at H
 clear h
 replace H := Option.bind_eq_some_iff.mp H
 obtain ⟨t187, A20, H⟩ := H
 have A2 := Ak A20
 clear A20
 have H' := Ak H
 clear H
 go_enter Try.func68, Try.ntmps68
 go_wp2_with (first | ((with_reducible refine gate_dst (N := 2) rfl ?_); refine box_event ?hg (N := 2) ?hd (cs := #[.slice A0_0 l0_0.length c0_0, .slice A0_1 l0_1.length c0_1]) (t := 31) ?hr ?_; (case hd => rfl); (case hg => rfl); (case hr => first | (go_simp; done) | (go_simp; rfl)); intro gb185 hg w3 hbox hb; have BK185 := Ak (hbox); have GW185 := Ak ((zb hg (bw HB.out))); have GE185 := Ak ((zb hg (bw HB.out))); replace HB := Ak (below_step (bw HB.out) hb); clear hb hbox hg) | ((with_reducible refine gate_dst (N := 4) rfl ?_); refine box_event ?hg (N := 4) ?hd (cs := #[.slice none 0 0, .slice none 0 0]) (t := 31) ?hr ?_; (case hd => rfl); (case hg => rfl); (case hr => first | (go_simp; done) | (go_simp; rfl)); intro gb186 hg w4 hbox hb; have BK186 := Ak (hbox); have GW186 := Ak ((zb hg (bw1 HB.out GE185.out))); have GE186 := Ak ((zb hg (bw1 HB.out GE185.out))); replace HB := Ak (below_step (bw1 HB.out GE185.out) hb); have NB185_186 := Ak ((zl hg (bq BK185.out))); have NB186_185 := Ak ((zm hg (bq BK185.out))); replace BK185 := Ak (blk_below (bq BK185.out) hb); clear hb hbox hg; have hnb5 := NB185_186.out; have hnc5 := NB186_185.out; have hcz6_0 := zk0 BK185.out; have hcz6_1 := zk1 BK185.out; have hfz6_0 := blk_frozen BK185.out 0; have hfz6_1 := blk_frozen BK185.out 1) | ((with_reducible refine gate_callee (f := 100) rfl ?_); refine goesL_ (some 10) rfl rfl Try.func100 (by kernel_rfl) rfl #[.slice A0_0 l0_0.length c0_0] rfl gm ?_; (with_reducible refine (slices_Clone_byte_byte.calls _ _ l0_0 t187 _ ?side1 ?side2 A2.out).mono ?_); (case side1 => exact zq (Kd.C_below HR0_0.out HB.out)); (case side2 => exact HC0_0.out); rintro e w7 ⟨v188, rfl, ho0, hb⟩; refine ⟨_, rfl, ?_⟩; have HO189 := Ak (Kd.R_lower ho0 (below_size (bw2 HB.out GE185.out GE186.out))); replace BK185 := Ak (blk_below (bq BK185.out) hb); replace BK186 := Ak (blk_below (bq BK186.out) hb); replace HB := Ak (below_step (bw2 HB.out GE185.out GE186.out) hb); obtain ⟨Ao8, co8, eo8⟩ := Kd.R_slice HO189.out; subst eo8) | ((with_reducible refine gate_dst (N := 5) rfl ?_); refine box_event ?hg (N := 5) ?hd (cs := #[.slice none 0 0, .slice none 0 0]) (t := 31) ?hr ?_; (case hd => rfl); (case hg => rfl); (case hr => first | (go_simp; done) | (go_simp; rfl)); intro gb190 hg w9 hbox hb; replace HO189 := Ak (Kd.R_below (rq HO189.out) hb); have BK190 := Ak (hbox); have GW190 := Ak ((zb hg (bw2 HB.out GE185.out GE186.out))); have GE190 := Ak ((zb hg (bw2 HB.out GE185.out GE186.out))); replace HB := Ak (below_step (bw2 HB.out GE185.out GE186.out) hb); have NB185_190 := Ak ((zl hg (bq BK185.out))); have NB190_185 := Ak ((zm hg (bq BK185.out))); replace BK185 := Ak (blk_below (bq BK185.out) hb); have NB186_190 := Ak ((zl hg (bq BK186.out))); have NB190_186 := Ak ((zm hg (bq BK186.out))); replace BK186 := Ak (blk_below (bq BK186.out) hb); clear hb hbox hg; have hnb10 := NB190_185.out; have hnc10 := NB185_190.out; have hnb11 := NB190_186.out; have hnc11 := NB186_190.out; have hcz12_0 := zk0 BK190.out; have hcz12_1 := zk1 BK190.out; have hfz12_0 := blk_frozen BK190.out 0; have hfz12_1 := blk_frozen BK190.out 1; have hcz13_0 := zk0 BK185.out; have hcz13_1 := zk1 BK185.out; have hfz13_0 := blk_frozen BK185.out 0; have hfz13_1 := blk_frozen BK185.out 1))
 go_loopg [15] k (fun kq v15 w' => ∃ (x15_1 : Int) (x191000_1 : List Int) (u191000 : Value), v15 = .int .i64 x15_1 ∧ Aside0 (impl_doneS.l0 kq l0_1 (l0_1.length : Int) x15_1 x191000_1 = some (r1, r2)) ∧ Aside0 (kq ≤ k) ∧ Aside0 (Kd.R (Kd.int .u8) 5 w' w.heap.size (fun _ => True) u191000 x191000_1) ∧ Aside0 (w'.heap[gb185]? = some (.cells #[(.slice A0_0 l0_0.length c0_0), (.slice A0_1 l0_1.length c0_1)] 31 (0, 0))) ∧ Aside0 (w'.heap[gb186]? = some (.cells #[(.slice none 0 0), (.slice none 0 0)] 31 (0, 0))) ∧ Aside0 (w'.heap[gb190]? = some (.cells #[u191000, (.slice none 0 0)] 31 (0, 0))) ∧ Aside0 (Below w.heap.size w w'))
 case atStart => exact ⟨(0), (t187), (.slice Ao8 t187.length co8), (by first | rfl | (simp; done) | (simp [*]; done)), H', ⟨Nat.le_refl _⟩, ⟨by refine rq ?_; exact Kd.R_mono (Kd.R_far (p := ⟨gb190, 1, none⟩) (Kd.R_far (p := ⟨gb190, 0, none⟩) (Kd.R_types HO189.out BK190.out (by decide)) (fun _ hk => hk.2) (.slice Ao8 t187.length co8)) (fun _ hk => hk.2) (.slice none 0 0)) (fun _ hk => trivial)⟩, ⟨by refine bq ?_; refine blk_far ?_ NB185_190.out _; refine bq ?_; refine blk_far ?_ NB185_190.out _; exact bq BK185.out⟩, ⟨by refine bq ?_; refine blk_far ?_ NB186_190.out _; refine bq ?_; refine blk_far ?_ NB186_190.out _; exact bq BK186.out⟩, ⟨by refine bq ?_; refine blk_put (cs := #[.slice Ao8 t187.length co8, .slice none 0 0]) ?_ 1 _ rfl; refine bq ?_; refine blk_put (cs := #[.slice none 0 0, .slice none 0 0]) ?_ 0 _ rfl; exact bq BK190.out⟩, ⟨bw3 HB.out GE185.out GE186.out GE190.out⟩⟩
 case round =>
  clear H'
  obtain ⟨x15_1, x191000_1, u191000, rfl, HA, HK1, HO_191000, BK185, BK186, BK190, HB⟩ := hrel
  cases gk with
  | zero => exact absurd HA.out (by simp [impl_doneS.l0])
  | succ k1 =>
   have H := HA.out
   clear HA
   simp only [impl_doneS.l0] at H
   by_cases c14 : x15_1 < (l0_1.length : Int)
   ·rw [if_pos c14] at H
    have c14b0 := decide_eq_true c14
    clear c14
    by_cases c15 : 0 ≤ x15_1
    ·rw [if_pos c15] at H
     have c15b0 := decide_eq_true c15
     clear c15
     by_cases c16 : x15_1 < (l0_1.length : Int)
     ·rw [if_pos c16] at H
      have c16b0 := decide_eq_true c16
      clear c16
      replace H := Option.bind_eq_some_iff.mp H
      obtain ⟨t193, A170, H⟩ := H
      have A17 := Ak A170
      clear A170
      by_cases c18 : t193 = true
      ·subst c18
       rw [if_pos rfl] at H
       obtain ⟨ji19, hji19⟩ : ∃ j_ : Int, (wrap64 (((rd_T96 l0_1 x15_1).f0) * 64)) = j_ := ⟨_, rfl⟩
       replace H : (if 0 ≤ (ji19) then (if (0 < ((rd_T96 l0_1 x15_1).f1).length ∧ ((ji19) : Int).toNat + ((rd_T96 l0_1 x15_1).f1).length ≤ x191000_1.length) then (impl_doneS.l0 k1 l0_1 (l0_1.length : Int) (wrap64 (x15_1 + 1)) (spl x191000_1 ((ji19) : Int).toNat ((rd_T96 l0_1 x15_1).f1))) else (none)) else (none)) = some (r1, r2) := by first | (rw [hji19] at H; exact H) | (simp only [hji19] at H ⊢; exact H)
       (try rw [hji19] at A17)
       have hji19w : (IntKind.i64.wrap (((rd_T96 l0_1 x15_1).f0) * 64)) = ji19 := (i64_w _).trans hji19
       by_cases c20 : 0 ≤ (ji19)
       ·rw [if_pos c20] at H
        have c20b0 := decide_eq_true c20
        clear c20
        by_cases c21 : (0 < ((rd_T96 l0_1 x15_1).f1).length ∧ ((ji19) : Int).toNat + ((rd_T96 l0_1 x15_1).f1).length ≤ x191000_1.length)
        ·rw [if_pos c21] at H
         have LC_ := Ak c21
         have p0_ : 0 ≤ (ji19) := of_decide_eq_true c20b0
         have c21b0 : decide ((ji19) < (x191000_1.length : Int)) = true := decide_eq_true (by have := LC_.out; omega)
         have cle_ : decide ((ji19) ≤ (x191000_1.length : Int)) = true := decide_eq_true (by have := LC_.out; omega)
         clear c21
         generalize hy194 : (spl x191000_1 ((ji19) : Int).toNat ((rd_T96 l0_1 x15_1).f1) : List Int) = y194 at H
         try rw [Option.bind_some] at H
         have Ny194 := Ak hy194.symm
         clear hy194
         have H' := Ak H
         clear H
         have p191 : 0 ≤ (x15_1 : Int) := of_decide_eq_true (by first | (with_reducible assumption) | assumption)
         have q191 : x15_1 < (l0_1.length : Int) := of_decide_eq_true (by first | (with_reducible assumption) | assumption)
         obtain ⟨ad191, A191_1, c191_1, e191, hx191_0, hx191_1, hl191_1, hi191_1⟩ := at_T96 HR0_1.out x15_1 p191 q191
         cases e191
         replace hx191_0 := (HB.out.cell (World.block_lt_of_cell? w _ hx191_0)).trans hx191_0
         replace hx191_1 := (HB.out.cell (World.block_lt_of_cell? w _ hx191_1)).trans hx191_1
         have HR191_1 := Ak hi191_1
         have HC191_1 := Ak hl191_1
         clear hi191_1 hl191_1
         replace p191 := eq_true p191
         replace q191 := eq_true q191
         try go_wp2_with (first | ((with_reducible refine gate_dst (N := 7) rfl ?_); refine box_event ?hg (N := 7) ?hd (cs := #[.int .i64 0, .slice none 0 0]) (t := 96) ?hr ?_; (case hd => rfl); (case hg => rfl); (case hr => first | (go_simp; done) | (go_simp; rfl)); intro gb192 hg w23 hbox hb; replace HO_191000 := Ak (Kd.R_below (rq HO_191000.out) hb); have BK192 := Ak (hbox); have GW192 := Ak ((zb hg (bw3 HB.out GE185.out GE186.out GE190.out))); have GE192 := Ak ((zb hg (bw3 HB.out GE185.out GE186.out GE190.out))); replace HB := Ak (below_step (bw3 HB.out GE185.out GE186.out GE190.out) hb); have NB185_192 := Ak ((zl hg (bq BK185.out))); have NB192_185 := Ak ((zm hg (bq BK185.out))); replace BK185 := Ak (blk_below (bq BK185.out) hb); have NB186_192 := Ak ((zl hg (bq BK186.out))); have NB192_186 := Ak ((zm hg (bq BK186.out))); replace BK186 := Ak (blk_below (bq BK186.out) hb); have NB190_192 := Ak ((zl hg (bq BK190.out))); have NB192_190 := Ak ((zm hg (bq BK190.out))); replace BK190 := Ak (blk_below (bq BK190.out) hb); clear hb hbox hg; have hnb24 := NB192_185.out; have hnc24 := NB185_192.out; have hnb25 := NB192_186.out; have hnc25 := NB186_192.out; have hnb26 := NB192_190.out; have hnc26 := NB190_192.out; have hcz27_0 := zk0 BK192.out; have hcz27_1 := zk1 BK192.out; have hfz27_0 := blk_frozen BK192.out 0; have hfz27_1 := blk_frozen BK192.out 1) | ((with_reducible refine gate_dst (N := 22) rfl ?_); refine goesT_ (some 22) rfl rfl Try.func102 (by kernel_rfl) rfl #[.int .i64 x15_1] rfl (by rfl) gm ?_; (with_reducible refine (impl_SyncOne.calls x15_1 true _ A17.out).mono ?_); rintro e w' ⟨rfl, ⟨nd, rfl⟩⟩; refine ⟨_, rfl, ?_⟩))
         have n0_ : Aside0 (Kd.R (Kd.int .u8) 5 ((w23.setCell ⟨gb192, 0, none⟩ (.int .i64 ((rd_T96 l0_1 x15_1).f0))).setCell ⟨gb192, 1, none⟩ (.slice A191_1 ((rd_T96 l0_1 x15_1).f1).length c191_1)) w.heap.size (fun _ => True) u191000 x191000_1) := ⟨by refine rq ?_; exact Kd.R_mono (Kd.R_far (p := ⟨gb192, 1, none⟩) (Kd.R_far (p := ⟨gb192, 0, none⟩) (Kd.R_types HO_191000.out BK192.out (by decide)) (fun _ hk => hk.2) (.int .i64 ((rd_T96 l0_1 x15_1).f0))) (fun _ hk => hk.2) (.slice A191_1 ((rd_T96 l0_1 x15_1).f1).length c191_1)) (fun _ hk => trivial)⟩
         have n1_ : Aside0 (((w23.setCell ⟨gb192, 0, none⟩ (.int .i64 ((rd_T96 l0_1 x15_1).f0))).setCell ⟨gb192, 1, none⟩ (.slice A191_1 ((rd_T96 l0_1 x15_1).f1).length c191_1)).heap[gb185]? = some (.cells #[.slice A0_0 l0_0.length c0_0, .slice (some ad191) l0_1.length c0_1] 31 (0, 0))) := ⟨by refine bq ?_; refine blk_far ?_ NB185_192.out _; refine bq ?_; refine blk_far ?_ NB185_192.out _; exact bq BK185.out⟩
         have n2_ : Aside0 (((w23.setCell ⟨gb192, 0, none⟩ (.int .i64 ((rd_T96 l0_1 x15_1).f0))).setCell ⟨gb192, 1, none⟩ (.slice A191_1 ((rd_T96 l0_1 x15_1).f1).length c191_1)).heap[gb186]? = some (.cells #[.slice none 0 0, .slice none 0 0] 31 (0, 0))) := ⟨by refine bq ?_; refine blk_far ?_ NB186_192.out _; refine bq ?_; refine blk_far ?_ NB186_192.out _; exact bq BK186.out⟩
         have n3_ : Aside0 (((w23.setCell ⟨gb192, 0, none⟩ (.int .i64 ((rd_T96 l0_1 x15_1).f0))).setCell ⟨gb192, 1, none⟩ (.slice A191_1 ((rd_T96 l0_1 x15_1).f1).length c191_1)).heap[gb190]? = some (.cells #[u191000, .slice none 0 0] 31 (0, 0))) := ⟨by refine bq ?_; refine blk_far ?_ NB190_192.out _; refine bq ?_; refine blk_far ?_ NB190_192.out _; exact bq BK190.out⟩
         have n4_ : Aside0 (((w23.setCell ⟨gb192, 0, none⟩ (.int .i64 ((rd_T96 l0_1 x15_1).f0))).setCell ⟨gb192, 1, none⟩ (.slice A191_1 ((rd_T96 l0_1 x15_1).f1).length c191_1)).heap[gb192]? = some (.cells #[.int .i64 ((rd_T96 l0_1 x15_1).f0), .slice A191_1 ((rd_T96 l0_1 x15_1).f1).length c191_1] 96 (0, 0))) := ⟨by refine bq ?_; refine blk_put (cs := #[.int .i64 ((rd_T96 l0_1 x15_1).f0), .slice none 0 0]) ?_ 1 _ rfl; refine bq ?_; refine blk_put (cs := #[.int .i64 0, .slice none 0 0]) ?_ 0 _ rfl; exact bq BK192.out⟩
         have n5_ : Aside0 (Below w.heap.size w ((w23.setCell ⟨gb192, 0, none⟩ (.int .i64 ((rd_T96 l0_1 x15_1).f0))).setCell ⟨gb192, 1, none⟩ (.slice A191_1 ((rd_T96 l0_1 x15_1).f1).length c191_1))) := ⟨bw4 HB.out GE185.out GE186.out GE190.out GE192.out⟩
         (try clear HO_191000)
         (try clear BK185)
         (try clear BK186)
         (try clear BK190)
         (try clear BK192)
         (try clear HB)
         generalize ((w23.setCell ⟨gb192, 0, none⟩ (.int .i64 ((rd_T96 l0_1 x15_1).f0))).setCell ⟨gb192, 1, none⟩ (.slice A191_1 ((rd_T96 l0_1 x15_1).f1).length c191_1)) = w28 at n0_ n1_ n2_ n3_ n4_ n5_ ⊢
         have HO_191000 := n0_
         have BK185 := n1_
         have BK186 := n2_
         have BK190 := n3_
         have BK192 := n4_
         have HB := n5_
         clear n0_ n1_ n2_ n3_ n4_ n5_
         (try (rw [drewN_self w28]; generalize hq_ : World.drewN w28 _ = w28; replace HO_191000 : Aside0 (Kd.R (Kd.int .u8) 5 w28 w.heap.size (fun _ => True) u191000 x191000_1) := ⟨by rw [← hq_]; exact (rq HO_191000.out)⟩; replace BK185 : Aside0 (w28.heap[gb185]? = some (.cells #[.slice A0_0 l0_0.length c0_0, .slice (some ad191) l0_1.length c0_1] 31 (0, 0))) := ⟨by rw [← hq_]; exact (bq BK185.out)⟩; replace BK186 : Aside0 (w28.heap[gb186]? = some (.cells #[.slice none 0 0, .slice none 0 0] 31 (0, 0))) := ⟨by rw [← hq_]; exact (bq BK186.out)⟩; replace BK190 : Aside0 (w28.heap[gb190]? = some (.cells #[u191000, .slice none 0 0] 31 (0, 0))) := ⟨by rw [← hq_]; exact (bq BK190.out)⟩; replace BK192 : Aside0 (w28.heap[gb192]? = some (.cells #[.int .i64 ((rd_T96 l0_1 x15_1).f0), .slice A191_1 ((rd_T96 l0_1 x15_1).f1).length c191_1] 96 (0, 0))) := ⟨by rw [← hq_]; exact (bq BK192.out)⟩; replace HB : Aside0 (Below w.heap.size w w28) := ⟨by rw [← hq_]; exact (bw4 HB.out GE185.out GE186.out GE190.out GE192.out)⟩; clear hq_))
         replace HO_191000 := Ak (Kd.R_drew HO_191000.out)
         replace BK185 := Ak (blk_drew BK185.out)
         replace BK186 := Ak (blk_drew BK186.out)
         replace BK190 := Ak (blk_drew BK190.out)
         replace BK192 := Ak (blk_drew BK192.out)
         replace HB := Ak (below_drew1 HB.out)
         have p22 : 0 ≤ ((ji19) : Int) := of_decide_eq_true (by first | (with_reducible assumption) | assumption)
         have q22 : ((ji19) : Int) < ((x191000_1.length : Int) : Int) := of_decide_eq_true (by first | (with_reducible assumption) | assumption)
         obtain ⟨go22, co22, eo22, gb22, gl22, cl22, HG22⟩ := Kd.R_form HO_191000.out (by omega)
         (first | cases eo22 | (injection eo22 with ea_ en_ ec_; (first | subst ea_ | (injection ea_ with ea_; subst ea_)); subst ec_; clear en_))
         have GB22 := Ak gb22
         have GG22 := Ak HG22
         clear gb22 gl22 HG22
         obtain ⟨hx22_0, hf22_0⟩ := Kd.R_celln 0 HO_191000.out ((ji19) : Int) p22 q22
         replace p22 := eq_true p22
         replace q22 := eq_true q22
         obtain ⟨w1_, hcp_, hr_, hgr_⟩ := copy_at (P := Try.prog) w28.drew w.heap.size (fun _ => True) 22 22 3 5 Try.underlying22 (by kernel_rfl) go22 co22 ((ji19) : Int).toNat c191_1 A191_1 x191000_1 ((rd_T96 l0_1 x15_1).f1) HO_191000.out (Kd.C_below HR191_1.out HB.out) LC_.out.1 LC_.out.2
         have HQ30 := Ak (show Kd.R (Kd.int .u8) 5 w1_ w.heap.size (fun _ => True) (.slice (some ⟨go22, 0, none⟩) x191000_1.length co22) y194 from by rw [Ny194.out]; exact hr_)
         clear hr_
         have hne_ : ¬ (co22 = ((ji19) : Int).toNat) := by have h1_ := (Kd.R_reads' HO_191000.out).2.1; have h2_ := LC_.out; omega
         refine start_ (n := 9) (S := fun w' => w'.cell? ⟨gb190, 0, none⟩ = some (.slice (some ⟨go22, 0, none⟩) x191000_1.length co22) ∧ w'.cell? ⟨gb190, 1, none⟩ = some (.slice none 0 0) ∧ w'.cell? ⟨gb192, 0, none⟩ = some (.int .i64 ((rd_T96 l0_1 x15_1).f0)) ∧ w'.cell? ⟨gb192, 1, none⟩ = some (.slice A191_1 ((rd_T96 l0_1 x15_1).f1).length c191_1)) (ds := [8]) #[false, false, false, false, false, false, false, false, false] (by kernel_rfl) rfl rfl ⟨zk0 BK190.out, zk1 BK190.out, zk0 BK192.out, zk1 BK192.out⟩ (fun hHeld => ?_); refine with_tabW impl_doneS.tab6 impl_doneS.bits6 (fun HT_ HW_ => ?_)
         generalize w28.drew = w29 at HO_191000 BK185 BK186 BK190 BK192 HB GG22 hf22_0 hx22_0 hcp_ hgr_ hHeld ⊢
         refine puT 0 23 HT_ (h := ?_)
         refine puT 2 25 HT_ (h := ?_)
         refine puT 6 29 HT_ (h := ?_)
         refine taT 1 24 HT_ HW_ hHeld (h := ?_)
         refine taT 3 26 HT_ HW_ hHeld (h := ?_)
         refine puT 4 27 HT_ (h := ?_)
         refine pure_ (i := 5) (N := some 28) (v := ?_) (a' := ?_) #[true, true, true, true, true, true, true, false, false] rfl rfl (any_of HT_.out (by kernel_rfl)) (fun _ _ _ h => h) (Or.inl ⟨by rfl, ?_⟩) ?_ ?_
         rotate_left
         ·intro w'
          go_simp
          first | (with_reducible rfl) | (rw [if_pos (of_decide_eq_true cle_)])
         rotate_left
         ·simp only [Act.put, sT, sZ, sS, i64_w, i32_w]
          rfl
         refine taT 7 30 HT_ HW_ hHeld (h := ?_)
         refine laT 8 (some 31) HT_ (h := fun K hK => ?_)
         refine value_ (w1 := w1_) (v := goInt ((((rd_T96 l0_1 x15_1).f1).length : Nat) : Int)) (by rfl) rfl ?_ ?_
         ·show Sem.run _ (execOp _ { dst := some 31, op := Go.Op.call _, type := 3, pos := _, after := _, guard := none }) _ = _
          unfold execOp
          first | (simp only [resolve, invoke, builtin, Sem.run_bind, Sem.run_pure, Result.andThen_ok, List.map_toArray, List.map_cons, List.map_nil]; erw [hcp_]; rfl) | (erw [hcp_]; rfl)
         refine hK.out _ _ ?_
         clear hK K
         refine done_ (done_of HT_.out (by kernel_rfl)) ?_
         try go_wp2
         go_roundg k1
         case measure => have := HK1.out; omega
         case rel => exact ⟨(wrap64 (x15_1 + 1)), (y194), (.slice (some ⟨go22, 0, none⟩) x191000_1.length co22), (by first | rfl | (simp; done) | (simp [*]; done)), H', ⟨by have := HK1.out; omega⟩, ⟨rq HQ30.out⟩, ⟨by refine bq ?_; exact blk_grown BK185.out hgr_ (fun e_ => (Kd.R_ne HO_191000.out BK185.out (by decide)) e_)⟩, ⟨by refine bq ?_; exact blk_grown BK186.out hgr_ (fun e_ => (Kd.R_ne HO_191000.out BK186.out (by decide)) e_)⟩, ⟨by refine bq ?_; exact blk_grown BK190.out hgr_ (fun e_ => (Kd.R_ne HO_191000.out BK190.out (by decide)) e_)⟩, ⟨by (with_reducible repeat (first | apply below_alloc | apply pw_below_drewN | apply below_drew1)); exact HB.out.grown hgr_ HB.out.size (fun k_ e_ => by injection e_ with e_; subst e_; exact GB22.out)⟩⟩
        ·rw [if_neg c21] at H
         exact absurd H (by simp)
       ·rw [if_neg c20] at H
        exact absurd H (by simp)
      ·replace c18 := Bool.eq_false_iff.mpr c18
       subst c18
       rw [if_neg (show ¬ (false = true) by decide)] at H
       have H' := Ak H
       clear H
       have p191 : 0 ≤ (x15_1 : Int) := of_decide_eq_true (by first | (with_reducible assumption) | assumption)
       have q191 : x15_1 < (l0_1.length : Int) := of_decide_eq_true (by first | (with_reducible assumption) | assumption)
       obtain ⟨ad191, A191_1, c191_1, e191, hx191_0, hx191_1, hl191_1, hi191_1⟩ := at_T96 HR0_1.out x15_1 p191 q191
       cases e191
       replace hx191_0 := (HB.out.cell (World.block_lt_of_cell? w _ hx191_0)).trans hx191_0
       replace hx191_1 := (HB.out.cell (World.block_lt_of_cell? w _ hx191_1)).trans hx191_1
       have HR191_1 := Ak hi191_1
       have HC191_1 := Ak hl191_1
       clear hi191_1 hl191_1
       replace p191 := eq_true p191
       replace q191 := eq_true q191
       go_wp2_with (first | ((with_reducible refine gate_dst (N := 7) rfl ?_); refine box_event ?hg (N := 7) ?hd (cs := #[.int .i64 0, .slice none 0 0]) (t := 96) ?hr ?_; (case hd => rfl); (case hg => rfl); (case hr => first | (go_simp; done) | (go_simp; rfl)); intro gb192 hg w31 hbox hb; replace HO_191000 := Ak (Kd.R_below (rq HO_191000.out) hb); have BK192 := Ak (hbox); have GW192 := Ak ((zb hg (bw3 HB.out GE185.out GE186.out GE190.out))); have GE192 := Ak ((zb hg (bw3 HB.out GE185.out GE186.out GE190.out))); replace HB := Ak (below_step (bw3 HB.out GE185.out GE186.out GE190.out) hb); have NB185_192 := Ak ((zl hg (bq BK185.out))); have NB192_185 := Ak ((zm hg (bq BK185.out))); replace BK185 := Ak (blk_below (bq BK185.out) hb); have NB186_192 := Ak ((zl hg (bq BK186.out))); have NB192_186 := Ak ((zm hg (bq BK186.out))); replace BK186 := Ak (blk_below (bq BK186.out) hb); have NB190_192 := Ak ((zl hg (bq BK190.out))); have NB192_190 := Ak ((zm hg (bq BK190.out))); replace BK190 := Ak (blk_below (bq BK190.out) hb); clear hb hbox hg; have hnb32 := NB192_185.out; have hnc32 := NB185_192.out; have hnb33 := NB192_186.out; have hnc33 := NB186_192.out; have hnb34 := NB192_190.out; have hnc34 := NB190_192.out; have hcz35_0 := zk0 BK192.out; have hcz35_1 := zk1 BK192.out; have hfz35_0 := blk_frozen BK192.out 0; have hfz35_1 := blk_frozen BK192.out 1) | ((with_reducible refine gate_dst (N := 22) rfl ?_); refine goesT_ (some 22) rfl rfl Try.func102 (by kernel_rfl) rfl #[.int .i64 x15_1] rfl (by rfl) gm ?_; (with_reducible refine (impl_SyncOne.calls x15_1 false _ A17.out).mono ?_); rintro e w' ⟨rfl, ⟨nd, rfl⟩⟩; refine ⟨_, rfl, ?_⟩))
       go_roundg k1
       case measure => have := HK1.out; omega
       case rel => exact ⟨(wrap64 (x15_1 + 1)), (x191000_1), (u191000), (by first | rfl | (simp; done) | (simp [*]; done)), H', ⟨by have := HK1.out; omega⟩, ⟨by refine rq ?_; exact Kd.R_mono (Kd.R_far (p := ⟨gb192, 1, none⟩) (Kd.R_far (p := ⟨gb192, 0, none⟩) (Kd.R_types HO_191000.out BK192.out (by decide)) (fun _ hk => hk.2) (.int .i64 ((rd_T96 l0_1 x15_1).f0))) (fun _ hk => hk.2) (.slice A191_1 ((rd_T96 l0_1 x15_1).f1).length c191_1)) (fun _ hk => trivial)⟩, ⟨by refine bq ?_; refine blk_far ?_ NB185_192.out _; refine bq ?_; refine blk_far ?_ NB185_192.out _; exact bq BK185.out⟩, ⟨by refine bq ?_; refine blk_far ?_ NB186_192.out _; refine bq ?_; refine blk_far ?_ NB186_192.out _; exact bq BK186.out⟩, ⟨by refine bq ?_; refine blk_far ?_ NB190_192.out _; refine bq ?_; refine blk_far ?_ NB190_192.out _; exact bq BK190.out⟩, ⟨bw4 HB.out GE185.out GE186.out GE190.out GE192.out⟩⟩
     ·rw [if_neg c16] at H
      exact absurd H (by simp)
    ·rw [if_neg c15] at H
     exact absurd H (by simp)
   ·rw [if_neg c14] at H
    have c14b0 := decide_eq_false c14
    clear c14
    simp only [Option.some.injEq, Prod.mk.injEq] at H
    obtain ⟨rfl, rfl⟩ := H
    have hnb36 := NB190_185.out
    have hnc36 := NB185_190.out
    have hnb37 := NB190_186.out
    have hnc37 := NB186_190.out
    have hcz38_0 : wr.cell? ⟨gb190, 0, none⟩ = some (u191000) := zk0 BK190.out
    have hcz38_1 : wr.cell? ⟨gb190, 1, none⟩ = some (.slice none 0 0) := zk1 BK190.out
    have hfz38_0 := blk_frozen BK190.out 0
    have hfz38_1 := blk_frozen BK190.out 1
    obtain ⟨Ao39, co39, eo39⟩ := Kd.R_slice HO_191000.out
    subst eo39
    have hnb40 := NB186_185.out
    have hnc40 := NB185_186.out
    have hcz41_0 : wr.cell? ⟨gb186, 0, none⟩ = some (.slice none 0 0) := zk0 BK186.out
    have hcz41_1 : wr.cell? ⟨gb186, 1, none⟩ = some (.slice none 0 0) := zk1 BK186.out
    have hfz41_0 := blk_frozen BK186.out 0
    have hfz41_1 := blk_frozen BK186.out 1
    go_wp2
    refine bodyPost_ret (results_cell_row rfl _ _ gb186 31 #[.slice Ao39 x191000_1.length co39, .slice none 0 0] (0, 0) _ rfl (by refine bq ?_; refine blk_put (cs := #[.slice Ao39 x191000_1.length co39, .slice none 0 0]) ?_ 1 _ rfl; refine bq ?_; refine blk_put (cs := #[.slice none 0 0, .slice none 0 0]) ?_ 0 _ rfl; exact bq BK186.out) Try.underlying31 rfl (by kernel_rfl)) rfl ?_
    exact ⟨_, _, zw, by refine rq ?_; exact Kd.R_mono (Kd.R_far (p := ⟨gb186, 1, none⟩) (Kd.R_far (p := ⟨gb186, 0, none⟩) (Kd.R_types HO_191000.out BK186.out (by decide)) (fun _ hk => hk.2) (.slice Ao39 x191000_1.length co39)) (fun _ hk => hk.2) (.slice none 0 0)) (fun _ hk => trivial), by first | exact Kd.S_nil _ _ _ _ _ | exact Kd.N_nil _ _ _ _ _ | exact Kd.V_nil _ _ _ _ _ | exact Kd.Q_nil _ _ _ _ _ | exact Kd.R_nil _ _ _ _ _, bw3 HB.out GE185.out GE186.out GE190.out⟩

def impl_Sync.f (k : Nat) (l0_0 : List Int) (l0_1 : List (S96)) : Option (List Int × (List (S96))) := (impl_DiskOk.f k l0_0 l0_1).bind fun t197 => (if t197 = true then ((impl_doneS.f k l0_0 l0_1).bind fun bt198 => (some (bt198.1, bt198.2))) else ((impl_copyDisk.f k l0_0 l0_1).bind fun bt204 => (some (bt204.1, bt204.2))))
set_option maxHeartbeats 8000000 in
set_option maxRecDepth 100000 in
theorem impl_Sync.calls (k : Nat) (A0_0 : Option Addr) (c0_0 : Nat) (l0_0 : List Int) (A0_1 : Option Addr) (c0_1 : Nat) (l0_1 : List (S96)) (r1 : List Int) (r2 : List (S96)) (w : World) (hr0_0 : Kd.C (Kd.int .u8) w A0_0 l0_0.length l0_0) (hc0_0 : l0_0.length ≤ c0_0) (hr0_1 : Kd.C k96 w A0_1 l0_1.length l0_1) (hc0_1 : l0_1.length ≤ c0_1) (h : impl_Sync.f k l0_0 l0_1 = some (r1, r2)) :
  Calls Try.prog 51 #[.agg #[.slice A0_0 l0_0.length c0_0, .slice A0_1 l0_1.length c0_1]] w fun e w' => ∃ v0_ v1_ : Value, e = .returned (.agg #[v0_, v1_]) ∧ Kd.R (Kd.int .u8) 5 w' w.heap.size (fun _ => True) v0_ r1 ∧ Kd.S k96 96 w' w.heap.size (fun k_ => some k_ ≠ (v0_ : Value).ownBlock) v1_ r2 ∧ Below w.heap.size w w' := by
 have hu31 := Try.underlying31
 have HR0_0 := Ak hr0_0
 have HC0_0 := Ak hc0_0
 clear hr0_0 hc0_0
 have HR0_1 := Ak hr0_1
 have HC0_1 := Ak hc0_1
 clear hr0_1 hc0_1
 have HB := Ak (Below.refl w.heap.size w)
 have H := h
 unfold impl_Sync.f at H
 clear h
 replace H := Option.bind_eq_some_iff.mp H
 obtain ⟨t197, A20, H⟩ := H
 have A2 := Ak A20
 clear A20
 by_cases c3 : t197 = true
 ·subst c3
  rw [if_pos rfl] at H
  replace H := Option.bind_eq_some_iff.mp H
  obtain ⟨⟨t198, t201⟩, A40, H⟩ := H
  (try dsimp only at H)
  have A4 := Ak A40
  clear A40
  simp only [Option.some.injEq, Prod.mk.injEq] at H
  obtain ⟨rfl, rfl⟩ := H
  go_enter Try.func51, Try.ntmps51
  go_wp2_with (first | ((with_reducible refine gate_dst (N := 1) rfl ?_); refine box_event ?hg (N := 1) ?hd (cs := #[.slice A0_0 l0_0.length c0_0, .slice A0_1 l0_1.length c0_1]) (t := 31) ?hr ?_; (case hd => rfl); (case hg => rfl); (case hr => first | (go_simp; done) | (go_simp; rfl)); intro gb195 hg w5 hbox hb; have BK195 := Ak (hbox); have GW195 := Ak ((zb hg (bw HB.out))); have GE195 := Ak ((zb hg (bw HB.out))); replace HB := Ak (below_step (bw HB.out) hb); clear hb hbox hg) | ((with_reducible refine gate_dst (N := 2) rfl ?_); refine box_event ?hg (N := 2) ?hd (cs := #[.slice none 0 0, .slice none 0 0]) (t := 31) ?hr ?_; (case hd => rfl); (case hg => rfl); (case hr => first | (go_simp; done) | (go_simp; rfl)); intro gb196 hg w6 hbox hb; have BK196 := Ak (hbox); have GW196 := Ak ((zb hg (bw1 HB.out GE195.out))); have GE196 := Ak ((zb hg (bw1 HB.out GE195.out))); replace HB := Ak (below_step (bw1 HB.out GE195.out) hb); have NB195_196 := Ak ((zl hg (bq BK195.out))); have NB196_195 := Ak ((zm hg (bq BK195.out))); replace BK195 := Ak (blk_below (bq BK195.out) hb); clear hb hbox hg; have hnb7 := NB195_196.out; have hnc7 := NB196_195.out; have hcz8_0 := zk0 BK195.out; have hcz8_1 := zk1 BK195.out; have hfz8_0 := blk_frozen BK195.out 0; have hfz8_1 := blk_frozen BK195.out 1) | ((with_reducible refine gate_callee (f := 67) rfl ?_); refine goesL_ (some 4) rfl rfl Try.func67 (by kernel_rfl) rfl #[.agg #[.slice A0_0 l0_0.length c0_0, .slice A0_1 l0_1.length c0_1]] rfl gm ?_; (with_reducible refine (impl_DiskOk.calls k _ _ l0_0 _ _ l0_1 true _ ?side1 ?side2 ?side3 ?side4 A2.out).mono ?_); (case side1 => exact zq (Kd.C_below HR0_0.out HB.out)); (case side2 => exact HC0_0.out); (case side3 => exact zq (Kd.C_below HR0_1.out HB.out)); (case side4 => exact HC0_1.out); rintro e w9 ⟨rfl, hb⟩; refine ⟨_, rfl, ?_⟩; replace BK195 := Ak (blk_below (bq BK195.out) hb); replace BK196 := Ak (blk_below (bq BK196.out) hb); replace HB := Ak (below_step (bw2 HB.out GE195.out GE196.out) hb); have hcz10_0 := zk0 BK195.out; have hcz10_1 := zk1 BK195.out; have hfz10_0 := blk_frozen BK195.out 0; have hfz10_1 := blk_frozen BK195.out 1) | ((with_reducible refine gate_callee (f := 68) rfl ?_); refine goesL_ (some 9) rfl rfl Try.func68 (by kernel_rfl) rfl #[.agg #[.slice A0_0 l0_0.length c0_0, .slice A0_1 l0_1.length c0_1], .func (.func 102) #[] #[]] rfl gm ?_; (with_reducible refine (impl_doneS.calls k _ _ l0_0 _ _ l0_1 t198 t201 _ ?side1 ?side2 ?side3 ?side4 A4.out).mono ?_); (case side1 => exact zq (Kd.C_below HR0_0.out HB.out)); (case side2 => exact HC0_0.out); (case side3 => exact zq (Kd.C_below HR0_1.out HB.out)); (case side4 => exact HC0_1.out); rintro e w11 ⟨v199, v202, rfl, ho0, ho1, hb⟩; refine ⟨_, rfl, ?_⟩; have HO200 := Ak (Kd.R_lower ho0 (below_size (bw2 HB.out GE195.out GE196.out))); have HO203 := Ak (Kd.S_lower ho1 (below_size (bw2 HB.out GE195.out GE196.out))); replace BK195 := Ak (blk_below (bq BK195.out) hb); replace BK196 := Ak (blk_below (bq BK196.out) hb); replace HB := Ak (below_step (bw2 HB.out GE195.out GE196.out) hb); obtain ⟨Ao12, co12, eo12⟩ := Kd.R_slice HO200.out; subst eo12; have hcz13_0 := zk0 BK196.out; have hcz13_1 := zk1 BK196.out; have hfz13_0 := blk_frozen BK196.out 0; have hfz13_1 := blk_frozen BK196.out 1; obtain ⟨Ao14, co14, eo14⟩ := Kd.S_slice HO203.out; subst eo14))
  refine bodyPost_ret (results_cell_row rfl _ _ gb196 31 #[.slice Ao12 t198.length co12, .slice Ao14 t201.length co14] (0, 0) _ rfl (by refine bq ?_; refine blk_put (cs := #[.slice Ao12 t198.length co12, .slice none 0 0]) ?_ 1 _ rfl; refine bq ?_; refine blk_put (cs := #[.slice none 0 0, .slice none 0 0]) ?_ 0 _ rfl; exact bq BK196.out) Try.underlying31 rfl (by kernel_rfl)) rfl ?_
  exact ⟨_, _, zw, by refine rq ?_; exact Kd.R_mono (Kd.R_far (p := ⟨gb196, 1, none⟩) (Kd.R_far (p := ⟨gb196, 0, none⟩) (Kd.R_types HO200.out BK196.out (by decide)) (fun _ hk => hk.2) (.slice Ao12 t198.length co12)) (fun _ hk => hk.2) (.slice Ao14 t201.length co14)) (fun _ hk => trivial), by refine sq ?_; exact Kd.S_mono (Kd.S_far (p := ⟨gb196, 1, none⟩) (Kd.S_far (p := ⟨gb196, 0, none⟩) (Kd.S_types HO203.out BK196.out (by decide)) (fun _ hk => hk.2) (.slice Ao12 t198.length co12)) (fun _ hk => hk.2) (.slice Ao14 t201.length co14)) (fun _ hk => hk.1), bw2 HB.out GE195.out GE196.out⟩
 ·replace c3 := Bool.eq_false_iff.mpr c3
  subst c3
  rw [if_neg (show ¬ (false = true) by decide)] at H
  replace H := Option.bind_eq_some_iff.mp H
  obtain ⟨⟨t204, t207⟩, A150, H⟩ := H
  (try dsimp only at H)
  have A15 := Ak A150
  clear A150
  simp only [Option.some.injEq, Prod.mk.injEq] at H
  obtain ⟨rfl, rfl⟩ := H
  go_enter Try.func51, Try.ntmps51
  go_wp2_with (first | ((with_reducible refine gate_dst (N := 1) rfl ?_); refine box_event ?hg (N := 1) ?hd (cs := #[.slice A0_0 l0_0.length c0_0, .slice A0_1 l0_1.length c0_1]) (t := 31) ?hr ?_; (case hd => rfl); (case hg => rfl); (case hr => first | (go_simp; done) | (go_simp; rfl)); intro gb195 hg w16 hbox hb; have BK195 := Ak (hbox); have GW195 := Ak ((zb hg (bw HB.out))); have GE195 := Ak ((zb hg (bw HB.out))); replace HB := Ak (below_step (bw HB.out) hb); clear hb hbox hg) | ((with_reducible refine gate_dst (N := 2) rfl ?_); refine box_event ?hg (N := 2) ?hd (cs := #[.slice none 0 0, .slice none 0 0]) (t := 31) ?hr ?_; (case hd => rfl); (case hg => rfl); (case hr => first | (go_simp; done) | (go_simp; rfl)); intro gb196 hg w17 hbox hb; have BK196 := Ak (hbox); have GW196 := Ak ((zb hg (bw1 HB.out GE195.out))); have GE196 := Ak ((zb hg (bw1 HB.out GE195.out))); replace HB := Ak (below_step (bw1 HB.out GE195.out) hb); have NB195_196 := Ak ((zl hg (bq BK195.out))); have NB196_195 := Ak ((zm hg (bq BK195.out))); replace BK195 := Ak (blk_below (bq BK195.out) hb); clear hb hbox hg; have hnb18 := NB195_196.out; have hnc18 := NB196_195.out; have hcz19_0 := zk0 BK195.out; have hcz19_1 := zk1 BK195.out; have hfz19_0 := blk_frozen BK195.out 0; have hfz19_1 := blk_frozen BK195.out 1) | ((with_reducible refine gate_callee (f := 67) rfl ?_); refine goesL_ (some 4) rfl rfl Try.func67 (by kernel_rfl) rfl #[.agg #[.slice A0_0 l0_0.length c0_0, .slice A0_1 l0_1.length c0_1]] rfl gm ?_; (with_reducible refine (impl_DiskOk.calls k _ _ l0_0 _ _ l0_1 false _ ?side1 ?side2 ?side3 ?side4 A2.out).mono ?_); (case side1 => exact zq (Kd.C_below HR0_0.out HB.out)); (case side2 => exact HC0_0.out); (case side3 => exact zq (Kd.C_below HR0_1.out HB.out)); (case side4 => exact HC0_1.out); rintro e w20 ⟨rfl, hb⟩; refine ⟨_, rfl, ?_⟩; replace BK195 := Ak (blk_below (bq BK195.out) hb); replace BK196 := Ak (blk_below (bq BK196.out) hb); replace HB := Ak (below_step (bw2 HB.out GE195.out GE196.out) hb); have hcz21_0 := zk0 BK195.out; have hcz21_1 := zk1 BK195.out; have hfz21_0 := blk_frozen BK195.out 0; have hfz21_1 := blk_frozen BK195.out 1) | ((with_reducible refine gate_callee (f := 49) rfl ?_); refine goesL_ (some 7) rfl rfl Try.func49 (by kernel_rfl) rfl #[.agg #[.slice A0_0 l0_0.length c0_0, .slice A0_1 l0_1.length c0_1]] rfl gm ?_; (with_reducible refine (impl_copyDisk.calls k _ _ l0_0 _ _ l0_1 t204 t207 _ ?side1 ?side2 ?side3 ?side4 A15.out).mono ?_); (case side1 => exact zq (Kd.C_below HR0_0.out HB.out)); (case side2 => exact HC0_0.out); (case side3 => exact zq (Kd.C_below HR0_1.out HB.out)); (case side4 => exact HC0_1.out); rintro e w22 ⟨v205, v208, rfl, ho0, ho1, hb⟩; refine ⟨_, rfl, ?_⟩; have HO206 := Ak (Kd.R_lower ho0 (below_size (bw2 HB.out GE195.out GE196.out))); have HO209 := Ak (Kd.S_lower ho1 (below_size (bw2 HB.out GE195.out GE196.out))); replace BK195 := Ak (blk_below (bq BK195.out) hb); replace BK196 := Ak (blk_below (bq BK196.out) hb); replace HB := Ak (below_step (bw2 HB.out GE195.out GE196.out) hb); obtain ⟨Ao23, co23, eo23⟩ := Kd.R_slice HO206.out; subst eo23; have hcz24_0 := zk0 BK196.out; have hcz24_1 := zk1 BK196.out; have hfz24_0 := blk_frozen BK196.out 0; have hfz24_1 := blk_frozen BK196.out 1; obtain ⟨Ao25, co25, eo25⟩ := Kd.S_slice HO209.out; subst eo25))
  refine bodyPost_ret (results_cell_row rfl _ _ gb196 31 #[.slice Ao23 t204.length co23, .slice Ao25 t207.length co25] (0, 0) _ rfl (by refine bq ?_; refine blk_put (cs := #[.slice Ao23 t204.length co23, .slice none 0 0]) ?_ 1 _ rfl; refine bq ?_; refine blk_put (cs := #[.slice none 0 0, .slice none 0 0]) ?_ 0 _ rfl; exact bq BK196.out) Try.underlying31 rfl (by kernel_rfl)) rfl ?_
  exact ⟨_, _, zw, by refine rq ?_; exact Kd.R_mono (Kd.R_far (p := ⟨gb196, 1, none⟩) (Kd.R_far (p := ⟨gb196, 0, none⟩) (Kd.R_types HO206.out BK196.out (by decide)) (fun _ hk => hk.2) (.slice Ao23 t204.length co23)) (fun _ hk => hk.2) (.slice Ao25 t207.length co25)) (fun _ hk => trivial), by refine sq ?_; exact Kd.S_mono (Kd.S_far (p := ⟨gb196, 1, none⟩) (Kd.S_far (p := ⟨gb196, 0, none⟩) (Kd.S_types HO209.out BK196.out (by decide)) (fun _ hk => hk.2) (.slice Ao23 t204.length co23)) (fun _ hk => hk.2) (.slice Ao25 t207.length co25)) (fun _ hk => hk.1), bw2 HB.out GE195.out GE196.out⟩

-- NOT PRINTED: function 13 (impl_LogAdd)

-- NOT PRINTED: function 107 (impl_ReadSector)

def impl_LogAdd.f (k : Nat) (l0_0 : List Int) (l0_1 : List (S96)) (a1_0 : Int) (a1_1 : Int) (a1_2 : Int) (a1_3 : Int) (l2 : List Int) : Option (List Int × (List (S96)) × Int × Int × Int × Int × Bool) := (impl_copyDisk.f k l0_0 l0_1).bind fun bt217 => ((impl_isLogOf.f k l0_0 l0_1 a1_0 a1_1 a1_2 a1_3).bind fun t224 => (if t224 = true then ((impl_LogWrites.f k a1_0 a1_1 a1_2 a1_3 l2).bind fun t225 => (if (t225.length : Int) = 0 then (some (bt217.1, bt217.2, a1_0, a1_1, a1_2, a1_3, false)) else (if bt217.2.length + t225.length < 4398046511104 then ((impl_Sync.f k bt217.1 (bt217.2 ++ t225)).bind fun bt231 => (some (bt231.1, bt231.2, a1_0, a1_1, wrap64 (a1_2 + (t225.length : Int)), a1_3, true))) else (none)))) else (some (bt217.1, bt217.2, a1_0, a1_1, a1_2, a1_3, false))))
set_option maxHeartbeats 8000000 in
set_option maxRecDepth 100000 in
theorem impl_LogAdd.calls (k : Nat) (A0_0 : Option Addr) (c0_0 : Nat) (l0_0 : List Int) (A0_1 : Option Addr) (c0_1 : Nat) (l0_1 : List (S96)) (a1_0 : Int) (a1_1 : Int) (a1_2 : Int) (a1_3 : Int) (A2 : Option Addr) (c2 : Nat) (l2 : List Int) (r1 : List Int) (r2 : List (S96)) (r3 : Int) (r4 : Int) (r5 : Int) (r6 : Int) (r7 : Bool) (w : World) (hr0_0 : Kd.C (Kd.int .u8) w A0_0 l0_0.length l0_0) (hc0_0 : l0_0.length ≤ c0_0) (hr0_1 : Kd.C k96 w A0_1 l0_1.length l0_1) (hc0_1 : l0_1.length ≤ c0_1) (hr2 : Kd.C (Kd.int .u8) w A2 l2.length l2) (hc2 : l2.length ≤ c2) (h : impl_LogAdd.f k l0_0 l0_1 a1_0 a1_1 a1_2 a1_3 l2 = some (r1, r2, r3, r4, r5, r6, r7)) :
  Calls Try.prog 13 #[.agg #[.slice A0_0 l0_0.length c0_0, .slice A0_1 l0_1.length c0_1], .agg #[.int .i64 a1_0, .int .i64 a1_1, .int .i64 a1_2, .int .i64 a1_3], .slice A2 l2.length c2] w fun e w' => ∃ v0_ v1_ : Value, e = .returned (.tuple #[.agg #[v0_, v1_], .agg #[.int .i64 r3, .int .i64 r4, .int .i64 r5, .int .i64 r6], .bool r7]) ∧ Kd.V (Kd.int .u8) 5 w' 0 (fun k_ => w.heap.size ≤ k_) v0_ r1 ∧ Kd.V k96 96 w' 0 (fun k_ => w.heap.size ≤ k_) v1_ r2 ∧ Below w.heap.size w w' := by
 have hu31 := Try.underlying31
 have hu32 := Try.underlying32
 have HR0_0 := Ak hr0_0; have HC0_0 := Ak hc0_0; have HR0_1 := Ak hr0_1; have HC0_1 := Ak hc0_1; have HR2 := Ak hr2; have HC2 := Ak hc2
 clear hr0_0 hc0_0 hr0_1 hc0_1 hr2 hc2
 have M := Mem.Mem.start w
 have H := h
 unfold impl_LogAdd.f at H
 clear h
 replace H := Option.bind_eq_some_iff.mp H
 obtain ⟨⟨t217, t220⟩, A40, H⟩ := H
 have A4 := Ak A40; clear A40; (try dsimp only at H)
 replace H := Option.bind_eq_some_iff.mp H
 obtain ⟨t224, A50, H⟩ := H
 have A5 := Ak A50; clear A50
 have HC := Ak H
 clear H
 go_enter Try.func13, Try.ntmps13
 go_upto_region 2 with ((with_reducible refine Mem.gateW ?_); first | (refine Mem.Mem.boxE 3 31 [.slice A0_0 l0_0.length c0_0, .slice A0_1 l0_1.length c0_1] (M := M) (h := fun gb3 w9 M => ?_)) | (refine Mem.Mem.boxE 4 32 [.int .i64 a1_0, .int .i64 a1_1, .int .i64 a1_2, .int .i64 a1_3] (M := M) (h := fun gb4 w10 M => ?_)) | (refine Mem.Mem.boxE 6 31 [.slice none 0 0, .slice none 0 0] (M := M) (h := fun gb6 w11 M => ?_)) | (refine Mem.Mem.boxE 7 32 [.int .i64 0, .int .i64 0, .int .i64 0, .int .i64 0] (M := M) (h := fun gb7 w12 M => ?_)) | (refine Mem.Mem.ldE 3 31 (.tmp 3) hu31 (M := M) (h := fun M => ?_)) | (refine Mem.Mem.callE (some 12) Try.func49 #[.agg #[.slice A0_0 l0_0.length c0_0, .slice A0_1 l0_1.length c0_1]] (M := M) (h := fun M => (impl_copyDisk.calls k _ _ l0_0 _ _ l0_1 t217 t220 _ (Kd.C_below HR0_0.out M.below) HC0_0.out (Kd.C_below HR0_1.out M.below) HC0_1.out A4.out).mono ?_); rintro e w17 ⟨v218, v221, rfl, ho0, ho1, hb⟩; refine ⟨_, rfl, ?_⟩; have M := M.RS hb rfl ho0 ho1; clear hb ho0 ho1; obtain ⟨Aa, ca, ea⟩ := M.row_form 0 rfl; subst ea; obtain ⟨Ab, cb, eb⟩ := M.formN 1 rfl; subst eb) | (refine Mem.Mem.boxE 9 31 [.slice none 0 0, .slice none 0 0] (M := M) (h := fun gb9 w18 M => ?_)) | (refine Mem.Mem.stoE 0 31 (.tmp 9) (.tmp 12) [.slice Aa t217.length ca, .slice Ab t220.length cb] (M := M) (h := fun w19 M => ?_)))
 have H := HC.out
 clear HC
 by_cases c6 : t224 = true
 case neg =>
  replace c6 := Bool.eq_false_iff.mpr c6
  subst c6
  rw [if_neg (show ¬ (false = true) by decide)] at H
  simp only [Option.some.injEq, Prod.mk.injEq] at H
  obtain ⟨rfl, rfl, rfl, rfl, rfl, rfl, rfl⟩ := H
  go_upto_region 3 with ((with_reducible refine Mem.gateW ?_); first | (refine Mem.Mem.ldE 6 31 (.tmp 3) hu31 (M := M) (h := fun M => ?_)) | (refine Mem.Mem.ldE 5 32 (.tmp 4) hu32 (M := M) (h := fun M => ?_)) | (refine Mem.Mem.callE (some 15) Try.func50 #[.agg #[.slice A0_0 l0_0.length c0_0, .slice A0_1 l0_1.length c0_1], .agg #[.int .i64 a1_0, .int .i64 a1_1, .int .i64 a1_2, .int .i64 a1_3]] (M := M) (h := fun M => (impl_isLogOf.calls k _ _ l0_0 _ _ l0_1 a1_0 a1_1 a1_2 a1_3 false _ (Kd.C_below HR0_0.out M.below) HC0_0.out (Kd.C_below HR0_1.out M.below) HC0_1.out A5.out).mono ?_); rintro e w20 ⟨rfl, hb⟩; refine ⟨_, rfl, ?_⟩; have M := M.call hb; clear hb))
  have M := M.drew
  refine start_ (n := 5) (S := fun w' => (w'.cell? ⟨gb9, 0, none⟩ = some (.slice Aa t217.length ca) ∧ w'.cell? ⟨gb9, 1, none⟩ = some (.slice Ab t220.length cb)) ∧ w'.cell? ⟨gb4, 0, none⟩ = some (.int .i64 a1_0) ∧ w'.cell? ⟨gb4, 1, none⟩ = some (.int .i64 a1_1) ∧ w'.cell? ⟨gb4, 2, none⟩ = some (.int .i64 a1_2) ∧ w'.cell? ⟨gb4, 3, none⟩ = some (.int .i64 a1_3)) (ds := [3]) #[false, false, false, false, false] (by kernel_rfl) rfl rfl ⟨M.two 0, M.four 5⟩ (fun hHeld => ?_)
  generalize World.drew _ = wd at M hHeld ⊢
  refine ta 0 17 hHeld (h := ?_)
  refine ta 1 18 hHeld (h := ?_)
  refine on 2 none (h := fun K hK => ?_)
  refine Mem.Mem.stoR 4 31 (.tmp 6) (.tmp 17) [.slice Aa t217.length ca, .slice Ab t220.length cb] (M := M) (h := fun w30 M => hK.out _ _ ⟨M.two 0, M.four 5⟩ (fun hHeld => ?_)); clear hK K
  refine la 3 none (h := fun K hK => ?_)
  refine Mem.Mem.stoR 3 32 (.tmp 7) (.tmp 18) [.int .i64 a1_0, .int .i64 a1_1, .int .i64 a1_2, .int .i64 a1_3] (M := M) (h := fun w31 M => hK.out _ _ ?_); clear hK K
  refine pu 4 8 (h := ?_)
  refine done_ (by kernel_rfl) ?_
  go_wp2
  refine bodyPost_ret (results_list (rs := [.cell 6 31, .cell 7 32, .tmp 8]) rfl (by simp) (.cell gb6 31 #[.slice Aa t217.length ca, .slice Ab t220.length cb] (0, 0) _ rfl (M.at_blk 4 rfl) Try.underlying31 rfl (by kernel_rfl) (.cell gb7 32 #[.int .i64 a1_0, .int .i64 a1_1, .int .i64 a1_2, .int .i64 a1_3] (0, 0) _ rfl (M.at_blk 3 rfl) Try.underlying32 rfl (by kernel_rfl) (.tmp .nil)))) rfl ?_
  exact ⟨_, _, zw, M.at_row 1 rfl, M.at_N 2 rfl, M.below⟩
 subst c6
 rw [if_pos rfl] at H
 replace H := Option.bind_eq_some_iff.mp H
 obtain ⟨t225, A70, H⟩ := H
 have A7 := Ak A70; clear A70
 have HC := Ak H
 clear H
 go_upto_region 5 with ((with_reducible refine Mem.gateW ?_); first | (refine Mem.Mem.ldE 6 31 (.tmp 3) hu31 (M := M) (h := fun M => ?_)) | (refine Mem.Mem.ldE 5 32 (.tmp 4) hu32 (M := M) (h := fun M => ?_)) | (refine Mem.Mem.callE (some 15) Try.func50 #[.agg #[.slice A0_0 l0_0.length c0_0, .slice A0_1 l0_1.length c0_1], .agg #[.int .i64 a1_0, .int .i64 a1_1, .int .i64 a1_2, .int .i64 a1_3]] (M := M) (h := fun M => (impl_isLogOf.calls k _ _ l0_0 _ _ l0_1 a1_0 a1_1 a1_2 a1_3 true _ (Kd.C_below HR0_0.out M.below) HC0_0.out (Kd.C_below HR0_1.out M.below) HC0_1.out A5.out).mono ?_); rintro e w20 ⟨rfl, hb⟩; refine ⟨_, rfl, ?_⟩; have M := M.call hb; clear hb) | (refine Mem.Mem.callE (some 21) Try.func28 #[.agg #[.int .i64 a1_0, .int .i64 a1_1, .int .i64 a1_2, .int .i64 a1_3], .slice A2 l2.length c2] (M := M) (h := fun M => (impl_LogWrites.calls k a1_0 a1_1 a1_2 a1_3 _ _ l2 t225 _ (Kd.C_below HR2.out M.below) HC2.out A7.out).mono ?_); rintro e w21 ⟨v226, rfl, ho0, hb⟩; refine ⟨_, rfl, ?_⟩; have M := M.V hb (Mem.frS ho0); clear hb ho0; obtain ⟨Ac, cc, ec⟩ := M.row_form 0 rfl; subst ec))
 have H := HC.out
 clear HC
 by_cases c8 : (t225.length : Int) = 0
 case pos =>
  rw [if_pos c8] at H
  have c8b := beq_iff_eq.mpr c8
  clear c8
  simp only [Option.some.injEq, Prod.mk.injEq] at H
  obtain ⟨rfl, rfl, rfl, rfl, rfl, rfl, rfl⟩ := H
  go_upto_region 6 with fail
  have M := M.drew
  refine start_ (n := 5) (S := fun w' => (w'.cell? ⟨gb9, 0, none⟩ = some (.slice Aa t217.length ca) ∧ w'.cell? ⟨gb9, 1, none⟩ = some (.slice Ab t220.length cb)) ∧ w'.cell? ⟨gb4, 0, none⟩ = some (.int .i64 a1_0) ∧ w'.cell? ⟨gb4, 1, none⟩ = some (.int .i64 a1_1) ∧ w'.cell? ⟨gb4, 2, none⟩ = some (.int .i64 a1_2) ∧ w'.cell? ⟨gb4, 3, none⟩ = some (.int .i64 a1_3)) (ds := [3]) #[false, false, false, false, false] (by kernel_rfl) rfl rfl ⟨M.two 1, M.four 6⟩ (fun hHeld => ?_)
  generalize World.drew _ = wd at M hHeld ⊢
  refine ta 0 25 hHeld (h := ?_)
  refine ta 1 26 hHeld (h := ?_)
  refine on 2 none (h := fun K hK => ?_)
  refine Mem.Mem.stoR 5 31 (.tmp 6) (.tmp 25) [.slice Aa t217.length ca, .slice Ab t220.length cb] (M := M) (h := fun w30 M => hK.out _ _ ⟨M.two 1, M.four 6⟩ (fun hHeld => ?_)); clear hK K
  refine la 3 none (h := fun K hK => ?_)
  refine Mem.Mem.stoR 4 32 (.tmp 7) (.tmp 26) [.int .i64 a1_0, .int .i64 a1_1, .int .i64 a1_2, .int .i64 a1_3] (M := M) (h := fun w31 M => hK.out _ _ ?_); clear hK K
  refine pu 4 8 (h := ?_)
  refine done_ (by kernel_rfl) ?_
  go_wp2
  refine bodyPost_ret (results_list (rs := [.cell 6 31, .cell 7 32, .tmp 8]) rfl (by simp) (.cell gb6 31 #[.slice Aa t217.length ca, .slice Ab t220.length cb] (0, 0) _ rfl (M.at_blk 5 rfl) Try.underlying31 rfl (by kernel_rfl) (.cell gb7 32 #[.int .i64 a1_0, .int .i64 a1_1, .int .i64 a1_2, .int .i64 a1_3] (0, 0) _ rfl (M.at_blk 4 rfl) Try.underlying32 rfl (by kernel_rfl) (.tmp .nil)))) rfl ?_
  exact ⟨_, _, zw, M.at_row 2 rfl, M.at_N 3 rfl, M.below⟩
 rw [if_neg c8] at H
 have c8b0 : ((t225.length : Int) == 0) = false := beq_eq_false_iff_ne.mpr c8
 have c8b2 : ¬ (t225 = []) := fun h_ => c8 (by rw [h_]; rfl)
 clear c8
 by_cases c41 : t220.length + t225.length < 4398046511104
 case neg =>
  rw [if_neg c41] at H
  exact absurd H (by simp)
 rw [if_pos c41] at H
 have LMc41 := Ak c41; clear c41
 generalize hy228 : t220 ++ t225 = y228 at H
 have Ny228 := Ak hy228; clear hy228
 replace H := Option.bind_eq_some_iff.mp H
 obtain ⟨⟨t231, t234⟩, A420, H⟩ := H
 have A42 := Ak A420; clear A420; (try dsimp only at H)
 simp only [Option.some.injEq, Prod.mk.injEq] at H
 obtain ⟨rfl, rfl, rfl, rfl, rfl, rfl, rfl⟩ := H
 have hz := M.look 1
 go_upto_region 8 with ((with_reducible refine Mem.gateW ?_); first | (refine Mem.Mem.appE 3 0 k96 (.tmp 28) (.tmp 29) 29 96 (.agg #[(.int .i64 0), (.slice none 0 0)]) 32 Try.underlying29 info96 (hl := by have := LMc41.out; omega) (M := M) (h := fun v229 w22 M => ?_); rw [Ny228.out] at M; clear hz; obtain ⟨Ad, cd, ed⟩ := M.formN 3 rfl; subst ed; have hz := M.look 1))
 have M := M.set 1 1 (.slice Ad y228.length cd) rfl
 clear hz
 generalize World.setCell _ _ _ = w23 at M ⊢
 have hz := M.look 6
 go_upto_region 9 with fail
 have M := (M.set 6 2 (.int .i64 (wrap64 (a1_2 + (t225.length : Int)))) rfl).drew
 clear hz
 refine start_ (n := 6) (S := fun w' => (w'.cell? ⟨gb9, 0, none⟩ = some (.slice Aa t217.length ca) ∧ w'.cell? ⟨gb9, 1, none⟩ = some (.slice Ad y228.length cd)) ∧ w'.cell? ⟨gb4, 0, none⟩ = some (.int .i64 a1_0) ∧ w'.cell? ⟨gb4, 1, none⟩ = some (.int .i64 a1_1) ∧ w'.cell? ⟨gb4, 2, none⟩ = some (.int .i64 (wrap64 (a1_2 + (t225.length : Int)))) ∧ w'.cell? ⟨gb4, 3, none⟩ = some (.int .i64 a1_3)) (ds := [4]) #[false, false, false, false, false, false] (by kernel_rfl) rfl rfl ⟨M.two 1, M.four 6⟩ (fun hHeld => ?_)
 generalize World.drew _ = wd at M hHeld ⊢
 refine ta 0 38 hHeld (h := ?_)
 refine ta 2 40 hHeld (h := ?_)
 refine on 1 (some 39) (h := fun K hK => ?_)
 refine Mem.Mem.callS Try.func51 #[.agg #[.slice Aa t217.length ca, .slice Ad y228.length cd]] (M := M) (h := fun M => (impl_Sync.calls k _ _ t217 _ _ y228 t231 t234 _ (M.C 2 rfl) (M.cap 2 rfl) (M.CN 3 rfl) (M.capN 3 rfl) A42.out).mono ?_)
 rintro e w24 ⟨v232, v235, rfl, ho0, ho1, hb⟩
 have M := M.V2 hb (Mem.frR ho0) (Mem.frS ho1)
 clear hb ho0 ho1
 obtain ⟨Ae, ce, ee⟩ := M.row_form 0 rfl
 subst ee
 obtain ⟨Af, cf, ef⟩ := M.row_form 1 rfl
 subst ef
 refine ⟨_, rfl, Mem.nx (some 39) hK ⟨M.two 3, M.four 8⟩ (fun hHeld => ?_)⟩; clear hK K
 refine on 3 none (h := fun K hK => ?_)
 refine Mem.Mem.stoR 7 31 (.tmp 6) (.tmp 39) [.slice Ae t231.length ce, .slice Af t234.length cf] (M := M) (h := fun w30 M => hK.out _ _ ⟨M.two 3, M.four 8⟩ (fun hHeld => ?_)); clear hK K
 refine la 4 none (h := fun K hK => ?_)
 refine Mem.Mem.stoR 6 32 (.tmp 7) (.tmp 40) [.int .i64 a1_0, .int .i64 a1_1, .int .i64 (wrap64 (a1_2 + (t225.length : Int))), .int .i64 a1_3] (M := M) (h := fun w31 M => hK.out _ _ ?_); clear hK K
 refine pu 5 8 (h := ?_)
 refine done_ (by kernel_rfl) ?_
 go_wp2
 refine bodyPost_ret (results_list (rs := [.cell 6 31, .cell 7 32, .tmp 8]) rfl (by simp) (.cell gb6 31 #[.slice Ae t231.length ce, .slice Af t234.length cf] (0, 0) _ rfl (M.at_blk 7 rfl) Try.underlying31 rfl (by kernel_rfl) (.cell gb7 32 #[.int .i64 a1_0, .int .i64 a1_1, .int .i64 (wrap64 (a1_2 + (t225.length : Int))), .int .i64 a1_3] (0, 0) _ rfl (M.at_blk 6 rfl) Try.underlying32 rfl (by kernel_rfl) (.tmp .nil)))) rfl ?_
 exact ⟨_, _, zw, M.at_row 0 rfl, M.at_row 1 rfl, M.below⟩

mutual
def impl_ReadSector.j0 : Nat → Int → Bool → List Int → List (S96) → Option (List Int × Bool)
 | 0, _, _, _, _ => none
 | k + 1, x1, x14, x230000, x230001 => if x14 = true then (some (([] : List Int), false)) else (impl_ReadSector.l0 k x1 (wrap64 ((x230001.length : Int) - 1)) x230000 x230001)
def impl_ReadSector.l0 : Nat → Int → Int → List Int → List (S96) → Option (List Int × Bool)
 | 0, _, _, _, _ => none
 | k + 1, x1, x6, x230000, x230001 => if x6 ≥ 0 then (if 0 ≤ x6 then (if x6 < (x230001.length : Int) then (if ((rd_T96 x230001 x6).f0) = x1 then ((slices_Clone_byte_byte.f ((rd_T96 x230001 x6).f1)).bind fun t234 => (some (t234, true))) else (impl_ReadSector.l0 k x1 (wrap64 (x6 - 1)) x230000 x230001)) else (none)) else (none)) else (if 0 ≤ (wrap64 (x1 * 64)) then (if (wrap64 (x1 * 64)) ≤ (wrap64 ((wrap64 (x1 + 1)) * 64)) then (if (wrap64 ((wrap64 (x1 + 1)) * 64)) ≤ (x230000.length : Int) then ((slices_Clone_byte_byte.f ((x230000.take ((wrap64 ((wrap64 (x1 + 1)) * 64)) : Int).toNat).drop ((wrap64 (x1 * 64)) : Int).toNat)).bind fun t238 => (some (t238, true))) else (none)) else (none)) else (none))
end
def impl_ReadSector.f (k : Nat) (l0_0 : List Int) (l0_1 : List (S96)) (a1 : Int) : Option (List Int × Bool) := (impl_Disk_isSector.f l0_0 a1).bind fun t230 => (if t230 = true then ((impl_DiskOk.f k l0_0 l0_1).bind fun t231 => (impl_ReadSector.j0 k a1 (!t231) l0_0 l0_1)) else (impl_ReadSector.j0 k a1 true l0_0 l0_1))
set_option maxHeartbeats 8000000 in
set_option maxRecDepth 100000 in
theorem impl_ReadSector.calls (k : Nat) (A0_0 : Option Addr) (c0_0 : Nat) (l0_0 : List Int) (A0_1 : Option Addr) (c0_1 : Nat) (l0_1 : List (S96)) (a1 : Int) (r1 : List Int) (r2 : Bool) (w : World) (hr0_0 : Kd.C (Kd.int .u8) w A0_0 l0_0.length l0_0) (hc0_0 : l0_0.length ≤ c0_0) (hr0_1 : Kd.C k96 w A0_1 l0_1.length l0_1) (hc0_1 : l0_1.length ≤ c0_1) (h : impl_ReadSector.f k l0_0 l0_1 a1 = some (r1, r2)) :
  Calls Try.prog 107 #[.agg #[.slice A0_0 l0_0.length c0_0, .slice A0_1 l0_1.length c0_1], .int .i64 a1] w fun e w' => ∃ v0_ : Value, e = .returned (.tuple #[v0_, .bool r2]) ∧ Kd.R (Kd.int .u8) 5 w' w.heap.size (fun _ => True) v0_ r1 ∧ Below w.heap.size w w' := by
 have hu31 := Try.underlying31
 have HR0_0 := Ak hr0_0
 have HC0_0 := Ak hc0_0
 clear hr0_0 hc0_0
 have HR0_1 := Ak hr0_1
 have HC0_1 := Ak hc0_1
 clear hr0_1 hc0_1
 have HB := Ak (Below.refl w.heap.size w)
 have H := h
 unfold impl_ReadSector.f at H
 clear h
 have HC3 := Ak H
 clear H
 go_enter Try.func107, Try.ntmps107
 go_upto_region 1 with (first | ((with_reducible refine gate_dst (N := 2) rfl ?_); refine box_event ?hg (N := 2) ?hd (cs := #[.slice A0_0 l0_0.length c0_0, .slice A0_1 l0_1.length c0_1]) (t := 31) ?hr ?_; (case hd => rfl); (case hg => rfl); (case hr => first | (go_simp; done) | (go_simp; rfl)); intro gb229 hg w4 hbox hb; have BK229 := Ak (hbox); have GW229 := Ak ((zb hg (bw HB.out))); have GE229 := Ak ((zb hg (bw HB.out))); replace HB := Ak (below_step (bw HB.out) hb); clear hb hbox hg))
 (try simp only [Act.put, sT, sZ, sS])
 go_cut [14] (fun v14 wc => ∃ (kq : Nat) (x14_2 : Bool), v14 = .bool x14_2 ∧ Aside0 (impl_ReadSector.j0 kq a1 x14_2 l0_0 l0_1 = some (r1, r2)) ∧ Aside0 (kq ≤ k) ∧ Aside0 (wc.heap[gb229]? = some (.cells #[(.slice A0_0 l0_0.length c0_0), (.slice A0_1 l0_1.length c0_1)] 31 (0, 0))) ∧ Aside0 (Below w.heap.size w wc))
 case first =>
  have H := HC3.out
  clear HC3
  replace H := Option.bind_eq_some_iff.mp H
  obtain ⟨t230, A50, H⟩ := H
  have A5 := Ak A50
  clear A50
  by_cases c6 : t230 = true
  ·subst c6
   rw [if_pos rfl] at H
   replace H := Option.bind_eq_some_iff.mp H
   obtain ⟨t231, A70, H⟩ := H
   have A7 := Ak A70
   clear A70
   have H' := Ak H
   clear H
   go_wp2_with (first | ((with_reducible refine gate_callee (f := 106) rfl ?_); refine goesL_ (some 8) rfl rfl Try.func106 (by kernel_rfl) rfl #[.pointer (some ⟨gb229, 0, none⟩), .int .i64 a1] rfl gm ?_; (with_reducible refine (impl_Disk_isSector.callsB gb229 A0_0 c0_0 l0_0 a1 true _ ?side1 A5.out).mono ?_); (case side1 => first | (go_simp; done) | exact (blk_cell (bq BK229.out) 0).trans rfl | (unfold World.cell?; skip; rw [BK229.out]; rfl)); rintro e w8 ⟨rfl, hb⟩; refine ⟨_, rfl, ?_⟩; replace BK229 := Ak (blk_below (bq BK229.out) hb); replace HB := Ak (below_step (bw1 HB.out GE229.out) hb); have hcz9_0 := zk0 BK229.out; have hcz9_1 := zk1 BK229.out; have hfz9_0 := blk_frozen BK229.out 0; have hfz9_1 := blk_frozen BK229.out 1) | (go_at_call 67; (with_reducible refine (impl_DiskOk.calls k _ _ l0_0 _ _ l0_1 t231 _ ?side1 ?side2 ?side3 ?side4 A7.out).mono ?_); (case side1 => exact zq (Kd.C_below HR0_0.out HB.out)); (case side2 => exact HC0_0.out); (case side3 => exact zq (Kd.C_below HR0_1.out HB.out)); (case side4 => exact HC0_1.out); rintro e w10 ⟨rfl, hb⟩; replace BK229 := Ak (blk_below (bq BK229.out) hb); replace HB := Ak (below_step (bw1 HB.out GE229.out) hb)))
   go_meet
   case rel => exact ⟨_, (!t231), (by first | rfl | (simp; done) | (simp [*]; done)), H', ⟨by first | omega | exact Nat.le_refl _⟩, ⟨bq BK229.out⟩, ⟨bw1 HB.out GE229.out⟩⟩
  ·replace c6 := Bool.eq_false_iff.mpr c6
   subst c6
   rw [if_neg (show ¬ (false = true) by decide)] at H
   have H' := Ak H
   clear H
   go_wp2_with (first | ((with_reducible refine gate_callee (f := 106) rfl ?_); refine goesL_ (some 8) rfl rfl Try.func106 (by kernel_rfl) rfl #[.pointer (some ⟨gb229, 0, none⟩), .int .i64 a1] rfl gm ?_; (with_reducible refine (impl_Disk_isSector.callsB gb229 A0_0 c0_0 l0_0 a1 false _ ?side1 A5.out).mono ?_); (case side1 => first | (go_simp; done) | exact (blk_cell (bq BK229.out) 0).trans rfl | (unfold World.cell?; skip; rw [BK229.out]; rfl)); rintro e w11 ⟨rfl, hb⟩; refine ⟨_, rfl, ?_⟩; replace BK229 := Ak (blk_below (bq BK229.out) hb); replace HB := Ak (below_step (bw1 HB.out GE229.out) hb)))
   go_meet
   case rel => exact ⟨_, (true), (by first | rfl | (simp; done) | (simp [*]; done)), H', ⟨by first | omega | exact Nat.le_refl _⟩, ⟨bq BK229.out⟩, ⟨bw1 HB.out GE229.out⟩⟩
 case rest =>
  clear HC3
  obtain ⟨kq, x14_2, rfl, HA, HJ2, BK229, HB⟩ := hcut
  cases kq with
  | zero => exact absurd HA.out (by simp [impl_ReadSector.j0])
  | succ kj2 =>
   have H := HA.out
   clear HA
   simp only [impl_ReadSector.j0] at H
   by_cases c12 : x14_2 = true
   ·subst c12
    rw [if_pos rfl] at H
    simp only [Option.some.injEq, Prod.mk.injEq] at H
    obtain ⟨rfl, rfl⟩ := H
    go_wp2
    go_ret2
    exact ⟨_, zw, by first | exact Kd.R_nil _ _ _ _ _ | exact Kd.N_nil _ _ _ _ _ | exact Kd.V_nil _ _ _ _ _ | exact Kd.Q_nil _ _ _ _ _ | exact Kd.S_nil _ _ _ _ _, bw1 HB.out GE229.out⟩
   ·replace c12 := Bool.eq_false_iff.mpr c12
    subst c12
    rw [if_neg (show ¬ (false = true) by decide)] at H
    have H' := Ak H
    clear H
    have hcz13_0 : wc.cell? ⟨gb229, 0, none⟩ = some (.slice A0_0 l0_0.length c0_0) := zk0 BK229.out
    have hcz13_1 : wc.cell? ⟨gb229, 1, none⟩ = some (.slice A0_1 l0_1.length c0_1) := zk1 BK229.out
    have hfz13_0 := blk_frozen BK229.out 0
    have hfz13_1 := blk_frozen BK229.out 1
    go_wp2
    go_loopg [6] kj2 (fun kq v6 w' => ∃ (x6_2 : Int), v6 = .int .i64 x6_2 ∧ Aside0 (impl_ReadSector.l0 kq a1 x6_2 l0_0 l0_1 = some (r1, r2)) ∧ Aside0 (kq ≤ kj2) ∧ Aside0 (w'.heap[gb229]? = some (.cells #[(.slice A0_0 l0_0.length c0_0), (.slice A0_1 l0_1.length c0_1)] 31 (0, 0))) ∧ Aside0 (Below w.heap.size w w'))
    case atStart => exact ⟨(wrap64 ((l0_1.length : Int) - 1)), (by first | rfl | (simp; done) | (simp [*]; done)), H', ⟨Nat.le_refl _⟩, ⟨bq BK229.out⟩, ⟨bw1 HB.out GE229.out⟩⟩
    case round =>
     clear H'
     obtain ⟨x6_2, rfl, HA, HK2, BK229, HB⟩ := hrel
     cases gk with
     | zero => exact absurd HA.out (by simp [impl_ReadSector.l0])
     | succ k2 =>
      have H := HA.out
      clear HA
      simp only [impl_ReadSector.l0] at H
      by_cases c14 : x6_2 ≥ 0
      ·rw [if_pos c14] at H
       have c14b0 : decide (0 ≤ x6_2) = true := decide_eq_true c14
       clear c14
       by_cases c15 : 0 ≤ x6_2
       ·rw [if_pos c15] at H
        have c15b0 := decide_eq_true c15
        clear c15
        by_cases c16 : x6_2 < (l0_1.length : Int)
        ·rw [if_pos c16] at H
         have c16b0 := decide_eq_true c16
         clear c16
         by_cases c17 : ((rd_T96 l0_1 x6_2).f0) = a1
         ·rw [if_pos c17] at H
          have c17b0 : (((rd_T96 l0_1 x6_2).f0) == a1) = true := beq_iff_eq.mpr c17
          have c17b1 : (((rd_T96 l0_1 x6_2).f0) != a1) = false := bne_eq_false_iff_eq.mpr c17
          clear c17
          replace H := Option.bind_eq_some_iff.mp H
          obtain ⟨t234, A180, H⟩ := H
          have A18 := Ak A180
          clear A180
          simp only [Option.some.injEq, Prod.mk.injEq] at H
          obtain ⟨rfl, rfl⟩ := H
          have hcz19_0 : wr.cell? ⟨gb229, 0, none⟩ = some (.slice A0_0 l0_0.length c0_0) := zk0 BK229.out
          have hcz19_1 : wr.cell? ⟨gb229, 1, none⟩ = some (.slice A0_1 l0_1.length c0_1) := zk1 BK229.out
          have hfz19_0 := blk_frozen BK229.out 0
          have hfz19_1 := blk_frozen BK229.out 1
          have p232 : 0 ≤ (x6_2 : Int) := of_decide_eq_true (by first | (with_reducible assumption) | assumption)
          have q232 : x6_2 < (l0_1.length : Int) := of_decide_eq_true (by first | (with_reducible assumption) | assumption)
          obtain ⟨ad232, A232_1, c232_1, e232, hx232_0, hx232_1, hl232_1, hi232_1⟩ := at_T96 HR0_1.out x6_2 p232 q232
          cases e232
          replace hx232_0 := (HB.out.cell (World.block_lt_of_cell? w _ hx232_0)).trans hx232_0
          replace hx232_1 := (HB.out.cell (World.block_lt_of_cell? w _ hx232_1)).trans hx232_1
          have HR232_1 := Ak hi232_1
          have HC232_1 := Ak hl232_1
          clear hi232_1 hl232_1
          replace p232 := eq_true p232
          replace q232 := eq_true q232
          have p233 : 0 ≤ (x6_2 : Int) := of_decide_eq_true (by first | (with_reducible assumption) | assumption)
          have q233 : x6_2 < (l0_1.length : Int) := of_decide_eq_true (by first | (with_reducible assumption) | assumption)
          obtain ⟨ad233, A233_1, c233_1, e233, hx233_0, hx233_1, hl233_1, hi233_1⟩ := at_T96 HR0_1.out x6_2 p233 q233
          obtain rfl : ad232 = ad233 := (by injection e233)
          replace hx233_0 := (HB.out.cell (World.block_lt_of_cell? w _ hx233_0)).trans hx233_0
          replace hx233_1 := (HB.out.cell (World.block_lt_of_cell? w _ hx233_1)).trans hx233_1
          have HR233_1 := Ak hi233_1
          have HC233_1 := Ak hl233_1
          clear hi233_1 hl233_1
          replace p233 := eq_true p233
          replace q233 := eq_true q233
          have ea_ := Option.some.inj (hx232_1.symm.trans hx233_1)
          injection ea_ with ea_ en_ ec_
          subst ea_
          subst ec_
          clear en_
          go_wp2_with (first | ((with_reducible refine gate_callee (f := 100) rfl ?_); refine goesL_ (some 37) rfl rfl Try.func100 (by kernel_rfl) rfl #[.slice A232_1 ((rd_T96 l0_1 x6_2).f1).length c232_1] rfl gm ?_; (with_reducible refine (slices_Clone_byte_byte.calls _ _ ((rd_T96 l0_1 x6_2).f1) t234 _ ?side1 ?side2 A18.out).mono ?_); (case side1 => exact zq (Kd.C_below HR233_1.out HB.out)); (case side2 => exact HC233_1.out); rintro e w20 ⟨v235, rfl, ho0, hb⟩; refine ⟨_, rfl, ?_⟩; have HO236 := Ak (Kd.R_lower ho0 (below_size (bw1 HB.out GE229.out))); replace BK229 := Ak (blk_below (bq BK229.out) hb); replace HB := Ak (below_step (bw1 HB.out GE229.out) hb)))
          go_ret2
          exact ⟨_, zw, rq HO236.out, bw1 HB.out GE229.out⟩
         ·rw [if_neg c17] at H
          have c17b0 : (((rd_T96 l0_1 x6_2).f0) == a1) = false := beq_eq_false_iff_ne.mpr c17
          have c17b1 : (((rd_T96 l0_1 x6_2).f0) != a1) = true := bne_iff_ne.mpr c17
          have H' := Ak H
          clear H
          have hcz21_0 : wr.cell? ⟨gb229, 0, none⟩ = some (.slice A0_0 l0_0.length c0_0) := zk0 BK229.out
          have hcz21_1 : wr.cell? ⟨gb229, 1, none⟩ = some (.slice A0_1 l0_1.length c0_1) := zk1 BK229.out
          have hfz21_0 := blk_frozen BK229.out 0
          have hfz21_1 := blk_frozen BK229.out 1
          have p232 : 0 ≤ (x6_2 : Int) := of_decide_eq_true (by first | (with_reducible assumption) | assumption)
          have q232 : x6_2 < (l0_1.length : Int) := of_decide_eq_true (by first | (with_reducible assumption) | assumption)
          obtain ⟨ad232, A232_1, c232_1, e232, hx232_0, hx232_1, hl232_1, hi232_1⟩ := at_T96 HR0_1.out x6_2 p232 q232
          cases e232
          replace hx232_0 := (HB.out.cell (World.block_lt_of_cell? w _ hx232_0)).trans hx232_0
          replace hx232_1 := (HB.out.cell (World.block_lt_of_cell? w _ hx232_1)).trans hx232_1
          have HR232_1 := Ak hi232_1
          have HC232_1 := Ak hl232_1
          clear hi232_1 hl232_1
          replace p232 := eq_true p232
          replace q232 := eq_true q232
          go_wp2
          go_roundg k2
          case measure => have := HJ2.out; have := HK2.out; omega
          case rel => exact ⟨(wrap64 (x6_2 - 1)), (by first | rfl | (simp; done) | (simp [*]; done)), H', ⟨by have := HJ2.out; have := HK2.out; omega⟩, ⟨bq BK229.out⟩, ⟨bw1 HB.out GE229.out⟩⟩
        ·rw [if_neg c16] at H
         exact absurd H (by simp)
       ·rw [if_neg c15] at H
        exact absurd H (by simp)
      ·rw [if_neg c14] at H
       have c14b0 : decide (0 ≤ x6_2) = false := decide_eq_false c14
       clear c14
       obtain ⟨ji22, hji22⟩ : ∃ j_ : Int, (wrap64 (a1 * 64)) = j_ := ⟨_, rfl⟩
       replace H : (if 0 ≤ (ji22) then (if (ji22) ≤ (wrap64 ((wrap64 (a1 + 1)) * 64)) then (if (wrap64 ((wrap64 (a1 + 1)) * 64)) ≤ (l0_0.length : Int) then ((slices_Clone_byte_byte.f ((l0_0.take ((wrap64 ((wrap64 (a1 + 1)) * 64)) : Int).toNat).drop ((ji22) : Int).toNat)).bind fun t238 => (some (t238, true))) else (none)) else (none)) else (none)) = some (r1, r2) := by first | (rw [hji22] at H; exact H) | (simp only [hji22] at H ⊢; exact H)
       have hji22w : (IntKind.i64.wrap (a1 * 64)) = ji22 := (i64_w _).trans hji22
       by_cases c23 : 0 ≤ (ji22)
       ·rw [if_pos c23] at H
        have c23b0 := eq_true c23
        have c23b1 := decide_eq_true c23
        clear c23
        by_cases c24 : (ji22) ≤ (wrap64 ((wrap64 (a1 + 1)) * 64))
        ·rw [if_pos c24] at H
         have c24b0 := eq_true c24
         have c24b1 := decide_eq_true c24
         by_cases c25 : (wrap64 ((wrap64 (a1 + 1)) * 64)) ≤ (l0_0.length : Int)
         ·rw [if_pos c25] at H
          have c25b0 := eq_true c25
          have c25b1 := decide_eq_true c25
          replace H := Option.bind_eq_some_iff.mp H
          obtain ⟨t238, A260, H⟩ := H
          have A26 := Ak A260
          clear A260
          simp only [Option.some.injEq, Prod.mk.injEq] at H
          obtain ⟨rfl, rfl⟩ := H
          have hcz27_0 : wr.cell? ⟨gb229, 0, none⟩ = some (.slice A0_0 l0_0.length c0_0) := zk0 BK229.out
          have hcz27_1 : wr.cell? ⟨gb229, 1, none⟩ = some (.slice A0_1 l0_1.length c0_1) := zk1 BK229.out
          have hfz27_0 := blk_frozen BK229.out 0
          have hfz27_1 := blk_frozen BK229.out 1
          obtain ⟨i028, hi028, _, hsz28, _⟩ := info_parts info5
          obtain ⟨A28, hcut28, hA28, hC28⟩ := print_mid_of (P := Try.prog) (Value.int .u8) 0 22 5 .i64 .i64 Try.underlying22 hi028 hsz28 A0_0 c0_0 l0_0 (ji22) (wrap64 ((wrap64 (a1 + 1)) * 64)) (of_decide_eq_true (by first | (with_reducible assumption) | assumption)) (by first | omega | exact of_decide_eq_true (by first | (with_reducible assumption) | assumption)) (of_decide_eq_true (by first | (with_reducible assumption) | assumption)) HC0_0.out
          have HR237 := Ak (Kd.C_of_reads (h1 := fun _ => rfl) (hA28 _ (Kd.reads_of_C HR0_0.out)))
          have HC237 := Ak hC28
          clear hA28 hC28 hi028 hsz28
          go_wp2_with (first | ((with_reducible refine gate_callee (f := 100) rfl ?_); refine goesL_ (some 46) rfl rfl Try.func100 (by kernel_rfl) rfl #[.slice A28 ((l0_0.take ((wrap64 ((wrap64 (a1 + 1)) * 64)) : Int).toNat).drop ((ji22) : Int).toNat).length (c0_0 - (ji22).toNat)] rfl (by (try simp only [List.map_toArray, List.map_cons, List.map_nil]); first | done | (rw [show ((l0_0.take ((wrap64 ((wrap64 (a1 + 1)) * 64)) : Int).toNat).drop ((ji22) : Int).toNat).length = ((wrap64 ((wrap64 (a1 + 1)) * 64)).toNat - (ji22).toNat) from (by rw [List.length_drop, List.length_take]; have h_ : ((wrap64 ((wrap64 (a1 + 1)) * 64)) : Int) ≤ (l0_0.length : Int) := of_decide_eq_true (by first | (with_reducible assumption) | assumption); omega)] <;> rfl) | (simp only [hji22]; rfl) | rfl | (simp only [List.length_drop, List.length_take]; rfl)) ?_; (with_reducible refine (slices_Clone_byte_byte.calls _ _ ((l0_0.take ((wrap64 ((wrap64 (a1 + 1)) * 64)) : Int).toNat).drop ((ji22) : Int).toNat) t238 _ ?side1 ?side2 A26.out).mono ?_); (case side1 => exact zq (Kd.C_below HR237.out HB.out)); (case side2 => exact HC237.out); rintro e w29 ⟨v239, rfl, ho0, hb⟩; refine ⟨_, rfl, ?_⟩; have HO240 := Ak (Kd.R_lower ho0 (below_size (bw1 HB.out GE229.out))); replace BK229 := Ak (blk_below (bq BK229.out) hb); replace HB := Ak (below_step (bw1 HB.out GE229.out) hb)))
          go_ret2
          exact ⟨_, by first | rfl | (simp [errW_none, errW_some] <;> rfl) | (simp only [← hji22]; first | rfl | (simp [errW_none, errW_some] <;> rfl)) | (simp [*, errW_none, errW_some] <;> rfl), rq HO240.out, bw1 HB.out GE229.out⟩
         ·rw [if_neg c25] at H
          exact absurd H (by simp)
        ·rw [if_neg c24] at H
         exact absurd H (by simp)
       ·rw [if_neg c23] at H
        exact absurd H (by simp)

def impl_getLow.f (l0 : List Int) (a1 : Int) : Option (Int) := if 0 ≤ a1 then (if a1 < (l0.length : Int) then (if 0 ≤ (wrap64 (a1 + 1)) then (if (wrap64 (a1 + 1)) < (l0.length : Int) then (if 0 ≤ (wrap64 (a1 + 2)) then (if (wrap64 (a1 + 2)) < (l0.length : Int) then (if 0 ≤ (wrap64 (a1 + 3)) then (if (wrap64 (a1 + 3)) < (l0.length : Int) then (some (Go.bits .or .i64 (Go.bits .or .i64 (Go.bits .or .i64 (wrap64 (rd l0 a1)) (wrap64 ((wrap64 (rd l0 (wrap64 (a1 + 1)))) * 256))) (wrap64 ((wrap64 (rd l0 (wrap64 (a1 + 2)))) * 65536))) (wrap64 ((wrap64 (rd l0 (wrap64 (a1 + 3)))) * 16777216)))) else (none)) else (none)) else (none)) else (none)) else (none)) else (none)) else (none)) else (none)
set_option maxHeartbeats 8000000 in
set_option maxRecDepth 100000 in
theorem impl_getLow.calls (A0 : Option Addr) (c0 : Nat) (l0 : List Int) (a1 : Int) (r : Int) (w : World) (hr0 : Kd.C (Kd.int .u8) w A0 l0.length l0) (hc0 : l0.length ≤ c0) (h : impl_getLow.f l0 a1 = some r) :
  Calls Try.prog 130 #[.slice A0 l0.length c0, .int .i64 a1] w fun e w' => e = .returned (.int .i64 r) ∧ Drawn0 w w' := by
 have HR0 := Ak hr0
 have HC0 := Ak hc0
 clear hr0 hc0
 have H := h
 unfold impl_getLow.f at H
 clear h
 by_cases c3 : 0 ≤ a1
 ·rw [if_pos c3] at H
  have c3b0 := decide_eq_true c3
  clear c3
  by_cases c4 : a1 < (l0.length : Int)
  ·rw [if_pos c4] at H
   have c4b0 := decide_eq_true c4
   clear c4
   obtain ⟨ji5, hji5⟩ : ∃ j_ : Int, (wrap64 (a1 + 1)) = j_ := ⟨_, rfl⟩
   replace H : (if 0 ≤ (ji5) then (if (ji5) < (l0.length : Int) then (if 0 ≤ (wrap64 (a1 + 2)) then (if (wrap64 (a1 + 2)) < (l0.length : Int) then (if 0 ≤ (wrap64 (a1 + 3)) then (if (wrap64 (a1 + 3)) < (l0.length : Int) then (some (Go.bits .or .i64 (Go.bits .or .i64 (Go.bits .or .i64 (wrap64 (rd l0 a1)) (wrap64 ((wrap64 (rd l0 (ji5))) * 256))) (wrap64 ((wrap64 (rd l0 (wrap64 (a1 + 2)))) * 65536))) (wrap64 ((wrap64 (rd l0 (wrap64 (a1 + 3)))) * 16777216)))) else (none)) else (none)) else (none)) else (none)) else (none)) else (none)) = some r := by first | (rw [hji5] at H; exact H) | (simp only [hji5] at H ⊢; exact H)
   have hji5w : (IntKind.i64.wrap (a1 + 1)) = ji5 := (i64_w _).trans hji5
   by_cases c6 : 0 ≤ (ji5)
   ·rw [if_pos c6] at H
    have c6b0 := decide_eq_true c6
    clear c6
    by_cases c7 : (ji5) < (l0.length : Int)
    ·rw [if_pos c7] at H
     have c7b0 := decide_eq_true c7
     clear c7
     obtain ⟨ji8, hji8⟩ : ∃ j_ : Int, (wrap64 (a1 + 2)) = j_ := ⟨_, rfl⟩
     replace H : (if 0 ≤ (ji8) then (if (ji8) < (l0.length : Int) then (if 0 ≤ (wrap64 (a1 + 3)) then (if (wrap64 (a1 + 3)) < (l0.length : Int) then (some (Go.bits .or .i64 (Go.bits .or .i64 (Go.bits .or .i64 (wrap64 (rd l0 a1)) (wrap64 ((wrap64 (rd l0 (ji5))) * 256))) (wrap64 ((wrap64 (rd l0 (ji8))) * 65536))) (wrap64 ((wrap64 (rd l0 (wrap64 (a1 + 3)))) * 16777216)))) else (none)) else (none)) else (none)) else (none)) = some r := by first | (rw [hji8] at H; exact H) | (simp only [hji8] at H ⊢; exact H)
     have hji8w : (IntKind.i64.wrap (a1 + 2)) = ji8 := (i64_w _).trans hji8
     by_cases c9 : 0 ≤ (ji8)
     ·rw [if_pos c9] at H
      have c9b0 := decide_eq_true c9
      clear c9
      by_cases c10 : (ji8) < (l0.length : Int)
      ·rw [if_pos c10] at H
       have c10b0 := decide_eq_true c10
       clear c10
       obtain ⟨ji11, hji11⟩ : ∃ j_ : Int, (wrap64 (a1 + 3)) = j_ := ⟨_, rfl⟩
       replace H : (if 0 ≤ (ji11) then (if (ji11) < (l0.length : Int) then (some (Go.bits .or .i64 (Go.bits .or .i64 (Go.bits .or .i64 (wrap64 (rd l0 a1)) (wrap64 ((wrap64 (rd l0 (ji5))) * 256))) (wrap64 ((wrap64 (rd l0 (ji8))) * 65536))) (wrap64 ((wrap64 (rd l0 (ji11))) * 16777216)))) else (none)) else (none)) = some r := by first | (rw [hji11] at H; exact H) | (simp only [hji11] at H ⊢; exact H)
       have hji11w : (IntKind.i64.wrap (a1 + 3)) = ji11 := (i64_w _).trans hji11
       by_cases c12 : 0 ≤ (ji11)
       ·rw [if_pos c12] at H
        have c12b0 := decide_eq_true c12
        clear c12
        by_cases c13 : (ji11) < (l0.length : Int)
        ·rw [if_pos c13] at H
         have c13b0 := decide_eq_true c13
         clear c13
         obtain rfl := Option.some.inj H
         have p241 : 0 ≤ (a1 : Int) := of_decide_eq_true (by first | (with_reducible assumption) | assumption)
         have q241 : a1 < (l0.length : Int) := of_decide_eq_true (by first | (with_reducible assumption) | assumption)
         obtain ⟨ad241, e241, hx241_0⟩ := Kd.at_int HR0.out a1 p241 q241
         cases e241
         replace p241 := eq_true p241
         replace q241 := eq_true q241
         have p242 : 0 ≤ ((ji5) : Int) := of_decide_eq_true (by first | (with_reducible assumption) | assumption)
         have q242 : (ji5) < (l0.length : Int) := of_decide_eq_true (by first | (with_reducible assumption) | assumption)
         obtain ⟨ad242, e242, hx242_0⟩ := Kd.at_int HR0.out (ji5) p242 q242
         obtain rfl : ad241 = ad242 := (by injection e242)
         replace p242 := eq_true p242
         replace q242 := eq_true q242
         have p243 : 0 ≤ ((ji8) : Int) := of_decide_eq_true (by first | (with_reducible assumption) | assumption)
         have q243 : (ji8) < (l0.length : Int) := of_decide_eq_true (by first | (with_reducible assumption) | assumption)
         obtain ⟨ad243, e243, hx243_0⟩ := Kd.at_int HR0.out (ji8) p243 q243
         obtain rfl : ad241 = ad243 := (by injection e243)
         replace p243 := eq_true p243
         replace q243 := eq_true q243
         have p244 : 0 ≤ ((ji11) : Int) := of_decide_eq_true (by first | (with_reducible assumption) | assumption)
         have q244 : (ji11) < (l0.length : Int) := of_decide_eq_true (by first | (with_reducible assumption) | assumption)
         obtain ⟨ad244, e244, hx244_0⟩ := Kd.at_int HR0.out (ji11) p244 q244
         obtain rfl : ad241 = ad244 := (by injection e244)
         replace p244 := eq_true p244
         replace q244 := eq_true q244
         go_enter Try.func130, Try.ntmps130
         go_wp2
         repeat (go_quiet (fail); try go_wp2)
         go_ret
         exact ⟨by first | rfl | (simp; done) | (simp only [← hji5, ← hji8, ← hji11] <;> (first | rfl | simp)) | (simp [*]; done), by repeat (first | exact Drawn0.refl _ | apply Drawn0.step)⟩
        ·rw [if_neg c13] at H
         exact absurd H (by simp)
       ·rw [if_neg c12] at H
        exact absurd H (by simp)
      ·rw [if_neg c10] at H
       exact absurd H (by simp)
     ·rw [if_neg c9] at H
      exact absurd H (by simp)
    ·rw [if_neg c7] at H
     exact absurd H (by simp)
   ·rw [if_neg c6] at H
    exact absurd H (by simp)
  ·rw [if_neg c4] at H
   exact absurd H (by simp)
 ·rw [if_neg c3] at H
  exact absurd H (by simp)

def slices_Equal_byte_byte.l0 : Nat → List Int → List Int → Int → Int → Option (Bool)
 | 0, _, _, _, _ => none
 | k + 1, x0, x1, x12, x13 => if x13 < x12 then (if 0 ≤ x13 then (if x13 < (x0.length : Int) then (if x13 < (x1.length : Int) then (if (rd x0 x13) = (rd x1 x13) then (slices_Equal_byte_byte.l0 k x0 x1 x12 (wrap64 (x13 + 1))) else (some false)) else (none)) else (none)) else (none)) else (some true)
def slices_Equal_byte_byte.f (k : Nat) (l0 : List Int) (l1 : List Int) : Option (Bool) := if (l0.length : Int) = (l1.length : Int) then (slices_Equal_byte_byte.l0 k l0 l1 (l0.length : Int) 0) else (some false)
set_option maxHeartbeats 8000000 in
set_option maxRecDepth 100000 in
theorem slices_Equal_byte_byte.calls (k : Nat) (A0 : Option Addr) (c0 : Nat) (l0 : List Int) (A1 : Option Addr) (c1 : Nat) (l1 : List Int) (r : Bool) (w : World) (hr0 : Kd.C (Kd.int .u8) w A0 l0.length l0) (hc0 : l0.length ≤ c0) (hr1 : Kd.C (Kd.int .u8) w A1 l1.length l1) (hc1 : l1.length ≤ c1) (h : slices_Equal_byte_byte.f k l0 l1 = some r) :
  Calls Try.prog 131 #[.slice A0 l0.length c0, .slice A1 l1.length c1] w fun e w' => e = .returned (.bool r) ∧ Drawn0 w w' := by
 have HR0 := Ak hr0
 have HC0 := Ak hc0
 clear hr0 hc0
 have HR1 := Ak hr1
 have HC1 := Ak hc1
 clear hr1 hc1
 have H := h
 unfold slices_Equal_byte_byte.f at H
 clear h
 by_cases c3 : (l0.length : Int) = (l1.length : Int)
 ·rw [if_pos c3] at H
  have c3b0 : ((l0.length : Int) == (l1.length : Int)) = true := beq_iff_eq.mpr c3
  have c3b1 : ((l0.length : Int) != (l1.length : Int)) = false := bne_eq_false_iff_eq.mpr c3
  have c3b2 : (l0.length == l1.length) = true := by first | simpa using c3 | (simp at c3 ⊢; omega)
  clear c3
  have H' := Ak H
  clear H
  go_enter Try.func131, Try.ntmps131
  go_wp2
  repeat (go_quiet (fail); try go_wp2)
  go_loopg [13] k (fun kq v13 w' => ∃ (x13_1 : Int), v13 = .int .i64 x13_1 ∧ Aside0 (slices_Equal_byte_byte.l0 kq l0 l1 (l0.length : Int) x13_1 = some r) ∧ Aside0 (kq ≤ k) ∧ Drawn0 w w')
  case atStart => exact ⟨(0), (by first | rfl | (simp; done) | (simp [*]; done)), H', ⟨Nat.le_refl _⟩, by repeat (first | exact Drawn0.refl _ | apply Drawn0.step)⟩
  case round =>
   clear H'
   try clear c3b0
   try clear c3b1
   try clear c3b2
   obtain ⟨x13_1, rfl, HA, HK1, ⟨m1, rfl⟩⟩ := hrel
   cases gk with
   | zero => exact absurd HA.out (by simp [slices_Equal_byte_byte.l0])
   | succ k1 =>
    have H := HA.out
    clear HA
    simp only [slices_Equal_byte_byte.l0] at H
    by_cases c4 : x13_1 < (l0.length : Int)
    ·rw [if_pos c4] at H
     have c4b0 := decide_eq_true c4
     clear c4
     by_cases c5 : 0 ≤ x13_1
     ·rw [if_pos c5] at H
      have c5b0 := decide_eq_true c5
      clear c5
      by_cases c6 : x13_1 < (l0.length : Int)
      ·rw [if_pos c6] at H
       have c6b0 := decide_eq_true c6
       clear c6
       by_cases c7 : x13_1 < (l1.length : Int)
       ·rw [if_pos c7] at H
        have c7b0 := decide_eq_true c7
        clear c7
        by_cases c8 : (rd l0 x13_1) = (rd l1 x13_1)
        ·rw [if_pos c8] at H
         have c8b0 : ((rd l0 x13_1) == (rd l1 x13_1)) = true := beq_iff_eq.mpr c8
         have c8b1 : ((rd l0 x13_1) != (rd l1 x13_1)) = false := bne_eq_false_iff_eq.mpr c8
         clear c8
         have H' := Ak H
         clear H
         have p245 : 0 ≤ (x13_1 : Int) := of_decide_eq_true (by first | (with_reducible assumption) | assumption)
         have q245 : x13_1 < (l0.length : Int) := of_decide_eq_true (by first | (with_reducible assumption) | assumption)
         obtain ⟨ad245, e245, hx245_0⟩ := Kd.at_int HR0.out x13_1 p245 q245
         cases e245
         replace p245 := eq_true p245
         replace q245 := eq_true q245
         have p246 : 0 ≤ (x13_1 : Int) := of_decide_eq_true (by first | (with_reducible assumption) | assumption)
         have q246 : x13_1 < (l1.length : Int) := of_decide_eq_true (by first | (with_reducible assumption) | assumption)
         obtain ⟨ad246, e246, hx246_0⟩ := Kd.at_int HR1.out x13_1 p246 q246
         cases e246
         replace p246 := eq_true p246
         replace q246 := eq_true q246
         go_wp2
         repeat (go_quiet (fail); try go_wp2)
         go_roundg k1
         case measure => have := HK1.out; omega
         case rel => exact ⟨(wrap64 (x13_1 + 1)), (by first | rfl | (simp; done) | (simp [*]; done)), H', ⟨by have := HK1.out; omega⟩, by repeat (first | exact Drawn0.refl _ | apply Drawn0.step)⟩
        ·rw [if_neg c8] at H
         have c8b0 : ((rd l0 x13_1) == (rd l1 x13_1)) = false := beq_eq_false_iff_ne.mpr c8
         have c8b1 : ((rd l0 x13_1) != (rd l1 x13_1)) = true := bne_iff_ne.mpr c8
         obtain rfl := Option.some.inj H
         have p245 : 0 ≤ (x13_1 : Int) := of_decide_eq_true (by first | (with_reducible assumption) | assumption)
         have q245 : x13_1 < (l0.length : Int) := of_decide_eq_true (by first | (with_reducible assumption) | assumption)
         obtain ⟨ad245, e245, hx245_0⟩ := Kd.at_int HR0.out x13_1 p245 q245
         cases e245
         replace p245 := eq_true p245
         replace q245 := eq_true q245
         have p246 : 0 ≤ (x13_1 : Int) := of_decide_eq_true (by first | (with_reducible assumption) | assumption)
         have q246 : x13_1 < (l1.length : Int) := of_decide_eq_true (by first | (with_reducible assumption) | assumption)
         obtain ⟨ad246, e246, hx246_0⟩ := Kd.at_int HR1.out x13_1 p246 q246
         cases e246
         replace p246 := eq_true p246
         replace q246 := eq_true q246
         go_wp2
         repeat (go_quiet (fail); try go_wp2)
         go_ret
         exact ⟨by first | rfl | (simp; done) | (simp [*]; done), by repeat (first | exact Drawn0.refl _ | apply Drawn0.step)⟩
       ·rw [if_neg c7] at H
        exact absurd H (by simp)
      ·rw [if_neg c6] at H
       exact absurd H (by simp)
     ·rw [if_neg c5] at H
      exact absurd H (by simp)
    ·rw [if_neg c4] at H
     have c4b0 := decide_eq_false c4
     clear c4
     obtain rfl := Option.some.inj H
     go_wp2
     repeat (go_quiet (fail); try go_wp2)
     go_ret
     exact ⟨by first | rfl | (simp; done) | (simp [*]; done), by repeat (first | exact Drawn0.refl _ | apply Drawn0.step)⟩
 ·rw [if_neg c3] at H
  have c3b0 : ((l0.length : Int) == (l1.length : Int)) = false := beq_eq_false_iff_ne.mpr c3
  have c3b1 : ((l0.length : Int) != (l1.length : Int)) = true := bne_iff_ne.mpr c3
  have c3b2 : (l0.length == l1.length) = false := by first | simpa using c3 | (simp at c3 ⊢; omega)
  obtain rfl := Option.some.inj H
  go_enter Try.func131, Try.ntmps131
  go_wp2
  repeat (go_quiet (fail); try go_wp2)
  go_ret
  exact ⟨by first | rfl | (simp; done) | (simp [*]; done), by repeat (first | exact Drawn0.refl _ | apply Drawn0.step)⟩

open Go.Proofs.Ytgmnphckgicadaa.View in
/-- The piece behind the first 16 bytes. -/
def impl_sectorOf.piece (x0 : List Int) (n : Int) : Option (List Int) := if 16 ≤ wrap64 (16 + n) then (if wrap64 (16 + n) ≤ (x0.length : Int) then some ((x0.take (wrap64 (16 + n)).toNat).drop (16 : Int).toNat) else none) else none
theorem impl_sectorOf.piece_some {x0 y : List Int} {n : Int} (h : impl_sectorOf.piece x0 n = some y) : 16 ≤ wrap64 (16 + n) ∧ wrap64 (16 + n) ≤ (x0.length : Int) ∧ y = (x0.take (wrap64 (16 + n)).toNat).drop (16 : Int).toNat := by
 unfold impl_sectorOf.piece at h
 split at h
 ·split at h
  ·exact ⟨by assumption, by assumption, (Option.some.inj h).symm⟩
  ·simp at h
 ·simp at h
mutual
def impl_sectorOf.j0 : Nat → List Int → Int → Bool → Int → Int → Int → Option (Int × Int × Int × List Int × Bool)
 | 0, _, _, _, _, _, _ => none
 | k + 1, x0, x5, x25, x252000, x252001, x252002 => if x25 = true then (some (0, 0, 0, ([] : List Int), false)) else ((impl_sectorOf.piece x0 x5).bind fun t254 => (if x252002 = 2 then (impl_sectorOf.j1 k x0 false x252000 x252001 x252002 t254) else (if x252002 = 1 then (impl_sectorOf.j1 k x0 (x5 != 44) x252000 x252001 x252002 t254) else (impl_sectorOf.j1 k x0 true x252000 x252001 x252002 t254))))
def impl_sectorOf.j1 : Nat → List Int → Bool → Int → Int → Int → List Int → Option (Int × Int × Int × List Int × Bool)
 | 0, _, _, _, _, _, _ => none
 | k + 1, x0, x43, x252000, x252001, x252002, x252003 => if x43 = true then (some (0, 0, 0, ([] : List Int), false)) else ((impl_sector_bytes.f k x252000 x252001 x252002 x252003).bind fun t257 => ((slices_Equal_byte_byte.f k t257 x0).bind fun t260 => (if t260 = true then (some (x252000, x252001, x252002, x252003, true)) else (some (0, 0, 0, ([] : List Int), false)))))
end
def impl_sectorOf.f (k : Nat) (l0 : List Int) : Option (Int × Int × Int × List Int × Bool) := (impl_getLow.f l0 0).bind fun t248 => ((impl_getLow.f l0 4).bind fun t249 => (if 8 < (l0.length : Int) then (if 9 < (l0.length : Int) then (if (wrap64 (rd l0 9)) > 44 then (impl_sectorOf.j0 k l0 (wrap64 (rd l0 9)) true t248 t249 (rd l0 8)) else ((impl_inRange.f t248 1 1000000).bind fun t253 => (impl_sectorOf.j0 k l0 (wrap64 (rd l0 9)) (!t253) t248 t249 (rd l0 8)))) else (none)) else (none)))
def impl_sectorOf.T1 : Bool × List (List Nat × List Nat) := (true, [([], []), ([0], [0]), ([], []), ([2, 1], [2]), ([], []), ([4], [4]), ([5], [5]), ([1, 3, 6], [1, 3, 6]), ([], []), ([8, 7, 3, 0, 1, 2, 3, 4, 5, 6, 7, 8], [7, 8])])
def impl_sectorOf.B1 : List Nat := [0, 1, 0, 7, 0, 16, 48, 127, 0, 511]
theorem impl_sectorOf.tab1 : rtab .any (opsOf Try.f108 1) = impl_sectorOf.T1 := by kernel_rfl
theorem impl_sectorOf.bits1 : waitsOk impl_sectorOf.T1.2 impl_sectorOf.B1 = true := by kernel_rfl
set_option maxHeartbeats 8000000 in
set_option maxRecDepth 100000 in
theorem impl_sectorOf.calls (k : Nat) (A0 : Option Addr) (c0 : Nat) (l0 : List Int) (r1 : Int) (r2 : Int) (r3 : Int) (r4 : List Int) (r5 : Bool) (w : World) (hr0 : Kd.C (Kd.int .u8) w A0 l0.length l0) (hc0 : l0.length ≤ c0) (h : impl_sectorOf.f k l0 = some (r1, r2, r3, r4, r5)) :
  Calls Try.prog 108 #[.slice A0 l0.length c0] w fun e w' => ∃ (A_ : Option Addr) (c_ : Nat), e = .returned (.tuple #[.agg #[.int .i64 r1, .int .i64 r2, .int .u8 r3, .slice A_ r4.length c_], .bool r5]) ∧ View.SubOf A0 c0 l0 A_ c_ r4 ∧ Below w.heap.size w w' := by
 have hu93 := Try.underlying93
 have HR0 := Ak hr0
 have HC0 := Ak hc0
 clear hr0 hc0
 have HB := Ak (Below.refl w.heap.size w)
 have H := h
 unfold impl_sectorOf.f at H
 clear h
 replace H := Option.bind_eq_some_iff.mp H
 obtain ⟨t248, A20, H⟩ := H
 have A2 := Ak A20
 clear A20
 replace H := Option.bind_eq_some_iff.mp H
 obtain ⟨t249, A30, H⟩ := H
 have A3 := Ak A30
 clear A30
 by_cases c4 : 8 < (l0.length : Int)
 ·rw [if_pos c4] at H
  have c4b0 := decide_eq_true c4
  have c4b1 : decide (8 < l0.length) = true := decide_eq_true (by omega)
  clear c4
  by_cases c5 : 9 < (l0.length : Int)
  ·rw [if_pos c5] at H
   have c5b0 := decide_eq_true c5
   have c5b1 : decide (9 < l0.length) = true := decide_eq_true (by omega)
   clear c5
   have HC6 := Ak H
   clear H
   go_enter Try.func108, Try.ntmps108
   try go_wp2_with (first | ((with_reducible refine gate_dst (N := 2) rfl ?_); refine box_event ?hg (N := 2) ?hd (cs := #[.int .i64 0, .int .i64 0, .int .u8 0, .slice none 0 0]) (t := 93) ?hr ?_; (case hd => rfl); (case hg => rfl); (case hr => first | (go_simp; done) | (go_simp; rfl)); intro gb247 hg w7 hbox hb; have BK247 := Ak (hbox); have GW247 := Ak ((zb hg (bw HB.out))); have GE247 := Ak ((zb hg (bw HB.out))); replace HB := Ak (below_step (bw HB.out) hb); clear hb hbox hg))
   replace BK247 := Ak (blk_drew BK247.out)
   replace HB := Ak (below_drew1 HB.out)
   have p250 : 0 ≤ (8 : Int) := (by omega)
   have q250 : 8 < (l0.length : Int) := of_decide_eq_true (by first | (with_reducible assumption) | assumption)
   obtain ⟨ad250, e250, hx250_0⟩ := Kd.at_int HR0.out 8 p250 q250
   have hw250_0 := hx250_0
   (try rw [show ((8 : Int)).toNat = 8 from rfl] at hw250_0)
   (try rw [show 8 * 1 = 8 from rfl] at hw250_0)
   (try simp only [Nat.reduceMul, Nat.reduceEqDiff, Go.Addr.add, ↓reduceIte] at hw250_0)
   cases e250
   (try simp only [show (8 : Int).toNat = 8 from rfl, Nat.reduceMul, Nat.reduceEqDiff, Go.Addr.add, ↓reduceIte] at hx250_0)
   have qi250 : (8 < l0.length) = True := eq_true (by omega)
   (try rw [show ((8 : Int)).toNat = 8 from rfl] at hx250_0)
   replace hx250_0 := (HB.out.cell (World.block_lt_of_cell? w _ hx250_0)).trans hx250_0
   replace p250 := eq_true p250
   replace q250 := eq_true q250
   refine start_ (n := 10) (S := fun w' => w'.cell? ⟨ad250.block, ad250.off + 8, none⟩ = some (.int .u8 (rd l0 8))) (ds := []) #[false, false, false, false, false, false, false, false, false, false] (by kernel_rfl) rfl rfl (((HB.out.cell (World.block_lt_of_cell? w _ hw250_0)).trans hw250_0)) (fun hHeld => ?_); refine with_tabW impl_sectorOf.tab1 impl_sectorOf.bits1 (fun HT_ HW_ => ?_)
   generalize w7.drew = w8 at BK247 HB hx250_0 hHeld ⊢
   refine puT 0 6 HT_ (h := ?_)
   refine puT 2 8 HT_ (h := ?_)
   refine puT 4 10 HT_ (h := ?_)
   refine puT 5 11 HT_ (h := ?_)
   refine taT 6 12 HT_ HW_ hHeld (h := ?_)
   refine join_ (σ := Nat) 1 #[true, true, true, true, true, true, true, true, true, false] (fun s_ => [(7, .int .i64 t248), (9, .int .i64 t249), (4, .pointer (some ⟨s_, 0, none⟩)), (13, .agg #[.int .i64 t248, .int .i64 t249, .int .u8 (rd l0 8), .slice none 0 0])]) (fun s_ w' => (w'.cell? ⟨ad250.block, ad250.off + 8, none⟩ = some (.int .u8 (rd l0 8))) ∧ (w'.heap[gb247]? = some (.cells #[.int .i64 0, .int .i64 0, .int .u8 0, .slice none 0 0] 93 (0, 0))) ∧ (w'.heap[s_]? = some (.cells #[.int .i64 0, .int .i64 0, .int .u8 0, .slice none 0 0] 93 (0, 0))) ∧ (w.heap.size ≤ s_) ∧ (w.heap.size ≤ s_) ∧ (gb247 ≠ s_) ∧ (s_ ≠ gb247) ∧ (Below w.heap.size w w')) ?_ ?_
   rotate_left
   ·intro hCont
    refine two_ (i := 1) (j := 8) (Ni := some 7) (Nj := some 4) #[true, true, true, false, true, true, true, false, false, false] #[true, false, true, false, true, true, true, false, true, false] rfl rfl rfl rfl (two_of HT_.out (by kernel_rfl)) (by decide) (by decide) (fun K hK => ?_) (fun K hK => ?_)
    ·skip
     refine goes_ Try.func130 (by kernel_rfl) rfl #[.slice (some ad250) l0.length c0, .int .i64 0] (by rfl) rfl rfl gm ?_
     with_reducible refine (impl_getLow.calls _ _ l0 0 t248 _ ?side1 ?side2 A2.out).mono ?_
     (case side1 => exact zq (Kd.C_below HR0.out HB.out))
     (case side2 => exact HC0.out)
     rintro e w' ⟨rfl, ⟨nd, rfl⟩⟩
     refine ⟨_, rfl, ?_⟩
     refine hK.out _ _ (((HB.out.cell (World.block_lt_of_cell? w _ hw250_0)).trans hw250_0)) (fun hHeld => ?_)
     clear hK K
     refine norm_ (a' := ?_) ?_ ?_
     rotate_left
     ·show Act.put _ (some 7) _ = _
      simp only [Act.put, sT, sZ, sS, i64_w, i32_w]
      rfl
     refine two_ (i := 3) (j := 8) (Ni := some 9) (Nj := some 4) #[true, true, true, true, true, true, true, false, false, false] #[true, true, true, false, true, true, true, false, true, false] rfl rfl rfl rfl (two_of HT_.out (by kernel_rfl)) (by decide) (by decide) (fun K hK => ?_) (fun K hK => ?_)
     ·skip
      refine goes_ Try.func130 (by kernel_rfl) rfl #[.slice (some ad250) l0.length c0, .int .i64 4] (by rfl) rfl rfl gm ?_
      with_reducible refine (impl_getLow.calls _ _ l0 4 t249 _ ?side1 ?side2 A3.out).mono ?_
      (case side1 => exact zq (Kd.C_below HR0.out (bw1 HB.out GE247.out)))
      (case side2 => exact HC0.out)
      rintro e w' ⟨rfl, ⟨nd, rfl⟩⟩
      refine ⟨_, rfl, ?_⟩
      refine hK.out _ _ (((HB.out.cell (World.block_lt_of_cell? w _ hw250_0)).trans hw250_0)) (fun hHeld => ?_)
      clear hK K
      refine norm_ (a' := ?_) ?_ ?_
      rotate_left
      ·show Act.put _ (some 9) _ = _
       simp only [Act.put, sT, sZ, sS, i64_w, i32_w]
       rfl
      refine puT 7 13 HT_ (h := ?_)
      refine onT 8 (some 4) HT_ (h := fun K hK => ?_)
      refine box_step ?hg (N := 4) ?hd (cs := #[.int .i64 0, .int .i64 0, .int .u8 0, .slice none 0 0]) (t := 93) ?hr ?_; (case hd => rfl); (case hg => rfl); (case hr => first | (go_simp; done) | (go_simp; rfl))
      intro gb251 hg w9 hbox hb
      have BK251 := Ak (hbox)
      have GW251 := Ak ((zb hg (bw1 HB.out GE247.out)))
      have GE251 := Ak ((zb hg (bw1 HB.out GE247.out)))
      replace HB := Ak (below_step (bw1 HB.out GE247.out) hb)
      have NB247_251 := Ak ((zl hg (bq BK247.out)))
      have NB251_247 := Ak ((zm hg (bq BK247.out)))
      replace BK247 := Ak (blk_below (bq BK247.out) hb)
      clear hb hbox hg
      refine hK.out _ _ (((HB.out.cell (World.block_lt_of_cell? w _ hw250_0)).trans hw250_0)) (fun hHeld => ?_)
      clear hK K
      refine norm_ (a' := ?_) ?_ ?_
      rotate_left
      ·show Act.put _ (some 4) _ = _
       simp only [Act.put, sT, sZ, sS, i64_w, i32_w]
       rfl
      exact norm_ (by simp only [putAll, Act.put, sT, sZ, sS]) (hCont (gb251) _ ⟨hHeld, (bq BK247.out), (bq BK251.out), GW251.out, GE251.out, NB247_251.out, NB251_247.out, (bw2 HB.out GE247.out GE251.out)⟩)
     ·skip
      refine box_step ?hg (N := 4) ?hd (cs := #[.int .i64 0, .int .i64 0, .int .u8 0, .slice none 0 0]) (t := 93) ?hr ?_; (case hd => rfl); (case hg => rfl); (case hr => first | (go_simp; done) | (go_simp; rfl))
      intro gb251 hg w9 hbox hb
      have BK251 := Ak (hbox)
      have GW251 := Ak ((zb hg (bw1 HB.out GE247.out)))
      have GE251 := Ak ((zb hg (bw1 HB.out GE247.out)))
      replace HB := Ak (below_step (bw1 HB.out GE247.out) hb)
      have NB247_251 := Ak ((zl hg (bq BK247.out)))
      have NB251_247 := Ak ((zm hg (bq BK247.out)))
      replace BK247 := Ak (blk_below (bq BK247.out) hb)
      clear hb hbox hg
      refine hK.out _ _ (((HB.out.cell (World.block_lt_of_cell? w _ hw250_0)).trans hw250_0)) (fun hHeld => ?_)
      clear hK K
      refine norm_ (a' := ?_) ?_ ?_
      rotate_left
      ·show Act.put _ (some 4) _ = _
       simp only [Act.put, sT, sZ, sS, i64_w, i32_w]
       rfl
      refine onT 3 (some 9) HT_ (h := fun K hK => ?_)
      refine goes_ Try.func130 (by kernel_rfl) rfl #[.slice (some ad250) l0.length c0, .int .i64 4] (by rfl) rfl rfl gm ?_
      with_reducible refine (impl_getLow.calls _ _ l0 4 t249 _ ?side1 ?side2 A3.out).mono ?_
      (case side1 => exact zq (Kd.C_below HR0.out HB.out))
      (case side2 => exact HC0.out)
      rintro e w' ⟨rfl, ⟨nd, rfl⟩⟩
      refine ⟨_, rfl, ?_⟩
      refine hK.out _ _ (((HB.out.cell (World.block_lt_of_cell? w _ hw250_0)).trans hw250_0)) (fun hHeld => ?_)
      clear hK K
      refine norm_ (a' := ?_) ?_ ?_
      rotate_left
      ·show Act.put _ (some 9) _ = _
       simp only [Act.put, sT, sZ, sS, i64_w, i32_w]
       rfl
      refine puT 7 13 HT_ (h := ?_)
      exact norm_ (by simp only [putAll, Act.put, sT, sZ, sS]) (hCont (gb251) _ ⟨hHeld, (bq BK247.out), (bq BK251.out), GW251.out, GE251.out, NB247_251.out, NB251_247.out, (bw2 HB.out GE247.out GE251.out)⟩)
    ·skip
     refine box_step ?hg (N := 4) ?hd (cs := #[.int .i64 0, .int .i64 0, .int .u8 0, .slice none 0 0]) (t := 93) ?hr ?_; (case hd => rfl); (case hg => rfl); (case hr => first | (go_simp; done) | (go_simp; rfl))
     intro gb251 hg w9 hbox hb
     have BK251 := Ak (hbox)
     have GW251 := Ak ((zb hg (bw1 HB.out GE247.out)))
     have GE251 := Ak ((zb hg (bw1 HB.out GE247.out)))
     replace HB := Ak (below_step (bw1 HB.out GE247.out) hb)
     have NB247_251 := Ak ((zl hg (bq BK247.out)))
     have NB251_247 := Ak ((zm hg (bq BK247.out)))
     replace BK247 := Ak (blk_below (bq BK247.out) hb)
     clear hb hbox hg
     refine hK.out _ _ (((HB.out.cell (World.block_lt_of_cell? w _ hw250_0)).trans hw250_0)) (fun hHeld => ?_)
     clear hK K
     refine norm_ (a' := ?_) ?_ ?_
     rotate_left
     ·show Act.put _ (some 4) _ = _
      simp only [Act.put, sT, sZ, sS, i64_w, i32_w]
      rfl
     refine onT 1 (some 7) HT_ (h := fun K hK => ?_)
     refine goes_ Try.func130 (by kernel_rfl) rfl #[.slice (some ad250) l0.length c0, .int .i64 0] (by rfl) rfl rfl gm ?_
     with_reducible refine (impl_getLow.calls _ _ l0 0 t248 _ ?side1 ?side2 A2.out).mono ?_
     (case side1 => exact zq (Kd.C_below HR0.out HB.out))
     (case side2 => exact HC0.out)
     rintro e w' ⟨rfl, ⟨nd, rfl⟩⟩
     refine ⟨_, rfl, ?_⟩
     refine hK.out _ _ (((HB.out.cell (World.block_lt_of_cell? w _ hw250_0)).trans hw250_0)) (fun hHeld => ?_)
     clear hK K
     refine norm_ (a' := ?_) ?_ ?_
     rotate_left
     ·show Act.put _ (some 7) _ = _
      simp only [Act.put, sT, sZ, sS, i64_w, i32_w]
      rfl
     refine onT 3 (some 9) HT_ (h := fun K hK => ?_)
     refine goes_ Try.func130 (by kernel_rfl) rfl #[.slice (some ad250) l0.length c0, .int .i64 4] (by rfl) rfl rfl gm ?_
     with_reducible refine (impl_getLow.calls _ _ l0 4 t249 _ ?side1 ?side2 A3.out).mono ?_
     (case side1 => exact zq (Kd.C_below HR0.out (bw2 HB.out GE247.out GE251.out)))
     (case side2 => exact HC0.out)
     rintro e w' ⟨rfl, ⟨nd, rfl⟩⟩
     refine ⟨_, rfl, ?_⟩
     refine hK.out _ _ (((HB.out.cell (World.block_lt_of_cell? w _ hw250_0)).trans hw250_0)) (fun hHeld => ?_)
     clear hK K
     refine norm_ (a' := ?_) ?_ ?_
     rotate_left
     ·show Act.put _ (some 9) _ = _
      simp only [Act.put, sT, sZ, sS, i64_w, i32_w]
      rfl
     refine puT 7 13 HT_ (h := ?_)
     exact norm_ (by simp only [putAll, Act.put, sT, sZ, sS]) (hCont (gb251) _ ⟨hHeld, (bq BK247.out), (bq BK251.out), GW251.out, GE251.out, NB247_251.out, NB251_247.out, (bw2 HB.out GE247.out GE251.out)⟩)
   rintro gb251 w10 ⟨hS_, h0_, h1_, h2_, h3_, h4_, h5_, h6_⟩
   replace BK247 : Aside0 (w10.heap[gb247]? = some (.cells #[.int .i64 0, .int .i64 0, .int .u8 0, .slice none 0 0] 93 (0, 0))) := ⟨h0_⟩
   have BK251 : Aside0 (w10.heap[gb251]? = some (.cells #[.int .i64 0, .int .i64 0, .int .u8 0, .slice none 0 0] 93 (0, 0))) := ⟨h1_⟩
   have GW251 : Aside0 (w.heap.size ≤ gb251) := ⟨h2_⟩
   have GE251 : Aside0 (w.heap.size ≤ gb251) := ⟨h3_⟩
   have NB247_251 : Aside0 (gb247 ≠ gb251) := ⟨h4_⟩
   have NB251_247 : Aside0 (gb251 ≠ gb247) := ⟨h5_⟩
   replace HB : Aside0 (Below w.heap.size w w10) := ⟨h6_⟩
   clear h0_ h1_ h2_ h3_ h4_ h5_ h6_
   have hHeld : w10.cell? ⟨ad250.block, ad250.off + 8, none⟩ = some (.int .u8 (rd l0 8)) := hS_
   refine norm_ (a' := ?_) ?_ ?_
   rotate_left
   ·simp only [putAll, Act.put, sT, sZ, sS]
    rfl
   refine onT 9 none HT_ (h := fun K hK => ?_)
   have hs11 := zk0 BK251.out
   have hfs11 := blk_frozen BK251.out 0
   have hns11_0 := NB247_251.out
   have hms11_0 := NB251_247.out
   have hs12 := zk1 BK251.out
   have hfs12 := blk_frozen BK251.out 1
   have hs13 := zk2 BK251.out
   have hfs13 := blk_frozen BK251.out 2
   have hs14 := zk3 BK251.out
   have hfs14 := blk_frozen BK251.out 3
   refine skip_ (w1 := ?_) (by rfl) rfl ?_ ?_
   rotate_left
   ·go_simp
    rfl
   refine hK.out _ _ (((cell_far (p := ⟨gb251, _, none⟩) (by first | exact Nat.ne_of_lt (Nat.lt_of_lt_of_le (by have := World.block_lt_of_cell? _ _ hw250_0; first | rwa [add_block] at this | exact this) GW251.out) | (rw [add_block]; exact Nat.ne_of_lt (Nat.lt_of_lt_of_le (by have := World.block_lt_of_cell? _ _ hw250_0; first | rwa [add_block] at this | exact this) GW251.out)) | (show (Addr.add _ _).block ≠ _; rw [add_block]; exact Nat.ne_of_lt (Nat.lt_of_lt_of_le (by have := World.block_lt_of_cell? _ _ hw250_0; first | rwa [add_block] at this | exact this) GW251.out)) | (dsimp only; exact Nat.ne_of_lt (Nat.lt_of_lt_of_le (by have := World.block_lt_of_cell? _ _ hw250_0; first | rwa [add_block] at this | exact this) GW251.out))) _).trans (((cell_far (p := ⟨gb251, _, none⟩) (by first | exact Nat.ne_of_lt (Nat.lt_of_lt_of_le (by have := World.block_lt_of_cell? _ _ hw250_0; first | rwa [add_block] at this | exact this) GW251.out) | (rw [add_block]; exact Nat.ne_of_lt (Nat.lt_of_lt_of_le (by have := World.block_lt_of_cell? _ _ hw250_0; first | rwa [add_block] at this | exact this) GW251.out)) | (show (Addr.add _ _).block ≠ _; rw [add_block]; exact Nat.ne_of_lt (Nat.lt_of_lt_of_le (by have := World.block_lt_of_cell? _ _ hw250_0; first | rwa [add_block] at this | exact this) GW251.out)) | (dsimp only; exact Nat.ne_of_lt (Nat.lt_of_lt_of_le (by have := World.block_lt_of_cell? _ _ hw250_0; first | rwa [add_block] at this | exact this) GW251.out))) _).trans (((cell_far (p := ⟨gb251, _, none⟩) (by first | exact Nat.ne_of_lt (Nat.lt_of_lt_of_le (by have := World.block_lt_of_cell? _ _ hw250_0; first | rwa [add_block] at this | exact this) GW251.out) | (rw [add_block]; exact Nat.ne_of_lt (Nat.lt_of_lt_of_le (by have := World.block_lt_of_cell? _ _ hw250_0; first | rwa [add_block] at this | exact this) GW251.out)) | (show (Addr.add _ _).block ≠ _; rw [add_block]; exact Nat.ne_of_lt (Nat.lt_of_lt_of_le (by have := World.block_lt_of_cell? _ _ hw250_0; first | rwa [add_block] at this | exact this) GW251.out)) | (dsimp only; exact Nat.ne_of_lt (Nat.lt_of_lt_of_le (by have := World.block_lt_of_cell? _ _ hw250_0; first | rwa [add_block] at this | exact this) GW251.out))) _).trans (((cell_far (p := ⟨gb251, _, none⟩) (by first | exact Nat.ne_of_lt (Nat.lt_of_lt_of_le (by have := World.block_lt_of_cell? _ _ hw250_0; first | rwa [add_block] at this | exact this) GW251.out) | (rw [add_block]; exact Nat.ne_of_lt (Nat.lt_of_lt_of_le (by have := World.block_lt_of_cell? _ _ hw250_0; first | rwa [add_block] at this | exact this) GW251.out)) | (show (Addr.add _ _).block ≠ _; rw [add_block]; exact Nat.ne_of_lt (Nat.lt_of_lt_of_le (by have := World.block_lt_of_cell? _ _ hw250_0; first | rwa [add_block] at this | exact this) GW251.out)) | (dsimp only; exact Nat.ne_of_lt (Nat.lt_of_lt_of_le (by have := World.block_lt_of_cell? _ _ hw250_0; first | rwa [add_block] at this | exact this) GW251.out))) _).trans hHeld)))))))) (fun hHeld => ?_)
   clear hK K
   refine done_ (done_of HT_.out (by kernel_rfl)) ?_
   have p252 : 0 ≤ (9 : Int) := (by omega)
   have q252 : 9 < (l0.length : Int) := of_decide_eq_true (by first | (with_reducible assumption) | assumption)
   obtain ⟨ad252, e252, hx252_0⟩ := Kd.at_int HR0.out 9 p252 q252
   obtain rfl : ad250 = ad252 := (by injection e252)
   (try simp only [show (9 : Int).toNat = 9 from rfl, Nat.reduceMul, Nat.reduceEqDiff, Go.Addr.add, ↓reduceIte] at hx252_0)
   have qi252 : (9 < l0.length) = True := eq_true (by omega)
   (try rw [show ((9 : Int)).toNat = 9 from rfl] at hx252_0)
   have hn252_0 : ad250.block ≠ gb251 := Nat.ne_of_lt (Nat.lt_of_lt_of_le (by have := World.block_lt_of_cell? _ _ hx252_0; first | rwa [add_block] at this | exact this) GW251.out)
   have hn252_1 : ad250.block ≠ gb251 := Nat.ne_of_lt (Nat.lt_of_lt_of_le (by have := World.block_lt_of_cell? _ _ hx252_0; first | rwa [add_block] at this | exact this) GW251.out)
   have hn252_2 : ad250.block ≠ gb251 := Nat.ne_of_lt (Nat.lt_of_lt_of_le (by have := World.block_lt_of_cell? _ _ hx252_0; first | rwa [add_block] at this | exact this) GW251.out)
   have hn252_3 : ad250.block ≠ gb251 := Nat.ne_of_lt (Nat.lt_of_lt_of_le (by have := World.block_lt_of_cell? _ _ hx252_0; first | rwa [add_block] at this | exact this) GW251.out)
   replace hx252_0 := (HB.out.cell (World.block_lt_of_cell? w _ hx252_0)).trans hx252_0
   replace hx252_0 := (cell_far (p := ⟨gb251, 0, none⟩) (by first | (rw [add_block]; exact hn252_0) | (show (Addr.add _ _).block ≠ _; rw [add_block]; exact hn252_0) | exact hn252_0) (.int .i64 t248)).trans hx252_0
   replace hx252_0 := (cell_far (p := ⟨gb251, 1, none⟩) (by first | (rw [add_block]; exact hn252_1) | (show (Addr.add _ _).block ≠ _; rw [add_block]; exact hn252_1) | exact hn252_1) (.int .i64 t249)).trans hx252_0
   replace hx252_0 := (cell_far (p := ⟨gb251, 2, none⟩) (by first | (rw [add_block]; exact hn252_2) | (show (Addr.add _ _).block ≠ _; rw [add_block]; exact hn252_2) | exact hn252_2) (.int .u8 (rd l0 8))).trans hx252_0
   replace hx252_0 := (cell_far (p := ⟨gb251, 3, none⟩) (by first | (rw [add_block]; exact hn252_3) | (show (Addr.add _ _).block ≠ _; rw [add_block]; exact hn252_3) | exact hn252_3) (.slice none 0 0)).trans hx252_0
   clear hn252_0
   clear hn252_1
   clear hn252_2
   clear hn252_3
   replace p252 := eq_true p252
   replace q252 := eq_true q252
   go_upto_region 3 with (fail)
   go_cut [25] (fun v25 wc => ∃ (kq : Nat) (x25_5 : Bool), v25 = .bool x25_5 ∧ Aside0 (impl_sectorOf.j0 kq l0 (wrap64 (rd l0 9)) x25_5 t248 t249 (rd l0 8) = some (r1, r2, r3, r4, r5)) ∧ Aside0 (kq ≤ k) ∧ Aside0 (wc.heap[gb247]? = some (.cells #[.int .i64 0, .int .i64 0, .int .u8 0, (.slice none 0 0)] 93 (0, 0))) ∧ Aside0 (wc.heap[gb251]? = some (.cells #[.int .i64 t248, .int .i64 t249, .int .u8 (rd l0 8), (.slice none 0 0)] 93 (0, 0))) ∧ Aside0 (Below w.heap.size w wc))
   case first =>
    have H := HC6.out
    clear HC6
    by_cases c15 : (wrap64 (rd l0 9)) > 44
    ·rw [if_pos c15] at H
     have c15b0 : decide (44 < (wrap64 (rd l0 9))) = true := decide_eq_true c15
     clear c15
     (first | rw [c15b0] | (simp only [i64_w, i32_w]; rw [c15b0]) | skip)
     have H' := Ak H
     clear H
     go_wp2
     go_meet
     case rel => exact ⟨_, (true), (by first | rfl | (simp; done) | (simp [*]; done)), H', ⟨by first | omega | exact Nat.le_refl _⟩, ⟨by refine bq ?_; refine blk_far ?_ NB247_251.out _; refine bq ?_; refine blk_far ?_ NB247_251.out _; refine bq ?_; refine blk_far ?_ NB247_251.out _; refine bq ?_; refine blk_far ?_ NB247_251.out _; exact bq BK247.out⟩, ⟨by refine bq ?_; refine blk_put (cs := #[.int .i64 t248, .int .i64 t249, .int .u8 (rd l0 8), .slice none 0 0]) ?_ 3 _ rfl; refine bq ?_; refine blk_put (cs := #[.int .i64 t248, .int .i64 t249, .int .u8 0, .slice none 0 0]) ?_ 2 _ rfl; refine bq ?_; refine blk_put (cs := #[.int .i64 t248, .int .i64 0, .int .u8 0, .slice none 0 0]) ?_ 1 _ rfl; refine bq ?_; refine blk_put (cs := #[.int .i64 0, .int .i64 0, .int .u8 0, .slice none 0 0]) ?_ 0 _ rfl; exact bq BK251.out⟩, ⟨bw2 HB.out GE247.out GE251.out⟩⟩
    ·rw [if_neg c15] at H
     have c15b0 : decide (44 < (wrap64 (rd l0 9))) = false := decide_eq_false c15
     clear c15
     (first | rw [c15b0] | (simp only [i64_w, i32_w]; rw [c15b0]) | skip)
     replace H := Option.bind_eq_some_iff.mp H
     obtain ⟨t253, A160, H⟩ := H
     have A16 := Ak A160
     clear A160
     have H' := Ak H
     clear H
     have hnb17 := NB251_247.out
     have hnc17 := NB247_251.out
     have hcz18_0 := zk0 BK251.out
     have hcz18_1 := zk1 BK251.out
     have hcz18_2 := zk2 BK251.out
     have hcz18_3 := zk3 BK251.out
     have hfz18_0 := blk_frozen BK251.out 0
     have hfz18_1 := blk_frozen BK251.out 1
     have hfz18_2 := blk_frozen BK251.out 2
     have hfz18_3 := blk_frozen BK251.out 3
     go_wp2_with (first | (go_at_call 101; (with_reducible refine (impl_inRange.calls t248 1 1000000 t253 _ A16.out).mono ?_); rintro e w' ⟨rfl, ⟨nd, rfl⟩⟩))
     go_meet
     case rel => exact ⟨_, (!t253), (by first | rfl | (simp; done) | (simp [*]; done)), H', ⟨by first | omega | exact Nat.le_refl _⟩, ⟨by refine bq ?_; refine blk_far ?_ NB247_251.out _; refine bq ?_; refine blk_far ?_ NB247_251.out _; refine bq ?_; refine blk_far ?_ NB247_251.out _; refine bq ?_; refine blk_far ?_ NB247_251.out _; exact bq BK247.out⟩, ⟨by refine bq ?_; refine blk_put (cs := #[.int .i64 t248, .int .i64 t249, .int .u8 (rd l0 8), .slice none 0 0]) ?_ 3 _ rfl; refine bq ?_; refine blk_put (cs := #[.int .i64 t248, .int .i64 t249, .int .u8 0, .slice none 0 0]) ?_ 2 _ rfl; refine bq ?_; refine blk_put (cs := #[.int .i64 t248, .int .i64 0, .int .u8 0, .slice none 0 0]) ?_ 1 _ rfl; refine bq ?_; refine blk_put (cs := #[.int .i64 0, .int .i64 0, .int .u8 0, .slice none 0 0]) ?_ 0 _ rfl; exact bq BK251.out⟩, ⟨bw2 HB.out GE247.out GE251.out⟩⟩
   case rest =>
    clear HC6
    try clear q2
    try clear hx2
    try clear qi2
    try clear c4b0
    try clear c4b1
    try clear c5b0
    try clear c5b1
    try clear c15b0
    try clear hx250_0
    try clear hx252_0
    try clear q250
    try clear q252
    obtain ⟨kq, x25_5, rfl, HA, HJ5, BK247, BK251, HB⟩ := hcut
    cases kq with
    | zero => exact absurd HA.out (by simp [impl_sectorOf.j0])
    | succ kj5 =>
     have H := HA.out
     clear HA
     simp only [impl_sectorOf.j0] at H
     by_cases c19 : x25_5 = true
     ·subst c19
      rw [if_pos rfl] at H
      simp only [Option.some.injEq, Prod.mk.injEq] at H
      obtain ⟨rfl, rfl, rfl, rfl, rfl⟩ := H
      have hnb20 := NB247_251.out
      have hnc20 := NB251_247.out
      have hcz21_0 : wc.cell? ⟨gb247, 0, none⟩ = some (.int .i64 0) := zk0 BK247.out
      have hcz21_1 : wc.cell? ⟨gb247, 1, none⟩ = some (.int .i64 0) := zk1 BK247.out
      have hcz21_2 : wc.cell? ⟨gb247, 2, none⟩ = some (.int .u8 0) := zk2 BK247.out
      have hcz21_3 : wc.cell? ⟨gb247, 3, none⟩ = some (.slice none 0 0) := zk3 BK247.out
      have hfz21_0 := blk_frozen BK247.out 0
      have hfz21_1 := blk_frozen BK247.out 1
      have hfz21_2 := blk_frozen BK247.out 2
      have hfz21_3 := blk_frozen BK247.out 3
      go_wp2
      refine bodyPost_ret (results_ct rfl _ _ gb247 93 #[.int .i64 0, .int .i64 0, .int .u8 0, .slice none 0 0] (0, 0) _ rfl (by refine bq ?_; refine blk_put (cs := #[.int .i64 0, .int .i64 0, .int .u8 0, .slice none 0 0]) ?_ 3 _ rfl; refine bq ?_; refine blk_put (cs := #[.int .i64 0, .int .i64 0, .int .u8 0, .slice none 0 0]) ?_ 2 _ rfl; refine bq ?_; refine blk_put (cs := #[.int .i64 0, .int .i64 0, .int .u8 0, .slice none 0 0]) ?_ 1 _ rfl; refine bq ?_; refine blk_put (cs := #[.int .i64 0, .int .i64 0, .int .u8 0, .slice none 0 0]) ?_ 0 _ rfl; exact bq BK247.out) Try.underlying93 rfl (by kernel_rfl)) rfl ?_
      exact ⟨none, 0, zw, .inl ⟨rfl, rfl, rfl⟩, bw2 HB.out GE247.out GE251.out⟩
     ·replace c19 := Bool.eq_false_iff.mpr c19
      subst c19
      rw [if_neg (show ¬ (false = true) by decide)] at H
      replace H := Option.bind_eq_some_iff.mp H
      obtain ⟨t254, A220, H⟩ := H
      have A22 := Ak A220
      clear A220
      have HC23 := Ak H
      clear H
      obtain ⟨hp1, hp2, ht3⟩ := impl_sectorOf.piece_some A22.out
      obtain ⟨i30, hi30, _, hsz30, _⟩ := info_parts info5
      obtain ⟨A30, hA30⟩ : ∃ A_, A_ = View.cutAt (some ad250) c0 (16 : Int).toNat := ⟨_, rfl⟩
      obtain ⟨c30, hc30⟩ : ∃ c_, c_ = c0 - (16 : Int).toNat := ⟨_, rfl⟩
      have hcut30 : ∀ W : World, (Instr.slice 22 (.slice (some ad250) l0.length c0) (some (.int .i64 16)) (some (.int .i64 (wrap64 (16 + (wrap64 (rd l0 9)))))) none).run Try.prog W = .ok (.slice A30 t254.length c30) W := fun W => by rw [hA30, hc30, ht3]; exact View.mid_run 22 5 Try.underlying22 hi30 hsz30 _ _ _ _ _ (by decide) hp1 hp2 HC0.out W
      have HP := Ak (show Kd.C (Kd.int .u8) w A30 t254.length t254 from by rw [hA30, ht3]; exact View.C_cut 16 (wrap64 (16 + (wrap64 (rd l0 9)))) HR0.out (by omega) (by omega) HC0.out)
      have HPc := Ak (show t254.length ≤ c30 from by rw [hc30, ht3, List.length_drop, List.length_take]; have := HC0.out; omega)
      have HPs := Ak (show View.SubOf (some ad250) c0 l0 A30 c30 t254 from .inr ⟨16, wrap64 (16 + (wrap64 (rd l0 9))), by omega, by omega, hA30, hc30, ht3⟩)
      clear hA30 hc30 ht3 hp1 hp2 hi30 hsz30
      have hnb26 := NB251_247.out
      have hnc26 := NB247_251.out
      have hcz27_0 : wc.cell? ⟨gb251, 0, none⟩ = some (.int .i64 t248) := zk0 BK251.out
      have hcz27_1 : wc.cell? ⟨gb251, 1, none⟩ = some (.int .i64 t249) := zk1 BK251.out
      have hcz27_2 : wc.cell? ⟨gb251, 2, none⟩ = some (.int .u8 (rd l0 8)) := zk2 BK251.out
      have hcz27_3 : wc.cell? ⟨gb251, 3, none⟩ = some (.slice none 0 0) := zk3 BK251.out
      have hfz27_0 := blk_frozen BK251.out 0
      have hfz27_1 := blk_frozen BK251.out 1
      have hfz27_2 := blk_frozen BK251.out 2
      have hfz27_3 := blk_frozen BK251.out 3
      go_upto_region 6 with (fail)
      (try simp only [Act.put, sT, sZ, sS])
      go_cut [43] (fun v43 wc => ∃ (kq : Nat) (x43_22 : Bool), v43 = .bool x43_22 ∧ Aside0 (impl_sectorOf.j1 kq l0 x43_22 t248 t249 (rd l0 8) t254 = some (r1, r2, r3, r4, r5)) ∧ Aside0 (kq ≤ kj5) ∧ Aside0 (wc.heap[gb247]? = some (.cells #[.int .i64 0, .int .i64 0, .int .u8 0, (.slice none 0 0)] 93 (0, 0))) ∧ Aside0 (wc.heap[gb251]? = some (.cells #[.int .i64 t248, .int .i64 t249, .int .u8 (rd l0 8), (.slice A30 t254.length c30)] 93 (0, 0))) ∧ Aside0 (Below w.heap.size w wc))
      case first =>
       have H := HC23.out
       clear HC23
       by_cases c28 : (rd l0 8) = 2
       ·rw [if_pos c28] at H
        have c28b0 : ((rd l0 8) == 2) = true := beq_iff_eq.mpr c28
        have c28b1 : ((rd l0 8) != 2) = false := bne_eq_false_iff_eq.mpr c28
        clear c28
        (first | rw [c28b0] | (simp only [i64_w, i32_w]; rw [c28b0]) | skip)
        have H' := Ak H
        clear H
        have hnb29 := NB251_247.out
        have hnc29 := NB247_251.out
        have hcz30_0 : wc.cell? ⟨gb251, 0, none⟩ = some (.int .i64 t248) := zk0 BK251.out
        have hcz30_1 : wc.cell? ⟨gb251, 1, none⟩ = some (.int .i64 t249) := zk1 BK251.out
        have hcz30_2 : wc.cell? ⟨gb251, 2, none⟩ = some (.int .u8 (rd l0 8)) := zk2 BK251.out
        have hcz30_3 : wc.cell? ⟨gb251, 3, none⟩ = some (.slice none 0 0) := zk3 BK251.out
        have hfz30_0 := blk_frozen BK251.out 0
        have hfz30_1 := blk_frozen BK251.out 1
        have hfz30_2 := blk_frozen BK251.out 2
        have hfz30_3 := blk_frozen BK251.out 3
        go_wp2
        go_meet
        case rel => exact ⟨_, (false), (by first | rfl | (simp; done) | (simp [*]; done)), H', ⟨by have := HJ5.out; first | omega | exact Nat.le_refl _⟩, ⟨by refine bq ?_; refine blk_far ?_ NB247_251.out _; exact bq BK247.out⟩, ⟨by refine bq ?_; refine blk_put (cs := #[.int .i64 t248, .int .i64 t249, .int .u8 (rd l0 8), .slice none 0 0]) ?_ 3 _ rfl; exact bq BK251.out⟩, ⟨bw2 HB.out GE247.out GE251.out⟩⟩
       ·rw [if_neg c28] at H
        have c28b0 : ((rd l0 8) == 2) = false := beq_eq_false_iff_ne.mpr c28
        have c28b1 : ((rd l0 8) != 2) = true := bne_iff_ne.mpr c28
        (first | rw [c28b0] | (simp only [i64_w, i32_w]; rw [c28b0]) | skip)
        by_cases c31 : (rd l0 8) = 1
        ·rw [if_pos c31] at H
         have c31b0 : ((rd l0 8) == 1) = true := beq_iff_eq.mpr c31
         have c31b1 : ((rd l0 8) != 1) = false := bne_eq_false_iff_eq.mpr c31
         clear c31
         have H' := Ak H
         clear H
         have hnb32 := NB251_247.out
         have hnc32 := NB247_251.out
         have hcz33_0 : wc.cell? ⟨gb251, 0, none⟩ = some (.int .i64 t248) := zk0 BK251.out
         have hcz33_1 : wc.cell? ⟨gb251, 1, none⟩ = some (.int .i64 t249) := zk1 BK251.out
         have hcz33_2 : wc.cell? ⟨gb251, 2, none⟩ = some (.int .u8 (rd l0 8)) := zk2 BK251.out
         have hcz33_3 : wc.cell? ⟨gb251, 3, none⟩ = some (.slice none 0 0) := zk3 BK251.out
         have hfz33_0 := blk_frozen BK251.out 0
         have hfz33_1 := blk_frozen BK251.out 1
         have hfz33_2 := blk_frozen BK251.out 2
         have hfz33_3 := blk_frozen BK251.out 3
         go_wp2
         go_meet
         case rel => exact ⟨_, (((wrap64 (rd l0 9)) != 44)), (by first | rfl | (simp; done) | (simp [*]; done)), H', ⟨by have := HJ5.out; first | omega | exact Nat.le_refl _⟩, ⟨by refine bq ?_; refine blk_far ?_ NB247_251.out _; exact bq BK247.out⟩, ⟨by refine bq ?_; refine blk_put (cs := #[.int .i64 t248, .int .i64 t249, .int .u8 (rd l0 8), .slice none 0 0]) ?_ 3 _ rfl; exact bq BK251.out⟩, ⟨bw2 HB.out GE247.out GE251.out⟩⟩
        ·rw [if_neg c31] at H
         have c31b0 : ((rd l0 8) == 1) = false := beq_eq_false_iff_ne.mpr c31
         have c31b1 : ((rd l0 8) != 1) = true := bne_iff_ne.mpr c31
         have H' := Ak H
         clear H
         have hnb34 := NB251_247.out
         have hnc34 := NB247_251.out
         have hcz35_0 : wc.cell? ⟨gb251, 0, none⟩ = some (.int .i64 t248) := zk0 BK251.out
         have hcz35_1 : wc.cell? ⟨gb251, 1, none⟩ = some (.int .i64 t249) := zk1 BK251.out
         have hcz35_2 : wc.cell? ⟨gb251, 2, none⟩ = some (.int .u8 (rd l0 8)) := zk2 BK251.out
         have hcz35_3 : wc.cell? ⟨gb251, 3, none⟩ = some (.slice none 0 0) := zk3 BK251.out
         have hfz35_0 := blk_frozen BK251.out 0
         have hfz35_1 := blk_frozen BK251.out 1
         have hfz35_2 := blk_frozen BK251.out 2
         have hfz35_3 := blk_frozen BK251.out 3
         go_wp2
         go_meet
         case rel => exact ⟨_, (true), (by first | rfl | (simp; done) | (simp [*]; done)), H', ⟨by have := HJ5.out; first | omega | exact Nat.le_refl _⟩, ⟨by refine bq ?_; refine blk_far ?_ NB247_251.out _; exact bq BK247.out⟩, ⟨by refine bq ?_; refine blk_put (cs := #[.int .i64 t248, .int .i64 t249, .int .u8 (rd l0 8), .slice none 0 0]) ?_ 3 _ rfl; exact bq BK251.out⟩, ⟨bw2 HB.out GE247.out GE251.out⟩⟩
      case rest =>
       clear HC23
       try clear q2
       try clear hx2
       try clear qi2
       try clear c4b0
       try clear c4b1
       try clear c5b0
       try clear c5b1
       try clear c15b0
       try clear q25
       try clear hx25
       try clear qi25
       try clear c28b0
       try clear c28b1
       try clear c31b0
       try clear c31b1
       try clear hx250_0
       try clear hx252_0
       try clear q2
       try clear q250
       try clear q252
       obtain ⟨kq, x43_22, rfl, HA, HJ22, BK247, BK251, HB⟩ := hcut
       cases kq with
       | zero => exact absurd HA.out (by simp [impl_sectorOf.j1])
       | succ kj22 =>
        have H := HA.out
        clear HA
        simp only [impl_sectorOf.j1] at H
        by_cases c36 : x43_22 = true
        ·subst c36
         rw [if_pos rfl] at H
         simp only [Option.some.injEq, Prod.mk.injEq] at H
         obtain ⟨rfl, rfl, rfl, rfl, rfl⟩ := H
         have hnb37 := NB247_251.out
         have hnc37 := NB251_247.out
         have hcz38_0 : wc.cell? ⟨gb247, 0, none⟩ = some (.int .i64 0) := zk0 BK247.out
         have hcz38_1 : wc.cell? ⟨gb247, 1, none⟩ = some (.int .i64 0) := zk1 BK247.out
         have hcz38_2 : wc.cell? ⟨gb247, 2, none⟩ = some (.int .u8 0) := zk2 BK247.out
         have hcz38_3 : wc.cell? ⟨gb247, 3, none⟩ = some (.slice none 0 0) := zk3 BK247.out
         have hfz38_0 := blk_frozen BK247.out 0
         have hfz38_1 := blk_frozen BK247.out 1
         have hfz38_2 := blk_frozen BK247.out 2
         have hfz38_3 := blk_frozen BK247.out 3
         go_wp2
         refine bodyPost_ret (results_ct rfl _ _ gb247 93 #[.int .i64 0, .int .i64 0, .int .u8 0, .slice none 0 0] (0, 0) _ rfl (by refine bq ?_; refine blk_put (cs := #[.int .i64 0, .int .i64 0, .int .u8 0, .slice none 0 0]) ?_ 3 _ rfl; refine bq ?_; refine blk_put (cs := #[.int .i64 0, .int .i64 0, .int .u8 0, .slice none 0 0]) ?_ 2 _ rfl; refine bq ?_; refine blk_put (cs := #[.int .i64 0, .int .i64 0, .int .u8 0, .slice none 0 0]) ?_ 1 _ rfl; refine bq ?_; refine blk_put (cs := #[.int .i64 0, .int .i64 0, .int .u8 0, .slice none 0 0]) ?_ 0 _ rfl; exact bq BK247.out) Try.underlying93 rfl (by kernel_rfl)) rfl ?_
         exact ⟨none, 0, zw, .inl ⟨rfl, rfl, rfl⟩, bw2 HB.out GE247.out GE251.out⟩
        ·replace c36 := Bool.eq_false_iff.mpr c36
         subst c36
         rw [if_neg (show ¬ (false = true) by decide)] at H
         replace H := Option.bind_eq_some_iff.mp H
         obtain ⟨t257, A390, H⟩ := H
         have A39 := Ak A390
         clear A390
         replace H := Option.bind_eq_some_iff.mp H
         obtain ⟨t260, A400, H⟩ := H
         have A40 := Ak A400
         clear A400
         by_cases c41 : t260 = true
         ·subst c41
          rw [if_pos rfl] at H
          simp only [Option.some.injEq, Prod.mk.injEq] at H
          obtain ⟨rfl, rfl, rfl, rfl, rfl⟩ := H
          have hnb42 := NB251_247.out
          have hnc42 := NB247_251.out
          have hcz43_0 : wc.cell? ⟨gb251, 0, none⟩ = some (.int .i64 t248) := zk0 BK251.out
          have hcz43_1 : wc.cell? ⟨gb251, 1, none⟩ = some (.int .i64 t249) := zk1 BK251.out
          have hcz43_2 : wc.cell? ⟨gb251, 2, none⟩ = some (.int .u8 (rd l0 8)) := zk2 BK251.out
          have hcz43_3 : wc.cell? ⟨gb251, 3, none⟩ = some (.slice A30 t254.length c30) := zk3 BK251.out
          have hfz43_0 := blk_frozen BK251.out 0
          have hfz43_1 := blk_frozen BK251.out 1
          have hfz43_2 := blk_frozen BK251.out 2
          have hfz43_3 := blk_frozen BK251.out 3
          go_wp2_with (first | ((with_reducible refine gate_callee (f := 66) rfl ?_); refine goesL_ (some 46) rfl rfl Try.func66 (by kernel_rfl) rfl #[.agg #[.int .i64 t248, .int .i64 t249, .int .u8 (rd l0 8), .slice A30 t254.length c30]] rfl gm ?_; (with_reducible refine (impl_sector_bytes.calls kj22 t248 t249 (rd l0 8) _ _ t254 t257 _ ?side1 ?side2 A39.out).mono ?_); (case side1 => exact zq (Kd.C_below HP.out HB.out)); (case side2 => exact HPc.out); rintro e w44 ⟨v258, rfl, ho0, hb⟩; refine ⟨_, rfl, ?_⟩; have n1_ := Ak (Kd.R_lower ho0 (below_size (bw2 HB.out GE247.out GE251.out))); have n2_ := Ak (blk_below (bq BK247.out) hb); have n3_ := Ak (blk_below (bq BK251.out) hb); have n4_ := Ak (below_step (bw2 HB.out GE247.out GE251.out) hb); clear BK247; clear BK251; clear HB; have HO259 := n1_; have BK247 := n2_; have BK251 := n3_; have HB := n4_; clear n1_ n2_ n3_ n4_; obtain ⟨Ao45, co45, eo45⟩ := Kd.R_slice HO259.out; subst eo45) | ((with_reducible refine gate_callee (f := 131) rfl ?_); refine goesL_ (some 48) rfl rfl Try.func131 (by kernel_rfl) rfl #[.slice Ao45 t257.length co45, .slice (some ad250) l0.length c0] rfl gm ?_; (with_reducible refine (slices_Equal_byte_byte.calls kj22 _ _ t257 _ _ l0 true _ ?side1 ?side2 ?side3 ?side4 A40.out).mono ?_); (case side1 => repeat (first | exact (Kd.R_reads' HO259.out).2.2 | (with_reducible refine Kd.C_alloc ?_ _) | (with_reducible refine Kd.C_drewN ?_ _) | (with_reducible refine Kd.C_drew ?_))); (case side2 => exact (Kd.R_reads' HO259.out).2.1); (case side3 => exact zq (Kd.C_below HR0.out HB.out)); (case side4 => exact HC0.out); rintro e w' ⟨rfl, ⟨nd, rfl⟩⟩; refine ⟨_, rfl, ?_⟩; (try (rw [drewN_self w44]; generalize hq_ : World.drewN w44 _ = w44; replace HO259 : Aside0 (Kd.R (Kd.int .u8) 5 w44 w.heap.size (fun _ => True) (.slice Ao45 t257.length co45) t257) := ⟨by rw [← hq_]; exact (by refine rq ?_; exact Kd.R_mono HO259.out (fun _ hk => trivial))⟩; replace BK247 : Aside0 (w44.heap[gb247]? = some (.cells #[.int .i64 0, .int .i64 0, .int .u8 0, .slice none 0 0] 93 (0, 0))) := ⟨by rw [← hq_]; exact (bq BK247.out)⟩; replace BK251 : Aside0 (w44.heap[gb251]? = some (.cells #[.int .i64 t248, .int .i64 t249, .int .u8 (rd l0 8), .slice A30 t254.length c30] 93 (0, 0))) := ⟨by rw [← hq_]; exact (bq BK251.out)⟩; replace HB : Aside0 (Below w.heap.size w w44) := ⟨by rw [← hq_]; exact (bw2 HB.out GE247.out GE251.out)⟩; clear hq_)); have hcz46_0 := zk0 BK251.out; have hcz46_1 := zk1 BK251.out; have hcz46_2 := zk2 BK251.out; have hcz46_3 := zk3 BK251.out; have hfz46_0 := blk_frozen BK251.out 0; have hfz46_1 := blk_frozen BK251.out 1; have hfz46_2 := blk_frozen BK251.out 2; have hfz46_3 := blk_frozen BK251.out 3; have hcz47_0 := zk0 BK247.out; have hcz47_1 := zk1 BK247.out; have hcz47_2 := zk2 BK247.out; have hcz47_3 := zk3 BK247.out; have hfz47_0 := blk_frozen BK247.out 0; have hfz47_1 := blk_frozen BK247.out 1; have hfz47_2 := blk_frozen BK247.out 2; have hfz47_3 := blk_frozen BK247.out 3))
          refine bodyPost_ret (results_ct rfl _ _ gb247 93 #[.int .i64 t248, .int .i64 t249, .int .u8 (rd l0 8), .slice A30 t254.length c30] (0, 0) _ rfl (by refine bq ?_; refine blk_put (cs := #[.int .i64 t248, .int .i64 t249, .int .u8 (rd l0 8), .slice none 0 0]) ?_ 3 _ rfl; refine bq ?_; refine blk_put (cs := #[.int .i64 t248, .int .i64 t249, .int .u8 0, .slice none 0 0]) ?_ 2 _ rfl; refine bq ?_; refine blk_put (cs := #[.int .i64 t248, .int .i64 0, .int .u8 0, .slice none 0 0]) ?_ 1 _ rfl; refine bq ?_; refine blk_put (cs := #[.int .i64 0, .int .i64 0, .int .u8 0, .slice none 0 0]) ?_ 0 _ rfl; exact bq BK247.out) Try.underlying93 rfl (by kernel_rfl)) rfl ?_
          exact ⟨_, _, zw, HPs.out, bw2 HB.out GE247.out GE251.out⟩
         ·replace c41 := Bool.eq_false_iff.mpr c41
          subst c41
          rw [if_neg (show ¬ (false = true) by decide)] at H
          simp only [Option.some.injEq, Prod.mk.injEq] at H
          obtain ⟨rfl, rfl, rfl, rfl, rfl⟩ := H
          have hnb48 := NB251_247.out
          have hnc48 := NB247_251.out
          have hcz49_0 : wc.cell? ⟨gb251, 0, none⟩ = some (.int .i64 t248) := zk0 BK251.out
          have hcz49_1 : wc.cell? ⟨gb251, 1, none⟩ = some (.int .i64 t249) := zk1 BK251.out
          have hcz49_2 : wc.cell? ⟨gb251, 2, none⟩ = some (.int .u8 (rd l0 8)) := zk2 BK251.out
          have hcz49_3 : wc.cell? ⟨gb251, 3, none⟩ = some (.slice A30 t254.length c30) := zk3 BK251.out
          have hfz49_0 := blk_frozen BK251.out 0
          have hfz49_1 := blk_frozen BK251.out 1
          have hfz49_2 := blk_frozen BK251.out 2
          have hfz49_3 := blk_frozen BK251.out 3
          go_wp2_with (first | ((with_reducible refine gate_callee (f := 66) rfl ?_); refine goesL_ (some 46) rfl rfl Try.func66 (by kernel_rfl) rfl #[.agg #[.int .i64 t248, .int .i64 t249, .int .u8 (rd l0 8), .slice A30 t254.length c30]] rfl gm ?_; (with_reducible refine (impl_sector_bytes.calls kj22 t248 t249 (rd l0 8) _ _ t254 t257 _ ?side1 ?side2 A39.out).mono ?_); (case side1 => exact zq (Kd.C_below HP.out HB.out)); (case side2 => exact HPc.out); rintro e w50 ⟨v258, rfl, ho0, hb⟩; refine ⟨_, rfl, ?_⟩; have n1_ := Ak (Kd.R_lower ho0 (below_size (bw2 HB.out GE247.out GE251.out))); have n2_ := Ak (blk_below (bq BK247.out) hb); have n3_ := Ak (blk_below (bq BK251.out) hb); have n4_ := Ak (below_step (bw2 HB.out GE247.out GE251.out) hb); clear BK247; clear BK251; clear HB; have HO259 := n1_; have BK247 := n2_; have BK251 := n3_; have HB := n4_; clear n1_ n2_ n3_ n4_; obtain ⟨Ao51, co51, eo51⟩ := Kd.R_slice HO259.out; subst eo51) | ((with_reducible refine gate_callee (f := 131) rfl ?_); refine goesL_ (some 48) rfl rfl Try.func131 (by kernel_rfl) rfl #[.slice Ao51 t257.length co51, .slice (some ad250) l0.length c0] rfl gm ?_; (with_reducible refine (slices_Equal_byte_byte.calls kj22 _ _ t257 _ _ l0 false _ ?side1 ?side2 ?side3 ?side4 A40.out).mono ?_); (case side1 => repeat (first | exact (Kd.R_reads' HO259.out).2.2 | (with_reducible refine Kd.C_alloc ?_ _) | (with_reducible refine Kd.C_drewN ?_ _) | (with_reducible refine Kd.C_drew ?_))); (case side2 => exact (Kd.R_reads' HO259.out).2.1); (case side3 => exact zq (Kd.C_below HR0.out HB.out)); (case side4 => exact HC0.out); rintro e w' ⟨rfl, ⟨nd, rfl⟩⟩; refine ⟨_, rfl, ?_⟩; (try (rw [drewN_self w50]; generalize hq_ : World.drewN w50 _ = w50; replace HO259 : Aside0 (Kd.R (Kd.int .u8) 5 w50 w.heap.size (fun _ => True) (.slice Ao51 t257.length co51) t257) := ⟨by rw [← hq_]; exact (by refine rq ?_; exact Kd.R_mono HO259.out (fun _ hk => trivial))⟩; replace BK247 : Aside0 (w50.heap[gb247]? = some (.cells #[.int .i64 0, .int .i64 0, .int .u8 0, .slice none 0 0] 93 (0, 0))) := ⟨by rw [← hq_]; exact (bq BK247.out)⟩; replace BK251 : Aside0 (w50.heap[gb251]? = some (.cells #[.int .i64 t248, .int .i64 t249, .int .u8 (rd l0 8), .slice A30 t254.length c30] 93 (0, 0))) := ⟨by rw [← hq_]; exact (bq BK251.out)⟩; replace HB : Aside0 (Below w.heap.size w w50) := ⟨by rw [← hq_]; exact (bw2 HB.out GE247.out GE251.out)⟩; clear hq_)); have hcz52_0 := zk0 BK247.out; have hcz52_1 := zk1 BK247.out; have hcz52_2 := zk2 BK247.out; have hcz52_3 := zk3 BK247.out; have hfz52_0 := blk_frozen BK247.out 0; have hfz52_1 := blk_frozen BK247.out 1; have hfz52_2 := blk_frozen BK247.out 2; have hfz52_3 := blk_frozen BK247.out 3))
          refine bodyPost_ret (results_ct rfl _ _ gb247 93 #[.int .i64 0, .int .i64 0, .int .u8 0, .slice none 0 0] (0, 0) _ rfl (by refine bq ?_; refine blk_put (cs := #[.int .i64 0, .int .i64 0, .int .u8 0, .slice none 0 0]) ?_ 3 _ rfl; refine bq ?_; refine blk_put (cs := #[.int .i64 0, .int .i64 0, .int .u8 0, .slice none 0 0]) ?_ 2 _ rfl; refine bq ?_; refine blk_put (cs := #[.int .i64 0, .int .i64 0, .int .u8 0, .slice none 0 0]) ?_ 1 _ rfl; refine bq ?_; refine blk_put (cs := #[.int .i64 0, .int .i64 0, .int .u8 0, .slice none 0 0]) ?_ 0 _ rfl; exact bq BK247.out) Try.underlying93 rfl (by kernel_rfl)) rfl ?_
          exact ⟨none, 0, zw, .inl ⟨rfl, rfl, rfl⟩, bw2 HB.out GE247.out GE251.out⟩
  ·rw [if_neg c5] at H
   exact absurd H (by simp)
 ·rw [if_neg c4] at H
  exact absurd H (by simp)

mutual
def impl_logOf.l0 : Nat → Int → Int → List (List Int) → List Int → List Int → Int → Int → Bool → Int → List Int → List (S96) → Int → Int → Int → Int → Option (Int × Int × Int × Int × (List (List Int)) × List Int)
 | 0, _, _, _, _, _, _, _, _, _, _, _, _, _, _, _ => none
 | k + 1, x1, x2, x10, x11, x12, x13, x14, x15, x16, x262000, x262001, x264000, x264001, x264002, x264003 => if x16 ≤ x2 then ((impl_ReadSector.f k x262000 x262001 x16).bind fun bt264 => ((impl_sectorOf.f k bt264.1).bind fun bt268 => (if bt268.2.2.2.2 = true then (impl_logOf.j1 k x1 x2 x10 x11 x12 x13 x14 x15 x16 bt268.2.2.2.2 x262000 x262001 x264000 x264001 x264002 (mx x264003 (wrap64 (bt268.1 + 1))) bt268.1 bt268.2.1 bt268.2.2.1 bt268.2.2.2.1) else (impl_logOf.j1 k x1 x2 x10 x11 x12 x13 x14 x15 x16 bt268.2.2.2.2 x262000 x262001 x264000 x264001 x264002 x264003 bt268.1 bt268.2.1 bt268.2.2.1 bt268.2.2.2.1)))) else (some (x264000, x264001, x264002, x264003, x10, x11))
def impl_logOf.j1 : Nat → Int → Int → List (List Int) → List Int → List Int → Int → Int → Bool → Int → Bool → List Int → List (S96) → Int → Int → Int → Int → Int → Int → Int → List Int → Option (Int × Int × Int × Int × (List (List Int)) × List Int)
 | 0, _, _, _, _, _, _, _, _, _, _, _, _, _, _, _, _, _, _, _, _ => none
 | k + 1, x1, x2, x10, x11, x12, x13, x14, x15, x16, x20, x262000, x262001, x264000, x264001, x264002, x264003, x276000, x276001, x276002, x276003 => if x15 = true then (impl_logOf.j2 k x1 x2 x10 x11 x12 x13 x14 true x16 x262000 x262001 x264000 x264001 x264002 x264003 x276000 x276001 x276002 x276003) else (if x20 = true then (if x276001 = (wrap64 (x16 - x1)) then (if x276000 < x13 then (impl_logOf.j2 k x1 x2 x10 x11 x12 x13 x14 true x16 x262000 x262001 x264000 x264001 x264002 x264003 x276000 x276001 x276002 x276003) else (if x14 > 0 then (impl_logOf.j2 k x1 x2 x10 x11 x12 x13 x14 (x276000 != x14) x16 x262000 x262001 x264000 x264001 x264002 x264003 x276000 x276001 x276002 x276003) else (impl_logOf.j2 k x1 x2 x10 x11 x12 x13 x14 false x16 x262000 x262001 x264000 x264001 x264002 x264003 x276000 x276001 x276002 x276003))) else (impl_logOf.j2 k x1 x2 x10 x11 x12 x13 x14 true x16 x262000 x262001 x264000 x264001 x264002 x264003 x276000 x276001 x276002 x276003)) else (impl_logOf.j2 k x1 x2 x10 x11 x12 x13 x14 true x16 x262000 x262001 x264000 x264001 x264002 x264003 x276000 x276001 x276002 x276003))
def impl_logOf.j2 : Nat → Int → Int → List (List Int) → List Int → List Int → Int → Int → Bool → Int → List Int → List (S96) → Int → Int → Int → Int → Int → Int → Int → List Int → Option (Int × Int × Int × Int × (List (List Int)) × List Int)
 | 0, _, _, _, _, _, _, _, _, _, _, _, _, _, _, _, _, _, _, _ => none
 | k + 1, x1, x2, x10, x11, x12, x13, x14, x15, x16, x262000, x262001, x264000, x264001, x264002, x264003, x276000, x276001, x276002, x276003 => if x15 = true then (impl_logOf.l0 k x1 x2 x10 x11 x12 x13 x14 x15 (wrap64 (x16 + 1)) x262000 x262001 x264000 x264001 x264002 x264003) else (if x12.length + x276003.length < 140737488355328 then ((some (x12 ++ x276003 : List Int)).bind fun y276 => (if x276002 = 2 then ((slices_Clone_byte_byte.f y276).bind fun t279 => (if x10.length < 5864062014805 then (if x11.length < 17592186044416 then (impl_logOf.l0 k x1 x2 (x10 ++ [t279]) (x11 ++ [wrap64 ((wrap64 (x16 - x1)) + 1)]) ([] : List Int) x276000 0 x15 (wrap64 (x16 + 1)) x262000 x262001 x264000 x264001 (wrap64 ((wrap64 (x16 - x1)) + 1)) x264003) else (none)) else (none))) else (impl_logOf.l0 k x1 x2 x10 x11 y276 x276000 x276000 x15 (wrap64 (x16 + 1)) x262000 x262001 x264000 x264001 x264002 x264003))) else (none))
end
def impl_logOf.f (k : Nat) (l0_0 : List Int) (l0_1 : List (S96)) (a1 : Int) (a2 : Int) : Option (Int × Int × Int × Int × (List (List Int)) × List Int) := impl_logOf.l0 k a1 a2 ([] : List (List Int)) ([] : List Int) ([] : List Int) 1 0 false a1 l0_0 l0_1 a1 a2 0 1
set_option maxHeartbeats 8000000 in
set_option maxRecDepth 100000 in
theorem impl_logOf.calls (k : Nat) (A0_0 : Option Addr) (c0_0 : Nat) (l0_0 : List Int) (A0_1 : Option Addr) (c0_1 : Nat) (l0_1 : List (S96)) (a1 : Int) (a2 : Int) (r1 : Int) (r2 : Int) (r3 : Int) (r4 : Int) (r5 : List (List Int)) (r6 : List Int) (w : World) (hr0_0 : Kd.C (Kd.int .u8) w A0_0 l0_0.length l0_0) (hc0_0 : l0_0.length ≤ c0_0) (hr0_1 : Kd.C k96 w A0_1 l0_1.length l0_1) (hc0_1 : l0_1.length ≤ c0_1) (h : impl_logOf.f k l0_0 l0_1 a1 a2 = some (r1, r2, r3, r4, r5, r6)) :
  Calls Try.prog 60 #[.agg #[.slice A0_0 l0_0.length c0_0, .slice A0_1 l0_1.length c0_1], .int .i64 a1, .int .i64 a2] w fun e w' => ∃ v4_ v5_ : Value, e = .returned (.tuple #[.agg #[.int .i64 r1, .int .i64 r2, .int .i64 r3, .int .i64 r4], v4_, v5_]) ∧ Kd.S (Kd.slice 5 (Kd.int .u8)) 22 w' w.heap.size (fun _ => True) v4_ r5 ∧ Kd.R (Kd.int .i64) 3 w' w.heap.size (fun _ => True) v5_ r6 ∧ Below w.heap.size w w' := by
 have hu31 := Try.underlying31
 have hu32 := Try.underlying32
 have hu93 := Try.underlying93
 have HR0_0 := Ak hr0_0
 have HC0_0 := Ak hc0_0
 clear hr0_0 hc0_0
 have HR0_1 := Ak hr0_1
 have HC0_1 := Ak hc0_1
 clear hr0_1 hc0_1
 have HB := Ak (Below.refl w.heap.size w)
 have H := h
 unfold impl_logOf.f at H
 clear h
 have H' := Ak H
 clear H
 go_enter Try.func60, Try.ntmps60
 go_wp2_with (first | ((with_reducible refine gate_dst (N := 3) rfl ?_); refine box_event ?hg (N := 3) ?hd (cs := #[.slice A0_0 l0_0.length c0_0, .slice A0_1 l0_1.length c0_1]) (t := 31) ?hr ?_; (case hd => rfl); (case hg => rfl); (case hr => first | (go_simp; done) | (go_simp; rfl)); intro gb261 hg w4 hbox hb; have BK261 := Ak (hbox); have GW261 := Ak ((zb hg (bw HB.out))); have GE261 := Ak ((zb hg (bw HB.out))); replace HB := Ak (below_step (bw HB.out) hb); clear hb hbox hg) | ((with_reducible refine gate_dst (N := 6) rfl ?_); refine box_event ?hg (N := 6) ?hd (cs := #[.int .i64 0, .int .i64 0, .int .i64 0, .int .i64 0]) (t := 32) ?hr ?_; (case hd => rfl); (case hg => rfl); (case hr => first | (go_simp; done) | (go_simp; rfl)); intro gb262 hg w5 hbox hb; have BK262 := Ak (hbox); have GW262 := Ak ((zb hg (bw1 HB.out GE261.out))); have GE262 := Ak ((zb hg (bw1 HB.out GE261.out))); replace HB := Ak (below_step (bw1 HB.out GE261.out) hb); have NB261_262 := Ak ((zl hg (bq BK261.out))); have NB262_261 := Ak ((zm hg (bq BK261.out))); replace BK261 := Ak (blk_below (bq BK261.out) hb); clear hb hbox hg) | ((with_reducible refine gate_dst (N := 9) rfl ?_); refine box_event ?hg (N := 9) ?hd (cs := #[.int .i64 0, .int .i64 0, .int .i64 0, .int .i64 0]) (t := 32) ?hr ?_; (case hd => rfl); (case hg => rfl); (case hr => first | (go_simp; done) | (go_simp; rfl)); intro gb263 hg w6 hbox hb; have BK263 := Ak (hbox); have GW263 := Ak ((zb hg (bw2 HB.out GE261.out GE262.out))); have GE263 := Ak ((zb hg (bw2 HB.out GE261.out GE262.out))); replace HB := Ak (below_step (bw2 HB.out GE261.out GE262.out) hb); have NB261_263 := Ak ((zl hg (bq BK261.out))); have NB263_261 := Ak ((zm hg (bq BK261.out))); replace BK261 := Ak (blk_below (bq BK261.out) hb); have NB262_263 := Ak ((zl hg (bq BK262.out))); have NB263_262 := Ak ((zm hg (bq BK262.out))); replace BK262 := Ak (blk_below (bq BK262.out) hb); clear hb hbox hg; have hnb7 := NB263_261.out; have hnc7 := NB261_263.out; have hnb8 := NB263_262.out; have hnc8 := NB262_263.out; have hcz9_0 := zk0 BK263.out; have hcz9_1 := zk1 BK263.out; have hcz9_2 := zk2 BK263.out; have hcz9_3 := zk3 BK263.out; have hfz9_0 := blk_frozen BK263.out 0; have hfz9_1 := blk_frozen BK263.out 1; have hfz9_2 := blk_frozen BK263.out 2; have hfz9_3 := blk_frozen BK263.out 3))
 go_loopg [10, 11, 12, 13, 14, 15, 16] k (fun kq v10 v11 v12 v13 v14 v15 v16 w' => ∃ (x10_1 : List (List Int)) (x11_1 : List Int) (x12_1 : List Int) (x13_1 : Int) (x14_1 : Int) (x15_1 : Bool) (x16_1 : Int) (x264002_1 : Int) (x264003_1 : Int), v13 = .int .i64 x13_1 ∧ v14 = .int .i64 x14_1 ∧ v15 = .bool x15_1 ∧ v16 = .int .i64 x16_1 ∧ Aside0 (impl_logOf.l0 kq a1 a2 x10_1 x11_1 x12_1 x13_1 x14_1 x15_1 x16_1 l0_0 l0_1 a1 a2 x264002_1 x264003_1 = some (r1, r2, r3, r4, r5, r6)) ∧ Aside0 (kq ≤ k) ∧ Aside0 (Kd.S (Kd.slice 5 (Kd.int .u8)) 22 w' w.heap.size (fun k_ => Nb k_ v12) v10 x10_1) ∧ Aside0 (Kd.R (Kd.int .i64) 3 w' w.heap.size (fun _ => True) v11 x11_1) ∧ Aside0 (Kd.R (Kd.int .u8) 5 w' w.heap.size (fun _ => True) v12 x12_1) ∧ Aside0 (w'.heap[gb261]? = some (.cells #[(.slice A0_0 l0_0.length c0_0), (.slice A0_1 l0_1.length c0_1)] 31 (0, 0))) ∧ Aside0 (w'.heap[gb262]? = some (.cells #[.int .i64 0, .int .i64 0, .int .i64 0, .int .i64 0] 32 (0, 0))) ∧ Aside0 (w'.heap[gb263]? = some (.cells #[.int .i64 a1, .int .i64 a2, .int .i64 x264002_1, .int .i64 x264003_1] 32 (0, 0))) ∧ Aside0 (Below w.heap.size w w'))
 case atStart => exact ⟨(([] : List (List Int))), (([] : List Int)), (([] : List Int)), (1), (0), (false), (a1), (0), (1), (by first | rfl | (simp; done) | (simp [*]; done)), (by first | rfl | (simp; done) | (simp [*]; done)), (by first | rfl | (simp; done) | (simp [*]; done)), (by first | rfl | (simp; done) | (simp [*]; done)), H', ⟨Nat.le_refl _⟩, ⟨by first | exact Kd.S_nil _ _ _ _ _ | exact Kd.N_nil _ _ _ _ _ | exact Kd.V_nil _ _ _ _ _ | exact Kd.Q_nil _ _ _ _ _ | exact Kd.R_nil _ _ _ _ _⟩, ⟨by first | exact Kd.R_nil _ _ _ _ _ | exact Kd.N_nil _ _ _ _ _ | exact Kd.V_nil _ _ _ _ _ | exact Kd.Q_nil _ _ _ _ _ | exact Kd.S_nil _ _ _ _ _⟩, ⟨by first | exact Kd.R_nil _ _ _ _ _ | exact Kd.N_nil _ _ _ _ _ | exact Kd.V_nil _ _ _ _ _ | exact Kd.Q_nil _ _ _ _ _ | exact Kd.S_nil _ _ _ _ _⟩, ⟨by refine bq ?_; refine blk_far ?_ NB261_263.out _; refine bq ?_; refine blk_far ?_ NB261_263.out _; refine bq ?_; refine blk_far ?_ NB261_263.out _; refine bq ?_; refine blk_far ?_ NB261_263.out _; exact bq BK261.out⟩, ⟨by refine bq ?_; refine blk_far ?_ NB262_263.out _; refine bq ?_; refine blk_far ?_ NB262_263.out _; refine bq ?_; refine blk_far ?_ NB262_263.out _; refine bq ?_; refine blk_far ?_ NB262_263.out _; exact bq BK262.out⟩, ⟨by refine bq ?_; refine blk_put (cs := #[.int .i64 a1, .int .i64 a2, .int .i64 0, .int .i64 0]) ?_ 3 _ rfl; refine bq ?_; refine blk_put (cs := #[.int .i64 a1, .int .i64 a2, .int .i64 0, .int .i64 0]) ?_ 2 _ rfl; refine bq ?_; refine blk_put (cs := #[.int .i64 a1, .int .i64 0, .int .i64 0, .int .i64 0]) ?_ 1 _ rfl; refine bq ?_; refine blk_put (cs := #[.int .i64 0, .int .i64 0, .int .i64 0, .int .i64 0]) ?_ 0 _ rfl; exact bq BK263.out⟩, ⟨bw3 HB.out GE261.out GE262.out GE263.out⟩⟩
 case round =>
  clear H'
  obtain ⟨x10_1, x11_1, x12_1, x13_1, x14_1, x15_1, x16_1, x264002_1, x264003_1, rfl, rfl, rfl, rfl, HA, HK1, HO_10, HO_11, HO_12, BK261, BK262, BK263, HB⟩ := hrel
  cases gk with
  | zero => exact absurd HA.out (by simp [impl_logOf.l0])
  | succ k1 =>
   have H := HA.out
   clear HA
   simp only [impl_logOf.l0] at H
   by_cases c10 : x16_1 ≤ a2
   ·rw [if_pos c10] at H
    have c10b0 := decide_eq_true c10
    clear c10
    replace H := Option.bind_eq_some_iff.mp H
    obtain ⟨⟨t264, t267⟩, A110, H⟩ := H
    (try dsimp only at H)
    have A11 := Ak A110
    clear A110
    replace H := Option.bind_eq_some_iff.mp H
    obtain ⟨⟨t268, t269, t270, t271, t274⟩, A120, H⟩ := H
    (try dsimp only at H)
    have A12 := Ak A120
    clear A120
    have HC13 := Ak H
    clear H
    have hnb14 := NB261_262.out
    have hnc14 := NB262_261.out
    have hnb15 := NB261_263.out
    have hnc15 := NB263_261.out
    have hcz16_0 : wr.cell? ⟨gb261, 0, none⟩ = some (.slice A0_0 l0_0.length c0_0) := zk0 BK261.out
    have hcz16_1 : wr.cell? ⟨gb261, 1, none⟩ = some (.slice A0_1 l0_1.length c0_1) := zk1 BK261.out
    have hfz16_0 := blk_frozen BK261.out 0
    have hfz16_1 := blk_frozen BK261.out 1
    go_upto_if 41 with (first | ((with_reducible refine gate_callee (f := 107) rfl ?_); refine goesL_ (some 33) rfl rfl Try.func107 (by kernel_rfl) rfl #[.agg #[.slice A0_0 l0_0.length c0_0, .slice A0_1 l0_1.length c0_1], .int .i64 x16_1] rfl gm ?_; (with_reducible refine (impl_ReadSector.calls k1 _ _ l0_0 _ _ l0_1 x16_1 t264 t267 _ ?side1 ?side2 ?side3 ?side4 A11.out).mono ?_); (case side1 => exact zq (Kd.C_below HR0_0.out HB.out)); (case side2 => exact HC0_0.out); (case side3 => exact zq (Kd.C_below HR0_1.out HB.out)); (case side4 => exact HC0_1.out); rintro e w17 ⟨v265, rfl, ho0, hb⟩; refine ⟨_, rfl, ?_⟩; replace HO_10 := Ak (Kd.S_elder' (sq HO_10.out) (Kd.R_base ho0) hb); replace HO_11 := Ak (Kd.R_below (rq HO_11.out) hb); have HO266 := Ak (Kd.R_lower (Kd.R_new' ho0 (Kd.R_lt (rq HO_12.out))) (below_size (bw3 HB.out GE261.out GE262.out GE263.out))); replace HO_12 := Ak (Kd.R_elder' (rq HO_12.out) (Kd.R_base ho0) hb); replace BK261 := Ak (blk_below (bq BK261.out) hb); replace BK262 := Ak (blk_below (bq BK262.out) hb); replace BK263 := Ak (blk_below (bq BK263.out) hb); replace HB := Ak (below_step (bw3 HB.out GE261.out GE262.out GE263.out) hb); obtain ⟨Ao18, co18, eo18⟩ := Kd.R_slice HO266.out; subst eo18) | ((with_reducible refine gate_callee (f := 108) rfl ?_); refine goesL_ (some 38) rfl rfl Try.func108 (by kernel_rfl) rfl #[.slice Ao18 t264.length co18] rfl gm ?_; (with_reducible refine (impl_sectorOf.calls k1 _ _ t264 t268 t269 t270 t271 t274 _ ?side1 ?side2 A12.out).mono ?_); (case side1 => repeat (first | exact (Kd.R_reads' HO266.out).2.2 | (with_reducible refine Kd.C_alloc ?_ _) | (with_reducible refine Kd.C_drewN ?_ _) | (with_reducible refine Kd.C_drew ?_))); (case side2 => exact (Kd.R_reads' HO266.out).2.1); rintro e w19 ⟨Ao25, co25, rfl, hs0, hb⟩; refine ⟨_, rfl, ?_⟩; replace HO_10 := Ak (View.S_sub (Kd.S_below (sq HO_10.out) hb) hs0); replace HO_11 := Ak (Kd.R_below (rq HO_11.out) hb); replace HO_12 := Ak (View.R_sub (Kd.R_below (rq HO_12.out) hb) hs0); have HO273 := Ak (View.W_mono (ok' := fun k_ => (True ∧ some k_ ≠ (u12 : Value).ownBlock) ∧ True) (View.W_of (Kd.R_below (rq HO266.out) hb) hs0) (fun _ h_ => ⟨h_, trivial⟩)); replace BK261 := Ak (blk_below (bq BK261.out) hb); replace BK262 := Ak (blk_below (bq BK262.out) hb); replace BK263 := Ak (blk_below (bq BK263.out) hb); replace HB := Ak (below_step (bw3 HB.out GE261.out GE262.out GE263.out) hb); clear HO266) | ((with_reducible refine gate_dst (N := 19) rfl ?_); refine box_event ?hg (N := 19) ?hd (cs := #[.int .i64 0, .int .i64 0, .int .u8 0, .slice none 0 0]) (t := 93) ?hr ?_; (case hd => rfl); (case hg => rfl); (case hr => first | (go_simp; done) | (go_simp; rfl)); intro gb275 hg w20 hbox hb; replace HO_10 := Ak (Kd.S_below (sq HO_10.out) hb); replace HO_11 := Ak (Kd.R_below (rq HO_11.out) hb); replace HO_12 := Ak (Kd.R_below (rq HO_12.out) hb); replace HO273 := Ak (View.W_below (by (with_reducible repeat (first | apply View.W_alloc | apply View.W_drewN | apply View.W_drew)); exact HO273.out) hb); have BK275 := Ak (hbox); have GW275 := Ak ((zb hg (bw3 HB.out GE261.out GE262.out GE263.out))); have GE275 := Ak ((zb hg (bw3 HB.out GE261.out GE262.out GE263.out))); replace HB := Ak (below_step (bw3 HB.out GE261.out GE262.out GE263.out) hb); have NB261_275 := Ak ((zl hg (bq BK261.out))); have NB275_261 := Ak ((zm hg (bq BK261.out))); replace BK261 := Ak (blk_below (bq BK261.out) hb); have NB262_275 := Ak ((zl hg (bq BK262.out))); have NB275_262 := Ak ((zm hg (bq BK262.out))); replace BK262 := Ak (blk_below (bq BK262.out) hb); have NB263_275 := Ak ((zl hg (bq BK263.out))); have NB275_263 := Ak ((zm hg (bq BK263.out))); replace BK263 := Ak (blk_below (bq BK263.out) hb); clear hb hbox hg; have hnb21 := NB275_261.out; have hnc21 := NB261_275.out; have hnb22 := NB275_262.out; have hnc22 := NB262_275.out; have hnb23 := NB275_263.out; have hnc23 := NB263_275.out; have hcz24_0 := zk0 BK275.out; have hcz24_1 := zk1 BK275.out; have hcz24_2 := zk2 BK275.out; have hcz24_3 := zk3 BK275.out; have hfz24_0 := blk_frozen BK275.out 0; have hfz24_1 := blk_frozen BK275.out 1; have hfz24_2 := blk_frozen BK275.out 2; have hfz24_3 := blk_frozen BK275.out 3))
    (try simp only [Act.put, sT, sZ, sS])
    go_cut [] (fun wc => ∃ (kq : Nat) (x264003_12 : Int), Aside0 (impl_logOf.j1 kq a1 a2 x10_1 x11_1 x12_1 x13_1 x14_1 x15_1 x16_1 t274 l0_0 l0_1 a1 a2 x264002_1 x264003_12 t268 t269 t270 t271 = some (r1, r2, r3, r4, r5, r6)) ∧ Aside0 (kq ≤ k1) ∧ Aside0 (Kd.S (Kd.slice 5 (Kd.int .u8)) 22 wc w.heap.size (fun k_ => some k_ ≠ (u12 : Value).ownBlock ∧ some k_ ≠ ((.slice Ao25 t271.length co25) : Value).ownBlock) u10 x10_1) ∧ Aside0 (Kd.R (Kd.int .i64) 3 wc w.heap.size (fun _ => True) u11 x11_1) ∧ Aside0 (Kd.R (Kd.int .u8) 5 wc w.heap.size (fun k_ => some k_ ≠ ((.slice Ao25 t271.length co25) : Value).ownBlock) u12 x12_1) ∧ Aside0 (View.W wc w.heap.size (fun k_ => some k_ ≠ (u12 : Value).ownBlock) (.slice Ao25 t271.length co25) t271) ∧ Aside0 (wc.heap[gb261]? = some (.cells #[(.slice A0_0 l0_0.length c0_0), (.slice A0_1 l0_1.length c0_1)] 31 (0, 0))) ∧ Aside0 (wc.heap[gb262]? = some (.cells #[.int .i64 0, .int .i64 0, .int .i64 0, .int .i64 0] 32 (0, 0))) ∧ Aside0 (wc.heap[gb263]? = some (.cells #[.int .i64 a1, .int .i64 a2, .int .i64 x264002_1, .int .i64 x264003_12] 32 (0, 0))) ∧ Aside0 (wc.heap[gb275]? = some (.cells #[.int .i64 t268, .int .i64 t269, .int .u8 t270, (.slice Ao25 t271.length co25)] 93 (0, 0))) ∧ Aside0 (Below w.heap.size w wc))
    case first =>
     have H := HC13.out
     clear HC13
     by_cases c26 : t274 = true
     ·subst c26
      rw [if_pos rfl] at H
      obtain ⟨ji27, hji27⟩ : ∃ j_ : Int, (mx x264003_1 (wrap64 (t268 + 1))) = j_ := ⟨_, rfl⟩
      replace H : (impl_logOf.j1 k1 a1 a2 x10_1 x11_1 x12_1 x13_1 x14_1 x15_1 x16_1 true l0_0 l0_1 a1 a2 x264002_1 ji27 t268 t269 t270 t271) = some (r1, r2, r3, r4, r5, r6) := by first | (rw [hji27] at H; exact H) | (simp only [hji27] at H ⊢; exact H)
      have hji27_ : (if x264003_1 < (wrap64 (t268 + 1)) then (wrap64 (t268 + 1)) else x264003_1) = ji27 := hji27
      have H' := Ak H
      clear H
      have hnb28 := NB263_261.out
      have hnc28 := NB261_263.out
      have hnb29 := NB263_262.out
      have hnc29 := NB262_263.out
      have hnb30 := NB263_275.out
      have hnc30 := NB275_263.out
      have hcz31_0 := zk0 BK263.out
      have hcz31_1 := zk1 BK263.out
      have hcz31_2 := zk2 BK263.out
      have hcz31_3 := zk3 BK263.out
      have hfz31_0 := blk_frozen BK263.out 0
      have hfz31_1 := blk_frozen BK263.out 1
      have hfz31_2 := blk_frozen BK263.out 2
      have hfz31_3 := blk_frozen BK263.out 3
      have hnb32 := NB275_261.out
      have hnc32 := NB261_275.out
      have hnb33 := NB275_262.out
      have hnc33 := NB262_275.out
      have hcz34_0 := zk0 BK275.out
      have hcz34_1 := zk1 BK275.out
      have hcz34_2 := zk2 BK275.out
      have hcz34_3 := zk3 BK275.out
      have hfz34_0 := blk_frozen BK275.out 0
      have hfz34_1 := blk_frozen BK275.out 1
      have hfz34_2 := blk_frozen BK275.out 2
      have hfz34_3 := blk_frozen BK275.out 3
      go_wp2
      go_meet
      case rel => exact ⟨_, (ji27), H', ⟨by have := HK1.out; first | omega | exact Nat.le_refl _⟩, ⟨by refine sq ?_; exact Kd.S_mono (Kd.S_far (p := ⟨gb263, 3, none⟩) (Kd.S_far (p := ⟨gb275, 3, none⟩) (Kd.S_far (p := ⟨gb275, 2, none⟩) (Kd.S_far (p := ⟨gb275, 1, none⟩) (Kd.S_far (p := ⟨gb275, 0, none⟩) (Kd.S_types (Kd.S_types HO_10.out BK275.out (by decide)) BK263.out (by decide)) (fun _ hk => hk.1.2) (.int .i64 t268)) (fun _ hk => hk.1.2) (.int .i64 t269)) (fun _ hk => hk.1.2) (.int .u8 t270)) (fun _ hk => hk.1.2) (.slice Ao25 t271.length co25)) (fun _ hk => hk.2) (.int .i64 ji27)) (fun _ hk => ⟨hk.1.1.1.1, hk.1.1.2⟩)⟩, ⟨by refine rq ?_; exact Kd.R_mono (Kd.R_far (p := ⟨gb263, 3, none⟩) (Kd.R_far (p := ⟨gb275, 3, none⟩) (Kd.R_far (p := ⟨gb275, 2, none⟩) (Kd.R_far (p := ⟨gb275, 1, none⟩) (Kd.R_far (p := ⟨gb275, 0, none⟩) (Kd.R_types (Kd.R_types HO_11.out BK275.out (by decide)) BK263.out (by decide)) (fun _ hk => hk.1.2) (.int .i64 t268)) (fun _ hk => hk.1.2) (.int .i64 t269)) (fun _ hk => hk.1.2) (.int .u8 t270)) (fun _ hk => hk.1.2) (.slice Ao25 t271.length co25)) (fun _ hk => hk.2) (.int .i64 ji27)) (fun _ hk => trivial)⟩, ⟨by refine rq ?_; exact Kd.R_mono (Kd.R_far (p := ⟨gb263, 3, none⟩) (Kd.R_far (p := ⟨gb275, 3, none⟩) (Kd.R_far (p := ⟨gb275, 2, none⟩) (Kd.R_far (p := ⟨gb275, 1, none⟩) (Kd.R_far (p := ⟨gb275, 0, none⟩) (Kd.R_types (Kd.R_types HO_12.out BK275.out (by decide)) BK263.out (by decide)) (fun _ hk => hk.1.2) (.int .i64 t268)) (fun _ hk => hk.1.2) (.int .i64 t269)) (fun _ hk => hk.1.2) (.int .u8 t270)) (fun _ hk => hk.1.2) (.slice Ao25 t271.length co25)) (fun _ hk => hk.2) (.int .i64 ji27)) (fun _ hk => hk.1.1.2)⟩, ⟨by (with_reducible repeat (first | apply View.W_alloc | apply View.W_drewN | apply View.W_drew)); exact View.W_mono (View.W_far (p := ⟨gb263, 3, none⟩) (View.W_far (p := ⟨gb275, 3, none⟩) (View.W_far (p := ⟨gb275, 2, none⟩) (View.W_far (p := ⟨gb275, 1, none⟩) (View.W_far (p := ⟨gb275, 0, none⟩) (View.W_types (View.W_types HO273.out BK275.out (by decide)) BK263.out (by decide)) (fun _ hk => hk.1.2) (.int .i64 t268)) (fun _ hk => hk.1.2) (.int .i64 t269)) (fun _ hk => hk.1.2) (.int .u8 t270)) (fun _ hk => hk.1.2) (.slice Ao25 t271.length co25)) (fun _ hk => hk.2) (.int .i64 ji27)) (fun _ hk => hk.1.1.1.2)⟩, ⟨by refine bq ?_; refine blk_far ?_ NB261_263.out _; refine bq ?_; refine blk_far ?_ NB261_275.out _; refine bq ?_; refine blk_far ?_ NB261_275.out _; refine bq ?_; refine blk_far ?_ NB261_275.out _; refine bq ?_; refine blk_far ?_ NB261_275.out _; exact bq BK261.out⟩, ⟨by refine bq ?_; refine blk_far ?_ NB262_263.out _; refine bq ?_; refine blk_far ?_ NB262_275.out _; refine bq ?_; refine blk_far ?_ NB262_275.out _; refine bq ?_; refine blk_far ?_ NB262_275.out _; refine bq ?_; refine blk_far ?_ NB262_275.out _; exact bq BK262.out⟩, ⟨by refine bq ?_; refine blk_put (cs := #[.int .i64 a1, .int .i64 a2, .int .i64 x264002_1, .int .i64 x264003_1]) ?_ 3 _ rfl; refine bq ?_; refine blk_far ?_ NB263_275.out _; refine bq ?_; refine blk_far ?_ NB263_275.out _; refine bq ?_; refine blk_far ?_ NB263_275.out _; refine bq ?_; refine blk_far ?_ NB263_275.out _; exact bq BK263.out⟩, ⟨by refine bq ?_; refine blk_far ?_ NB275_263.out _; refine bq ?_; refine blk_put (cs := #[.int .i64 t268, .int .i64 t269, .int .u8 t270, .slice none 0 0]) ?_ 3 _ rfl; refine bq ?_; refine blk_put (cs := #[.int .i64 t268, .int .i64 t269, .int .u8 0, .slice none 0 0]) ?_ 2 _ rfl; refine bq ?_; refine blk_put (cs := #[.int .i64 t268, .int .i64 0, .int .u8 0, .slice none 0 0]) ?_ 1 _ rfl; refine bq ?_; refine blk_put (cs := #[.int .i64 0, .int .i64 0, .int .u8 0, .slice none 0 0]) ?_ 0 _ rfl; exact bq BK275.out⟩, ⟨bw4 HB.out GE261.out GE262.out GE263.out GE275.out⟩⟩
     ·replace c26 := Bool.eq_false_iff.mpr c26
      subst c26
      rw [if_neg (show ¬ (false = true) by decide)] at H
      have H' := Ak H
      clear H
      go_wp2
      go_meet
      case rel => exact ⟨_, (x264003_1), H', ⟨by have := HK1.out; first | omega | exact Nat.le_refl _⟩, ⟨by refine sq ?_; exact Kd.S_mono (Kd.S_far (p := ⟨gb275, 3, none⟩) (Kd.S_far (p := ⟨gb275, 2, none⟩) (Kd.S_far (p := ⟨gb275, 1, none⟩) (Kd.S_far (p := ⟨gb275, 0, none⟩) (Kd.S_types HO_10.out BK275.out (by decide)) (fun _ hk => hk.2) (.int .i64 t268)) (fun _ hk => hk.2) (.int .i64 t269)) (fun _ hk => hk.2) (.int .u8 t270)) (fun _ hk => hk.2) (.slice Ao25 t271.length co25)) (fun _ hk => ⟨hk.1.1.1, hk.1.2⟩)⟩, ⟨by refine rq ?_; exact Kd.R_mono (Kd.R_far (p := ⟨gb275, 3, none⟩) (Kd.R_far (p := ⟨gb275, 2, none⟩) (Kd.R_far (p := ⟨gb275, 1, none⟩) (Kd.R_far (p := ⟨gb275, 0, none⟩) (Kd.R_types HO_11.out BK275.out (by decide)) (fun _ hk => hk.2) (.int .i64 t268)) (fun _ hk => hk.2) (.int .i64 t269)) (fun _ hk => hk.2) (.int .u8 t270)) (fun _ hk => hk.2) (.slice Ao25 t271.length co25)) (fun _ hk => trivial)⟩, ⟨by refine rq ?_; exact Kd.R_mono (Kd.R_far (p := ⟨gb275, 3, none⟩) (Kd.R_far (p := ⟨gb275, 2, none⟩) (Kd.R_far (p := ⟨gb275, 1, none⟩) (Kd.R_far (p := ⟨gb275, 0, none⟩) (Kd.R_types HO_12.out BK275.out (by decide)) (fun _ hk => hk.2) (.int .i64 t268)) (fun _ hk => hk.2) (.int .i64 t269)) (fun _ hk => hk.2) (.int .u8 t270)) (fun _ hk => hk.2) (.slice Ao25 t271.length co25)) (fun _ hk => hk.1.2)⟩, ⟨by (with_reducible repeat (first | apply View.W_alloc | apply View.W_drewN | apply View.W_drew)); exact View.W_mono (View.W_far (p := ⟨gb275, 3, none⟩) (View.W_far (p := ⟨gb275, 2, none⟩) (View.W_far (p := ⟨gb275, 1, none⟩) (View.W_far (p := ⟨gb275, 0, none⟩) (View.W_types HO273.out BK275.out (by decide)) (fun _ hk => hk.2) (.int .i64 t268)) (fun _ hk => hk.2) (.int .i64 t269)) (fun _ hk => hk.2) (.int .u8 t270)) (fun _ hk => hk.2) (.slice Ao25 t271.length co25)) (fun _ hk => hk.1.1.2)⟩, ⟨by refine bq ?_; refine blk_far ?_ NB261_275.out _; refine bq ?_; refine blk_far ?_ NB261_275.out _; refine bq ?_; refine blk_far ?_ NB261_275.out _; refine bq ?_; refine blk_far ?_ NB261_275.out _; exact bq BK261.out⟩, ⟨by refine bq ?_; refine blk_far ?_ NB262_275.out _; refine bq ?_; refine blk_far ?_ NB262_275.out _; refine bq ?_; refine blk_far ?_ NB262_275.out _; refine bq ?_; refine blk_far ?_ NB262_275.out _; exact bq BK262.out⟩, ⟨by refine bq ?_; refine blk_far ?_ NB263_275.out _; refine bq ?_; refine blk_far ?_ NB263_275.out _; refine bq ?_; refine blk_far ?_ NB263_275.out _; refine bq ?_; refine blk_far ?_ NB263_275.out _; exact bq BK263.out⟩, ⟨by refine bq ?_; refine blk_put (cs := #[.int .i64 t268, .int .i64 t269, .int .u8 t270, .slice none 0 0]) ?_ 3 _ rfl; refine bq ?_; refine blk_put (cs := #[.int .i64 t268, .int .i64 t269, .int .u8 0, .slice none 0 0]) ?_ 2 _ rfl; refine bq ?_; refine blk_put (cs := #[.int .i64 t268, .int .i64 0, .int .u8 0, .slice none 0 0]) ?_ 1 _ rfl; refine bq ?_; refine blk_put (cs := #[.int .i64 0, .int .i64 0, .int .u8 0, .slice none 0 0]) ?_ 0 _ rfl; exact bq BK275.out⟩, ⟨bw4 HB.out GE261.out GE262.out GE263.out GE275.out⟩⟩
    case rest =>
     clear HC13
     try clear c10b0
     obtain ⟨kq, x264003_12, HA, HJ12, HO_10, HO_11, HO_12, HO_276003, BK261, BK262, BK263, BK275, HB⟩ := hcut
     cases kq with
     | zero => exact absurd HA.out (by simp [impl_logOf.j1])
     | succ kj12 =>
      have H := HA.out
      clear HA
      simp only [impl_logOf.j1] at H
      have HC35 := Ak H
      clear H
      go_upto_region 13 with (fail)
      go_cut [15] (fun v15 wc => ∃ (kq : Nat) (x15_34 : Bool), v15 = .bool x15_34 ∧ Aside0 (impl_logOf.j2 kq a1 a2 x10_1 x11_1 x12_1 x13_1 x14_1 x15_34 x16_1 l0_0 l0_1 a1 a2 x264002_1 x264003_12 t268 t269 t270 t271 = some (r1, r2, r3, r4, r5, r6)) ∧ Aside0 (kq ≤ kj12) ∧ Aside0 (Kd.S (Kd.slice 5 (Kd.int .u8)) 22 wc w.heap.size (fun k_ => some k_ ≠ (u12 : Value).ownBlock ∧ some k_ ≠ ((.slice Ao25 t271.length co25) : Value).ownBlock) u10 x10_1) ∧ Aside0 (Kd.R (Kd.int .i64) 3 wc w.heap.size (fun _ => True) u11 x11_1) ∧ Aside0 (Kd.R (Kd.int .u8) 5 wc w.heap.size (fun k_ => some k_ ≠ ((.slice Ao25 t271.length co25) : Value).ownBlock) u12 x12_1) ∧ Aside0 (View.W wc w.heap.size (fun k_ => some k_ ≠ (u12 : Value).ownBlock) (.slice Ao25 t271.length co25) t271) ∧ Aside0 (wc.heap[gb261]? = some (.cells #[(.slice A0_0 l0_0.length c0_0), (.slice A0_1 l0_1.length c0_1)] 31 (0, 0))) ∧ Aside0 (wc.heap[gb262]? = some (.cells #[.int .i64 0, .int .i64 0, .int .i64 0, .int .i64 0] 32 (0, 0))) ∧ Aside0 (wc.heap[gb263]? = some (.cells #[.int .i64 a1, .int .i64 a2, .int .i64 x264002_1, .int .i64 x264003_12] 32 (0, 0))) ∧ Aside0 (wc.heap[gb275]? = some (.cells #[.int .i64 t268, .int .i64 t269, .int .u8 t270, (.slice Ao25 t271.length co25)] 93 (0, 0))) ∧ Aside0 (Below w.heap.size w wc))
      case first =>
       have H := HC35.out
       clear HC35
       by_cases c36 : x15_1 = true
       ·subst c36
        rw [if_pos rfl] at H
        have H' := Ak H
        clear H
        go_wp2
        go_meet
        case rel => exact ⟨_, (true), (by first | rfl | (simp; done) | (simp [*]; done)), H', ⟨by have := HK1.out; have := HJ12.out; first | omega | exact Nat.le_refl _⟩, ⟨sq HO_10.out⟩, ⟨rq HO_11.out⟩, ⟨rq HO_12.out⟩, ⟨by (with_reducible repeat (first | apply View.W_alloc | apply View.W_drewN | apply View.W_drew)); exact HO_276003.out⟩, ⟨bq BK261.out⟩, ⟨bq BK262.out⟩, ⟨bq BK263.out⟩, ⟨bq BK275.out⟩, ⟨bw4 HB.out GE261.out GE262.out GE263.out GE275.out⟩⟩
       ·replace c36 := Bool.eq_false_iff.mpr c36
        subst c36
        rw [if_neg (show ¬ (false = true) by decide)] at H
        by_cases c37 : t274 = true
        ·subst c37
         rw [if_pos rfl] at H
         by_cases c38 : t269 = (wrap64 (x16_1 - a1))
         ·rw [if_pos c38] at H
          have c38b0 : (t269 == (wrap64 (x16_1 - a1))) = true := beq_iff_eq.mpr c38
          have c38b1 : (t269 != (wrap64 (x16_1 - a1))) = false := bne_eq_false_iff_eq.mpr c38
          clear c38
          (first | rw [c38b0] | (simp only [i64_w, i32_w]; rw [c38b0]) | skip)
          by_cases c39 : t268 < x13_1
          ·rw [if_pos c39] at H
           have c39b0 := decide_eq_true c39
           clear c39
           have H' := Ak H
           clear H
           have hnb40 := NB275_261.out
           have hnc40 := NB261_275.out
           have hnb41 := NB275_262.out
           have hnc41 := NB262_275.out
           have hnb42 := NB275_263.out
           have hnc42 := NB263_275.out
           have hcz43_0 : wc.cell? ⟨gb275, 0, none⟩ = some (.int .i64 t268) := zk0 BK275.out
           have hcz43_1 : wc.cell? ⟨gb275, 1, none⟩ = some (.int .i64 t269) := zk1 BK275.out
           have hcz43_2 : wc.cell? ⟨gb275, 2, none⟩ = some (.int .u8 t270) := zk2 BK275.out
           have hcz43_3 : wc.cell? ⟨gb275, 3, none⟩ = some (.slice Ao25 t271.length co25) := zk3 BK275.out
           have hfz43_0 := blk_frozen BK275.out 0
           have hfz43_1 := blk_frozen BK275.out 1
           have hfz43_2 := blk_frozen BK275.out 2
           have hfz43_3 := blk_frozen BK275.out 3
           go_wp2
           go_meet
           case rel => exact ⟨_, (true), (by first | rfl | (simp; done) | (simp [*]; done)), H', ⟨by have := HK1.out; have := HJ12.out; first | omega | exact Nat.le_refl _⟩, ⟨sq HO_10.out⟩, ⟨rq HO_11.out⟩, ⟨rq HO_12.out⟩, ⟨by (with_reducible repeat (first | apply View.W_alloc | apply View.W_drewN | apply View.W_drew)); exact HO_276003.out⟩, ⟨bq BK261.out⟩, ⟨bq BK262.out⟩, ⟨bq BK263.out⟩, ⟨bq BK275.out⟩, ⟨bw4 HB.out GE261.out GE262.out GE263.out GE275.out⟩⟩
          ·rw [if_neg c39] at H
           have c39b0 := decide_eq_false c39
           clear c39
           by_cases c44 : x14_1 > 0
           ·rw [if_pos c44] at H
            have c44b0 : decide (0 < x14_1) = true := decide_eq_true c44
            clear c44
            have H' := Ak H
            clear H
            have hnb45 := NB275_261.out
            have hnc45 := NB261_275.out
            have hnb46 := NB275_262.out
            have hnc46 := NB262_275.out
            have hnb47 := NB275_263.out
            have hnc47 := NB263_275.out
            have hcz48_0 : wc.cell? ⟨gb275, 0, none⟩ = some (.int .i64 t268) := zk0 BK275.out
            have hcz48_1 : wc.cell? ⟨gb275, 1, none⟩ = some (.int .i64 t269) := zk1 BK275.out
            have hcz48_2 : wc.cell? ⟨gb275, 2, none⟩ = some (.int .u8 t270) := zk2 BK275.out
            have hcz48_3 : wc.cell? ⟨gb275, 3, none⟩ = some (.slice Ao25 t271.length co25) := zk3 BK275.out
            have hfz48_0 := blk_frozen BK275.out 0
            have hfz48_1 := blk_frozen BK275.out 1
            have hfz48_2 := blk_frozen BK275.out 2
            have hfz48_3 := blk_frozen BK275.out 3
            go_wp2
            go_meet
            case rel => exact ⟨_, ((t268 != x14_1)), (by first | rfl | (simp; done) | (simp [*]; done)), H', ⟨by have := HK1.out; have := HJ12.out; first | omega | exact Nat.le_refl _⟩, ⟨sq HO_10.out⟩, ⟨rq HO_11.out⟩, ⟨rq HO_12.out⟩, ⟨by (with_reducible repeat (first | apply View.W_alloc | apply View.W_drewN | apply View.W_drew)); exact HO_276003.out⟩, ⟨bq BK261.out⟩, ⟨bq BK262.out⟩, ⟨bq BK263.out⟩, ⟨bq BK275.out⟩, ⟨bw4 HB.out GE261.out GE262.out GE263.out GE275.out⟩⟩
           ·rw [if_neg c44] at H
            have c44b0 : decide (0 < x14_1) = false := decide_eq_false c44
            clear c44
            have H' := Ak H
            clear H
            have hnb49 := NB275_261.out
            have hnc49 := NB261_275.out
            have hnb50 := NB275_262.out
            have hnc50 := NB262_275.out
            have hnb51 := NB275_263.out
            have hnc51 := NB263_275.out
            have hcz52_0 : wc.cell? ⟨gb275, 0, none⟩ = some (.int .i64 t268) := zk0 BK275.out
            have hcz52_1 : wc.cell? ⟨gb275, 1, none⟩ = some (.int .i64 t269) := zk1 BK275.out
            have hcz52_2 : wc.cell? ⟨gb275, 2, none⟩ = some (.int .u8 t270) := zk2 BK275.out
            have hcz52_3 : wc.cell? ⟨gb275, 3, none⟩ = some (.slice Ao25 t271.length co25) := zk3 BK275.out
            have hfz52_0 := blk_frozen BK275.out 0
            have hfz52_1 := blk_frozen BK275.out 1
            have hfz52_2 := blk_frozen BK275.out 2
            have hfz52_3 := blk_frozen BK275.out 3
            go_wp2
            go_meet
            case rel => exact ⟨_, (false), (by first | rfl | (simp; done) | (simp [*]; done)), H', ⟨by have := HK1.out; have := HJ12.out; first | omega | exact Nat.le_refl _⟩, ⟨sq HO_10.out⟩, ⟨rq HO_11.out⟩, ⟨rq HO_12.out⟩, ⟨by (with_reducible repeat (first | apply View.W_alloc | apply View.W_drewN | apply View.W_drew)); exact HO_276003.out⟩, ⟨bq BK261.out⟩, ⟨bq BK262.out⟩, ⟨bq BK263.out⟩, ⟨bq BK275.out⟩, ⟨bw4 HB.out GE261.out GE262.out GE263.out GE275.out⟩⟩
         ·rw [if_neg c38] at H
          have c38b0 : (t269 == (wrap64 (x16_1 - a1))) = false := beq_eq_false_iff_ne.mpr c38
          have c38b1 : (t269 != (wrap64 (x16_1 - a1))) = true := bne_iff_ne.mpr c38
          (first | rw [c38b0] | (simp only [i64_w, i32_w]; rw [c38b0]) | skip)
          have H' := Ak H
          clear H
          have hnb53 := NB275_261.out
          have hnc53 := NB261_275.out
          have hnb54 := NB275_262.out
          have hnc54 := NB262_275.out
          have hnb55 := NB275_263.out
          have hnc55 := NB263_275.out
          have hcz56_0 : wc.cell? ⟨gb275, 0, none⟩ = some (.int .i64 t268) := zk0 BK275.out
          have hcz56_1 : wc.cell? ⟨gb275, 1, none⟩ = some (.int .i64 t269) := zk1 BK275.out
          have hcz56_2 : wc.cell? ⟨gb275, 2, none⟩ = some (.int .u8 t270) := zk2 BK275.out
          have hcz56_3 : wc.cell? ⟨gb275, 3, none⟩ = some (.slice Ao25 t271.length co25) := zk3 BK275.out
          have hfz56_0 := blk_frozen BK275.out 0
          have hfz56_1 := blk_frozen BK275.out 1
          have hfz56_2 := blk_frozen BK275.out 2
          have hfz56_3 := blk_frozen BK275.out 3
          go_wp2
          go_meet
          case rel => exact ⟨_, (true), (by first | rfl | (simp; done) | (simp [*]; done)), H', ⟨by have := HK1.out; have := HJ12.out; first | omega | exact Nat.le_refl _⟩, ⟨sq HO_10.out⟩, ⟨rq HO_11.out⟩, ⟨rq HO_12.out⟩, ⟨by (with_reducible repeat (first | apply View.W_alloc | apply View.W_drewN | apply View.W_drew)); exact HO_276003.out⟩, ⟨bq BK261.out⟩, ⟨bq BK262.out⟩, ⟨bq BK263.out⟩, ⟨bq BK275.out⟩, ⟨bw4 HB.out GE261.out GE262.out GE263.out GE275.out⟩⟩
        ·replace c37 := Bool.eq_false_iff.mpr c37
         subst c37
         rw [if_neg (show ¬ (false = true) by decide)] at H
         have H' := Ak H
         clear H
         go_wp2
         go_meet
         case rel => exact ⟨_, (true), (by first | rfl | (simp; done) | (simp [*]; done)), H', ⟨by have := HK1.out; have := HJ12.out; first | omega | exact Nat.le_refl _⟩, ⟨sq HO_10.out⟩, ⟨rq HO_11.out⟩, ⟨rq HO_12.out⟩, ⟨by (with_reducible repeat (first | apply View.W_alloc | apply View.W_drewN | apply View.W_drew)); exact HO_276003.out⟩, ⟨bq BK261.out⟩, ⟨bq BK262.out⟩, ⟨bq BK263.out⟩, ⟨bq BK275.out⟩, ⟨bw4 HB.out GE261.out GE262.out GE263.out GE275.out⟩⟩
      case rest =>
       clear HC35
       try clear c10b0
       try clear c38b0
       try clear c38b1
       try clear c39b0
       try clear c44b0
       obtain ⟨kq, x15_34, rfl, HA, HJ34, HO_10, HO_11, HO_12, HO_276003, BK261, BK262, BK263, BK275, HB⟩ := hcut
       cases kq with
       | zero => exact absurd HA.out (by simp [impl_logOf.j2])
       | succ kj34 =>
        have H := HA.out
        clear HA
        simp only [impl_logOf.j2] at H
        by_cases c57 : x15_34 = true
        ·subst c57
         rw [if_pos rfl] at H
         have H' := Ak H
         clear H
         go_wp2
         go_roundg kj34
         case measure => have := HK1.out; have := HJ12.out; have := HJ34.out; omega
         case rel => exact ⟨(x10_1), (x11_1), (x12_1), (x13_1), (x14_1), (true), (wrap64 (x16_1 + 1)), (x264002_1), (x264003_12), (by first | rfl | (simp; done) | (simp [*]; done)), (by first | rfl | (simp; done) | (simp [*]; done)), (by first | rfl | (simp; done) | (simp [*]; done)), (by first | rfl | (simp; done) | (simp [*]; done)), H', ⟨by have := HK1.out; have := HJ12.out; have := HJ34.out; omega⟩, ⟨by refine sq ?_; exact Kd.S_mono HO_10.out (fun _ hk => hk.1)⟩, ⟨rq HO_11.out⟩, ⟨by refine rq ?_; exact Kd.R_mono HO_12.out (fun _ hk => trivial)⟩, ⟨bq BK261.out⟩, ⟨bq BK262.out⟩, ⟨bq BK263.out⟩, ⟨bw4 HB.out GE261.out GE262.out GE263.out GE275.out⟩⟩
        ·replace c57 := Bool.eq_false_iff.mpr c57
         subst c57
         rw [if_neg (show ¬ (false = true) by decide)] at H
         by_cases c58 : x12_1.length + t271.length < 140737488355328
         ·rw [if_pos c58] at H
          have LMc58 := Ak c58
          clear c58
          generalize hy276 : (x12_1 ++ t271 : List Int) = y276 at H
          try rw [Option.bind_some] at H
          have Ny276 := Ak hy276.symm
          clear hy276
          by_cases c59 : t270 = 2
          ·rw [if_pos c59] at H
           have c59b0 : (t270 == 2) = true := beq_iff_eq.mpr c59
           have c59b1 : (t270 != 2) = false := bne_eq_false_iff_eq.mpr c59
           clear c59
           replace H := Option.bind_eq_some_iff.mp H
           obtain ⟨t279, A600, H⟩ := H
           have A60 := Ak A600
           clear A600
           by_cases c61 : x10_1.length < 5864062014805
           ·rw [if_pos c61] at H
            have LMc61 := Ak c61
            clear c61
            generalize hy282 : (x10_1 ++ [t279] : List (List Int)) = y282 at H
            try rw [Option.bind_some] at H
            have Ny282 := Ak hy282.symm
            clear hy282
            by_cases c62 : x11_1.length < 17592186044416
            ·rw [if_pos c62] at H
             have LMc62 := Ak c62
             clear c62
             generalize hy285 : (x11_1 ++ [wrap64 ((wrap64 (x16_1 - a1)) + 1)] : List Int) = y285 at H
             try rw [Option.bind_some] at H
             have Ny285 := Ak hy285.symm
             clear hy285
             have H' := Ak H
             clear H
             have hnb63 := NB275_261.out
             have hnc63 := NB261_275.out
             have hnb64 := NB275_262.out
             have hnc64 := NB262_275.out
             have hnb65 := NB275_263.out
             have hnc65 := NB263_275.out
             have hcz66_0 : wc.cell? ⟨gb275, 0, none⟩ = some (.int .i64 t268) := zk0 BK275.out
             have hcz66_1 : wc.cell? ⟨gb275, 1, none⟩ = some (.int .i64 t269) := zk1 BK275.out
             have hcz66_2 : wc.cell? ⟨gb275, 2, none⟩ = some (.int .u8 t270) := zk2 BK275.out
             have hcz66_3 : wc.cell? ⟨gb275, 3, none⟩ = some (.slice Ao25 t271.length co25) := zk3 BK275.out
             have hfz66_0 := blk_frozen BK275.out 0
             have hfz66_1 := blk_frozen BK275.out 1
             have hfz66_2 := blk_frozen BK275.out 2
             have hfz66_3 := blk_frozen BK275.out 3
             go_wp2_with (first | ((with_reducible refine gate_builtin (b := .append) (xs := #[.tmp 81, .tmp 83]) rfl ?_); at_builtin; refine Kd.R_append_rows (Kd.int .u8) (w0 := w) w.heap.size rfl (.tmp 81) (.tmp 83) 22 5 (.int .u8 0) 1 rfl Try.underlying22 info5 rfl (by decide) (by omega) u12 x12_1 t271 _ _ _ (fun k_ => Nb k_ (.slice Ao25 t271.length co25)) (fun _ => False) rfl rfl ?aO ?aR (fun _ _ h => h) (fun _ h => h.elim) ?aF ?aB ?aS ?aL ?_; (case aR => repeat (first | exact (View.W_reads' HO_276003.out).2.2 | (with_reducible refine Kd.C_alloc ?_ _) | (with_reducible refine Kd.C_drewN ?_ _) | (with_reducible refine Kd.C_drew ?_))); (case aB => exact (bw4 HB.out GE261.out GE262.out GE263.out GE275.out)); (case aF => exact (fun k_ hk => Kd.fresh' (View.W_lt (by (with_reducible repeat (first | apply View.W_alloc | apply View.W_drewN | apply View.W_drew)); exact HO_276003.out)) k_ hk)); (case aO => exact (rq HO_12.out)); (case aS => exact (below_size (bw4 HB.out GE261.out GE262.out GE263.out GE275.out))); (case aL => have := LMc58.out; omega); intro v277 w67 ho hb hg hat; rw [← Ny276.out] at ho; replace HO_10 := Ak (Kd.S_after (ok := (fun k_ => Nb k_ (.slice Ao25 t271.length co25))) (by (with_reducible repeat (first | apply Kd.S_alloc | apply Kd.S_drewN | apply Kd.S_drew)); exact Kd.S_mono HO_10.out (fun _ hk => ⟨hk.2, hk.1⟩)) hg hat); replace HO_11 := Ak (Kd.R_over' (rq HO_11.out) (Kd.R_typed (rq HO_12.out)) (by decide) hg); replace HO_276003 := Ak (View.W_after (ok := (fun _ => True)) (by (with_reducible repeat (first | apply View.W_alloc | apply View.W_drewN | apply View.W_drew)); exact View.W_mono HO_276003.out (fun _ hk => ⟨trivial, hk⟩)) hg hat); replace BK261 := Ak (blk_grown (g := gb261) (o := .cells #[.slice A0_0 l0_0.length c0_0, .slice A0_1 l0_1.length c0_1] 31 (0, 0)) (bq BK261.out) hg (Kd.R_ne HO_12.out BK261.out (by decide))); replace BK262 := Ak (blk_grown (g := gb262) (o := .cells #[.int .i64 0, .int .i64 0, .int .i64 0, .int .i64 0] 32 (0, 0)) (bq BK262.out) hg (Kd.R_ne HO_12.out BK262.out (by decide))); replace BK263 := Ak (blk_grown (g := gb263) (o := .cells #[.int .i64 a1, .int .i64 a2, .int .i64 x264002_1, .int .i64 x264003_12] 32 (0, 0)) (bq BK263.out) hg (Kd.R_ne HO_12.out BK263.out (by decide))); replace BK275 := Ak (blk_grown (g := gb275) (o := .cells #[.int .i64 t268, .int .i64 t269, .int .u8 t270, .slice Ao25 t271.length co25] 93 (0, 0)) (bq BK275.out) hg (Kd.R_ne HO_12.out BK275.out (by decide))); replace HB := Ak (hb); have HO278 := Ak (ho); clear HO_12; clear ho hb hg hat; have hcz68_0 := zk0 BK275.out; have hcz68_1 := zk1 BK275.out; have hcz68_2 := zk2 BK275.out; have hcz68_3 := zk3 BK275.out; have hfz68_0 := blk_frozen BK275.out 0; have hfz68_1 := blk_frozen BK275.out 1; have hfz68_2 := blk_frozen BK275.out 2; have hfz68_3 := blk_frozen BK275.out 3; obtain ⟨Ao69, co69, eo69⟩ := Kd.R_slice HO278.out; subst eo69) | ((with_reducible refine gate_callee (f := 100) rfl ?_); refine goesL_ (some 92) rfl rfl Try.func100 (by kernel_rfl) rfl #[.slice Ao69 y276.length co69] rfl gm ?_; (with_reducible refine (slices_Clone_byte_byte.calls _ _ y276 t279 _ ?side1 ?side2 A60.out).mono ?_); (case side1 => repeat (first | exact (Kd.R_reads' HO278.out).2.2 | (with_reducible refine Kd.C_alloc ?_ _) | (with_reducible refine Kd.C_drewN ?_ _) | (with_reducible refine Kd.C_drew ?_))); (case side2 => exact (Kd.R_reads' HO278.out).2.1); rintro e w70 ⟨v280, rfl, ho0, hb⟩; refine ⟨_, rfl, ?_⟩; replace HO_10 := Ak (Kd.S_elder' (sq HO_10.out) (Kd.R_base ho0) hb); replace HO_11 := Ak (Kd.R_below (rq HO_11.out) hb); have HO281 := Ak (Kd.R_lower (Kd.R_new' (Kd.R_new' ho0 (View.W_lt (by (with_reducible repeat (first | apply View.W_alloc | apply View.W_drewN | apply View.W_drew)); exact HO_276003.out))) (Kd.R_lt (rq HO278.out))) (below_size (bw4 HB.out GE261.out GE262.out GE263.out GE275.out))); replace HO_276003 := Ak (View.W_elder' (by (with_reducible repeat (first | apply View.W_alloc | apply View.W_drewN | apply View.W_drew)); exact HO_276003.out) (Kd.R_base ho0) hb); replace HO278 := Ak (Kd.R_elder' (rq HO278.out) (Kd.R_base ho0) hb); replace BK261 := Ak (blk_below (bq BK261.out) hb); replace BK262 := Ak (blk_below (bq BK262.out) hb); replace BK263 := Ak (blk_below (bq BK263.out) hb); replace BK275 := Ak (blk_below (bq BK275.out) hb); replace HB := Ak (below_step (bw4 HB.out GE261.out GE262.out GE263.out GE275.out) hb); obtain ⟨Ao72, co72, eo72⟩ := Kd.R_slice HO281.out; subst eo72) | ((with_reducible refine gate_builtin (b := .append) (xs := #[.tmp 90, .tmp 93]) rfl ?_); at_builtin; refine Kd.S_append (Kd.slice 5 (Kd.int .u8)) (w0 := w) w.heap.size rfl (.tmp 90) (.tmp 93) 44 22 (.slice none 0 0) 24 rfl Try.underlying44 info22 rfl (by decide) (by omega) u10 x10_1 t279 [.slice Ao72 t279.length co72] (fun k_ => Nb k_ (.slice Ao25 t271.length co25) ∧ Nb k_ (.slice Ao69 y276.length co69)) (fun k_ => some k_ = (.slice Ao72 t279.length co72 : Value).ownBlock) rfl rfl ?aP (fun k_ hk_ => ((Kd.R_mono (ok' := fun k_ => ((fun k_ => Nb k_ (.slice Ao25 t271.length co25) ∧ Nb k_ (.slice Ao69 y276.length co69))) k_ ∧ some k_ ≠ (u10 : Value).ownBlock) (Kd.R_apart' (HO281.out) (Kd.S_typed HO_10.out) (by decide)) (fun k_ hk => ⟨⟨hk.1.1.2, hk.1.2⟩, hk.2⟩))).1 k_ hk_.symm) ?aF ?aO ?aB ?aS ?aL ?_; (case aP => exact Kd.M_row (Kd.R_mono (Kd.R_tight rfl (Kd.R_mono (ok' := fun k_ => ((fun k_ => Nb k_ (.slice Ao25 t271.length co25) ∧ Nb k_ (.slice Ao69 y276.length co69))) k_ ∧ some k_ ≠ (u10 : Value).ownBlock) (Kd.R_apart' (HO281.out) (Kd.S_typed HO_10.out) (by decide)) (fun k_ hk => ⟨⟨hk.1.1.2, hk.1.2⟩, hk.2⟩))) (fun _ h_ => h_))); (case aB => exact (bw4 HB.out GE261.out GE262.out GE263.out GE275.out)); (case aF => exact (fun k_ hk => ⟨Kd.fresh' (View.W_lt (by (with_reducible repeat (first | apply View.W_alloc | apply View.W_drewN | apply View.W_drew)); exact HO_276003.out)) k_ hk, Kd.fresh' (Kd.R_lt (rq HO278.out)) k_ hk⟩)); (case aO => exact (by refine sq ?_; exact Kd.S_mono HO_10.out (fun k_ hk => ⟨⟨hk.1.1, hk.1.2⟩, fun e_ => hk.2 e_⟩))); (case aS => exact (below_size (bw4 HB.out GE261.out GE262.out GE263.out GE275.out))); (case aL => have := LMc61.out; omega); intro v283 w71 ho hb hg hat; rw [← Ny282.out] at ho; replace HO_11 := Ak (Kd.R_over' (rq HO_11.out) (Kd.S_typed (sq HO_10.out)) (by decide) hg); replace HO_276003 := Ak (View.W_over' (by (with_reducible repeat (first | apply View.W_alloc | apply View.W_drewN | apply View.W_drew)); exact HO_276003.out) (Kd.S_typed (sq HO_10.out)) (by decide) hg); replace BK261 := Ak (blk_grown (g := gb261) (o := .cells #[.slice A0_0 l0_0.length c0_0, .slice A0_1 l0_1.length c0_1] 31 (0, 0)) (bq BK261.out) hg (Kd.S_ne HO_10.out BK261.out (by decide))); replace BK262 := Ak (blk_grown (g := gb262) (o := .cells #[.int .i64 0, .int .i64 0, .int .i64 0, .int .i64 0] 32 (0, 0)) (bq BK262.out) hg (Kd.S_ne HO_10.out BK262.out (by decide))); replace BK263 := Ak (blk_grown (g := gb263) (o := .cells #[.int .i64 a1, .int .i64 a2, .int .i64 x264002_1, .int .i64 x264003_12] 32 (0, 0)) (bq BK263.out) hg (Kd.S_ne HO_10.out BK263.out (by decide))); replace BK275 := Ak (blk_grown (g := gb275) (o := .cells #[.int .i64 t268, .int .i64 t269, .int .u8 t270, .slice Ao25 t271.length co25] 93 (0, 0)) (bq BK275.out) hg (Kd.S_ne HO_10.out BK275.out (by decide))); replace HO278 := Ak (Kd.R_over' (rq HO278.out) (Kd.S_typed (sq HO_10.out)) (by decide) hg); replace HB := Ak (hb); have HO284 := Ak (ho); clear HO_10 HO281; clear ho hb hg hat) | ((with_reducible refine gate_builtin (b := .append) (xs := #[.tmp 95, .tmp 100]) rfl ?_); at_builtin; refine Kd.R_append (Kd.int .i64) (w0 := w) w.heap.size rfl (.tmp 95) (.tmp 100) 82 3 (.int .i64 0) 8 rfl Try.underlying82 info3 rfl (by decide) (by omega) u11 x11_1 (wrap64 ((wrap64 (x16_1 - a1)) + 1)) [.int .i64 (wrap64 ((wrap64 (x16_1 - a1)) + 1))] (fun _ => True) (fun _ => False) rfl rfl ?aP (fun _ hk => hk.elim) ?aF ?aO ?aB ?aS ?aL ?_; (case aP => exact rfl); (case aB => exact (bw4 HB.out GE261.out GE262.out GE263.out GE275.out)); (case aF => exact (fun _ _ => trivial)); (case aO => exact (rq HO_11.out)); (case aS => exact (below_size (bw4 HB.out GE261.out GE262.out GE263.out GE275.out))); (case aL => have := LMc62.out; omega); intro v286 w73 ho hb hg hat; rw [← Ny285.out] at ho; replace HO_276003 := Ak (View.W_over' (by (with_reducible repeat (first | apply View.W_alloc | apply View.W_drewN | apply View.W_drew)); exact HO_276003.out) (Kd.R_typed (rq HO_11.out)) (by decide) hg); replace BK261 := Ak (blk_grown (g := gb261) (o := .cells #[.slice A0_0 l0_0.length c0_0, .slice A0_1 l0_1.length c0_1] 31 (0, 0)) (bq BK261.out) hg (Kd.R_ne HO_11.out BK261.out (by decide))); replace BK262 := Ak (blk_grown (g := gb262) (o := .cells #[.int .i64 0, .int .i64 0, .int .i64 0, .int .i64 0] 32 (0, 0)) (bq BK262.out) hg (Kd.R_ne HO_11.out BK262.out (by decide))); replace BK263 := Ak (blk_grown (g := gb263) (o := .cells #[.int .i64 a1, .int .i64 a2, .int .i64 x264002_1, .int .i64 x264003_12] 32 (0, 0)) (bq BK263.out) hg (Kd.R_ne HO_11.out BK263.out (by decide))); replace BK275 := Ak (blk_grown (g := gb275) (o := .cells #[.int .i64 t268, .int .i64 t269, .int .u8 t270, .slice Ao25 t271.length co25] 93 (0, 0)) (bq BK275.out) hg (Kd.R_ne HO_11.out BK275.out (by decide))); replace HO278 := Ak (Kd.R_over' (rq HO278.out) (Kd.R_typed (rq HO_11.out)) (by decide) hg); replace HO284 := Ak (Kd.S_over' (sq HO284.out) (Kd.R_typed (rq HO_11.out)) (by decide) hg); replace HB := Ak (hb); have HO287 := Ak (ho); clear HO_11; clear ho hb hg hat; have hnb74 := NB263_261.out; have hnc74 := NB261_263.out; have hnb75 := NB263_262.out; have hnc75 := NB262_263.out; have hcz76_0 := zk0 BK263.out; have hcz76_1 := zk1 BK263.out; have hcz76_2 := zk2 BK263.out; have hcz76_3 := zk3 BK263.out; have hfz76_0 := blk_frozen BK263.out 0; have hfz76_1 := blk_frozen BK263.out 1; have hfz76_2 := blk_frozen BK263.out 2; have hfz76_3 := blk_frozen BK263.out 3))
             go_roundg kj34
             case measure => have := HK1.out; have := HJ12.out; have := HJ34.out; omega
             case rel => exact ⟨(y282), (y285), (([] : List Int)), (t268), (0), (false), (wrap64 (x16_1 + 1)), (wrap64 ((wrap64 (x16_1 - a1)) + 1)), (x264003_12), (by first | rfl | (simp; done) | (simp [*]; done)), (by first | rfl | (simp; done) | (simp [*]; done)), (by first | rfl | (simp; done) | (simp [*]; done)), (by first | rfl | (simp; done) | (simp [*]; done)), H', ⟨by have := HK1.out; have := HJ12.out; have := HJ34.out; omega⟩, ⟨by refine sq ?_; exact Kd.S_mono (Kd.S_far (p := ⟨gb263, 2, none⟩) (Kd.S_types HO284.out BK263.out (by decide)) (fun _ hk => hk.2) (.int .i64 (wrap64 ((wrap64 (x16_1 - a1)) + 1)))) (fun _ hk => (by simp [Value.ownBlock]))⟩, ⟨by refine rq ?_; exact Kd.R_mono (Kd.R_far (p := ⟨gb263, 2, none⟩) (Kd.R_types HO287.out BK263.out (by decide)) (fun _ hk => hk.2) (.int .i64 (wrap64 ((wrap64 (x16_1 - a1)) + 1)))) (fun _ hk => trivial)⟩, ⟨by first | exact Kd.R_nil _ _ _ _ _ | exact Kd.N_nil _ _ _ _ _ | exact Kd.V_nil _ _ _ _ _ | exact Kd.Q_nil _ _ _ _ _ | exact Kd.S_nil _ _ _ _ _⟩, ⟨by refine bq ?_; refine blk_far ?_ NB261_263.out _; exact bq BK261.out⟩, ⟨by refine bq ?_; refine blk_far ?_ NB262_263.out _; exact bq BK262.out⟩, ⟨by refine bq ?_; refine blk_put (cs := #[.int .i64 a1, .int .i64 a2, .int .i64 x264002_1, .int .i64 x264003_12]) ?_ 2 _ rfl; exact bq BK263.out⟩, ⟨bw4 HB.out GE261.out GE262.out GE263.out GE275.out⟩⟩
            ·rw [if_neg c62] at H
             exact absurd H (by simp)
           ·rw [if_neg c61] at H
            exact absurd H (by simp)
          ·rw [if_neg c59] at H
           have c59b0 : (t270 == 2) = false := beq_eq_false_iff_ne.mpr c59
           have c59b1 : (t270 != 2) = true := bne_iff_ne.mpr c59
           have H' := Ak H
           clear H
           have hnb77 := NB275_261.out
           have hnc77 := NB261_275.out
           have hnb78 := NB275_262.out
           have hnc78 := NB262_275.out
           have hnb79 := NB275_263.out
           have hnc79 := NB263_275.out
           have hcz80_0 : wc.cell? ⟨gb275, 0, none⟩ = some (.int .i64 t268) := zk0 BK275.out
           have hcz80_1 : wc.cell? ⟨gb275, 1, none⟩ = some (.int .i64 t269) := zk1 BK275.out
           have hcz80_2 : wc.cell? ⟨gb275, 2, none⟩ = some (.int .u8 t270) := zk2 BK275.out
           have hcz80_3 : wc.cell? ⟨gb275, 3, none⟩ = some (.slice Ao25 t271.length co25) := zk3 BK275.out
           have hfz80_0 := blk_frozen BK275.out 0
           have hfz80_1 := blk_frozen BK275.out 1
           have hfz80_2 := blk_frozen BK275.out 2
           have hfz80_3 := blk_frozen BK275.out 3
           go_wp2_with (first | ((with_reducible refine gate_builtin (b := .append) (xs := #[.tmp 81, .tmp 83]) rfl ?_); at_builtin; refine Kd.R_append_rows (Kd.int .u8) (w0 := w) w.heap.size rfl (.tmp 81) (.tmp 83) 22 5 (.int .u8 0) 1 rfl Try.underlying22 info5 rfl (by decide) (by omega) u12 x12_1 t271 _ _ _ (fun k_ => Nb k_ (.slice Ao25 t271.length co25)) (fun _ => False) rfl rfl ?aO ?aR (fun _ _ h => h) (fun _ h => h.elim) ?aF ?aB ?aS ?aL ?_; (case aR => repeat (first | exact (View.W_reads' HO_276003.out).2.2 | (with_reducible refine Kd.C_alloc ?_ _) | (with_reducible refine Kd.C_drewN ?_ _) | (with_reducible refine Kd.C_drew ?_))); (case aB => exact (bw4 HB.out GE261.out GE262.out GE263.out GE275.out)); (case aF => exact (fun k_ hk => Kd.fresh' (View.W_lt (by (with_reducible repeat (first | apply View.W_alloc | apply View.W_drewN | apply View.W_drew)); exact HO_276003.out)) k_ hk)); (case aO => exact (rq HO_12.out)); (case aS => exact (below_size (bw4 HB.out GE261.out GE262.out GE263.out GE275.out))); (case aL => have := LMc58.out; omega); intro v277 w81 ho hb hg hat; rw [← Ny276.out] at ho; replace HO_10 := Ak (Kd.S_after (ok := (fun k_ => Nb k_ (.slice Ao25 t271.length co25))) (by (with_reducible repeat (first | apply Kd.S_alloc | apply Kd.S_drewN | apply Kd.S_drew)); exact Kd.S_mono HO_10.out (fun _ hk => ⟨hk.2, hk.1⟩)) hg hat); replace HO_11 := Ak (Kd.R_over' (rq HO_11.out) (Kd.R_typed (rq HO_12.out)) (by decide) hg); replace HO_276003 := Ak (View.W_after (ok := (fun _ => True)) (by (with_reducible repeat (first | apply View.W_alloc | apply View.W_drewN | apply View.W_drew)); exact View.W_mono HO_276003.out (fun _ hk => ⟨trivial, hk⟩)) hg hat); replace BK261 := Ak (blk_grown (g := gb261) (o := .cells #[.slice A0_0 l0_0.length c0_0, .slice A0_1 l0_1.length c0_1] 31 (0, 0)) (bq BK261.out) hg (Kd.R_ne HO_12.out BK261.out (by decide))); replace BK262 := Ak (blk_grown (g := gb262) (o := .cells #[.int .i64 0, .int .i64 0, .int .i64 0, .int .i64 0] 32 (0, 0)) (bq BK262.out) hg (Kd.R_ne HO_12.out BK262.out (by decide))); replace BK263 := Ak (blk_grown (g := gb263) (o := .cells #[.int .i64 a1, .int .i64 a2, .int .i64 x264002_1, .int .i64 x264003_12] 32 (0, 0)) (bq BK263.out) hg (Kd.R_ne HO_12.out BK263.out (by decide))); replace BK275 := Ak (blk_grown (g := gb275) (o := .cells #[.int .i64 t268, .int .i64 t269, .int .u8 t270, .slice Ao25 t271.length co25] 93 (0, 0)) (bq BK275.out) hg (Kd.R_ne HO_12.out BK275.out (by decide))); replace HB := Ak (hb); have HO278 := Ak (ho); clear HO_12; clear ho hb hg hat; have hcz82_0 := zk0 BK275.out; have hcz82_1 := zk1 BK275.out; have hcz82_2 := zk2 BK275.out; have hcz82_3 := zk3 BK275.out; have hfz82_0 := blk_frozen BK275.out 0; have hfz82_1 := blk_frozen BK275.out 1; have hfz82_2 := blk_frozen BK275.out 2; have hfz82_3 := blk_frozen BK275.out 3))
           go_roundg kj34
           case measure => have := HK1.out; have := HJ12.out; have := HJ34.out; omega
           case rel => exact ⟨(x10_1), (x11_1), (y276), (t268), (t268), (false), (wrap64 (x16_1 + 1)), (x264002_1), (x264003_12), (by first | rfl | (simp; done) | (simp [*]; done)), (by first | rfl | (simp; done) | (simp [*]; done)), (by first | rfl | (simp; done) | (simp [*]; done)), (by first | rfl | (simp; done) | (simp [*]; done)), H', ⟨by have := HK1.out; have := HJ12.out; have := HJ34.out; omega⟩, ⟨by refine sq ?_; exact Kd.S_mono HO_10.out (fun _ hk => hk.2)⟩, ⟨rq HO_11.out⟩, ⟨by refine rq ?_; exact Kd.R_mono HO278.out (fun _ hk => trivial)⟩, ⟨bq BK261.out⟩, ⟨bq BK262.out⟩, ⟨bq BK263.out⟩, ⟨bw4 HB.out GE261.out GE262.out GE263.out GE275.out⟩⟩
         ·rw [if_neg c58] at H
          exact absurd H (by simp)
   ·rw [if_neg c10] at H
    have c10b0 := decide_eq_false c10
    clear c10
    simp only [Option.some.injEq, Prod.mk.injEq] at H
    obtain ⟨rfl, rfl, rfl, rfl, rfl, rfl⟩ := H
    have hnb83 := NB263_261.out
    have hnc83 := NB261_263.out
    have hnb84 := NB263_262.out
    have hnc84 := NB262_263.out
    have hcz85_0 : wr.cell? ⟨gb263, 0, none⟩ = some (.int .i64 a1) := zk0 BK263.out
    have hcz85_1 : wr.cell? ⟨gb263, 1, none⟩ = some (.int .i64 a2) := zk1 BK263.out
    have hcz85_2 : wr.cell? ⟨gb263, 2, none⟩ = some (.int .i64 x264002_1) := zk2 BK263.out
    have hcz85_3 : wr.cell? ⟨gb263, 3, none⟩ = some (.int .i64 x264003_1) := zk3 BK263.out
    have hfz85_0 := blk_frozen BK263.out 0
    have hfz85_1 := blk_frozen BK263.out 1
    have hfz85_2 := blk_frozen BK263.out 2
    have hfz85_3 := blk_frozen BK263.out 3
    have hnb86 := NB262_261.out
    have hnc86 := NB261_262.out
    have hcz87_0 : wr.cell? ⟨gb262, 0, none⟩ = some (.int .i64 0) := zk0 BK262.out
    have hcz87_1 : wr.cell? ⟨gb262, 1, none⟩ = some (.int .i64 0) := zk1 BK262.out
    have hcz87_2 : wr.cell? ⟨gb262, 2, none⟩ = some (.int .i64 0) := zk2 BK262.out
    have hcz87_3 : wr.cell? ⟨gb262, 3, none⟩ = some (.int .i64 0) := zk3 BK262.out
    have hfz87_0 := blk_frozen BK262.out 0
    have hfz87_1 := blk_frozen BK262.out 1
    have hfz87_2 := blk_frozen BK262.out 2
    have hfz87_3 := blk_frozen BK262.out 3
    go_wp2
    refine bodyPost_ret (results_ctt rfl _ _ gb262 32 #[.int .i64 a1, .int .i64 a2, .int .i64 x264002_1, .int .i64 x264003_1] (0, 0) _ rfl (by refine bq ?_; refine blk_put (cs := #[.int .i64 a1, .int .i64 a2, .int .i64 x264002_1, .int .i64 0]) ?_ 3 _ rfl; refine bq ?_; refine blk_put (cs := #[.int .i64 a1, .int .i64 a2, .int .i64 0, .int .i64 0]) ?_ 2 _ rfl; refine bq ?_; refine blk_put (cs := #[.int .i64 a1, .int .i64 0, .int .i64 0, .int .i64 0]) ?_ 1 _ rfl; refine bq ?_; refine blk_put (cs := #[.int .i64 0, .int .i64 0, .int .i64 0, .int .i64 0]) ?_ 0 _ rfl; exact bq BK262.out) Try.underlying32 rfl (by kernel_rfl)) rfl ?_
    exact ⟨_, _, zw, by refine sq ?_; exact Kd.S_mono (Kd.S_far (p := ⟨gb262, 3, none⟩) (Kd.S_far (p := ⟨gb262, 2, none⟩) (Kd.S_far (p := ⟨gb262, 1, none⟩) (Kd.S_far (p := ⟨gb262, 0, none⟩) (Kd.S_types HO_10.out BK262.out (by decide)) (fun _ hk => hk.2) (.int .i64 a1)) (fun _ hk => hk.2) (.int .i64 a2)) (fun _ hk => hk.2) (.int .i64 x264002_1)) (fun _ hk => hk.2) (.int .i64 x264003_1)) (fun _ hk => trivial), by refine rq ?_; exact Kd.R_mono (Kd.R_far (p := ⟨gb262, 3, none⟩) (Kd.R_far (p := ⟨gb262, 2, none⟩) (Kd.R_far (p := ⟨gb262, 1, none⟩) (Kd.R_far (p := ⟨gb262, 0, none⟩) (Kd.R_types HO_11.out BK262.out (by decide)) (fun _ hk => hk.2) (.int .i64 a1)) (fun _ hk => hk.2) (.int .i64 a2)) (fun _ hk => hk.2) (.int .i64 x264002_1)) (fun _ hk => hk.2) (.int .i64 x264003_1)) (fun _ hk => trivial), bw3 HB.out GE261.out GE262.out GE263.out⟩

def impl_LogOpen.f (k : Nat) (l0_0 : List Int) (l0_1 : List (S96)) (a1 : Int) (a2 : Int) : Option (Int × Int × Int × Int × (List (List Int)) × Bool) := (impl_canOpen.f k l0_0 l0_1 a1 a2).bind fun t290 => (if t290 = true then ((impl_logOf.f k l0_0 l0_1 a1 a2).bind fun bt291 => (if bt291.2.2.2.1 > 1000000 then (some (0, 0, 0, 0, ([] : List (List Int)), false)) else (some (bt291.1, bt291.2.1, bt291.2.2.1, bt291.2.2.2.1, bt291.2.2.2.2.1, true)))) else (some (0, 0, 0, 0, ([] : List (List Int)), false)))
set_option maxHeartbeats 8000000 in
set_option maxRecDepth 100000 in
theorem impl_LogOpen.calls (k : Nat) (A0_0 : Option Addr) (c0_0 : Nat) (l0_0 : List Int) (A0_1 : Option Addr) (c0_1 : Nat) (l0_1 : List (S96)) (a1 : Int) (a2 : Int) (r1 : Int) (r2 : Int) (r3 : Int) (r4 : Int) (r5 : List (List Int)) (r6 : Bool) (w : World) (hr0_0 : Kd.C (Kd.int .u8) w A0_0 l0_0.length l0_0) (hc0_0 : l0_0.length ≤ c0_0) (hr0_1 : Kd.C k96 w A0_1 l0_1.length l0_1) (hc0_1 : l0_1.length ≤ c0_1) (h : impl_LogOpen.f k l0_0 l0_1 a1 a2 = some (r1, r2, r3, r4, r5, r6)) :
  Calls Try.prog 21 #[.agg #[.slice A0_0 l0_0.length c0_0, .slice A0_1 l0_1.length c0_1], .int .i64 a1, .int .i64 a2] w fun e w' => ∃ v4_ : Value, e = .returned (.tuple #[.agg #[.int .i64 r1, .int .i64 r2, .int .i64 r3, .int .i64 r4], v4_, .bool r6]) ∧ Kd.S (Kd.slice 5 (Kd.int .u8)) 22 w' w.heap.size (fun _ => True) v4_ r5 ∧ Below w.heap.size w w' := by
 have hu31 := Try.underlying31
 have hu32 := Try.underlying32
 have HR0_0 := Ak hr0_0
 have HC0_0 := Ak hc0_0
 clear hr0_0 hc0_0
 have HR0_1 := Ak hr0_1
 have HC0_1 := Ak hc0_1
 clear hr0_1 hc0_1
 have HB := Ak (Below.refl w.heap.size w)
 have H := h
 unfold impl_LogOpen.f at H
 clear h
 replace H := Option.bind_eq_some_iff.mp H
 obtain ⟨t290, A40, H⟩ := H
 have A4 := Ak A40
 clear A40
 by_cases c5 : t290 = true
 ·subst c5
  rw [if_pos rfl] at H
  replace H := Option.bind_eq_some_iff.mp H
  obtain ⟨⟨t291, t292, t293, t294, t295, t298⟩, A60, H⟩ := H
  (try dsimp only at H)
  have A6 := Ak A60
  clear A60
  by_cases c7 : t294 > 1000000
  ·rw [if_pos c7] at H
   have c7b0 : decide (1000000 < t294) = true := decide_eq_true c7
   clear c7
   simp only [Option.some.injEq, Prod.mk.injEq] at H
   obtain ⟨rfl, rfl, rfl, rfl, rfl, rfl⟩ := H
   go_enter Try.func21, Try.ntmps21
   go_wp2_with (first | ((with_reducible refine gate_dst (N := 3) rfl ?_); refine box_event ?hg (N := 3) ?hd (cs := #[.slice A0_0 l0_0.length c0_0, .slice A0_1 l0_1.length c0_1]) (t := 31) ?hr ?_; (case hd => rfl); (case hg => rfl); (case hr => first | (go_simp; done) | (go_simp; rfl)); intro gb288 hg w8 hbox hb; have BK288 := Ak (hbox); have GW288 := Ak ((zb hg (bw HB.out))); have GE288 := Ak ((zb hg (bw HB.out))); replace HB := Ak (below_step (bw HB.out) hb); clear hb hbox hg) | ((with_reducible refine gate_dst (N := 6) rfl ?_); refine box_event ?hg (N := 6) ?hd (cs := #[.int .i64 0, .int .i64 0, .int .i64 0, .int .i64 0]) (t := 32) ?hr ?_; (case hd => rfl); (case hg => rfl); (case hr => first | (go_simp; done) | (go_simp; rfl)); intro gb289 hg w9 hbox hb; have BK289 := Ak (hbox); have GW289 := Ak ((zb hg (bw1 HB.out GE288.out))); have GE289 := Ak ((zb hg (bw1 HB.out GE288.out))); replace HB := Ak (below_step (bw1 HB.out GE288.out) hb); have NB288_289 := Ak ((zl hg (bq BK288.out))); have NB289_288 := Ak ((zm hg (bq BK288.out))); replace BK288 := Ak (blk_below (bq BK288.out) hb); clear hb hbox hg; have hnb10 := NB288_289.out; have hnc10 := NB289_288.out; have hcz11_0 := zk0 BK288.out; have hcz11_1 := zk1 BK288.out; have hfz11_0 := blk_frozen BK288.out 0; have hfz11_1 := blk_frozen BK288.out 1) | ((with_reducible refine gate_callee (f := 59) rfl ?_); refine goesL_ (some 15) rfl rfl Try.func59 (by kernel_rfl) rfl #[.agg #[.slice A0_0 l0_0.length c0_0, .slice A0_1 l0_1.length c0_1], .int .i64 a1, .int .i64 a2] rfl gm ?_; (with_reducible refine (impl_canOpen.calls k _ _ l0_0 _ _ l0_1 a1 a2 true _ ?side1 ?side2 ?side3 ?side4 A4.out).mono ?_); (case side1 => exact zq (Kd.C_below HR0_0.out HB.out)); (case side2 => exact HC0_0.out); (case side3 => exact zq (Kd.C_below HR0_1.out HB.out)); (case side4 => exact HC0_1.out); rintro e w12 ⟨rfl, hb⟩; refine ⟨_, rfl, ?_⟩; replace BK288 := Ak (blk_below (bq BK288.out) hb); replace BK289 := Ak (blk_below (bq BK289.out) hb); replace HB := Ak (below_step (bw2 HB.out GE288.out GE289.out) hb); have hcz13_0 := zk0 BK288.out; have hcz13_1 := zk1 BK288.out; have hfz13_0 := blk_frozen BK288.out 0; have hfz13_1 := blk_frozen BK288.out 1) | ((with_reducible refine gate_callee (f := 60) rfl ?_); refine goesL_ (some 22) rfl rfl Try.func60 (by kernel_rfl) rfl #[.agg #[.slice A0_0 l0_0.length c0_0, .slice A0_1 l0_1.length c0_1], .int .i64 a1, .int .i64 a2] rfl gm ?_; (with_reducible refine (impl_logOf.calls k _ _ l0_0 _ _ l0_1 a1 a2 t291 t292 t293 t294 t295 t298 _ ?side1 ?side2 ?side3 ?side4 A6.out).mono ?_); (case side1 => exact zq (Kd.C_below HR0_0.out HB.out)); (case side2 => exact HC0_0.out); (case side3 => exact zq (Kd.C_below HR0_1.out HB.out)); (case side4 => exact HC0_1.out); rintro e w14 ⟨v296, v299, rfl, ho0, ho1, hb⟩; refine ⟨_, rfl, ?_⟩; have HO297 := Ak (Kd.S_lower ho0 (below_size (bw2 HB.out GE288.out GE289.out))); have HO300 := Ak (Kd.R_lower ho1 (below_size (bw2 HB.out GE288.out GE289.out))); replace BK288 := Ak (blk_below (bq BK288.out) hb); replace BK289 := Ak (blk_below (bq BK289.out) hb); replace HB := Ak (below_step (bw2 HB.out GE288.out GE289.out) hb)) | ((with_reducible refine gate_dst (N := 9) rfl ?_); refine box_event ?hg (N := 9) ?hd (cs := #[.int .i64 0, .int .i64 0, .int .i64 0, .int .i64 0]) (t := 32) ?hr ?_; (case hd => rfl); (case hg => rfl); (case hr => first | (go_simp; done) | (go_simp; rfl)); intro gb301 hg w15 hbox hb; replace HO297 := Ak (Kd.S_below (sq HO297.out) hb); replace HO300 := Ak (Kd.R_below (rq HO300.out) hb); have BK301 := Ak (hbox); have GW301 := Ak ((zb hg (bw2 HB.out GE288.out GE289.out))); have GE301 := Ak ((zb hg (bw2 HB.out GE288.out GE289.out))); replace HB := Ak (below_step (bw2 HB.out GE288.out GE289.out) hb); have NB288_301 := Ak ((zl hg (bq BK288.out))); have NB301_288 := Ak ((zm hg (bq BK288.out))); replace BK288 := Ak (blk_below (bq BK288.out) hb); have NB289_301 := Ak ((zl hg (bq BK289.out))); have NB301_289 := Ak ((zm hg (bq BK289.out))); replace BK289 := Ak (blk_below (bq BK289.out) hb); clear hb hbox hg; have hnb16 := NB301_288.out; have hnc16 := NB288_301.out; have hnb17 := NB301_289.out; have hnc17 := NB289_301.out; have hcz18_0 := zk0 BK301.out; have hcz18_1 := zk1 BK301.out; have hcz18_2 := zk2 BK301.out; have hcz18_3 := zk3 BK301.out; have hfz18_0 := blk_frozen BK301.out 0; have hfz18_1 := blk_frozen BK301.out 1; have hfz18_2 := blk_frozen BK301.out 2; have hfz18_3 := blk_frozen BK301.out 3; have hcz19_0 := zk0 BK289.out; have hcz19_1 := zk1 BK289.out; have hcz19_2 := zk2 BK289.out; have hcz19_3 := zk3 BK289.out; have hfz19_0 := blk_frozen BK289.out 0; have hfz19_1 := blk_frozen BK289.out 1; have hfz19_2 := blk_frozen BK289.out 2; have hfz19_3 := blk_frozen BK289.out 3))
   refine bodyPost_ret (results_ctt rfl _ _ gb289 32 #[.int .i64 0, .int .i64 0, .int .i64 0, .int .i64 0] (0, 0) _ rfl (by refine bq ?_; refine blk_put (cs := #[.int .i64 0, .int .i64 0, .int .i64 0, .int .i64 0]) ?_ 3 _ rfl; refine bq ?_; refine blk_put (cs := #[.int .i64 0, .int .i64 0, .int .i64 0, .int .i64 0]) ?_ 2 _ rfl; refine bq ?_; refine blk_put (cs := #[.int .i64 0, .int .i64 0, .int .i64 0, .int .i64 0]) ?_ 1 _ rfl; refine bq ?_; refine blk_put (cs := #[.int .i64 0, .int .i64 0, .int .i64 0, .int .i64 0]) ?_ 0 _ rfl; refine bq ?_; refine blk_far ?_ NB289_301.out _; refine bq ?_; refine blk_far ?_ NB289_301.out _; refine bq ?_; refine blk_far ?_ NB289_301.out _; refine bq ?_; refine blk_far ?_ NB289_301.out _; exact bq BK289.out) Try.underlying32 rfl (by kernel_rfl)) rfl ?_
   exact ⟨_, zw, by first | exact Kd.S_nil _ _ _ _ _ | exact Kd.N_nil _ _ _ _ _ | exact Kd.V_nil _ _ _ _ _ | exact Kd.Q_nil _ _ _ _ _ | exact Kd.R_nil _ _ _ _ _, bw3 HB.out GE288.out GE289.out GE301.out⟩
  ·rw [if_neg c7] at H
   have c7b0 : decide (1000000 < t294) = false := decide_eq_false c7
   clear c7
   simp only [Option.some.injEq, Prod.mk.injEq] at H
   obtain ⟨rfl, rfl, rfl, rfl, rfl, rfl⟩ := H
   go_enter Try.func21, Try.ntmps21
   go_wp2_with (first | ((with_reducible refine gate_dst (N := 3) rfl ?_); refine box_event ?hg (N := 3) ?hd (cs := #[.slice A0_0 l0_0.length c0_0, .slice A0_1 l0_1.length c0_1]) (t := 31) ?hr ?_; (case hd => rfl); (case hg => rfl); (case hr => first | (go_simp; done) | (go_simp; rfl)); intro gb288 hg w20 hbox hb; have BK288 := Ak (hbox); have GW288 := Ak ((zb hg (bw HB.out))); have GE288 := Ak ((zb hg (bw HB.out))); replace HB := Ak (below_step (bw HB.out) hb); clear hb hbox hg) | ((with_reducible refine gate_dst (N := 6) rfl ?_); refine box_event ?hg (N := 6) ?hd (cs := #[.int .i64 0, .int .i64 0, .int .i64 0, .int .i64 0]) (t := 32) ?hr ?_; (case hd => rfl); (case hg => rfl); (case hr => first | (go_simp; done) | (go_simp; rfl)); intro gb289 hg w21 hbox hb; have BK289 := Ak (hbox); have GW289 := Ak ((zb hg (bw1 HB.out GE288.out))); have GE289 := Ak ((zb hg (bw1 HB.out GE288.out))); replace HB := Ak (below_step (bw1 HB.out GE288.out) hb); have NB288_289 := Ak ((zl hg (bq BK288.out))); have NB289_288 := Ak ((zm hg (bq BK288.out))); replace BK288 := Ak (blk_below (bq BK288.out) hb); clear hb hbox hg; have hnb22 := NB288_289.out; have hnc22 := NB289_288.out; have hcz23_0 := zk0 BK288.out; have hcz23_1 := zk1 BK288.out; have hfz23_0 := blk_frozen BK288.out 0; have hfz23_1 := blk_frozen BK288.out 1) | ((with_reducible refine gate_callee (f := 59) rfl ?_); refine goesL_ (some 15) rfl rfl Try.func59 (by kernel_rfl) rfl #[.agg #[.slice A0_0 l0_0.length c0_0, .slice A0_1 l0_1.length c0_1], .int .i64 a1, .int .i64 a2] rfl gm ?_; (with_reducible refine (impl_canOpen.calls k _ _ l0_0 _ _ l0_1 a1 a2 true _ ?side1 ?side2 ?side3 ?side4 A4.out).mono ?_); (case side1 => exact zq (Kd.C_below HR0_0.out HB.out)); (case side2 => exact HC0_0.out); (case side3 => exact zq (Kd.C_below HR0_1.out HB.out)); (case side4 => exact HC0_1.out); rintro e w24 ⟨rfl, hb⟩; refine ⟨_, rfl, ?_⟩; replace BK288 := Ak (blk_below (bq BK288.out) hb); replace BK289 := Ak (blk_below (bq BK289.out) hb); replace HB := Ak (below_step (bw2 HB.out GE288.out GE289.out) hb); have hcz25_0 := zk0 BK288.out; have hcz25_1 := zk1 BK288.out; have hfz25_0 := blk_frozen BK288.out 0; have hfz25_1 := blk_frozen BK288.out 1) | ((with_reducible refine gate_callee (f := 60) rfl ?_); refine goesL_ (some 22) rfl rfl Try.func60 (by kernel_rfl) rfl #[.agg #[.slice A0_0 l0_0.length c0_0, .slice A0_1 l0_1.length c0_1], .int .i64 a1, .int .i64 a2] rfl gm ?_; (with_reducible refine (impl_logOf.calls k _ _ l0_0 _ _ l0_1 a1 a2 t291 t292 t293 t294 t295 t298 _ ?side1 ?side2 ?side3 ?side4 A6.out).mono ?_); (case side1 => exact zq (Kd.C_below HR0_0.out HB.out)); (case side2 => exact HC0_0.out); (case side3 => exact zq (Kd.C_below HR0_1.out HB.out)); (case side4 => exact HC0_1.out); rintro e w26 ⟨v296, v299, rfl, ho0, ho1, hb⟩; refine ⟨_, rfl, ?_⟩; have HO297 := Ak (Kd.S_lower ho0 (below_size (bw2 HB.out GE288.out GE289.out))); have HO300 := Ak (Kd.R_lower ho1 (below_size (bw2 HB.out GE288.out GE289.out))); replace BK288 := Ak (blk_below (bq BK288.out) hb); replace BK289 := Ak (blk_below (bq BK289.out) hb); replace HB := Ak (below_step (bw2 HB.out GE288.out GE289.out) hb)) | ((with_reducible refine gate_dst (N := 9) rfl ?_); refine box_event ?hg (N := 9) ?hd (cs := #[.int .i64 0, .int .i64 0, .int .i64 0, .int .i64 0]) (t := 32) ?hr ?_; (case hd => rfl); (case hg => rfl); (case hr => first | (go_simp; done) | (go_simp; rfl)); intro gb301 hg w27 hbox hb; replace HO297 := Ak (Kd.S_below (sq HO297.out) hb); replace HO300 := Ak (Kd.R_below (rq HO300.out) hb); have BK301 := Ak (hbox); have GW301 := Ak ((zb hg (bw2 HB.out GE288.out GE289.out))); have GE301 := Ak ((zb hg (bw2 HB.out GE288.out GE289.out))); replace HB := Ak (below_step (bw2 HB.out GE288.out GE289.out) hb); have NB288_301 := Ak ((zl hg (bq BK288.out))); have NB301_288 := Ak ((zm hg (bq BK288.out))); replace BK288 := Ak (blk_below (bq BK288.out) hb); have NB289_301 := Ak ((zl hg (bq BK289.out))); have NB301_289 := Ak ((zm hg (bq BK289.out))); replace BK289 := Ak (blk_below (bq BK289.out) hb); clear hb hbox hg; have hnb28 := NB301_288.out; have hnc28 := NB288_301.out; have hnb29 := NB301_289.out; have hnc29 := NB289_301.out; have hcz30_0 := zk0 BK301.out; have hcz30_1 := zk1 BK301.out; have hcz30_2 := zk2 BK301.out; have hcz30_3 := zk3 BK301.out; have hfz30_0 := blk_frozen BK301.out 0; have hfz30_1 := blk_frozen BK301.out 1; have hfz30_2 := blk_frozen BK301.out 2; have hfz30_3 := blk_frozen BK301.out 3; have hcz31_0 := zk0 BK289.out; have hcz31_1 := zk1 BK289.out; have hcz31_2 := zk2 BK289.out; have hcz31_3 := zk3 BK289.out; have hfz31_0 := blk_frozen BK289.out 0; have hfz31_1 := blk_frozen BK289.out 1; have hfz31_2 := blk_frozen BK289.out 2; have hfz31_3 := blk_frozen BK289.out 3))
   refine bodyPost_ret (results_ctt rfl _ _ gb289 32 #[.int .i64 t291, .int .i64 t292, .int .i64 t293, .int .i64 t294] (0, 0) _ rfl (by refine bq ?_; refine blk_put (cs := #[.int .i64 t291, .int .i64 t292, .int .i64 t293, .int .i64 0]) ?_ 3 _ rfl; refine bq ?_; refine blk_put (cs := #[.int .i64 t291, .int .i64 t292, .int .i64 0, .int .i64 0]) ?_ 2 _ rfl; refine bq ?_; refine blk_put (cs := #[.int .i64 t291, .int .i64 0, .int .i64 0, .int .i64 0]) ?_ 1 _ rfl; refine bq ?_; refine blk_put (cs := #[.int .i64 0, .int .i64 0, .int .i64 0, .int .i64 0]) ?_ 0 _ rfl; refine bq ?_; refine blk_far ?_ NB289_301.out _; refine bq ?_; refine blk_far ?_ NB289_301.out _; refine bq ?_; refine blk_far ?_ NB289_301.out _; refine bq ?_; refine blk_far ?_ NB289_301.out _; exact bq BK289.out) Try.underlying32 rfl (by kernel_rfl)) rfl ?_
   exact ⟨_, zw, by refine sq ?_; exact Kd.S_mono (Kd.S_far (p := ⟨gb289, 3, none⟩) (Kd.S_far (p := ⟨gb289, 2, none⟩) (Kd.S_far (p := ⟨gb289, 1, none⟩) (Kd.S_far (p := ⟨gb289, 0, none⟩) (Kd.S_far (p := ⟨gb301, 3, none⟩) (Kd.S_far (p := ⟨gb301, 2, none⟩) (Kd.S_far (p := ⟨gb301, 1, none⟩) (Kd.S_far (p := ⟨gb301, 0, none⟩) (Kd.S_types (Kd.S_types HO297.out BK301.out (by decide)) BK289.out (by decide)) (fun _ hk => hk.1.2) (.int .i64 t291)) (fun _ hk => hk.1.2) (.int .i64 t292)) (fun _ hk => hk.1.2) (.int .i64 t293)) (fun _ hk => hk.1.2) (.int .i64 t294)) (fun _ hk => hk.2) (.int .i64 t291)) (fun _ hk => hk.2) (.int .i64 t292)) (fun _ hk => hk.2) (.int .i64 t293)) (fun _ hk => hk.2) (.int .i64 t294)) (fun _ hk => trivial), bw3 HB.out GE288.out GE289.out GE301.out⟩
 ·replace c5 := Bool.eq_false_iff.mpr c5
  subst c5
  rw [if_neg (show ¬ (false = true) by decide)] at H
  simp only [Option.some.injEq, Prod.mk.injEq] at H
  obtain ⟨rfl, rfl, rfl, rfl, rfl, rfl⟩ := H
  go_enter Try.func21, Try.ntmps21
  go_wp2_with (first | ((with_reducible refine gate_dst (N := 3) rfl ?_); refine box_event ?hg (N := 3) ?hd (cs := #[.slice A0_0 l0_0.length c0_0, .slice A0_1 l0_1.length c0_1]) (t := 31) ?hr ?_; (case hd => rfl); (case hg => rfl); (case hr => first | (go_simp; done) | (go_simp; rfl)); intro gb288 hg w32 hbox hb; have BK288 := Ak (hbox); have GW288 := Ak ((zb hg (bw HB.out))); have GE288 := Ak ((zb hg (bw HB.out))); replace HB := Ak (below_step (bw HB.out) hb); clear hb hbox hg) | ((with_reducible refine gate_dst (N := 6) rfl ?_); refine box_event ?hg (N := 6) ?hd (cs := #[.int .i64 0, .int .i64 0, .int .i64 0, .int .i64 0]) (t := 32) ?hr ?_; (case hd => rfl); (case hg => rfl); (case hr => first | (go_simp; done) | (go_simp; rfl)); intro gb289 hg w33 hbox hb; have BK289 := Ak (hbox); have GW289 := Ak ((zb hg (bw1 HB.out GE288.out))); have GE289 := Ak ((zb hg (bw1 HB.out GE288.out))); replace HB := Ak (below_step (bw1 HB.out GE288.out) hb); have NB288_289 := Ak ((zl hg (bq BK288.out))); have NB289_288 := Ak ((zm hg (bq BK288.out))); replace BK288 := Ak (blk_below (bq BK288.out) hb); clear hb hbox hg; have hnb34 := NB288_289.out; have hnc34 := NB289_288.out; have hcz35_0 := zk0 BK288.out; have hcz35_1 := zk1 BK288.out; have hfz35_0 := blk_frozen BK288.out 0; have hfz35_1 := blk_frozen BK288.out 1) | ((with_reducible refine gate_callee (f := 59) rfl ?_); refine goesL_ (some 15) rfl rfl Try.func59 (by kernel_rfl) rfl #[.agg #[.slice A0_0 l0_0.length c0_0, .slice A0_1 l0_1.length c0_1], .int .i64 a1, .int .i64 a2] rfl gm ?_; (with_reducible refine (impl_canOpen.calls k _ _ l0_0 _ _ l0_1 a1 a2 false _ ?side1 ?side2 ?side3 ?side4 A4.out).mono ?_); (case side1 => exact zq (Kd.C_below HR0_0.out HB.out)); (case side2 => exact HC0_0.out); (case side3 => exact zq (Kd.C_below HR0_1.out HB.out)); (case side4 => exact HC0_1.out); rintro e w36 ⟨rfl, hb⟩; refine ⟨_, rfl, ?_⟩; replace BK288 := Ak (blk_below (bq BK288.out) hb); replace BK289 := Ak (blk_below (bq BK289.out) hb); replace HB := Ak (below_step (bw2 HB.out GE288.out GE289.out) hb); have hcz37_0 := zk0 BK289.out; have hcz37_1 := zk1 BK289.out; have hcz37_2 := zk2 BK289.out; have hcz37_3 := zk3 BK289.out; have hfz37_0 := blk_frozen BK289.out 0; have hfz37_1 := blk_frozen BK289.out 1; have hfz37_2 := blk_frozen BK289.out 2; have hfz37_3 := blk_frozen BK289.out 3))
  refine bodyPost_ret (results_ctt rfl _ _ gb289 32 #[.int .i64 0, .int .i64 0, .int .i64 0, .int .i64 0] (0, 0) _ rfl (by refine bq ?_; refine blk_put (cs := #[.int .i64 0, .int .i64 0, .int .i64 0, .int .i64 0]) ?_ 3 _ rfl; refine bq ?_; refine blk_put (cs := #[.int .i64 0, .int .i64 0, .int .i64 0, .int .i64 0]) ?_ 2 _ rfl; refine bq ?_; refine blk_put (cs := #[.int .i64 0, .int .i64 0, .int .i64 0, .int .i64 0]) ?_ 1 _ rfl; refine bq ?_; refine blk_put (cs := #[.int .i64 0, .int .i64 0, .int .i64 0, .int .i64 0]) ?_ 0 _ rfl; exact bq BK289.out) Try.underlying32 rfl (by kernel_rfl)) rfl ?_
  exact ⟨_, zw, by first | exact Kd.S_nil _ _ _ _ _ | exact Kd.N_nil _ _ _ _ _ | exact Kd.V_nil _ _ _ _ _ | exact Kd.Q_nil _ _ _ _ _ | exact Kd.R_nil _ _ _ _ _, bw2 HB.out GE288.out GE289.out⟩

def laws_big.f (l0 : List Int) : Option (Bool) := some (decide ((l0.length : Int) > 1048576))
set_option maxHeartbeats 8000000 in
set_option maxRecDepth 100000 in
theorem laws_big.calls (A0 : Option Addr) (c0 : Nat) (l0 : List Int) (r : Bool) (w : World) (hr0 : Kd.C (Kd.int .u8) w A0 l0.length l0) (hc0 : l0.length ≤ c0) (h : laws_big.f l0 = some r) :
  Calls Try.prog 25 #[.slice A0 l0.length c0] w fun e w' => e = .returned (.bool r) ∧ Drawn0 w w' := by
 have HR0 := Ak hr0
 have HC0 := Ak hc0
 clear hr0 hc0
 have H := h
 unfold laws_big.f at H
 clear h
 obtain rfl := Option.some.inj H
 go_enter Try.func25, Try.ntmps25
 go_wp2
 go_ret
 exact ⟨by first | rfl | (simp; done) | (simp [*]; done), by repeat (first | exact Drawn0.refl _ | apply Drawn0.step)⟩

/-- A state of type 126 at block g of W; what its slices lead to came in by w0. -/
def IsS126 (w0 W : World) (g : Nat) (f0 : List Int) (f1 : Int) (f2 : Int) : Prop := ∃ A0 c0, W.heap[g]? = some (.cells #[.slice A0 f0.length c0, .int .i64 f1, .int .i64 f2] 126 (0, 0)) ∧ w0.heap.size ≤ g ∧ Kd.C (Kd.int .u8) w0 A0 f0.length f0
theorem IsS126.grown {w0 W : World} {g : Nat} {f0 : List Int} {f1 : Int} {f2 : Int} {W1 : World} {row : Option Nat} (h : IsS126 w0 W g f0 f1 f2) (hw : W.grownBy W1 row) (hne : some g ≠ row) : IsS126 w0 W1 g f0 f1 f2 := by
 obtain ⟨A0, c0, hb, hg, hr0⟩ := h
 exact ⟨A0, c0, blk_grown hb hw hne, hg, hr0⟩
theorem IsS126.below {w0 W : World} {g : Nat} {f0 : List Int} {f1 : Int} {f2 : Int} {W1 : World} (h : IsS126 w0 W g f0 f1 f2) (hw : Below W.heap.size W W1) : IsS126 w0 W1 g f0 f1 f2 := h.grown (grown_of_below hw none) (by simp)
theorem IsS126.drewN {w0 W : World} {g : Nat} {f0 : List Int} {f1 : Int} {f2 : Int} (h : IsS126 w0 W g f0 f1 f2) (m : Nat) : IsS126 w0 (W.drewN m) g f0 f1 f2 := h
theorem IsS126.at_ {w0 W : World} {g : Nat} {f0 : List Int} {f1 : Int} {f2 : Int} {w' : World} {m : Nat} (hq : W.drewN m = w') (h : IsS126 w0 W g f0 f1 f2) : IsS126 w0 w' g f0 f1 f2 := by subst hq; exact IsS126.drewN h m
theorem IsS126.apart {w0 W : World} {g : Nat} {f0 : List Int} {f1 : Int} {f2 : Int} {α : Type} {d : Kd α} {e : Nat} {base : Nat} {ok : Nat → Prop} {v : Value} {xs : List α} (h : IsS126 w0 W g f0 f1 f2) (ho : d.R e W base ok v xs) (ht : ∀ q, q ∈ e :: d.E → q ≠ 126) : d.R e W base (fun k => ok k ∧ k ≠ g) v xs := by
 obtain ⟨A0, c0, hb, hg, hr0⟩ := h
 exact Kd.R_types ho hb ht
theorem IsS126.own_ne {w0 W : World} {g : Nat} {f0 : List Int} {f1 : Int} {f2 : Int} {α : Type} {d : Kd α} {e : Nat} {base : Nat} {ok : Nat → Prop} {v : Value} {xs : List α} (h : IsS126 w0 W g f0 f1 f2) (ho : d.R e W base ok v xs) (ht : e ≠ 126) : some g ≠ v.ownBlock := by
 obtain ⟨A0, c0, hb, hg, hr0⟩ := h
 exact Kd.R_ne ho hb ht
theorem IsS126.lt {w0 W : World} {g : Nat} {f0 : List Int} {f1 : Int} {f2 : Int} (h : IsS126 w0 W g f0 f1 f2) : g < W.heap.size := by
 obtain ⟨A0, c0, hb, hg, hr0⟩ := h
 exact blk_lt hb
theorem IsS126.ge {w0 W : World} {g : Nat} {f0 : List Int} {f1 : Int} {f2 : Int} (h : IsS126 w0 W g f0 f1 f2) : w0.heap.size ≤ g := by
 obtain ⟨A0, c0, hb, hg, hr0⟩ := h
 exact hg
theorem cellS126_0 {W : World} {g : Nat} {A0 : Option Addr} {c0 : Nat} {f0 : List Int} {f1 : Int} {f2 : Int} (h : W.heap[g]? = some (.cells #[.slice A0 f0.length c0, .int .i64 f1, .int .i64 f2] 126 (0, 0))) : W.cell? ⟨g, 0, none⟩ = some (.slice A0 f0.length c0) := (blk_cell h 0).trans rfl
theorem cellS126_1 {W : World} {g : Nat} {A0 : Option Addr} {c0 : Nat} {f0 : List Int} {f1 : Int} {f2 : Int} (h : W.heap[g]? = some (.cells #[.slice A0 f0.length c0, .int .i64 f1, .int .i64 f2] 126 (0, 0))) : W.cell? ⟨g, 1, none⟩ = some (.int .i64 f1) := (blk_cell h 1).trans rfl
theorem IsS126.set_1 {w0 W : World} {g : Nat} {f0 : List Int} {f1 : Int} {f2 : Int} (h : IsS126 w0 W g f0 f1 f2) (x : Int) : IsS126 w0 (W.setCell ⟨g, 1, none⟩ (.int .i64 x)) g f0 x f2 := by
 obtain ⟨A0, c0, hb, hg, hr0⟩ := h
 exact ⟨A0, c0, by simpa using blk_set hb 1 (.int .i64 x), hg, hr0⟩
theorem cellS126_2 {W : World} {g : Nat} {A0 : Option Addr} {c0 : Nat} {f0 : List Int} {f1 : Int} {f2 : Int} (h : W.heap[g]? = some (.cells #[.slice A0 f0.length c0, .int .i64 f1, .int .i64 f2] 126 (0, 0))) : W.cell? ⟨g, 2, none⟩ = some (.int .i64 f2) := (blk_cell h 2).trans rfl
theorem IsS126.set_2 {w0 W : World} {g : Nat} {f0 : List Int} {f1 : Int} {f2 : Int} (h : IsS126 w0 W g f0 f1 f2) (x : Int) : IsS126 w0 (W.setCell ⟨g, 2, none⟩ (.int .i64 x)) g f0 f1 x := by
 obtain ⟨A0, c0, hb, hg, hr0⟩ := h
 exact ⟨A0, c0, by simpa using blk_set hb 2 (.int .i64 x), hg, hr0⟩
def spec_l1New.l0 : Nat → List Int → Int → Int → Option (List Int × Int × Int)
 | 0, _, _, _ => none
 | k + 1, x0, x3, x4 => if x4 < (x0.length : Int) then (if x4 < 4000 then (if 0 ≤ x4 then (spec_l1New.l0 k x0 (Go.bits .and .i64 (wrap64 ((wrap64 ((wrap64 (x3 * 137)) + (wrap64 (rd x0 x4)))) + 11)) 1073741823) (wrap64 (x4 + 1))) else (none)) else (some (x0, 0, x3))) else (some (x0, 0, x3))
def spec_l1New.f (k : Nat) (l0 : List Int) : Option (List Int × Int × Int) := spec_l1New.l0 k l0 (wrap64 (108108 + (l0.length : Int))) 0
set_option maxHeartbeats 8000000 in
set_option maxRecDepth 100000 in
theorem spec_l1New.calls (k : Nat) (A0 : Option Addr) (c0 : Nat) (l0 : List Int) (r1 : List Int) (r2 : Int) (r3 : Int) (w0 w : World) (hB : Below w0.heap.size w0 w) (hr0 : Kd.C (Kd.int .u8) w0 A0 l0.length l0) (hc0 : l0.length ≤ c0) (h : spec_l1New.f k l0 = some (r1, r2, r3)) :
  Calls Try.prog 61 #[.slice A0 l0.length c0] w fun e w' => ∃ g_ : Nat, e = .returned (.pointer (some ⟨g_, 0, none⟩)) ∧ IsS126 w0 w' g_ r1 r2 r3 ∧ Below w0.heap.size w0 w' ∧ Below w.heap.size w w' ∧ w.heap.size ≤ g_ := by
 have hu126 := Try.underlying126
 have HR0 := Ak hr0
 have HC0 := Ak hc0
 clear hr0 hc0
 have HBW := Ak (Below.refl w.heap.size w)
 have HW0 := Ak hB.size
 have HB := Ak hB
 clear hB
 have H := h
 unfold spec_l1New.f at H
 clear h
 have H' := Ak H
 clear H
 go_enter Try.func61, Try.ntmps61
 go_wp2
 go_loopg [3, 4] k (fun kq v3 v4 w' => ∃ (x3_1 : Int) (x4_1 : Int), v3 = .int .i64 x3_1 ∧ v4 = .int .i64 x4_1 ∧ Aside0 (spec_l1New.l0 kq l0 x3_1 x4_1 = some (r1, r2, r3)) ∧ Aside0 (kq ≤ k) ∧ Aside0 (Below w0.heap.size w0 w') ∧ Aside0 (Below w.heap.size w w'))
 case atStart => exact ⟨(wrap64 (108108 + (l0.length : Int))), (0), (by first | rfl | (simp; done) | (simp [*]; done)), (by first | rfl | (simp; done) | (simp [*]; done)), H', ⟨Nat.le_refl _⟩, ⟨bw HB.out⟩, ⟨bw HBW.out⟩⟩
 case round =>
  clear H'
  obtain ⟨x3_1, x4_1, rfl, rfl, HA, HK1, HB, HBW⟩ := hrel
  cases gk with
  | zero => exact absurd HA.out (by simp [spec_l1New.l0])
  | succ k1 =>
   have H := HA.out
   clear HA
   simp only [spec_l1New.l0] at H
   by_cases c2 : x4_1 < (l0.length : Int)
   ·rw [if_pos c2] at H
    have c2b0 := decide_eq_true c2
    clear c2
    by_cases c3 : x4_1 < 4000
    ·rw [if_pos c3] at H
     have c3b0 := decide_eq_true c3
     clear c3
     by_cases c4 : 0 ≤ x4_1
     ·rw [if_pos c4] at H
      have c4b0 := decide_eq_true c4
      clear c4
      have H' := Ak H
      clear H
      have p302 : 0 ≤ (x4_1 : Int) := of_decide_eq_true (by first | (with_reducible assumption) | assumption)
      have q302 : x4_1 < (l0.length : Int) := of_decide_eq_true (by first | (with_reducible assumption) | assumption)
      obtain ⟨ad302, e302, hx302_0⟩ := Kd.at_int HR0.out x4_1 p302 q302
      cases e302
      replace hx302_0 := pw_cell_below HB.out hx302_0
      replace p302 := eq_true p302
      replace q302 := eq_true q302
      go_wp2
      go_roundg k1
      case measure => have := HK1.out; omega
      case rel => exact ⟨(Go.bits .and .i64 (wrap64 ((wrap64 ((wrap64 (x3_1 * 137)) + (wrap64 (rd l0 x4_1)))) + 11)) 1073741823), (wrap64 (x4_1 + 1)), (by first | rfl | (simp; done) | (simp [*]; done)), (by first | rfl | (simp; done) | (simp [*]; done)), H', ⟨by have := HK1.out; omega⟩, ⟨bw HB.out⟩, ⟨bw HBW.out⟩⟩
     ·rw [if_neg c4] at H
      exact absurd H (by simp)
    ·rw [if_neg c3] at H
     have c3b0 := decide_eq_false c3
     clear c3
     simp only [Option.some.injEq, Prod.mk.injEq] at H
     obtain ⟨rfl, rfl, rfl⟩ := H
     go_wp2_with (first | ((with_reducible refine gate_dst (N := 31) rfl ?_); refine box_event ?hg (N := 31) ?hd (cs := #[.slice A0 l0.length c0, .int .i64 0, .int .i64 x3_1]) (t := 126) ?hr ?_; (case hd => rfl); (case hg => rfl); (case hr => first | (go_simp; done) | (go_simp; rfl)); intro gb303 hg w5 hbox hb; replace HB := Ak (below_step (bw HB.out) hb); have BK303 := Ak (hbox); have GW303 := Ak ((zb hg (bw HBW.out))); have GE303 := Ak ((Nat.le_trans HW0.out (zb hg (bw HBW.out)) : w0.heap.size ≤ gb303)); replace HBW := Ak (below_step HBW.out hb); clear hb hbox hg))
     go_ret
     exact ⟨_, rfl, (show IsS126 w0 _ gb303 l0 0 x3_1 from ⟨_, _, bq BK303.out, GE303.out, HR0.out⟩), bw1 HB.out GE303.out, bw1 HBW.out GW303.out, GW303.out⟩
   ·rw [if_neg c2] at H
    have c2b0 := decide_eq_false c2
    clear c2
    simp only [Option.some.injEq, Prod.mk.injEq] at H
    obtain ⟨rfl, rfl, rfl⟩ := H
    go_wp2_with (first | ((with_reducible refine gate_dst (N := 31) rfl ?_); refine box_event ?hg (N := 31) ?hd (cs := #[.slice A0 l0.length c0, .int .i64 0, .int .i64 x3_1]) (t := 126) ?hr ?_; (case hd => rfl); (case hg => rfl); (case hr => first | (go_simp; done) | (go_simp; rfl)); intro gb304 hg w6 hbox hb; replace HB := Ak (below_step (bw HB.out) hb); have BK304 := Ak (hbox); have GW304 := Ak ((zb hg (bw HBW.out))); have GE304 := Ak ((Nat.le_trans HW0.out (zb hg (bw HBW.out)) : w0.heap.size ≤ gb304)); replace HBW := Ak (below_step HBW.out hb); clear hb hbox hg))
    go_ret
    exact ⟨_, rfl, (show IsS126 w0 _ gb304 l0 0 x3_1 from ⟨_, _, bq BK304.out, GE304.out, HR0.out⟩), bw1 HB.out GE304.out, bw1 HBW.out GW304.out, GW304.out⟩

end Go.Proofs.Ytgmnphckgicadaa.PFnLog
