/- Part 7 of the proof that RollMore answers true: contracts and laws, merged by a program. -/
import Derived.Test.YthgjedagbgmgmaaDoorRollMoreA6
namespace Go.Proofs.YthgjedagbgmgmaaDoor.Pr
open Go.RowKit Go.Proofs.YthgjedagbgmgmaaDoorW.PrintWords Go.Proofs.YthgjedagbgmgmaaDoorW.PrintLast Go.Proofs.YthgjedagbgmgmaaDoorW.PrintMore
attribute [local go_sem] max2_int min2_int max_two min_two -- for this text's walks alone
set_option linter.unusedVariables false
set_option linter.unusedSimpArgs false
def macadamref00_Inner.f (a0_0 : Int) (a0_1 : Int) (a1_0 : Int) (a1_1 : Int) : Option (Bool) := if a0_0 ≤ a1_0 then (some (decide (a1_1 ≤ a0_1))) else (some false)
set_option maxHeartbeats 8000000 in
set_option maxRecDepth 100000 in
theorem macadamref00_Inner.calls (a0_0 : Int) (a0_1 : Int) (a1_0 : Int) (a1_1 : Int) (r : Bool) (w : World) (h : macadamref00_Inner.f a0_0 a0_1 a1_0 a1_1 = some r) :
    Calls Tryd.prog 63 #[.agg #[.int .i64 a0_0, .int .i64 a0_1], .agg #[.int .i64 a1_0, .int .i64 a1_1]] w fun e w' => e = .returned (.bool r) ∧ Below w.heap.size w w' := by
  have hu32 := Tryd.underlying32
  have HB := Aside0.mk (Below.refl w.heap.size w)
  have H : (if a0_0 ≤ a1_0 then (some (decide (a1_1 ≤ a0_1))) else (some false)) = some r := h
  clear h
  by_cases c3 : a0_0 ≤ a1_0
  · rw [if_pos c3] at H
    have c3b0 : decide (a0_0 ≤ a1_0) = true := decide_eq_true c3
    clear c3
    obtain rfl := Option.some.inj H
    go_enter Tryd.func63, Tryd.ntmps63
    go_wp2_with (first | ((with_reducible refine gate_dst (N := 2) rfl ?_); refine box_event ?hg (N := 2) ?hd (cs := #[.int .i64 a0_0, .int .i64 a0_1]) (t := 32) ?hr ?_; (case hd => rfl); (case hg => rfl); (case hr => first | (go_simp; done) | (go_simp; rfl)); intro gb213 hg w4 hbox hb; have n0_ := Aside0.mk (below_step (by repeat (first | (with_reducible first | exact HB.out | apply below_alloc | apply pw_below_drewN | apply below_drew1) | exact HB.out)) hb); have n1_ := Aside0.mk (hbox); have n2_ := Aside0.mk ((by rw [hg]; exact (below_size (by repeat (first | (with_reducible first | exact HB.out | apply below_alloc | apply pw_below_drewN | apply below_drew1) | exact HB.out))) : w.heap.size ≤ gb213)); have n3_ := Aside0.mk ((by rw [hg]; exact (below_size (by repeat (first | (with_reducible first | exact HB.out | apply below_alloc | apply pw_below_drewN | apply below_drew1) | exact HB.out))) : w.heap.size ≤ gb213)); clear HB; have HB := n0_; have BK213 := n1_; have GW213 := n2_; have GE213 := n3_; clear n0_ n1_ n2_ n3_; clear hb hbox hg) | ((with_reducible refine gate_dst (N := 3) rfl ?_); refine box_event ?hg (N := 3) ?hd (cs := #[.int .i64 a1_0, .int .i64 a1_1]) (t := 32) ?hr ?_; (case hd => rfl); (case hg => rfl); (case hr => first | (go_simp; done) | (go_simp; rfl)); intro gb214 hg w5 hbox hb; have n0_ := Aside0.mk (blk_below (g := gb213) (o := .cells #[.int .i64 a0_0, .int .i64 a0_1] 32 (0, 0)) (by (with_reducible repeat (first | refine blk_drewN ?_ _ | refine blk_drew ?_ | refine blk_alloc ?_ _)); exact BK213.out) hb); have n1_ := Aside0.mk (below_step (by repeat (first | (with_reducible first | exact HB.out | apply below_alloc | apply pw_below_drewN | apply below_drew1 | refine below_set ?_ GE213.out) | exact HB.out)) hb); have n2_ := Aside0.mk (hbox); have n3_ := Aside0.mk ((by rw [hg]; exact (below_size (by repeat (first | (with_reducible first | exact HB.out | apply below_alloc | apply pw_below_drewN | apply below_drew1 | refine below_set ?_ GE213.out) | exact HB.out))) : w.heap.size ≤ gb214)); have n4_ := Aside0.mk ((by rw [hg]; exact (below_size (by repeat (first | (with_reducible first | exact HB.out | apply below_alloc | apply pw_below_drewN | apply below_drew1 | refine below_set ?_ GE213.out) | exact HB.out))) : w.heap.size ≤ gb214)); have n5_ := Aside0.mk ((by rw [hg]; exact Nat.ne_of_lt (blk_lt (g := gb213) (o := .cells #[.int .i64 a0_0, .int .i64 a0_1] 32 (0, 0)) (by (with_reducible repeat (first | refine blk_drewN ?_ _ | refine blk_drew ?_ | refine blk_alloc ?_ _)); exact BK213.out)) : gb213 ≠ gb214)); have n6_ := Aside0.mk ((by rw [hg]; exact Nat.ne_of_gt (blk_lt (g := gb213) (o := .cells #[.int .i64 a0_0, .int .i64 a0_1] 32 (0, 0)) (by (with_reducible repeat (first | refine blk_drewN ?_ _ | refine blk_drew ?_ | refine blk_alloc ?_ _)); exact BK213.out)) : gb214 ≠ gb213)); clear BK213; clear HB; have BK213 := n0_; have HB := n1_; have BK214 := n2_; have GW214 := n3_; have GE214 := n4_; have NB213_214 := n5_; have NB214_213 := n6_; clear n0_ n1_ n2_ n3_ n4_ n5_ n6_; clear hb hbox hg; have hnb6 := NB213_214.out; have hnc6 := NB214_213.out; have hcz7_0 : w5.cell? ⟨gb213, 0, none⟩ = some (.int .i64 a0_0) := (blk_cell BK213.out 0).trans rfl; have hcz7_1 : w5.cell? ⟨gb213, 1, none⟩ = some (.int .i64 a0_1) := (blk_cell BK213.out 1).trans rfl; have hfz7_0 := blk_frozen BK213.out 0; have hfz7_1 := blk_frozen BK213.out 1; have hcz8_0 : w5.cell? ⟨gb214, 0, none⟩ = some (.int .i64 a1_0) := (blk_cell BK214.out 0).trans rfl; have hcz8_1 : w5.cell? ⟨gb214, 1, none⟩ = some (.int .i64 a1_1) := (blk_cell BK214.out 1).trans rfl; have hfz8_0 := blk_frozen BK214.out 0; have hfz8_1 := blk_frozen BK214.out 1))
    go_ret
    exact ⟨by first | rfl | exact congrArg (fun b_ => Ending.returned (.bool b_)) HT.out | (simp [errW_none, errW_some] <;> rfl) | (simp [*, errW_none, errW_some] <;> rfl), by repeat (first | (with_reducible first | exact HB.out | apply below_alloc | apply pw_below_drewN | apply below_drew1 | refine below_set ?_ GE213.out | refine below_set ?_ GE214.out) | exact HB.out)⟩
  · rw [if_neg c3] at H
    have c3b0 : decide (a0_0 ≤ a1_0) = false := decide_eq_false c3
    clear c3
    obtain rfl := Option.some.inj H
    go_enter Tryd.func63, Tryd.ntmps63
    go_wp2_with (first | ((with_reducible refine gate_dst (N := 2) rfl ?_); refine box_event ?hg (N := 2) ?hd (cs := #[.int .i64 a0_0, .int .i64 a0_1]) (t := 32) ?hr ?_; (case hd => rfl); (case hg => rfl); (case hr => first | (go_simp; done) | (go_simp; rfl)); intro gb213 hg w9 hbox hb; have n0_ := Aside0.mk (below_step (by repeat (first | (with_reducible first | exact HB.out | apply below_alloc | apply pw_below_drewN | apply below_drew1) | exact HB.out)) hb); have n1_ := Aside0.mk (hbox); have n2_ := Aside0.mk ((by rw [hg]; exact (below_size (by repeat (first | (with_reducible first | exact HB.out | apply below_alloc | apply pw_below_drewN | apply below_drew1) | exact HB.out))) : w.heap.size ≤ gb213)); have n3_ := Aside0.mk ((by rw [hg]; exact (below_size (by repeat (first | (with_reducible first | exact HB.out | apply below_alloc | apply pw_below_drewN | apply below_drew1) | exact HB.out))) : w.heap.size ≤ gb213)); clear HB; have HB := n0_; have BK213 := n1_; have GW213 := n2_; have GE213 := n3_; clear n0_ n1_ n2_ n3_; clear hb hbox hg) | ((with_reducible refine gate_dst (N := 3) rfl ?_); refine box_event ?hg (N := 3) ?hd (cs := #[.int .i64 a1_0, .int .i64 a1_1]) (t := 32) ?hr ?_; (case hd => rfl); (case hg => rfl); (case hr => first | (go_simp; done) | (go_simp; rfl)); intro gb214 hg w10 hbox hb; have n0_ := Aside0.mk (blk_below (g := gb213) (o := .cells #[.int .i64 a0_0, .int .i64 a0_1] 32 (0, 0)) (by (with_reducible repeat (first | refine blk_drewN ?_ _ | refine blk_drew ?_ | refine blk_alloc ?_ _)); exact BK213.out) hb); have n1_ := Aside0.mk (below_step (by repeat (first | (with_reducible first | exact HB.out | apply below_alloc | apply pw_below_drewN | apply below_drew1 | refine below_set ?_ GE213.out) | exact HB.out)) hb); have n2_ := Aside0.mk (hbox); have n3_ := Aside0.mk ((by rw [hg]; exact (below_size (by repeat (first | (with_reducible first | exact HB.out | apply below_alloc | apply pw_below_drewN | apply below_drew1 | refine below_set ?_ GE213.out) | exact HB.out))) : w.heap.size ≤ gb214)); have n4_ := Aside0.mk ((by rw [hg]; exact (below_size (by repeat (first | (with_reducible first | exact HB.out | apply below_alloc | apply pw_below_drewN | apply below_drew1 | refine below_set ?_ GE213.out) | exact HB.out))) : w.heap.size ≤ gb214)); have n5_ := Aside0.mk ((by rw [hg]; exact Nat.ne_of_lt (blk_lt (g := gb213) (o := .cells #[.int .i64 a0_0, .int .i64 a0_1] 32 (0, 0)) (by (with_reducible repeat (first | refine blk_drewN ?_ _ | refine blk_drew ?_ | refine blk_alloc ?_ _)); exact BK213.out)) : gb213 ≠ gb214)); have n6_ := Aside0.mk ((by rw [hg]; exact Nat.ne_of_gt (blk_lt (g := gb213) (o := .cells #[.int .i64 a0_0, .int .i64 a0_1] 32 (0, 0)) (by (with_reducible repeat (first | refine blk_drewN ?_ _ | refine blk_drew ?_ | refine blk_alloc ?_ _)); exact BK213.out)) : gb214 ≠ gb213)); clear BK213; clear HB; have BK213 := n0_; have HB := n1_; have BK214 := n2_; have GW214 := n3_; have GE214 := n4_; have NB213_214 := n5_; have NB214_213 := n6_; clear n0_ n1_ n2_ n3_ n4_ n5_ n6_; clear hb hbox hg; have hnb11 := NB213_214.out; have hnc11 := NB214_213.out; have hcz12_0 : w10.cell? ⟨gb213, 0, none⟩ = some (.int .i64 a0_0) := (blk_cell BK213.out 0).trans rfl; have hcz12_1 : w10.cell? ⟨gb213, 1, none⟩ = some (.int .i64 a0_1) := (blk_cell BK213.out 1).trans rfl; have hfz12_0 := blk_frozen BK213.out 0; have hfz12_1 := blk_frozen BK213.out 1; have hcz13_0 : w10.cell? ⟨gb214, 0, none⟩ = some (.int .i64 a1_0) := (blk_cell BK214.out 0).trans rfl; have hcz13_1 : w10.cell? ⟨gb214, 1, none⟩ = some (.int .i64 a1_1) := (blk_cell BK214.out 1).trans rfl; have hfz13_0 := blk_frozen BK214.out 0; have hfz13_1 := blk_frozen BK214.out 1))
    go_ret
    exact ⟨by first | rfl | exact congrArg (fun b_ => Ending.returned (.bool b_)) HT.out | (simp [errW_none, errW_some] <;> rfl) | (simp [*, errW_none, errW_some] <;> rfl), by repeat (first | (with_reducible first | exact HB.out | apply below_alloc | apply pw_below_drewN | apply below_drew1 | refine below_set ?_ GE213.out | refine below_set ?_ GE214.out) | exact HB.out)⟩
end Go.Proofs.YthgjedagbgmgmaaDoor.Pr
namespace Go.Proofs.YthgjedagbgmgmaaDoor.Pr
open Go.RowKit Go.Proofs.YthgjedagbgmgmaaDoorW.PrintWords Go.Proofs.YthgjedagbgmgmaaDoorW.PrintLast Go.Proofs.YthgjedagbgmgmaaDoorW.PrintMore
set_option linter.unusedVariables false
set_option linter.unusedSimpArgs false
theorem reps_lone {α : Type} {R : α → List Value → Prop} {sz : Nat} {p : α} {cs : List Value} (hl : cs.length = sz) (h : R p cs) : Reps R sz [p] cs := by
  refine ⟨by simp [hl], fun i x hx => ?_⟩
  cases i with
  | zero =>
    obtain rfl : p = x := by simpa using hx
    rw [Nat.zero_mul, List.drop_zero, List.take_of_length_le (by omega)]
    exact h
  | succ i => simp at hx
theorem own_b {α : Type} {d : Kd α} {e : Nat} {W : World} {base : Nat} {ok : Nat → Prop} {v : Value} {xs : List α} (h : Kd.R d e W base ok v xs) (k : Nat) (hk : v.ownBlock = some k) : base ≤ k := by
  obtain ⟨_, inner, ho, _⟩ := h
  exact own_base ho k hk
theorem own_ne_lt {α : Type} {d : Kd α} {e : Nat} {W : World} {base : Nat} {ok : Nat → Prop} {v : Value} {xs : List α} (h : Kd.R d e W base ok v xs) {g : Nat} (hg : g < base) : some g ≠ v.ownBlock := fun q => by
  have := own_b h g q.symm
  omega
theorem sep_new {α : Type} {d : Kd α} {e : Nat} {W : World} {base : Nat} {ok : Nat → Prop} {v v1 : Value} {xs : List α} (h : Kd.R d e W base ok v xs) (hn : ∃ b, v1.ownBlock = some b ∧ W.heap.size ≤ b) : ∀ k, v.ownBlock = some k → v1.ownBlock ≠ some k := by
  intro k hk q
  obtain ⟨_, inner, ho, _⟩ := h
  obtain ⟨b, hb, hle⟩ := hn
  have := own_lt ho k hk
  rw [hb] at q
  injection q with q
  omega
theorem sep_sym {v v1 : Value} (h : ∀ k, v.ownBlock = some k → v1.ownBlock ≠ some k) : ∀ k, v1.ownBlock = some k → v.ownBlock ≠ some k := fun k hk q => h k q hk
theorem sep_app {α : Type} {d : Kd α} {e : Nat} {W : World} {base : Nat} {ok : Nat → Prop} {v u u1 : Value} {xs : List α} (hp : ∀ k, v.ownBlock = some k → u.ownBlock ≠ some k) (h : Kd.R d e W base ok v xs) (hat : u1.ownBlock = u.ownBlock ∨ ∃ b, u1.ownBlock = some b ∧ W.heap.size ≤ b) : ∀ k, v.ownBlock = some k → u1.ownBlock ≠ some k := by
  rcases hat with hat | hat
  · rw [hat]; exact hp
  · exact sep_new h hat
theorem R_grown_ne {α : Type} {d : Kd α} {e : Nat} {W W' : World} {base : Nat} {v : Value} {xs : List α} {row : Option Nat} (hE : d.E.length = 0) (h : Kd.R d e W base (fun _ => True) v xs) (hg : W.grownBy W' row) (hne : ∀ k, v.ownBlock = some k → row ≠ some k) : Kd.R d e W' base (fun _ => True) v xs := by
  obtain ⟨h0, inner, ho, hr⟩ := h
  refine ⟨h0, inner, own_move ho (fun k hk => hg.block k (own_lt ho k hk) (fun q => hne k hk q.symm)), hr.imp_ (fun _ _ hp => ?_)⟩
  have h2 := d.M_mono (ok' := fun _ => False) (fun k hk => by
    obtain ⟨_, _, _, q, hq, _⟩ := hk
    rw [List.eq_nil_of_length_eq_zero hE] at hq
    exact absurd hq (by simp)) (d.M_bound hp)
  exact d.M_mono (fun k hk => hk.elim) (d.M_move (fun k hk => hk.elim) h2)
theorem g_below {W W' : World} (h : Below W.heap.size W W') : W.grownBy W' none := ⟨h.os, h.tape, h.output, h.size, fun k hk _ => h.block k hk⟩
theorem g_refl (W : World) (row : Option Nat) : W.grownBy W row := ⟨rfl, rfl, rfl, Nat.le_refl _, fun _ _ _ => rfl⟩
theorem g_all {W W' : World} {row : Option Nat} (h : W.grownBy W' row) (o : Obj) : W.grownBy (W'.alloc o) row := h.trans (World.grownBy_alloc W' o row)
theorem g_put {W W' : World} {g : Nat} (h : W.grownBy W' (some g)) (j : Nat) (u : Value) : W.grownBy (W'.setCell ⟨g, j, none⟩ u) (some g) :=
  ⟨h.os, h.tape, h.output, (show (W'.setCell ⟨g, j, none⟩ u).heap.size = W'.heap.size by simp) ▸ h.size, fun k hk hne => (Below.heap_setCell W' ⟨g, j, none⟩ u k (fun e => hne (by rw [e]))).trans (h.block k hk hne)⟩
theorem own_row_typed {α : Type} {d : Kd α} {e : Nat} {W : World} {base : Nat} {ok : Nat → Prop} {v : Value} {xs : List α} (h : Kd.R d e W base ok v xs) (g : Nat) (hg : v.ownBlock = some g) : ∃ cells, W.heap[g]? = some (.cells cells e (0, 0)) := by
  obtain ⟨_, inner, ho, _⟩ := h
  exact own_typed ho g hg
theorem own_ne {α : Type} {d : Kd α} {e : Nat} {W : World} {base : Nat} {ok : Nat → Prop} {v : Value} {xs : List α} (h : Kd.R d e W base ok v xs) {g : Nat} {cs : Array Value} {t : TypeId} (hb : W.heap[g]? = some (.cells cs t (0, 0))) (ht : t ≠ e) : some g ≠ v.ownBlock := by
  intro q
  obtain ⟨cells, hc⟩ := own_row_typed h g q.symm
  rw [hb] at hc
  injection hc with hc
  injection hc with _ hc _
  exact ht hc
theorem R_typed_grown {α : Type} {d : Kd α} {e : Nat} {W W' : World} {base : Nat} {ok : Nat → Prop} {v : Value} {xs : List α} {row : Option Nat} (h : Kd.R d e W base ok v xs) (hg : W.grownBy W' row) (hrow : ∀ g, row = some g → ∃ cells t, W.heap[g]? = some (.cells cells t (0, 0)) ∧ ∀ q, q ∈ e :: d.E → q ≠ t) : Kd.R d e W' base ok v xs := by
  cases row with
  | none => exact Kd.R_step h fun k _ hk => hg.block k hk (by simp)
  | some g =>
    obtain ⟨cells, t, hb, ht⟩ := hrow g rfl
    exact Kd.R_mono (Kd.R_step (Kd.R_types h hb ht) fun k hk hlt => hg.block k hlt (fun q => hk.2 (Option.some.inj q))) (fun _ hk => hk.1)
end Go.Proofs.YthgjedagbgmgmaaDoor.Pr
namespace Go.Proofs.YthgjedagbgmgmaaDoor.Pr
open Go.RowKit Go.Proofs.YthgjedagbgmgmaaDoorW.PrintWords Go.Proofs.YthgjedagbgmgmaaDoorW.PrintLast Go.Proofs.YthgjedagbgmgmaaDoorW.PrintMore
set_option linter.unusedVariables false
set_option linter.unusedSimpArgs false
set_option maxHeartbeats 8000000 in
set_option maxRecDepth 100000 in
theorem more_none (A0 A1 A2 : Option Addr) (c0 c1 c2 : Nat) (l0 : List S92) (l1 : List S90) (l2 : List S43) (lx : S43) (n : Int) (w : World) (HSO : Hid (∀ W, Below w.heap.size w W → Calls Tryd.prog 56 #[.agg #[.slice A0 l0.length c0, .slice A1 l1.length c1, .slice A2 l2.length c2]] W fun e w' => e = .returned (.bool false) ∧ Below W.heap.size W w')) (HRO : Hid (∀ W, Below w.heap.size w W → Calls Tryd.prog 27 #[] W fun e w' => e = .returned (.bool true) ∧ Below W.heap.size W w')) :
    Calls Tryd.prog 9 #[.agg #[.slice A0 l0.length c0, .slice A1 l1.length c1, .slice A2 l2.length c2], .agg #[.int .i64 lx.f0, .int .i64 lx.f1], .int .i64 n] w fun e w' => e = .returned (.bool true) ∧ Below w.heap.size w w' := by
  go_enter Tryd.func9, Tryd.ntmps9
  have HB := Lib.hid (Below.refl w.heap.size w)
  go_wp2_with fail
  obtain ⟨W1, hnw⟩ : ∃ W, W = ((w.alloc (.cells #[.slice A0 l0.length c0, .slice A1 l1.length c1, .slice A2 l2.length c2] 26)).alloc (.cells #[.int .i64 lx.f0, .int .i64 lx.f1] 43)) := ⟨_, rfl⟩
  rw [← hnw]
  have hg : w.grownBy W1 (none) := by rw [hnw]; exact (g_all (g_all (g_refl w (none)) (.cells #[.slice A0 l0.length c0, .slice A1 l1.length c1, .slice A2 l2.length c2] 26)) (.cells #[.int .i64 lx.f0, .int .i64 lx.f1] 43))
  have HK := Lib.hid (show W1.heap[w.heap.size]? = some (.cells #[.slice A0 l0.length c0, .slice A1 l1.length c1, .slice A2 l2.length c2] 26 (0, 0)) by rw [hnw]; exact blk_alloc (blk_at w (.cells #[.slice A0 l0.length c0, .slice A1 l1.length c1, .slice A2 l2.length c2] 26) _ (by simp)) (.cells #[.int .i64 lx.f0, .int .i64 lx.f1] 43))
  have HM := Lib.hid (show W1.heap[w.heap.size + 1]? = some (.cells #[.int .i64 lx.f0, .int .i64 lx.f1] 43 (0, 0)) by rw [hnw]; exact blk_at (w.alloc (.cells #[.slice A0 l0.length c0, .slice A1 l1.length c1, .slice A2 l2.length c2] 26)) (.cells #[.int .i64 lx.f0, .int .i64 lx.f1] 43) _ (by simp))
  replace HB := Lib.hid (HB.out.grown hg HB.out.size (fun k e => by cases e))
  clear hg hnw
  refine (HSO.out _ HB.out).mono ?_
  rintro e W2 ⟨rfl, hb⟩
  have hg := g_below hb
  replace HK := Lib.hid (blk_grown HK.out hg (by simp))
  replace HM := Lib.hid (blk_grown HM.out hg (by simp))
  replace HB := Lib.hid (HB.out.trans (below_weaken hb HB.out.size))
  clear hb hg
  have cK_0 := (blk_cell HK.out 0).trans rfl
  have cK_1 := (blk_cell HK.out 1).trans rfl
  have cK_2 := (blk_cell HK.out 2).trans rfl
  have lK := blk_lt HK.out
  have cM_0 := (blk_cell HM.out 0).trans rfl
  have cM_1 := (blk_cell HM.out 1).trans rfl
  have lM := blk_lt HM.out
  go_wp2_with fail
  clear cK_0 cK_1 cK_2 lK cM_0 cM_1 lM
  refine (HRO.out _ HB.out).mono ?_
  rintro e W3 ⟨rfl, hb⟩
  have hg := g_below hb
  replace HK := Lib.hid (blk_grown HK.out hg (by simp))
  replace HM := Lib.hid (blk_grown HM.out hg (by simp))
  replace HB := Lib.hid (HB.out.trans (below_weaken hb HB.out.size))
  clear hb hg
  have cK_0 := (blk_cell HK.out 0).trans rfl
  have cK_1 := (blk_cell HK.out 1).trans rfl
  have cK_2 := (blk_cell HK.out 2).trans rfl
  have lK := blk_lt HK.out
  have cM_0 := (blk_cell HM.out 0).trans rfl
  have cM_1 := (blk_cell HM.out 1).trans rfl
  have lM := blk_lt HM.out
  clear cK_0 cK_1 cK_2 lK cM_0 cM_1 lM
  go_wp2
  go_ret
  exact ⟨ret_true (by first | rfl | (simp; done) | (simp; omega)), HB.out⟩
set_option maxHeartbeats 8000000 in
set_option maxRecDepth 100000 in
theorem more_four (A0 A1 A2 : Option Addr) (c0 c1 c2 : Nat) (l0 : List S92) (l1 : List S90) (l2 : List S43) (lx : S43) (n : Int) (w : World) (hl4 : ((l2.length : Int) == 4) = true) (HSO : Hid (∀ W, Below w.heap.size w W → Calls Tryd.prog 56 #[.agg #[.slice A0 l0.length c0, .slice A1 l1.length c1, .slice A2 l2.length c2]] W fun e w' => e = .returned (.bool true) ∧ Below W.heap.size W w')) (HRO : Hid (∀ W, Below w.heap.size w W → Calls Tryd.prog 27 #[] W fun e w' => e = .returned (.bool true) ∧ Below W.heap.size W w')) :
    Calls Tryd.prog 9 #[.agg #[.slice A0 l0.length c0, .slice A1 l1.length c1, .slice A2 l2.length c2], .agg #[.int .i64 lx.f0, .int .i64 lx.f1], .int .i64 n] w fun e w' => e = .returned (.bool true) ∧ Below w.heap.size w w' := by
  go_enter Tryd.func9, Tryd.ntmps9
  have HB := Lib.hid (Below.refl w.heap.size w)
  go_wp2_with fail
  obtain ⟨W1, hnw⟩ : ∃ W, W = ((w.alloc (.cells #[.slice A0 l0.length c0, .slice A1 l1.length c1, .slice A2 l2.length c2] 26)).alloc (.cells #[.int .i64 lx.f0, .int .i64 lx.f1] 43)) := ⟨_, rfl⟩
  rw [← hnw]
  have hg : w.grownBy W1 (none) := by rw [hnw]; exact (g_all (g_all (g_refl w (none)) (.cells #[.slice A0 l0.length c0, .slice A1 l1.length c1, .slice A2 l2.length c2] 26)) (.cells #[.int .i64 lx.f0, .int .i64 lx.f1] 43))
  have HK := Lib.hid (show W1.heap[w.heap.size]? = some (.cells #[.slice A0 l0.length c0, .slice A1 l1.length c1, .slice A2 l2.length c2] 26 (0, 0)) by rw [hnw]; exact blk_alloc (blk_at w (.cells #[.slice A0 l0.length c0, .slice A1 l1.length c1, .slice A2 l2.length c2] 26) _ (by simp)) (.cells #[.int .i64 lx.f0, .int .i64 lx.f1] 43))
  have HM := Lib.hid (show W1.heap[w.heap.size + 1]? = some (.cells #[.int .i64 lx.f0, .int .i64 lx.f1] 43 (0, 0)) by rw [hnw]; exact blk_at (w.alloc (.cells #[.slice A0 l0.length c0, .slice A1 l1.length c1, .slice A2 l2.length c2] 26)) (.cells #[.int .i64 lx.f0, .int .i64 lx.f1] 43) _ (by simp))
  replace HB := Lib.hid (HB.out.grown hg HB.out.size (fun k e => by cases e))
  clear hg hnw
  refine (HSO.out _ HB.out).mono ?_
  rintro e W2 ⟨rfl, hb⟩
  have hg := g_below hb
  replace HK := Lib.hid (blk_grown HK.out hg (by simp))
  replace HM := Lib.hid (blk_grown HM.out hg (by simp))
  replace HB := Lib.hid (HB.out.trans (below_weaken hb HB.out.size))
  clear hb hg
  have cK_0 := (blk_cell HK.out 0).trans rfl
  have cK_1 := (blk_cell HK.out 1).trans rfl
  have cK_2 := (blk_cell HK.out 2).trans rfl
  have lK := blk_lt HK.out
  have cM_0 := (blk_cell HM.out 0).trans rfl
  have cM_1 := (blk_cell HM.out 1).trans rfl
  have lM := blk_lt HM.out
  go_wp2_with fail
  clear cK_0 cK_1 cK_2 lK cM_0 cM_1 lM
  refine (HRO.out _ HB.out).mono ?_
  rintro e W3 ⟨rfl, hb⟩
  have hg := g_below hb
  replace HK := Lib.hid (blk_grown HK.out hg (by simp))
  replace HM := Lib.hid (blk_grown HM.out hg (by simp))
  replace HB := Lib.hid (HB.out.trans (below_weaken hb HB.out.size))
  clear hb hg
  have cK_0 := (blk_cell HK.out 0).trans rfl
  have cK_1 := (blk_cell HK.out 1).trans rfl
  have cK_2 := (blk_cell HK.out 2).trans rfl
  have lK := blk_lt HK.out
  have cM_0 := (blk_cell HM.out 0).trans rfl
  have cM_1 := (blk_cell HM.out 1).trans rfl
  have lM := blk_lt HM.out
  clear cK_0 cK_1 cK_2 lK cM_0 cM_1 lM
  go_wp2
  go_ret
  exact ⟨ret_true (by first | rfl | (simp; done) | (simp; omega)), HB.out⟩
set_option maxHeartbeats 8000000 in
set_option maxRecDepth 100000 in
theorem more_walk (A0 A1 A2 : Option Addr) (c0 c1 c2 : Nat) (l0 : List S92) (l1 : List S90) (l2 : List S43) (lx : S43) (n : Int) (w : World) (lm : List S43) (hlm : lm = l2 ++ [lx]) (hl2 : l2.length ≤ 3) (hl4 : ((l2.length : Int) == 4) = false) (hr2 : Kd.C k43 w A2 l2.length l2) (fi ri : Bool) (fe re : Int) (HSO : Hid (∀ W, Below w.heap.size w W → Calls Tryd.prog 56 #[.agg #[.slice A0 l0.length c0, .slice A1 l1.length c1, .slice A2 l2.length c2]] W fun e w' => e = .returned (.bool true) ∧ Below W.heap.size W w')) (HRO : Hid (∀ W, Below w.heap.size w W → Calls Tryd.prog 27 #[] W fun e w' => e = .returned (.bool true) ∧ Below W.heap.size W w')) (HFI : Hid (∀ W, Below w.heap.size w W → Calls Tryd.prog 38 #[.agg #[.slice A0 l0.length c0, .slice A1 l1.length c1, .slice A2 l2.length c2], .agg #[.int .i64 lx.f0, .int .i64 lx.f1]] W fun e w' => e = .returned (.tuple #[.bool fi, .int .i64 fe]) ∧ Below W.heap.size W w')) (HRX : Hid (∀ W Ac cc, Below w.heap.size w W → Kd.C k43 W Ac lm.length lm → lm.length ≤ cc → Calls Tryd.prog 17 #[.agg #[.slice A0 l0.length c0, .slice A1 l1.length c1, .slice Ac lm.length cc]] W fun e w' => e = .returned (.tuple #[.bool ri, .int .i64 re]) ∧ Below W.heap.size W w'))
    (HC : Hid ((fi = false ∧ fe = 71 ∧ ri = false ∧ re = 70) ∨ (fi = false ∧ fe = 72 ∧ ri = false ∧ re = 0) ∨ (fi = false ∧ fe = 0 ∧ ri = false ∧ re = 0) ∨ (fi = true ∧ fe = 0 ∧ ri = true ∧ re = 0 ∧ ∃ (dd : Nat) (s1 s2 t1 t2 u1 u2 v1 v2 sky now p1 p2 q1 q2 : Int), Hid (∀ W, Calls Tryd.prog 47 #[.int .i64 n, .int .i64 (l1.length : Int)] W fun e w' => e = .returned (.int .i64 (dd : Int)) ∧ Below W.heap.size W w') ∧ Hid (∀ W, Below w.heap.size w W → Calls Tryd.prog 21 #[.agg #[.slice A0 l0.length c0, .slice A1 l1.length c1, .slice A2 l2.length c2], .int .i64 (dd : Int)] W fun e w' => e = .returned (.tuple #[.agg #[.int .i64 s1, .int .i64 s2], .int .i64 0]) ∧ Below W.heap.size W w') ∧ Hid (∀ W Ac cc, Below w.heap.size w W → Kd.C k43 W Ac lm.length lm → lm.length ≤ cc → Calls Tryd.prog 21 #[.agg #[.slice A0 l0.length c0, .slice A1 l1.length c1, .slice Ac lm.length cc], .int .i64 (dd : Int)] W fun e w' => e = .returned (.tuple #[.agg #[.int .i64 t1, .int .i64 t2], .int .i64 0]) ∧ Below W.heap.size W w') ∧ Hid (∀ W, Below w.heap.size w W → Calls Tryd.prog 23 #[.agg #[.slice A0 l0.length c0, .slice A1 l1.length c1, .slice A2 l2.length c2], .int .i64 (dd : Int)] W fun e w' => e = .returned (.tuple #[.agg #[.int .i64 u1, .int .i64 u2], .int .i64 0]) ∧ Below W.heap.size W w') ∧ Hid (∀ W Ac cc, Below w.heap.size w W → Kd.C k43 W Ac lm.length lm → lm.length ≤ cc → Calls Tryd.prog 23 #[.agg #[.slice A0 l0.length c0, .slice A1 l1.length c1, .slice Ac lm.length cc], .int .i64 (dd : Int)] W fun e w' => e = .returned (.tuple #[.agg #[.int .i64 v1, .int .i64 v2], .int .i64 0]) ∧ Below W.heap.size W w') ∧ Hid (∀ W, Below w.heap.size w W → Calls Tryd.prog 25 #[.agg #[.slice A0 l0.length c0, .slice A1 l1.length c1, .slice A2 l2.length c2], .int .i64 (dd : Int)] W fun e w' => e = .returned (.tuple #[.int .i64 sky, .int .i64 0]) ∧ Below W.heap.size W w') ∧ Hid (∀ W Ac cc, Below w.heap.size w W → Kd.C k43 W Ac lm.length lm → lm.length ≤ cc → Calls Tryd.prog 25 #[.agg #[.slice A0 l0.length c0, .slice A1 l1.length c1, .slice Ac lm.length cc], .int .i64 (dd : Int)] W fun e w' => e = .returned (.tuple #[.int .i64 now, .int .i64 0]) ∧ Below W.heap.size W w') ∧ Hid (∀ W, Below w.heap.size w W → Calls Tryd.prog 28 #[.agg #[.slice A0 l0.length c0, .slice A1 l1.length c1, .slice A2 l2.length c2]] W fun e w' => e = .returned (.tuple #[.agg #[.int .i64 p1, .int .i64 p2], .int .i64 0]) ∧ Below W.heap.size W w') ∧ Hid (∀ W Ac cc, Below w.heap.size w W → Kd.C k43 W Ac lm.length lm → lm.length ≤ cc → Calls Tryd.prog 28 #[.agg #[.slice A0 l0.length c0, .slice A1 l1.length c1, .slice Ac lm.length cc]] W fun e w' => e = .returned (.tuple #[.agg #[.int .i64 q1, .int .i64 q2], .int .i64 0]) ∧ Below W.heap.size W w') ∧ Hid (∀ W, Calls Tryd.prog 63 #[.agg #[.int .i64 s1, .int .i64 s2], .agg #[.int .i64 t1, .int .i64 t2]] W fun e w' => e = .returned (.bool true) ∧ Below W.heap.size W w') ∧ Hid (∀ W, Calls Tryd.prog 63 #[.agg #[.int .i64 u1, .int .i64 u2], .agg #[.int .i64 v1, .int .i64 v2]] W fun e w' => e = .returned (.bool true) ∧ Below W.heap.size W w') ∧ Hid (∀ W, Calls Tryd.prog 63 #[.agg #[.int .i64 p1, .int .i64 p2], .agg #[.int .i64 q1, .int .i64 q2]] W fun e w' => e = .returned (.bool true) ∧ Below W.heap.size W w') ∧ bits BinOp.andNot IntKind.i64 now sky = 0 ∧ (now == 0) = false ∧ t1 ≤ t2 ∧ ∃ x1 x2 y1 y2 z1 z2 r1 r2 : Int, Hid (∀ W, Below w.heap.size w W → Calls Tryd.prog 32 #[.agg #[.slice A0 l0.length c0, .slice A1 l1.length c1, .slice A2 l2.length c2]] W fun e w' => e = .returned (.tuple #[.int .i64 x1, .int .i64 x2]) ∧ Below W.heap.size W w') ∧ Hid (∀ W Ac cc, Below w.heap.size w W → Kd.C k43 W Ac lm.length lm → lm.length ≤ cc → Calls Tryd.prog 32 #[.agg #[.slice A0 l0.length c0, .slice A1 l1.length c1, .slice Ac lm.length cc]] W fun e w' => e = .returned (.tuple #[.int .i64 y1, .int .i64 y2]) ∧ Below W.heap.size W w') ∧ Hid (∀ W, Below w.heap.size w W → Calls Tryd.prog 34 #[.agg #[.slice A0 l0.length c0, .slice A1 l1.length c1, .slice A2 l2.length c2]] W fun e w' => e = .returned (.tuple #[.int .i64 z1, .int .i64 z2]) ∧ Below W.heap.size W w') ∧ Hid (∀ W Ac cc, Below w.heap.size w W → Kd.C k43 W Ac lm.length lm → lm.length ≤ cc → Calls Tryd.prog 34 #[.agg #[.slice A0 l0.length c0, .slice A1 l1.length c1, .slice Ac lm.length cc]] W fun e w' => e = .returned (.tuple #[.int .i64 r1, .int .i64 r2]) ∧ Below W.heap.size W w') ∧ Hid ((x2 = 4 ∨ (x2 = 0 ∧ y2 = 0 ∧ y1 ≤ x1)) ∧ (r2 = 4 ∨ (r2 = 0 ∧ z2 = 0 ∧ z1 ≤ r1)))))) :
    Calls Tryd.prog 9 #[.agg #[.slice A0 l0.length c0, .slice A1 l1.length c1, .slice A2 l2.length c2], .agg #[.int .i64 lx.f0, .int .i64 lx.f1], .int .i64 n] w fun e w' => e = .returned (.bool true) ∧ Below w.heap.size w w' := by
  have HR2 := Lib.hid hr2
  have HLM := Lib.hid hlm
  clear hr2 hlm
  go_enter Tryd.func9, Tryd.ntmps9
  have HB := Lib.hid (Below.refl w.heap.size w)
  go_wp2_with fail
  obtain ⟨W1, hnw⟩ : ∃ W, W = ((w.alloc (.cells #[.slice A0 l0.length c0, .slice A1 l1.length c1, .slice A2 l2.length c2] 26)).alloc (.cells #[.int .i64 lx.f0, .int .i64 lx.f1] 43)) := ⟨_, rfl⟩
  rw [← hnw]
  have hg : w.grownBy W1 (none) := by rw [hnw]; exact (g_all (g_all (g_refl w (none)) (.cells #[.slice A0 l0.length c0, .slice A1 l1.length c1, .slice A2 l2.length c2] 26)) (.cells #[.int .i64 lx.f0, .int .i64 lx.f1] 43))
  have HK := Lib.hid (show W1.heap[w.heap.size]? = some (.cells #[.slice A0 l0.length c0, .slice A1 l1.length c1, .slice A2 l2.length c2] 26 (0, 0)) by rw [hnw]; exact blk_alloc (blk_at w (.cells #[.slice A0 l0.length c0, .slice A1 l1.length c1, .slice A2 l2.length c2] 26) _ (by simp)) (.cells #[.int .i64 lx.f0, .int .i64 lx.f1] 43))
  have HM := Lib.hid (show W1.heap[w.heap.size + 1]? = some (.cells #[.int .i64 lx.f0, .int .i64 lx.f1] 43 (0, 0)) by rw [hnw]; exact blk_at (w.alloc (.cells #[.slice A0 l0.length c0, .slice A1 l1.length c1, .slice A2 l2.length c2] 26)) (.cells #[.int .i64 lx.f0, .int .i64 lx.f1] 43) _ (by simp))
  replace HB := Lib.hid (HB.out.grown hg HB.out.size (fun k e => by cases e))
  clear hg hnw
  refine (HSO.out _ HB.out).mono ?_
  rintro e W2 ⟨rfl, hb⟩
  have hg := g_below hb
  replace HK := Lib.hid (blk_grown HK.out hg (by simp))
  replace HM := Lib.hid (blk_grown HM.out hg (by simp))
  replace HB := Lib.hid (HB.out.trans (below_weaken hb HB.out.size))
  clear hb hg
  have cK_0 := (blk_cell HK.out 0).trans rfl
  have cK_1 := (blk_cell HK.out 1).trans rfl
  have cK_2 := (blk_cell HK.out 2).trans rfl
  have lK := blk_lt HK.out
  have cM_0 := (blk_cell HM.out 0).trans rfl
  have cM_1 := (blk_cell HM.out 1).trans rfl
  have lM := blk_lt HM.out
  go_upto_region 4 with fail
  clear cK_0 cK_1 cK_2 lK cM_0 cM_1 lM
  have LqK_2 := blk_lt HK.out
  have LqM_2 := blk_lt HM.out
  obtain ⟨W3, hnw⟩ : ∃ W, W = (W2.alloc (.cells #[.slice A0 l0.length c0, .slice A1 l1.length c1, .slice A2 l2.length c2] 26)) := ⟨_, rfl⟩
  rw [← hnw]
  have hg : W2.grownBy W3 (none) := by rw [hnw]; exact (g_all (g_refl W2 (none)) (.cells #[.slice A0 l0.length c0, .slice A1 l1.length c1, .slice A2 l2.length c2] 26))
  have HX := Lib.hid (show W3.heap[W2.heap.size]? = some (.cells #[.slice A0 l0.length c0, .slice A1 l1.length c1, .slice A2 l2.length c2] 26 (0, 0)) by rw [hnw]; exact blk_at W2 (.cells #[.slice A0 l0.length c0, .slice A1 l1.length c1, .slice A2 l2.length c2] 26) _ (by simp))
  replace HK := Lib.hid (blk_grown HK.out hg (by simp))
  replace HM := Lib.hid (blk_grown HM.out hg (by simp))
  replace HB := Lib.hid (HB.out.grown hg HB.out.size (fun k e => by cases e))
  clear hg hnw
  have HBS : Hid (w.heap.size + 2 ≤ W3.heap.size) := Lib.hid (by have := blk_lt HM.out; omega)
  have cK_0 := (blk_cell HK.out 0).trans rfl
  have cK_1 := (blk_cell HK.out 1).trans rfl
  have cK_2 := (blk_cell HK.out 2).trans rfl
  have lK := blk_lt HK.out
  have cM_0 := (blk_cell HM.out 0).trans rfl
  have cM_1 := (blk_cell HM.out 1).trans rfl
  have lM := blk_lt HM.out
  have cX_0 := (blk_cell HX.out 0).trans rfl
  have cX_1 := (blk_cell HX.out 1).trans rfl
  have cX_2 := (blk_cell HX.out 2).trans rfl
  have lX := blk_lt HX.out
  go_upto_region 4 with fail
  clear cK_0 cK_1 cK_2 lK cM_0 cM_1 lM cX_0 cX_1 cX_2 lX
  have LrK_4 := blk_lt HK.out
  have LrM_4 := blk_lt HM.out
  have LrX_4 := blk_lt HX.out
  have HQ := Lib.hid (Nat.le_refl W3.heap.size)
  have hb : Below W3.heap.size W3 W3.drew := (Below.refl _ _).drew
  have hg := g_below hb
  replace HQ := Lib.hid (Nat.le_trans HQ.out hg.size)
  replace HBS := Lib.hid (Nat.le_trans HBS.out hg.size)
  replace HK := Lib.hid (blk_grown HK.out hg (by simp))
  replace HM := Lib.hid (blk_grown HM.out hg (by simp))
  replace HX := Lib.hid (blk_grown HX.out hg (by simp))
  replace HB := Lib.hid (HB.out.trans (below_weaken hb HB.out.size))
  clear hb hg
  refine start_ (n := 9) (S := fun w' => w'.cell? ⟨w.heap.size, 0, none⟩ = some (.slice A0 l0.length c0) ∧ w'.cell? ⟨w.heap.size, 1, none⟩ = some (.slice A1 l1.length c1) ∧ w'.cell? ⟨w.heap.size, 2, none⟩ = some (.slice A2 l2.length c2) ∧ w'.cell? ⟨w.heap.size + 1, 0, none⟩ = some (.int .i64 lx.f0) ∧ w'.cell? ⟨w.heap.size + 1, 1, none⟩ = some (.int .i64 lx.f1) ∧ w'.cell? ⟨W2.heap.size, 0, none⟩ = some (.slice A0 l0.length c0) ∧ w'.cell? ⟨W2.heap.size, 1, none⟩ = some (.slice A1 l1.length c1) ∧ w'.cell? ⟨W2.heap.size, 2, none⟩ = some (.slice A2 l2.length c2)) (ds := [8]) #[false, false, false, false, false, false, false, false, false] (by kernel_rfl) rfl rfl ⟨(blk_cell HK.out 0).trans rfl, (blk_cell HK.out 1).trans rfl, (blk_cell HK.out 2).trans rfl, (blk_cell HM.out 0).trans rfl, (blk_cell HM.out 1).trans rfl, (blk_cell HX.out 0).trans rfl, (blk_cell HX.out 1).trans rfl, (blk_cell HX.out 2).trans rfl⟩ (fun hHeld => ?_)
  refine pu_ 1 (some 41) ?_
  refine ta_ 2 (some 42) (s := hHeld) (y := by rintro w' ⟨s0, s1, s2, s3, s4, s5, s6, s7⟩; go_simp; with_reducible rfl) (h := ?_)
  refine ta_ 4 (some 44) (s := hHeld) (y := by rintro w' ⟨s0, s1, s2, s3, s4, s5, s6, s7⟩; go_simp; with_reducible rfl) (h := ?_)
  refine join_ (σ := Value × Value × Value) 3 #[true, true, true, true, true, true, false, false, false] (fun s => [(40, s.1), (43, s.2.1), (45, s.2.2)]) (fun s w' => w'.heap[w.heap.size]? = some (.cells #[.slice A0 l0.length c0, .slice A1 l1.length c1, .slice A2 l2.length c2] 26 (0, 0)) ∧ w'.heap[w.heap.size + 1]? = some (.cells #[.int .i64 lx.f0, .int .i64 lx.f1] 43 (0, 0)) ∧ w'.heap[W2.heap.size]? = some (.cells #[.slice A0 l0.length c0, .slice A1 l1.length c1, .slice A2 l2.length c2] 26 (0, 0)) ∧ Below w.heap.size w w' ∧ w.heap.size + 2 ≤ w'.heap.size ∧ w'.cell? ⟨w.heap.size, 0, none⟩ = some (.slice A0 l0.length c0) ∧ w'.cell? ⟨w.heap.size, 1, none⟩ = some (.slice A1 l1.length c1) ∧ w'.cell? ⟨w.heap.size, 2, none⟩ = some (.slice A2 l2.length c2) ∧ w'.cell? ⟨w.heap.size + 1, 0, none⟩ = some (.int .i64 lx.f0) ∧ w'.cell? ⟨w.heap.size + 1, 1, none⟩ = some (.int .i64 lx.f1) ∧ w'.cell? ⟨W2.heap.size, 0, none⟩ = some (.slice A0 l0.length c0) ∧ w'.cell? ⟨W2.heap.size, 1, none⟩ = some (.slice A1 l1.length c1) ∧ w'.cell? ⟨W2.heap.size, 2, none⟩ = some (.slice A2 l2.length c2) ∧ Kd.R k43 43 w' (w.heap.size + 2) (fun _ => True) s.2.1 (l2) ∧ Kd.R k43 43 w' (w.heap.size + 2) (fun _ => True) s.2.2 ([lx])) ?_ ?_
  rotate_left
  · intro hCont
    refine two_ (i := 0) (j := 5) (Ni := some 40) (Nj := some 45) #[true, true, true, false, true, false, false, false, false] #[false, true, true, false, true, true, false, false, false] rfl rfl rfl rfl (by kernel_rfl) (by decide) (by decide) (fun K hK => ?_) (fun K hK => ?_)
    · skip
      refine Kd.R_lit_step k43 (w.heap.size + 2) 43 (by rfl) rfl (xs := ([] : List S43)) (inner := []) (ok := fun _ => True) (okp := fun _ => True) ?hr_ ?hp_ (fun _ hk => hk) trivial (Below.refl _ _) HBS.out (by simp) ?_
      (case hr_ => first | (go_simp; done) | (go_simp; rfl))
      (case hp_ => exact (Reps.none _ _))
      intro va W4 ho hb hg hnew_
      clear hnew_
      replace HQ := Lib.hid (Nat.le_trans HQ.out hg.size)
      replace HBS := Lib.hid (Nat.le_trans HBS.out hg.size)
      replace HK := Lib.hid (blk_grown HK.out hg (by simp))
      replace HM := Lib.hid (blk_grown HM.out hg (by simp))
      replace HX := Lib.hid (blk_grown HX.out hg (by simp))
      replace HB := Lib.hid (HB.out.grown hg HB.out.size (fun k e => by cases e))
      have Ra := Lib.hid ho
      clear ho hb hg
      refine hK.out _ _ ⟨(blk_cell HK.out 0).trans rfl, (blk_cell HK.out 1).trans rfl, (blk_cell HK.out 2).trans rfl, (blk_cell HM.out 0).trans rfl, (blk_cell HM.out 1).trans rfl, (blk_cell HX.out 0).trans rfl, (blk_cell HX.out 1).trans rfl, (blk_cell HX.out 2).trans rfl⟩ (fun hHeld => ?_)
      clear hK K
      refine no_ 40 ?_
      refine two_ (i := 3) (j := 5) (Ni := some 43) (Nj := some 45) #[true, true, true, true, true, false, false, false, false] #[true, true, true, false, true, true, false, false, false] rfl rfl rfl rfl (by kernel_rfl) (by decide) (by decide) (fun K hK => ?_) (fun K hK => ?_)
      · skip
        refine Kd.R_append_rows_step k43 (w.heap.size + 2) (by rfl) (.tmp 40) (.tmp 42) 24 43 (.agg #[.int .i64 0, .int .i64 0]) 16 rfl Tryd.underlying24 info43 rfl (by decide) (by omega) va [] l2 _ _ _ (fun _ => True) (fun _ => False) rfl rfl Ra.out (Kd.C_below HR2.out HB.out) (fun x_ cs_ h_ => by rw [k43_open h_]; exact k43_mkM _ _ _ _) (fun _ h => h.elim) (fun _ _ => trivial) (Below.refl _ _) HBS.out (by simp only [List.length_nil]; omega) ?_
        intro vb W5 ho hb hg hat
        replace HQ := Lib.hid (Nat.le_trans HQ.out hg.size)
        replace HBS := Lib.hid (Nat.le_trans HBS.out hg.size)
        replace HK := Lib.hid (blk_grown HK.out hg (own_ne Ra.out HK.out (by decide)))
        replace HM := Lib.hid (blk_grown HM.out hg (own_ne_lt Ra.out (by omega)))
        replace HX := Lib.hid (blk_grown HX.out hg (own_ne Ra.out HX.out (by decide)))
        replace HB := Lib.hid (HB.out.grown hg HB.out.size (fun k e => Nat.le_trans (by omega) (own_b Ra.out k e)))
        clear Ra
        have Rb : Hid (Kd.R k43 43 W5 (w.heap.size + 2) (fun _ => True) vb (l2)) := Lib.hid (by first | exact ho | simpa using ho | (rw [HLM.out]; simpa using ho))
        clear ho hb hg hat
        refine hK.out _ _ ⟨(blk_cell HK.out 0).trans rfl, (blk_cell HK.out 1).trans rfl, (blk_cell HK.out 2).trans rfl, (blk_cell HM.out 0).trans rfl, (blk_cell HM.out 1).trans rfl, (blk_cell HX.out 0).trans rfl, (blk_cell HX.out 1).trans rfl, (blk_cell HX.out 2).trans rfl⟩ (fun hHeld => ?_)
        clear hK K
        refine no_ 43 ?_
        refine one_ (i := 5) (N := some 45) #[true, true, true, true, true, true, false, false, false] rfl rfl (by kernel_rfl) (by decide) (fun K hK => ?_)
        refine Kd.R_lit_step k43 (w.heap.size + 2) 43 (by rfl) rfl (xs := ([lx] : List S43)) (inner := [.int .i64 lx.f0, .int .i64 lx.f1]) (ok := fun _ => True) (okp := fun _ => True) ?hr_ ?hp_ (fun _ hk => hk) trivial (Below.refl _ _) HBS.out (by simp) ?_
        (case hr_ => first | (go_simp; done) | (go_simp; rfl))
        (case hp_ => exact (reps_lone rfl (k43_mkM _ _ _ lx)))
        intro ve W6 ho hb hg hnew_
        have Pb_e := Lib.hid (sep_new Rb.out hnew_)
        have Pe_b := Lib.hid (sep_sym Pb_e.out)
        clear hnew_
        replace HQ := Lib.hid (Nat.le_trans HQ.out hg.size)
        replace HBS := Lib.hid (Nat.le_trans HBS.out hg.size)
        replace Rb := Lib.hid (R_typed_grown Rb.out hg (fun g e => by cases e))
        replace HK := Lib.hid (blk_grown HK.out hg (by simp))
        replace HM := Lib.hid (blk_grown HM.out hg (by simp))
        replace HX := Lib.hid (blk_grown HX.out hg (by simp))
        replace HB := Lib.hid (HB.out.grown hg HB.out.size (fun k e => by cases e))
        have Re := Lib.hid ho
        clear ho hb hg
        refine hK.out _ _ ⟨(blk_cell HK.out 0).trans rfl, (blk_cell HK.out 1).trans rfl, (blk_cell HK.out 2).trans rfl, (blk_cell HM.out 0).trans rfl, (blk_cell HM.out 1).trans rfl, (blk_cell HX.out 0).trans rfl, (blk_cell HX.out 1).trans rfl, (blk_cell HX.out 2).trans rfl⟩ (fun hHeld => ?_)
        clear hK K
        refine no_ 45 ?_
        exact norm_ (by first | (simp only [putAll, Act.put, List.setIfInBounds_toArray, List.set_cons_zero, List.set_cons_succ]; done) | (simp only [putAll, Act.put, List.setIfInBounds_toArray, List.set_cons_zero, List.set_cons_succ]; rfl)) (hCont (va, vb, ve) _ ⟨HK.out, HM.out, HX.out, HB.out, HBS.out, (blk_cell HK.out 0).trans rfl, (blk_cell HK.out 1).trans rfl, (blk_cell HK.out 2).trans rfl, (blk_cell HM.out 0).trans rfl, (blk_cell HM.out 1).trans rfl, (blk_cell HX.out 0).trans rfl, (blk_cell HX.out 1).trans rfl, (blk_cell HX.out 2).trans rfl, Rb.out, Re.out⟩)
      · skip
        refine Kd.R_lit_step k43 (w.heap.size + 2) 43 (by rfl) rfl (xs := ([lx] : List S43)) (inner := [.int .i64 lx.f0, .int .i64 lx.f1]) (ok := fun _ => True) (okp := fun _ => True) ?hr_ ?hp_ (fun _ hk => hk) trivial (Below.refl _ _) HBS.out (by simp) ?_
        (case hr_ => first | (go_simp; done) | (go_simp; rfl))
        (case hp_ => exact (reps_lone rfl (k43_mkM _ _ _ lx)))
        intro ve W5 ho hb hg hnew_
        have Pa_e := Lib.hid (sep_new Ra.out hnew_)
        have Pe_a := Lib.hid (sep_sym Pa_e.out)
        clear hnew_
        replace HQ := Lib.hid (Nat.le_trans HQ.out hg.size)
        replace HBS := Lib.hid (Nat.le_trans HBS.out hg.size)
        replace Ra := Lib.hid (R_typed_grown Ra.out hg (fun g e => by cases e))
        replace HK := Lib.hid (blk_grown HK.out hg (by simp))
        replace HM := Lib.hid (blk_grown HM.out hg (by simp))
        replace HX := Lib.hid (blk_grown HX.out hg (by simp))
        replace HB := Lib.hid (HB.out.grown hg HB.out.size (fun k e => by cases e))
        have Re := Lib.hid ho
        clear ho hb hg
        refine hK.out _ _ ⟨(blk_cell HK.out 0).trans rfl, (blk_cell HK.out 1).trans rfl, (blk_cell HK.out 2).trans rfl, (blk_cell HM.out 0).trans rfl, (blk_cell HM.out 1).trans rfl, (blk_cell HX.out 0).trans rfl, (blk_cell HX.out 1).trans rfl, (blk_cell HX.out 2).trans rfl⟩ (fun hHeld => ?_)
        clear hK K
        refine no_ 45 ?_
        refine one_ (i := 3) (N := some 43) #[true, true, true, true, true, true, false, false, false] rfl rfl (by kernel_rfl) (by decide) (fun K hK => ?_)
        refine Kd.R_append_rows_step k43 (w.heap.size + 2) (by rfl) (.tmp 40) (.tmp 42) 24 43 (.agg #[.int .i64 0, .int .i64 0]) 16 rfl Tryd.underlying24 info43 rfl (by decide) (by omega) va [] l2 _ _ _ (fun _ => True) (fun _ => False) rfl rfl Ra.out (Kd.C_below HR2.out HB.out) (fun x_ cs_ h_ => by rw [k43_open h_]; exact k43_mkM _ _ _ _) (fun _ h => h.elim) (fun _ _ => trivial) (Below.refl _ _) HBS.out (by simp only [List.length_nil]; omega) ?_
        intro vb W6 ho hb hg hat
        have Pe_b := Lib.hid (sep_app Pe_a.out Re.out hat)
        have Pb_e := Lib.hid (sep_sym Pe_b.out)
        replace HQ := Lib.hid (Nat.le_trans HQ.out hg.size)
        replace HBS := Lib.hid (Nat.le_trans HBS.out hg.size)
        replace Re := Lib.hid (R_grown_ne (by decide) Re.out hg Pe_a.out)
        replace HK := Lib.hid (blk_grown HK.out hg (own_ne Ra.out HK.out (by decide)))
        replace HM := Lib.hid (blk_grown HM.out hg (own_ne_lt Ra.out (by omega)))
        replace HX := Lib.hid (blk_grown HX.out hg (own_ne Ra.out HX.out (by decide)))
        replace HB := Lib.hid (HB.out.grown hg HB.out.size (fun k e => Nat.le_trans (by omega) (own_b Ra.out k e)))
        clear Ra
        have Rb : Hid (Kd.R k43 43 W6 (w.heap.size + 2) (fun _ => True) vb (l2)) := Lib.hid (by first | exact ho | simpa using ho | (rw [HLM.out]; simpa using ho))
        clear ho hb hg hat
        refine hK.out _ _ ⟨(blk_cell HK.out 0).trans rfl, (blk_cell HK.out 1).trans rfl, (blk_cell HK.out 2).trans rfl, (blk_cell HM.out 0).trans rfl, (blk_cell HM.out 1).trans rfl, (blk_cell HX.out 0).trans rfl, (blk_cell HX.out 1).trans rfl, (blk_cell HX.out 2).trans rfl⟩ (fun hHeld => ?_)
        clear hK K
        refine no_ 43 ?_
        exact norm_ (by first | (simp only [putAll, Act.put, List.setIfInBounds_toArray, List.set_cons_zero, List.set_cons_succ]; done) | (simp only [putAll, Act.put, List.setIfInBounds_toArray, List.set_cons_zero, List.set_cons_succ]; rfl)) (hCont (va, vb, ve) _ ⟨HK.out, HM.out, HX.out, HB.out, HBS.out, (blk_cell HK.out 0).trans rfl, (blk_cell HK.out 1).trans rfl, (blk_cell HK.out 2).trans rfl, (blk_cell HM.out 0).trans rfl, (blk_cell HM.out 1).trans rfl, (blk_cell HX.out 0).trans rfl, (blk_cell HX.out 1).trans rfl, (blk_cell HX.out 2).trans rfl, Rb.out, Re.out⟩)
    · skip
      refine Kd.R_lit_step k43 (w.heap.size + 2) 43 (by rfl) rfl (xs := ([lx] : List S43)) (inner := [.int .i64 lx.f0, .int .i64 lx.f1]) (ok := fun _ => True) (okp := fun _ => True) ?hr_ ?hp_ (fun _ hk => hk) trivial (Below.refl _ _) HBS.out (by simp) ?_
      (case hr_ => first | (go_simp; done) | (go_simp; rfl))
      (case hp_ => exact (reps_lone rfl (k43_mkM _ _ _ lx)))
      intro ve W4 ho hb hg hnew_
      clear hnew_
      replace HQ := Lib.hid (Nat.le_trans HQ.out hg.size)
      replace HBS := Lib.hid (Nat.le_trans HBS.out hg.size)
      replace HK := Lib.hid (blk_grown HK.out hg (by simp))
      replace HM := Lib.hid (blk_grown HM.out hg (by simp))
      replace HX := Lib.hid (blk_grown HX.out hg (by simp))
      replace HB := Lib.hid (HB.out.grown hg HB.out.size (fun k e => by cases e))
      have Re := Lib.hid ho
      clear ho hb hg
      refine hK.out _ _ ⟨(blk_cell HK.out 0).trans rfl, (blk_cell HK.out 1).trans rfl, (blk_cell HK.out 2).trans rfl, (blk_cell HM.out 0).trans rfl, (blk_cell HM.out 1).trans rfl, (blk_cell HX.out 0).trans rfl, (blk_cell HX.out 1).trans rfl, (blk_cell HX.out 2).trans rfl⟩ (fun hHeld => ?_)
      clear hK K
      refine no_ 45 ?_
      refine one_ (i := 0) (N := some 40) #[true, true, true, false, true, true, false, false, false] rfl rfl (by kernel_rfl) (by decide) (fun K hK => ?_)
      refine Kd.R_lit_step k43 (w.heap.size + 2) 43 (by rfl) rfl (xs := ([] : List S43)) (inner := []) (ok := fun _ => True) (okp := fun _ => True) ?hr_ ?hp_ (fun _ hk => hk) trivial (Below.refl _ _) HBS.out (by simp) ?_
      (case hr_ => first | (go_simp; done) | (go_simp; rfl))
      (case hp_ => exact (Reps.none _ _))
      intro va W5 ho hb hg hnew_
      have Pe_a := Lib.hid (sep_new Re.out hnew_)
      have Pa_e := Lib.hid (sep_sym Pe_a.out)
      clear hnew_
      replace HQ := Lib.hid (Nat.le_trans HQ.out hg.size)
      replace HBS := Lib.hid (Nat.le_trans HBS.out hg.size)
      replace Re := Lib.hid (R_typed_grown Re.out hg (fun g e => by cases e))
      replace HK := Lib.hid (blk_grown HK.out hg (by simp))
      replace HM := Lib.hid (blk_grown HM.out hg (by simp))
      replace HX := Lib.hid (blk_grown HX.out hg (by simp))
      replace HB := Lib.hid (HB.out.grown hg HB.out.size (fun k e => by cases e))
      have Ra := Lib.hid ho
      clear ho hb hg
      refine hK.out _ _ ⟨(blk_cell HK.out 0).trans rfl, (blk_cell HK.out 1).trans rfl, (blk_cell HK.out 2).trans rfl, (blk_cell HM.out 0).trans rfl, (blk_cell HM.out 1).trans rfl, (blk_cell HX.out 0).trans rfl, (blk_cell HX.out 1).trans rfl, (blk_cell HX.out 2).trans rfl⟩ (fun hHeld => ?_)
      clear hK K
      refine no_ 40 ?_
      refine one_ (i := 3) (N := some 43) #[true, true, true, true, true, true, false, false, false] rfl rfl (by kernel_rfl) (by decide) (fun K hK => ?_)
      refine Kd.R_append_rows_step k43 (w.heap.size + 2) (by rfl) (.tmp 40) (.tmp 42) 24 43 (.agg #[.int .i64 0, .int .i64 0]) 16 rfl Tryd.underlying24 info43 rfl (by decide) (by omega) va [] l2 _ _ _ (fun _ => True) (fun _ => False) rfl rfl Ra.out (Kd.C_below HR2.out HB.out) (fun x_ cs_ h_ => by rw [k43_open h_]; exact k43_mkM _ _ _ _) (fun _ h => h.elim) (fun _ _ => trivial) (Below.refl _ _) HBS.out (by simp only [List.length_nil]; omega) ?_
      intro vb W6 ho hb hg hat
      have Pe_b := Lib.hid (sep_app Pe_a.out Re.out hat)
      have Pb_e := Lib.hid (sep_sym Pe_b.out)
      replace HQ := Lib.hid (Nat.le_trans HQ.out hg.size)
      replace HBS := Lib.hid (Nat.le_trans HBS.out hg.size)
      replace Re := Lib.hid (R_grown_ne (by decide) Re.out hg Pe_a.out)
      replace HK := Lib.hid (blk_grown HK.out hg (own_ne Ra.out HK.out (by decide)))
      replace HM := Lib.hid (blk_grown HM.out hg (own_ne_lt Ra.out (by omega)))
      replace HX := Lib.hid (blk_grown HX.out hg (own_ne Ra.out HX.out (by decide)))
      replace HB := Lib.hid (HB.out.grown hg HB.out.size (fun k e => Nat.le_trans (by omega) (own_b Ra.out k e)))
      clear Ra
      have Rb : Hid (Kd.R k43 43 W6 (w.heap.size + 2) (fun _ => True) vb (l2)) := Lib.hid (by first | exact ho | simpa using ho | (rw [HLM.out]; simpa using ho))
      clear ho hb hg hat
      refine hK.out _ _ ⟨(blk_cell HK.out 0).trans rfl, (blk_cell HK.out 1).trans rfl, (blk_cell HK.out 2).trans rfl, (blk_cell HM.out 0).trans rfl, (blk_cell HM.out 1).trans rfl, (blk_cell HX.out 0).trans rfl, (blk_cell HX.out 1).trans rfl, (blk_cell HX.out 2).trans rfl⟩ (fun hHeld => ?_)
      clear hK K
      refine no_ 43 ?_
      exact norm_ (by first | (simp only [putAll, Act.put, List.setIfInBounds_toArray, List.set_cons_zero, List.set_cons_succ]; done) | (simp only [putAll, Act.put, List.setIfInBounds_toArray, List.set_cons_zero, List.set_cons_succ]; rfl)) (hCont (va, vb, ve) _ ⟨HK.out, HM.out, HX.out, HB.out, HBS.out, (blk_cell HK.out 0).trans rfl, (blk_cell HK.out 1).trans rfl, (blk_cell HK.out 2).trans rfl, (blk_cell HM.out 0).trans rfl, (blk_cell HM.out 1).trans rfl, (blk_cell HX.out 0).trans rfl, (blk_cell HX.out 1).trans rfl, (blk_cell HX.out 2).trans rfl, Rb.out, Re.out⟩)
  rintro ⟨va, vb, ve⟩ w' ⟨aHK, aHM, aHX, aHB, aHBS, q0, q1, q2, q3, q4, q5, q6, q7, aRb, aRe⟩
  have hHeld : w'.cell? ⟨w.heap.size, 0, none⟩ = some (.slice A0 l0.length c0) ∧ w'.cell? ⟨w.heap.size, 1, none⟩ = some (.slice A1 l1.length c1) ∧ w'.cell? ⟨w.heap.size, 2, none⟩ = some (.slice A2 l2.length c2) ∧ w'.cell? ⟨w.heap.size + 1, 0, none⟩ = some (.int .i64 lx.f0) ∧ w'.cell? ⟨w.heap.size + 1, 1, none⟩ = some (.int .i64 lx.f1) ∧ w'.cell? ⟨W2.heap.size, 0, none⟩ = some (.slice A0 l0.length c0) ∧ w'.cell? ⟨W2.heap.size, 1, none⟩ = some (.slice A1 l1.length c1) ∧ w'.cell? ⟨W2.heap.size, 2, none⟩ = some (.slice A2 l2.length c2) := ⟨q0, q1, q2, q3, q4, q5, q6, q7⟩
  (try clear HK)
  have HK := Lib.hid aHK
  (try clear HM)
  have HM := Lib.hid aHM
  (try clear HX)
  have HX := Lib.hid aHX
  (try clear HB)
  have HB := Lib.hid aHB
  (try clear HBS)
  have HBS := Lib.hid aHBS
  (try clear Rb)
  have Rb := Lib.hid aRb
  (try clear Re)
  have Re := Lib.hid aRe
  clear aHK aHM aHX aHB aHBS aRb aRe q0 q1 q2 q3 q4 q5 q6 q7
  refine norm_ (a' := ?_) ?_ ?_
  rotate_left
  · simp only [putAll, Act.put, List.setIfInBounds_toArray, List.set_cons_zero, List.set_cons_succ]
    rfl
  refine one_ (i := 6) (N := some 46) #[true, true, true, true, true, true, true, false, false] rfl rfl (by kernel_rfl) (by decide) (fun K hK => ?_)
  obtain ⟨Ay_, cy_, ey_⟩ := Kd.R_slice Re.out
  subst ey_
  refine Kd.R_append_rows_step k43 (w.heap.size + 2) (by rfl) (.tmp 43) (.tmp 45) 24 43 (.agg #[.int .i64 0, .int .i64 0]) 16 rfl Tryd.underlying24 info43 rfl (by decide) (by omega) vb l2 [lx] _ _ _ (fun _ => True) (fun _ => False) rfl rfl Rb.out ((Kd.R_reads' Re.out).2.2) (fun x_ cs_ h_ => by rw [k43_open h_]; exact k43_mkM _ _ _ _) (fun _ h => h.elim) (fun _ _ => trivial) (Below.refl _ _) HBS.out (by simp only [List.length_cons, List.length_nil]; omega) ?_
  intro vc W24 ho hb hg hat
  replace HBS := Lib.hid (Nat.le_trans HBS.out hg.size)
  replace HK := Lib.hid (blk_grown HK.out hg (own_ne Rb.out HK.out (by decide)))
  replace HM := Lib.hid (blk_grown HM.out hg (own_ne_lt Rb.out (by omega)))
  replace HX := Lib.hid (blk_grown HX.out hg (own_ne Rb.out HX.out (by decide)))
  replace HB := Lib.hid (HB.out.grown hg HB.out.size (fun k e => Nat.le_trans (by omega) (own_b Rb.out k e)))
  clear Rb Re
  have Rc : Hid (Kd.R k43 43 W24 (w.heap.size + 2) (fun _ => True) vc (lm)) := Lib.hid (by first | exact ho | simpa using ho | (rw [HLM.out]; simpa using ho))
  clear ho hb hg hat
  obtain ⟨Ac, cc, ec⟩ := Kd.R_slice Rc.out
  subst ec
  refine hK.out _ _ ⟨(blk_cell HK.out 0).trans rfl, (blk_cell HK.out 1).trans rfl, (blk_cell HK.out 2).trans rfl, (blk_cell HM.out 0).trans rfl, (blk_cell HM.out 1).trans rfl, (blk_cell HX.out 0).trans rfl, (blk_cell HX.out 1).trans rfl, (blk_cell HX.out 2).trans rfl⟩ (fun hHeld => ?_)
  clear hK K
  refine no_ 46 ?_
  refine pu_ 7 (some 47) ?_
  refine last_ (i := 8) (N := none) #[true, true, true, true, true, true, true, true, true] rfl rfl (by kernel_rfl) (by decide) (fun K hK => ?_)
  have cX_0 := (blk_cell HX.out 0).trans rfl
  have cX_1 := (blk_cell HX.out 1).trans rfl
  have cX_2 := (blk_cell HX.out 2).trans rfl
  have fX_0 := blk_frozen HX.out 0
  have fX_1 := blk_frozen HX.out 1
  have fX_2 := blk_frozen HX.out 2
  have lX := blk_lt HX.out
  refine skip_ (w1 := ?_) (by rfl) rfl ?_ ?_
  rotate_left
  · go_simp
    rfl
  refine hK.out _ _ ?_
  clear hK K
  refine done_ (by kernel_rfl) ?_

  clear HQ
  clear cX_0 cX_1 cX_2 fX_0 fX_1 fX_2 lX
  obtain ⟨W25, hnw⟩ : ∃ W, W = (W24.setCell ⟨W2.heap.size, 2, none⟩ (.slice Ac lm.length cc)) := ⟨_, rfl⟩
  rw [← hnw]
  have hg : W24.grownBy W25 (some (W2.heap.size)) := by rw [hnw]; exact (g_put (g_refl W24 (some (W2.heap.size))) 2 (.slice Ac lm.length cc))
  have HXq := Lib.hid (show W25.heap[W2.heap.size]? = some (.cells #[.slice A0 l0.length c0, .slice A1 l1.length c1, .slice Ac lm.length cc] 26 (0, 0)) by rw [hnw]; exact blk_put (HX.out) 2 (.slice Ac lm.length cc) rfl)
  have HOLD := HX
  replace HBS := Lib.hid (Nat.le_trans HBS.out hg.size)
  replace Rc := Lib.hid (R_typed_grown Rc.out hg (fun g e => by injection e with e; subst e; exact ⟨_, _, HOLD.out, by decide⟩))
  replace HK := Lib.hid (blk_grown HK.out hg (fun e => by injection e with e; omega))
  replace HM := Lib.hid (blk_grown HM.out hg (fun e => by injection e with e; exact absurd e (blk_ne HM.out HX.out (by decide))))
  clear HOLD
  clear HX
  have HX := HXq
  clear HXq
  replace HB := Lib.hid (HB.out.grown hg HB.out.size (fun k e => by injection e with e; have := HB.out.size; omega))
  clear hg hnw
  have cK_0 := (blk_cell HK.out 0).trans rfl
  have cK_1 := (blk_cell HK.out 1).trans rfl
  have cK_2 := (blk_cell HK.out 2).trans rfl
  have lK := blk_lt HK.out
  have cM_0 := (blk_cell HM.out 0).trans rfl
  have cM_1 := (blk_cell HM.out 1).trans rfl
  have lM := blk_lt HM.out
  have cX_0 := (blk_cell HX.out 0).trans rfl
  have cX_1 := (blk_cell HX.out 1).trans rfl
  have cX_2 := (blk_cell HX.out 2).trans rfl
  have lX := blk_lt HX.out
  go_wp2_with fail
  clear cK_0 cK_1 cK_2 lK cM_0 cM_1 lM cX_0 cX_1 cX_2 lX
  refine (HFI.out _ HB.out).mono ?_
  rintro e W26 ⟨rfl, hb⟩
  have hg := g_below hb
  replace HBS := Lib.hid (Nat.le_trans HBS.out hg.size)
  replace Rc := Lib.hid (R_typed_grown Rc.out hg (fun g e => by cases e))
  replace HK := Lib.hid (blk_grown HK.out hg (by simp))
  replace HM := Lib.hid (blk_grown HM.out hg (by simp))
  replace HX := Lib.hid (blk_grown HX.out hg (by simp))
  replace HB := Lib.hid (HB.out.trans (below_weaken hb HB.out.size))
  clear hb hg
  have cK_0 := (blk_cell HK.out 0).trans rfl
  have cK_1 := (blk_cell HK.out 1).trans rfl
  have cK_2 := (blk_cell HK.out 2).trans rfl
  have lK := blk_lt HK.out
  have cM_0 := (blk_cell HM.out 0).trans rfl
  have cM_1 := (blk_cell HM.out 1).trans rfl
  have lM := blk_lt HM.out
  have cX_0 := (blk_cell HX.out 0).trans rfl
  have cX_1 := (blk_cell HX.out 1).trans rfl
  have cX_2 := (blk_cell HX.out 2).trans rfl
  have lX := blk_lt HX.out
  go_wp2_with fail
  clear cK_0 cK_1 cK_2 lK cM_0 cM_1 lM cX_0 cX_1 cX_2 lX
  refine (HRX.out _ _ _ HB.out (Kd.R_reads' Rc.out).2.2 (Kd.R_reads' Rc.out).2.1).mono ?_
  rintro e W27 ⟨rfl, hb⟩
  have hg := g_below hb
  replace HBS := Lib.hid (Nat.le_trans HBS.out hg.size)
  replace Rc := Lib.hid (R_typed_grown Rc.out hg (fun g e => by cases e))
  replace HK := Lib.hid (blk_grown HK.out hg (by simp))
  replace HM := Lib.hid (blk_grown HM.out hg (by simp))
  replace HX := Lib.hid (blk_grown HX.out hg (by simp))
  replace HB := Lib.hid (HB.out.trans (below_weaken hb HB.out.size))
  clear hb hg
  have cK_0 := (blk_cell HK.out 0).trans rfl
  have cK_1 := (blk_cell HK.out 1).trans rfl
  have cK_2 := (blk_cell HK.out 2).trans rfl
  have lK := blk_lt HK.out
  have cM_0 := (blk_cell HM.out 0).trans rfl
  have cM_1 := (blk_cell HM.out 1).trans rfl
  have lM := blk_lt HM.out
  have cX_0 := (blk_cell HX.out 0).trans rfl
  have cX_1 := (blk_cell HX.out 1).trans rfl
  have cX_2 := (blk_cell HX.out 2).trans rfl
  have lX := blk_lt HX.out
  rcases HC.out with ⟨rfl, rfl, rfl, rfl⟩ | ⟨rfl, rfl, rfl, rfl⟩ | ⟨rfl, rfl, rfl, rfl⟩ | ⟨rfl, rfl, rfl, rfl, dd, s1, s2, t1, t2, u1, u2, v1, v2, sky, now, p1, p2, q1, q2, HWR, HBK, HBX, HWK, HWX, HSK, HSX, HLK, HLX, HI1, HI2, HI3, hand, hn0, ht12, x1, x2, y1, y2, z1, z2, r1, r2, HDK, HDX, HPK, HPX, HDP⟩
  · clear HC
    go_wp2_with fail
    clear cK_0 cK_1 cK_2 lK cM_0 cM_1 lM cX_0 cX_1 cX_2 lX
    refine (HRO.out _ HB.out).mono ?_
    rintro e W28 ⟨rfl, hb⟩
    have hg := g_below hb
    replace HBS := Lib.hid (Nat.le_trans HBS.out hg.size)
    replace Rc := Lib.hid (R_typed_grown Rc.out hg (fun g e => by cases e))
    replace HK := Lib.hid (blk_grown HK.out hg (by simp))
    replace HM := Lib.hid (blk_grown HM.out hg (by simp))
    replace HX := Lib.hid (blk_grown HX.out hg (by simp))
    replace HB := Lib.hid (HB.out.trans (below_weaken hb HB.out.size))
    clear hb hg
    have cK_0 := (blk_cell HK.out 0).trans rfl
    have cK_1 := (blk_cell HK.out 1).trans rfl
    have cK_2 := (blk_cell HK.out 2).trans rfl
    have lK := blk_lt HK.out
    have cM_0 := (blk_cell HM.out 0).trans rfl
    have cM_1 := (blk_cell HM.out 1).trans rfl
    have lM := blk_lt HM.out
    have cX_0 := (blk_cell HX.out 0).trans rfl
    have cX_1 := (blk_cell HX.out 1).trans rfl
    have cX_2 := (blk_cell HX.out 2).trans rfl
    have lX := blk_lt HX.out
    clear cK_0 cK_1 cK_2 lK cM_0 cM_1 lM cX_0 cX_1 cX_2 lX
    go_wp2
    go_ret
    exact ⟨ret_true (by first | rfl | (simp; done) | (simp; omega)), HB.out⟩

  · clear HC
    go_wp2_with fail
    clear cK_0 cK_1 cK_2 lK cM_0 cM_1 lM cX_0 cX_1 cX_2 lX
    refine (HRO.out _ HB.out).mono ?_
    rintro e W28 ⟨rfl, hb⟩
    have hg := g_below hb
    replace HBS := Lib.hid (Nat.le_trans HBS.out hg.size)
    replace Rc := Lib.hid (R_typed_grown Rc.out hg (fun g e => by cases e))
    replace HK := Lib.hid (blk_grown HK.out hg (by simp))
    replace HM := Lib.hid (blk_grown HM.out hg (by simp))
    replace HX := Lib.hid (blk_grown HX.out hg (by simp))
    replace HB := Lib.hid (HB.out.trans (below_weaken hb HB.out.size))
    clear hb hg
    have cK_0 := (blk_cell HK.out 0).trans rfl
    have cK_1 := (blk_cell HK.out 1).trans rfl
    have cK_2 := (blk_cell HK.out 2).trans rfl
    have lK := blk_lt HK.out
    have cM_0 := (blk_cell HM.out 0).trans rfl
    have cM_1 := (blk_cell HM.out 1).trans rfl
    have lM := blk_lt HM.out
    have cX_0 := (blk_cell HX.out 0).trans rfl
    have cX_1 := (blk_cell HX.out 1).trans rfl
    have cX_2 := (blk_cell HX.out 2).trans rfl
    have lX := blk_lt HX.out
    clear cK_0 cK_1 cK_2 lK cM_0 cM_1 lM cX_0 cX_1 cX_2 lX
    go_wp2
    go_ret
    exact ⟨ret_true (by first | rfl | (simp; done) | (simp; omega)), HB.out⟩

  · clear HC
    go_wp2_with fail
    clear cK_0 cK_1 cK_2 lK cM_0 cM_1 lM cX_0 cX_1 cX_2 lX
    refine (HRO.out _ HB.out).mono ?_
    rintro e W28 ⟨rfl, hb⟩
    have hg := g_below hb
    replace HBS := Lib.hid (Nat.le_trans HBS.out hg.size)
    replace Rc := Lib.hid (R_typed_grown Rc.out hg (fun g e => by cases e))
    replace HK := Lib.hid (blk_grown HK.out hg (by simp))
    replace HM := Lib.hid (blk_grown HM.out hg (by simp))
    replace HX := Lib.hid (blk_grown HX.out hg (by simp))
    replace HB := Lib.hid (HB.out.trans (below_weaken hb HB.out.size))
    clear hb hg
    have cK_0 := (blk_cell HK.out 0).trans rfl
    have cK_1 := (blk_cell HK.out 1).trans rfl
    have cK_2 := (blk_cell HK.out 2).trans rfl
    have lK := blk_lt HK.out
    have cM_0 := (blk_cell HM.out 0).trans rfl
    have cM_1 := (blk_cell HM.out 1).trans rfl
    have lM := blk_lt HM.out
    have cX_0 := (blk_cell HX.out 0).trans rfl
    have cX_1 := (blk_cell HX.out 1).trans rfl
    have cX_2 := (blk_cell HX.out 2).trans rfl
    have lX := blk_lt HX.out
    clear cK_0 cK_1 cK_2 lK cM_0 cM_1 lM cX_0 cX_1 cX_2 lX
    go_wp2
    go_ret
    exact ⟨ret_true (by first | rfl | (simp; done) | (simp; omega)), HB.out⟩

  · skip
    clear HC
    go_wp2_with fail
    clear cK_0 cK_1 cK_2 lK cM_0 cM_1 lM cX_0 cX_1 cX_2 lX
    refine (HWR.out _).mono ?_
    rintro e W28 ⟨rfl, hb⟩
    have hg := g_below hb
    replace HBS := Lib.hid (Nat.le_trans HBS.out hg.size)
    replace Rc := Lib.hid (R_typed_grown Rc.out hg (fun g e => by cases e))
    replace HK := Lib.hid (blk_grown HK.out hg (by simp))
    replace HM := Lib.hid (blk_grown HM.out hg (by simp))
    replace HX := Lib.hid (blk_grown HX.out hg (by simp))
    replace HB := Lib.hid (HB.out.trans (below_weaken hb HB.out.size))
    clear hb hg
    have cK_0 := (blk_cell HK.out 0).trans rfl
    have cK_1 := (blk_cell HK.out 1).trans rfl
    have cK_2 := (blk_cell HK.out 2).trans rfl
    have lK := blk_lt HK.out
    have cM_0 := (blk_cell HM.out 0).trans rfl
    have cM_1 := (blk_cell HM.out 1).trans rfl
    have lM := blk_lt HM.out
    have cX_0 := (blk_cell HX.out 0).trans rfl
    have cX_1 := (blk_cell HX.out 1).trans rfl
    have cX_2 := (blk_cell HX.out 2).trans rfl
    have lX := blk_lt HX.out
    go_wp2_with fail
    clear cK_0 cK_1 cK_2 lK cM_0 cM_1 lM cX_0 cX_1 cX_2 lX
    refine (HBK.out _ HB.out).mono ?_
    rintro e W29 ⟨rfl, hb⟩
    have hg := g_below hb
    replace HBS := Lib.hid (Nat.le_trans HBS.out hg.size)
    replace Rc := Lib.hid (R_typed_grown Rc.out hg (fun g e => by cases e))
    replace HK := Lib.hid (blk_grown HK.out hg (by simp))
    replace HM := Lib.hid (blk_grown HM.out hg (by simp))
    replace HX := Lib.hid (blk_grown HX.out hg (by simp))
    replace HB := Lib.hid (HB.out.trans (below_weaken hb HB.out.size))
    clear hb hg
    have cK_0 := (blk_cell HK.out 0).trans rfl
    have cK_1 := (blk_cell HK.out 1).trans rfl
    have cK_2 := (blk_cell HK.out 2).trans rfl
    have lK := blk_lt HK.out
    have cM_0 := (blk_cell HM.out 0).trans rfl
    have cM_1 := (blk_cell HM.out 1).trans rfl
    have lM := blk_lt HM.out
    have cX_0 := (blk_cell HX.out 0).trans rfl
    have cX_1 := (blk_cell HX.out 1).trans rfl
    have cX_2 := (blk_cell HX.out 2).trans rfl
    have lX := blk_lt HX.out
    go_wp2_with fail
    clear cK_0 cK_1 cK_2 lK cM_0 cM_1 lM cX_0 cX_1 cX_2 lX
    have LqK_29 := blk_lt HK.out
    have LqM_29 := blk_lt HM.out
    have LqX_29 := blk_lt HX.out
    obtain ⟨W30, hnw⟩ : ∃ W, W = (W29.alloc (.cells #[.int .i64 s1, .int .i64 s2] 32)) := ⟨_, rfl⟩
    rw [← hnw]
    have hg : W29.grownBy W30 (none) := by rw [hnw]; exact (g_all (g_refl W29 (none)) (.cells #[.int .i64 s1, .int .i64 s2] 32))
    have HS := Lib.hid (show W30.heap[W29.heap.size]? = some (.cells #[.int .i64 s1, .int .i64 s2] 32 (0, 0)) by rw [hnw]; exact blk_at W29 (.cells #[.int .i64 s1, .int .i64 s2] 32) _ (by simp))
    replace HBS := Lib.hid (Nat.le_trans HBS.out hg.size)
    replace Rc := Lib.hid (R_typed_grown Rc.out hg (fun g e => by cases e))
    replace HK := Lib.hid (blk_grown HK.out hg (by simp))
    replace HM := Lib.hid (blk_grown HM.out hg (by simp))
    replace HX := Lib.hid (blk_grown HX.out hg (by simp))
    replace HB := Lib.hid (HB.out.grown hg HB.out.size (fun k e => by cases e))
    clear hg hnw
    refine (HBX.out _ _ _ HB.out (Kd.R_reads' Rc.out).2.2 (Kd.R_reads' Rc.out).2.1).mono ?_
    rintro e W31 ⟨rfl, hb⟩
    have hg := g_below hb
    replace HBS := Lib.hid (Nat.le_trans HBS.out hg.size)
    replace Rc := Lib.hid (R_typed_grown Rc.out hg (fun g e => by cases e))
    replace HK := Lib.hid (blk_grown HK.out hg (by simp))
    replace HM := Lib.hid (blk_grown HM.out hg (by simp))
    replace HX := Lib.hid (blk_grown HX.out hg (by simp))
    replace HS := Lib.hid (blk_grown HS.out hg (by simp))
    replace HB := Lib.hid (HB.out.trans (below_weaken hb HB.out.size))
    clear hb hg
    have cK_0 := (blk_cell HK.out 0).trans rfl
    have cK_1 := (blk_cell HK.out 1).trans rfl
    have cK_2 := (blk_cell HK.out 2).trans rfl
    have lK := blk_lt HK.out
    have cM_0 := (blk_cell HM.out 0).trans rfl
    have cM_1 := (blk_cell HM.out 1).trans rfl
    have lM := blk_lt HM.out
    have cX_0 := (blk_cell HX.out 0).trans rfl
    have cX_1 := (blk_cell HX.out 1).trans rfl
    have cX_2 := (blk_cell HX.out 2).trans rfl
    have lX := blk_lt HX.out
    have cS_0 := (blk_cell HS.out 0).trans rfl
    have cS_1 := (blk_cell HS.out 1).trans rfl
    have lS := blk_lt HS.out
    go_wp2_with fail
    clear cK_0 cK_1 cK_2 lK cM_0 cM_1 lM cX_0 cX_1 cX_2 lX cS_0 cS_1 lS
    have LqK_31 := blk_lt HK.out
    have LqM_31 := blk_lt HM.out
    have LqX_31 := blk_lt HX.out
    have LqS_31 := blk_lt HS.out
    obtain ⟨W32, hnw⟩ : ∃ W, W = (W31.alloc (.cells #[.int .i64 t1, .int .i64 t2] 32)) := ⟨_, rfl⟩
    rw [← hnw]
    have hg : W31.grownBy W32 (none) := by rw [hnw]; exact (g_all (g_refl W31 (none)) (.cells #[.int .i64 t1, .int .i64 t2] 32))
    have HT := Lib.hid (show W32.heap[W31.heap.size]? = some (.cells #[.int .i64 t1, .int .i64 t2] 32 (0, 0)) by rw [hnw]; exact blk_at W31 (.cells #[.int .i64 t1, .int .i64 t2] 32) _ (by simp))
    replace HBS := Lib.hid (Nat.le_trans HBS.out hg.size)
    replace Rc := Lib.hid (R_typed_grown Rc.out hg (fun g e => by cases e))
    replace HK := Lib.hid (blk_grown HK.out hg (by simp))
    replace HM := Lib.hid (blk_grown HM.out hg (by simp))
    replace HX := Lib.hid (blk_grown HX.out hg (by simp))
    replace HS := Lib.hid (blk_grown HS.out hg (by simp))
    replace HB := Lib.hid (HB.out.grown hg HB.out.size (fun k e => by cases e))
    clear hg hnw
    refine (HWK.out _ HB.out).mono ?_
    rintro e W33 ⟨rfl, hb⟩
    have hg := g_below hb
    replace HBS := Lib.hid (Nat.le_trans HBS.out hg.size)
    replace Rc := Lib.hid (R_typed_grown Rc.out hg (fun g e => by cases e))
    replace HK := Lib.hid (blk_grown HK.out hg (by simp))
    replace HM := Lib.hid (blk_grown HM.out hg (by simp))
    replace HX := Lib.hid (blk_grown HX.out hg (by simp))
    replace HS := Lib.hid (blk_grown HS.out hg (by simp))
    replace HT := Lib.hid (blk_grown HT.out hg (by simp))
    replace HB := Lib.hid (HB.out.trans (below_weaken hb HB.out.size))
    clear hb hg
    have cK_0 := (blk_cell HK.out 0).trans rfl
    have cK_1 := (blk_cell HK.out 1).trans rfl
    have cK_2 := (blk_cell HK.out 2).trans rfl
    have lK := blk_lt HK.out
    have cM_0 := (blk_cell HM.out 0).trans rfl
    have cM_1 := (blk_cell HM.out 1).trans rfl
    have lM := blk_lt HM.out
    have cX_0 := (blk_cell HX.out 0).trans rfl
    have cX_1 := (blk_cell HX.out 1).trans rfl
    have cX_2 := (blk_cell HX.out 2).trans rfl
    have lX := blk_lt HX.out
    have cS_0 := (blk_cell HS.out 0).trans rfl
    have cS_1 := (blk_cell HS.out 1).trans rfl
    have lS := blk_lt HS.out
    have cT_0 := (blk_cell HT.out 0).trans rfl
    have cT_1 := (blk_cell HT.out 1).trans rfl
    have lT := blk_lt HT.out
    go_wp2_with fail
    clear cK_0 cK_1 cK_2 lK cM_0 cM_1 lM cX_0 cX_1 cX_2 lX cS_0 cS_1 lS cT_0 cT_1 lT
    have LqK_33 := blk_lt HK.out
    have LqM_33 := blk_lt HM.out
    have LqX_33 := blk_lt HX.out
    have LqS_33 := blk_lt HS.out
    have LqT_33 := blk_lt HT.out
    obtain ⟨W34, hnw⟩ : ∃ W, W = (W33.alloc (.cells #[.int .i64 u1, .int .i64 u2] 32)) := ⟨_, rfl⟩
    rw [← hnw]
    have hg : W33.grownBy W34 (none) := by rw [hnw]; exact (g_all (g_refl W33 (none)) (.cells #[.int .i64 u1, .int .i64 u2] 32))
    have HU := Lib.hid (show W34.heap[W33.heap.size]? = some (.cells #[.int .i64 u1, .int .i64 u2] 32 (0, 0)) by rw [hnw]; exact blk_at W33 (.cells #[.int .i64 u1, .int .i64 u2] 32) _ (by simp))
    replace HBS := Lib.hid (Nat.le_trans HBS.out hg.size)
    replace Rc := Lib.hid (R_typed_grown Rc.out hg (fun g e => by cases e))
    replace HK := Lib.hid (blk_grown HK.out hg (by simp))
    replace HM := Lib.hid (blk_grown HM.out hg (by simp))
    replace HX := Lib.hid (blk_grown HX.out hg (by simp))
    replace HS := Lib.hid (blk_grown HS.out hg (by simp))
    replace HT := Lib.hid (blk_grown HT.out hg (by simp))
    replace HB := Lib.hid (HB.out.grown hg HB.out.size (fun k e => by cases e))
    clear hg hnw
    refine (HWX.out _ _ _ HB.out (Kd.R_reads' Rc.out).2.2 (Kd.R_reads' Rc.out).2.1).mono ?_
    rintro e W35 ⟨rfl, hb⟩
    have hg := g_below hb
    replace HBS := Lib.hid (Nat.le_trans HBS.out hg.size)
    replace Rc := Lib.hid (R_typed_grown Rc.out hg (fun g e => by cases e))
    replace HK := Lib.hid (blk_grown HK.out hg (by simp))
    replace HM := Lib.hid (blk_grown HM.out hg (by simp))
    replace HX := Lib.hid (blk_grown HX.out hg (by simp))
    replace HS := Lib.hid (blk_grown HS.out hg (by simp))
    replace HT := Lib.hid (blk_grown HT.out hg (by simp))
    replace HU := Lib.hid (blk_grown HU.out hg (by simp))
    replace HB := Lib.hid (HB.out.trans (below_weaken hb HB.out.size))
    clear hb hg
    have cK_0 := (blk_cell HK.out 0).trans rfl
    have cK_1 := (blk_cell HK.out 1).trans rfl
    have cK_2 := (blk_cell HK.out 2).trans rfl
    have lK := blk_lt HK.out
    have cM_0 := (blk_cell HM.out 0).trans rfl
    have cM_1 := (blk_cell HM.out 1).trans rfl
    have lM := blk_lt HM.out
    have cX_0 := (blk_cell HX.out 0).trans rfl
    have cX_1 := (blk_cell HX.out 1).trans rfl
    have cX_2 := (blk_cell HX.out 2).trans rfl
    have lX := blk_lt HX.out
    have cS_0 := (blk_cell HS.out 0).trans rfl
    have cS_1 := (blk_cell HS.out 1).trans rfl
    have lS := blk_lt HS.out
    have cT_0 := (blk_cell HT.out 0).trans rfl
    have cT_1 := (blk_cell HT.out 1).trans rfl
    have lT := blk_lt HT.out
    have cU_0 := (blk_cell HU.out 0).trans rfl
    have cU_1 := (blk_cell HU.out 1).trans rfl
    have lU := blk_lt HU.out
    go_wp2_with fail
    clear cK_0 cK_1 cK_2 lK cM_0 cM_1 lM cX_0 cX_1 cX_2 lX cS_0 cS_1 lS cT_0 cT_1 lT cU_0 cU_1 lU
    have LqK_35 := blk_lt HK.out
    have LqM_35 := blk_lt HM.out
    have LqX_35 := blk_lt HX.out
    have LqS_35 := blk_lt HS.out
    have LqT_35 := blk_lt HT.out
    have LqU_35 := blk_lt HU.out
    obtain ⟨W36, hnw⟩ : ∃ W, W = (W35.alloc (.cells #[.int .i64 v1, .int .i64 v2] 32)) := ⟨_, rfl⟩
    rw [← hnw]
    have hg : W35.grownBy W36 (none) := by rw [hnw]; exact (g_all (g_refl W35 (none)) (.cells #[.int .i64 v1, .int .i64 v2] 32))
    have HV := Lib.hid (show W36.heap[W35.heap.size]? = some (.cells #[.int .i64 v1, .int .i64 v2] 32 (0, 0)) by rw [hnw]; exact blk_at W35 (.cells #[.int .i64 v1, .int .i64 v2] 32) _ (by simp))
    replace HBS := Lib.hid (Nat.le_trans HBS.out hg.size)
    replace Rc := Lib.hid (R_typed_grown Rc.out hg (fun g e => by cases e))
    replace HK := Lib.hid (blk_grown HK.out hg (by simp))
    replace HM := Lib.hid (blk_grown HM.out hg (by simp))
    replace HX := Lib.hid (blk_grown HX.out hg (by simp))
    replace HS := Lib.hid (blk_grown HS.out hg (by simp))
    replace HT := Lib.hid (blk_grown HT.out hg (by simp))
    replace HU := Lib.hid (blk_grown HU.out hg (by simp))
    replace HB := Lib.hid (HB.out.grown hg HB.out.size (fun k e => by cases e))
    clear hg hnw
    refine (HSK.out _ HB.out).mono ?_
    rintro e W37 ⟨rfl, hb⟩
    have hg := g_below hb
    replace HBS := Lib.hid (Nat.le_trans HBS.out hg.size)
    replace Rc := Lib.hid (R_typed_grown Rc.out hg (fun g e => by cases e))
    replace HK := Lib.hid (blk_grown HK.out hg (by simp))
    replace HM := Lib.hid (blk_grown HM.out hg (by simp))
    replace HX := Lib.hid (blk_grown HX.out hg (by simp))
    replace HS := Lib.hid (blk_grown HS.out hg (by simp))
    replace HT := Lib.hid (blk_grown HT.out hg (by simp))
    replace HU := Lib.hid (blk_grown HU.out hg (by simp))
    replace HV := Lib.hid (blk_grown HV.out hg (by simp))
    replace HB := Lib.hid (HB.out.trans (below_weaken hb HB.out.size))
    clear hb hg
    have cK_0 := (blk_cell HK.out 0).trans rfl
    have cK_1 := (blk_cell HK.out 1).trans rfl
    have cK_2 := (blk_cell HK.out 2).trans rfl
    have lK := blk_lt HK.out
    have cM_0 := (blk_cell HM.out 0).trans rfl
    have cM_1 := (blk_cell HM.out 1).trans rfl
    have lM := blk_lt HM.out
    have cX_0 := (blk_cell HX.out 0).trans rfl
    have cX_1 := (blk_cell HX.out 1).trans rfl
    have cX_2 := (blk_cell HX.out 2).trans rfl
    have lX := blk_lt HX.out
    have cS_0 := (blk_cell HS.out 0).trans rfl
    have cS_1 := (blk_cell HS.out 1).trans rfl
    have lS := blk_lt HS.out
    have cT_0 := (blk_cell HT.out 0).trans rfl
    have cT_1 := (blk_cell HT.out 1).trans rfl
    have lT := blk_lt HT.out
    have cU_0 := (blk_cell HU.out 0).trans rfl
    have cU_1 := (blk_cell HU.out 1).trans rfl
    have lU := blk_lt HU.out
    have cV_0 := (blk_cell HV.out 0).trans rfl
    have cV_1 := (blk_cell HV.out 1).trans rfl
    have lV := blk_lt HV.out
    go_wp2_with fail
    clear cK_0 cK_1 cK_2 lK cM_0 cM_1 lM cX_0 cX_1 cX_2 lX cS_0 cS_1 lS cT_0 cT_1 lT cU_0 cU_1 lU cV_0 cV_1 lV
    refine (HSX.out _ _ _ HB.out (Kd.R_reads' Rc.out).2.2 (Kd.R_reads' Rc.out).2.1).mono ?_
    rintro e W38 ⟨rfl, hb⟩
    have hg := g_below hb
    replace HBS := Lib.hid (Nat.le_trans HBS.out hg.size)
    replace Rc := Lib.hid (R_typed_grown Rc.out hg (fun g e => by cases e))
    replace HK := Lib.hid (blk_grown HK.out hg (by simp))
    replace HM := Lib.hid (blk_grown HM.out hg (by simp))
    replace HX := Lib.hid (blk_grown HX.out hg (by simp))
    replace HS := Lib.hid (blk_grown HS.out hg (by simp))
    replace HT := Lib.hid (blk_grown HT.out hg (by simp))
    replace HU := Lib.hid (blk_grown HU.out hg (by simp))
    replace HV := Lib.hid (blk_grown HV.out hg (by simp))
    replace HB := Lib.hid (HB.out.trans (below_weaken hb HB.out.size))
    clear hb hg
    have cK_0 := (blk_cell HK.out 0).trans rfl
    have cK_1 := (blk_cell HK.out 1).trans rfl
    have cK_2 := (blk_cell HK.out 2).trans rfl
    have lK := blk_lt HK.out
    have cM_0 := (blk_cell HM.out 0).trans rfl
    have cM_1 := (blk_cell HM.out 1).trans rfl
    have lM := blk_lt HM.out
    have cX_0 := (blk_cell HX.out 0).trans rfl
    have cX_1 := (blk_cell HX.out 1).trans rfl
    have cX_2 := (blk_cell HX.out 2).trans rfl
    have lX := blk_lt HX.out
    have cS_0 := (blk_cell HS.out 0).trans rfl
    have cS_1 := (blk_cell HS.out 1).trans rfl
    have lS := blk_lt HS.out
    have cT_0 := (blk_cell HT.out 0).trans rfl
    have cT_1 := (blk_cell HT.out 1).trans rfl
    have lT := blk_lt HT.out
    have cU_0 := (blk_cell HU.out 0).trans rfl
    have cU_1 := (blk_cell HU.out 1).trans rfl
    have lU := blk_lt HU.out
    have cV_0 := (blk_cell HV.out 0).trans rfl
    have cV_1 := (blk_cell HV.out 1).trans rfl
    have lV := blk_lt HV.out
    go_wp2_with fail
    clear cK_0 cK_1 cK_2 lK cM_0 cM_1 lM cX_0 cX_1 cX_2 lX cS_0 cS_1 lS cT_0 cT_1 lT cU_0 cU_1 lU cV_0 cV_1 lV
    refine (HI1.out _).mono ?_
    rintro e W39 ⟨rfl, hb⟩
    have hg := g_below hb
    replace HBS := Lib.hid (Nat.le_trans HBS.out hg.size)
    replace Rc := Lib.hid (R_typed_grown Rc.out hg (fun g e => by cases e))
    replace HK := Lib.hid (blk_grown HK.out hg (by simp))
    replace HM := Lib.hid (blk_grown HM.out hg (by simp))
    replace HX := Lib.hid (blk_grown HX.out hg (by simp))
    replace HS := Lib.hid (blk_grown HS.out hg (by simp))
    replace HT := Lib.hid (blk_grown HT.out hg (by simp))
    replace HU := Lib.hid (blk_grown HU.out hg (by simp))
    replace HV := Lib.hid (blk_grown HV.out hg (by simp))
    replace HB := Lib.hid (HB.out.trans (below_weaken hb HB.out.size))
    clear hb hg
    have cK_0 := (blk_cell HK.out 0).trans rfl
    have cK_1 := (blk_cell HK.out 1).trans rfl
    have cK_2 := (blk_cell HK.out 2).trans rfl
    have lK := blk_lt HK.out
    have cM_0 := (blk_cell HM.out 0).trans rfl
    have cM_1 := (blk_cell HM.out 1).trans rfl
    have lM := blk_lt HM.out
    have cX_0 := (blk_cell HX.out 0).trans rfl
    have cX_1 := (blk_cell HX.out 1).trans rfl
    have cX_2 := (blk_cell HX.out 2).trans rfl
    have lX := blk_lt HX.out
    have cS_0 := (blk_cell HS.out 0).trans rfl
    have cS_1 := (blk_cell HS.out 1).trans rfl
    have lS := blk_lt HS.out
    have cT_0 := (blk_cell HT.out 0).trans rfl
    have cT_1 := (blk_cell HT.out 1).trans rfl
    have lT := blk_lt HT.out
    have cU_0 := (blk_cell HU.out 0).trans rfl
    have cU_1 := (blk_cell HU.out 1).trans rfl
    have lU := blk_lt HU.out
    have cV_0 := (blk_cell HV.out 0).trans rfl
    have cV_1 := (blk_cell HV.out 1).trans rfl
    have lV := blk_lt HV.out
    go_wp2_with fail
    clear cK_0 cK_1 cK_2 lK cM_0 cM_1 lM cX_0 cX_1 cX_2 lX cS_0 cS_1 lS cT_0 cT_1 lT cU_0 cU_1 lU cV_0 cV_1 lV
    refine (HI2.out _).mono ?_
    rintro e W40 ⟨rfl, hb⟩
    have hg := g_below hb
    replace HBS := Lib.hid (Nat.le_trans HBS.out hg.size)
    replace Rc := Lib.hid (R_typed_grown Rc.out hg (fun g e => by cases e))
    replace HK := Lib.hid (blk_grown HK.out hg (by simp))
    replace HM := Lib.hid (blk_grown HM.out hg (by simp))
    replace HX := Lib.hid (blk_grown HX.out hg (by simp))
    replace HS := Lib.hid (blk_grown HS.out hg (by simp))
    replace HT := Lib.hid (blk_grown HT.out hg (by simp))
    replace HU := Lib.hid (blk_grown HU.out hg (by simp))
    replace HV := Lib.hid (blk_grown HV.out hg (by simp))
    replace HB := Lib.hid (HB.out.trans (below_weaken hb HB.out.size))
    clear hb hg
    have cK_0 := (blk_cell HK.out 0).trans rfl
    have cK_1 := (blk_cell HK.out 1).trans rfl
    have cK_2 := (blk_cell HK.out 2).trans rfl
    have lK := blk_lt HK.out
    have cM_0 := (blk_cell HM.out 0).trans rfl
    have cM_1 := (blk_cell HM.out 1).trans rfl
    have lM := blk_lt HM.out
    have cX_0 := (blk_cell HX.out 0).trans rfl
    have cX_1 := (blk_cell HX.out 1).trans rfl
    have cX_2 := (blk_cell HX.out 2).trans rfl
    have lX := blk_lt HX.out
    have cS_0 := (blk_cell HS.out 0).trans rfl
    have cS_1 := (blk_cell HS.out 1).trans rfl
    have lS := blk_lt HS.out
    have cT_0 := (blk_cell HT.out 0).trans rfl
    have cT_1 := (blk_cell HT.out 1).trans rfl
    have lT := blk_lt HT.out
    have cU_0 := (blk_cell HU.out 0).trans rfl
    have cU_1 := (blk_cell HU.out 1).trans rfl
    have lU := blk_lt HU.out
    have cV_0 := (blk_cell HV.out 0).trans rfl
    have cV_1 := (blk_cell HV.out 1).trans rfl
    have lV := blk_lt HV.out
    go_wp2_with fail
    clear cK_0 cK_1 cK_2 lK cM_0 cM_1 lM cX_0 cX_1 cX_2 lX cS_0 cS_1 lS cT_0 cT_1 lT cU_0 cU_1 lU cV_0 cV_1 lV
    refine (HLK.out _ HB.out).mono ?_
    rintro e W41 ⟨rfl, hb⟩
    have hg := g_below hb
    replace HBS := Lib.hid (Nat.le_trans HBS.out hg.size)
    replace Rc := Lib.hid (R_typed_grown Rc.out hg (fun g e => by cases e))
    replace HK := Lib.hid (blk_grown HK.out hg (by simp))
    replace HM := Lib.hid (blk_grown HM.out hg (by simp))
    replace HX := Lib.hid (blk_grown HX.out hg (by simp))
    replace HS := Lib.hid (blk_grown HS.out hg (by simp))
    replace HT := Lib.hid (blk_grown HT.out hg (by simp))
    replace HU := Lib.hid (blk_grown HU.out hg (by simp))
    replace HV := Lib.hid (blk_grown HV.out hg (by simp))
    replace HB := Lib.hid (HB.out.trans (below_weaken hb HB.out.size))
    clear hb hg
    have cK_0 := (blk_cell HK.out 0).trans rfl
    have cK_1 := (blk_cell HK.out 1).trans rfl
    have cK_2 := (blk_cell HK.out 2).trans rfl
    have lK := blk_lt HK.out
    have cM_0 := (blk_cell HM.out 0).trans rfl
    have cM_1 := (blk_cell HM.out 1).trans rfl
    have lM := blk_lt HM.out
    have cX_0 := (blk_cell HX.out 0).trans rfl
    have cX_1 := (blk_cell HX.out 1).trans rfl
    have cX_2 := (blk_cell HX.out 2).trans rfl
    have lX := blk_lt HX.out
    have cS_0 := (blk_cell HS.out 0).trans rfl
    have cS_1 := (blk_cell HS.out 1).trans rfl
    have lS := blk_lt HS.out
    have cT_0 := (blk_cell HT.out 0).trans rfl
    have cT_1 := (blk_cell HT.out 1).trans rfl
    have lT := blk_lt HT.out
    have cU_0 := (blk_cell HU.out 0).trans rfl
    have cU_1 := (blk_cell HU.out 1).trans rfl
    have lU := blk_lt HU.out
    have cV_0 := (blk_cell HV.out 0).trans rfl
    have cV_1 := (blk_cell HV.out 1).trans rfl
    have lV := blk_lt HV.out
    go_wp2_with fail
    clear cK_0 cK_1 cK_2 lK cM_0 cM_1 lM cX_0 cX_1 cX_2 lX cS_0 cS_1 lS cT_0 cT_1 lT cU_0 cU_1 lU cV_0 cV_1 lV
    have LqK_41 := blk_lt HK.out
    have LqM_41 := blk_lt HM.out
    have LqX_41 := blk_lt HX.out
    have LqS_41 := blk_lt HS.out
    have LqT_41 := blk_lt HT.out
    have LqU_41 := blk_lt HU.out
    have LqV_41 := blk_lt HV.out
    obtain ⟨W42, hnw⟩ : ∃ W, W = (W41.alloc (.cells #[.int .i64 p1, .int .i64 p2] 32)) := ⟨_, rfl⟩
    rw [← hnw]
    have hg : W41.grownBy W42 (none) := by rw [hnw]; exact (g_all (g_refl W41 (none)) (.cells #[.int .i64 p1, .int .i64 p2] 32))
    have HP := Lib.hid (show W42.heap[W41.heap.size]? = some (.cells #[.int .i64 p1, .int .i64 p2] 32 (0, 0)) by rw [hnw]; exact blk_at W41 (.cells #[.int .i64 p1, .int .i64 p2] 32) _ (by simp))
    replace HBS := Lib.hid (Nat.le_trans HBS.out hg.size)
    replace Rc := Lib.hid (R_typed_grown Rc.out hg (fun g e => by cases e))
    replace HK := Lib.hid (blk_grown HK.out hg (by simp))
    replace HM := Lib.hid (blk_grown HM.out hg (by simp))
    replace HX := Lib.hid (blk_grown HX.out hg (by simp))
    replace HS := Lib.hid (blk_grown HS.out hg (by simp))
    replace HT := Lib.hid (blk_grown HT.out hg (by simp))
    replace HU := Lib.hid (blk_grown HU.out hg (by simp))
    replace HV := Lib.hid (blk_grown HV.out hg (by simp))
    replace HB := Lib.hid (HB.out.grown hg HB.out.size (fun k e => by cases e))
    clear hg hnw
    refine (HLX.out _ _ _ HB.out (Kd.R_reads' Rc.out).2.2 (Kd.R_reads' Rc.out).2.1).mono ?_
    rintro e W43 ⟨rfl, hb⟩
    have hg := g_below hb
    replace HBS := Lib.hid (Nat.le_trans HBS.out hg.size)
    replace Rc := Lib.hid (R_typed_grown Rc.out hg (fun g e => by cases e))
    replace HK := Lib.hid (blk_grown HK.out hg (by simp))
    replace HM := Lib.hid (blk_grown HM.out hg (by simp))
    replace HX := Lib.hid (blk_grown HX.out hg (by simp))
    replace HS := Lib.hid (blk_grown HS.out hg (by simp))
    replace HT := Lib.hid (blk_grown HT.out hg (by simp))
    replace HU := Lib.hid (blk_grown HU.out hg (by simp))
    replace HV := Lib.hid (blk_grown HV.out hg (by simp))
    replace HP := Lib.hid (blk_grown HP.out hg (by simp))
    replace HB := Lib.hid (HB.out.trans (below_weaken hb HB.out.size))
    clear hb hg
    have cK_0 := (blk_cell HK.out 0).trans rfl
    have cK_1 := (blk_cell HK.out 1).trans rfl
    have cK_2 := (blk_cell HK.out 2).trans rfl
    have lK := blk_lt HK.out
    have cM_0 := (blk_cell HM.out 0).trans rfl
    have cM_1 := (blk_cell HM.out 1).trans rfl
    have lM := blk_lt HM.out
    have cX_0 := (blk_cell HX.out 0).trans rfl
    have cX_1 := (blk_cell HX.out 1).trans rfl
    have cX_2 := (blk_cell HX.out 2).trans rfl
    have lX := blk_lt HX.out
    have cS_0 := (blk_cell HS.out 0).trans rfl
    have cS_1 := (blk_cell HS.out 1).trans rfl
    have lS := blk_lt HS.out
    have cT_0 := (blk_cell HT.out 0).trans rfl
    have cT_1 := (blk_cell HT.out 1).trans rfl
    have lT := blk_lt HT.out
    have cU_0 := (blk_cell HU.out 0).trans rfl
    have cU_1 := (blk_cell HU.out 1).trans rfl
    have lU := blk_lt HU.out
    have cV_0 := (blk_cell HV.out 0).trans rfl
    have cV_1 := (blk_cell HV.out 1).trans rfl
    have lV := blk_lt HV.out
    have cP_0 := (blk_cell HP.out 0).trans rfl
    have cP_1 := (blk_cell HP.out 1).trans rfl
    have lP := blk_lt HP.out
    go_wp2_with fail
    clear cK_0 cK_1 cK_2 lK cM_0 cM_1 lM cX_0 cX_1 cX_2 lX cS_0 cS_1 lS cT_0 cT_1 lT cU_0 cU_1 lU cV_0 cV_1 lV cP_0 cP_1 lP
    have LqK_43 := blk_lt HK.out
    have LqM_43 := blk_lt HM.out
    have LqX_43 := blk_lt HX.out
    have LqS_43 := blk_lt HS.out
    have LqT_43 := blk_lt HT.out
    have LqU_43 := blk_lt HU.out
    have LqV_43 := blk_lt HV.out
    have LqP_43 := blk_lt HP.out
    obtain ⟨W44, hnw⟩ : ∃ W, W = (W43.alloc (.cells #[.int .i64 q1, .int .i64 q2] 32)) := ⟨_, rfl⟩
    rw [← hnw]
    have hg : W43.grownBy W44 (none) := by rw [hnw]; exact (g_all (g_refl W43 (none)) (.cells #[.int .i64 q1, .int .i64 q2] 32))
    have HQ := Lib.hid (show W44.heap[W43.heap.size]? = some (.cells #[.int .i64 q1, .int .i64 q2] 32 (0, 0)) by rw [hnw]; exact blk_at W43 (.cells #[.int .i64 q1, .int .i64 q2] 32) _ (by simp))
    replace HBS := Lib.hid (Nat.le_trans HBS.out hg.size)
    replace Rc := Lib.hid (R_typed_grown Rc.out hg (fun g e => by cases e))
    replace HK := Lib.hid (blk_grown HK.out hg (by simp))
    replace HM := Lib.hid (blk_grown HM.out hg (by simp))
    replace HX := Lib.hid (blk_grown HX.out hg (by simp))
    replace HS := Lib.hid (blk_grown HS.out hg (by simp))
    replace HT := Lib.hid (blk_grown HT.out hg (by simp))
    replace HU := Lib.hid (blk_grown HU.out hg (by simp))
    replace HV := Lib.hid (blk_grown HV.out hg (by simp))
    replace HP := Lib.hid (blk_grown HP.out hg (by simp))
    replace HB := Lib.hid (HB.out.grown hg HB.out.size (fun k e => by cases e))
    clear hg hnw
    refine (HDK.out _ HB.out).mono ?_
    rintro e W45 ⟨rfl, hb⟩
    have hg := g_below hb
    replace HBS := Lib.hid (Nat.le_trans HBS.out hg.size)
    replace Rc := Lib.hid (R_typed_grown Rc.out hg (fun g e => by cases e))
    replace HK := Lib.hid (blk_grown HK.out hg (by simp))
    replace HM := Lib.hid (blk_grown HM.out hg (by simp))
    replace HX := Lib.hid (blk_grown HX.out hg (by simp))
    replace HS := Lib.hid (blk_grown HS.out hg (by simp))
    replace HT := Lib.hid (blk_grown HT.out hg (by simp))
    replace HU := Lib.hid (blk_grown HU.out hg (by simp))
    replace HV := Lib.hid (blk_grown HV.out hg (by simp))
    replace HP := Lib.hid (blk_grown HP.out hg (by simp))
    replace HQ := Lib.hid (blk_grown HQ.out hg (by simp))
    replace HB := Lib.hid (HB.out.trans (below_weaken hb HB.out.size))
    clear hb hg
    have cK_0 := (blk_cell HK.out 0).trans rfl
    have cK_1 := (blk_cell HK.out 1).trans rfl
    have cK_2 := (blk_cell HK.out 2).trans rfl
    have lK := blk_lt HK.out
    have cM_0 := (blk_cell HM.out 0).trans rfl
    have cM_1 := (blk_cell HM.out 1).trans rfl
    have lM := blk_lt HM.out
    have cX_0 := (blk_cell HX.out 0).trans rfl
    have cX_1 := (blk_cell HX.out 1).trans rfl
    have cX_2 := (blk_cell HX.out 2).trans rfl
    have lX := blk_lt HX.out
    have cS_0 := (blk_cell HS.out 0).trans rfl
    have cS_1 := (blk_cell HS.out 1).trans rfl
    have lS := blk_lt HS.out
    have cT_0 := (blk_cell HT.out 0).trans rfl
    have cT_1 := (blk_cell HT.out 1).trans rfl
    have lT := blk_lt HT.out
    have cU_0 := (blk_cell HU.out 0).trans rfl
    have cU_1 := (blk_cell HU.out 1).trans rfl
    have lU := blk_lt HU.out
    have cV_0 := (blk_cell HV.out 0).trans rfl
    have cV_1 := (blk_cell HV.out 1).trans rfl
    have lV := blk_lt HV.out
    have cP_0 := (blk_cell HP.out 0).trans rfl
    have cP_1 := (blk_cell HP.out 1).trans rfl
    have lP := blk_lt HP.out
    have cQ_0 := (blk_cell HQ.out 0).trans rfl
    have cQ_1 := (blk_cell HQ.out 1).trans rfl
    have lQ := blk_lt HQ.out
    go_wp2_with fail
    clear cK_0 cK_1 cK_2 lK cM_0 cM_1 lM cX_0 cX_1 cX_2 lX cS_0 cS_1 lS cT_0 cT_1 lT cU_0 cU_1 lU cV_0 cV_1 lV cP_0 cP_1 lP cQ_0 cQ_1 lQ
    refine (HDX.out _ _ _ HB.out (Kd.R_reads' Rc.out).2.2 (Kd.R_reads' Rc.out).2.1).mono ?_
    rintro e W46 ⟨rfl, hb⟩
    have hg := g_below hb
    replace HBS := Lib.hid (Nat.le_trans HBS.out hg.size)
    replace Rc := Lib.hid (R_typed_grown Rc.out hg (fun g e => by cases e))
    replace HK := Lib.hid (blk_grown HK.out hg (by simp))
    replace HM := Lib.hid (blk_grown HM.out hg (by simp))
    replace HX := Lib.hid (blk_grown HX.out hg (by simp))
    replace HS := Lib.hid (blk_grown HS.out hg (by simp))
    replace HT := Lib.hid (blk_grown HT.out hg (by simp))
    replace HU := Lib.hid (blk_grown HU.out hg (by simp))
    replace HV := Lib.hid (blk_grown HV.out hg (by simp))
    replace HP := Lib.hid (blk_grown HP.out hg (by simp))
    replace HQ := Lib.hid (blk_grown HQ.out hg (by simp))
    replace HB := Lib.hid (HB.out.trans (below_weaken hb HB.out.size))
    clear hb hg
    have cK_0 := (blk_cell HK.out 0).trans rfl
    have cK_1 := (blk_cell HK.out 1).trans rfl
    have cK_2 := (blk_cell HK.out 2).trans rfl
    have lK := blk_lt HK.out
    have cM_0 := (blk_cell HM.out 0).trans rfl
    have cM_1 := (blk_cell HM.out 1).trans rfl
    have lM := blk_lt HM.out
    have cX_0 := (blk_cell HX.out 0).trans rfl
    have cX_1 := (blk_cell HX.out 1).trans rfl
    have cX_2 := (blk_cell HX.out 2).trans rfl
    have lX := blk_lt HX.out
    have cS_0 := (blk_cell HS.out 0).trans rfl
    have cS_1 := (blk_cell HS.out 1).trans rfl
    have lS := blk_lt HS.out
    have cT_0 := (blk_cell HT.out 0).trans rfl
    have cT_1 := (blk_cell HT.out 1).trans rfl
    have lT := blk_lt HT.out
    have cU_0 := (blk_cell HU.out 0).trans rfl
    have cU_1 := (blk_cell HU.out 1).trans rfl
    have lU := blk_lt HU.out
    have cV_0 := (blk_cell HV.out 0).trans rfl
    have cV_1 := (blk_cell HV.out 1).trans rfl
    have lV := blk_lt HV.out
    have cP_0 := (blk_cell HP.out 0).trans rfl
    have cP_1 := (blk_cell HP.out 1).trans rfl
    have lP := blk_lt HP.out
    have cQ_0 := (blk_cell HQ.out 0).trans rfl
    have cQ_1 := (blk_cell HQ.out 1).trans rfl
    have lQ := blk_lt HQ.out
    go_wp2_with fail
    clear cK_0 cK_1 cK_2 lK cM_0 cM_1 lM cX_0 cX_1 cX_2 lX cS_0 cS_1 lS cT_0 cT_1 lT cU_0 cU_1 lU cV_0 cV_1 lV cP_0 cP_1 lP cQ_0 cQ_1 lQ
    refine (HPK.out _ HB.out).mono ?_
    rintro e W47 ⟨rfl, hb⟩
    have hg := g_below hb
    replace HBS := Lib.hid (Nat.le_trans HBS.out hg.size)
    replace Rc := Lib.hid (R_typed_grown Rc.out hg (fun g e => by cases e))
    replace HK := Lib.hid (blk_grown HK.out hg (by simp))
    replace HM := Lib.hid (blk_grown HM.out hg (by simp))
    replace HX := Lib.hid (blk_grown HX.out hg (by simp))
    replace HS := Lib.hid (blk_grown HS.out hg (by simp))
    replace HT := Lib.hid (blk_grown HT.out hg (by simp))
    replace HU := Lib.hid (blk_grown HU.out hg (by simp))
    replace HV := Lib.hid (blk_grown HV.out hg (by simp))
    replace HP := Lib.hid (blk_grown HP.out hg (by simp))
    replace HQ := Lib.hid (blk_grown HQ.out hg (by simp))
    replace HB := Lib.hid (HB.out.trans (below_weaken hb HB.out.size))
    clear hb hg
    have cK_0 := (blk_cell HK.out 0).trans rfl
    have cK_1 := (blk_cell HK.out 1).trans rfl
    have cK_2 := (blk_cell HK.out 2).trans rfl
    have lK := blk_lt HK.out
    have cM_0 := (blk_cell HM.out 0).trans rfl
    have cM_1 := (blk_cell HM.out 1).trans rfl
    have lM := blk_lt HM.out
    have cX_0 := (blk_cell HX.out 0).trans rfl
    have cX_1 := (blk_cell HX.out 1).trans rfl
    have cX_2 := (blk_cell HX.out 2).trans rfl
    have lX := blk_lt HX.out
    have cS_0 := (blk_cell HS.out 0).trans rfl
    have cS_1 := (blk_cell HS.out 1).trans rfl
    have lS := blk_lt HS.out
    have cT_0 := (blk_cell HT.out 0).trans rfl
    have cT_1 := (blk_cell HT.out 1).trans rfl
    have lT := blk_lt HT.out
    have cU_0 := (blk_cell HU.out 0).trans rfl
    have cU_1 := (blk_cell HU.out 1).trans rfl
    have lU := blk_lt HU.out
    have cV_0 := (blk_cell HV.out 0).trans rfl
    have cV_1 := (blk_cell HV.out 1).trans rfl
    have lV := blk_lt HV.out
    have cP_0 := (blk_cell HP.out 0).trans rfl
    have cP_1 := (blk_cell HP.out 1).trans rfl
    have lP := blk_lt HP.out
    have cQ_0 := (blk_cell HQ.out 0).trans rfl
    have cQ_1 := (blk_cell HQ.out 1).trans rfl
    have lQ := blk_lt HQ.out
    go_wp2_with fail
    clear cK_0 cK_1 cK_2 lK cM_0 cM_1 lM cX_0 cX_1 cX_2 lX cS_0 cS_1 lS cT_0 cT_1 lT cU_0 cU_1 lU cV_0 cV_1 lV cP_0 cP_1 lP cQ_0 cQ_1 lQ
    refine (HPX.out _ _ _ HB.out (Kd.R_reads' Rc.out).2.2 (Kd.R_reads' Rc.out).2.1).mono ?_
    rintro e W48 ⟨rfl, hb⟩
    have hg := g_below hb
    replace HBS := Lib.hid (Nat.le_trans HBS.out hg.size)
    replace Rc := Lib.hid (R_typed_grown Rc.out hg (fun g e => by cases e))
    replace HK := Lib.hid (blk_grown HK.out hg (by simp))
    replace HM := Lib.hid (blk_grown HM.out hg (by simp))
    replace HX := Lib.hid (blk_grown HX.out hg (by simp))
    replace HS := Lib.hid (blk_grown HS.out hg (by simp))
    replace HT := Lib.hid (blk_grown HT.out hg (by simp))
    replace HU := Lib.hid (blk_grown HU.out hg (by simp))
    replace HV := Lib.hid (blk_grown HV.out hg (by simp))
    replace HP := Lib.hid (blk_grown HP.out hg (by simp))
    replace HQ := Lib.hid (blk_grown HQ.out hg (by simp))
    replace HB := Lib.hid (HB.out.trans (below_weaken hb HB.out.size))
    clear hb hg
    have cK_0 := (blk_cell HK.out 0).trans rfl
    have cK_1 := (blk_cell HK.out 1).trans rfl
    have cK_2 := (blk_cell HK.out 2).trans rfl
    have lK := blk_lt HK.out
    have cM_0 := (blk_cell HM.out 0).trans rfl
    have cM_1 := (blk_cell HM.out 1).trans rfl
    have lM := blk_lt HM.out
    have cX_0 := (blk_cell HX.out 0).trans rfl
    have cX_1 := (blk_cell HX.out 1).trans rfl
    have cX_2 := (blk_cell HX.out 2).trans rfl
    have lX := blk_lt HX.out
    have cS_0 := (blk_cell HS.out 0).trans rfl
    have cS_1 := (blk_cell HS.out 1).trans rfl
    have lS := blk_lt HS.out
    have cT_0 := (blk_cell HT.out 0).trans rfl
    have cT_1 := (blk_cell HT.out 1).trans rfl
    have lT := blk_lt HT.out
    have cU_0 := (blk_cell HU.out 0).trans rfl
    have cU_1 := (blk_cell HU.out 1).trans rfl
    have lU := blk_lt HU.out
    have cV_0 := (blk_cell HV.out 0).trans rfl
    have cV_1 := (blk_cell HV.out 1).trans rfl
    have lV := blk_lt HV.out
    have cP_0 := (blk_cell HP.out 0).trans rfl
    have cP_1 := (blk_cell HP.out 1).trans rfl
    have lP := blk_lt HP.out
    have cQ_0 := (blk_cell HQ.out 0).trans rfl
    have cQ_1 := (blk_cell HQ.out 1).trans rfl
    have lQ := blk_lt HQ.out
    go_wp2_with fail
    clear cK_0 cK_1 cK_2 lK cM_0 cM_1 lM cX_0 cX_1 cX_2 lX cS_0 cS_1 lS cT_0 cT_1 lT cU_0 cU_1 lU cV_0 cV_1 lV cP_0 cP_1 lP cQ_0 cQ_1 lQ
    refine (HI3.out _).mono ?_
    rintro e W49 ⟨rfl, hb⟩
    have hg := g_below hb
    replace HBS := Lib.hid (Nat.le_trans HBS.out hg.size)
    replace Rc := Lib.hid (R_typed_grown Rc.out hg (fun g e => by cases e))
    replace HK := Lib.hid (blk_grown HK.out hg (by simp))
    replace HM := Lib.hid (blk_grown HM.out hg (by simp))
    replace HX := Lib.hid (blk_grown HX.out hg (by simp))
    replace HS := Lib.hid (blk_grown HS.out hg (by simp))
    replace HT := Lib.hid (blk_grown HT.out hg (by simp))
    replace HU := Lib.hid (blk_grown HU.out hg (by simp))
    replace HV := Lib.hid (blk_grown HV.out hg (by simp))
    replace HP := Lib.hid (blk_grown HP.out hg (by simp))
    replace HQ := Lib.hid (blk_grown HQ.out hg (by simp))
    replace HB := Lib.hid (HB.out.trans (below_weaken hb HB.out.size))
    clear hb hg
    have cK_0 := (blk_cell HK.out 0).trans rfl
    have cK_1 := (blk_cell HK.out 1).trans rfl
    have cK_2 := (blk_cell HK.out 2).trans rfl
    have lK := blk_lt HK.out
    have cM_0 := (blk_cell HM.out 0).trans rfl
    have cM_1 := (blk_cell HM.out 1).trans rfl
    have lM := blk_lt HM.out
    have cX_0 := (blk_cell HX.out 0).trans rfl
    have cX_1 := (blk_cell HX.out 1).trans rfl
    have cX_2 := (blk_cell HX.out 2).trans rfl
    have lX := blk_lt HX.out
    have cS_0 := (blk_cell HS.out 0).trans rfl
    have cS_1 := (blk_cell HS.out 1).trans rfl
    have lS := blk_lt HS.out
    have cT_0 := (blk_cell HT.out 0).trans rfl
    have cT_1 := (blk_cell HT.out 1).trans rfl
    have lT := blk_lt HT.out
    have cU_0 := (blk_cell HU.out 0).trans rfl
    have cU_1 := (blk_cell HU.out 1).trans rfl
    have lU := blk_lt HU.out
    have cV_0 := (blk_cell HV.out 0).trans rfl
    have cV_1 := (blk_cell HV.out 1).trans rfl
    have lV := blk_lt HV.out
    have cP_0 := (blk_cell HP.out 0).trans rfl
    have cP_1 := (blk_cell HP.out 1).trans rfl
    have lP := blk_lt HP.out
    have cQ_0 := (blk_cell HQ.out 0).trans rfl
    have cQ_1 := (blk_cell HQ.out 1).trans rfl
    have lQ := blk_lt HQ.out
    rcases HDP.out.1 with rfl | ⟨rfl, rfl, hdq⟩
    · skip
      rcases HDP.out.2 with rfl | ⟨rfl, rfl, hpq⟩
      · skip
        go_wp2_with fail
        clear cK_0 cK_1 cK_2 lK cM_0 cM_1 lM cX_0 cX_1 cX_2 lX cS_0 cS_1 lS cT_0 cT_1 lT cU_0 cU_1 lU cV_0 cV_1 lV cP_0 cP_1 lP cQ_0 cQ_1 lQ
        refine (HRO.out _ HB.out).mono ?_
        rintro e W50 ⟨rfl, hb⟩
        have hg := g_below hb
        replace HBS := Lib.hid (Nat.le_trans HBS.out hg.size)
        replace Rc := Lib.hid (R_typed_grown Rc.out hg (fun g e => by cases e))
        replace HK := Lib.hid (blk_grown HK.out hg (by simp))
        replace HM := Lib.hid (blk_grown HM.out hg (by simp))
        replace HX := Lib.hid (blk_grown HX.out hg (by simp))
        replace HS := Lib.hid (blk_grown HS.out hg (by simp))
        replace HT := Lib.hid (blk_grown HT.out hg (by simp))
        replace HU := Lib.hid (blk_grown HU.out hg (by simp))
        replace HV := Lib.hid (blk_grown HV.out hg (by simp))
        replace HP := Lib.hid (blk_grown HP.out hg (by simp))
        replace HQ := Lib.hid (blk_grown HQ.out hg (by simp))
        replace HB := Lib.hid (HB.out.trans (below_weaken hb HB.out.size))
        clear hb hg
        have cK_0 := (blk_cell HK.out 0).trans rfl
        have cK_1 := (blk_cell HK.out 1).trans rfl
        have cK_2 := (blk_cell HK.out 2).trans rfl
        have lK := blk_lt HK.out
        have cM_0 := (blk_cell HM.out 0).trans rfl
        have cM_1 := (blk_cell HM.out 1).trans rfl
        have lM := blk_lt HM.out
        have cX_0 := (blk_cell HX.out 0).trans rfl
        have cX_1 := (blk_cell HX.out 1).trans rfl
        have cX_2 := (blk_cell HX.out 2).trans rfl
        have lX := blk_lt HX.out
        have cS_0 := (blk_cell HS.out 0).trans rfl
        have cS_1 := (blk_cell HS.out 1).trans rfl
        have lS := blk_lt HS.out
        have cT_0 := (blk_cell HT.out 0).trans rfl
        have cT_1 := (blk_cell HT.out 1).trans rfl
        have lT := blk_lt HT.out
        have cU_0 := (blk_cell HU.out 0).trans rfl
        have cU_1 := (blk_cell HU.out 1).trans rfl
        have lU := blk_lt HU.out
        have cV_0 := (blk_cell HV.out 0).trans rfl
        have cV_1 := (blk_cell HV.out 1).trans rfl
        have lV := blk_lt HV.out
        have cP_0 := (blk_cell HP.out 0).trans rfl
        have cP_1 := (blk_cell HP.out 1).trans rfl
        have lP := blk_lt HP.out
        have cQ_0 := (blk_cell HQ.out 0).trans rfl
        have cQ_1 := (blk_cell HQ.out 1).trans rfl
        have lQ := blk_lt HQ.out
        clear cK_0 cK_1 cK_2 lK cM_0 cM_1 lM cX_0 cX_1 cX_2 lX cS_0 cS_1 lS cT_0 cT_1 lT cU_0 cU_1 lU cV_0 cV_1 lV cP_0 cP_1 lP cQ_0 cQ_1 lQ
        go_wp2
        go_ret
        exact ⟨ret_true (by first | rfl | (simp; done) | (simp; omega)), HB.out⟩

      · skip
        go_wp2_with fail
        clear cK_0 cK_1 cK_2 lK cM_0 cM_1 lM cX_0 cX_1 cX_2 lX cS_0 cS_1 lS cT_0 cT_1 lT cU_0 cU_1 lU cV_0 cV_1 lV cP_0 cP_1 lP cQ_0 cQ_1 lQ
        refine (HRO.out _ HB.out).mono ?_
        rintro e W50 ⟨rfl, hb⟩
        have hg := g_below hb
        replace HBS := Lib.hid (Nat.le_trans HBS.out hg.size)
        replace Rc := Lib.hid (R_typed_grown Rc.out hg (fun g e => by cases e))
        replace HK := Lib.hid (blk_grown HK.out hg (by simp))
        replace HM := Lib.hid (blk_grown HM.out hg (by simp))
        replace HX := Lib.hid (blk_grown HX.out hg (by simp))
        replace HS := Lib.hid (blk_grown HS.out hg (by simp))
        replace HT := Lib.hid (blk_grown HT.out hg (by simp))
        replace HU := Lib.hid (blk_grown HU.out hg (by simp))
        replace HV := Lib.hid (blk_grown HV.out hg (by simp))
        replace HP := Lib.hid (blk_grown HP.out hg (by simp))
        replace HQ := Lib.hid (blk_grown HQ.out hg (by simp))
        replace HB := Lib.hid (HB.out.trans (below_weaken hb HB.out.size))
        clear hb hg
        have cK_0 := (blk_cell HK.out 0).trans rfl
        have cK_1 := (blk_cell HK.out 1).trans rfl
        have cK_2 := (blk_cell HK.out 2).trans rfl
        have lK := blk_lt HK.out
        have cM_0 := (blk_cell HM.out 0).trans rfl
        have cM_1 := (blk_cell HM.out 1).trans rfl
        have lM := blk_lt HM.out
        have cX_0 := (blk_cell HX.out 0).trans rfl
        have cX_1 := (blk_cell HX.out 1).trans rfl
        have cX_2 := (blk_cell HX.out 2).trans rfl
        have lX := blk_lt HX.out
        have cS_0 := (blk_cell HS.out 0).trans rfl
        have cS_1 := (blk_cell HS.out 1).trans rfl
        have lS := blk_lt HS.out
        have cT_0 := (blk_cell HT.out 0).trans rfl
        have cT_1 := (blk_cell HT.out 1).trans rfl
        have lT := blk_lt HT.out
        have cU_0 := (blk_cell HU.out 0).trans rfl
        have cU_1 := (blk_cell HU.out 1).trans rfl
        have lU := blk_lt HU.out
        have cV_0 := (blk_cell HV.out 0).trans rfl
        have cV_1 := (blk_cell HV.out 1).trans rfl
        have lV := blk_lt HV.out
        have cP_0 := (blk_cell HP.out 0).trans rfl
        have cP_1 := (blk_cell HP.out 1).trans rfl
        have lP := blk_lt HP.out
        have cQ_0 := (blk_cell HQ.out 0).trans rfl
        have cQ_1 := (blk_cell HQ.out 1).trans rfl
        have lQ := blk_lt HQ.out
        clear cK_0 cK_1 cK_2 lK cM_0 cM_1 lM cX_0 cX_1 cX_2 lX cS_0 cS_1 lS cT_0 cT_1 lT cU_0 cU_1 lU cV_0 cV_1 lV cP_0 cP_1 lP cQ_0 cQ_1 lQ
        go_wp2
        go_ret
        exact ⟨ret_true (by first | rfl | (simp; done) | (simp; omega)), HB.out⟩


    · skip
      rcases HDP.out.2 with rfl | ⟨rfl, rfl, hpq⟩
      · skip
        go_wp2_with fail
        clear cK_0 cK_1 cK_2 lK cM_0 cM_1 lM cX_0 cX_1 cX_2 lX cS_0 cS_1 lS cT_0 cT_1 lT cU_0 cU_1 lU cV_0 cV_1 lV cP_0 cP_1 lP cQ_0 cQ_1 lQ
        refine (HRO.out _ HB.out).mono ?_
        rintro e W50 ⟨rfl, hb⟩
        have hg := g_below hb
        replace HBS := Lib.hid (Nat.le_trans HBS.out hg.size)
        replace Rc := Lib.hid (R_typed_grown Rc.out hg (fun g e => by cases e))
        replace HK := Lib.hid (blk_grown HK.out hg (by simp))
        replace HM := Lib.hid (blk_grown HM.out hg (by simp))
        replace HX := Lib.hid (blk_grown HX.out hg (by simp))
        replace HS := Lib.hid (blk_grown HS.out hg (by simp))
        replace HT := Lib.hid (blk_grown HT.out hg (by simp))
        replace HU := Lib.hid (blk_grown HU.out hg (by simp))
        replace HV := Lib.hid (blk_grown HV.out hg (by simp))
        replace HP := Lib.hid (blk_grown HP.out hg (by simp))
        replace HQ := Lib.hid (blk_grown HQ.out hg (by simp))
        replace HB := Lib.hid (HB.out.trans (below_weaken hb HB.out.size))
        clear hb hg
        have cK_0 := (blk_cell HK.out 0).trans rfl
        have cK_1 := (blk_cell HK.out 1).trans rfl
        have cK_2 := (blk_cell HK.out 2).trans rfl
        have lK := blk_lt HK.out
        have cM_0 := (blk_cell HM.out 0).trans rfl
        have cM_1 := (blk_cell HM.out 1).trans rfl
        have lM := blk_lt HM.out
        have cX_0 := (blk_cell HX.out 0).trans rfl
        have cX_1 := (blk_cell HX.out 1).trans rfl
        have cX_2 := (blk_cell HX.out 2).trans rfl
        have lX := blk_lt HX.out
        have cS_0 := (blk_cell HS.out 0).trans rfl
        have cS_1 := (blk_cell HS.out 1).trans rfl
        have lS := blk_lt HS.out
        have cT_0 := (blk_cell HT.out 0).trans rfl
        have cT_1 := (blk_cell HT.out 1).trans rfl
        have lT := blk_lt HT.out
        have cU_0 := (blk_cell HU.out 0).trans rfl
        have cU_1 := (blk_cell HU.out 1).trans rfl
        have lU := blk_lt HU.out
        have cV_0 := (blk_cell HV.out 0).trans rfl
        have cV_1 := (blk_cell HV.out 1).trans rfl
        have lV := blk_lt HV.out
        have cP_0 := (blk_cell HP.out 0).trans rfl
        have cP_1 := (blk_cell HP.out 1).trans rfl
        have lP := blk_lt HP.out
        have cQ_0 := (blk_cell HQ.out 0).trans rfl
        have cQ_1 := (blk_cell HQ.out 1).trans rfl
        have lQ := blk_lt HQ.out
        clear cK_0 cK_1 cK_2 lK cM_0 cM_1 lM cX_0 cX_1 cX_2 lX cS_0 cS_1 lS cT_0 cT_1 lT cU_0 cU_1 lU cV_0 cV_1 lV cP_0 cP_1 lP cQ_0 cQ_1 lQ
        go_wp2
        go_ret
        exact ⟨ret_true (by first | rfl | (simp; done) | (simp; omega)), HB.out⟩

      · skip
        go_wp2_with fail
        clear cK_0 cK_1 cK_2 lK cM_0 cM_1 lM cX_0 cX_1 cX_2 lX cS_0 cS_1 lS cT_0 cT_1 lT cU_0 cU_1 lU cV_0 cV_1 lV cP_0 cP_1 lP cQ_0 cQ_1 lQ
        refine (HRO.out _ HB.out).mono ?_
        rintro e W50 ⟨rfl, hb⟩
        have hg := g_below hb
        replace HBS := Lib.hid (Nat.le_trans HBS.out hg.size)
        replace Rc := Lib.hid (R_typed_grown Rc.out hg (fun g e => by cases e))
        replace HK := Lib.hid (blk_grown HK.out hg (by simp))
        replace HM := Lib.hid (blk_grown HM.out hg (by simp))
        replace HX := Lib.hid (blk_grown HX.out hg (by simp))
        replace HS := Lib.hid (blk_grown HS.out hg (by simp))
        replace HT := Lib.hid (blk_grown HT.out hg (by simp))
        replace HU := Lib.hid (blk_grown HU.out hg (by simp))
        replace HV := Lib.hid (blk_grown HV.out hg (by simp))
        replace HP := Lib.hid (blk_grown HP.out hg (by simp))
        replace HQ := Lib.hid (blk_grown HQ.out hg (by simp))
        replace HB := Lib.hid (HB.out.trans (below_weaken hb HB.out.size))
        clear hb hg
        have cK_0 := (blk_cell HK.out 0).trans rfl
        have cK_1 := (blk_cell HK.out 1).trans rfl
        have cK_2 := (blk_cell HK.out 2).trans rfl
        have lK := blk_lt HK.out
        have cM_0 := (blk_cell HM.out 0).trans rfl
        have cM_1 := (blk_cell HM.out 1).trans rfl
        have lM := blk_lt HM.out
        have cX_0 := (blk_cell HX.out 0).trans rfl
        have cX_1 := (blk_cell HX.out 1).trans rfl
        have cX_2 := (blk_cell HX.out 2).trans rfl
        have lX := blk_lt HX.out
        have cS_0 := (blk_cell HS.out 0).trans rfl
        have cS_1 := (blk_cell HS.out 1).trans rfl
        have lS := blk_lt HS.out
        have cT_0 := (blk_cell HT.out 0).trans rfl
        have cT_1 := (blk_cell HT.out 1).trans rfl
        have lT := blk_lt HT.out
        have cU_0 := (blk_cell HU.out 0).trans rfl
        have cU_1 := (blk_cell HU.out 1).trans rfl
        have lU := blk_lt HU.out
        have cV_0 := (blk_cell HV.out 0).trans rfl
        have cV_1 := (blk_cell HV.out 1).trans rfl
        have lV := blk_lt HV.out
        have cP_0 := (blk_cell HP.out 0).trans rfl
        have cP_1 := (blk_cell HP.out 1).trans rfl
        have lP := blk_lt HP.out
        have cQ_0 := (blk_cell HQ.out 0).trans rfl
        have cQ_1 := (blk_cell HQ.out 1).trans rfl
        have lQ := blk_lt HQ.out
        clear cK_0 cK_1 cK_2 lK cM_0 cM_1 lM cX_0 cX_1 cX_2 lX cS_0 cS_1 lS cT_0 cT_1 lT cU_0 cU_1 lU cV_0 cV_1 lV cP_0 cP_1 lP cQ_0 cQ_1 lQ
        go_wp2
        go_ret
        exact ⟨ret_true (by first | rfl | (simp; done) | (simp; omega)), HB.out⟩
end Go.Proofs.YthgjedagbgmgmaaDoor.Pr
namespace Go.Proofs.YthgjedagbgmgmaaDoor.Pr
open Go.RowKit Go.Proofs.YthgjedagbgmgmaaDoorW.PrintWords Go.Proofs.YthgjedagbgmgmaaDoorW.PrintLast Go.Proofs.YthgjedagbgmgmaaDoorW.PrintMore
set_option linter.unusedVariables false
set_option linter.unusedSimpArgs false
theorem inner_true {a b c d : Int} (h0 : a ≤ c) (h1 : d ≤ b) (w : World) : Calls Tryd.prog 63 #[.agg #[.int .i64 a, .int .i64 b], .agg #[.int .i64 c, .int .i64 d]] w fun e w' => e = .returned (.bool true) ∧ Below w.heap.size w w' :=
  (macadamref00_Inner.calls a b c d true w (by unfold macadamref00_Inner.f; rw [if_pos h0, decide_eq_true h1])).mono (by rintro e w' ⟨rfl, hd⟩; exact ⟨rfl, hd⟩)
theorem rollMore_calls (A0 A1 A2 : Option Addr) (c0 c1 c2 : Nat) (l0 : List S92) (l1 : List S90) (l2 : List S43) (lx : S43) (n : Int) (w : World) (hG : GOK w) (h : BookAt w A0 A1 A2 c0 c1 c2 l0 l1 l2) :
    Calls Tryd.prog 9 #[.agg #[.slice A0 l0.length c0, .slice A1 l1.length c1, .slice A2 l2.length c2], .agg #[.int .i64 lx.f0, .int .i64 lx.f1], .int .i64 n] w fun e w' => e = .returned (.bool true) ∧ Below w.heap.size w w' := by
  have HSOB := fun W (hW : Below w.heap.size w W) => sound_calls A0 A1 A2 c0 c1 c2 l0 l1 l2 W (h.below hW)
  have HRO := fun W (hW : Below w.heap.size w W) => rolled_calls W (hG.below hW)
  cases hok : okBook l0 l1 l2 with
  | false =>
    rw [hok] at HSOB
    exact more_none A0 A1 A2 c0 c1 c2 l0 l1 l2 lx n w (Lib.hid HSOB) (Lib.hid HRO)
  | true =>
    rw [hok] at HSOB
    obtain ⟨o1, o2, o3, o4, o5, _⟩ := ok_facts hok
    by_cases h4 : l2.length = 4
    · exact more_four A0 A1 A2 c0 c1 c2 l0 l1 l2 lx n w (beq_iff_eq.2 (by omega)) (Lib.hid HSOB) (Lib.hid HRO)
    · obtain ⟨lm, hlm⟩ : ∃ l, l = l2 ++ [lx] := ⟨_, rfl⟩
      obtain ⟨d, hd, hwr⟩ := wrap_calls n l1.length o4 (by omega)
      refine more_walk A0 A1 A2 c0 c1 c2 l0 l1 l2 lx n w lm hlm (by omega) (beq_eq_false_iff_ne.2 (by omega)) h.r2 (fitsF l0 l1 l2 lx).1 (rightF l0 l1 lm).1 (fitsF l0 l1 l2 lx).2 (rightF l0 l1 lm).2 (Lib.hid HSOB) (Lib.hid HRO)
        (Lib.hid fun W hW => fits_calls A0 A1 A2 c0 c1 c2 l0 l1 l2 W (hG.below hW) (h.below hW).r0 h.c0 (h.below hW).r1 h.c1 (h.below hW).r2 h.c2 lx)
        (Lib.hid fun W A c hW hr hc => rightX_calls A0 A1 A c0 c1 c l0 l1 lm W (hG.below hW) (h.below hW).r0 h.c0 (h.below hW).r1 h.c1 hr hc) (Lib.hid ?_)
      subst hlm
      rcases more_cases (x := lx) hok (by omega) with ⟨e1, e2⟩ | ⟨e1, e2⟩ | ⟨e1, e2⟩ | ⟨e1, e2, hok', hT, hT'⟩
      · rw [e1, e2]; exact .inl ⟨rfl, rfl, rfl, rfl⟩
      · rw [e1, e2]; exact .inr (.inl ⟨rfl, rfl, rfl, rfl⟩)
      · rw [e1, e2]; exact .inr (.inr (.inl ⟨rfl, rfl, rfl, rfl⟩))
      · have hs : ∀ c ∈ good l0 l1 (l2 ++ [lx]) [], c ∈ good l0 l1 l2 [] := sub_snoc
        obtain ⟨s1, s2, t1, t2, a1, a2, a3, a4, a5⟩ := bound_sub hok hok' hT hT' hs hd
        obtain ⟨u1, u2, v1, v2, b1, b2, b3, b4, b5⟩ := wagons_sub hok hok' hT hT' hs hd
        obtain ⟨sky, now, k1, k2, k3, k4, k5⟩ := skyF_sub hok hok' hT hT' hs hd
        obtain ⟨p1, p2, q1, q2, f1, f2, f3, f4, f5⟩ := lost_sub hok hok' hT hT' hs
        rw [e1, e2]
        refine .inr (.inr (.inr ⟨rfl, rfl, rfl, rfl, d, s1, s2, t1, t2, u1, u2, v1, v2, sky, now, p1, p2, q1, q2, Lib.hid hwr, Lib.hid fun W hW => ?_, Lib.hid fun W A c hW hr hc => ?_, Lib.hid fun W hW => ?_, Lib.hid fun W A c hW hr hc => ?_, Lib.hid fun W hW => ?_, Lib.hid fun W A c hW hr hc => ?_, Lib.hid fun W hW => ?_, Lib.hid fun W A c hW hr hc => ?_, Lib.hid (inner_true (by omega) (by omega)), Lib.hid (inner_true (by omega) (by omega)), Lib.hid (inner_true (by omega) (by omega)), k3, beq_eq_false_iff_ne.2 (by omega), a4, (doneF l0 l1 l2).1, (doneF l0 l1 l2).2, (doneF l0 l1 (l2 ++ [lx])).1, (doneF l0 l1 (l2 ++ [lx])).2, (perhapsF l0 l1 l2).1, (perhapsF l0 l1 l2).2, (perhapsF l0 l1 (l2 ++ [lx])).1, (perhapsF l0 l1 (l2 ++ [lx])).2, Lib.hid fun W hW => ?_, Lib.hid fun W A c hW hr hc => ?_, Lib.hid fun W hW => ?_, Lib.hid fun W A c hW hr hc => ?_, Lib.hid ⟨?_, ?_⟩⟩))
        · have := bound_calls A0 A1 A2 c0 c1 c2 l0 l1 l2 W (hG.below hW) (h.below hW).r0 h.c0 (h.below hW).r1 h.c1 (h.below hW).r2 h.c2 (d : Int)
          rw [a1] at this
          exact this
        · have := bound_calls A0 A1 A c0 c1 c l0 l1 (l2 ++ [lx]) W (hG.below hW) (h.below hW).r0 h.c0 (h.below hW).r1 h.c1 hr hc (d : Int)
          rw [a2] at this
          exact this
        · have := wagons_calls A0 A1 A2 c0 c1 c2 l0 l1 l2 W (hG.below hW) (h.below hW).r0 h.c0 (h.below hW).r1 h.c1 (h.below hW).r2 h.c2 (d : Int)
          rw [b1] at this
          exact this
        · have := wagons_calls A0 A1 A c0 c1 c l0 l1 (l2 ++ [lx]) W (hG.below hW) (h.below hW).r0 h.c0 (h.below hW).r1 h.c1 hr hc (d : Int)
          rw [b2] at this
          exact this
        · have := sky_calls A0 A1 A2 c0 c1 c2 l0 l1 l2 W (hG.below hW) (h.below hW).r0 h.c0 (h.below hW).r1 h.c1 (h.below hW).r2 h.c2 (d : Int)
          rw [k1] at this
          exact this
        · have := sky_calls A0 A1 A c0 c1 c l0 l1 (l2 ++ [lx]) W (hG.below hW) (h.below hW).r0 h.c0 (h.below hW).r1 h.c1 hr hc (d : Int)
          rw [k2] at this
          exact this
        · have := lost_calls A0 A1 A2 c0 c1 c2 l0 l1 l2 W (hG.below hW) (h.below hW).r0 h.c0 (h.below hW).r1 h.c1 (h.below hW).r2 h.c2
          rw [f1] at this
          exact this
        · have := lost_calls A0 A1 A c0 c1 c l0 l1 (l2 ++ [lx]) W (hG.below hW) (h.below hW).r0 h.c0 (h.below hW).r1 h.c1 hr hc
          rw [f2] at this
          exact this
        · exact done_calls A0 A1 A2 c0 c1 c2 l0 l1 l2 W (hG.below hW) (h.below hW).r0 h.c0 (h.below hW).r1 h.c1 (h.below hW).r2 h.c2
        · exact done_calls A0 A1 A c0 c1 c l0 l1 (l2 ++ [lx]) W (hG.below hW) (h.below hW).r0 h.c0 (h.below hW).r1 h.c1 hr hc
        · exact perhaps_calls A0 A1 A2 c0 c1 c2 l0 l1 l2 W (hG.below hW) (h.below hW).r0 h.c0 (h.below hW).r1 h.c1 (h.below hW).r2 h.c2
        · exact perhaps_calls A0 A1 A c0 c1 c l0 l1 (l2 ++ [lx]) W (hG.below hW) (h.below hW).r0 h.c0 (h.below hW).r1 h.c1 hr hc
        · rcases done_sub hok hok' hT hT' hs with e | ⟨j, i, e, e', h1, h2⟩
          · rw [e]; exact .inl rfl
          · rw [e, e']; exact .inr ⟨rfl, rfl, by dsimp only; omega⟩
        · rcases perhaps_sub hok hok' hT hT' hs with e | ⟨j, i, e, e', h1, h2⟩
          · rw [e]; exact .inl rfl
          · rw [e, e']; exact .inr ⟨rfl, rfl, by dsimp only; omega⟩
end Go.Proofs.YthgjedagbgmgmaaDoor.Pr
