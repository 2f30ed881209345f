/- Part 6 of the proof that RollSteps answers true: contracts and laws, merged by a program. -/
import Derived.Test.YthgjedagbgmgmaaDoorCards
import Derived.Test.YthgjedagbgmgmaaDoorTie
import Derived.WalkKit
import Derived.ProofKit
import Derived.OpenShut
import Derived.Deep.DeepHandedRow
import Derived.Deep.DeepWitnessRowRef
import Derived.Lib.LaidTab
import Derived.Lib.LaidU8
import Derived.LaidMore
import Derived.Lib.SmallJoins
import Derived.Deep.Slices
import Derived.Carry
import Derived.Laws.IdiomArrays
import Derived.SevenTiedAt
import Derived.IntWalk
import Derived.Test.YthgjedagbgmgmaaDoorRollStepsA5
namespace Go.Proofs.YthgjedagbgmgmaaDoor.Pr
open Go.RowKit Go.Proofs.YthgjedagbgmgmaaDoorW.PrintWords Go.Proofs.YthgjedagbgmgmaaDoorW.PrintLast Go.Proofs.YthgjedagbgmgmaaDoorW.PrintMore
attribute [local go_sem] max2_int min2_int max_two min_two -- for this text's walks alone
set_option linter.unusedVariables false
set_option linter.unusedSimpArgs false
def macadamref00_Reach.f (a0 : Int) (a1 : Int) : Option (Int × Int) := some (a0, a1)
set_option maxHeartbeats 8000000 in
set_option maxRecDepth 100000 in
theorem macadamref00_Reach.calls (a0 : Int) (a1 : Int) (r1 : Int) (r2 : Int) (w : World) (h : macadamref00_Reach.f a0 a1 = some (r1, r2)) :
    Calls Tryd.prog 55 #[.int .i64 a0, .int .i64 a1] w fun e w' => e = .returned (.agg #[.int .i64 r1, .int .i64 r2]) ∧ Below w.heap.size w w' := by
  have hu32 := Tryd.underlying32
  have HB := Aside0.mk (Below.refl w.heap.size w)
  have H : (some (a0, a1)) = some (r1, r2) := h
  clear h
  simp only [Option.some.injEq, Prod.mk.injEq] at H
  obtain ⟨rfl, rfl⟩ := H
  go_enter Tryd.func55, Tryd.ntmps55
  go_wp2_with (first | ((with_reducible refine gate_dst (N := 4) rfl ?_); refine box_event ?hg (N := 4) ?hd (cs := #[.int .i64 0, .int .i64 0]) (t := 32) ?hr ?_; (case hd => rfl); (case hg => rfl); (case hr => first | (go_simp; done) | (go_simp; rfl)); intro gb121 hg w3 hbox hb; have n0_ := Aside0.mk (below_step (by repeat (first | (with_reducible first | exact HB.out | apply below_alloc | apply pw_below_drewN | apply below_drew1) | exact HB.out)) hb); have n1_ := Aside0.mk (hbox); have n2_ := Aside0.mk ((by rw [hg]; exact (below_size (by repeat (first | (with_reducible first | exact HB.out | apply below_alloc | apply pw_below_drewN | apply below_drew1) | exact HB.out))) : w.heap.size ≤ gb121)); have n3_ := Aside0.mk ((by rw [hg]; exact (below_size (by repeat (first | (with_reducible first | exact HB.out | apply below_alloc | apply pw_below_drewN | apply below_drew1) | exact HB.out))) : w.heap.size ≤ gb121)); clear HB; have HB := n0_; have BK121 := n1_; have GW121 := n2_; have GE121 := n3_; clear n0_ n1_ n2_ n3_; clear hb hbox hg; have hcz4_0 : w3.cell? ⟨gb121, 0, none⟩ = some (.int .i64 0) := (blk_cell BK121.out 0).trans rfl; have hcz4_1 : w3.cell? ⟨gb121, 1, none⟩ = some (.int .i64 0) := (blk_cell BK121.out 1).trans rfl; have hfz4_0 := blk_frozen BK121.out 0; have hfz4_1 := blk_frozen BK121.out 1))
  refine bodyPost_ret (results_cell_row rfl _ _ gb121 32 #[.int .i64 a0, .int .i64 a1] (0, 0) _ rfl (by (with_reducible repeat (first | refine blk_drewN ?_ _ | refine blk_drew ?_ | refine blk_alloc ?_ _)); refine blk_put (cs := #[.int .i64 a0, .int .i64 0]) ?_ 1 _ rfl; (with_reducible repeat (first | refine blk_drewN ?_ _ | refine blk_drew ?_ | refine blk_alloc ?_ _)); refine blk_put (cs := #[.int .i64 0, .int .i64 0]) ?_ 0 _ rfl; (with_reducible repeat (first | refine blk_drewN ?_ _ | refine blk_drew ?_ | refine blk_alloc ?_ _)); exact BK121.out) Tryd.underlying32 rfl (by kernel_rfl)) rfl ?_
  exact ⟨by first | rfl | exact congrArg (fun b_ => Ending.returned (.bool b_)) HT.out | (simp [errW_none, errW_some] <;> rfl) | (simp [*, errW_none, errW_some] <;> rfl), by repeat (first | (with_reducible first | exact HB.out | apply below_alloc | apply pw_below_drewN | apply below_drew1 | refine below_set ?_ GE121.out) | exact HB.out)⟩
def macadamlaw07_day.f (a0 : Int) (a1 : Int) (a2 : Int) : Option (Int × Int × Int) := (macadamref00_Reach.f a0 a1).bind fun bt123 => (some (bt123.1, bt123.2, a2))
set_option maxHeartbeats 8000000 in
set_option maxRecDepth 100000 in
theorem macadamlaw07_day.calls (a0 : Int) (a1 : Int) (a2 : Int) (r1 : Int) (r2 : Int) (r3 : Int) (w : World) (h : macadamlaw07_day.f a0 a1 a2 = some (r1, r2, r3)) :
    Calls Tryd.prog 120 #[.int .i64 a0, .int .i64 a1, .int .i64 a2] w fun e w' => e = .returned (.agg #[.int .i64 r1, .int .i64 r2, .int .i64 r3]) ∧ Below w.heap.size w w' := by
  have hu90 := Tryd.underlying90
  have HB := Aside0.mk (Below.refl w.heap.size w)
  have H : ((macadamref00_Reach.f a0 a1).bind fun bt123 => (some (bt123.1, bt123.2, a2))) = some (r1, r2, r3) := h
  clear h
  replace H := Option.bind_eq_some_iff.mp H
  obtain ⟨⟨t123, t124⟩, A40, H⟩ := H
  replace H : (some (t123, t124, a2)) = some (r1, r2, r3) := H
  have A4 := Aside0.mk A40
  clear A40
  simp only [Option.some.injEq, Prod.mk.injEq] at H
  obtain ⟨rfl, rfl, rfl⟩ := H
  go_enter Tryd.func120, Tryd.ntmps120
  go_wp2_with (first | ((with_reducible refine gate_dst (N := 6) rfl ?_); refine box_event ?hg (N := 6) ?hd (cs := #[.int .i64 0, .int .i64 0, .int .i64 0]) (t := 90) ?hr ?_; (case hd => rfl); (case hg => rfl); (case hr => first | (go_simp; done) | (go_simp; rfl)); intro gb122 hg w5 hbox hb; have n0_ := Aside0.mk (below_step (by repeat (first | (with_reducible first | exact HB.out | apply below_alloc | apply pw_below_drewN | apply below_drew1) | exact HB.out)) hb); have n1_ := Aside0.mk (hbox); have n2_ := Aside0.mk ((by rw [hg]; exact (below_size (by repeat (first | (with_reducible first | exact HB.out | apply below_alloc | apply pw_below_drewN | apply below_drew1) | exact HB.out))) : w.heap.size ≤ gb122)); have n3_ := Aside0.mk ((by rw [hg]; exact (below_size (by repeat (first | (with_reducible first | exact HB.out | apply below_alloc | apply pw_below_drewN | apply below_drew1) | exact HB.out))) : w.heap.size ≤ gb122)); clear HB; have HB := n0_; have BK122 := n1_; have GW122 := n2_; have GE122 := n3_; clear n0_ n1_ n2_ n3_; clear hb hbox hg) | ((with_reducible refine gate_callee (f := 55) rfl ?_); refine goesL_ (some 9) rfl rfl Tryd.func55 (by kernel_rfl) rfl #[.int .i64 a0, .int .i64 a1] rfl (by (try simp only [List.map_toArray, List.map_cons, List.map_nil]); first | done | rfl | (simp only [List.length_drop, List.length_take]; rfl)) ?_; (with_reducible refine (macadamref00_Reach.calls a0 a1 t123 t124 _ A4.out).mono ?_); rintro e w6 ⟨rfl, hb⟩; refine ⟨_, rfl, ?_⟩; have n0_ := Aside0.mk (blk_below (g := gb122) (o := .cells #[.int .i64 0, .int .i64 0, .int .i64 0] 90 (0, 0)) (by (with_reducible repeat (first | refine blk_drewN ?_ _ | refine blk_drew ?_ | refine blk_alloc ?_ _)); exact BK122.out) hb); have n1_ := Aside0.mk (below_step (by repeat (first | (with_reducible first | exact HB.out | apply below_alloc | apply pw_below_drewN | apply below_drew1 | refine below_set ?_ GE122.out) | exact HB.out)) hb); clear BK122; clear HB; have BK122 := n0_; have HB := n1_; clear n0_ n1_; (try clear hb); (try clear hb2); (try clear hk); (try clear hi); have hcz7_0 : w6.cell? ⟨gb122, 0, none⟩ = some (.int .i64 0) := (blk_cell BK122.out 0).trans rfl; have hcz7_1 : w6.cell? ⟨gb122, 1, none⟩ = some (.int .i64 0) := (blk_cell BK122.out 1).trans rfl; have hcz7_2 : w6.cell? ⟨gb122, 2, none⟩ = some (.int .i64 0) := (blk_cell BK122.out 2).trans rfl; have hfz7_0 := blk_frozen BK122.out 0; have hfz7_1 := blk_frozen BK122.out 1; have hfz7_2 := blk_frozen BK122.out 2))
  refine bodyPost_ret (results_cell_row rfl _ _ gb122 90 #[.int .i64 t123, .int .i64 t124, .int .i64 a2] (0, 0) _ rfl (by (with_reducible repeat (first | refine blk_drewN ?_ _ | refine blk_drew ?_ | refine blk_alloc ?_ _)); refine blk_put (cs := #[.int .i64 t123, .int .i64 t124, .int .i64 0]) ?_ 2 _ rfl; (with_reducible repeat (first | refine blk_drewN ?_ _ | refine blk_drew ?_ | refine blk_alloc ?_ _)); refine blk_put (cs := #[.int .i64 t123, .int .i64 0, .int .i64 0]) ?_ 1 _ rfl; (with_reducible repeat (first | refine blk_drewN ?_ _ | refine blk_drew ?_ | refine blk_alloc ?_ _)); refine blk_put (cs := #[.int .i64 0, .int .i64 0, .int .i64 0]) ?_ 0 _ rfl; (with_reducible repeat (first | refine blk_drewN ?_ _ | refine blk_drew ?_ | refine blk_alloc ?_ _)); exact BK122.out) Tryd.underlying90 rfl (by kernel_rfl)) rfl ?_
  exact ⟨by first | rfl | exact congrArg (fun b_ => Ending.returned (.bool b_)) HT.out | (simp [errW_none, errW_some] <;> rfl) | (simp [*, errW_none, errW_some] <;> rfl), by repeat (first | (with_reducible first | exact HB.out | apply below_alloc | apply pw_below_drewN | apply below_drew1 | refine below_set ?_ GE122.out) | exact HB.out)⟩
def macadamlaw07_book.f (l0 : List (S43)) : Option ((List (S92)) × (List (S90)) × (List (S43))) := (macadamlaw07_day.f 3 4 2).bind fun bt129 => ((macadamlaw07_day.f 2 3 3).bind fun bt132 => ((macadamlaw07_day.f 3 3 6).bind fun bt135 => ((macadamlaw07_day.f 4 4 2).bind fun bt138 => (some ((([(⟨5, 4⟩ : S92), (⟨4, 3⟩ : S92)] : List (S92))), (([(⟨(⟨bt129.1, bt129.2.1⟩ : S32), bt129.2.2⟩ : S90), (⟨(⟨bt132.1, bt132.2.1⟩ : S32), bt132.2.2⟩ : S90), (⟨(⟨bt135.1, bt135.2.1⟩ : S32), bt135.2.2⟩ : S90), (⟨(⟨bt138.1, bt138.2.1⟩ : S32), bt138.2.2⟩ : S90)] : List (S90))), l0)))))
set_option maxHeartbeats 8000000 in
set_option maxRecDepth 100000 in
theorem macadamlaw07_book.calls (P0_ : Nat → Prop) (u9000_ : Value) (l0 : List (S43)) (r1 : List (S92)) (r2 : List (S90)) (r3 : List (S43)) (w0 w : World) (hB : Below w0.heap.size w0 w) (ho0 : Kd.R k43 43 w w0.heap.size P0_ u9000_ l0) (h : macadamlaw07_book.f l0 = some (r1, r2, r3)) :
    Calls Tryd.prog 71 #[u9000_] w fun e w' => ∃ v0_ v1_ v2_ : Value, e = .returned (.agg #[v0_, v1_, v2_]) ∧ Kd.R k92 92 w' w0.heap.size (fun k_ => (P0_ k_ ∨ w.heap.size ≤ k_)) v0_ r1 ∧ Kd.R k90 90 w' w0.heap.size (fun k_ => (P0_ k_ ∨ w.heap.size ≤ k_)) v1_ r2 ∧ Kd.R k43 43 w' w0.heap.size (fun k_ => (P0_ k_ ∨ w.heap.size ≤ k_)) v2_ r3 ∧ Below w0.heap.size w0 w' ∧ Kept w w' (fun k_ => P0_ k_) := by
  have hu26 := Tryd.underlying26
  have hu92 := Tryd.underlying92
  have HO0 := Aside0.mk (show Kd.R k43 43 w w0.heap.size (fun k_ => (P0_ k_ ∨ w.heap.size ≤ k_)) u9000_ l0 from Kd.R_mono ho0 (fun k_ hk => (.inl hk)))
  have HK := Aside0.mk (Kept.refl w (fun k_ => P0_ k_))
  have HW0 := Aside0.mk hB.size
  have HB := Aside0.mk hB
  clear hB
  have H : ((macadamlaw07_day.f 3 4 2).bind fun bt129 => ((macadamlaw07_day.f 2 3 3).bind fun bt132 => ((macadamlaw07_day.f 3 3 6).bind fun bt135 => ((macadamlaw07_day.f 4 4 2).bind fun bt138 => (some ((([(⟨5, 4⟩ : S92), (⟨4, 3⟩ : S92)] : List (S92))), (([(⟨(⟨bt129.1, bt129.2.1⟩ : S32), bt129.2.2⟩ : S90), (⟨(⟨bt132.1, bt132.2.1⟩ : S32), bt132.2.2⟩ : S90), (⟨(⟨bt135.1, bt135.2.1⟩ : S32), bt135.2.2⟩ : S90), (⟨(⟨bt138.1, bt138.2.1⟩ : S32), bt138.2.2⟩ : S90)] : List (S90))), l0)))))) = some (r1, r2, r3) := h
  clear h
  obtain ⟨y126, hy126⟩ : ∃ y_ : List (S92), y_ = (([(⟨5, 4⟩ : S92), (⟨4, 3⟩ : S92)] : List (S92))) := ⟨_, rfl⟩
  replace H : ((macadamlaw07_day.f 3 4 2).bind fun bt129 => ((macadamlaw07_day.f 2 3 3).bind fun bt132 => ((macadamlaw07_day.f 3 3 6).bind fun bt135 => ((macadamlaw07_day.f 4 4 2).bind fun bt138 => (some (y126, (([(⟨(⟨bt129.1, bt129.2.1⟩ : S32), bt129.2.2⟩ : S90), (⟨(⟨bt132.1, bt132.2.1⟩ : S32), bt132.2.2⟩ : S90), (⟨(⟨bt135.1, bt135.2.1⟩ : S32), bt135.2.2⟩ : S90), (⟨(⟨bt138.1, bt138.2.1⟩ : S32), bt138.2.2⟩ : S90)] : List (S90))), l0)))))) = some (r1, r2, r3) := by first | (rw [hy126]; with_reducible exact H) | (have H2_ := (Option.bind_some _ _).symm.trans H; rw [hy126]; with_reducible exact H2_) | (have H2_ := (Option.bind_some _ _).symm.trans H; with_reducible exact H2_) | with_reducible exact H | (rw [hy126]; exact H) | exact H
  have Ny126 := Aside0.mk hy126
  clear hy126
  replace H := Option.bind_eq_some_iff.mp H
  obtain ⟨⟨t129, t130, t131⟩, A20, H⟩ := H
  replace H : ((macadamlaw07_day.f 2 3 3).bind fun bt132 => ((macadamlaw07_day.f 3 3 6).bind fun bt135 => ((macadamlaw07_day.f 4 4 2).bind fun bt138 => (some (y126, (([(⟨(⟨t129, t130⟩ : S32), t131⟩ : S90), (⟨(⟨bt132.1, bt132.2.1⟩ : S32), bt132.2.2⟩ : S90), (⟨(⟨bt135.1, bt135.2.1⟩ : S32), bt135.2.2⟩ : S90), (⟨(⟨bt138.1, bt138.2.1⟩ : S32), bt138.2.2⟩ : S90)] : List (S90))), l0))))) = some (r1, r2, r3) := H
  have A2 := Aside0.mk A20
  clear A20
  replace H := Option.bind_eq_some_iff.mp H
  obtain ⟨⟨t132, t133, t134⟩, A30, H⟩ := H
  replace H : ((macadamlaw07_day.f 3 3 6).bind fun bt135 => ((macadamlaw07_day.f 4 4 2).bind fun bt138 => (some (y126, (([(⟨(⟨t129, t130⟩ : S32), t131⟩ : S90), (⟨(⟨t132, t133⟩ : S32), t134⟩ : S90), (⟨(⟨bt135.1, bt135.2.1⟩ : S32), bt135.2.2⟩ : S90), (⟨(⟨bt138.1, bt138.2.1⟩ : S32), bt138.2.2⟩ : S90)] : List (S90))), l0)))) = some (r1, r2, r3) := H
  have A3 := Aside0.mk A30
  clear A30
  replace H := Option.bind_eq_some_iff.mp H
  obtain ⟨⟨t135, t136, t137⟩, A40, H⟩ := H
  replace H : ((macadamlaw07_day.f 4 4 2).bind fun bt138 => (some (y126, (([(⟨(⟨t129, t130⟩ : S32), t131⟩ : S90), (⟨(⟨t132, t133⟩ : S32), t134⟩ : S90), (⟨(⟨t135, t136⟩ : S32), t137⟩ : S90), (⟨(⟨bt138.1, bt138.2.1⟩ : S32), bt138.2.2⟩ : S90)] : List (S90))), l0))) = some (r1, r2, r3) := H
  have A4 := Aside0.mk A40
  clear A40
  replace H := Option.bind_eq_some_iff.mp H
  obtain ⟨⟨t138, t139, t140⟩, A50, H⟩ := H
  replace H : (some (y126, (([(⟨(⟨t129, t130⟩ : S32), t131⟩ : S90), (⟨(⟨t132, t133⟩ : S32), t134⟩ : S90), (⟨(⟨t135, t136⟩ : S32), t137⟩ : S90), (⟨(⟨t138, t139⟩ : S32), t140⟩ : S90)] : List (S90))), l0)) = some (r1, r2, r3) := H
  have A5 := Aside0.mk A50
  clear A50
  obtain ⟨y141, hy141⟩ : ∃ y_ : List (S90), y_ = (([(⟨(⟨t129, t130⟩ : S32), t131⟩ : S90), (⟨(⟨t132, t133⟩ : S32), t134⟩ : S90), (⟨(⟨t135, t136⟩ : S32), t137⟩ : S90), (⟨(⟨t138, t139⟩ : S32), t140⟩ : S90)] : List (S90))) := ⟨_, rfl⟩
  replace H : (some (y126, y141, l0)) = some (r1, r2, r3) := by first | (rw [hy141]; with_reducible exact H) | (have H2_ := (Option.bind_some _ _).symm.trans H; rw [hy141]; with_reducible exact H2_) | (have H2_ := (Option.bind_some _ _).symm.trans H; with_reducible exact H2_) | with_reducible exact H | (rw [hy141]; exact H) | exact H
  have Ny141 := Aside0.mk hy141
  clear hy141
  simp only [Option.some.injEq, Prod.mk.injEq] at H
  obtain ⟨rfl, rfl, rfl⟩ := H
  go_enter Tryd.func71, Tryd.ntmps71
  go_wp2_with (first | ((with_reducible refine gate_dst (N := 2) rfl ?_); refine box_event ?hg (N := 2) ?hd (cs := #[.slice none 0 0, .slice none 0 0, .slice none 0 0]) (t := 26) ?hr ?_; (case hd => rfl); (case hg => rfl); (case hr => first | (go_simp; done) | (go_simp; rfl)); intro gb125 hg w6 hbox hb; have n0_ := Aside0.mk (Kd.R_below (by (with_reducible repeat (first | apply Kd.R_alloc | apply Kd.R_drewN | apply Kd.R_drew)); exact HO0.out) hb); have n1_ := Aside0.mk (Kept.below (S := (fun k_ => P0_ k_)) (by repeat (first | (with_reducible first | exact HK.out | apply Kept.alloc | apply Kept.drewN | apply Kept.drew) | exact HK.out)) hb); have n2_ := Aside0.mk (below_step (by repeat (first | (with_reducible first | exact HB.out | apply below_alloc | apply pw_below_drewN | apply below_drew1) | exact HB.out)) hb); have n3_ := Aside0.mk (hbox); have n4_ := Aside0.mk ((by rw [hg]; exact (by first | exact HK.out.1 | exact (show Kept w _ (fun k_ => P0_ k_) from by repeat (first | (with_reducible first | exact HK.out | apply Kept.alloc | apply Kept.drewN | apply Kept.drew) | exact HK.out)).1) : w.heap.size ≤ gb125)); have n5_ := Aside0.mk ((by rw [hg]; exact (below_size (by repeat (first | (with_reducible first | exact HB.out | apply below_alloc | apply pw_below_drewN | apply below_drew1) | exact HB.out))) : w0.heap.size ≤ gb125)); clear HO0; clear HK; clear HB; have HO0 := n0_; have HK := n1_; have HB := n2_; have BK125 := n3_; have GW125 := n4_; have GE125 := n5_; clear n0_ n1_ n2_ n3_ n4_ n5_; clear hb hbox hg) | ((with_reducible refine gate_dst (N := 5) rfl ?_); refine Kd.R_lit k92 _ 92 ?hg (N := 5) ?hd (xs := ([(⟨5, 4⟩ : S92), (⟨4, 3⟩ : S92)] : List (S92))) (inner := [.int .i64 5, .int .i64 4, .int .i64 4, .int .i64 3]) (ok := fun _ => True) (okp := fun _ => True) ?hr ?hp (fun _ hk => hk) trivial (Below.refl _ _) (Nat.le_refl _) (by simp) ?_; (case hd => rfl); (case hg => rfl); (case hr => first | (go_simp; done) | (go_simp; rfl)); (case hp => exact (Reps.c2 (show Kd.M k92 _ _ _ (⟨5, 4⟩ : S92) [.int .i64 5, .int .i64 4] from (k92_mkM _ _ _ (⟨5, 4⟩ : S92) )) (Reps.c2 (show Kd.M k92 _ _ _ (⟨4, 3⟩ : S92) [.int .i64 4, .int .i64 3] from (k92_mkM _ _ _ (⟨4, 3⟩ : S92) )) (Reps.none _ _)))); intro v127 w7 ho8 hb hg_ hnew_; clear hg_ hnew_; (first | rw [← Ny126.out] at ho8 | (simp only [Int.reduceToNat] at ho8; rw [← Ny126.out] at ho8)); have n0_ := Aside0.mk (Kd.R_below (by (with_reducible repeat (first | apply Kd.R_alloc | apply Kd.R_drewN | apply Kd.R_drew)); exact HO0.out) hb); have n1_ := Aside0.mk (Kd.R_lower (Kd.R_newM (M := fun k_ => (P0_ k_ ∨ w.heap.size ≤ k_)) ho8 (by first | exact HK.out.1 | exact (show Kept w _ (fun k_ => P0_ k_) from by repeat (first | (with_reducible first | exact HK.out | apply Kept.alloc | apply Kept.drewN | apply Kept.drew | refine Kept.setCell ?_ (.inr GW125.out) _) | exact HK.out)).1) (fun k_ h_ => .inr h_)) (below_size (by repeat (first | (with_reducible first | exact HB.out | apply below_alloc | apply pw_below_drewN | apply below_drew1 | refine below_set ?_ GE125.out) | exact HB.out)))); have n2_ := Aside0.mk (blk_below (g := gb125) (o := .cells #[.slice none 0 0, .slice none 0 0, .slice none 0 0] 26 (0, 0)) (by (with_reducible repeat (first | refine blk_drewN ?_ _ | refine blk_drew ?_ | refine blk_alloc ?_ _)); exact BK125.out) hb); have n3_ := Aside0.mk (Kept.below (S := (fun k_ => P0_ k_)) (by repeat (first | (with_reducible first | exact HK.out | apply Kept.alloc | apply Kept.drewN | apply Kept.drew | refine Kept.setCell ?_ (.inr GW125.out) _) | exact HK.out)) hb); have n4_ := Aside0.mk (below_step (by repeat (first | (with_reducible first | exact HB.out | apply below_alloc | apply pw_below_drewN | apply below_drew1 | refine below_set ?_ GE125.out) | exact HB.out)) hb); clear HO0; clear BK125; clear HK; clear HB; have HO0 := n0_; have HO128 := n1_; have BK125 := n2_; have HK := n3_; have HB := n4_; clear n0_ n1_ n2_ n3_ n4_; clear hb ho8) | ((with_reducible refine gate_callee (f := 120) rfl ?_); refine goesL_ (some 6) rfl rfl Tryd.func120 (by kernel_rfl) rfl #[.int .i64 3, .int .i64 4, .int .i64 2] rfl (by (try simp only [List.map_toArray, List.map_cons, List.map_nil]); first | done | rfl | (simp only [List.length_drop, List.length_take]; rfl)) ?_; (with_reducible refine (macadamlaw07_day.calls 3 4 2 t129 t130 t131 _ A2.out).mono ?_); rintro e w9 ⟨rfl, hb⟩; refine ⟨_, rfl, ?_⟩; have n0_ := Aside0.mk (Kd.R_below (by (with_reducible repeat (first | apply Kd.R_alloc | apply Kd.R_drewN | apply Kd.R_drew)); exact HO0.out) hb); have n1_ := Aside0.mk (Kd.R_below (by (with_reducible repeat (first | apply Kd.R_alloc | apply Kd.R_drewN | apply Kd.R_drew)); exact HO128.out) hb); have n2_ := Aside0.mk (blk_below (g := gb125) (o := .cells #[.slice none 0 0, .slice none 0 0, .slice none 0 0] 26 (0, 0)) (by (with_reducible repeat (first | refine blk_drewN ?_ _ | refine blk_drew ?_ | refine blk_alloc ?_ _)); exact BK125.out) hb); have n3_ := Aside0.mk (Kept.below (S := (fun k_ => P0_ k_)) (by repeat (first | (with_reducible first | exact HK.out | apply Kept.alloc | apply Kept.drewN | apply Kept.drew | refine Kept.setCell ?_ (.inr GW125.out) _) | exact HK.out)) hb); have n4_ := Aside0.mk (below_step (by repeat (first | (with_reducible first | exact HB.out | apply below_alloc | apply pw_below_drewN | apply below_drew1 | refine below_set ?_ GE125.out) | exact HB.out)) hb); clear HO0; clear HO128; clear BK125; clear HK; clear HB; have HO0 := n0_; have HO128 := n1_; have BK125 := n2_; have HK := n3_; have HB := n4_; clear n0_ n1_ n2_ n3_ n4_; (try clear hb); (try clear hb2); (try clear hk); (try clear hi)) | ((with_reducible refine gate_callee (f := 120) rfl ?_); refine goesL_ (some 7) rfl rfl Tryd.func120 (by kernel_rfl) rfl #[.int .i64 2, .int .i64 3, .int .i64 3] rfl (by (try simp only [List.map_toArray, List.map_cons, List.map_nil]); first | done | rfl | (simp only [List.length_drop, List.length_take]; rfl)) ?_; (with_reducible refine (macadamlaw07_day.calls 2 3 3 t132 t133 t134 _ A3.out).mono ?_); rintro e w10 ⟨rfl, hb⟩; refine ⟨_, rfl, ?_⟩; have n0_ := Aside0.mk (Kd.R_below (by (with_reducible repeat (first | apply Kd.R_alloc | apply Kd.R_drewN | apply Kd.R_drew)); exact HO0.out) hb); have n1_ := Aside0.mk (Kd.R_below (by (with_reducible repeat (first | apply Kd.R_alloc | apply Kd.R_drewN | apply Kd.R_drew)); exact HO128.out) hb); have n2_ := Aside0.mk (blk_below (g := gb125) (o := .cells #[.slice none 0 0, .slice none 0 0, .slice none 0 0] 26 (0, 0)) (by (with_reducible repeat (first | refine blk_drewN ?_ _ | refine blk_drew ?_ | refine blk_alloc ?_ _)); exact BK125.out) hb); have n3_ := Aside0.mk (Kept.below (S := (fun k_ => P0_ k_)) (by repeat (first | (with_reducible first | exact HK.out | apply Kept.alloc | apply Kept.drewN | apply Kept.drew | refine Kept.setCell ?_ (.inr GW125.out) _) | exact HK.out)) hb); have n4_ := Aside0.mk (below_step (by repeat (first | (with_reducible first | exact HB.out | apply below_alloc | apply pw_below_drewN | apply below_drew1 | refine below_set ?_ GE125.out) | exact HB.out)) hb); clear HO0; clear HO128; clear BK125; clear HK; clear HB; have HO0 := n0_; have HO128 := n1_; have BK125 := n2_; have HK := n3_; have HB := n4_; clear n0_ n1_ n2_ n3_ n4_; (try clear hb); (try clear hb2); (try clear hk); (try clear hi)) | ((with_reducible refine gate_callee (f := 120) rfl ?_); refine goesL_ (some 8) rfl rfl Tryd.func120 (by kernel_rfl) rfl #[.int .i64 3, .int .i64 3, .int .i64 6] rfl (by (try simp only [List.map_toArray, List.map_cons, List.map_nil]); first | done | rfl | (simp only [List.length_drop, List.length_take]; rfl)) ?_; (with_reducible refine (macadamlaw07_day.calls 3 3 6 t135 t136 t137 _ A4.out).mono ?_); rintro e w11 ⟨rfl, hb⟩; refine ⟨_, rfl, ?_⟩; have n0_ := Aside0.mk (Kd.R_below (by (with_reducible repeat (first | apply Kd.R_alloc | apply Kd.R_drewN | apply Kd.R_drew)); exact HO0.out) hb); have n1_ := Aside0.mk (Kd.R_below (by (with_reducible repeat (first | apply Kd.R_alloc | apply Kd.R_drewN | apply Kd.R_drew)); exact HO128.out) hb); have n2_ := Aside0.mk (blk_below (g := gb125) (o := .cells #[.slice none 0 0, .slice none 0 0, .slice none 0 0] 26 (0, 0)) (by (with_reducible repeat (first | refine blk_drewN ?_ _ | refine blk_drew ?_ | refine blk_alloc ?_ _)); exact BK125.out) hb); have n3_ := Aside0.mk (Kept.below (S := (fun k_ => P0_ k_)) (by repeat (first | (with_reducible first | exact HK.out | apply Kept.alloc | apply Kept.drewN | apply Kept.drew | refine Kept.setCell ?_ (.inr GW125.out) _) | exact HK.out)) hb); have n4_ := Aside0.mk (below_step (by repeat (first | (with_reducible first | exact HB.out | apply below_alloc | apply pw_below_drewN | apply below_drew1 | refine below_set ?_ GE125.out) | exact HB.out)) hb); clear HO0; clear HO128; clear BK125; clear HK; clear HB; have HO0 := n0_; have HO128 := n1_; have BK125 := n2_; have HK := n3_; have HB := n4_; clear n0_ n1_ n2_ n3_ n4_; (try clear hb); (try clear hb2); (try clear hk); (try clear hi)) | ((with_reducible refine gate_callee (f := 120) rfl ?_); refine goesL_ (some 9) rfl rfl Tryd.func120 (by kernel_rfl) rfl #[.int .i64 4, .int .i64 4, .int .i64 2] rfl (by (try simp only [List.map_toArray, List.map_cons, List.map_nil]); first | done | rfl | (simp only [List.length_drop, List.length_take]; rfl)) ?_; (with_reducible refine (macadamlaw07_day.calls 4 4 2 t138 t139 t140 _ A5.out).mono ?_); rintro e w12 ⟨rfl, hb⟩; refine ⟨_, rfl, ?_⟩; have n0_ := Aside0.mk (Kd.R_below (by (with_reducible repeat (first | apply Kd.R_alloc | apply Kd.R_drewN | apply Kd.R_drew)); exact HO0.out) hb); have n1_ := Aside0.mk (Kd.R_below (by (with_reducible repeat (first | apply Kd.R_alloc | apply Kd.R_drewN | apply Kd.R_drew)); exact HO128.out) hb); have n2_ := Aside0.mk (blk_below (g := gb125) (o := .cells #[.slice none 0 0, .slice none 0 0, .slice none 0 0] 26 (0, 0)) (by (with_reducible repeat (first | refine blk_drewN ?_ _ | refine blk_drew ?_ | refine blk_alloc ?_ _)); exact BK125.out) hb); have n3_ := Aside0.mk (Kept.below (S := (fun k_ => P0_ k_)) (by repeat (first | (with_reducible first | exact HK.out | apply Kept.alloc | apply Kept.drewN | apply Kept.drew | refine Kept.setCell ?_ (.inr GW125.out) _) | exact HK.out)) hb); have n4_ := Aside0.mk (below_step (by repeat (first | (with_reducible first | exact HB.out | apply below_alloc | apply pw_below_drewN | apply below_drew1 | refine below_set ?_ GE125.out) | exact HB.out)) hb); clear HO0; clear HO128; clear BK125; clear HK; clear HB; have HO0 := n0_; have HO128 := n1_; have BK125 := n2_; have HK := n3_; have HB := n4_; clear n0_ n1_ n2_ n3_ n4_; (try clear hb); (try clear hb2); (try clear hk); (try clear hi)) | ((with_reducible refine gate_dst (N := 10) rfl ?_); refine Kd.R_lit k90 _ 90 ?hg (N := 10) ?hd (xs := ([(⟨(⟨t129, t130⟩ : S32), t131⟩ : S90), (⟨(⟨t132, t133⟩ : S32), t134⟩ : S90), (⟨(⟨t135, t136⟩ : S32), t137⟩ : S90), (⟨(⟨t138, t139⟩ : S32), t140⟩ : S90)] : List (S90))) (inner := [.int .i64 t129, .int .i64 t130, .int .i64 t131, .int .i64 t132, .int .i64 t133, .int .i64 t134, .int .i64 t135, .int .i64 t136, .int .i64 t137, .int .i64 t138, .int .i64 t139, .int .i64 t140]) (ok := fun _ => True) (okp := fun _ => True) ?hr ?hp (fun _ hk => hk) trivial (Below.refl _ _) (Nat.le_refl _) (by simp) ?_; (case hd => rfl); (case hg => rfl); (case hr => first | (go_simp; done) | (go_simp; rfl)); (case hp => exact (Reps.c3 (show Kd.M k90 _ _ _ (⟨(⟨t129, t130⟩ : S32), t131⟩ : S90) [.int .i64 t129, .int .i64 t130, .int .i64 t131] from (k90_mkM _ _ _ (⟨(⟨t129, t130⟩ : S32), t131⟩ : S90) )) (Reps.c3 (show Kd.M k90 _ _ _ (⟨(⟨t132, t133⟩ : S32), t134⟩ : S90) [.int .i64 t132, .int .i64 t133, .int .i64 t134] from (k90_mkM _ _ _ (⟨(⟨t132, t133⟩ : S32), t134⟩ : S90) )) (Reps.c3 (show Kd.M k90 _ _ _ (⟨(⟨t135, t136⟩ : S32), t137⟩ : S90) [.int .i64 t135, .int .i64 t136, .int .i64 t137] from (k90_mkM _ _ _ (⟨(⟨t135, t136⟩ : S32), t137⟩ : S90) )) (Reps.c3 (show Kd.M k90 _ _ _ (⟨(⟨t138, t139⟩ : S32), t140⟩ : S90) [.int .i64 t138, .int .i64 t139, .int .i64 t140] from (k90_mkM _ _ _ (⟨(⟨t138, t139⟩ : S32), t140⟩ : S90) )) (Reps.none _ _)))))); intro v142 w13 ho14 hb hg_ hnew_; clear hg_ hnew_; (first | rw [← Ny141.out] at ho14 | (simp only [Int.reduceToNat] at ho14; rw [← Ny141.out] at ho14)); have n0_ := Aside0.mk (Kd.R_below (by (with_reducible repeat (first | apply Kd.R_alloc | apply Kd.R_drewN | apply Kd.R_drew)); exact HO0.out) hb); have n1_ := Aside0.mk (Kd.R_below (by (with_reducible repeat (first | apply Kd.R_alloc | apply Kd.R_drewN | apply Kd.R_drew)); exact HO128.out) hb); have n2_ := Aside0.mk (Kd.R_lower (Kd.R_newM (M := fun k_ => (P0_ k_ ∨ w.heap.size ≤ k_)) ho14 (by first | exact HK.out.1 | exact (show Kept w _ (fun k_ => P0_ k_) from by repeat (first | (with_reducible first | exact HK.out | apply Kept.alloc | apply Kept.drewN | apply Kept.drew | refine Kept.setCell ?_ (.inr GW125.out) _) | exact HK.out)).1) (fun k_ h_ => .inr h_)) (below_size (by repeat (first | (with_reducible first | exact HB.out | apply below_alloc | apply pw_below_drewN | apply below_drew1 | refine below_set ?_ GE125.out) | exact HB.out)))); have n3_ := Aside0.mk (blk_below (g := gb125) (o := .cells #[.slice none 0 0, .slice none 0 0, .slice none 0 0] 26 (0, 0)) (by (with_reducible repeat (first | refine blk_drewN ?_ _ | refine blk_drew ?_ | refine blk_alloc ?_ _)); exact BK125.out) hb); have n4_ := Aside0.mk (Kept.below (S := (fun k_ => P0_ k_)) (by repeat (first | (with_reducible first | exact HK.out | apply Kept.alloc | apply Kept.drewN | apply Kept.drew | refine Kept.setCell ?_ (.inr GW125.out) _) | exact HK.out)) hb); have n5_ := Aside0.mk (below_step (by repeat (first | (with_reducible first | exact HB.out | apply below_alloc | apply pw_below_drewN | apply below_drew1 | refine below_set ?_ GE125.out) | exact HB.out)) hb); clear HO0; clear HO128; clear BK125; clear HK; clear HB; have HO0 := n0_; have HO128 := n1_; have HO143 := n2_; have BK125 := n3_; have HK := n4_; have HB := n5_; clear n0_ n1_ n2_ n3_ n4_ n5_; clear hb ho14; obtain ⟨Ao15, co15, eo15⟩ := Kd.R_slice HO0.out; subst eo15; obtain ⟨Ao16, co16, eo16⟩ := Kd.R_slice HO143.out; subst eo16; obtain ⟨Ao17, co17, eo17⟩ := Kd.R_slice HO128.out; subst eo17; have hcz18_0 : w13.cell? ⟨gb125, 0, none⟩ = some (.slice none 0 0) := (blk_cell BK125.out 0).trans rfl; have hcz18_1 : w13.cell? ⟨gb125, 1, none⟩ = some (.slice none 0 0) := (blk_cell BK125.out 1).trans rfl; have hcz18_2 : w13.cell? ⟨gb125, 2, none⟩ = some (.slice none 0 0) := (blk_cell BK125.out 2).trans rfl; have hfz18_0 := blk_frozen BK125.out 0; have hfz18_1 := blk_frozen BK125.out 1; have hfz18_2 := blk_frozen BK125.out 2))
  refine bodyPost_ret (results_cell_row rfl _ _ gb125 26 #[.slice Ao17 y126.length co17, .slice Ao16 y141.length co16, .slice Ao15 l0.length co15] (0, 0) _ rfl (by (with_reducible repeat (first | refine blk_drewN ?_ _ | refine blk_drew ?_ | refine blk_alloc ?_ _)); refine blk_put (cs := #[.slice Ao17 y126.length co17, .slice Ao16 y141.length co16, .slice none 0 0]) ?_ 2 _ rfl; (with_reducible repeat (first | refine blk_drewN ?_ _ | refine blk_drew ?_ | refine blk_alloc ?_ _)); refine blk_put (cs := #[.slice Ao17 y126.length co17, .slice none 0 0, .slice none 0 0]) ?_ 1 _ rfl; (with_reducible repeat (first | refine blk_drewN ?_ _ | refine blk_drew ?_ | refine blk_alloc ?_ _)); refine blk_put (cs := #[.slice none 0 0, .slice none 0 0, .slice none 0 0]) ?_ 0 _ rfl; (with_reducible repeat (first | refine blk_drewN ?_ _ | refine blk_drew ?_ | refine blk_alloc ?_ _)); exact BK125.out) Tryd.underlying26 rfl (by kernel_rfl)) rfl ?_
  exact ⟨_, _, _, by first | rfl | exact congrArg (fun b_ => Ending.returned (.bool b_)) HT.out | (simp [errW_none, errW_some] <;> rfl) | (simp [*, errW_none, errW_some] <;> rfl), by (with_reducible repeat (first | apply Kd.R_alloc | apply Kd.R_drewN | apply Kd.R_drew)); exact Kd.R_mono (Kd.R_far (p := ⟨gb125, 2, none⟩) (Kd.R_far (p := ⟨gb125, 1, none⟩) (Kd.R_far (p := ⟨gb125, 0, none⟩) (Kd.R_types HO128.out BK125.out (by decide)) (fun _ hk => hk.2) (.slice Ao17 y126.length co17)) (fun _ hk => hk.2) (.slice Ao16 y141.length co16)) (fun _ hk => hk.2) (.slice Ao15 l0.length co15)) (fun _ hk => hk.1.1), by (with_reducible repeat (first | apply Kd.R_alloc | apply Kd.R_drewN | apply Kd.R_drew)); exact Kd.R_mono (Kd.R_far (p := ⟨gb125, 2, none⟩) (Kd.R_far (p := ⟨gb125, 1, none⟩) (Kd.R_far (p := ⟨gb125, 0, none⟩) (Kd.R_types HO143.out BK125.out (by decide)) (fun _ hk => hk.2) (.slice Ao17 y126.length co17)) (fun _ hk => hk.2) (.slice Ao16 y141.length co16)) (fun _ hk => hk.2) (.slice Ao15 l0.length co15)) (fun _ hk => hk.1.1), by (with_reducible repeat (first | apply Kd.R_alloc | apply Kd.R_drewN | apply Kd.R_drew)); exact Kd.R_mono (Kd.R_far (p := ⟨gb125, 2, none⟩) (Kd.R_far (p := ⟨gb125, 1, none⟩) (Kd.R_far (p := ⟨gb125, 0, none⟩) (Kd.R_types HO0.out BK125.out (by decide)) (fun _ hk => hk.2) (.slice Ao17 y126.length co17)) (fun _ hk => hk.2) (.slice Ao16 y141.length co16)) (fun _ hk => hk.2) (.slice Ao15 l0.length co15)) (fun _ hk => hk.1), by repeat (first | (with_reducible first | exact HB.out | apply below_alloc | apply pw_below_drewN | apply below_drew1 | refine below_set ?_ GE125.out) | exact HB.out), by repeat (first | (with_reducible first | exact HK.out | apply Kept.alloc | apply Kept.drewN | apply Kept.drew | refine Kept.setCell ?_ (.inr GW125.out) _) | exact HK.out)⟩
def macadamlaw07_own.f  : Option ((List (S92)) × (List (S90)) × (List (S43))) := (macadamlaw07_book.f ([] : List (S43))).bind fun bt145 => (some (bt145.1, bt145.2.1, bt145.2.2))
set_option maxHeartbeats 8000000 in
set_option maxRecDepth 100000 in
theorem macadamlaw07_own.calls  (r1 : List (S92)) (r2 : List (S90)) (r3 : List (S43)) (w : World) (h : macadamlaw07_own.f  = some (r1, r2, r3)) :
    Calls Tryd.prog 70 #[] w fun e w' => ∃ v0_ v1_ v2_ : Value, e = .returned (.agg #[v0_, v1_, v2_]) ∧ Kd.R k92 92 w' w.heap.size (fun _ => True) v0_ r1 ∧ Kd.R k90 90 w' w.heap.size (fun _ => True) v1_ r2 ∧ Kd.R k43 43 w' w.heap.size (fun _ => True) v2_ r3 ∧ Below w.heap.size w w' := by
  have hu26 := Tryd.underlying26
  have HB := Aside0.mk (Below.refl w.heap.size w)
  have H : ((macadamlaw07_book.f ([] : List (S43))).bind fun bt145 => (some (bt145.1, bt145.2.1, bt145.2.2))) = some (r1, r2, r3) := h
  clear h
  replace H := Option.bind_eq_some_iff.mp H
  obtain ⟨⟨t145, t148, t151⟩, A10, H⟩ := H
  replace H : (some (t145, t148, t151)) = some (r1, r2, r3) := H
  have A1 := Aside0.mk A10
  clear A10
  simp only [Option.some.injEq, Prod.mk.injEq] at H
  obtain ⟨rfl, rfl, rfl⟩ := H
  go_enter Tryd.func70, Tryd.ntmps70
  go_wp2_with (first | ((with_reducible refine gate_dst (N := 0) rfl ?_); refine box_event ?hg (N := 0) ?hd (cs := #[.slice none 0 0, .slice none 0 0, .slice none 0 0]) (t := 26) ?hr ?_; (case hd => rfl); (case hg => rfl); (case hr => first | (go_simp; done) | (go_simp; rfl)); intro gb144 hg w2 hbox hb; have n0_ := Aside0.mk (below_step (by repeat (first | (with_reducible first | exact HB.out | apply below_alloc | apply pw_below_drewN | apply below_drew1) | exact HB.out)) hb); have n1_ := Aside0.mk (hbox); have n2_ := Aside0.mk ((by rw [hg]; exact (below_size (by repeat (first | (with_reducible first | exact HB.out | apply below_alloc | apply pw_below_drewN | apply below_drew1) | exact HB.out))) : w.heap.size ≤ gb144)); have n3_ := Aside0.mk ((by rw [hg]; exact (below_size (by repeat (first | (with_reducible first | exact HB.out | apply below_alloc | apply pw_below_drewN | apply below_drew1) | exact HB.out))) : w.heap.size ≤ gb144)); clear HB; have HB := n0_; have BK144 := n1_; have GW144 := n2_; have GE144 := n3_; clear n0_ n1_ n2_ n3_; clear hb hbox hg) | ((with_reducible refine gate_callee (f := 71) rfl ?_); refine goesL_ (some 1) rfl rfl Tryd.func71 (by kernel_rfl) rfl #[.slice none 0 0] rfl (by (try simp only [List.map_toArray, List.map_cons, List.map_nil]); first | done | rfl | (simp only [List.length_drop, List.length_take]; rfl)) ?_; (refine (macadamlaw07_book.calls (fun k_ => some k_ = (.slice none 0 0 : Value).ownBlock) (.slice none 0 0) ([] : List (S43)) t145 t148 t151 w _ ?side1 ?side2 A1.out).mono ?_); (case side1 => repeat (first | (with_reducible first | exact HB.out | apply below_alloc | apply pw_below_drewN | apply below_drew1 | refine below_set ?_ GE144.out) | exact HB.out)); (case side2 => exact Kd.R_nil _ _ _ _ _); rintro e w3 ⟨v146, v149, v152, rfl, ho0, ho1, ho2, hb, hkp⟩; refine ⟨_, rfl, ?_⟩; have n0_ := Aside0.mk (blk_kept (by (with_reducible repeat (first | refine blk_drewN ?_ _ | refine blk_drew ?_ | refine blk_alloc ?_ _)); exact BK144.out) hkp (fun hs_ => (fun e_ => by simp [Value.ownBlock] at e_) hs_)); have n1_ := Aside0.mk (Kd.R_mono (ok' := fun k_ => True) ho0 (fun k_ hk_ => trivial)); have n2_ := Aside0.mk (Kd.R_mono (ok' := fun k_ => True) ho1 (fun k_ hk_ => trivial)); have n3_ := Aside0.mk (Kd.R_mono (ok' := fun k_ => True) ho2 (fun k_ hk_ => trivial)); have n4_ := Aside0.mk (hb); clear BK144; clear HB; have BK144 := n0_; have HO147 := n1_; have HO150 := n2_; have HO153 := n3_; have HB := n4_; clear n0_ n1_ n2_ n3_ n4_; (try clear hb); (try clear hkp); (try clear ho0); (try clear ho1); (try clear ho2); obtain ⟨Ao4, co4, eo4⟩ := Kd.R_slice HO147.out; subst eo4; have hcz5_0 : w3.cell? ⟨gb144, 0, none⟩ = some (.slice none 0 0) := (blk_cell BK144.out 0).trans rfl; have hcz5_1 : w3.cell? ⟨gb144, 1, none⟩ = some (.slice none 0 0) := (blk_cell BK144.out 1).trans rfl; have hcz5_2 : w3.cell? ⟨gb144, 2, none⟩ = some (.slice none 0 0) := (blk_cell BK144.out 2).trans rfl; have hfz5_0 := blk_frozen BK144.out 0; have hfz5_1 := blk_frozen BK144.out 1; have hfz5_2 := blk_frozen BK144.out 2; obtain ⟨Ao6, co6, eo6⟩ := Kd.R_slice HO150.out; subst eo6; obtain ⟨Ao7, co7, eo7⟩ := Kd.R_slice HO153.out; subst eo7))
  refine bodyPost_ret (results_cell_row rfl _ _ gb144 26 #[.slice Ao4 t145.length co4, .slice Ao6 t148.length co6, .slice Ao7 t151.length co7] (0, 0) _ rfl (by (with_reducible repeat (first | refine blk_drewN ?_ _ | refine blk_drew ?_ | refine blk_alloc ?_ _)); refine blk_put (cs := #[.slice Ao4 t145.length co4, .slice Ao6 t148.length co6, .slice none 0 0]) ?_ 2 _ rfl; (with_reducible repeat (first | refine blk_drewN ?_ _ | refine blk_drew ?_ | refine blk_alloc ?_ _)); refine blk_put (cs := #[.slice Ao4 t145.length co4, .slice none 0 0, .slice none 0 0]) ?_ 1 _ rfl; (with_reducible repeat (first | refine blk_drewN ?_ _ | refine blk_drew ?_ | refine blk_alloc ?_ _)); refine blk_put (cs := #[.slice none 0 0, .slice none 0 0, .slice none 0 0]) ?_ 0 _ rfl; (with_reducible repeat (first | refine blk_drewN ?_ _ | refine blk_drew ?_ | refine blk_alloc ?_ _)); exact BK144.out) Tryd.underlying26 rfl (by kernel_rfl)) rfl ?_
  exact ⟨_, _, _, by first | rfl | exact congrArg (fun b_ => Ending.returned (.bool b_)) HT.out | (simp [errW_none, errW_some] <;> rfl) | (simp [*, errW_none, errW_some] <;> rfl), by (with_reducible repeat (first | apply Kd.R_alloc | apply Kd.R_drewN | apply Kd.R_drew)); exact Kd.R_mono (Kd.R_far (p := ⟨gb144, 2, none⟩) (Kd.R_far (p := ⟨gb144, 1, none⟩) (Kd.R_far (p := ⟨gb144, 0, none⟩) (Kd.R_types HO147.out BK144.out (by decide)) (fun _ hk => hk.2) (.slice Ao4 t145.length co4)) (fun _ hk => hk.2) (.slice Ao6 t148.length co6)) (fun _ hk => hk.2) (.slice Ao7 t151.length co7)) (fun _ hk => trivial), by (with_reducible repeat (first | apply Kd.R_alloc | apply Kd.R_drewN | apply Kd.R_drew)); exact Kd.R_mono (Kd.R_far (p := ⟨gb144, 2, none⟩) (Kd.R_far (p := ⟨gb144, 1, none⟩) (Kd.R_far (p := ⟨gb144, 0, none⟩) (Kd.R_types HO150.out BK144.out (by decide)) (fun _ hk => hk.2) (.slice Ao4 t145.length co4)) (fun _ hk => hk.2) (.slice Ao6 t148.length co6)) (fun _ hk => hk.2) (.slice Ao7 t151.length co7)) (fun _ hk => trivial), by (with_reducible repeat (first | apply Kd.R_alloc | apply Kd.R_drewN | apply Kd.R_drew)); exact Kd.R_mono (Kd.R_far (p := ⟨gb144, 2, none⟩) (Kd.R_far (p := ⟨gb144, 1, none⟩) (Kd.R_far (p := ⟨gb144, 0, none⟩) (Kd.R_types HO153.out BK144.out (by decide)) (fun _ hk => hk.2) (.slice Ao4 t145.length co4)) (fun _ hk => hk.2) (.slice Ao6 t148.length co6)) (fun _ hk => hk.2) (.slice Ao7 t151.length co7)) (fun _ hk => trivial), by repeat (first | (with_reducible first | exact HB.out | apply below_alloc | apply pw_below_drewN | apply below_drew1 | refine below_set ?_ GE144.out) | exact HB.out)⟩
def macadamlaw07_early.f  : Option ((List (S92)) × (List (S90)) × (List (S43))) := (macadamlaw07_book.f (([(⟨1, 1⟩ : S43)] : List (S43)))).bind fun bt158 => (some (bt158.1, bt158.2.1, bt158.2.2))
set_option maxHeartbeats 8000000 in
set_option maxRecDepth 100000 in
theorem macadamlaw07_early.calls  (r1 : List (S92)) (r2 : List (S90)) (r3 : List (S43)) (w : World) (h : macadamlaw07_early.f  = some (r1, r2, r3)) :
    Calls Tryd.prog 74 #[] w fun e w' => ∃ v0_ v1_ v2_ : Value, e = .returned (.agg #[v0_, v1_, v2_]) ∧ Kd.R k92 92 w' w.heap.size (fun _ => True) v0_ r1 ∧ Kd.R k90 90 w' w.heap.size (fun _ => True) v1_ r2 ∧ Kd.R k43 43 w' w.heap.size (fun _ => True) v2_ r3 ∧ Below w.heap.size w w' := by
  have hu26 := Tryd.underlying26
  have hu43 := Tryd.underlying43
  have HB := Aside0.mk (Below.refl w.heap.size w)
  have H : ((macadamlaw07_book.f (([(⟨1, 1⟩ : S43)] : List (S43)))).bind fun bt158 => (some (bt158.1, bt158.2.1, bt158.2.2))) = some (r1, r2, r3) := h
  clear h
  obtain ⟨y155, hy155⟩ : ∃ y_ : List (S43), y_ = (([(⟨1, 1⟩ : S43)] : List (S43))) := ⟨_, rfl⟩
  replace H : ((macadamlaw07_book.f y155).bind fun bt158 => (some (bt158.1, bt158.2.1, bt158.2.2))) = some (r1, r2, r3) := by first | (rw [hy155]; with_reducible exact H) | (have H2_ := (Option.bind_some _ _).symm.trans H; rw [hy155]; with_reducible exact H2_) | (have H2_ := (Option.bind_some _ _).symm.trans H; with_reducible exact H2_) | with_reducible exact H | (rw [hy155]; exact H) | exact H
  have Ny155 := Aside0.mk hy155
  clear hy155
  replace H := Option.bind_eq_some_iff.mp H
  obtain ⟨⟨t158, t161, t164⟩, A10, H⟩ := H
  replace H : (some (t158, t161, t164)) = some (r1, r2, r3) := H
  have A1 := Aside0.mk A10
  clear A10
  simp only [Option.some.injEq, Prod.mk.injEq] at H
  obtain ⟨rfl, rfl, rfl⟩ := H
  go_enter Tryd.func74, Tryd.ntmps74
  go_wp2_with (first | ((with_reducible refine gate_dst (N := 0) rfl ?_); refine box_event ?hg (N := 0) ?hd (cs := #[.slice none 0 0, .slice none 0 0, .slice none 0 0]) (t := 26) ?hr ?_; (case hd => rfl); (case hg => rfl); (case hr => first | (go_simp; done) | (go_simp; rfl)); intro gb154 hg w2 hbox hb; have n0_ := Aside0.mk (below_step (by repeat (first | (with_reducible first | exact HB.out | apply below_alloc | apply pw_below_drewN | apply below_drew1) | exact HB.out)) hb); have n1_ := Aside0.mk (hbox); have n2_ := Aside0.mk ((by rw [hg]; exact (below_size (by repeat (first | (with_reducible first | exact HB.out | apply below_alloc | apply pw_below_drewN | apply below_drew1) | exact HB.out))) : w.heap.size ≤ gb154)); have n3_ := Aside0.mk ((by rw [hg]; exact (below_size (by repeat (first | (with_reducible first | exact HB.out | apply below_alloc | apply pw_below_drewN | apply below_drew1) | exact HB.out))) : w.heap.size ≤ gb154)); clear HB; have HB := n0_; have BK154 := n1_; have GW154 := n2_; have GE154 := n3_; clear n0_ n1_ n2_ n3_; clear hb hbox hg) | ((with_reducible refine gate_dst (N := 2) rfl ?_); refine Kd.R_lit k43 _ 43 ?hg (N := 2) ?hd (xs := ([(⟨1, 1⟩ : S43)] : List (S43))) (inner := [.int .i64 1, .int .i64 1]) (ok := fun _ => True) (okp := fun _ => True) ?hr ?hp (fun _ hk => hk) trivial (Below.refl _ _) (Nat.le_refl _) (by simp) ?_; (case hd => rfl); (case hg => rfl); (case hr => first | (go_simp; done) | (go_simp; rfl)); (case hp => exact (Reps.c2 (show Kd.M k43 _ _ _ (⟨1, 1⟩ : S43) [.int .i64 1, .int .i64 1] from (k43_mkM _ _ _ (⟨1, 1⟩ : S43) )) (Reps.none _ _))); intro v156 w3 ho4 hb hg_ hnew_; clear hg_ hnew_; (first | rw [← Ny155.out] at ho4 | (simp only [Int.reduceToNat] at ho4; rw [← Ny155.out] at ho4)); have n0_ := Aside0.mk (Kd.R_lower ho4 (below_size (by repeat (first | (with_reducible first | exact HB.out | apply below_alloc | apply pw_below_drewN | apply below_drew1 | refine below_set ?_ GE154.out) | exact HB.out)))); have n1_ := Aside0.mk (blk_below (g := gb154) (o := .cells #[.slice none 0 0, .slice none 0 0, .slice none 0 0] 26 (0, 0)) (by (with_reducible repeat (first | refine blk_drewN ?_ _ | refine blk_drew ?_ | refine blk_alloc ?_ _)); exact BK154.out) hb); have n2_ := Aside0.mk (below_step (by repeat (first | (with_reducible first | exact HB.out | apply below_alloc | apply pw_below_drewN | apply below_drew1 | refine below_set ?_ GE154.out) | exact HB.out)) hb); clear BK154; clear HB; have HO157 := n0_; have BK154 := n1_; have HB := n2_; clear n0_ n1_ n2_; clear hb ho4; obtain ⟨Ao5, co5, eo5⟩ := Kd.R_slice HO157.out; subst eo5) | ((with_reducible refine gate_callee (f := 71) rfl ?_); refine goesL_ (some 3) rfl rfl Tryd.func71 (by kernel_rfl) rfl #[.slice Ao5 y155.length co5] rfl (by (try simp only [List.map_toArray, List.map_cons, List.map_nil]); first | done | rfl | (simp only [List.length_drop, List.length_take]; rfl)) ?_; (with_reducible refine (macadamlaw07_book.calls (fun k_ => some k_ = (.slice Ao5 y155.length co5 : Value).ownBlock) (.slice Ao5 y155.length co5) y155 t158 t161 t164 w _ ?side1 ?side2 A1.out).mono ?_); (case side1 => repeat (first | (with_reducible first | exact HB.out | apply below_alloc | apply pw_below_drewN | apply below_drew1 | refine below_set ?_ GE154.out) | exact HB.out)); (case side2 => exact Kd.R_tight rfl HO157.out); rintro e w6 ⟨v159, v162, v165, rfl, ho0, ho1, ho2, hb, hkp⟩; refine ⟨_, rfl, ?_⟩; have n0_ := Aside0.mk (blk_kept (by (with_reducible repeat (first | refine blk_drewN ?_ _ | refine blk_drew ?_ | refine blk_alloc ?_ _)); exact BK154.out) hkp (fun hs_ => (fun e_ => (Kd.R_ne HO157.out BK154.out (by decide)) e_) hs_)); have n1_ := Aside0.mk (Kd.R_mono (ok' := fun k_ => True) ho0 (fun k_ hk_ => trivial)); have n2_ := Aside0.mk (Kd.R_mono (ok' := fun k_ => True) ho1 (fun k_ hk_ => trivial)); have n3_ := Aside0.mk (Kd.R_mono (ok' := fun k_ => True) ho2 (fun k_ hk_ => trivial)); have n4_ := Aside0.mk (hb); clear BK154; clear HB; clear HO157; have BK154 := n0_; have HO160 := n1_; have HO163 := n2_; have HO166 := n3_; have HB := n4_; clear n0_ n1_ n2_ n3_ n4_; (try clear hb); (try clear hkp); (try clear ho0); (try clear ho1); (try clear ho2); obtain ⟨Ao7, co7, eo7⟩ := Kd.R_slice HO160.out; subst eo7; have hcz8_0 : w6.cell? ⟨gb154, 0, none⟩ = some (.slice none 0 0) := (blk_cell BK154.out 0).trans rfl; have hcz8_1 : w6.cell? ⟨gb154, 1, none⟩ = some (.slice none 0 0) := (blk_cell BK154.out 1).trans rfl; have hcz8_2 : w6.cell? ⟨gb154, 2, none⟩ = some (.slice none 0 0) := (blk_cell BK154.out 2).trans rfl; have hfz8_0 := blk_frozen BK154.out 0; have hfz8_1 := blk_frozen BK154.out 1; have hfz8_2 := blk_frozen BK154.out 2; obtain ⟨Ao9, co9, eo9⟩ := Kd.R_slice HO163.out; subst eo9; obtain ⟨Ao10, co10, eo10⟩ := Kd.R_slice HO166.out; subst eo10))
  refine bodyPost_ret (results_cell_row rfl _ _ gb154 26 #[.slice Ao7 t158.length co7, .slice Ao9 t161.length co9, .slice Ao10 t164.length co10] (0, 0) _ rfl (by (with_reducible repeat (first | refine blk_drewN ?_ _ | refine blk_drew ?_ | refine blk_alloc ?_ _)); refine blk_put (cs := #[.slice Ao7 t158.length co7, .slice Ao9 t161.length co9, .slice none 0 0]) ?_ 2 _ rfl; (with_reducible repeat (first | refine blk_drewN ?_ _ | refine blk_drew ?_ | refine blk_alloc ?_ _)); refine blk_put (cs := #[.slice Ao7 t158.length co7, .slice none 0 0, .slice none 0 0]) ?_ 1 _ rfl; (with_reducible repeat (first | refine blk_drewN ?_ _ | refine blk_drew ?_ | refine blk_alloc ?_ _)); refine blk_put (cs := #[.slice none 0 0, .slice none 0 0, .slice none 0 0]) ?_ 0 _ rfl; (with_reducible repeat (first | refine blk_drewN ?_ _ | refine blk_drew ?_ | refine blk_alloc ?_ _)); exact BK154.out) Tryd.underlying26 rfl (by kernel_rfl)) rfl ?_
  exact ⟨_, _, _, by first | rfl | exact congrArg (fun b_ => Ending.returned (.bool b_)) HT.out | (simp [errW_none, errW_some] <;> rfl) | (simp [*, errW_none, errW_some] <;> rfl), by (with_reducible repeat (first | apply Kd.R_alloc | apply Kd.R_drewN | apply Kd.R_drew)); exact Kd.R_mono (Kd.R_far (p := ⟨gb154, 2, none⟩) (Kd.R_far (p := ⟨gb154, 1, none⟩) (Kd.R_far (p := ⟨gb154, 0, none⟩) (Kd.R_types HO160.out BK154.out (by decide)) (fun _ hk => hk.2) (.slice Ao7 t158.length co7)) (fun _ hk => hk.2) (.slice Ao9 t161.length co9)) (fun _ hk => hk.2) (.slice Ao10 t164.length co10)) (fun _ hk => trivial), by (with_reducible repeat (first | apply Kd.R_alloc | apply Kd.R_drewN | apply Kd.R_drew)); exact Kd.R_mono (Kd.R_far (p := ⟨gb154, 2, none⟩) (Kd.R_far (p := ⟨gb154, 1, none⟩) (Kd.R_far (p := ⟨gb154, 0, none⟩) (Kd.R_types HO163.out BK154.out (by decide)) (fun _ hk => hk.2) (.slice Ao7 t158.length co7)) (fun _ hk => hk.2) (.slice Ao9 t161.length co9)) (fun _ hk => hk.2) (.slice Ao10 t164.length co10)) (fun _ hk => trivial), by (with_reducible repeat (first | apply Kd.R_alloc | apply Kd.R_drewN | apply Kd.R_drew)); exact Kd.R_mono (Kd.R_far (p := ⟨gb154, 2, none⟩) (Kd.R_far (p := ⟨gb154, 1, none⟩) (Kd.R_far (p := ⟨gb154, 0, none⟩) (Kd.R_types HO166.out BK154.out (by decide)) (fun _ hk => hk.2) (.slice Ao7 t158.length co7)) (fun _ hk => hk.2) (.slice Ao9 t161.length co9)) (fun _ hk => hk.2) (.slice Ao10 t164.length co10)) (fun _ hk => trivial), by repeat (first | (with_reducible first | exact HB.out | apply below_alloc | apply pw_below_drewN | apply below_drew1 | refine below_set ?_ GE154.out) | exact HB.out)⟩
def macadamlaw07_late.f  : Option ((List (S92)) × (List (S90)) × (List (S43))) := (macadamlaw07_book.f (([(⟨2, 0⟩ : S43)] : List (S43)))).bind fun bt171 => (some (bt171.1, bt171.2.1, bt171.2.2))
set_option maxHeartbeats 8000000 in
set_option maxRecDepth 100000 in
theorem macadamlaw07_late.calls  (r1 : List (S92)) (r2 : List (S90)) (r3 : List (S43)) (w : World) (h : macadamlaw07_late.f  = some (r1, r2, r3)) :
    Calls Tryd.prog 73 #[] w fun e w' => ∃ v0_ v1_ v2_ : Value, e = .returned (.agg #[v0_, v1_, v2_]) ∧ Kd.R k92 92 w' w.heap.size (fun _ => True) v0_ r1 ∧ Kd.R k90 90 w' w.heap.size (fun _ => True) v1_ r2 ∧ Kd.R k43 43 w' w.heap.size (fun _ => True) v2_ r3 ∧ Below w.heap.size w w' := by
  have hu26 := Tryd.underlying26
  have hu43 := Tryd.underlying43
  have HB := Aside0.mk (Below.refl w.heap.size w)
  have H : ((macadamlaw07_book.f (([(⟨2, 0⟩ : S43)] : List (S43)))).bind fun bt171 => (some (bt171.1, bt171.2.1, bt171.2.2))) = some (r1, r2, r3) := h
  clear h
  obtain ⟨y168, hy168⟩ : ∃ y_ : List (S43), y_ = (([(⟨2, 0⟩ : S43)] : List (S43))) := ⟨_, rfl⟩
  replace H : ((macadamlaw07_book.f y168).bind fun bt171 => (some (bt171.1, bt171.2.1, bt171.2.2))) = some (r1, r2, r3) := by first | (rw [hy168]; with_reducible exact H) | (have H2_ := (Option.bind_some _ _).symm.trans H; rw [hy168]; with_reducible exact H2_) | (have H2_ := (Option.bind_some _ _).symm.trans H; with_reducible exact H2_) | with_reducible exact H | (rw [hy168]; exact H) | exact H
  have Ny168 := Aside0.mk hy168
  clear hy168
  replace H := Option.bind_eq_some_iff.mp H
  obtain ⟨⟨t171, t174, t177⟩, A10, H⟩ := H
  replace H : (some (t171, t174, t177)) = some (r1, r2, r3) := H
  have A1 := Aside0.mk A10
  clear A10
  simp only [Option.some.injEq, Prod.mk.injEq] at H
  obtain ⟨rfl, rfl, rfl⟩ := H
  go_enter Tryd.func73, Tryd.ntmps73
  go_wp2_with (first | ((with_reducible refine gate_dst (N := 0) rfl ?_); refine box_event ?hg (N := 0) ?hd (cs := #[.slice none 0 0, .slice none 0 0, .slice none 0 0]) (t := 26) ?hr ?_; (case hd => rfl); (case hg => rfl); (case hr => first | (go_simp; done) | (go_simp; rfl)); intro gb167 hg w2 hbox hb; have n0_ := Aside0.mk (below_step (by repeat (first | (with_reducible first | exact HB.out | apply below_alloc | apply pw_below_drewN | apply below_drew1) | exact HB.out)) hb); have n1_ := Aside0.mk (hbox); have n2_ := Aside0.mk ((by rw [hg]; exact (below_size (by repeat (first | (with_reducible first | exact HB.out | apply below_alloc | apply pw_below_drewN | apply below_drew1) | exact HB.out))) : w.heap.size ≤ gb167)); have n3_ := Aside0.mk ((by rw [hg]; exact (below_size (by repeat (first | (with_reducible first | exact HB.out | apply below_alloc | apply pw_below_drewN | apply below_drew1) | exact HB.out))) : w.heap.size ≤ gb167)); clear HB; have HB := n0_; have BK167 := n1_; have GW167 := n2_; have GE167 := n3_; clear n0_ n1_ n2_ n3_; clear hb hbox hg) | ((with_reducible refine gate_dst (N := 2) rfl ?_); refine Kd.R_lit k43 _ 43 ?hg (N := 2) ?hd (xs := ([(⟨2, 0⟩ : S43)] : List (S43))) (inner := [.int .i64 2, .int .i64 0]) (ok := fun _ => True) (okp := fun _ => True) ?hr ?hp (fun _ hk => hk) trivial (Below.refl _ _) (Nat.le_refl _) (by simp) ?_; (case hd => rfl); (case hg => rfl); (case hr => first | (go_simp; done) | (go_simp; rfl)); (case hp => exact (Reps.c2 (show Kd.M k43 _ _ _ (⟨2, 0⟩ : S43) [.int .i64 2, .int .i64 0] from (k43_mkM _ _ _ (⟨2, 0⟩ : S43) )) (Reps.none _ _))); intro v169 w3 ho4 hb hg_ hnew_; clear hg_ hnew_; (first | rw [← Ny168.out] at ho4 | (simp only [Int.reduceToNat] at ho4; rw [← Ny168.out] at ho4)); have n0_ := Aside0.mk (Kd.R_lower ho4 (below_size (by repeat (first | (with_reducible first | exact HB.out | apply below_alloc | apply pw_below_drewN | apply below_drew1 | refine below_set ?_ GE167.out) | exact HB.out)))); have n1_ := Aside0.mk (blk_below (g := gb167) (o := .cells #[.slice none 0 0, .slice none 0 0, .slice none 0 0] 26 (0, 0)) (by (with_reducible repeat (first | refine blk_drewN ?_ _ | refine blk_drew ?_ | refine blk_alloc ?_ _)); exact BK167.out) hb); have n2_ := Aside0.mk (below_step (by repeat (first | (with_reducible first | exact HB.out | apply below_alloc | apply pw_below_drewN | apply below_drew1 | refine below_set ?_ GE167.out) | exact HB.out)) hb); clear BK167; clear HB; have HO170 := n0_; have BK167 := n1_; have HB := n2_; clear n0_ n1_ n2_; clear hb ho4; obtain ⟨Ao5, co5, eo5⟩ := Kd.R_slice HO170.out; subst eo5) | ((with_reducible refine gate_callee (f := 71) rfl ?_); refine goesL_ (some 3) rfl rfl Tryd.func71 (by kernel_rfl) rfl #[.slice Ao5 y168.length co5] rfl (by (try simp only [List.map_toArray, List.map_cons, List.map_nil]); first | done | rfl | (simp only [List.length_drop, List.length_take]; rfl)) ?_; (with_reducible refine (macadamlaw07_book.calls (fun k_ => some k_ = (.slice Ao5 y168.length co5 : Value).ownBlock) (.slice Ao5 y168.length co5) y168 t171 t174 t177 w _ ?side1 ?side2 A1.out).mono ?_); (case side1 => repeat (first | (with_reducible first | exact HB.out | apply below_alloc | apply pw_below_drewN | apply below_drew1 | refine below_set ?_ GE167.out) | exact HB.out)); (case side2 => exact Kd.R_tight rfl HO170.out); rintro e w6 ⟨v172, v175, v178, rfl, ho0, ho1, ho2, hb, hkp⟩; refine ⟨_, rfl, ?_⟩; have n0_ := Aside0.mk (blk_kept (by (with_reducible repeat (first | refine blk_drewN ?_ _ | refine blk_drew ?_ | refine blk_alloc ?_ _)); exact BK167.out) hkp (fun hs_ => (fun e_ => (Kd.R_ne HO170.out BK167.out (by decide)) e_) hs_)); have n1_ := Aside0.mk (Kd.R_mono (ok' := fun k_ => True) ho0 (fun k_ hk_ => trivial)); have n2_ := Aside0.mk (Kd.R_mono (ok' := fun k_ => True) ho1 (fun k_ hk_ => trivial)); have n3_ := Aside0.mk (Kd.R_mono (ok' := fun k_ => True) ho2 (fun k_ hk_ => trivial)); have n4_ := Aside0.mk (hb); clear BK167; clear HB; clear HO170; have BK167 := n0_; have HO173 := n1_; have HO176 := n2_; have HO179 := n3_; have HB := n4_; clear n0_ n1_ n2_ n3_ n4_; (try clear hb); (try clear hkp); (try clear ho0); (try clear ho1); (try clear ho2); obtain ⟨Ao7, co7, eo7⟩ := Kd.R_slice HO173.out; subst eo7; have hcz8_0 : w6.cell? ⟨gb167, 0, none⟩ = some (.slice none 0 0) := (blk_cell BK167.out 0).trans rfl; have hcz8_1 : w6.cell? ⟨gb167, 1, none⟩ = some (.slice none 0 0) := (blk_cell BK167.out 1).trans rfl; have hcz8_2 : w6.cell? ⟨gb167, 2, none⟩ = some (.slice none 0 0) := (blk_cell BK167.out 2).trans rfl; have hfz8_0 := blk_frozen BK167.out 0; have hfz8_1 := blk_frozen BK167.out 1; have hfz8_2 := blk_frozen BK167.out 2; obtain ⟨Ao9, co9, eo9⟩ := Kd.R_slice HO176.out; subst eo9; obtain ⟨Ao10, co10, eo10⟩ := Kd.R_slice HO179.out; subst eo10))
  refine bodyPost_ret (results_cell_row rfl _ _ gb167 26 #[.slice Ao7 t171.length co7, .slice Ao9 t174.length co9, .slice Ao10 t177.length co10] (0, 0) _ rfl (by (with_reducible repeat (first | refine blk_drewN ?_ _ | refine blk_drew ?_ | refine blk_alloc ?_ _)); refine blk_put (cs := #[.slice Ao7 t171.length co7, .slice Ao9 t174.length co9, .slice none 0 0]) ?_ 2 _ rfl; (with_reducible repeat (first | refine blk_drewN ?_ _ | refine blk_drew ?_ | refine blk_alloc ?_ _)); refine blk_put (cs := #[.slice Ao7 t171.length co7, .slice none 0 0, .slice none 0 0]) ?_ 1 _ rfl; (with_reducible repeat (first | refine blk_drewN ?_ _ | refine blk_drew ?_ | refine blk_alloc ?_ _)); refine blk_put (cs := #[.slice none 0 0, .slice none 0 0, .slice none 0 0]) ?_ 0 _ rfl; (with_reducible repeat (first | refine blk_drewN ?_ _ | refine blk_drew ?_ | refine blk_alloc ?_ _)); exact BK167.out) Tryd.underlying26 rfl (by kernel_rfl)) rfl ?_
  exact ⟨_, _, _, by first | rfl | exact congrArg (fun b_ => Ending.returned (.bool b_)) HT.out | (simp [errW_none, errW_some] <;> rfl) | (simp [*, errW_none, errW_some] <;> rfl), by (with_reducible repeat (first | apply Kd.R_alloc | apply Kd.R_drewN | apply Kd.R_drew)); exact Kd.R_mono (Kd.R_far (p := ⟨gb167, 2, none⟩) (Kd.R_far (p := ⟨gb167, 1, none⟩) (Kd.R_far (p := ⟨gb167, 0, none⟩) (Kd.R_types HO173.out BK167.out (by decide)) (fun _ hk => hk.2) (.slice Ao7 t171.length co7)) (fun _ hk => hk.2) (.slice Ao9 t174.length co9)) (fun _ hk => hk.2) (.slice Ao10 t177.length co10)) (fun _ hk => trivial), by (with_reducible repeat (first | apply Kd.R_alloc | apply Kd.R_drewN | apply Kd.R_drew)); exact Kd.R_mono (Kd.R_far (p := ⟨gb167, 2, none⟩) (Kd.R_far (p := ⟨gb167, 1, none⟩) (Kd.R_far (p := ⟨gb167, 0, none⟩) (Kd.R_types HO176.out BK167.out (by decide)) (fun _ hk => hk.2) (.slice Ao7 t171.length co7)) (fun _ hk => hk.2) (.slice Ao9 t174.length co9)) (fun _ hk => hk.2) (.slice Ao10 t177.length co10)) (fun _ hk => trivial), by (with_reducible repeat (first | apply Kd.R_alloc | apply Kd.R_drewN | apply Kd.R_drew)); exact Kd.R_mono (Kd.R_far (p := ⟨gb167, 2, none⟩) (Kd.R_far (p := ⟨gb167, 1, none⟩) (Kd.R_far (p := ⟨gb167, 0, none⟩) (Kd.R_types HO179.out BK167.out (by decide)) (fun _ hk => hk.2) (.slice Ao7 t171.length co7)) (fun _ hk => hk.2) (.slice Ao9 t174.length co9)) (fun _ hk => hk.2) (.slice Ao10 t177.length co10)) (fun _ hk => trivial), by repeat (first | (with_reducible first | exact HB.out | apply below_alloc | apply pw_below_drewN | apply below_drew1 | refine below_set ?_ GE167.out) | exact HB.out)⟩
def macadamlaw07_torn.f  : Option ((List (S92)) × (List (S90)) × (List (S43))) := (macadamlaw07_book.f (([(⟨1, 1⟩ : S43), (⟨2, 0⟩ : S43)] : List (S43)))).bind fun bt184 => (some (bt184.1, bt184.2.1, bt184.2.2))
set_option maxHeartbeats 8000000 in
set_option maxRecDepth 100000 in
theorem macadamlaw07_torn.calls  (r1 : List (S92)) (r2 : List (S90)) (r3 : List (S43)) (w : World) (h : macadamlaw07_torn.f  = some (r1, r2, r3)) :
    Calls Tryd.prog 72 #[] w fun e w' => ∃ v0_ v1_ v2_ : Value, e = .returned (.agg #[v0_, v1_, v2_]) ∧ Kd.R k92 92 w' w.heap.size (fun _ => True) v0_ r1 ∧ Kd.R k90 90 w' w.heap.size (fun _ => True) v1_ r2 ∧ Kd.R k43 43 w' w.heap.size (fun _ => True) v2_ r3 ∧ Below w.heap.size w w' := by
  have hu26 := Tryd.underlying26
  have hu43 := Tryd.underlying43
  have HB := Aside0.mk (Below.refl w.heap.size w)
  have H : ((macadamlaw07_book.f (([(⟨1, 1⟩ : S43), (⟨2, 0⟩ : S43)] : List (S43)))).bind fun bt184 => (some (bt184.1, bt184.2.1, bt184.2.2))) = some (r1, r2, r3) := h
  clear h
  obtain ⟨y181, hy181⟩ : ∃ y_ : List (S43), y_ = (([(⟨1, 1⟩ : S43), (⟨2, 0⟩ : S43)] : List (S43))) := ⟨_, rfl⟩
  replace H : ((macadamlaw07_book.f y181).bind fun bt184 => (some (bt184.1, bt184.2.1, bt184.2.2))) = some (r1, r2, r3) := by first | (rw [hy181]; with_reducible exact H) | (have H2_ := (Option.bind_some _ _).symm.trans H; rw [hy181]; with_reducible exact H2_) | (have H2_ := (Option.bind_some _ _).symm.trans H; with_reducible exact H2_) | with_reducible exact H | (rw [hy181]; exact H) | exact H
  have Ny181 := Aside0.mk hy181
  clear hy181
  replace H := Option.bind_eq_some_iff.mp H
  obtain ⟨⟨t184, t187, t190⟩, A10, H⟩ := H
  replace H : (some (t184, t187, t190)) = some (r1, r2, r3) := H
  have A1 := Aside0.mk A10
  clear A10
  simp only [Option.some.injEq, Prod.mk.injEq] at H
  obtain ⟨rfl, rfl, rfl⟩ := H
  go_enter Tryd.func72, Tryd.ntmps72
  go_wp2_with (first | ((with_reducible refine gate_dst (N := 0) rfl ?_); refine box_event ?hg (N := 0) ?hd (cs := #[.slice none 0 0, .slice none 0 0, .slice none 0 0]) (t := 26) ?hr ?_; (case hd => rfl); (case hg => rfl); (case hr => first | (go_simp; done) | (go_simp; rfl)); intro gb180 hg w2 hbox hb; have n0_ := Aside0.mk (below_step (by repeat (first | (with_reducible first | exact HB.out | apply below_alloc | apply pw_below_drewN | apply below_drew1) | exact HB.out)) hb); have n1_ := Aside0.mk (hbox); have n2_ := Aside0.mk ((by rw [hg]; exact (below_size (by repeat (first | (with_reducible first | exact HB.out | apply below_alloc | apply pw_below_drewN | apply below_drew1) | exact HB.out))) : w.heap.size ≤ gb180)); have n3_ := Aside0.mk ((by rw [hg]; exact (below_size (by repeat (first | (with_reducible first | exact HB.out | apply below_alloc | apply pw_below_drewN | apply below_drew1) | exact HB.out))) : w.heap.size ≤ gb180)); clear HB; have HB := n0_; have BK180 := n1_; have GW180 := n2_; have GE180 := n3_; clear n0_ n1_ n2_ n3_; clear hb hbox hg) | ((with_reducible refine gate_dst (N := 3) rfl ?_); refine Kd.R_lit k43 _ 43 ?hg (N := 3) ?hd (xs := ([(⟨1, 1⟩ : S43), (⟨2, 0⟩ : S43)] : List (S43))) (inner := [.int .i64 1, .int .i64 1, .int .i64 2, .int .i64 0]) (ok := fun _ => True) (okp := fun _ => True) ?hr ?hp (fun _ hk => hk) trivial (Below.refl _ _) (Nat.le_refl _) (by simp) ?_; (case hd => rfl); (case hg => rfl); (case hr => first | (go_simp; done) | (go_simp; rfl)); (case hp => exact (Reps.c2 (show Kd.M k43 _ _ _ (⟨1, 1⟩ : S43) [.int .i64 1, .int .i64 1] from (k43_mkM _ _ _ (⟨1, 1⟩ : S43) )) (Reps.c2 (show Kd.M k43 _ _ _ (⟨2, 0⟩ : S43) [.int .i64 2, .int .i64 0] from (k43_mkM _ _ _ (⟨2, 0⟩ : S43) )) (Reps.none _ _)))); intro v182 w3 ho4 hb hg_ hnew_; clear hg_ hnew_; (first | rw [← Ny181.out] at ho4 | (simp only [Int.reduceToNat] at ho4; rw [← Ny181.out] at ho4)); have n0_ := Aside0.mk (Kd.R_lower ho4 (below_size (by repeat (first | (with_reducible first | exact HB.out | apply below_alloc | apply pw_below_drewN | apply below_drew1 | refine below_set ?_ GE180.out) | exact HB.out)))); have n1_ := Aside0.mk (blk_below (g := gb180) (o := .cells #[.slice none 0 0, .slice none 0 0, .slice none 0 0] 26 (0, 0)) (by (with_reducible repeat (first | refine blk_drewN ?_ _ | refine blk_drew ?_ | refine blk_alloc ?_ _)); exact BK180.out) hb); have n2_ := Aside0.mk (below_step (by repeat (first | (with_reducible first | exact HB.out | apply below_alloc | apply pw_below_drewN | apply below_drew1 | refine below_set ?_ GE180.out) | exact HB.out)) hb); clear BK180; clear HB; have HO183 := n0_; have BK180 := n1_; have HB := n2_; clear n0_ n1_ n2_; clear hb ho4; obtain ⟨Ao5, co5, eo5⟩ := Kd.R_slice HO183.out; subst eo5) | ((with_reducible refine gate_callee (f := 71) rfl ?_); refine goesL_ (some 4) rfl rfl Tryd.func71 (by kernel_rfl) rfl #[.slice Ao5 y181.length co5] rfl (by (try simp only [List.map_toArray, List.map_cons, List.map_nil]); first | done | rfl | (simp only [List.length_drop, List.length_take]; rfl)) ?_; (with_reducible refine (macadamlaw07_book.calls (fun k_ => some k_ = (.slice Ao5 y181.length co5 : Value).ownBlock) (.slice Ao5 y181.length co5) y181 t184 t187 t190 w _ ?side1 ?side2 A1.out).mono ?_); (case side1 => repeat (first | (with_reducible first | exact HB.out | apply below_alloc | apply pw_below_drewN | apply below_drew1 | refine below_set ?_ GE180.out) | exact HB.out)); (case side2 => exact Kd.R_tight rfl HO183.out); rintro e w6 ⟨v185, v188, v191, rfl, ho0, ho1, ho2, hb, hkp⟩; refine ⟨_, rfl, ?_⟩; have n0_ := Aside0.mk (blk_kept (by (with_reducible repeat (first | refine blk_drewN ?_ _ | refine blk_drew ?_ | refine blk_alloc ?_ _)); exact BK180.out) hkp (fun hs_ => (fun e_ => (Kd.R_ne HO183.out BK180.out (by decide)) e_) hs_)); have n1_ := Aside0.mk (Kd.R_mono (ok' := fun k_ => True) ho0 (fun k_ hk_ => trivial)); have n2_ := Aside0.mk (Kd.R_mono (ok' := fun k_ => True) ho1 (fun k_ hk_ => trivial)); have n3_ := Aside0.mk (Kd.R_mono (ok' := fun k_ => True) ho2 (fun k_ hk_ => trivial)); have n4_ := Aside0.mk (hb); clear BK180; clear HB; clear HO183; have BK180 := n0_; have HO186 := n1_; have HO189 := n2_; have HO192 := n3_; have HB := n4_; clear n0_ n1_ n2_ n3_ n4_; (try clear hb); (try clear hkp); (try clear ho0); (try clear ho1); (try clear ho2); obtain ⟨Ao7, co7, eo7⟩ := Kd.R_slice HO186.out; subst eo7; have hcz8_0 : w6.cell? ⟨gb180, 0, none⟩ = some (.slice none 0 0) := (blk_cell BK180.out 0).trans rfl; have hcz8_1 : w6.cell? ⟨gb180, 1, none⟩ = some (.slice none 0 0) := (blk_cell BK180.out 1).trans rfl; have hcz8_2 : w6.cell? ⟨gb180, 2, none⟩ = some (.slice none 0 0) := (blk_cell BK180.out 2).trans rfl; have hfz8_0 := blk_frozen BK180.out 0; have hfz8_1 := blk_frozen BK180.out 1; have hfz8_2 := blk_frozen BK180.out 2; obtain ⟨Ao9, co9, eo9⟩ := Kd.R_slice HO189.out; subst eo9; obtain ⟨Ao10, co10, eo10⟩ := Kd.R_slice HO192.out; subst eo10))
  refine bodyPost_ret (results_cell_row rfl _ _ gb180 26 #[.slice Ao7 t184.length co7, .slice Ao9 t187.length co9, .slice Ao10 t190.length co10] (0, 0) _ rfl (by (with_reducible repeat (first | refine blk_drewN ?_ _ | refine blk_drew ?_ | refine blk_alloc ?_ _)); refine blk_put (cs := #[.slice Ao7 t184.length co7, .slice Ao9 t187.length co9, .slice none 0 0]) ?_ 2 _ rfl; (with_reducible repeat (first | refine blk_drewN ?_ _ | refine blk_drew ?_ | refine blk_alloc ?_ _)); refine blk_put (cs := #[.slice Ao7 t184.length co7, .slice none 0 0, .slice none 0 0]) ?_ 1 _ rfl; (with_reducible repeat (first | refine blk_drewN ?_ _ | refine blk_drew ?_ | refine blk_alloc ?_ _)); refine blk_put (cs := #[.slice none 0 0, .slice none 0 0, .slice none 0 0]) ?_ 0 _ rfl; (with_reducible repeat (first | refine blk_drewN ?_ _ | refine blk_drew ?_ | refine blk_alloc ?_ _)); exact BK180.out) Tryd.underlying26 rfl (by kernel_rfl)) rfl ?_
  exact ⟨_, _, _, by first | rfl | exact congrArg (fun b_ => Ending.returned (.bool b_)) HT.out | (simp [errW_none, errW_some] <;> rfl) | (simp [*, errW_none, errW_some] <;> rfl), by (with_reducible repeat (first | apply Kd.R_alloc | apply Kd.R_drewN | apply Kd.R_drew)); exact Kd.R_mono (Kd.R_far (p := ⟨gb180, 2, none⟩) (Kd.R_far (p := ⟨gb180, 1, none⟩) (Kd.R_far (p := ⟨gb180, 0, none⟩) (Kd.R_types HO186.out BK180.out (by decide)) (fun _ hk => hk.2) (.slice Ao7 t184.length co7)) (fun _ hk => hk.2) (.slice Ao9 t187.length co9)) (fun _ hk => hk.2) (.slice Ao10 t190.length co10)) (fun _ hk => trivial), by (with_reducible repeat (first | apply Kd.R_alloc | apply Kd.R_drewN | apply Kd.R_drew)); exact Kd.R_mono (Kd.R_far (p := ⟨gb180, 2, none⟩) (Kd.R_far (p := ⟨gb180, 1, none⟩) (Kd.R_far (p := ⟨gb180, 0, none⟩) (Kd.R_types HO189.out BK180.out (by decide)) (fun _ hk => hk.2) (.slice Ao7 t184.length co7)) (fun _ hk => hk.2) (.slice Ao9 t187.length co9)) (fun _ hk => hk.2) (.slice Ao10 t190.length co10)) (fun _ hk => trivial), by (with_reducible repeat (first | apply Kd.R_alloc | apply Kd.R_drewN | apply Kd.R_drew)); exact Kd.R_mono (Kd.R_far (p := ⟨gb180, 2, none⟩) (Kd.R_far (p := ⟨gb180, 1, none⟩) (Kd.R_far (p := ⟨gb180, 0, none⟩) (Kd.R_types HO192.out BK180.out (by decide)) (fun _ hk => hk.2) (.slice Ao7 t184.length co7)) (fun _ hk => hk.2) (.slice Ao9 t187.length co9)) (fun _ hk => hk.2) (.slice Ao10 t190.length co10)) (fun _ hk => trivial), by repeat (first | (with_reducible first | exact HB.out | apply below_alloc | apply pw_below_drewN | apply below_drew1 | refine below_set ?_ GE180.out) | exact HB.out)⟩
def macadamref00_Like.l0 : Nat → List Int → List Int → Bool → Int → Option (Bool)
  | 0, _, _, _, _ => none
  | k + 1, x0, x1, x5, x6 => if x5 = true then (if x6 < (x0.length : Int) then (if 0 ≤ x6 then (if x6 < (x1.length : Int) then (macadamref00_Like.l0 k x0 x1 ((rd x0 x6) == (rd x1 x6)) (wrap64 (x6 + 1))) else (none)) else (none)) else (some x5)) else (some x5)
def macadamref00_Like.f (k : Nat) (l0 : List Int) (l1 : List Int) : Option (Bool) := macadamref00_Like.l0 k l0 l1 ((l0.length : Int) == (l1.length : Int)) 0
set_option maxHeartbeats 8000000 in
set_option maxRecDepth 100000 in
theorem macadamref00_Like.calls (k : Nat) (A0 : Option Addr) (c0 : Nat) (l0 : List Int) (A1 : Option Addr) (c1 : Nat) (l1 : List Int) (r : Bool) (w : World) (hr0 : Kd.C (Kd.int .i64) w A0 l0.length l0) (hc0 : l0.length ≤ c0) (hr1 : Kd.C (Kd.int .i64) w A1 l1.length l1) (hc1 : l1.length ≤ c1) (h : macadamref00_Like.f k l0 l1 = some r) :
    Calls Tryd.prog 42 #[.slice A0 l0.length c0, .slice A1 l1.length c1] w fun e w' => e = .returned (.bool r) ∧ Drawn0 w w' := by
  have HR0 := Aside0.mk hr0
  have HC0 := Aside0.mk hc0
  clear hr0 hc0
  have HR1 := Aside0.mk hr1
  have HC1 := Aside0.mk hc1
  clear hr1 hc1
  have H : (macadamref00_Like.l0 k l0 l1 ((l0.length : Int) == (l1.length : Int)) 0) = some r := h
  clear h
  have H' := Aside0.mk H
  clear H
  go_enter Tryd.func42, Tryd.ntmps42
  go_wp2
  repeat (go_quiet (fail); try go_wp2)
  go_loopg [5, 6] k (fun kq v5 v6 w' => ∃ (x5_1 : Bool) (x6_1 : Int), v5 = .bool x5_1 ∧ v6 = .int .i64 x6_1 ∧ Aside0 (macadamref00_Like.l0 kq l0 l1 x5_1 x6_1 = some r) ∧ Aside0 (kq ≤ k) ∧ Drawn0 w w')
  case atStart => exact ⟨(((l0.length : Int) == (l1.length : Int))), (0), (by first | rfl | (simp; done) | (simp [*]; done)), (by first | rfl | (simp; done) | (simp [*]; done)), H', ⟨Nat.le_refl _⟩, by repeat (first | exact Drawn0.refl _ | apply Drawn0.step)⟩
  case round =>
    clear H'
    try clear c1
    try clear p2
    obtain ⟨x5_1, x6_1, rfl, rfl, HA, HK1, ⟨m1, rfl⟩⟩ := hrel
    cases gk with
    | zero => exact absurd HA.out (by simp [macadamref00_Like.l0])
    | succ k1 =>
      have H := HA.out
      clear HA
      simp only [macadamref00_Like.l0] at H
      by_cases c3 : x5_1 = true
      · subst c3
        have H1 : (if x6_1 < (l0.length : Int) then (if 0 ≤ x6_1 then (if x6_1 < (l1.length : Int) then (macadamref00_Like.l0 k1 l0 l1 ((rd l0 x6_1) == (rd l1 x6_1)) (wrap64 (x6_1 + 1))) else (none)) else (none)) else (some true)) = some r := by rw [if_pos rfl] at H; exact H
        clear H
        have H := H1
        clear H1
        by_cases c4 : x6_1 < (l0.length : Int)
        · rw [if_pos c4] at H
          have c4b0 : decide (x6_1 < (l0.length : Int)) = true := decide_eq_true c4
          clear c4
          by_cases c5 : 0 ≤ x6_1
          · rw [if_pos c5] at H
            have c5b0 : decide (0 ≤ x6_1) = true := decide_eq_true c5
            clear c5
            by_cases c6 : x6_1 < (l1.length : Int)
            · rw [if_pos c6] at H
              have c6b0 : decide (x6_1 < (l1.length : Int)) = true := decide_eq_true c6
              clear c6
              have H' := Aside0.mk H
              clear H
              have p193 : 0 ≤ (x6_1 : Int) := of_decide_eq_true (by first | (with_reducible assumption) | assumption)
              have q193 : x6_1 < (l0.length : Int) := of_decide_eq_true (by first | (with_reducible assumption) | assumption)
              obtain ⟨ad193, e193, hx193_0⟩ := Kd.at_int HR0.out x6_1 p193 q193
              cases e193
              replace p193 := eq_true p193
              replace q193 := eq_true q193
              have p194 : 0 ≤ (x6_1 : Int) := of_decide_eq_true (by first | (with_reducible assumption) | assumption)
              have q194 : x6_1 < (l1.length : Int) := of_decide_eq_true (by first | (with_reducible assumption) | assumption)
              obtain ⟨ad194, e194, hx194_0⟩ := Kd.at_int HR1.out x6_1 p194 q194
              cases e194
              replace p194 := eq_true p194
              replace q194 := eq_true q194
              go_wp2
              repeat (go_quiet (fail); try go_wp2)
              go_roundg k1
              case measure => have := HK1.out; omega
              case rel => exact ⟨(((rd l0 x6_1) == (rd l1 x6_1))), (wrap64 (x6_1 + 1)), (by first | rfl | (simp; done) | (simp [*]; done)), (by first | rfl | (simp; done) | (simp [*]; done)), H', ⟨by have := HK1.out; omega⟩, by repeat (first | exact Drawn0.refl _ | apply Drawn0.step)⟩
            · rw [if_neg c6] at H
              exact absurd H (by simp)
          · rw [if_neg c5] at H
            exact absurd H (by simp)
        · rw [if_neg c4] at H
          have c4b0 : decide (x6_1 < (l0.length : Int)) = false := decide_eq_false c4
          clear c4
          obtain rfl := Option.some.inj H
          go_wp2
          repeat (go_quiet (fail); try go_wp2)
          go_ret
          exact ⟨by first | rfl | (simp; done) | (simp [*]; done), by repeat (first | exact Drawn0.refl _ | apply Drawn0.step)⟩
      · replace c3 := Bool.eq_false_iff.mpr c3
        subst c3
        have H1 : (some false) = some r := by rw [if_neg (show ¬ (false = true) by decide)] at H; exact H
        clear H
        have H := H1
        clear H1
        obtain rfl := Option.some.inj H
        go_wp2
        repeat (go_quiet (fail); try go_wp2)
        go_ret
        exact ⟨by first | rfl | (simp; done) | (simp [*]; done), by repeat (first | exact Drawn0.refl _ | apply Drawn0.step)⟩
def macadamref00_Wrap.f (a0 : Int) (a1 : Int) : Option (Int) := if a1 ≤ 0 then (some 0) else (if a1 = 0 then (none) else (if (Int.tmod a0 a1) < 0 then (some (wrap64 ((Int.tmod a0 a1) + a1))) else (some (Int.tmod a0 a1))))
set_option maxHeartbeats 8000000 in
set_option maxRecDepth 100000 in
theorem macadamref00_Wrap.calls (a0 : Int) (a1 : Int) (r : Int) (w : World) (h : macadamref00_Wrap.f a0 a1 = some r) :
    Calls Tryd.prog 47 #[.int .i64 a0, .int .i64 a1] w fun e w' => e = .returned (.int .i64 r) ∧ Drawn0 w w' := by
  have H : (if a1 ≤ 0 then (some 0) else (if a1 = 0 then (none) else (if (Int.tmod a0 a1) < 0 then (some (wrap64 ((Int.tmod a0 a1) + a1))) else (some (Int.tmod a0 a1))))) = some r := h
  clear h
  by_cases c3 : a1 ≤ 0
  · rw [if_pos c3] at H
    have c3b0 : decide (a1 ≤ 0) = true := decide_eq_true c3
    clear c3
    obtain rfl := Option.some.inj H
    go_enter Tryd.func47, Tryd.ntmps47
    go_wp2
    go_ret
    exact ⟨by first | rfl | (simp; done) | (simp [*]; done), by repeat (first | exact Drawn0.refl _ | apply Drawn0.step)⟩
  · rw [if_neg c3] at H
    have c3b0 : decide (a1 ≤ 0) = false := decide_eq_false c3
    clear c3
    by_cases c4 : a1 = 0
    · rw [if_pos c4] at H
      exact absurd H (by simp)
    · rw [if_neg c4] at H
      have c4b0 : (a1 == 0) = false := beq_eq_false_iff_ne.mpr c4
      have c4b1 : (a1 != 0) = true := bne_iff_ne.mpr c4
      by_cases c5 : (Int.tmod a0 a1) < 0
      · rw [if_pos c5] at H
        have c5b0 : decide ((Int.tmod a0 a1) < 0) = true := decide_eq_true c5
        clear c5
        obtain rfl := Option.some.inj H
        go_enter Tryd.func47, Tryd.ntmps47
        go_wp2
        go_ret
        exact ⟨by first | rfl | (simp; done) | (simp [*]; done), by repeat (first | exact Drawn0.refl _ | apply Drawn0.step)⟩
      · rw [if_neg c5] at H
        have c5b0 : decide ((Int.tmod a0 a1) < 0) = false := decide_eq_false c5
        clear c5
        obtain rfl := Option.some.inj H
        go_enter Tryd.func47, Tryd.ntmps47
        go_wp2
        go_ret
        exact ⟨by first | rfl | (simp; done) | (simp [*]; done), by repeat (first | exact Drawn0.refl _ | apply Drawn0.step)⟩
def macadamref00_Amid.f (a0 : Int) (a1 : Int) (a2 : Int) : Option (Bool) := if a1 ≤ a0 then (some (decide (a0 ≤ a2))) else (some false)
set_option maxHeartbeats 8000000 in
set_option maxRecDepth 100000 in
theorem macadamref00_Amid.calls (a0 : Int) (a1 : Int) (a2 : Int) (r : Bool) (w : World) (h : macadamref00_Amid.f a0 a1 a2 = some r) :
    Calls Tryd.prog 60 #[.int .i64 a0, .int .i64 a1, .int .i64 a2] w fun e w' => e = .returned (.bool r) ∧ Drawn0 w w' := by
  have H : (if a1 ≤ a0 then (some (decide (a0 ≤ a2))) else (some false)) = some r := h
  clear h
  by_cases c4 : a1 ≤ a0
  · rw [if_pos c4] at H
    have c4b0 : decide (a1 ≤ a0) = true := decide_eq_true c4
    clear c4
    obtain rfl := Option.some.inj H
    go_enter Tryd.func60, Tryd.ntmps60
    go_wp2
    go_ret
    exact ⟨by first | rfl | (simp; done) | (simp [*]; done), by repeat (first | exact Drawn0.refl _ | apply Drawn0.step)⟩
  · rw [if_neg c4] at H
    have c4b0 : decide (a1 ≤ a0) = false := decide_eq_false c4
    clear c4
    obtain rfl := Option.some.inj H
    go_enter Tryd.func60, Tryd.ntmps60
    go_wp2
    go_ret
    exact ⟨by first | rfl | (simp; done) | (simp [*]; done), by repeat (first | exact Drawn0.refl _ | apply Drawn0.step)⟩
def macadamref00_Sane.f (a0_0 : Int) (a0_1 : Int) (a1 : Int) (a2 : Int) (a3 : Int) : Option (Bool) := if a1 ≤ a0_0 then (if a0_0 ≤ a0_1 then (if a0_1 ≤ a2 then (some (decide ((wrap64 (a0_1 - a0_0)) ≤ a3))) else (some false)) else (some false)) else (some false)
set_option maxHeartbeats 8000000 in
set_option maxRecDepth 100000 in
theorem macadamref00_Sane.calls (a0_0 : Int) (a0_1 : Int) (a1 : Int) (a2 : Int) (a3 : Int) (r : Bool) (w : World) (h : macadamref00_Sane.f a0_0 a0_1 a1 a2 a3 = some r) :
    Calls Tryd.prog 62 #[.agg #[.int .i64 a0_0, .int .i64 a0_1], .int .i64 a1, .int .i64 a2, .int .i64 a3] w fun e w' => e = .returned (.bool r) ∧ Below w.heap.size w w' := by
  have hu32 := Tryd.underlying32
  have HB := Aside0.mk (Below.refl w.heap.size w)
  have H : (if a1 ≤ a0_0 then (if a0_0 ≤ a0_1 then (if a0_1 ≤ a2 then (some (decide ((wrap64 (a0_1 - a0_0)) ≤ a3))) else (some false)) else (some false)) else (some false)) = some r := h
  clear h
  by_cases c5 : a1 ≤ a0_0
  · rw [if_pos c5] at H
    have c5b0 : decide (a1 ≤ a0_0) = true := decide_eq_true c5
    clear c5
    by_cases c6 : a0_0 ≤ a0_1
    · rw [if_pos c6] at H
      have c6b0 : decide (a0_0 ≤ a0_1) = true := decide_eq_true c6
      clear c6
      by_cases c7 : a0_1 ≤ a2
      · rw [if_pos c7] at H
        have c7b0 : decide (a0_1 ≤ a2) = true := decide_eq_true c7
        clear c7
        obtain rfl := Option.some.inj H
        go_enter Tryd.func62, Tryd.ntmps62
        go_wp2_with (first | ((with_reducible refine gate_dst (N := 4) rfl ?_); refine box_event ?hg (N := 4) ?hd (cs := #[.int .i64 a0_0, .int .i64 a0_1]) (t := 32) ?hr ?_; (case hd => rfl); (case hg => rfl); (case hr => first | (go_simp; done) | (go_simp; rfl)); intro gb195 hg w8 hbox hb; have n0_ := Aside0.mk (below_step (by repeat (first | (with_reducible first | exact HB.out | apply below_alloc | apply pw_below_drewN | apply below_drew1) | exact HB.out)) hb); have n1_ := Aside0.mk (hbox); have n2_ := Aside0.mk ((by rw [hg]; exact (below_size (by repeat (first | (with_reducible first | exact HB.out | apply below_alloc | apply pw_below_drewN | apply below_drew1) | exact HB.out))) : w.heap.size ≤ gb195)); have n3_ := Aside0.mk ((by rw [hg]; exact (below_size (by repeat (first | (with_reducible first | exact HB.out | apply below_alloc | apply pw_below_drewN | apply below_drew1) | exact HB.out))) : w.heap.size ≤ gb195)); clear HB; have HB := n0_; have BK195 := n1_; have GW195 := n2_; have GE195 := n3_; clear n0_ n1_ n2_ n3_; clear hb hbox hg; have hcz9_0 : w8.cell? ⟨gb195, 0, none⟩ = some (.int .i64 a0_0) := (blk_cell BK195.out 0).trans rfl; have hcz9_1 : w8.cell? ⟨gb195, 1, none⟩ = some (.int .i64 a0_1) := (blk_cell BK195.out 1).trans rfl; have hfz9_0 := blk_frozen BK195.out 0; have hfz9_1 := blk_frozen BK195.out 1))
        go_ret
        exact ⟨by first | rfl | exact congrArg (fun b_ => Ending.returned (.bool b_)) HT.out | (simp [errW_none, errW_some] <;> rfl) | (simp [*, errW_none, errW_some] <;> rfl), by repeat (first | (with_reducible first | exact HB.out | apply below_alloc | apply pw_below_drewN | apply below_drew1 | refine below_set ?_ GE195.out) | exact HB.out)⟩
      · rw [if_neg c7] at H
        have c7b0 : decide (a0_1 ≤ a2) = false := decide_eq_false c7
        clear c7
        obtain rfl := Option.some.inj H
        go_enter Tryd.func62, Tryd.ntmps62
        go_wp2_with (first | ((with_reducible refine gate_dst (N := 4) rfl ?_); refine box_event ?hg (N := 4) ?hd (cs := #[.int .i64 a0_0, .int .i64 a0_1]) (t := 32) ?hr ?_; (case hd => rfl); (case hg => rfl); (case hr => first | (go_simp; done) | (go_simp; rfl)); intro gb195 hg w10 hbox hb; have n0_ := Aside0.mk (below_step (by repeat (first | (with_reducible first | exact HB.out | apply below_alloc | apply pw_below_drewN | apply below_drew1) | exact HB.out)) hb); have n1_ := Aside0.mk (hbox); have n2_ := Aside0.mk ((by rw [hg]; exact (below_size (by repeat (first | (with_reducible first | exact HB.out | apply below_alloc | apply pw_below_drewN | apply below_drew1) | exact HB.out))) : w.heap.size ≤ gb195)); have n3_ := Aside0.mk ((by rw [hg]; exact (below_size (by repeat (first | (with_reducible first | exact HB.out | apply below_alloc | apply pw_below_drewN | apply below_drew1) | exact HB.out))) : w.heap.size ≤ gb195)); clear HB; have HB := n0_; have BK195 := n1_; have GW195 := n2_; have GE195 := n3_; clear n0_ n1_ n2_ n3_; clear hb hbox hg; have hcz11_0 : w10.cell? ⟨gb195, 0, none⟩ = some (.int .i64 a0_0) := (blk_cell BK195.out 0).trans rfl; have hcz11_1 : w10.cell? ⟨gb195, 1, none⟩ = some (.int .i64 a0_1) := (blk_cell BK195.out 1).trans rfl; have hfz11_0 := blk_frozen BK195.out 0; have hfz11_1 := blk_frozen BK195.out 1))
        go_ret
        exact ⟨by first | rfl | exact congrArg (fun b_ => Ending.returned (.bool b_)) HT.out | (simp [errW_none, errW_some] <;> rfl) | (simp [*, errW_none, errW_some] <;> rfl), by repeat (first | (with_reducible first | exact HB.out | apply below_alloc | apply pw_below_drewN | apply below_drew1 | refine below_set ?_ GE195.out) | exact HB.out)⟩
    · rw [if_neg c6] at H
      have c6b0 : decide (a0_0 ≤ a0_1) = false := decide_eq_false c6
      clear c6
      obtain rfl := Option.some.inj H
      go_enter Tryd.func62, Tryd.ntmps62
      go_wp2_with (first | ((with_reducible refine gate_dst (N := 4) rfl ?_); refine box_event ?hg (N := 4) ?hd (cs := #[.int .i64 a0_0, .int .i64 a0_1]) (t := 32) ?hr ?_; (case hd => rfl); (case hg => rfl); (case hr => first | (go_simp; done) | (go_simp; rfl)); intro gb195 hg w12 hbox hb; have n0_ := Aside0.mk (below_step (by repeat (first | (with_reducible first | exact HB.out | apply below_alloc | apply pw_below_drewN | apply below_drew1) | exact HB.out)) hb); have n1_ := Aside0.mk (hbox); have n2_ := Aside0.mk ((by rw [hg]; exact (below_size (by repeat (first | (with_reducible first | exact HB.out | apply below_alloc | apply pw_below_drewN | apply below_drew1) | exact HB.out))) : w.heap.size ≤ gb195)); have n3_ := Aside0.mk ((by rw [hg]; exact (below_size (by repeat (first | (with_reducible first | exact HB.out | apply below_alloc | apply pw_below_drewN | apply below_drew1) | exact HB.out))) : w.heap.size ≤ gb195)); clear HB; have HB := n0_; have BK195 := n1_; have GW195 := n2_; have GE195 := n3_; clear n0_ n1_ n2_ n3_; clear hb hbox hg; have hcz13_0 : w12.cell? ⟨gb195, 0, none⟩ = some (.int .i64 a0_0) := (blk_cell BK195.out 0).trans rfl; have hcz13_1 : w12.cell? ⟨gb195, 1, none⟩ = some (.int .i64 a0_1) := (blk_cell BK195.out 1).trans rfl; have hfz13_0 := blk_frozen BK195.out 0; have hfz13_1 := blk_frozen BK195.out 1))
      go_ret
      exact ⟨by first | rfl | exact congrArg (fun b_ => Ending.returned (.bool b_)) HT.out | (simp [errW_none, errW_some] <;> rfl) | (simp [*, errW_none, errW_some] <;> rfl), by repeat (first | (with_reducible first | exact HB.out | apply below_alloc | apply pw_below_drewN | apply below_drew1 | refine below_set ?_ GE195.out) | exact HB.out)⟩
  · rw [if_neg c5] at H
    have c5b0 : decide (a1 ≤ a0_0) = false := decide_eq_false c5
    clear c5
    obtain rfl := Option.some.inj H
    go_enter Tryd.func62, Tryd.ntmps62
    go_wp2_with (first | ((with_reducible refine gate_dst (N := 4) rfl ?_); refine box_event ?hg (N := 4) ?hd (cs := #[.int .i64 a0_0, .int .i64 a0_1]) (t := 32) ?hr ?_; (case hd => rfl); (case hg => rfl); (case hr => first | (go_simp; done) | (go_simp; rfl)); intro gb195 hg w14 hbox hb; have n0_ := Aside0.mk (below_step (by repeat (first | (with_reducible first | exact HB.out | apply below_alloc | apply pw_below_drewN | apply below_drew1) | exact HB.out)) hb); have n1_ := Aside0.mk (hbox); have n2_ := Aside0.mk ((by rw [hg]; exact (below_size (by repeat (first | (with_reducible first | exact HB.out | apply below_alloc | apply pw_below_drewN | apply below_drew1) | exact HB.out))) : w.heap.size ≤ gb195)); have n3_ := Aside0.mk ((by rw [hg]; exact (below_size (by repeat (first | (with_reducible first | exact HB.out | apply below_alloc | apply pw_below_drewN | apply below_drew1) | exact HB.out))) : w.heap.size ≤ gb195)); clear HB; have HB := n0_; have BK195 := n1_; have GW195 := n2_; have GE195 := n3_; clear n0_ n1_ n2_ n3_; clear hb hbox hg; have hcz15_0 : w14.cell? ⟨gb195, 0, none⟩ = some (.int .i64 a0_0) := (blk_cell BK195.out 0).trans rfl; have hcz15_1 : w14.cell? ⟨gb195, 1, none⟩ = some (.int .i64 a0_1) := (blk_cell BK195.out 1).trans rfl; have hfz15_0 := blk_frozen BK195.out 0; have hfz15_1 := blk_frozen BK195.out 1))
    go_ret
    exact ⟨by first | rfl | exact congrArg (fun b_ => Ending.returned (.bool b_)) HT.out | (simp [errW_none, errW_some] <;> rfl) | (simp [*, errW_none, errW_some] <;> rfl), by repeat (first | (with_reducible first | exact HB.out | apply below_alloc | apply pw_below_drewN | apply below_drew1 | refine below_set ?_ GE195.out) | exact HB.out)⟩
end Go.Proofs.YthgjedagbgmgmaaDoor.Pr
namespace Go.Proofs.YthgjedagbgmgmaaDoor.Pr
open Go.RowKit Go.Proofs.YthgjedagbgmgmaaDoorW.PrintWords Go.Proofs.YthgjedagbgmgmaaDoorW.PrintLast Go.Proofs.YthgjedagbgmgmaaDoorW.PrintMore
set_option linter.unusedVariables false
set_option linter.unusedSimpArgs false
def ownL : List S92 := [⟨5, 4⟩, ⟨4, 3⟩]
def ownD : List S90 := [⟨⟨3, 4⟩, 2⟩, ⟨⟨2, 3⟩, 3⟩, ⟨⟨3, 3⟩, 6⟩, ⟨⟨4, 4⟩, 2⟩]
def ownK : List S43 := []
def earlyK : List S43 := [⟨1, 1⟩]
def lateK : List S43 := [⟨2, 0⟩]
def tornK : List S43 := [⟨1, 1⟩, ⟨2, 0⟩]
/-- A book lies in memory. -/
structure BookAt (W : World) (A0 A1 A2 : Option Addr) (c0 c1 c2 : Nat) (l0 : List S92) (l1 : List S90) (l2 : List S43) : Prop where
  r0 : Kd.C k92 W A0 l0.length l0
  c0 : l0.length ≤ c0
  r1 : Kd.C k90 W A1 l1.length l1
  c1 : l1.length ≤ c1
  r2 : Kd.C k43 W A2 l2.length l2
  c2 : l2.length ≤ c2
theorem BookAt.below {W W' : World} {A0 A1 A2 : Option Addr} {c0 c1 c2 : Nat} {l0 : List S92} {l1 : List S90} {l2 : List S43} (h : BookAt W A0 A1 A2 c0 c1 c2 l0 l1 l2) (hb : Below W.heap.size W W') : BookAt W' A0 A1 A2 c0 c1 c2 l0 l1 l2 :=
  ⟨Kd.C_below h.r0 hb, h.c0, Kd.C_below h.r1 hb, h.c1, Kd.C_below h.r2 hb, h.c2⟩
theorem book_of {W : World} {base : Nat} {p0 p1 p2 : Nat → Prop} {v0 v1 v2 : Value} {l0 : List S92} {l1 : List S90} {l2 : List S43} (h0 : Kd.R k92 92 W base p0 v0 l0) (h1 : Kd.R k90 90 W base p1 v1 l1) (h2 : Kd.R k43 43 W base p2 v2 l2) :
    ∃ A0 A1 A2 c0 c1 c2, v0 = .slice A0 l0.length c0 ∧ v1 = .slice A1 l1.length c1 ∧ v2 = .slice A2 l2.length c2 ∧ BookAt W A0 A1 A2 c0 c1 c2 l0 l1 l2 := by
  obtain ⟨A0, c0, rfl⟩ := Kd.R_slice h0
  obtain ⟨A1, c1, rfl⟩ := Kd.R_slice h1
  obtain ⟨A2, c2, rfl⟩ := Kd.R_slice h2
  obtain ⟨_, a2, a3⟩ := Kd.R_reads' h0
  obtain ⟨_, b2, b3⟩ := Kd.R_reads' h1
  obtain ⟨_, d2, d3⟩ := Kd.R_reads' h2
  exact ⟨A0, A1, A2, c0, c1, c2, rfl, rfl, rfl, a3, a2, b3, b2, d3, d2⟩
theorem ownB_calls (w : World) : Calls Tryd.prog 70 #[] w fun e w' => ∃ A0 A1 A2 c0 c1 c2, e = .returned (.agg #[.slice A0 2 c0, .slice A1 4 c1, .slice A2 0 c2]) ∧ BookAt w' A0 A1 A2 c0 c1 c2 ownL ownD ownK ∧ Below w.heap.size w w' :=
  (macadamlaw07_own.calls ownL ownD ownK w (by rfl)).mono (by
    rintro e w' ⟨v0, v1, v2, rfl, h0, h1, h2, hb⟩
    obtain ⟨A0, A1, A2, c0, c1, c2, rfl, rfl, rfl, hk⟩ := book_of h0 h1 h2
    exact ⟨A0, A1, A2, c0, c1, c2, rfl, hk, hb⟩)
theorem earlyB_calls (w : World) : Calls Tryd.prog 74 #[] w fun e w' => ∃ A0 A1 A2 c0 c1 c2, e = .returned (.agg #[.slice A0 2 c0, .slice A1 4 c1, .slice A2 1 c2]) ∧ BookAt w' A0 A1 A2 c0 c1 c2 ownL ownD earlyK ∧ Below w.heap.size w w' :=
  (macadamlaw07_early.calls ownL ownD earlyK w (by rfl)).mono (by
    rintro e w' ⟨v0, v1, v2, rfl, h0, h1, h2, hb⟩
    obtain ⟨A0, A1, A2, c0, c1, c2, rfl, rfl, rfl, hk⟩ := book_of h0 h1 h2
    exact ⟨A0, A1, A2, c0, c1, c2, rfl, hk, hb⟩)
theorem lateB_calls (w : World) : Calls Tryd.prog 73 #[] w fun e w' => ∃ A0 A1 A2 c0 c1 c2, e = .returned (.agg #[.slice A0 2 c0, .slice A1 4 c1, .slice A2 1 c2]) ∧ BookAt w' A0 A1 A2 c0 c1 c2 ownL ownD lateK ∧ Below w.heap.size w w' :=
  (macadamlaw07_late.calls ownL ownD lateK w (by rfl)).mono (by
    rintro e w' ⟨v0, v1, v2, rfl, h0, h1, h2, hb⟩
    obtain ⟨A0, A1, A2, c0, c1, c2, rfl, rfl, rfl, hk⟩ := book_of h0 h1 h2
    exact ⟨A0, A1, A2, c0, c1, c2, rfl, hk, hb⟩)
theorem tornB_calls (w : World) : Calls Tryd.prog 72 #[] w fun e w' => ∃ A0 A1 A2 c0 c1 c2, e = .returned (.agg #[.slice A0 2 c0, .slice A1 4 c1, .slice A2 2 c2]) ∧ BookAt w' A0 A1 A2 c0 c1 c2 ownL ownD tornK ∧ Below w.heap.size w w' :=
  (macadamlaw07_torn.calls ownL ownD tornK w (by rfl)).mono (by
    rintro e w' ⟨v0, v1, v2, rfl, h0, h1, h2, hb⟩
    obtain ⟨A0, A1, A2, c0, c1, c2, rfl, rfl, rfl, hk⟩ := book_of h0 h1 h2
    exact ⟨A0, A1, A2, c0, c1, c2, rfl, hk, hb⟩)
theorem ev0 : boundF ownL ownD ownK 3 = (0, 2, 0) := by decide +kernel
theorem ev1 : laidF ownL ownD ownK = (7, 10, 0) := by decide +kernel
theorem ev2 : skyF ownL ownD lateK 2 = (4, 0) := by decide +kernel
theorem ev3 : doneF ownL ownD earlyK = (3, 0) := by decide +kernel
theorem ev4 : waterF ownL ownD ownK = (1, 0) := by decide +kernel
theorem ev5 : lostF ownL ownD earlyK = (0, 3, 0) := by decide +kernel
theorem ev6 : wagonsF ownL ownD ownK 1 = (2, 3, 0) := by decide +kernel
theorem ev7 : perhapsF ownL ownD ownK = (3, 0) := by decide +kernel
theorem ev8 : fitsF ownL ownD ownK ⟨3, 0⟩ = (true, 0) := by decide +kernel
theorem ev9 : wrongF ownL ownD tornK = ([0], 0) := by decide +kernel
theorem ev10 : rightF ownL ownD ownK = (true, 0) := by decide +kernel
end Go.Proofs.YthgjedagbgmgmaaDoor.Pr
namespace Go.Proofs.YthgjedagbgmgmaaDoor.Pr
open Go.ChangeShapes Go.WideShapes Go.ChangeAt Go.RowKit Go.Joins Go.Deep
open Go.Proofs.YthgjedagbgmgmaaDoorW.PrintWords Go.Proofs.YthgjedagbgmgmaaDoorW.PrintLast Go.Proofs.YthgjedagbgmgmaaDoorW.PrintMore
set_option linter.unusedVariables false
set_option linter.unusedSimpArgs false
theorem own : ownKnob Tryd.prog.godebug = none := by kernel_rfl
theorem laidOut : laidOutB Tryd.prog = true := by kernel_rfl
theorem gBegin : Tryd.prog.globalNamed "macadam/roll.begin" = some 0 := by kernel_rfl
theorem gSkies : Tryd.prog.globalNamed "macadam/roll.skies" = some 3 := by kernel_rfl
theorem tBegin : (Tryd.prog.globals[0]?).map (·.type) = some 116 := by kernel_rfl
theorem tSkies : (Tryd.prog.globals[3]?).map (·.type) = some 217 := by kernel_rfl
theorem cells2 : Tryd.prog.cellsOf 3 = 1 ∧ Tryd.prog.cellsOf 116 = 2 ∧ Tryd.prog.cellsOf 216 = 1 ∧ Tryd.prog.cellsOf 217 = 3 ∧ Tryd.prog.cellsOf 92 = 2 ∧ Tryd.prog.cellsOf 43 = 2 ∧ Tryd.prog.cellsOf 90 = 3 ∧ Tryd.prog.cellsOf 32 = 2 := by
  refine ⟨?_, ?_, ?_, ?_, ?_, ?_, ?_, ?_⟩ <;> kernel_rfl
def rollLaid : List (String × DataW Unit) := [("macadam/roll.begin", Rows.laid_macadam_roll_begin), ("macadam/roll.skies", Rows.laid_macadam_roll_skies)]
/-- What the rows' list gives. -/
theorem gok_of_laid {W : World} (h : laidMetH Tryd.prog rollLaid W) : GOK W := by
  have hd := (laidMetH_iff.1 h).1
  obtain ⟨g, t, cs, fuel, p, hg, ht, hv, htr⟩ := Go.Lib.laidMet.reads hd (n := "macadam/roll.begin") (d := Rows.laid_macadam_roll_begin) (by simp [rollLaid, Rows.laid_macadam_roll_begin, Rows.laid_macadam_roll_skies, DataW.handleName?])
  obtain rfl := Option.some.inj (gBegin.symm.trans hg)
  obtain rfl := Option.some.inj (tBegin.symm.trans ht)
  obtain ⟨y0, y1, n, hx, hl, h0, h1⟩ := trod_struct2 Tryd.underlying116 htr
  have hcs : cs.toList = [.int .i64 0, .int .i64 (-1)] := by
    rw [cells2.2.1] at hl
    rw [cells2.1] at h0 h1
    obtain ⟨a, ha, ea, _⟩ := DataW.trod_int Tryd.underlying3 h0
    obtain ⟨b, hb, eb, _⟩ := DataW.trod_int Tryd.underlying3 h1
    have hx1 := congrArg Prod.fst hx
    simp only [Rows.laid_macadam_roll_begin, ea, eb] at hx1
    injection hx1 with hx1
    injection hx1 with e0 hx1
    injection hx1 with e1 _
    injection e0 with e0
    injection e0 with _ e0
    injection e1 with e1
    injection e1 with _ e1
    subst e0
    subst e1
    match hm : cs.toList, hl with
    | [c0, c1], _ =>
      rw [hm] at ha hb
      simp at ha hb
      rw [ha, hb]
  obtain ⟨g, t, cs3, fuel, p, hg3, ht3, hv3, htr3⟩ := h.funcs (n := "macadam/roll.skies") (List.mem_cons_of_mem _ (List.mem_singleton.2 rfl))
  obtain rfl := Option.some.inj (gSkies.symm.trans hg3)
  obtain rfl := Option.some.inj (tSkies.symm.trans ht3)
  obtain ⟨xs, m, _, hx3, hl3, hxl, hall⟩ := DataW.trod_array Tryd.underlying217 htr3
  rw [cells2.2.2.2.1] at hl3
  have hfs : cs3.toList = [.func (.func 198) #[] #[], .func (.func 193) #[] #[], .func (.func 199) #[] #[]] := by
    rw [cells2.2.2.1] at hall
    match hm : cs3.toList, hl3, hxs : xs, hxl with
    | [c0, c1, c2], _, [x0, x1, x2], _ =>
      rw [hm] at hall
      have a0 := hall 0 (by omega)
      have a1 := hall 1 (by omega)
      have a2 := hall 2 (by omega)
      simp at a0 a1 a2
      have hf := congrArg Prod.fst hx3
      simp only [List.map_cons, List.map_nil] at hf
      have hf' : (DataW.agg [DataW.held [40, 109, 97, 99, 97, 100, 97, 109, 47, 114, 111, 108, 108, 46, 115, 116, 97, 116, 101, 41, 46, 100, 114, 121], DataW.held [40, 109, 97, 99, 97, 100, 97, 109, 47, 114, 111, 108, 108, 46, 115, 116, 97, 116, 101, 41, 46, 100, 97, 109, 112], DataW.held [40, 109, 97, 99, 97, 100, 97, 109, 47, 114, 111, 108, 108, 46, 115, 116, 97, 116, 101, 41, 46, 119, 101, 116]] : DataW (List UInt8)) = DataW.agg [x0.1, x1.1, x2.1] := hf
      injection hf' with hf'
      injection hf' with e0 hf'
      injection hf' with e1 hf'
      injection hf' with e2 _
      obtain ⟨d0, q0⟩ := x0
      obtain ⟨d1, q1⟩ := x1
      obtain ⟨d2, q2⟩ := x2
      simp only at e0 e1 e2
      subst e0
      subst e1
      subst e2
      rw [func_of_trod (f0 := 198) Tryd.underlying216 (by kernel_rfl) a0, func_of_trod (f0 := 193) Tryd.underlying216 (by kernel_rfl) a1, func_of_trod (f0 := 199) Tryd.underlying216 (by kernel_rfl) a2]
  have c0 := World.var?_cell hg hv
  have c3 := World.var?_cell hg3 hv3
  have e0 : cs = #[.int .i64 0, .int .i64 (-1)] := by rw [← Array.toList_inj]; exact hcs
  have e3 : cs3 = #[.func (.func 198) #[] #[], .func (.func 193) #[] #[], .func (.func 199) #[] #[]] := by rw [← Array.toList_inj]; exact hfs
  subst e0
  subst e3
  have s0 := c3 0
  exact ⟨World.block_lt_of_cell? W ⟨3, 0, none⟩ (c3 0), c0 0, c0 1, c3 0, c3 1, c3 2⟩
section
variable {H : Type} {enc : TypeId × Value → H} {w : World} {base : Nat} {spare : Nat → Bool} {held : Bool}
theorem cells_at {P : Program} {b n : Nat} {a : Addr} {cs : List Value} (h : w.cells? b a n = some cs) : cs.length = n ∧ ∀ j, j < n → w.cell? (a.add j) = cs[j]? := by
  obtain ⟨_, hl, hat⟩ := World.cells?_some h
  exact ⟨hl, hat⟩
theorem elem92 {fuel : Nat} {cs : List Value} {y : DataW H × List MemPlace} (h : DataW.trod enc Tryd.prog w base spare held fuel 92 cs = some y) : ∃ x : S92, cs = e92 x := by
  obtain ⟨y0, y1, n, hx, hl, h0, h1⟩ := trod_struct2 Tryd.underlying92 h
  rw [cells2.2.2.2.2.1] at hl
  rw [cells2.1] at h0 h1
  obtain ⟨a, ha, _, _⟩ := DataW.trod_int Tryd.underlying3 h0
  obtain ⟨b, hb, _, _⟩ := DataW.trod_int Tryd.underlying3 h1
  match cs, hl with
  | [c0, c1], _ =>
    simp at ha hb
    exact ⟨⟨a, b⟩, by rw [ha, hb]; rfl⟩
theorem elem43 {fuel : Nat} {cs : List Value} {y : DataW H × List MemPlace} (h : DataW.trod enc Tryd.prog w base spare held fuel 43 cs = some y) : ∃ x : S43, cs = e43 x := by
  obtain ⟨y0, y1, n, hx, hl, h0, h1⟩ := trod_struct2 Tryd.underlying43 h
  rw [cells2.2.2.2.2.2.1] at hl
  rw [cells2.1] at h0 h1
  obtain ⟨a, ha, _, _⟩ := DataW.trod_int Tryd.underlying3 h0
  obtain ⟨b, hb, _, _⟩ := DataW.trod_int Tryd.underlying3 h1
  match cs, hl with
  | [c0, c1], _ =>
    simp at ha hb
    exact ⟨⟨a, b⟩, by rw [ha, hb]; rfl⟩
set_option maxRecDepth 100000 in
theorem elem90 {fuel : Nat} {cs : List Value} {y : DataW H × List MemPlace} (h : DataW.trod enc Tryd.prog w base spare held fuel 90 cs = some y) : ∃ x : S90, cs = e90 x := by
  obtain ⟨y0, y1, n, hx, hl, h0, h1⟩ := trod_struct2 Tryd.underlying90 h
  rw [cells2.2.2.2.2.2.2.1] at hl
  obtain ⟨b, hb, _, _⟩ := DataW.trod_int Tryd.underlying3 h1
  obtain ⟨z0, z1, n, hz, hlz, g0, g1⟩ := trod_struct2 Tryd.underlying32 h0
  rw [cells2.1] at g0 g1
  obtain ⟨a, ha, _, _⟩ := DataW.trod_int Tryd.underlying3 g0
  obtain ⟨d, hd, _, _⟩ := DataW.trod_int Tryd.underlying3 g1
  match cs, hl with
  | [c0, c1, c2], _ =>
    simp [cells2.2.2.2.2.2.2.2, cells2.1] at ha hb hd
    exact ⟨⟨⟨a, d⟩, b⟩, by rw [ha, hb, hd]; rfl⟩
/-- A slice of elements that came in, as a row. -/
theorem open_rowOf {α : Type} {d : Kd α} {enc' : α → List Value} {t e sz : Nat} {v : Value} {y : DataW H × List MemPlace} {n : Nat} (ht : Tryd.prog.underlying t = some (.slice e)) (hsz : Tryd.prog.cellsOf e = sz) (hd : d.sz = sz) (hl : ∀ x, (enc' x).length = sz) (hK : ∀ x, d.K w x (enc' x))
    (he : ∀ {fuel : Nat} {cs : List Value} {y : DataW H × List MemPlace}, DataW.trod enc Tryd.prog w base spare held fuel e cs = some y → ∃ x : α, cs = enc' x) (h : DataW.trod enc Tryd.prog w base spare held n t [v] = some y) :
    ∃ A l c, v = .slice A l.length c ∧ Kd.C d w A l.length l ∧ l.length ≤ c := by
  rcases open_slice ht h with ⟨hcs, _⟩ | ⟨a, len, cap, m, n', D, Pl, hcs, hb, hl1, hm, hmm, hx, hi⟩
  · injection hcs with hcs
    exact ⟨none, [], 0, hcs, ⟨rfl, by simp, fun h => by simp at h⟩, Nat.le_refl _⟩
  · injection hcs with hcs
    subst hcs
    have hml : len ≤ m := by
      rw [hmm]
      split <;> omega
    have hel : ∀ i, i < len → ∃ x : α, ∀ j, j < sz → w.cell? ((a.add (i * sz)).add j) = (enc' x)[j]? := by
      intro i hil
      obtain ⟨cs', hc, htr⟩ := hi i (by omega)
      obtain ⟨x, rfl⟩ := he htr
      rw [hsz] at hc
      exact ⟨x, (cells_at (P := Tryd.prog) hc).2⟩
    obtain ⟨l, hll, hat⟩ : ∃ l : List α, l.length = len ∧ ∀ i (h : i < l.length), ∀ j, j < sz → w.cell? ((a.add (i * sz)).add j) = (enc' l[i])[j]? := by
      clear hi hx hmm hm hl1 h hml
      induction len with
      | zero => exact ⟨[], rfl, fun i h => by simp at h⟩
      | succ k ih =>
        obtain ⟨l, hl', hat⟩ := ih (fun i hi => hel i (by omega))
        obtain ⟨x, hx⟩ := hel k (by omega)
        refine ⟨l ++ [x], by simp [hl'], fun i h j hj => ?_⟩
        by_cases hik : i < l.length
        · rw [List.getElem_append_left hik]
          exact hat i hik j hj
        · have : i = l.length := by simp at h; omega
          subst this
          rw [List.getElem_append_right (Nat.le_refl _)]
          simp only [Nat.sub_self, List.getElem_singleton]
          rw [hl']
          exact hx j hj
    subst hll
    refine ⟨some a, l, cap, rfl, ⟨rfl, by unfold maxLen at hm; omega, fun hp => ⟨a, rfl, fun j p hj => ?_⟩⟩, hl1⟩
    have hjl : j < l.length := (List.getElem?_eq_some_iff.1 hj).1
    have hpe : l[j] = p := (List.getElem?_eq_some_iff.1 hj).2
    refine ⟨enc' p, by rw [hl, hd], hK p, fun i u hu => ?_⟩
    have hil : i < sz := by
      have := (List.getElem?_eq_some_iff.1 hu).1
      rwa [hl] at this
    rw [hd, ← Go.Deep.add_add, hat j hjl i hil, hpe]
    exact hu
set_option maxRecDepth 100000 in
theorem open_book {r : Reach} {b0 : Nat} {v : Value} {d : DataW H} {p : List MemPlace} (hv : Value.okWide Tryd.prog w r b0 26 v) (h : DataW.Trod enc Tryd.prog w base spare held 26 v d p) :
    ∃ A0 A1 A2 c0 c1 c2 l0 l1 l2, v = .agg #[.slice A0 (l0 : List S92).length c0, .slice A1 (l1 : List S90).length c1, .slice A2 (l2 : List S43).length c2] ∧ BookAt w A0 A1 A2 c0 c1 c2 l0 l1 l2 := by
  obtain ⟨v0, v1, v2, y0, y1, y2, n, rfl, _, _, h0, h1, h2⟩ := open_agg3 Tryd.underlying26 (by kernel_rfl) (by kernel_rfl) hv h
  obtain ⟨A0, l0, c0, rfl, r0, q0⟩ := open_rowOf (d := k92) (enc' := e92) Tryd.underlying22 cells2.2.2.2.2.1 rfl (fun _ => rfl) (fun x => k92_mk w x) (fun h => elem92 h) h0
  obtain ⟨A1, l1, c1, rfl, r1, q1⟩ := open_rowOf (d := k90) (enc' := e90) Tryd.underlying23 cells2.2.2.2.2.2.2.1 rfl (fun _ => rfl) (fun x => k90_mk w x) (fun h => elem90 h) h1
  obtain ⟨A2, l2, c2, rfl, r2, q2⟩ := open_rowOf (d := k43) (enc' := e43) Tryd.underlying24 cells2.2.2.2.2.2.1 rfl (fun _ => rfl) (fun x => k43_mk w x) (fun h => elem43 h) h2
  exact ⟨A0, A1, A2, c0, c1, c2, l0, l1, l2, rfl, r0, q0, r1, q1, r2, q2⟩
end
theorem door_met (os : Os) (args : Array Value) : laidMetH Tryd.prog rollLaid ((World.doorLaid Tryd.prog 600 os).forCall (fun _ _ => 0) ⟨#[], args, []⟩).memory :=
  laidMetH_of_parts3 (fuel := 8) (laidMet_of_run' 8 (by kernel_rfl) (by kernel_rfl)) (by kernel_rfl) (by kernel_rfl)
end Go.Proofs.YthgjedagbgmgmaaDoor.Pr
namespace Go.Proofs.YthgjedagbgmgmaaDoor.Pr
open Go.ChangeShapes Go.WideShapes Go.ChangeAt Go.RowKit Go.Joins Go.Deep
set_option linter.unusedVariables false
set_option linter.unusedSimpArgs false
theorem cells84 : Tryd.prog.cellsOf 84 = 2 := by kernel_rfl
theorem okWide_array2 {P : Program} {w : World} {r : Reach} {base : Nat} {t e : TypeId} {n : Nat} {v : Value} (ht : P.underlying t = some (.array n e)) (h : Value.okWide P w r base t v) : ∃ cs, v = .agg cs ∧ cs.size = P.cellsOf t := by
  simp only [Value.okWide, ht] at h
  obtain ⟨cs, h1, h2, _⟩ := h
  exact ⟨cs, h1, h2⟩
set_option maxRecDepth 100000 in
theorem open_pair {H : Type} {enc : TypeId × Value → H} {w : World} {base : Nat} {spare : Nat → Bool} {held : Bool} {r : Reach} {b0 : Nat} {v : Value} {d : DataW H} {p : List MemPlace} (hv : Value.okWide Tryd.prog w r b0 84 v) (h : DataW.Trod enc Tryd.prog w base spare held 84 v d p) :
    ∃ a b : Int, v = .agg #[.int .i64 a, .int .i64 b] := by
  have hu : Tryd.prog.underlying 84 = some (.array 2 3) := by kernel_rfl
  obtain ⟨cs, rfl, hsz⟩ : ∃ cs, v = .agg cs ∧ cs.size = Tryd.prog.cellsOf 84 := okWide_array2 hu hv
  rw [cells84] at hsz
  obtain ⟨fuel, hf⟩ := h
  obtain ⟨xs, m, _, _, hl, hxl, hall⟩ := DataW.trod_array hu hf
  rw [cells2.1] at hall
  obtain ⟨l⟩ := cs
  match l, hsz, xs, hxl with
  | [c0, c1], _, [x0, x1], _ =>
    have a0 := hall 0 (by omega)
    have a1 := hall 1 (by omega)
    simp [Value.cells] at a0 a1
    obtain ⟨a, ha, _, _⟩ := DataW.trod_int Tryd.underlying3 a0
    obtain ⟨b, hb, _, _⟩ := DataW.trod_int Tryd.underlying3 a1
    simp at ha hb
    exact ⟨a, b, by rw [ha, hb]⟩
end Go.Proofs.YthgjedagbgmgmaaDoor.Pr
namespace Go.Proofs.YthgjedagbgmgmaaDoor.Pr
open Go.RowKit Go.Proofs.YthgjedagbgmgmaaDoorW.PrintWords Go.Proofs.YthgjedagbgmgmaaDoorW.PrintLast Go.Proofs.YthgjedagbgmgmaaDoorW.PrintMore
set_option linter.unusedVariables false
set_option linter.unusedSimpArgs false
theorem C_of_frow {w : World} {A : Option Addr} {xs : List Int} (h : FRow eI 1 w A xs) (hn : xs.length ≤ 1000) : Kd.C (Kd.int .i64) w A xs.length xs := by
  refine ⟨rfl, by omega, fun hp => ?_⟩
  rcases h with rfl | ⟨b, o, e, _, hc⟩
  · simp at hp
  · refine ⟨_, e, fun j p hj => ⟨eI p, rfl, rfl, fun i u hu => ?_⟩⟩
    rw [Addr.add_mid, ← Nat.add_assoc]
    exact hc j p hj i u hu
theorem rl0 (W : World) (A0 A1 A2 : Option Addr) (c0 c1 c2 : Nat) (hG : GOK W) (h : BookAt W A0 A1 A2 c0 c1 c2 ownL ownD ownK) : Calls Tryd.prog 21 #[.agg #[.slice A0 2 c0, .slice A1 4 c1, .slice A2 0 c2], .int .i64 3] W fun e w' => e = .returned (.tuple #[.agg #[.int .i64 0, .int .i64 2], .int .i64 0]) ∧ Below W.heap.size W w' := by
  have hc := bound_calls A0 A1 A2 c0 c1 c2 ownL ownD ownK W hG h.r0 h.c0 h.r1 h.c1 h.r2 h.c2 3
  rw [ev0] at hc
  exact hc
theorem rl1 (W : World) (A0 A1 A2 : Option Addr) (c0 c1 c2 : Nat) (hG : GOK W) (h : BookAt W A0 A1 A2 c0 c1 c2 ownL ownD ownK) : Calls Tryd.prog 30 #[.agg #[.slice A0 2 c0, .slice A1 4 c1, .slice A2 0 c2]] W fun e w' => e = .returned (.tuple #[.agg #[.int .i64 7, .int .i64 10], .int .i64 0]) ∧ Below W.heap.size W w' := by
  have hc := laid_calls A0 A1 A2 c0 c1 c2 ownL ownD ownK W hG h.r0 h.c0 h.r1 h.c1 h.r2 h.c2
  rw [ev1] at hc
  exact hc
theorem rl2 (W : World) (A0 A1 A2 : Option Addr) (c0 c1 c2 : Nat) (hG : GOK W) (h : BookAt W A0 A1 A2 c0 c1 c2 ownL ownD lateK) : Calls Tryd.prog 25 #[.agg #[.slice A0 2 c0, .slice A1 4 c1, .slice A2 1 c2], .int .i64 2] W fun e w' => e = .returned (.tuple #[.int .i64 4, .int .i64 0]) ∧ Below W.heap.size W w' := by
  have hc := sky_calls A0 A1 A2 c0 c1 c2 ownL ownD lateK W hG h.r0 h.c0 h.r1 h.c1 h.r2 h.c2 2
  rw [ev2] at hc
  exact hc
theorem rl3 (W : World) (A0 A1 A2 : Option Addr) (c0 c1 c2 : Nat) (hG : GOK W) (h : BookAt W A0 A1 A2 c0 c1 c2 ownL ownD earlyK) : Calls Tryd.prog 32 #[.agg #[.slice A0 2 c0, .slice A1 4 c1, .slice A2 1 c2]] W fun e w' => e = .returned (.tuple #[.int .i64 3, .int .i64 0]) ∧ Below W.heap.size W w' := by
  have hc := done_calls A0 A1 A2 c0 c1 c2 ownL ownD earlyK W hG h.r0 h.c0 h.r1 h.c1 h.r2 h.c2
  rw [ev3] at hc
  exact hc
theorem rl4 (W : World) (A0 A1 A2 : Option Addr) (c0 c1 c2 : Nat) (hG : GOK W) (h : BookAt W A0 A1 A2 c0 c1 c2 ownL ownD ownK) : Calls Tryd.prog 36 #[.agg #[.slice A0 2 c0, .slice A1 4 c1, .slice A2 0 c2]] W fun e w' => e = .returned (.tuple #[.int .i64 1, .int .i64 0]) ∧ Below W.heap.size W w' := by
  have hc := water_calls A0 A1 A2 c0 c1 c2 ownL ownD ownK W hG h.r0 h.c0 h.r1 h.c1 h.r2 h.c2
  rw [ev4] at hc
  exact hc
theorem rl5 (W : World) (A0 A1 A2 : Option Addr) (c0 c1 c2 : Nat) (hG : GOK W) (h : BookAt W A0 A1 A2 c0 c1 c2 ownL ownD earlyK) : Calls Tryd.prog 28 #[.agg #[.slice A0 2 c0, .slice A1 4 c1, .slice A2 1 c2]] W fun e w' => e = .returned (.tuple #[.agg #[.int .i64 0, .int .i64 3], .int .i64 0]) ∧ Below W.heap.size W w' := by
  have hc := lost_calls A0 A1 A2 c0 c1 c2 ownL ownD earlyK W hG h.r0 h.c0 h.r1 h.c1 h.r2 h.c2
  rw [ev5] at hc
  exact hc
theorem rl6 (W : World) (A0 A1 A2 : Option Addr) (c0 c1 c2 : Nat) (hG : GOK W) (h : BookAt W A0 A1 A2 c0 c1 c2 ownL ownD ownK) : Calls Tryd.prog 23 #[.agg #[.slice A0 2 c0, .slice A1 4 c1, .slice A2 0 c2], .int .i64 1] W fun e w' => e = .returned (.tuple #[.agg #[.int .i64 2, .int .i64 3], .int .i64 0]) ∧ Below W.heap.size W w' := by
  have hc := wagons_calls A0 A1 A2 c0 c1 c2 ownL ownD ownK W hG h.r0 h.c0 h.r1 h.c1 h.r2 h.c2 1
  rw [ev6] at hc
  exact hc
theorem rl7 (W : World) (A0 A1 A2 : Option Addr) (c0 c1 c2 : Nat) (hG : GOK W) (h : BookAt W A0 A1 A2 c0 c1 c2 ownL ownD ownK) : Calls Tryd.prog 34 #[.agg #[.slice A0 2 c0, .slice A1 4 c1, .slice A2 0 c2]] W fun e w' => e = .returned (.tuple #[.int .i64 3, .int .i64 0]) ∧ Below W.heap.size W w' := by
  have hc := perhaps_calls A0 A1 A2 c0 c1 c2 ownL ownD ownK W hG h.r0 h.c0 h.r1 h.c1 h.r2 h.c2
  rw [ev7] at hc
  exact hc
theorem rl8 (W : World) (A0 A1 A2 : Option Addr) (c0 c1 c2 : Nat) (hG : GOK W) (h : BookAt W A0 A1 A2 c0 c1 c2 ownL ownD ownK) : Calls Tryd.prog 38 #[.agg #[.slice A0 2 c0, .slice A1 4 c1, .slice A2 0 c2], .agg #[.int .i64 3, .int .i64 0]] W fun e w' => e = .returned (.tuple #[.bool true, .int .i64 0]) ∧ Below W.heap.size W w' := by
  have hc := fits_calls A0 A1 A2 c0 c1 c2 ownL ownD ownK W hG h.r0 h.c0 h.r1 h.c1 h.r2 h.c2 ⟨3, 0⟩
  rw [ev8] at hc
  exact hc
theorem rl9 (W : World) (A0 A1 A2 : Option Addr) (c0 c1 c2 : Nat) (hG : GOK W) (h : BookAt W A0 A1 A2 c0 c1 c2 ownL ownD tornK) : Calls Tryd.prog 40 #[.agg #[.slice A0 2 c0, .slice A1 4 c1, .slice A2 2 c2]] W fun e w' => ∃ A c, e = .returned (.tuple #[.slice A 1 c, .int .i64 0]) ∧ Kd.C (Kd.int .i64) w' A 1 [0] ∧ 1 ≤ c ∧ Below W.heap.size W w' := by
  have hc := wrong_calls A0 A1 A2 c0 c1 c2 ownL ownD tornK W hG h.r0 h.c0 h.r1 h.c1 h.r2 h.c2
  rw [ev9] at hc
  refine hc.mono ?_
  rintro e w' ⟨v, rfl, ⟨A, c, rfl, hF, hcc⟩, hb⟩
  exact ⟨A, c, rfl, C_of_frow hF (by decide), hcc, hb⟩
theorem rl10 (W : World) (A0 A1 A2 : Option Addr) (c0 c1 c2 : Nat) (hG : GOK W) (h : BookAt W A0 A1 A2 c0 c1 c2 ownL ownD ownK) : Calls Tryd.prog 17 #[.agg #[.slice A0 2 c0, .slice A1 4 c1, .slice A2 0 c2]] W fun e w' => e = .returned (.tuple #[.bool true, .int .i64 0]) ∧ Below W.heap.size W w' := by
  have hc := rightX_calls A0 A1 A2 c0 c1 c2 ownL ownD ownK W hG h.r0 h.c0 h.r1 h.c1 h.r2 h.c2
  rw [ev10] at hc
  exact hc
theorem C_new (W : World) : Kd.C (Kd.int .i64) (W.alloc (.cells #[.int .i64 0] 3)) (some ⟨W.heap.size, 0, none⟩) 1 [0] := by
  have h : FRow eI 1 (W.alloc (.cells #[.int .i64 0] 3)) (some ⟨W.heap.size, 0, none⟩) [0] := by
    refine .inr ⟨W.heap.size, 0, rfl, by simp, fun i x hx j v hv => ?_⟩
    rcases i with _ | i
    · rcases j with _ | j
      · injection hx with hx
        subst hx
        injection hv with hv
        subst hv
        exact (blk_cell (blk_new W _) 0).trans rfl
      · simp [eI] at hv
    · simp at hx
  exact C_of_frow h (by decide)
set_option maxHeartbeats 4000000 in
set_option maxRecDepth 100000 in
theorem rolled_calls (w : World) (hG : GOK w) : Calls Tryd.prog 27 #[] w fun e w' => e = .returned (.bool true) ∧ Below w.heap.size w w' := by
  go_enter Tryd.func27, Tryd.ntmps27
  have HG := Lib.hid hG
  clear hG
  have HB0 := Lib.hid (Below.refl w.heap.size w)
  go_wp2_with fail
  refine (ownB_calls _).mono ?_
  rintro e w1 ⟨A0, A1, A2, c0, c1, c2, rfl, hk, hb⟩
  have HB1 := Lib.hid (HB0.out.trans (below_weaken hb (HB0.out.size)))
  have HK := Lib.hid hk
  clear hk
  clear hb
  go_wp2_with fail
  refine (rl0 _ A0 A1 A2 c0 c1 c2 (HG.out.below HB1.out) HK.out).mono ?_
  rintro e w2 ⟨rfl, hb⟩
  have HB2 := Lib.hid (HB1.out.trans (below_weaken hb (HB1.out.size)))
  clear HK
  clear hb
  go_wp2_with fail
  refine (ownB_calls _).mono ?_
  rintro e w3 ⟨A0, A1, A2, c0, c1, c2, rfl, hk, hb⟩
  have K3 := Lib.hid (blk_below (blk_new w2 (.cells #[.int .i64 0, .int .i64 2] 32)) hb)
  have HB3 := Lib.hid ((HB2.out.alloc HB2.out.size (.cells #[.int .i64 0, .int .i64 2] 32)).trans (below_weaken hb ((HB2.out.alloc HB2.out.size (.cells #[.int .i64 0, .int .i64 2] 32)).size)))
  have HK := Lib.hid hk
  clear hk
  clear hb
  go_wp2_with fail
  refine (rl1 _ A0 A1 A2 c0 c1 c2 (HG.out.below HB3.out) HK.out).mono ?_
  rintro e w4 ⟨rfl, hb⟩
  have K3n := Lib.hid (blk_below K3.out hb)
  clear K3
  have K3 := K3n
  clear K3n
  have HB4 := Lib.hid (HB3.out.trans (below_weaken hb (HB3.out.size)))
  clear HK
  clear hb
  go_wp2_with fail
  refine (lateB_calls _).mono ?_
  rintro e w5 ⟨A0, A1, A2, c0, c1, c2, rfl, hk, hb⟩
  have K3n := Lib.hid (blk_below (blk_alloc K3.out (.cells #[.int .i64 7, .int .i64 10] 32)) hb)
  clear K3
  have K3 := K3n
  clear K3n
  have K5 := Lib.hid (blk_below (blk_new w4 (.cells #[.int .i64 7, .int .i64 10] 32)) hb)
  have HB5 := Lib.hid ((HB4.out.alloc HB4.out.size (.cells #[.int .i64 7, .int .i64 10] 32)).trans (below_weaken hb ((HB4.out.alloc HB4.out.size (.cells #[.int .i64 7, .int .i64 10] 32)).size)))
  have HK := Lib.hid hk
  clear hk
  clear hb
  go_wp2_with fail
  refine (rl2 _ A0 A1 A2 c0 c1 c2 (HG.out.below HB5.out) HK.out).mono ?_
  rintro e w6 ⟨rfl, hb⟩
  have K3n := Lib.hid (blk_below K3.out hb)
  clear K3
  have K3 := K3n
  clear K3n
  have K5n := Lib.hid (blk_below K5.out hb)
  clear K5
  have K5 := K5n
  clear K5n
  have HB6 := Lib.hid (HB5.out.trans (below_weaken hb (HB5.out.size)))
  clear HK
  clear hb
  go_wp2_with fail
  refine (earlyB_calls _).mono ?_
  rintro e w7 ⟨A0, A1, A2, c0, c1, c2, rfl, hk, hb⟩
  have K3n := Lib.hid (blk_below K3.out hb)
  clear K3
  have K3 := K3n
  clear K3n
  have K5n := Lib.hid (blk_below K5.out hb)
  clear K5
  have K5 := K5n
  clear K5n
  have HB7 := Lib.hid (HB6.out.trans (below_weaken hb (HB6.out.size)))
  have HK := Lib.hid hk
  clear hk
  clear hb
  go_wp2_with fail
  refine (rl3 _ A0 A1 A2 c0 c1 c2 (HG.out.below HB7.out) HK.out).mono ?_
  rintro e w8 ⟨rfl, hb⟩
  have K3n := Lib.hid (blk_below K3.out hb)
  clear K3
  have K3 := K3n
  clear K3n
  have K5n := Lib.hid (blk_below K5.out hb)
  clear K5
  have K5 := K5n
  clear K5n
  have HB8 := Lib.hid (HB7.out.trans (below_weaken hb (HB7.out.size)))
  clear HK
  clear hb
  go_wp2_with fail
  refine (ownB_calls _).mono ?_
  rintro e w9 ⟨A0, A1, A2, c0, c1, c2, rfl, hk, hb⟩
  have K3n := Lib.hid (blk_below K3.out hb)
  clear K3
  have K3 := K3n
  clear K3n
  have K5n := Lib.hid (blk_below K5.out hb)
  clear K5
  have K5 := K5n
  clear K5n
  have HB9 := Lib.hid (HB8.out.trans (below_weaken hb (HB8.out.size)))
  have HK := Lib.hid hk
  clear hk
  clear hb
  go_wp2_with fail
  refine (rl4 _ A0 A1 A2 c0 c1 c2 (HG.out.below HB9.out) HK.out).mono ?_
  rintro e w10 ⟨rfl, hb⟩
  have K3n := Lib.hid (blk_below K3.out hb)
  clear K3
  have K3 := K3n
  clear K3n
  have K5n := Lib.hid (blk_below K5.out hb)
  clear K5
  have K5 := K5n
  clear K5n
  have HB10 := Lib.hid (HB9.out.trans (below_weaken hb (HB9.out.size)))
  clear HK
  clear hb
  go_upto_region 6 with fail
  have hBD : Below w10.heap.size w10 w10.drew := by repeat (first | exact Below.refl _ _ | refine Below.alloc ?_ (by simp <;> omega) _ | refine Below.setCell ?_ (by simp <;> omega) _ | apply Below.drew)
  have K3D := Lib.hid (blk_below K3.out hBD)
  have K5D := Lib.hid (blk_below K5.out hBD)
  have HBD := Lib.hid (HB10.out.trans (below_weaken hBD HB10.out.size))
  clear hBD
  refine start_ (n := 40) (S := fun w' => w'.cell? ⟨w2.heap.size, 0, none⟩ = some (.int .i64 0) ∧ w'.cell? ⟨w2.heap.size, 1, none⟩ = some (.int .i64 2) ∧ w'.cell? ⟨w4.heap.size, 0, none⟩ = some (.int .i64 7) ∧ w'.cell? ⟨w4.heap.size, 1, none⟩ = some (.int .i64 10)) (ds := []) #[false, false, false, false, false, false, false, false, false, false, false, false, false, false, false, false, false, false, false, false, false, false, false, false, false, false, false, false, false, false, false, false, false, false, false, false, false, false, false, false] (by kernel_rfl) rfl rfl ⟨(blk_cell (K3D.out) 0).trans rfl, (blk_cell (K3D.out) 1).trans rfl, (blk_cell (K5D.out) 0).trans rfl, (blk_cell (K5D.out) 1).trans rfl⟩ (fun hHeld => ?_)
  refine pure_ (i := 0) (N := some 43) (v := ?_) (a' := ?_) #[true, false, false, false, false, false, false, false, false, false, false, false, false, false, false, false, false, false, false, false, false, false, false, false, false, false, false, false, false, false, false, false, false, false, false, false, false, false, false, false] rfl rfl (by kernel_rfl) (fun _ _ _ h => h) (Or.inl ⟨by rfl, ?_⟩) ?_ ?_
  rotate_left
  · intro w'
    go_simp
    with_reducible rfl
  rotate_left
  · simp only [Act.put, List.setIfInBounds_toArray, List.set_cons_zero, List.set_cons_succ, i64_w, i32_w]
    rfl
  refine pure_ (i := 1) (N := some 44) (v := ?_) (a' := ?_) #[true, true, false, false, false, false, false, false, false, false, false, false, false, false, false, false, false, false, false, false, false, false, false, false, false, false, false, false, false, false, false, false, false, false, false, false, false, false, false, false] rfl rfl (by kernel_rfl) (fun _ _ _ h => h) (Or.inl ⟨by rfl, ?_⟩) ?_ ?_
  rotate_left
  · intro w'
    go_simp
    with_reducible rfl
  rotate_left
  · simp only [Act.put, List.setIfInBounds_toArray, List.set_cons_zero, List.set_cons_succ, i64_w, i32_w]
    rfl
  refine pure_ (i := 2) (N := some 45) (v := ?_) (a' := ?_) #[true, true, true, false, false, false, false, false, false, false, false, false, false, false, false, false, false, false, false, false, false, false, false, false, false, false, false, false, false, false, false, false, false, false, false, false, false, false, false, false] rfl rfl (by kernel_rfl) (fun _ _ _ h => h) (Or.inl ⟨by rfl, ?_⟩) ?_ ?_
  rotate_left
  · intro w'
    go_simp
    with_reducible rfl
  rotate_left
  · simp only [Act.put, List.setIfInBounds_toArray, List.set_cons_zero, List.set_cons_succ, i64_w, i32_w]
    rfl
  refine pure_ (i := 3) (N := some 46) (v := ?_) (a' := ?_) #[true, true, true, true, false, false, false, false, false, false, false, false, false, false, false, false, false, false, false, false, false, false, false, false, false, false, false, false, false, false, false, false, false, false, false, false, false, false, false, false] rfl rfl (by kernel_rfl) (fun _ _ _ h => h) (Or.inl ⟨by rfl, ?_⟩) ?_ ?_
  rotate_left
  · intro w'
    go_simp
    with_reducible rfl
  rotate_left
  · simp only [Act.put, List.setIfInBounds_toArray, List.set_cons_zero, List.set_cons_succ, i64_w, i32_w]
    rfl
  refine pure_ (i := 4) (N := some 47) (v := ?_) (a' := ?_) #[true, true, true, true, true, false, false, false, false, false, false, false, false, false, false, false, false, false, false, false, false, false, false, false, false, false, false, false, false, false, false, false, false, false, false, false, false, false, false, false] rfl rfl (by kernel_rfl) (fun _ _ _ h => h) (Or.inl ⟨by rfl, ?_⟩) ?_ ?_
  rotate_left
  · intro w'
    go_simp
    with_reducible rfl
  rotate_left
  · simp only [Act.put, List.setIfInBounds_toArray, List.set_cons_zero, List.set_cons_succ, i64_w, i32_w]
    rfl
  refine pure_ (i := 5) (N := some 48) (v := ?_) (a' := ?_) #[true, true, true, true, true, true, false, false, false, false, false, false, false, false, false, false, false, false, false, false, false, false, false, false, false, false, false, false, false, false, false, false, false, false, false, false, false, false, false, false] rfl rfl (by kernel_rfl) (fun _ _ _ h => h) (Or.inl ⟨by rfl, ?_⟩) ?_ ?_
  rotate_left
  · intro w'
    go_simp
    with_reducible rfl
  rotate_left
  · simp only [Act.put, List.setIfInBounds_toArray, List.set_cons_zero, List.set_cons_succ, i64_w, i32_w]
    rfl
  refine pure_ (i := 6) (N := some 49) (v := ?_) (a' := ?_) #[true, true, true, true, true, true, true, false, false, false, false, false, false, false, false, false, false, false, false, false, false, false, false, false, false, false, false, false, false, false, false, false, false, false, false, false, false, false, false, false] rfl rfl (by kernel_rfl) (fun _ _ _ h => h) (Or.inl ⟨by rfl, ?_⟩) ?_ ?_
  rotate_left
  · intro w'
    go_simp
    with_reducible rfl
  rotate_left
  · simp only [Act.put, List.setIfInBounds_toArray, List.set_cons_zero, List.set_cons_succ, i64_w, i32_w]
    rfl
  refine pure_ (i := 7) (N := some 50) (v := ?_) (a' := ?_) #[true, true, true, true, true, true, true, true, false, false, false, false, false, false, false, false, false, false, false, false, false, false, false, false, false, false, false, false, false, false, false, false, false, false, false, false, false, false, false, false] rfl rfl (by kernel_rfl) (fun _ _ _ h => h) (Or.inl ⟨by rfl, ?_⟩) ?_ ?_
  rotate_left
  · intro w'
    go_simp
    with_reducible rfl
  rotate_left
  · simp only [Act.put, List.setIfInBounds_toArray, List.set_cons_zero, List.set_cons_succ, i64_w, i32_w]
    rfl
  refine pure_ (i := 8) (N := some 51) (v := ?_) (a' := ?_) #[true, true, true, true, true, true, true, true, true, false, false, false, false, false, false, false, false, false, false, false, false, false, false, false, false, false, false, false, false, false, false, false, false, false, false, false, false, false, false, false] rfl rfl (by kernel_rfl) (fun _ _ _ h => h) (Or.inl ⟨by rfl, ?_⟩) ?_ ?_
  rotate_left
  · intro w'
    go_simp
    with_reducible rfl
  rotate_left
  · simp only [Act.put, List.setIfInBounds_toArray, List.set_cons_zero, List.set_cons_succ, i64_w, i32_w]
    rfl
  refine pure_ (i := 9) (N := some 52) (v := ?_) (a' := ?_) #[true, true, true, true, true, true, true, true, true, true, false, false, false, false, false, false, false, false, false, false, false, false, false, false, false, false, false, false, false, false, false, false, false, false, false, false, false, false, false, false] rfl rfl (by kernel_rfl) (fun _ _ _ h => h) (Or.inl ⟨by rfl, ?_⟩) ?_ ?_
  rotate_left
  · intro w'
    go_simp
    with_reducible rfl
  rotate_left
  · simp only [Act.put, List.setIfInBounds_toArray, List.set_cons_zero, List.set_cons_succ, i64_w, i32_w]
    rfl
  refine pure_ (i := 10) (N := some 53) (v := ?_) (a' := ?_) #[true, true, true, true, true, true, true, true, true, true, true, false, false, false, false, false, false, false, false, false, false, false, false, false, false, false, false, false, false, false, false, false, false, false, false, false, false, false, false, false] rfl rfl (by kernel_rfl) (fun _ _ _ h => h) (Or.inl ⟨by rfl, ?_⟩) ?_ ?_
  rotate_left
  · intro w'
    go_simp
    with_reducible rfl
  rotate_left
  · simp only [Act.put, List.setIfInBounds_toArray, List.set_cons_zero, List.set_cons_succ, i64_w, i32_w]
    rfl
  refine pure_ (i := 11) (N := some 54) (v := ?_) (a' := ?_) #[true, true, true, true, true, true, true, true, true, true, true, true, false, false, false, false, false, false, false, false, false, false, false, false, false, false, false, false, false, false, false, false, false, false, false, false, false, false, false, false] rfl rfl (by kernel_rfl) (fun _ _ _ h => h) (Or.inl ⟨by rfl, ?_⟩) ?_ ?_
  rotate_left
  · intro w'
    go_simp
    with_reducible rfl
  rotate_left
  · simp only [Act.put, List.setIfInBounds_toArray, List.set_cons_zero, List.set_cons_succ, i64_w, i32_w]
    rfl
  refine pure_ (i := 12) (N := some 55) (v := ?_) (a' := ?_) #[true, true, true, true, true, true, true, true, true, true, true, true, true, false, false, false, false, false, false, false, false, false, false, false, false, false, false, false, false, false, false, false, false, false, false, false, false, false, false, false] rfl rfl (by kernel_rfl) (fun _ _ _ h => h) (Or.inl ⟨by rfl, ?_⟩) ?_ ?_
  rotate_left
  · intro w'
    go_simp
    with_reducible rfl
  rotate_left
  · simp only [Act.put, List.setIfInBounds_toArray, List.set_cons_zero, List.set_cons_succ, i64_w, i32_w]
    rfl
  refine pure_ (i := 13) (N := some 56) (v := ?_) (a' := ?_) #[true, true, true, true, true, true, true, true, true, true, true, true, true, true, false, false, false, false, false, false, false, false, false, false, false, false, false, false, false, false, false, false, false, false, false, false, false, false, false, false] rfl rfl (by kernel_rfl) (fun _ _ _ h => h) (Or.inl ⟨by rfl, ?_⟩) ?_ ?_
  rotate_left
  · intro w'
    go_simp
    with_reducible rfl
  rotate_left
  · simp only [Act.put, List.setIfInBounds_toArray, List.set_cons_zero, List.set_cons_succ, i64_w, i32_w]
    rfl
  refine pure_ (i := 14) (N := some 57) (v := ?_) (a' := ?_) #[true, true, true, true, true, true, true, true, true, true, true, true, true, true, true, false, false, false, false, false, false, false, false, false, false, false, false, false, false, false, false, false, false, false, false, false, false, false, false, false] rfl rfl (by kernel_rfl) (fun _ _ _ h => h) (Or.inl ⟨by rfl, ?_⟩) ?_ ?_
  rotate_left
  · intro w'
    go_simp
    with_reducible rfl
  rotate_left
  · simp only [Act.put, List.setIfInBounds_toArray, List.set_cons_zero, List.set_cons_succ, i64_w, i32_w]
    rfl
  refine pure_ (i := 15) (N := some 58) (v := ?_) (a' := ?_) #[true, true, true, true, true, true, true, true, true, true, true, true, true, true, true, true, false, false, false, false, false, false, false, false, false, false, false, false, false, false, false, false, false, false, false, false, false, false, false, false] rfl rfl (by kernel_rfl) (fun _ _ _ h => h) (Or.inl ⟨by rfl, ?_⟩) ?_ ?_
  rotate_left
  · intro w'
    go_simp
    with_reducible rfl
  rotate_left
  · simp only [Act.put, List.setIfInBounds_toArray, List.set_cons_zero, List.set_cons_succ, i64_w, i32_w]
    rfl
  refine pure_ (i := 16) (N := some 59) (v := ?_) (a' := ?_) #[true, true, true, true, true, true, true, true, true, true, true, true, true, true, true, true, true, false, false, false, false, false, false, false, false, false, false, false, false, false, false, false, false, false, false, false, false, false, false, false] rfl rfl (by kernel_rfl) (fun _ _ _ h => h) (Or.inl ⟨by rfl, ?_⟩) ?_ ?_
  rotate_left
  · intro w'
    go_simp
    with_reducible rfl
  rotate_left
  · simp only [Act.put, List.setIfInBounds_toArray, List.set_cons_zero, List.set_cons_succ, i64_w, i32_w]
    rfl
  refine pure_ (i := 17) (N := some 60) (v := ?_) (a' := ?_) #[true, true, true, true, true, true, true, true, true, true, true, true, true, true, true, true, true, true, false, false, false, false, false, false, false, false, false, false, false, false, false, false, false, false, false, false, false, false, false, false] rfl rfl (by kernel_rfl) (fun _ _ _ h => h) (Or.inl ⟨by rfl, ?_⟩) ?_ ?_
  rotate_left
  · intro w'
    go_simp
    with_reducible rfl
  rotate_left
  · simp only [Act.put, List.setIfInBounds_toArray, List.set_cons_zero, List.set_cons_succ, i64_w, i32_w]
    rfl
  refine pure_ (i := 18) (N := some 61) (v := ?_) (a' := ?_) #[true, true, true, true, true, true, true, true, true, true, true, true, true, true, true, true, true, true, true, false, false, false, false, false, false, false, false, false, false, false, false, false, false, false, false, false, false, false, false, false] rfl rfl (by kernel_rfl) (fun _ _ _ h => h) (Or.inl ⟨by rfl, ?_⟩) ?_ ?_
  rotate_left
  · intro w'
    go_simp
    with_reducible rfl
  rotate_left
  · simp only [Act.put, List.setIfInBounds_toArray, List.set_cons_zero, List.set_cons_succ, i64_w, i32_w]
    rfl
  refine take_ (i := 19) (N := some 62) (v := ?_) (a' := ?_) #[true, true, true, true, true, true, true, true, true, true, true, true, true, true, true, true, true, true, true, true, false, false, false, false, false, false, false, false, false, false, false, false, false, false, false, false, false, false, false, false] rfl rfl (by kernel_rfl) (fun _ _ _ h => h) (Or.inl ⟨by rfl, ?_⟩) hHeld ?_ ?_
  rotate_left
  · rintro w' ⟨s0, s1, s2, s3⟩
    go_simp
    with_reducible rfl
  rotate_left
  · simp only [Act.put, List.setIfInBounds_toArray, List.set_cons_zero, List.set_cons_succ, i64_w, i32_w]
    rfl
  refine one_ (i := 20) (N := some 63) #[true, true, true, true, true, true, true, true, true, true, true, true, true, true, true, true, true, true, true, true, true, false, false, false, false, false, false, false, false, false, false, false, false, false, false, false, false, false, false, false] rfl rfl (by kernel_rfl) (by decide) (fun K hK => ?_)
  refine goes_ Tryd.func55 (by kernel_rfl) rfl #[.int .i64 0, .int .i64 2] (by rfl) rfl rfl (by simp only [List.map_toArray, List.map_cons, List.map_nil]; rfl) ?_
  refine (macadamref00_Reach.calls 0 2 0 2 _ rfl).mono ?_
  rintro e wr6_0 ⟨rfl, hb⟩
  refine ⟨_, rfl, ?_⟩
  have K3r0 := Lib.hid (blk_below K3D.out hb)
  have K5r0 := Lib.hid (blk_below K5D.out hb)
  have HBr0 := Lib.hid (HBD.out.trans (below_weaken hb HBD.out.size))
  refine hK.out _ _ ⟨(blk_cell (K3r0.out) 0).trans rfl, (blk_cell (K3r0.out) 1).trans rfl, (blk_cell (K5r0.out) 0).trans rfl, (blk_cell (K5r0.out) 1).trans rfl⟩ (fun hHeld => ?_)
  clear hK K
  refine norm_ (a' := ?_) ?_ ?_
  rotate_left
  · show Act.put _ (some 63) _ = _
    simp only [Act.put, List.setIfInBounds_toArray, List.set_cons_zero, List.set_cons_succ, i64_w, i32_w]
    rfl
  refine pure_ (i := 21) (N := some 64) (v := ?_) (a' := ?_) #[true, true, true, true, true, true, true, true, true, true, true, true, true, true, true, true, true, true, true, true, true, true, false, false, false, false, false, false, false, false, false, false, false, false, false, false, false, false, false, false] rfl rfl (by kernel_rfl) (fun _ _ _ h => h) (Or.inl ⟨by rfl, ?_⟩) ?_ ?_
  rotate_left
  · intro w'
    go_simp
    with_reducible rfl
  rotate_left
  · simp only [Act.put, List.setIfInBounds_toArray, List.set_cons_zero, List.set_cons_succ, i64_w, i32_w]
    rfl
  refine pure_ (i := 22) (N := some 65) (v := ?_) (a' := ?_) #[true, true, true, true, true, true, true, true, true, true, true, true, true, true, true, true, true, true, true, true, true, true, true, false, false, false, false, false, false, false, false, false, false, false, false, false, false, false, false, false] rfl rfl (by kernel_rfl) (fun _ _ _ h => h) (Or.inl ⟨by rfl, ?_⟩) ?_ ?_
  rotate_left
  · intro w'
    go_simp
    with_reducible rfl
  rotate_left
  · simp only [Act.put, List.setIfInBounds_toArray, List.set_cons_zero, List.set_cons_succ, i64_w, i32_w]
    rfl
  refine pure_ (i := 23) (N := some 66) (v := ?_) (a' := ?_) #[true, true, true, true, true, true, true, true, true, true, true, true, true, true, true, true, true, true, true, true, true, true, true, true, false, false, false, false, false, false, false, false, false, false, false, false, false, false, false, false] rfl rfl (by kernel_rfl) (fun _ _ _ h => h) (Or.inl ⟨by rfl, ?_⟩) ?_ ?_
  rotate_left
  · intro w'
    go_simp
    with_reducible rfl
  rotate_left
  · simp only [Act.put, List.setIfInBounds_toArray, List.set_cons_zero, List.set_cons_succ, i64_w, i32_w]
    rfl
  refine take_ (i := 24) (N := some 67) (v := ?_) (a' := ?_) #[true, true, true, true, true, true, true, true, true, true, true, true, true, true, true, true, true, true, true, true, true, true, true, true, true, false, false, false, false, false, false, false, false, false, false, false, false, false, false, false] rfl rfl (by kernel_rfl) (fun _ _ _ h => h) (Or.inl ⟨by rfl, ?_⟩) hHeld ?_ ?_
  rotate_left
  · rintro w' ⟨s0, s1, s2, s3⟩
    go_simp
    with_reducible rfl
  rotate_left
  · simp only [Act.put, List.setIfInBounds_toArray, List.set_cons_zero, List.set_cons_succ, i64_w, i32_w]
    rfl
  refine one_ (i := 25) (N := some 68) #[true, true, true, true, true, true, true, true, true, true, true, true, true, true, true, true, true, true, true, true, true, true, true, true, true, true, false, false, false, false, false, false, false, false, false, false, false, false, false, false] rfl rfl (by kernel_rfl) (by decide) (fun K hK => ?_)
  refine goes_ Tryd.func55 (by kernel_rfl) rfl #[.int .i64 7, .int .i64 10] (by rfl) rfl rfl (by simp only [List.map_toArray, List.map_cons, List.map_nil]; rfl) ?_
  refine (macadamref00_Reach.calls 7 10 7 10 _ rfl).mono ?_
  rintro e w90 ⟨rfl, hb⟩
  refine ⟨_, rfl, ?_⟩
  have K3r1 := Lib.hid (blk_below K3r0.out hb)
  have K5r1 := Lib.hid (blk_below K5r0.out hb)
  have HBr1 := Lib.hid (HBr0.out.trans (below_weaken hb HBr0.out.size))
  refine hK.out _ _ ⟨(blk_cell (K3r1.out) 0).trans rfl, (blk_cell (K3r1.out) 1).trans rfl, (blk_cell (K5r1.out) 0).trans rfl, (blk_cell (K5r1.out) 1).trans rfl⟩ (fun hHeld => ?_)
  clear hK K
  refine norm_ (a' := ?_) ?_ ?_
  rotate_left
  · show Act.put _ (some 68) _ = _
    simp only [Act.put, List.setIfInBounds_toArray, List.set_cons_zero, List.set_cons_succ, i64_w, i32_w]
    rfl
  refine pure_ (i := 26) (N := some 69) (v := ?_) (a' := ?_) #[true, true, true, true, true, true, true, true, true, true, true, true, true, true, true, true, true, true, true, true, true, true, true, true, true, true, true, false, false, false, false, false, false, false, false, false, false, false, false, false] rfl rfl (by kernel_rfl) (fun _ _ _ h => h) (Or.inl ⟨by rfl, ?_⟩) ?_ ?_
  rotate_left
  · intro w'
    go_simp
    with_reducible rfl
  rotate_left
  · simp only [Act.put, List.setIfInBounds_toArray, List.set_cons_zero, List.set_cons_succ, i64_w, i32_w]
    rfl
  refine pure_ (i := 27) (N := some 70) (v := ?_) (a' := ?_) #[true, true, true, true, true, true, true, true, true, true, true, true, true, true, true, true, true, true, true, true, true, true, true, true, true, true, true, true, false, false, false, false, false, false, false, false, false, false, false, false] rfl rfl (by kernel_rfl) (fun _ _ _ h => h) (Or.inl ⟨by rfl, ?_⟩) ?_ ?_
  rotate_left
  · intro w'
    go_simp
    with_reducible rfl
  rotate_left
  · simp only [Act.put, List.setIfInBounds_toArray, List.set_cons_zero, List.set_cons_succ, i64_w, i32_w]
    rfl
  refine pure_ (i := 28) (N := some 71) (v := ?_) (a' := ?_) #[true, true, true, true, true, true, true, true, true, true, true, true, true, true, true, true, true, true, true, true, true, true, true, true, true, true, true, true, true, false, false, false, false, false, false, false, false, false, false, false] rfl rfl (by kernel_rfl) (fun _ _ _ h => h) (Or.inl ⟨by rfl, ?_⟩) ?_ ?_
  rotate_left
  · intro w'
    go_simp
    with_reducible rfl
  rotate_left
  · simp only [Act.put, List.setIfInBounds_toArray, List.set_cons_zero, List.set_cons_succ, i64_w, i32_w]
    rfl
  refine pure_ (i := 29) (N := some 72) (v := ?_) (a' := ?_) #[true, true, true, true, true, true, true, true, true, true, true, true, true, true, true, true, true, true, true, true, true, true, true, true, true, true, true, true, true, true, false, false, false, false, false, false, false, false, false, false] rfl rfl (by kernel_rfl) (fun _ _ _ h => h) (Or.inl ⟨by rfl, ?_⟩) ?_ ?_
  rotate_left
  · intro w'
    go_simp
    with_reducible rfl
  rotate_left
  · simp only [Act.put, List.setIfInBounds_toArray, List.set_cons_zero, List.set_cons_succ, i64_w, i32_w]
    rfl
  refine pure_ (i := 30) (N := some 73) (v := ?_) (a' := ?_) #[true, true, true, true, true, true, true, true, true, true, true, true, true, true, true, true, true, true, true, true, true, true, true, true, true, true, true, true, true, true, true, false, false, false, false, false, false, false, false, false] rfl rfl (by kernel_rfl) (fun _ _ _ h => h) (Or.inl ⟨by rfl, ?_⟩) ?_ ?_
  rotate_left
  · intro w'
    go_simp
    with_reducible rfl
  rotate_left
  · simp only [Act.put, List.setIfInBounds_toArray, List.set_cons_zero, List.set_cons_succ, i64_w, i32_w]
    rfl
  refine pure_ (i := 31) (N := some 74) (v := ?_) (a' := ?_) #[true, true, true, true, true, true, true, true, true, true, true, true, true, true, true, true, true, true, true, true, true, true, true, true, true, true, true, true, true, true, true, true, false, false, false, false, false, false, false, false] rfl rfl (by kernel_rfl) (fun _ _ _ h => h) (Or.inl ⟨by rfl, ?_⟩) ?_ ?_
  rotate_left
  · intro w'
    go_simp
    with_reducible rfl
  rotate_left
  · simp only [Act.put, List.setIfInBounds_toArray, List.set_cons_zero, List.set_cons_succ, i64_w, i32_w]
    rfl
  refine pure_ (i := 32) (N := some 75) (v := ?_) (a' := ?_) #[true, true, true, true, true, true, true, true, true, true, true, true, true, true, true, true, true, true, true, true, true, true, true, true, true, true, true, true, true, true, true, true, true, false, false, false, false, false, false, false] rfl rfl (by kernel_rfl) (fun _ _ _ h => h) (Or.inl ⟨by rfl, ?_⟩) ?_ ?_
  rotate_left
  · intro w'
    go_simp
    with_reducible rfl
  rotate_left
  · simp only [Act.put, List.setIfInBounds_toArray, List.set_cons_zero, List.set_cons_succ, i64_w, i32_w]
    rfl
  refine pure_ (i := 33) (N := some 76) (v := ?_) (a' := ?_) #[true, true, true, true, true, true, true, true, true, true, true, true, true, true, true, true, true, true, true, true, true, true, true, true, true, true, true, true, true, true, true, true, true, true, false, false, false, false, false, false] rfl rfl (by kernel_rfl) (fun _ _ _ h => h) (Or.inl ⟨by rfl, ?_⟩) ?_ ?_
  rotate_left
  · intro w'
    go_simp
    with_reducible rfl
  rotate_left
  · simp only [Act.put, List.setIfInBounds_toArray, List.set_cons_zero, List.set_cons_succ, i64_w, i32_w]
    rfl
  refine pure_ (i := 34) (N := some 77) (v := ?_) (a' := ?_) #[true, true, true, true, true, true, true, true, true, true, true, true, true, true, true, true, true, true, true, true, true, true, true, true, true, true, true, true, true, true, true, true, true, true, true, false, false, false, false, false] rfl rfl (by kernel_rfl) (fun _ _ _ h => h) (Or.inl ⟨by rfl, ?_⟩) ?_ ?_
  rotate_left
  · intro w'
    go_simp
    with_reducible rfl
  rotate_left
  · simp only [Act.put, List.setIfInBounds_toArray, List.set_cons_zero, List.set_cons_succ, i64_w, i32_w]
    rfl
  refine pure_ (i := 35) (N := some 78) (v := ?_) (a' := ?_) #[true, true, true, true, true, true, true, true, true, true, true, true, true, true, true, true, true, true, true, true, true, true, true, true, true, true, true, true, true, true, true, true, true, true, true, true, false, false, false, false] rfl rfl (by kernel_rfl) (fun _ _ _ h => h) (Or.inl ⟨by rfl, ?_⟩) ?_ ?_
  rotate_left
  · intro w'
    go_simp
    with_reducible rfl
  rotate_left
  · simp only [Act.put, List.setIfInBounds_toArray, List.set_cons_zero, List.set_cons_succ, i64_w, i32_w]
    rfl
  refine pure_ (i := 36) (N := some 79) (v := ?_) (a' := ?_) #[true, true, true, true, true, true, true, true, true, true, true, true, true, true, true, true, true, true, true, true, true, true, true, true, true, true, true, true, true, true, true, true, true, true, true, true, true, false, false, false] rfl rfl (by kernel_rfl) (fun _ _ _ h => h) (Or.inl ⟨by rfl, ?_⟩) ?_ ?_
  rotate_left
  · intro w'
    go_simp
    with_reducible rfl
  rotate_left
  · simp only [Act.put, List.setIfInBounds_toArray, List.set_cons_zero, List.set_cons_succ, i64_w, i32_w]
    rfl
  refine pure_ (i := 37) (N := some 80) (v := ?_) (a' := ?_) #[true, true, true, true, true, true, true, true, true, true, true, true, true, true, true, true, true, true, true, true, true, true, true, true, true, true, true, true, true, true, true, true, true, true, true, true, true, true, false, false] rfl rfl (by kernel_rfl) (fun _ _ _ h => h) (Or.inl ⟨by rfl, ?_⟩) ?_ ?_
  rotate_left
  · intro w'
    go_simp
    with_reducible rfl
  rotate_left
  · simp only [Act.put, List.setIfInBounds_toArray, List.set_cons_zero, List.set_cons_succ, i64_w, i32_w]
    rfl
  refine pure_ (i := 38) (N := some 81) (v := ?_) (a' := ?_) #[true, true, true, true, true, true, true, true, true, true, true, true, true, true, true, true, true, true, true, true, true, true, true, true, true, true, true, true, true, true, true, true, true, true, true, true, true, true, true, false] rfl rfl (by kernel_rfl) (fun _ _ _ h => h) (Or.inl ⟨by rfl, ?_⟩) ?_ ?_
  rotate_left
  · intro w'
    go_simp
    with_reducible rfl
  rotate_left
  · simp only [Act.put, List.setIfInBounds_toArray, List.set_cons_zero, List.set_cons_succ, i64_w, i32_w]
    rfl
  refine pure_ (i := 39) (N := some 82) (v := ?_) (a' := ?_) #[true, true, true, true, true, true, true, true, true, true, true, true, true, true, true, true, true, true, true, true, true, true, true, true, true, true, true, true, true, true, true, true, true, true, true, true, true, true, true, true] rfl rfl (by kernel_rfl) (fun _ _ _ h => h) (Or.inl ⟨by rfl, ?_⟩) ?_ ?_
  rotate_left
  · intro w'
    go_simp
    with_reducible rfl
  rotate_left
  · simp only [Act.put, List.setIfInBounds_toArray, List.set_cons_zero, List.set_cons_succ, i64_w, i32_w]
    rfl
  refine done_ (by kernel_rfl) ?_

  have HB90 := HBr1
  go_wp2_with fail
  refine (earlyB_calls _).mono ?_
  rintro e w11 ⟨A0, A1, A2, c0, c1, c2, rfl, hk, hb⟩
  have HB11 := Lib.hid (HB90.out.trans (below_weaken hb (HB90.out.size)))
  have HK := Lib.hid hk
  clear hk
  clear hb
  go_wp2_with fail
  refine (rl5 _ A0 A1 A2 c0 c1 c2 (HG.out.below HB11.out) HK.out).mono ?_
  rintro e w12 ⟨rfl, hb⟩
  have HB12 := Lib.hid (HB11.out.trans (below_weaken hb (HB11.out.size)))
  clear HK
  clear hb
  go_wp2_with fail
  refine (ownB_calls _).mono ?_
  rintro e w13 ⟨A0, A1, A2, c0, c1, c2, rfl, hk, hb⟩
  have K13 := Lib.hid (blk_below (blk_new w12 (.cells #[.int .i64 0, .int .i64 3] 32)) hb)
  have HB13 := Lib.hid ((HB12.out.alloc HB12.out.size (.cells #[.int .i64 0, .int .i64 3] 32)).trans (below_weaken hb ((HB12.out.alloc HB12.out.size (.cells #[.int .i64 0, .int .i64 3] 32)).size)))
  have HK := Lib.hid hk
  clear hk
  clear hb
  go_wp2_with fail
  refine (rl6 _ A0 A1 A2 c0 c1 c2 (HG.out.below HB13.out) HK.out).mono ?_
  rintro e w14 ⟨rfl, hb⟩
  have K13n := Lib.hid (blk_below K13.out hb)
  clear K13
  have K13 := K13n
  clear K13n
  have HB14 := Lib.hid (HB13.out.trans (below_weaken hb (HB13.out.size)))
  clear HK
  clear hb
  go_wp2_with fail
  refine (ownB_calls _).mono ?_
  rintro e w15 ⟨A0, A1, A2, c0, c1, c2, rfl, hk, hb⟩
  have K13n := Lib.hid (blk_below (blk_alloc K13.out (.cells #[.int .i64 2, .int .i64 3] 32)) hb)
  clear K13
  have K13 := K13n
  clear K13n
  have K15 := Lib.hid (blk_below (blk_new w14 (.cells #[.int .i64 2, .int .i64 3] 32)) hb)
  have HB15 := Lib.hid ((HB14.out.alloc HB14.out.size (.cells #[.int .i64 2, .int .i64 3] 32)).trans (below_weaken hb ((HB14.out.alloc HB14.out.size (.cells #[.int .i64 2, .int .i64 3] 32)).size)))
  have HK := Lib.hid hk
  clear hk
  clear hb
  go_wp2_with fail
  refine (rl7 _ A0 A1 A2 c0 c1 c2 (HG.out.below HB15.out) HK.out).mono ?_
  rintro e w16 ⟨rfl, hb⟩
  have K13n := Lib.hid (blk_below K13.out hb)
  clear K13
  have K13 := K13n
  clear K13n
  have K15n := Lib.hid (blk_below K15.out hb)
  clear K15
  have K15 := K15n
  clear K15n
  have HB16 := Lib.hid (HB15.out.trans (below_weaken hb (HB15.out.size)))
  clear HK
  clear hb
  go_wp2_with fail
  refine (ownB_calls _).mono ?_
  rintro e w17 ⟨A0, A1, A2, c0, c1, c2, rfl, hk, hb⟩
  have K13n := Lib.hid (blk_below K13.out hb)
  clear K13
  have K13 := K13n
  clear K13n
  have K15n := Lib.hid (blk_below K15.out hb)
  clear K15
  have K15 := K15n
  clear K15n
  have HB17 := Lib.hid (HB16.out.trans (below_weaken hb (HB16.out.size)))
  have HK := Lib.hid hk
  clear hk
  clear hb
  go_wp2_with fail
  refine (rl8 _ A0 A1 A2 c0 c1 c2 (HG.out.below HB17.out) HK.out).mono ?_
  rintro e w18 ⟨rfl, hb⟩
  have K13n := Lib.hid (blk_below K13.out hb)
  clear K13
  have K13 := K13n
  clear K13n
  have K15n := Lib.hid (blk_below K15.out hb)
  clear K15
  have K15 := K15n
  clear K15n
  have HB18 := Lib.hid (HB17.out.trans (below_weaken hb (HB17.out.size)))
  clear HK
  clear hb
  go_wp2_with fail
  refine (tornB_calls _).mono ?_
  rintro e w19 ⟨A0, A1, A2, c0, c1, c2, rfl, hk, hb⟩
  have K13n := Lib.hid (blk_below K13.out hb)
  clear K13
  have K13 := K13n
  clear K13n
  have K15n := Lib.hid (blk_below K15.out hb)
  clear K15
  have K15 := K15n
  clear K15n
  have HB19 := Lib.hid (HB18.out.trans (below_weaken hb (HB18.out.size)))
  have HK := Lib.hid hk
  clear hk
  clear hb
  go_wp2_with fail
  refine (rl9 _ A0 A1 A2 c0 c1 c2 (HG.out.below HB19.out) HK.out).mono ?_
  rintro e w20 ⟨A9, c9, rfl, hw9, hc9, hb⟩
  have K13n := Lib.hid (blk_below K13.out hb)
  clear K13
  have K13 := K13n
  clear K13n
  have K15n := Lib.hid (blk_below K15.out hb)
  clear K15
  have K15 := K15n
  clear K15n
  have HB20 := Lib.hid (HB19.out.trans (below_weaken hb (HB19.out.size)))
  have HW9 := Lib.hid hw9
  have HC9 := Lib.hid hc9
  clear hw9 hc9 HK
  clear hb
  go_wp2_with fail
  refine (ownB_calls _).mono ?_
  rintro e w21 ⟨A0, A1, A2, c0, c1, c2, rfl, hk, hb⟩
  have K13n := Lib.hid (blk_below K13.out hb)
  clear K13
  have K13 := K13n
  clear K13n
  have K15n := Lib.hid (blk_below K15.out hb)
  clear K15
  have K15 := K15n
  clear K15n
  have HB21 := Lib.hid (HB20.out.trans (below_weaken hb (HB20.out.size)))
  have HW9n := Lib.hid (Kd.C_below HW9.out hb)
  clear HW9
  have HW9 := HW9n
  clear HW9n
  have HK := Lib.hid hk
  clear hk
  clear hb
  go_wp2_with fail
  refine (rl10 _ A0 A1 A2 c0 c1 c2 (HG.out.below HB21.out) HK.out).mono ?_
  rintro e w22 ⟨rfl, hb⟩
  have K13n := Lib.hid (blk_below K13.out hb)
  clear K13
  have K13 := K13n
  clear K13n
  have K15n := Lib.hid (blk_below K15.out hb)
  clear K15
  have K15 := K15n
  clear K15n
  have HB22 := Lib.hid (HB21.out.trans (below_weaken hb (HB21.out.size)))
  have HW9n := Lib.hid (Kd.C_below HW9.out hb)
  clear HW9
  have HW9 := HW9n
  clear HW9n
  clear HK
  clear hb
  go_upto_region 14 with fail
  have hBD : Below w22.heap.size w22 w22.drew := by repeat (first | exact Below.refl _ _ | refine Below.alloc ?_ (by simp <;> omega) _ | refine Below.setCell ?_ (by simp <;> omega) _ | apply Below.drew)
  have K13D := Lib.hid (blk_below K13.out hBD)
  have K15D := Lib.hid (blk_below K15.out hBD)
  have HBD := Lib.hid (HB22.out.trans (below_weaken hBD HB22.out.size))
  have hcD := Kd.C_below HW9.out hBD
  clear hBD
  refine start_ (n := 48) (S := fun w' => w'.cell? ⟨w12.heap.size, 0, none⟩ = some (.int .i64 0) ∧ w'.cell? ⟨w12.heap.size, 1, none⟩ = some (.int .i64 3) ∧ w'.cell? ⟨w14.heap.size, 0, none⟩ = some (.int .i64 2) ∧ w'.cell? ⟨w14.heap.size, 1, none⟩ = some (.int .i64 3)) (ds := []) #[false, false, false, false, false, false, false, false, false, false, false, false, false, false, false, false, false, false, false, false, false, false, false, false, false, false, false, false, false, false, false, false, false, false, false, false, false, false, false, false, false, false, false, false, false, false, false, false] (by kernel_rfl) rfl rfl ⟨(blk_cell (K13D.out) 0).trans rfl, (blk_cell (K13D.out) 1).trans rfl, (blk_cell (K15D.out) 0).trans rfl, (blk_cell (K15D.out) 1).trans rfl⟩ (fun hHeld => ?_)
  refine pure_ (i := 0) (N := some 114) (v := ?_) (a' := ?_) #[true, false, false, false, false, false, false, false, false, false, false, false, false, false, false, false, false, false, false, false, false, false, false, false, false, false, false, false, false, false, false, false, false, false, false, false, false, false, false, false, false, false, false, false, false, false, false, false] rfl rfl (by kernel_rfl) (fun _ _ _ h => h) (Or.inl ⟨by rfl, ?_⟩) ?_ ?_
  rotate_left
  · intro w'
    go_simp
    with_reducible rfl
  rotate_left
  · simp only [Act.put, List.setIfInBounds_toArray, List.set_cons_zero, List.set_cons_succ, i64_w, i32_w]
    rfl
  refine pure_ (i := 1) (N := some 115) (v := ?_) (a' := ?_) #[true, true, false, false, false, false, false, false, false, false, false, false, false, false, false, false, false, false, false, false, false, false, false, false, false, false, false, false, false, false, false, false, false, false, false, false, false, false, false, false, false, false, false, false, false, false, false, false] rfl rfl (by kernel_rfl) (fun _ _ _ h => h) (Or.inl ⟨by rfl, ?_⟩) ?_ ?_
  rotate_left
  · intro w'
    go_simp
    with_reducible rfl
  rotate_left
  · simp only [Act.put, List.setIfInBounds_toArray, List.set_cons_zero, List.set_cons_succ, i64_w, i32_w]
    rfl
  refine pure_ (i := 2) (N := some 116) (v := ?_) (a' := ?_) #[true, true, true, false, false, false, false, false, false, false, false, false, false, false, false, false, false, false, false, false, false, false, false, false, false, false, false, false, false, false, false, false, false, false, false, false, false, false, false, false, false, false, false, false, false, false, false, false] rfl rfl (by kernel_rfl) (fun _ _ _ h => h) (Or.inl ⟨by rfl, ?_⟩) ?_ ?_
  rotate_left
  · intro w'
    go_simp
    with_reducible rfl
  rotate_left
  · simp only [Act.put, List.setIfInBounds_toArray, List.set_cons_zero, List.set_cons_succ, i64_w, i32_w]
    rfl
  refine pure_ (i := 3) (N := some 117) (v := ?_) (a' := ?_) #[true, true, true, true, false, false, false, false, false, false, false, false, false, false, false, false, false, false, false, false, false, false, false, false, false, false, false, false, false, false, false, false, false, false, false, false, false, false, false, false, false, false, false, false, false, false, false, false] rfl rfl (by kernel_rfl) (fun _ _ _ h => h) (Or.inl ⟨by rfl, ?_⟩) ?_ ?_
  rotate_left
  · intro w'
    go_simp
    with_reducible rfl
  rotate_left
  · simp only [Act.put, List.setIfInBounds_toArray, List.set_cons_zero, List.set_cons_succ, i64_w, i32_w]
    rfl
  refine pure_ (i := 4) (N := some 118) (v := ?_) (a' := ?_) #[true, true, true, true, true, false, false, false, false, false, false, false, false, false, false, false, false, false, false, false, false, false, false, false, false, false, false, false, false, false, false, false, false, false, false, false, false, false, false, false, false, false, false, false, false, false, false, false] rfl rfl (by kernel_rfl) (fun _ _ _ h => h) (Or.inl ⟨by rfl, ?_⟩) ?_ ?_
  rotate_left
  · intro w'
    go_simp
    with_reducible rfl
  rotate_left
  · simp only [Act.put, List.setIfInBounds_toArray, List.set_cons_zero, List.set_cons_succ, i64_w, i32_w]
    rfl
  refine pure_ (i := 5) (N := some 119) (v := ?_) (a' := ?_) #[true, true, true, true, true, true, false, false, false, false, false, false, false, false, false, false, false, false, false, false, false, false, false, false, false, false, false, false, false, false, false, false, false, false, false, false, false, false, false, false, false, false, false, false, false, false, false, false] rfl rfl (by kernel_rfl) (fun _ _ _ h => h) (Or.inl ⟨by rfl, ?_⟩) ?_ ?_
  rotate_left
  · intro w'
    go_simp
    with_reducible rfl
  rotate_left
  · simp only [Act.put, List.setIfInBounds_toArray, List.set_cons_zero, List.set_cons_succ, i64_w, i32_w]
    rfl
  refine pure_ (i := 6) (N := some 120) (v := ?_) (a' := ?_) #[true, true, true, true, true, true, true, false, false, false, false, false, false, false, false, false, false, false, false, false, false, false, false, false, false, false, false, false, false, false, false, false, false, false, false, false, false, false, false, false, false, false, false, false, false, false, false, false] rfl rfl (by kernel_rfl) (fun _ _ _ h => h) (Or.inl ⟨by rfl, ?_⟩) ?_ ?_
  rotate_left
  · intro w'
    go_simp
    with_reducible rfl
  rotate_left
  · simp only [Act.put, List.setIfInBounds_toArray, List.set_cons_zero, List.set_cons_succ, i64_w, i32_w]
    rfl
  refine pure_ (i := 7) (N := some 121) (v := ?_) (a' := ?_) #[true, true, true, true, true, true, true, true, false, false, false, false, false, false, false, false, false, false, false, false, false, false, false, false, false, false, false, false, false, false, false, false, false, false, false, false, false, false, false, false, false, false, false, false, false, false, false, false] rfl rfl (by kernel_rfl) (fun _ _ _ h => h) (Or.inl ⟨by rfl, ?_⟩) ?_ ?_
  rotate_left
  · intro w'
    go_simp
    with_reducible rfl
  rotate_left
  · simp only [Act.put, List.setIfInBounds_toArray, List.set_cons_zero, List.set_cons_succ, i64_w, i32_w]
    rfl
  refine pure_ (i := 8) (N := some 122) (v := ?_) (a' := ?_) #[true, true, true, true, true, true, true, true, true, false, false, false, false, false, false, false, false, false, false, false, false, false, false, false, false, false, false, false, false, false, false, false, false, false, false, false, false, false, false, false, false, false, false, false, false, false, false, false] rfl rfl (by kernel_rfl) (fun _ _ _ h => h) (Or.inl ⟨by rfl, ?_⟩) ?_ ?_
  rotate_left
  · intro w'
    go_simp
    with_reducible rfl
  rotate_left
  · simp only [Act.put, List.setIfInBounds_toArray, List.set_cons_zero, List.set_cons_succ, i64_w, i32_w]
    rfl
  refine pure_ (i := 9) (N := some 123) (v := ?_) (a' := ?_) #[true, true, true, true, true, true, true, true, true, true, false, false, false, false, false, false, false, false, false, false, false, false, false, false, false, false, false, false, false, false, false, false, false, false, false, false, false, false, false, false, false, false, false, false, false, false, false, false] rfl rfl (by kernel_rfl) (fun _ _ _ h => h) (Or.inl ⟨by rfl, ?_⟩) ?_ ?_
  rotate_left
  · intro w'
    go_simp
    with_reducible rfl
  rotate_left
  · simp only [Act.put, List.setIfInBounds_toArray, List.set_cons_zero, List.set_cons_succ, i64_w, i32_w]
    rfl
  refine pure_ (i := 10) (N := some 124) (v := ?_) (a' := ?_) #[true, true, true, true, true, true, true, true, true, true, true, false, false, false, false, false, false, false, false, false, false, false, false, false, false, false, false, false, false, false, false, false, false, false, false, false, false, false, false, false, false, false, false, false, false, false, false, false] rfl rfl (by kernel_rfl) (fun _ _ _ h => h) (Or.inl ⟨by rfl, ?_⟩) ?_ ?_
  rotate_left
  · intro w'
    go_simp
    with_reducible rfl
  rotate_left
  · simp only [Act.put, List.setIfInBounds_toArray, List.set_cons_zero, List.set_cons_succ, i64_w, i32_w]
    rfl
  refine pure_ (i := 11) (N := some 125) (v := ?_) (a' := ?_) #[true, true, true, true, true, true, true, true, true, true, true, true, false, false, false, false, false, false, false, false, false, false, false, false, false, false, false, false, false, false, false, false, false, false, false, false, false, false, false, false, false, false, false, false, false, false, false, false] rfl rfl (by kernel_rfl) (fun _ _ _ h => h) (Or.inl ⟨by rfl, ?_⟩) ?_ ?_
  rotate_left
  · intro w'
    go_simp
    with_reducible rfl
  rotate_left
  · simp only [Act.put, List.setIfInBounds_toArray, List.set_cons_zero, List.set_cons_succ, i64_w, i32_w]
    rfl
  refine pure_ (i := 12) (N := some 126) (v := ?_) (a' := ?_) #[true, true, true, true, true, true, true, true, true, true, true, true, true, false, false, false, false, false, false, false, false, false, false, false, false, false, false, false, false, false, false, false, false, false, false, false, false, false, false, false, false, false, false, false, false, false, false, false] rfl rfl (by kernel_rfl) (fun _ _ _ h => h) (Or.inl ⟨by rfl, ?_⟩) ?_ ?_
  rotate_left
  · intro w'
    go_simp
    with_reducible rfl
  rotate_left
  · simp only [Act.put, List.setIfInBounds_toArray, List.set_cons_zero, List.set_cons_succ, i64_w, i32_w]
    rfl
  refine pure_ (i := 13) (N := some 127) (v := ?_) (a' := ?_) #[true, true, true, true, true, true, true, true, true, true, true, true, true, true, false, false, false, false, false, false, false, false, false, false, false, false, false, false, false, false, false, false, false, false, false, false, false, false, false, false, false, false, false, false, false, false, false, false] rfl rfl (by kernel_rfl) (fun _ _ _ h => h) (Or.inl ⟨by rfl, ?_⟩) ?_ ?_
  rotate_left
  · intro w'
    go_simp
    with_reducible rfl
  rotate_left
  · simp only [Act.put, List.setIfInBounds_toArray, List.set_cons_zero, List.set_cons_succ, i64_w, i32_w]
    rfl
  refine pure_ (i := 14) (N := some 128) (v := ?_) (a' := ?_) #[true, true, true, true, true, true, true, true, true, true, true, true, true, true, true, false, false, false, false, false, false, false, false, false, false, false, false, false, false, false, false, false, false, false, false, false, false, false, false, false, false, false, false, false, false, false, false, false] rfl rfl (by kernel_rfl) (fun _ _ _ h => h) (Or.inl ⟨by rfl, ?_⟩) ?_ ?_
  rotate_left
  · intro w'
    go_simp
    with_reducible rfl
  rotate_left
  · simp only [Act.put, List.setIfInBounds_toArray, List.set_cons_zero, List.set_cons_succ, i64_w, i32_w]
    rfl
  refine pure_ (i := 15) (N := some 129) (v := ?_) (a' := ?_) #[true, true, true, true, true, true, true, true, true, true, true, true, true, true, true, true, false, false, false, false, false, false, false, false, false, false, false, false, false, false, false, false, false, false, false, false, false, false, false, false, false, false, false, false, false, false, false, false] rfl rfl (by kernel_rfl) (fun _ _ _ h => h) (Or.inl ⟨by rfl, ?_⟩) ?_ ?_
  rotate_left
  · intro w'
    go_simp
    with_reducible rfl
  rotate_left
  · simp only [Act.put, List.setIfInBounds_toArray, List.set_cons_zero, List.set_cons_succ, i64_w, i32_w]
    rfl
  refine pure_ (i := 16) (N := some 130) (v := ?_) (a' := ?_) #[true, true, true, true, true, true, true, true, true, true, true, true, true, true, true, true, true, false, false, false, false, false, false, false, false, false, false, false, false, false, false, false, false, false, false, false, false, false, false, false, false, false, false, false, false, false, false, false] rfl rfl (by kernel_rfl) (fun _ _ _ h => h) (Or.inl ⟨by rfl, ?_⟩) ?_ ?_
  rotate_left
  · intro w'
    go_simp
    with_reducible rfl
  rotate_left
  · simp only [Act.put, List.setIfInBounds_toArray, List.set_cons_zero, List.set_cons_succ, i64_w, i32_w]
    rfl
  refine pure_ (i := 17) (N := some 131) (v := ?_) (a' := ?_) #[true, true, true, true, true, true, true, true, true, true, true, true, true, true, true, true, true, true, false, false, false, false, false, false, false, false, false, false, false, false, false, false, false, false, false, false, false, false, false, false, false, false, false, false, false, false, false, false] rfl rfl (by kernel_rfl) (fun _ _ _ h => h) (Or.inl ⟨by rfl, ?_⟩) ?_ ?_
  rotate_left
  · intro w'
    go_simp
    with_reducible rfl
  rotate_left
  · simp only [Act.put, List.setIfInBounds_toArray, List.set_cons_zero, List.set_cons_succ, i64_w, i32_w]
    rfl
  refine pure_ (i := 18) (N := some 132) (v := ?_) (a' := ?_) #[true, true, true, true, true, true, true, true, true, true, true, true, true, true, true, true, true, true, true, false, false, false, false, false, false, false, false, false, false, false, false, false, false, false, false, false, false, false, false, false, false, false, false, false, false, false, false, false] rfl rfl (by kernel_rfl) (fun _ _ _ h => h) (Or.inl ⟨by rfl, ?_⟩) ?_ ?_
  rotate_left
  · intro w'
    go_simp
    with_reducible rfl
  rotate_left
  · simp only [Act.put, List.setIfInBounds_toArray, List.set_cons_zero, List.set_cons_succ, i64_w, i32_w]
    rfl
  refine pure_ (i := 19) (N := some 133) (v := ?_) (a' := ?_) #[true, true, true, true, true, true, true, true, true, true, true, true, true, true, true, true, true, true, true, true, false, false, false, false, false, false, false, false, false, false, false, false, false, false, false, false, false, false, false, false, false, false, false, false, false, false, false, false] rfl rfl (by kernel_rfl) (fun _ _ _ h => h) (Or.inl ⟨by rfl, ?_⟩) ?_ ?_
  rotate_left
  · intro w'
    go_simp
    with_reducible rfl
  rotate_left
  · simp only [Act.put, List.setIfInBounds_toArray, List.set_cons_zero, List.set_cons_succ, i64_w, i32_w]
    rfl
  refine pure_ (i := 20) (N := some 134) (v := ?_) (a' := ?_) #[true, true, true, true, true, true, true, true, true, true, true, true, true, true, true, true, true, true, true, true, true, false, false, false, false, false, false, false, false, false, false, false, false, false, false, false, false, false, false, false, false, false, false, false, false, false, false, false] rfl rfl (by kernel_rfl) (fun _ _ _ h => h) (Or.inl ⟨by rfl, ?_⟩) ?_ ?_
  rotate_left
  · intro w'
    go_simp
    with_reducible rfl
  rotate_left
  · simp only [Act.put, List.setIfInBounds_toArray, List.set_cons_zero, List.set_cons_succ, i64_w, i32_w]
    rfl
  refine pure_ (i := 21) (N := some 135) (v := ?_) (a' := ?_) #[true, true, true, true, true, true, true, true, true, true, true, true, true, true, true, true, true, true, true, true, true, true, false, false, false, false, false, false, false, false, false, false, false, false, false, false, false, false, false, false, false, false, false, false, false, false, false, false] rfl rfl (by kernel_rfl) (fun _ _ _ h => h) (Or.inl ⟨by rfl, ?_⟩) ?_ ?_
  rotate_left
  · intro w'
    go_simp
    with_reducible rfl
  rotate_left
  · simp only [Act.put, List.setIfInBounds_toArray, List.set_cons_zero, List.set_cons_succ, i64_w, i32_w]
    rfl
  refine pure_ (i := 22) (N := some 136) (v := ?_) (a' := ?_) #[true, true, true, true, true, true, true, true, true, true, true, true, true, true, true, true, true, true, true, true, true, true, true, false, false, false, false, false, false, false, false, false, false, false, false, false, false, false, false, false, false, false, false, false, false, false, false, false] rfl rfl (by kernel_rfl) (fun _ _ _ h => h) (Or.inl ⟨by rfl, ?_⟩) ?_ ?_
  rotate_left
  · intro w'
    go_simp
    with_reducible rfl
  rotate_left
  · simp only [Act.put, List.setIfInBounds_toArray, List.set_cons_zero, List.set_cons_succ, i64_w, i32_w]
    rfl
  refine take_ (i := 23) (N := some 137) (v := ?_) (a' := ?_) #[true, true, true, true, true, true, true, true, true, true, true, true, true, true, true, true, true, true, true, true, true, true, true, true, false, false, false, false, false, false, false, false, false, false, false, false, false, false, false, false, false, false, false, false, false, false, false, false] rfl rfl (by kernel_rfl) (fun _ _ _ h => h) (Or.inl ⟨by rfl, ?_⟩) hHeld ?_ ?_
  rotate_left
  · rintro w' ⟨s0, s1, s2, s3⟩
    go_simp
    with_reducible rfl
  rotate_left
  · simp only [Act.put, List.setIfInBounds_toArray, List.set_cons_zero, List.set_cons_succ, i64_w, i32_w]
    rfl
  refine one_ (i := 24) (N := some 138) #[true, true, true, true, true, true, true, true, true, true, true, true, true, true, true, true, true, true, true, true, true, true, true, true, true, false, false, false, false, false, false, false, false, false, false, false, false, false, false, false, false, false, false, false, false, false, false, false] rfl rfl (by kernel_rfl) (by decide) (fun K hK => ?_)
  refine goes_ Tryd.func55 (by kernel_rfl) rfl #[.int .i64 0, .int .i64 3] (by rfl) rfl rfl (by simp only [List.map_toArray, List.map_cons, List.map_nil]; rfl) ?_
  refine (macadamref00_Reach.calls 0 3 0 3 _ rfl).mono ?_
  rintro e wr14_0 ⟨rfl, hb⟩
  refine ⟨_, rfl, ?_⟩
  have K13r0 := Lib.hid (blk_below K13D.out hb)
  have K15r0 := Lib.hid (blk_below K15D.out hb)
  have HBr0 := Lib.hid (HBD.out.trans (below_weaken hb HBD.out.size))
  have hcr0 := Kd.C_below hcD hb
  refine hK.out _ _ ⟨(blk_cell (K13r0.out) 0).trans rfl, (blk_cell (K13r0.out) 1).trans rfl, (blk_cell (K15r0.out) 0).trans rfl, (blk_cell (K15r0.out) 1).trans rfl⟩ (fun hHeld => ?_)
  clear hK K
  refine norm_ (a' := ?_) ?_ ?_
  rotate_left
  · show Act.put _ (some 138) _ = _
    simp only [Act.put, List.setIfInBounds_toArray, List.set_cons_zero, List.set_cons_succ, i64_w, i32_w]
    rfl
  refine pure_ (i := 25) (N := some 139) (v := ?_) (a' := ?_) #[true, true, true, true, true, true, true, true, true, true, true, true, true, true, true, true, true, true, true, true, true, true, true, true, true, true, false, false, false, false, false, false, false, false, false, false, false, false, false, false, false, false, false, false, false, false, false, false] rfl rfl (by kernel_rfl) (fun _ _ _ h => h) (Or.inl ⟨by rfl, ?_⟩) ?_ ?_
  rotate_left
  · intro w'
    go_simp
    with_reducible rfl
  rotate_left
  · simp only [Act.put, List.setIfInBounds_toArray, List.set_cons_zero, List.set_cons_succ, i64_w, i32_w]
    rfl
  refine pure_ (i := 26) (N := some 140) (v := ?_) (a' := ?_) #[true, true, true, true, true, true, true, true, true, true, true, true, true, true, true, true, true, true, true, true, true, true, true, true, true, true, true, false, false, false, false, false, false, false, false, false, false, false, false, false, false, false, false, false, false, false, false, false] rfl rfl (by kernel_rfl) (fun _ _ _ h => h) (Or.inl ⟨by rfl, ?_⟩) ?_ ?_
  rotate_left
  · intro w'
    go_simp
    with_reducible rfl
  rotate_left
  · simp only [Act.put, List.setIfInBounds_toArray, List.set_cons_zero, List.set_cons_succ, i64_w, i32_w]
    rfl
  refine pure_ (i := 27) (N := some 141) (v := ?_) (a' := ?_) #[true, true, true, true, true, true, true, true, true, true, true, true, true, true, true, true, true, true, true, true, true, true, true, true, true, true, true, true, false, false, false, false, false, false, false, false, false, false, false, false, false, false, false, false, false, false, false, false] rfl rfl (by kernel_rfl) (fun _ _ _ h => h) (Or.inl ⟨by rfl, ?_⟩) ?_ ?_
  rotate_left
  · intro w'
    go_simp
    with_reducible rfl
  rotate_left
  · simp only [Act.put, List.setIfInBounds_toArray, List.set_cons_zero, List.set_cons_succ, i64_w, i32_w]
    rfl
  refine take_ (i := 28) (N := some 142) (v := ?_) (a' := ?_) #[true, true, true, true, true, true, true, true, true, true, true, true, true, true, true, true, true, true, true, true, true, true, true, true, true, true, true, true, true, false, false, false, false, false, false, false, false, false, false, false, false, false, false, false, false, false, false, false] rfl rfl (by kernel_rfl) (fun _ _ _ h => h) (Or.inl ⟨by rfl, ?_⟩) hHeld ?_ ?_
  rotate_left
  · rintro w' ⟨s0, s1, s2, s3⟩
    go_simp
    with_reducible rfl
  rotate_left
  · simp only [Act.put, List.setIfInBounds_toArray, List.set_cons_zero, List.set_cons_succ, i64_w, i32_w]
    rfl
  refine one_ (i := 29) (N := some 143) #[true, true, true, true, true, true, true, true, true, true, true, true, true, true, true, true, true, true, true, true, true, true, true, true, true, true, true, true, true, true, false, false, false, false, false, false, false, false, false, false, false, false, false, false, false, false, false, false] rfl rfl (by kernel_rfl) (by decide) (fun K hK => ?_)
  refine goes_ Tryd.func55 (by kernel_rfl) rfl #[.int .i64 2, .int .i64 3] (by rfl) rfl rfl (by simp only [List.map_toArray, List.map_cons, List.map_nil]; rfl) ?_
  refine (macadamref00_Reach.calls 2 3 2 3 _ rfl).mono ?_
  rintro e wr14_1 ⟨rfl, hb⟩
  refine ⟨_, rfl, ?_⟩
  have K13r1 := Lib.hid (blk_below K13r0.out hb)
  have K15r1 := Lib.hid (blk_below K15r0.out hb)
  have HBr1 := Lib.hid (HBr0.out.trans (below_weaken hb HBr0.out.size))
  have hcr1 := Kd.C_below hcr0 hb
  refine hK.out _ _ ⟨(blk_cell (K13r1.out) 0).trans rfl, (blk_cell (K13r1.out) 1).trans rfl, (blk_cell (K15r1.out) 0).trans rfl, (blk_cell (K15r1.out) 1).trans rfl⟩ (fun hHeld => ?_)
  clear hK K
  refine norm_ (a' := ?_) ?_ ?_
  rotate_left
  · show Act.put _ (some 143) _ = _
    simp only [Act.put, List.setIfInBounds_toArray, List.set_cons_zero, List.set_cons_succ, i64_w, i32_w]
    rfl
  refine pure_ (i := 30) (N := some 144) (v := ?_) (a' := ?_) #[true, true, true, true, true, true, true, true, true, true, true, true, true, true, true, true, true, true, true, true, true, true, true, true, true, true, true, true, true, true, true, false, false, false, false, false, false, false, false, false, false, false, false, false, false, false, false, false] rfl rfl (by kernel_rfl) (fun _ _ _ h => h) (Or.inl ⟨by rfl, ?_⟩) ?_ ?_
  rotate_left
  · intro w'
    go_simp
    with_reducible rfl
  rotate_left
  · simp only [Act.put, List.setIfInBounds_toArray, List.set_cons_zero, List.set_cons_succ, i64_w, i32_w]
    rfl
  refine pure_ (i := 31) (N := some 145) (v := ?_) (a' := ?_) #[true, true, true, true, true, true, true, true, true, true, true, true, true, true, true, true, true, true, true, true, true, true, true, true, true, true, true, true, true, true, true, true, false, false, false, false, false, false, false, false, false, false, false, false, false, false, false, false] rfl rfl (by kernel_rfl) (fun _ _ _ h => h) (Or.inl ⟨by rfl, ?_⟩) ?_ ?_
  rotate_left
  · intro w'
    go_simp
    with_reducible rfl
  rotate_left
  · simp only [Act.put, List.setIfInBounds_toArray, List.set_cons_zero, List.set_cons_succ, i64_w, i32_w]
    rfl
  refine pure_ (i := 32) (N := some 146) (v := ?_) (a' := ?_) #[true, true, true, true, true, true, true, true, true, true, true, true, true, true, true, true, true, true, true, true, true, true, true, true, true, true, true, true, true, true, true, true, true, false, false, false, false, false, false, false, false, false, false, false, false, false, false, false] rfl rfl (by kernel_rfl) (fun _ _ _ h => h) (Or.inl ⟨by rfl, ?_⟩) ?_ ?_
  rotate_left
  · intro w'
    go_simp
    with_reducible rfl
  rotate_left
  · simp only [Act.put, List.setIfInBounds_toArray, List.set_cons_zero, List.set_cons_succ, i64_w, i32_w]
    rfl
  refine pure_ (i := 33) (N := some 147) (v := ?_) (a' := ?_) #[true, true, true, true, true, true, true, true, true, true, true, true, true, true, true, true, true, true, true, true, true, true, true, true, true, true, true, true, true, true, true, true, true, true, false, false, false, false, false, false, false, false, false, false, false, false, false, false] rfl rfl (by kernel_rfl) (fun _ _ _ h => h) (Or.inl ⟨by rfl, ?_⟩) ?_ ?_
  rotate_left
  · intro w'
    go_simp
    with_reducible rfl
  rotate_left
  · simp only [Act.put, List.setIfInBounds_toArray, List.set_cons_zero, List.set_cons_succ, i64_w, i32_w]
    rfl
  refine pure_ (i := 34) (N := some 148) (v := ?_) (a' := ?_) #[true, true, true, true, true, true, true, true, true, true, true, true, true, true, true, true, true, true, true, true, true, true, true, true, true, true, true, true, true, true, true, true, true, true, true, false, false, false, false, false, false, false, false, false, false, false, false, false] rfl rfl (by kernel_rfl) (fun _ _ _ h => h) (Or.inl ⟨by rfl, ?_⟩) ?_ ?_
  rotate_left
  · intro w'
    go_simp
    with_reducible rfl
  rotate_left
  · simp only [Act.put, List.setIfInBounds_toArray, List.set_cons_zero, List.set_cons_succ, i64_w, i32_w]
    rfl
  refine pure_ (i := 35) (N := some 149) (v := ?_) (a' := ?_) #[true, true, true, true, true, true, true, true, true, true, true, true, true, true, true, true, true, true, true, true, true, true, true, true, true, true, true, true, true, true, true, true, true, true, true, true, false, false, false, false, false, false, false, false, false, false, false, false] rfl rfl (by kernel_rfl) (fun _ _ _ h => h) (Or.inl ⟨by rfl, ?_⟩) ?_ ?_
  rotate_left
  · intro w'
    go_simp
    with_reducible rfl
  rotate_left
  · simp only [Act.put, List.setIfInBounds_toArray, List.set_cons_zero, List.set_cons_succ, i64_w, i32_w]
    rfl
  refine pure_ (i := 36) (N := some 150) (v := ?_) (a' := ?_) #[true, true, true, true, true, true, true, true, true, true, true, true, true, true, true, true, true, true, true, true, true, true, true, true, true, true, true, true, true, true, true, true, true, true, true, true, true, false, false, false, false, false, false, false, false, false, false, false] rfl rfl (by kernel_rfl) (fun _ _ _ h => h) (Or.inl ⟨by rfl, ?_⟩) ?_ ?_
  rotate_left
  · intro w'
    go_simp
    with_reducible rfl
  rotate_left
  · simp only [Act.put, List.setIfInBounds_toArray, List.set_cons_zero, List.set_cons_succ, i64_w, i32_w]
    rfl
  refine pure_ (i := 37) (N := some 151) (v := ?_) (a' := ?_) #[true, true, true, true, true, true, true, true, true, true, true, true, true, true, true, true, true, true, true, true, true, true, true, true, true, true, true, true, true, true, true, true, true, true, true, true, true, true, false, false, false, false, false, false, false, false, false, false] rfl rfl (by kernel_rfl) (fun _ _ _ h => h) (Or.inl ⟨by rfl, ?_⟩) ?_ ?_
  rotate_left
  · intro w'
    go_simp
    with_reducible rfl
  rotate_left
  · simp only [Act.put, List.setIfInBounds_toArray, List.set_cons_zero, List.set_cons_succ, i64_w, i32_w]
    rfl
  refine pure_ (i := 38) (N := some 152) (v := ?_) (a' := ?_) #[true, true, true, true, true, true, true, true, true, true, true, true, true, true, true, true, true, true, true, true, true, true, true, true, true, true, true, true, true, true, true, true, true, true, true, true, true, true, true, false, false, false, false, false, false, false, false, false] rfl rfl (by kernel_rfl) (fun _ _ _ h => h) (Or.inl ⟨by rfl, ?_⟩) ?_ ?_
  rotate_left
  · intro w'
    go_simp
    with_reducible rfl
  rotate_left
  · simp only [Act.put, List.setIfInBounds_toArray, List.set_cons_zero, List.set_cons_succ, i64_w, i32_w]
    rfl
  refine pure_ (i := 39) (N := some 153) (v := ?_) (a' := ?_) #[true, true, true, true, true, true, true, true, true, true, true, true, true, true, true, true, true, true, true, true, true, true, true, true, true, true, true, true, true, true, true, true, true, true, true, true, true, true, true, true, false, false, false, false, false, false, false, false] rfl rfl (by kernel_rfl) (fun _ _ _ h => h) (Or.inl ⟨by rfl, ?_⟩) ?_ ?_
  rotate_left
  · intro w'
    go_simp
    with_reducible rfl
  rotate_left
  · simp only [Act.put, List.setIfInBounds_toArray, List.set_cons_zero, List.set_cons_succ, i64_w, i32_w]
    rfl
  refine pure_ (i := 40) (N := some 154) (v := ?_) (a' := ?_) #[true, true, true, true, true, true, true, true, true, true, true, true, true, true, true, true, true, true, true, true, true, true, true, true, true, true, true, true, true, true, true, true, true, true, true, true, true, true, true, true, true, false, false, false, false, false, false, false] rfl rfl (by kernel_rfl) (fun _ _ _ h => h) (Or.inl ⟨by rfl, ?_⟩) ?_ ?_
  rotate_left
  · intro w'
    go_simp
    with_reducible rfl
  rotate_left
  · simp only [Act.put, List.setIfInBounds_toArray, List.set_cons_zero, List.set_cons_succ, i64_w, i32_w]
    rfl
  refine one_ (i := 41) (N := some 155) #[true, true, true, true, true, true, true, true, true, true, true, true, true, true, true, true, true, true, true, true, true, true, true, true, true, true, true, true, true, true, true, true, true, true, true, true, true, true, true, true, true, true, false, false, false, false, false, false] rfl rfl (by kernel_rfl) (by decide) (fun K hK => ?_)
  refine value_ (w1 := ?_) (v := ?_) (by rfl) rfl ?_ ?_
  rotate_left 2
  · go_simp
    constructor
    · rfl
    · rfl
  have hal : Below (wr14_1).heap.size (wr14_1) ((wr14_1).alloc (.cells #[.int .i64 0] 3)) := (Below.refl _ _).alloc (Nat.le_refl _) _
  have HBb := Lib.hid (HBr1.out.trans (below_weaken hal HBr1.out.size))
  have hcb := Kd.C_below hcr1 hal
  have hnb := C_new wr14_1
  have K13b := Lib.hid (blk_below K13r1.out hal)
  have K15b := Lib.hid (blk_below K15r1.out hal)
  refine hK.out _ _ ⟨(blk_cell (K13b.out) 0).trans rfl, (blk_cell (K13b.out) 1).trans rfl, (blk_cell (K15b.out) 0).trans rfl, (blk_cell (K15b.out) 1).trans rfl⟩ (fun hHeld => ?_)
  clear hK K
  refine norm_ (a' := ?_) ?_ ?_
  rotate_left
  · show Act.put _ (some 155) _ = _
    simp only [Act.put, List.setIfInBounds_toArray, List.set_cons_zero, List.set_cons_succ, i64_w, i32_w]
    rfl
  refine one_ (i := 42) (N := some 156) #[true, true, true, true, true, true, true, true, true, true, true, true, true, true, true, true, true, true, true, true, true, true, true, true, true, true, true, true, true, true, true, true, true, true, true, true, true, true, true, true, true, true, true, false, false, false, false, false] rfl rfl (by kernel_rfl) (by decide) (fun K hK => ?_)
  refine goes_ Tryd.func42 (by kernel_rfl) rfl #[.slice A9 1 c9, .slice (some ⟨(wr14_1).heap.size, 0, none⟩) 1 1] (by rfl) rfl rfl (by simp only [List.map_toArray, List.map_cons, List.map_nil]; rfl) ?_
  refine (macadamref00_Like.calls 5 A9 c9 [0] (some ⟨(wr14_1).heap.size, 0, none⟩) 1 [0] true _ hcb HC9.out hnb (Nat.le_refl _) (by decide +kernel)).mono ?_
  rintro e wl ⟨rfl, hd⟩
  refine ⟨_, rfl, ?_⟩
  have hb := hd.below
  have HBl := Lib.hid (HBb.out.trans (below_weaken hb HBb.out.size))
  have K13l := Lib.hid (blk_below K13b.out hb)
  have K15l := Lib.hid (blk_below K15b.out hb)
  refine hK.out _ _ ⟨(blk_cell (K13l.out) 0).trans rfl, (blk_cell (K13l.out) 1).trans rfl, (blk_cell (K15l.out) 0).trans rfl, (blk_cell (K15l.out) 1).trans rfl⟩ (fun hHeld => ?_)
  clear hK K
  refine norm_ (a' := ?_) ?_ ?_
  rotate_left
  · show Act.put _ (some 156) _ = _
    simp only [Act.put, List.setIfInBounds_toArray, List.set_cons_zero, List.set_cons_succ, i64_w, i32_w]
    rfl
  refine pure_ (i := 43) (N := some 157) (v := ?_) (a' := ?_) #[true, true, true, true, true, true, true, true, true, true, true, true, true, true, true, true, true, true, true, true, true, true, true, true, true, true, true, true, true, true, true, true, true, true, true, true, true, true, true, true, true, true, true, true, false, false, false, false] rfl rfl (by kernel_rfl) (fun _ _ _ h => h) (Or.inl ⟨by rfl, ?_⟩) ?_ ?_
  rotate_left
  · intro w'
    go_simp
    with_reducible rfl
  rotate_left
  · simp only [Act.put, List.setIfInBounds_toArray, List.set_cons_zero, List.set_cons_succ, i64_w, i32_w]
    rfl
  refine pure_ (i := 44) (N := some 158) (v := ?_) (a' := ?_) #[true, true, true, true, true, true, true, true, true, true, true, true, true, true, true, true, true, true, true, true, true, true, true, true, true, true, true, true, true, true, true, true, true, true, true, true, true, true, true, true, true, true, true, true, true, false, false, false] rfl rfl (by kernel_rfl) (fun _ _ _ h => h) (Or.inl ⟨by rfl, ?_⟩) ?_ ?_
  rotate_left
  · intro w'
    go_simp
    with_reducible rfl
  rotate_left
  · simp only [Act.put, List.setIfInBounds_toArray, List.set_cons_zero, List.set_cons_succ, i64_w, i32_w]
    rfl
  refine pure_ (i := 45) (N := some 159) (v := ?_) (a' := ?_) #[true, true, true, true, true, true, true, true, true, true, true, true, true, true, true, true, true, true, true, true, true, true, true, true, true, true, true, true, true, true, true, true, true, true, true, true, true, true, true, true, true, true, true, true, true, true, false, false] rfl rfl (by kernel_rfl) (fun _ _ _ h => h) (Or.inl ⟨by rfl, ?_⟩) ?_ ?_
  rotate_left
  · intro w'
    go_simp
    with_reducible rfl
  rotate_left
  · simp only [Act.put, List.setIfInBounds_toArray, List.set_cons_zero, List.set_cons_succ, i64_w, i32_w]
    rfl
  refine pure_ (i := 46) (N := some 160) (v := ?_) (a' := ?_) #[true, true, true, true, true, true, true, true, true, true, true, true, true, true, true, true, true, true, true, true, true, true, true, true, true, true, true, true, true, true, true, true, true, true, true, true, true, true, true, true, true, true, true, true, true, true, true, false] rfl rfl (by kernel_rfl) (fun _ _ _ h => h) (Or.inl ⟨by rfl, ?_⟩) ?_ ?_
  rotate_left
  · intro w'
    go_simp
    with_reducible rfl
  rotate_left
  · simp only [Act.put, List.setIfInBounds_toArray, List.set_cons_zero, List.set_cons_succ, i64_w, i32_w]
    rfl
  refine pure_ (i := 47) (N := some 0) (v := ?_) (a' := ?_) #[true, true, true, true, true, true, true, true, true, true, true, true, true, true, true, true, true, true, true, true, true, true, true, true, true, true, true, true, true, true, true, true, true, true, true, true, true, true, true, true, true, true, true, true, true, true, true, true] rfl rfl (by kernel_rfl) (fun _ _ _ h => h) (Or.inl ⟨by rfl, ?_⟩) ?_ ?_
  rotate_left
  · intro w'
    go_simp
    with_reducible rfl
  rotate_left
  · simp only [Act.put, List.setIfInBounds_toArray, List.set_cons_zero, List.set_cons_succ, i64_w, i32_w]
    rfl
  refine done_ (by kernel_rfl) ?_

  go_wp2
  go_ret
  exact ⟨rfl, HBl.out⟩
end Go.Proofs.YthgjedagbgmgmaaDoor.Pr
namespace Go.Proofs.YthgjedagbgmgmaaDoor.Pr
open Go.RowKit Go.Proofs.YthgjedagbgmgmaaDoorW.PrintWords Go.Proofs.YthgjedagbgmgmaaDoorW.PrintLast Go.Proofs.YthgjedagbgmgmaaDoorW.PrintMore
set_option linter.unusedVariables false
set_option linter.unusedSimpArgs false
theorem amid_calls (n a b : Int) (w : World) : Calls Tryd.prog 60 #[.int .i64 n, .int .i64 a, .int .i64 b] w fun e w' => e = .returned (.bool (decide (a ≤ n ∧ n ≤ b))) ∧ Below w.heap.size w w' := by
  have h : macadamref00_Amid.f n a b = some (decide (a ≤ n ∧ n ≤ b)) := by
    unfold macadamref00_Amid.f
    by_cases h : a ≤ n
    · rw [if_pos h]; simp [h]
    · rw [if_neg h]; simp [h]
  exact (macadamref00_Amid.calls n a b _ w h).mono (by rintro e w' ⟨rfl, hd⟩; exact ⟨rfl, hd.below⟩)
theorem amid_true {n a b : Int} (h0 : a ≤ n) (h1 : n ≤ b) (w : World) : Calls Tryd.prog 60 #[.int .i64 n, .int .i64 a, .int .i64 b] w fun e w' => e = .returned (.bool true) ∧ Below w.heap.size w w' := by
  have h := amid_calls n a b w
  rw [decide_eq_true ⟨h0, h1⟩] at h
  exact h
theorem sane_true {lo hi a b c : Int} (h0 : a ≤ lo) (h1 : lo ≤ hi) (h2 : hi ≤ b) (h3 : hi - lo ≤ c) (hb : b ≤ 1000) (ha : 0 ≤ a) (w : World) : Calls Tryd.prog 62 #[.agg #[.int .i64 lo, .int .i64 hi], .int .i64 a, .int .i64 b, .int .i64 c] w fun e w' => e = .returned (.bool true) ∧ Below w.heap.size w w' := by
  refine macadamref00_Sane.calls lo hi a b c true w ?_
  unfold macadamref00_Sane.f
  rw [if_pos h0, if_pos h1, if_pos h2, wrap64_id (by omega) (by omega), decide_eq_true h3]
set_option maxHeartbeats 4000000 in
set_option maxRecDepth 100000 in
theorem sound_no (A0 A1 A2 : Option Addr) (c0 c1 c2 : Nat) (l0 : List S92) (l1 : List S90) (l2 : List S43) (w : World) (h : BookAt w A0 A1 A2 c0 c1 c2 l0 l1 l2) (hok : okBook l0 l1 l2 = false) :
    Calls Tryd.prog 56 #[.agg #[.slice A0 l0.length c0, .slice A1 l1.length c1, .slice A2 l2.length c2]] w fun e w' => e = .returned (.bool false) ∧ Below w.heap.size w w' := by
  have HCC : Hid (∀ W, Below w.heap.size w W → Calls Tryd.prog 19 #[.agg #[.slice A0 l0.length c0, .slice A1 l1.length c1, .slice A2 l2.length c2]] W fun e w' => e = .returned (.int .i64 70) ∧ Below W.heap.size W w') := by
    refine Lib.hid fun W hW => ?_
    have hc := check_calls A0 A1 A2 c0 c1 c2 l0 l1 l2 W (Kd.C_below h.r0 hW) h.c0 (Kd.C_below h.r1 hW) h.c1 (Kd.C_below h.r2 hW) h.c2 (by have := h.r0.2.1; omega) (by have := h.r1.2.1; omega) (by have := h.r2.2.1; omega)
    rw [hok] at hc
    exact hc
  clear h hok
  go_enter Tryd.func56, Tryd.ntmps56
  go_wp2_with (go_at_call 19; refine (HCC.out _ ?hw).mono ?_; (case hw => exact by repeat (first | exact Below.refl _ _ | refine Below.alloc ?_ (by simp <;> omega) _ | refine Below.setCell ?_ (by simp <;> omega) _ | apply Below.drew)); rintro e w1 ⟨rfl, hB1⟩)
  have HB1 := Lib.hid ((show Below w.heap.size w _ from by repeat (first | exact Below.refl _ _ | refine Below.alloc ?_ (by simp <;> omega) _ | refine Below.setCell ?_ (by simp <;> omega) _ | apply Below.drew)).trans (below_weaken hB1 (by simp)))
  clear hB1
  go_loopg [3, 4] (0) (fun gk v3 v4 wr => v3 = .bool false ∧ v4 = .int .i64 0 ∧ Aside0 (Below w.heap.size w wr))
  case atStart => exact ⟨rfl, rfl, ⟨HB1.out⟩⟩
  case round =>
    obtain ⟨rfl, rfl, HBR⟩ := hrel
    go_wp2
    obtain ⟨wo, rfl⟩ : ∃ wo : World, wo = wr := ⟨_, rfl⟩
    go_loopg [3, 5] (0) (fun gk v3 v5 wr => v3 = .bool false ∧ v5 = .int .i64 0 ∧ Aside0 (Below w.heap.size w wr))
    case atStart => exact ⟨rfl, rfl, ⟨HBR.out⟩⟩
    case round =>
      obtain ⟨rfl, rfl, HBR2⟩ := hrel
      go_wp2
      go_ret
      exact ⟨rfl, HBR2.out⟩
set_option maxHeartbeats 4000000 in
set_option maxRecDepth 100000 in
theorem sound_yes (A0 A1 A2 : Option Addr) (c0 c1 c2 : Nat) (l0 : List S92) (l1 : List S90) (l2 : List S43) (w : World) (h : BookAt w A0 A1 A2 c0 c1 c2 l0 l1 l2) (hok : okBook l0 l1 l2 = true) :
    Calls Tryd.prog 56 #[.agg #[.slice A0 l0.length c0, .slice A1 l1.length c1, .slice A2 l2.length c2]] w fun e w' => e = .returned (.bool true) ∧ Below w.heap.size w w' := by
  have HCC : Hid (∀ W, Below w.heap.size w W → Calls Tryd.prog 19 #[.agg #[.slice A0 l0.length c0, .slice A1 l1.length c1, .slice A2 l2.length c2]] W fun e w' => e = .returned (.int .i64 0) ∧ Below W.heap.size W w') := by
    refine Lib.hid fun W hW => ?_
    have hc := check_calls A0 A1 A2 c0 c1 c2 l0 l1 l2 W (Kd.C_below h.r0 hW) h.c0 (Kd.C_below h.r1 hW) h.c1 (Kd.C_below h.r2 hW) h.c2 (by have := h.r0.2.1; omega) (by have := h.r1.2.1; omega) (by have := h.r2.2.1; omega)
    rw [hok] at hc
    exact hc
  obtain ⟨o1, o2, o3, o4, o5, o6, o7⟩ := ok_facts hok
  have hlk : ∀ x ∈ l2, 0 ≤ x.f0 ∧ x.f0 ≤ (l1.length : Int) - 1 ∧ 0 ≤ x.f1 ∧ x.f1 ≤ (l0.length : Int) := by
    intro x hx
    unfold okBook at hok
    simp only [Bool.and_eq_true, List.all_eq_true] at hok
    have := hok.2 x hx
    unfold okLook at this
    simp only [Bool.and_eq_true, decide_eq_true_eq] at this
    omega
  have hdy : ∀ x ∈ l1, okDay x = true := by
    unfold okBook at hok
    simp only [Bool.and_eq_true, List.all_eq_true] at hok
    exact hok.1.2
  have HLK := Lib.hid hlk
  have HDY := Lib.hid hdy
  have HR1 := Lib.hid (row90 h.r1)
  have HR2 := Lib.hid (row43 h.r2)
  have HA0 := Lib.hid (amid_true (n := (l0.length : Int)) (a := 1) (b := 4) (by omega) (by omega))
  have HA1 := Lib.hid (amid_true (n := (l1.length : Int)) (a := 1) (b := 5) (by omega) (by omega))
  have l2I : (l2.length : Int) ≤ 4 := by omega
  have l1I : (1 : Int) ≤ (l1.length : Int) := by omega
  have l1J : (l1.length : Int) ≤ 5 := by omega
  clear h hok o6 o7 hlk hdy
  go_enter Tryd.func56, Tryd.ntmps56
  go_wp2_with fail
  refine (HCC.out _ ?hw).mono ?_
  (case hw => exact by repeat (first | exact Below.refl _ _ | refine Below.alloc ?_ (by simp <;> omega) _ | refine Below.setCell ?_ (by simp <;> omega) _ | apply Below.drew))
  rintro e w1 ⟨rfl, hB1⟩
  have hk := blk_below (blk_new w (.cells #[.slice A0 l0.length c0, .slice A1 l1.length c1, .slice A2 l2.length c2] 26)) hB1
  have HB1 := Lib.hid ((show Below w.heap.size w _ from by repeat (first | exact Below.refl _ _ | refine Below.alloc ?_ (by simp <;> omega) _ | refine Below.setCell ?_ (by simp <;> omega) _ | apply Below.drew)).trans (below_weaken hB1 (by simp)))
  have k0 := (blk_cell hk 0).trans rfl
  have HK := Lib.hid hk
  clear hB1 hk
  go_wp2_with fail
  clear k0
  refine (HA0.out _).mono ?_
  rintro e w2 ⟨rfl, hB2⟩
  have hk := blk_below HK.out hB2
  have HB2 := Lib.hid (HB1.out.trans (below_weaken hB2 HB1.out.size))
  have k0 := (blk_cell hk 1).trans rfl
  have HK2 := Lib.hid hk
  clear hB2 hk
  go_wp2_with fail
  clear k0
  refine (HA1.out _).mono ?_
  rintro e w3 ⟨rfl, hB3⟩
  have hk := blk_below HK2.out hB3
  have HB3 := Lib.hid (HB2.out.trans (below_weaken hB3 HB2.out.size))
  have k0 := (blk_cell hk 2).trans rfl
  have HK3 := Lib.hid hk
  clear hB3 hk
  go_wp2
  clear k0
  go_loopg [3, 4] (l1.length) (fun gk v3 v4 wr => ∃ k : Nat, v3 = .bool true ∧ v4 = .int .i64 k ∧ Aside0 (k + gk = l1.length) ∧ Aside0 (wr.heap[w.heap.size]? = some (.cells #[.slice A0 l0.length c0, .slice A1 l1.length c1, .slice A2 l2.length c2] 26 (0, 0))) ∧ Aside0 (Below w.heap.size w wr))
  case atStart => exact ⟨0, rfl, rfl, ⟨by omega⟩, ⟨HK3.out⟩, ⟨HB3.out⟩⟩
  case round =>
    obtain ⟨k, rfl, rfl, HKK, HKB, HBR⟩ := hrel
    have k1 := (blk_cell HKB.out 1).trans rfl
    cases gk with
    | zero =>
      have hge : ¬ k < l1.length := by have := HKK.out; omega
      go_wp2
      clear k1
      obtain ⟨wo, rfl⟩ : ∃ wo : World, wo = wr := ⟨_, rfl⟩
      have HKB2 := Lib.hid HKB.out
      have HBR2 := Lib.hid HBR.out
      clear HKB HBR hge HKK
      go_loopg [3, 5] (l2.length) (fun gk v3 v5 wr => ∃ k : Nat, v3 = .bool true ∧ v5 = .int .i64 k ∧ Aside0 (k + gk = l2.length) ∧ Aside0 (wr.heap[w.heap.size]? = some (.cells #[.slice A0 l0.length c0, .slice A1 l1.length c1, .slice A2 l2.length c2] 26 (0, 0))) ∧ Aside0 (Below w.heap.size w wr))
      case atStart => exact ⟨0, rfl, rfl, ⟨by omega⟩, ⟨HKB2.out⟩, ⟨HBR2.out⟩⟩
      case round =>
        obtain ⟨k, rfl, rfl, HKK, HKB, HBR⟩ := hrel
        have k2 := (blk_cell HKB.out 2).trans rfl
        cases gk with
        | zero =>
          have hge : ¬ k < l2.length := by have := HKK.out; omega
          go_wp2
          go_ret
          exact ⟨rfl, HBR.out⟩
        | succ g1 =>
          have hlt : k < l2.length := by have := HKK.out; omega
          obtain ⟨b, o, rfl, hbl, q0, q1⟩ := at43 HR2.out k hlt
          have hlkk := HLK.out _ (List.getElem_mem hlt)
          obtain ⟨x0, hx0⟩ : ∃ x, x = l2[k].f0 := ⟨_, rfl⟩
          obtain ⟨x1, hx1⟩ : ∃ x, x = l2[k].f1 := ⟨_, rfl⟩
          rw [← hx0] at q0 hlkk
          rw [← hx1] at q1 hlkk
          obtain ⟨hx00, hx01, hx10, hx11⟩ := hlkk
          have QC0 := Lib.hid q0
          have QC1 := Lib.hid q1
          have hk4 : (k : Int) < (l2.length : Int) := by omega
          clear hx0 hx1 q0 q1
          go_upto_region 9 with fail
          clear k2
          have hwl : IntKind.i64.wrap ((l1.length : Int) - 1) = (l1.length : Int) - 1 := IntWalk.i64_in _ (by omega)
          have hBD : Below wr.heap.size wr wr.drew := by repeat (first | exact Below.refl _ _ | refine Below.alloc ?_ (by simp <;> omega) _ | refine Below.setCell ?_ (by simp <;> omega) _ | apply Below.drew)
          have HKD := Lib.hid (blk_below HKB.out hBD)
          have HWD := Lib.hid (HBR.out.trans (below_weaken hBD HBR.out.size))
          clear hBD
          refine start_ (n := 24) (S := fun w' => w'.cell? ⟨w.heap.size, 0, none⟩ = some (.slice A0 l0.length c0) ∧ w'.cell? ⟨w.heap.size, 1, none⟩ = some (.slice A1 l1.length c1) ∧ w'.cell? ⟨w.heap.size, 2, none⟩ = some (.slice (some ⟨b, o, none⟩) l2.length c2) ∧ w'.cell? ⟨b, o + k * 2, none⟩ = some (.int .i64 x0) ∧ w'.cell? ⟨b, o + k * 2 + 1, none⟩ = some (.int .i64 x1)) (ds := []) #[false, false, false, false, false, false, false, false, false, false, false, false, false, false, false, false, false, false, false, false, false, false, false, false] (by kernel_rfl) rfl rfl ⟨(blk_cell HKD.out 0).trans rfl, (blk_cell HKD.out 1).trans rfl, (blk_cell HKD.out 2).trans rfl, (HWD.out.cell (p := ⟨b, o + k * 2, none⟩) hbl).trans QC0.out, (HWD.out.cell (p := ⟨b, o + k * 2 + 1, none⟩) hbl).trans QC1.out⟩ (fun hHeld => ?_)
          refine pure_ (i := 0) (N := some 63) (v := ?_) (a' := ?_) #[true, false, false, false, false, false, false, false, false, false, false, false, false, false, false, false, false, false, false, false, false, false, false, false] rfl rfl (by kernel_rfl) (fun _ _ _ h => h) (Or.inl ⟨by rfl, ?_⟩) ?_ ?_
          rotate_left
          · intro w'
            go_simp
            with_reducible rfl
          rotate_left
          · simp only [Act.put, List.setIfInBounds_toArray, List.set_cons_zero, List.set_cons_succ, i64_w, i32_w]
            rfl
          refine pure_ (i := 2) (N := some 65) (v := ?_) (a' := ?_) #[true, false, true, false, false, false, false, false, false, false, false, false, false, false, false, false, false, false, false, false, false, false, false, false] rfl rfl (by kernel_rfl) (fun _ _ _ h => h) (Or.inl ⟨by rfl, ?_⟩) ?_ ?_
          rotate_left
          · intro w'
            go_simp
            with_reducible rfl
          rotate_left
          · simp only [Act.put, List.setIfInBounds_toArray, List.set_cons_zero, List.set_cons_succ, i64_w, i32_w]
            rfl
          refine pure_ (i := 6) (N := some 69) (v := ?_) (a' := ?_) #[true, false, true, false, false, false, true, false, false, false, false, false, false, false, false, false, false, false, false, false, false, false, false, false] rfl rfl (by kernel_rfl) (fun _ _ _ h => h) (Or.inl ⟨by rfl, ?_⟩) ?_ ?_
          rotate_left
          · intro w'
            go_simp
            with_reducible rfl
          rotate_left
          · simp only [Act.put, List.setIfInBounds_toArray, List.set_cons_zero, List.set_cons_succ, i64_w, i32_w]
            rfl
          refine take_ (i := 1) (N := some 64) (v := ?_) (a' := ?_) #[true, true, true, false, false, false, true, false, false, false, false, false, false, false, false, false, false, false, false, false, false, false, false, false] rfl rfl (by kernel_rfl) (fun _ _ _ h => h) (Or.inl ⟨by rfl, ?_⟩) hHeld ?_ ?_
          rotate_left
          · rintro w' ⟨s0, s1, s2, s3, s4⟩
            go_simp
            with_reducible rfl
          rotate_left
          · simp only [Act.put, List.setIfInBounds_toArray, List.set_cons_zero, List.set_cons_succ, i64_w, i32_w]
            rfl
          refine pure_ (i := 3) (N := some 66) (v := ?_) (a' := ?_) #[true, true, true, true, false, false, true, false, false, false, false, false, false, false, false, false, false, false, false, false, false, false, false, false] rfl rfl (by kernel_rfl) (fun _ _ _ h => h) (Or.inl ⟨by rfl, ?_⟩) ?_ ?_
          rotate_left
          · intro w'
            go_simp
            with_reducible rfl
          rotate_left
          · simp only [Act.put, List.setIfInBounds_toArray, List.set_cons_zero, List.set_cons_succ, i64_w, i32_w]
            rfl
          refine pure_ (i := 4) (N := some 67) (v := ?_) (a' := ?_) #[true, true, true, true, true, false, true, false, false, false, false, false, false, false, false, false, false, false, false, false, false, false, false, false] rfl rfl (by kernel_rfl) (fun _ _ _ h => h) (Or.inl ⟨by rfl, ?_⟩) ?_ ?_
          rotate_left
          · intro w'
            go_simp
            with_reducible rfl
          rotate_left
          · simp only [Act.put, List.setIfInBounds_toArray, List.set_cons_zero, List.set_cons_succ, i64_w, i32_w]
            rfl
          refine take_ (i := 5) (N := some 68) (v := ?_) (a' := ?_) #[true, true, true, true, true, true, true, false, false, false, false, false, false, false, false, false, false, false, false, false, false, false, false, false] rfl rfl (by kernel_rfl) (fun _ _ _ h => h) (Or.inl ⟨by rfl, ?_⟩) hHeld ?_ ?_
          rotate_left
          · rintro w' ⟨s0, s1, s2, s3, s4⟩
            go_simp
            with_reducible rfl
          rotate_left
          · simp only [Act.put, List.setIfInBounds_toArray, List.set_cons_zero, List.set_cons_succ, i64_w, i32_w]
            rfl
          refine take_ (i := 7) (N := some 70) (v := ?_) (a' := ?_) #[true, true, true, true, true, true, true, true, false, false, false, false, false, false, false, false, false, false, false, false, false, false, false, false] rfl rfl (by kernel_rfl) (fun _ _ _ h => h) (Or.inl ⟨by rfl, ?_⟩) hHeld ?_ ?_
          rotate_left
          · rintro w' ⟨s0, s1, s2, s3, s4⟩
            go_simp
            with_reducible rfl
          rotate_left
          · simp only [Act.put, List.setIfInBounds_toArray, List.set_cons_zero, List.set_cons_succ, i64_w, i32_w]
            rfl
          refine pure_ (i := 8) (N := some 71) (v := ?_) (a' := ?_) #[true, true, true, true, true, true, true, true, true, false, false, false, false, false, false, false, false, false, false, false, false, false, false, false] rfl rfl (by kernel_rfl) (fun _ _ _ h => h) (Or.inl ⟨by rfl, ?_⟩) ?_ ?_
          rotate_left
          · intro w'
            go_simp
            with_reducible rfl
          rotate_left
          · simp only [Act.put, List.setIfInBounds_toArray, List.set_cons_zero, List.set_cons_succ, i64_w, i32_w]
            rfl
          refine pure_ (i := 9) (N := some 72) (v := ?_) (a' := ?_) #[true, true, true, true, true, true, true, true, true, true, false, false, false, false, false, false, false, false, false, false, false, false, false, false] rfl rfl (by kernel_rfl) (fun _ _ _ h => h) (Or.inl ⟨by rfl, ?_⟩) ?_ ?_
          rotate_left
          · intro w'
            go_simp
            with_reducible rfl
          rotate_left
          · simp only [Act.put, List.setIfInBounds_toArray, List.set_cons_zero, List.set_cons_succ, i64_w, i32_w]
            rfl
          refine one_ (i := 10) (N := some 73) #[true, true, true, true, true, true, true, true, true, true, true, false, false, false, false, false, false, false, false, false, false, false, false, false] rfl rfl (by kernel_rfl) (by decide) (fun K hK => ?_)
          refine goes_ Tryd.func60 (by kernel_rfl) rfl #[.int .i64 x0, .int .i64 0, .int .i64 ((l1.length : Int) - 1)] (by rfl) rfl rfl (by simp only [List.map_toArray, List.map_cons, List.map_nil]; rfl) ?_
          refine (amid_true hx00 hx01 _).mono ?_
          rintro e w7 ⟨rfl, hb⟩
          refine ⟨_, rfl, ?_⟩
          have h7 := blk_below HKD.out hb
          have HW7 := Lib.hid (HWD.out.trans (below_weaken hb HWD.out.size))
          refine hK.out _ _ ⟨(blk_cell h7 0).trans rfl, (blk_cell h7 1).trans rfl, (blk_cell h7 2).trans rfl, (HW7.out.cell (p := ⟨b, o + k * 2, none⟩) hbl).trans QC0.out, (HW7.out.cell (p := ⟨b, o + k * 2 + 1, none⟩) hbl).trans QC1.out⟩ (fun hHeld => ?_)
          clear hK K
          refine norm_ (a' := ?_) ?_ ?_
          rotate_left
          · show Act.put _ (some 73) _ = _
            simp only [Act.put, List.setIfInBounds_toArray, List.set_cons_zero, List.set_cons_succ, i64_w, i32_w]
            rfl
          refine pure_ (i := 11) (N := some 74) (v := ?_) (a' := ?_) #[true, true, true, true, true, true, true, true, true, true, true, true, false, false, false, false, false, false, false, false, false, false, false, false] rfl rfl (by kernel_rfl) (fun _ _ _ h => h) (Or.inl ⟨by rfl, ?_⟩) ?_ ?_
          rotate_left
          · intro w'
            go_simp
            with_reducible rfl
          rotate_left
          · simp only [Act.put, List.setIfInBounds_toArray, List.set_cons_zero, List.set_cons_succ, i64_w, i32_w]
            rfl
          refine pure_ (i := 12) (N := some 75) (v := ?_) (a' := ?_) #[true, true, true, true, true, true, true, true, true, true, true, true, true, false, false, false, false, false, false, false, false, false, false, false] rfl rfl (by kernel_rfl) (fun _ _ _ h => h) (Or.inl ⟨by rfl, ?_⟩) ?_ ?_
          rotate_left
          · intro w'
            go_simp
            with_reducible rfl
          rotate_left
          · simp only [Act.put, List.setIfInBounds_toArray, List.set_cons_zero, List.set_cons_succ, i64_w, i32_w]
            rfl
          refine pure_ (i := 14) (N := some 77) (v := ?_) (a' := ?_) #[true, true, true, true, true, true, true, true, true, true, true, true, true, false, true, false, false, false, false, false, false, false, false, false] rfl rfl (by kernel_rfl) (fun _ _ _ h => h) (Or.inl ⟨by rfl, ?_⟩) ?_ ?_
          rotate_left
          · intro w'
            go_simp
            with_reducible rfl
          rotate_left
          · simp only [Act.put, List.setIfInBounds_toArray, List.set_cons_zero, List.set_cons_succ, i64_w, i32_w]
            rfl
          refine pure_ (i := 18) (N := some 81) (v := ?_) (a' := ?_) #[true, true, true, true, true, true, true, true, true, true, true, true, true, false, true, false, false, false, true, false, false, false, false, false] rfl rfl (by kernel_rfl) (fun _ _ _ h => h) (Or.inl ⟨by rfl, ?_⟩) ?_ ?_
          rotate_left
          · intro w'
            go_simp
            with_reducible rfl
          rotate_left
          · simp only [Act.put, List.setIfInBounds_toArray, List.set_cons_zero, List.set_cons_succ, i64_w, i32_w]
            rfl
          refine take_ (i := 13) (N := some 76) (v := ?_) (a' := ?_) #[true, true, true, true, true, true, true, true, true, true, true, true, true, true, true, false, false, false, true, false, false, false, false, false] rfl rfl (by kernel_rfl) (fun _ _ _ h => h) (Or.inl ⟨by rfl, ?_⟩) hHeld ?_ ?_
          rotate_left
          · rintro w' ⟨s0, s1, s2, s3, s4⟩
            go_simp
            with_reducible rfl
          rotate_left
          · simp only [Act.put, List.setIfInBounds_toArray, List.set_cons_zero, List.set_cons_succ, i64_w, i32_w]
            rfl
          refine pure_ (i := 15) (N := some 78) (v := ?_) (a' := ?_) #[true, true, true, true, true, true, true, true, true, true, true, true, true, true, true, true, false, false, true, false, false, false, false, false] rfl rfl (by kernel_rfl) (fun _ _ _ h => h) (Or.inl ⟨by rfl, ?_⟩) ?_ ?_
          rotate_left
          · intro w'
            go_simp
            with_reducible rfl
          rotate_left
          · simp only [Act.put, List.setIfInBounds_toArray, List.set_cons_zero, List.set_cons_succ, i64_w, i32_w]
            rfl
          refine pure_ (i := 16) (N := some 79) (v := ?_) (a' := ?_) #[true, true, true, true, true, true, true, true, true, true, true, true, true, true, true, true, true, false, true, false, false, false, false, false] rfl rfl (by kernel_rfl) (fun _ _ _ h => h) (Or.inl ⟨by rfl, ?_⟩) ?_ ?_
          rotate_left
          · intro w'
            go_simp
            with_reducible rfl
          rotate_left
          · simp only [Act.put, List.setIfInBounds_toArray, List.set_cons_zero, List.set_cons_succ, i64_w, i32_w]
            rfl
          refine take_ (i := 17) (N := some 80) (v := ?_) (a' := ?_) #[true, true, true, true, true, true, true, true, true, true, true, true, true, true, true, true, true, true, true, false, false, false, false, false] rfl rfl (by kernel_rfl) (fun _ _ _ h => h) (Or.inl ⟨by rfl, ?_⟩) hHeld ?_ ?_
          rotate_left
          · rintro w' ⟨s0, s1, s2, s3, s4⟩
            go_simp
            with_reducible rfl
          rotate_left
          · simp only [Act.put, List.setIfInBounds_toArray, List.set_cons_zero, List.set_cons_succ, i64_w, i32_w]
            rfl
          refine take_ (i := 19) (N := some 82) (v := ?_) (a' := ?_) #[true, true, true, true, true, true, true, true, true, true, true, true, true, true, true, true, true, true, true, true, false, false, false, false] rfl rfl (by kernel_rfl) (fun _ _ _ h => h) (Or.inl ⟨by rfl, ?_⟩) hHeld ?_ ?_
          rotate_left
          · rintro w' ⟨s0, s1, s2, s3, s4⟩
            go_simp
            with_reducible rfl
          rotate_left
          · simp only [Act.put, List.setIfInBounds_toArray, List.set_cons_zero, List.set_cons_succ, i64_w, i32_w]
            rfl
          refine pure_ (i := 20) (N := some 83) (v := ?_) (a' := ?_) #[true, true, true, true, true, true, true, true, true, true, true, true, true, true, true, true, true, true, true, true, true, false, false, false] rfl rfl (by kernel_rfl) (fun _ _ _ h => h) (Or.inl ⟨by rfl, ?_⟩) ?_ ?_
          rotate_left
          · intro w'
            go_simp
            with_reducible rfl
          rotate_left
          · simp only [Act.put, List.setIfInBounds_toArray, List.set_cons_zero, List.set_cons_succ, i64_w, i32_w]
            rfl
          refine one_ (i := 21) (N := some 84) #[true, true, true, true, true, true, true, true, true, true, true, true, true, true, true, true, true, true, true, true, true, true, false, false] rfl rfl (by kernel_rfl) (by decide) (fun K hK => ?_)
          refine goes_ Tryd.func60 (by kernel_rfl) rfl #[.int .i64 x1, .int .i64 0, .int .i64 (l0.length : Int)] (by rfl) rfl rfl (by simp only [List.map_toArray, List.map_cons, List.map_nil]; rfl) ?_
          refine (amid_true hx10 hx11 _).mono ?_
          rintro e w8 ⟨rfl, hb8⟩
          refine ⟨_, rfl, ?_⟩
          have h8 := blk_below h7 hb8
          have HW8 := Lib.hid (HW7.out.trans (below_weaken hb8 HW7.out.size))
          refine hK.out _ _ ⟨(blk_cell h8 0).trans rfl, (blk_cell h8 1).trans rfl, (blk_cell h8 2).trans rfl, (HW8.out.cell (p := ⟨b, o + k * 2, none⟩) hbl).trans QC0.out, (HW8.out.cell (p := ⟨b, o + k * 2 + 1, none⟩) hbl).trans QC1.out⟩ (fun hHeld => ?_)
          clear hK K
          refine norm_ (a' := ?_) ?_ ?_
          rotate_left
          · show Act.put _ (some 84) _ = _
            simp only [Act.put, List.setIfInBounds_toArray, List.set_cons_zero, List.set_cons_succ, i64_w, i32_w]
            rfl
          refine pure_ (i := 22) (N := some 85) (v := ?_) (a' := ?_) #[true, true, true, true, true, true, true, true, true, true, true, true, true, true, true, true, true, true, true, true, true, true, true, false] rfl rfl (by kernel_rfl) (fun _ _ _ h => h) (Or.inl ⟨by rfl, ?_⟩) ?_ ?_
          rotate_left
          · intro w'
            go_simp
            with_reducible rfl
          rotate_left
          · simp only [Act.put, List.setIfInBounds_toArray, List.set_cons_zero, List.set_cons_succ, i64_w, i32_w]
            rfl
          refine pure_ (i := 23) (N := some 3) (v := ?_) (a' := ?_) #[true, true, true, true, true, true, true, true, true, true, true, true, true, true, true, true, true, true, true, true, true, true, true, true] rfl rfl (by kernel_rfl) (fun _ _ _ h => h) (Or.inl ⟨by rfl, ?_⟩) ?_ ?_
          rotate_left
          · intro w'
            go_simp
            with_reducible rfl
          rotate_left
          · simp only [Act.put, List.setIfInBounds_toArray, List.set_cons_zero, List.set_cons_succ, i64_w, i32_w]
            rfl
          refine done_ (by kernel_rfl) ?_

          go_wp2
          go_roundg g1
          case measure => omega
          case rel => exact ⟨k + 1, rfl, by go_num, ⟨by have := HKK.out; omega⟩, ⟨h8⟩, ⟨HW8.out⟩⟩
    | succ g1 =>
      have hlt : k < l1.length := by have := HKK.out; omega
      obtain ⟨b, o, rfl, hbl, q0, q1, q2⟩ := at90 HR1.out k hlt
      have hd := HDY.out _ (List.getElem_mem hlt)
      obtain ⟨lo, hlo⟩ : ∃ x, x = l1[k].f0.f0 := ⟨_, rfl⟩
      obtain ⟨hi, hhi⟩ : ∃ x, x = l1[k].f0.f1 := ⟨_, rfl⟩
      obtain ⟨sk, hsk⟩ : ∃ x, x = l1[k].f1 := ⟨_, rfl⟩
      unfold okDay at hd
      simp only [Bool.and_eq_true, decide_eq_true_eq] at hd
      rw [← hlo] at q0 hd
      rw [← hhi] at q1 hd
      rw [← hsk] at q2 hd
      obtain ⟨⟨d1, d2, d3, d4⟩, d5, d6⟩ := hd
      have HS := Lib.hid (sane_true (a := 0) (b := 20) (c := 1) d1 d2 d3 d4 (by omega) (by omega))
      have HA := Lib.hid (amid_true d5 d6)
      have QC2 := Lib.hid q2
      have c0' := (HBR.out.cell (p := ⟨b, o + k * 3, none⟩) hbl).trans q0
      have c1' := (HBR.out.cell (p := ⟨b, o + k * 3 + 1, none⟩) hbl).trans q1
      clear hlo hhi hsk q0 q1 q2 d1 d2 d3 d4 d5 d6
      go_wp2_with fail
      refine (HS.out _).mono ?_
      rintro e w7 ⟨rfl, hb7⟩
      clear c0' c1' k1
      have h7 := blk_below HKB.out hb7
      have HB7 := Lib.hid (HBR.out.trans (below_weaken hb7 HBR.out.size))
      have k1 := (blk_cell h7 1).trans rfl
      have c2' := (HB7.out.cell (p := ⟨b, o + k * 3 + 2, none⟩) hbl).trans QC2.out
      have HK7 := Lib.hid h7
      clear hb7 h7
      go_wp2_with fail
      refine (HA.out _).mono ?_
      rintro e w8 ⟨rfl, hb8⟩
      have h8 := blk_below HK7.out hb8
      have HB8 := Lib.hid (HB7.out.trans (below_weaken hb8 HB7.out.size))
      have HK8 := Lib.hid h8
      clear hb8 h8 k1 c2'
      go_wp2
      go_roundg g1
      case measure => omega
      case rel => exact ⟨k + 1, rfl, by go_num, ⟨by have := HKK.out; omega⟩, ⟨HK8.out⟩, ⟨HB8.out⟩⟩
theorem sound_calls (A0 A1 A2 : Option Addr) (c0 c1 c2 : Nat) (l0 : List S92) (l1 : List S90) (l2 : List S43) (w : World) (h : BookAt w A0 A1 A2 c0 c1 c2 l0 l1 l2) :
    Calls Tryd.prog 56 #[.agg #[.slice A0 l0.length c0, .slice A1 l1.length c1, .slice A2 l2.length c2]] w fun e w' => e = .returned (.bool (okBook l0 l1 l2)) ∧ Below w.heap.size w w' := by
  cases hok : okBook l0 l1 l2
  · exact sound_no A0 A1 A2 c0 c1 c2 l0 l1 l2 w h hok
  · exact sound_yes A0 A1 A2 c0 c1 c2 l0 l1 l2 w h hok
end Go.Proofs.YthgjedagbgmgmaaDoor.Pr
namespace Go.Proofs.YthgjedagbgmgmaaDoor.Pr
open Go.RowKit Go.Proofs.YthgjedagbgmgmaaDoorW.PrintWords Go.Proofs.YthgjedagbgmgmaaDoorW.PrintLast Go.Proofs.YthgjedagbgmgmaaDoorW.PrintMore
set_option linter.unusedVariables false
set_option linter.unusedSimpArgs false
theorem afterR_bound {ls : List S92} {r : Rd} {s k : Int} (h0 : 0 ≤ r.bound) (h1 : r.bound ≤ ls.length) :
    r.bound ≤ (afterR ls r s k).bound ∧ (afterR ls r s k).bound ≤ r.bound + 1 ∧ (afterR ls r s k).bound ≤ ls.length := by
  unfold afterR
  repeat' split
  all_goals (refine ⟨?_, ?_, ?_⟩ <;> (try dsimp only) <;> omega)
/-- The state of a road alone: how many layers are bound, and by how many wagons the next one was rolled. -/
def stepS (ls : List S92) (q : Int × Int) (s k : Int) : Int × Int :=
  if q.1 = ls.length then q else
  if s = 1 then (if (ls.getD q.1.toNat z92).f0 ≤ (if q.2 = -1 then 0 else q.2) + k then (q.1 + 1, -1) else (q.1, (if q.2 = -1 then 0 else q.2) + k))
  else if s = 2 then (q.1, -1) else (q.1, if q.2 = -1 then 0 else q.2)
/-- All states at the ends of the days. -/
def states (ls : List S92) : Ch → Int × Int → List (Int × Int)
  | [], _ => []
  | p :: c, q => stepS ls q p.2 p.1 :: states ls c (stepS ls q p.2 p.1)
end Go.Proofs.YthgjedagbgmgmaaDoor.Pr
namespace Go.Proofs.YthgjedagbgmgmaaDoor.Pr
open Go.RowKit Go.Proofs.YthgjedagbgmgmaaDoorW.PrintWords Go.Proofs.YthgjedagbgmgmaaDoorW.PrintLast Go.Proofs.YthgjedagbgmgmaaDoorW.PrintMore
set_option linter.unusedVariables false
set_option linter.unusedSimpArgs false
theorem roadFrom_step {ls : List S92} : ∀ (c : Ch) (r : Rd) (i : Nat) (h : i + 1 < (roadFrom ls c r).length), 0 ≤ r.bound → r.bound ≤ ls.length →
    ((roadFrom ls c r)[i]'(by omega)).bound ≤ ((roadFrom ls c r)[i + 1]).bound ∧ ((roadFrom ls c r)[i + 1]).bound ≤ ((roadFrom ls c r)[i]'(by omega)).bound + 1 := by
  intro c
  induction c with
  | nil => intro r i h; simp [roadFrom] at h
  | cons p c ih =>
    intro r i h h0 h1
    have ha := afterR_bound (s := p.2) (k := p.1) h0 h1
    cases i with
    | zero =>
      cases c with
      | nil => simp [roadFrom] at h
      | cons q c =>
        have hb := afterR_bound (s := q.2) (k := q.1) (show 0 ≤ (afterR ls r p.2 p.1).bound by omega) ha.2.2
        exact ⟨hb.1, hb.2.1⟩
    | succ i =>
      have := ih (afterR ls r p.2 p.1) i (by simpa [roadFrom] using h) (by omega) ha.2.2
      exact this
theorem rdAt_get {ls : List S92} {c : Ch} {d : Nat} (h : d < c.length) : rdAt ls c d = (roadFrom ls c r00)[d]'(by rw [roadFrom_length]; exact h) := by
  unfold rdAt
  rw [List.getD_eq_getElem?_getD, List.getElem?_eq_getElem]
  rfl
theorem rd_step {ls : List S92} {c : Ch} {d : Nat} (h : d + 1 < c.length) : (rdAt ls c d).bound ≤ (rdAt ls c (d + 1)).bound ∧ (rdAt ls c (d + 1)).bound ≤ (rdAt ls c d).bound + 1 := by
  rw [rdAt_get (show d < c.length by omega), rdAt_get h]
  exact roadFrom_step c r00 d (by rw [roadFrom_length]; exact h) (by decide) (show (0 : Int) ≤ ls.length by omega)
theorem rd_mono {ls : List S92} {c : Ch} {d : Nat} : ∀ (k : Nat), d + k < c.length → (rdAt ls c d).bound ≤ (rdAt ls c (d + k)).bound := by
  intro k
  induction k with
  | zero => intro _; exact Int.le_refl _
  | succ k ih =>
    intro h
    have h1 := ih (by omega)
    have h2 := (rd_step (ls := ls) (c := c) (d := d + k) (by omega)).1
    rw [← Nat.add_assoc]
    omega
section
variable {ls : List S92} {ds : List S90} {ks : List S43}
theorem bspan_told (hok : okBook ls ds ks = true) (hT : 0 < (truthsAll ls ds ks []).length) {d : Nat} (hd : d < ds.length) :
    Told (good ls ds ks []) (fun c => (rdAt ls c d).bound) (bspan (truthsAll ls ds ks []) d).1 (bspan (truthsAll ls ds ks []) d).2 :=
  told_span hT (fun c hc => enc0_bound (mem_good.1 hc).1 (ok_facts hok).2.2.1 d hd)
theorem bspan_mono (hok : okBook ls ds ks = true) (hT : 0 < (truthsAll ls ds ks []).length) {d e : Nat} (hde : d ≤ e) (he : e < ds.length) :
    (bspan (truthsAll ls ds ks []) d).1 ≤ (bspan (truthsAll ls ds ks []) e).1 ∧ (bspan (truthsAll ls ds ks []) d).2 ≤ (bspan (truthsAll ls ds ks []) e).2 := by
  have t1 := bspan_told hok hT (show d < ds.length by omega)
  have t2 := bspan_told hok hT he
  obtain ⟨c, hc, ec⟩ := t2.elo
  obtain ⟨c', hc', ec'⟩ := t1.ehi
  have m : ∀ c ∈ good ls ds ks [], (rdAt ls c d).bound ≤ (rdAt ls c e).bound := by
    intro c hc
    have hl := (mem_good.1 hc).1.1
    have := rd_mono (ls := ls) (c := c) (d := d) (e - d) (by omega)
    rwa [show d + (e - d) = e by omega] at this
  have a1 := (t1.all c hc).1
  have a2 := m c hc
  have a3 := (t2.all c' hc').2
  have a4 := m c' hc'
  omega
theorem bspan_ends (hok : okBook ls ds ks = true) (hT : 0 < (truthsAll ls ds ks []).length) {d : Nat} (hd : d < ds.length) :
    0 ≤ (bspan (truthsAll ls ds ks []) d).1 ∧ (bspan (truthsAll ls ds ks []) d).1 ≤ (bspan (truthsAll ls ds ks []) d).2 ∧ (bspan (truthsAll ls ds ks []) d).2 ≤ ls.length := by
  have t1 := bspan_told hok hT hd
  obtain ⟨c, hc, ec⟩ := t1.elo
  obtain ⟨c', hc', ec'⟩ := t1.ehi
  have a1 := rdAt_ok (ls := ls) hok (mem_good.1 hc).1 hd
  have a2 := rdAt_ok (ls := ls) hok (mem_good.1 hc').1 hd
  have a3 := (t1.all c hc).2
  have b0 := a1.b0
  have b1 := a2.b1
  omega
end
section
variable {ls : List S92} {ds : List S90} {ks : List S43}
theorem askCode_true_zero (hok : okBook ls ds ks = true) (hT : 0 < (truthsAll ls ds ks []).length) : askCode ls ds ks true = 0 := by
  unfold askCode
  rw [if_pos hok, if_pos rfl, if_neg (by omega)]
end
end Go.Proofs.YthgjedagbgmgmaaDoor.Pr
namespace Go.Proofs.YthgjedagbgmgmaaDoor.Pr
open Go.RowKit Go.Proofs.YthgjedagbgmgmaaDoorW.PrintWords Go.Proofs.YthgjedagbgmgmaaDoorW.PrintLast Go.Proofs.YthgjedagbgmgmaaDoorW.PrintMore
set_option linter.unusedVariables false
set_option linter.unusedSimpArgs false
theorem ret_true {b : Bool} (h : b = true) : Ending.returned (.bool b) = .returned (.bool true) := by rw [h]
theorem wrap_law (n : Int) (m : Nat) (hm : 0 < m) (hm2 : m ≤ 1000) : ∃ d : Nat, macadamref00_Wrap.f n m = some (d : Int) ∧ d < m := by
  have hmi : (0 : Int) < (m : Int) := by omega
  unfold macadamref00_Wrap.f
  rw [if_neg (by omega), if_neg (by omega)]
  have h1 := Int.tmod_lt_of_pos n hmi
  have h2 : -(m : Int) < Int.tmod n m := by
    have h := Int.tmod_lt_of_pos (-n) hmi
    rw [Int.neg_tmod] at h
    omega
  by_cases h : Int.tmod n m < 0
  · rw [if_pos h, wrap64_id (by omega) (by omega)]
    exact ⟨(Int.tmod n m + m).toNat, by congr 1; omega, by omega⟩
  · rw [if_neg h]
    exact ⟨(Int.tmod n m).toNat, by congr 1; omega, by omega⟩
theorem wrap_calls (n : Int) (m : Nat) (hm : 0 < m) (hm2 : m ≤ 1000) : ∃ d : Nat, d < m ∧ ∀ w, Calls Tryd.prog 47 #[.int .i64 n, .int .i64 (m : Int)] w fun e w' => e = .returned (.int .i64 (d : Int)) ∧ Below w.heap.size w w' := by
  obtain ⟨d, h, hd⟩ := wrap_law n m hm hm2
  exact ⟨d, hd, fun w => (macadamref00_Wrap.calls n m d w h).mono (by rintro e w' ⟨rfl, hd⟩; exact ⟨rfl, hd.below⟩)⟩
theorem askCode_false {ls : List S92} {ds : List S90} {ks : List S43} (hok : okBook ls ds ks = true) (hT : (truthsAll ls ds ks []).length = 0) : askCode ls ds ks true = 72 := by
  unfold askCode
  rw [if_pos hok, if_pos rfl, if_pos hT]
theorem isDay_true {d n : Nat} (h : d < n) : decide (0 ≤ (d : Int) ∧ (d : Int) ≤ (n : Int) - 1) = true := decide_eq_true (by omega)
theorem boundF_eq {ls : List S92} {ds : List S90} {ks : List S43} (hok : okBook ls ds ks = true) (hT : 0 < (truthsAll ls ds ks []).length) {d : Nat} (hd : d < ds.length) :
    boundF ls ds ks d = ((bspan (truthsAll ls ds ks []) d).1, (bspan (truthsAll ls ds ks []) d).2, 0) := by
  unfold boundF
  rw [isDay_true hd, if_pos (askCode_true_zero hok hT)]
  rfl
theorem boundF_false {ls : List S92} {ds : List S90} {ks : List S43} (hok : okBook ls ds ks = true) (hT : (truthsAll ls ds ks []).length = 0) {d : Nat} (hd : d < ds.length) :
    boundF ls ds ks d = (0, 0, 72) := by
  unfold boundF
  rw [isDay_true hd, askCode_false hok hT]
  rfl
end Go.Proofs.YthgjedagbgmgmaaDoor.Pr
namespace Go.Proofs.YthgjedagbgmgmaaDoor.Pr
open Go.RowKit Go.Proofs.YthgjedagbgmgmaaDoorW.PrintWords Go.Proofs.YthgjedagbgmgmaaDoorW.PrintLast Go.Proofs.YthgjedagbgmgmaaDoorW.PrintMore
set_option linter.unusedVariables false
set_option linter.unusedSimpArgs false
/-- Is a look right, or one of some? -/
def rightLook (x : S43) (day bound : Int) (but : List Int) (k : Nat) : Bool := !(x.f0 == day && x.f1 != bound && !decide ((k : Int) ∈ but))
theorem rightFrom_cons (x : S43) (xs : List S43) (day bound : Int) (but : List Int) (k : Nat) : rightFrom (x :: xs) day bound but k = (rightLook x day bound but k && rightFrom xs day bound but (k + 1)) := rfl
theorem rightFrom_iff (but : List Int) (day bound : Int) : ∀ (ks : List S43) (k : Nat), rightFrom ks day bound but k = true ↔ ∀ i (h : i < ks.length), ks[i].f0 = day → ((k + i : Nat) : Int) ∉ but → ks[i].f1 = bound := by
  intro ks
  induction ks with
  | nil => intro k; simp [rightFrom]
  | cons x xs ih =>
    intro k
    rw [rightFrom_cons, Bool.and_eq_true, ih]
    have h0 : rightLook x day bound but k = true ↔ (x.f0 = day → (k : Int) ∉ but → x.f1 = bound) := by
      unfold rightLook
      by_cases h1 : x.f0 = day
      · by_cases h2 : (k : Int) ∈ but
        · simp [h1, h2]
        · by_cases h3 : x.f1 = bound <;> simp [h1, h2, h3]
      · simp [h1]
    rw [h0]
    constructor
    · rintro ⟨a, b⟩ i hi
      cases i with
      | zero => exact a
      | succ i =>
        have := b i (by simpa using hi)
        rw [show k + 1 + i = k + (i + 1) by omega] at this
        exact this
    · intro h
      refine ⟨h 0 (by simp), fun i hi => ?_⟩
      have := h (i + 1) (by simpa using hi)
      rw [show k + (i + 1) = k + 1 + i by omega] at this
      exact this
/-- What a choice in which the looks are right is. -/
theorem mem_good' {ls : List S92} {ds : List S90} {looks : List S43} {but : List Int} {c : Ch} : c ∈ good ls ds looks but ↔ OkCh ds c ∧ ∀ i (h : i < looks.length), (i : Int) ∉ but → ∀ d : Nat, d < ds.length → looks[i].f0 = d → looks[i].f1 = (rdAt ls c d).bound := by
  rw [mem_good]
  constructor
  · rintro ⟨h1, h2⟩
    refine ⟨h1, fun i hi hb d hd e => ?_⟩
    have hl : d < (roadFrom ls c r00).length := by rw [roadFrom_length, h1.1]; exact hd
    have h3 := (okRoad_iff looks but _ 0).1 h2 d hl
    rw [Nat.zero_add] at h3
    have h4 := (rightFrom_iff but d _ looks 0).1 h3 i hi e (by rwa [Nat.zero_add])
    rw [h4, rdAt_get (by rw [h1.1]; exact hd)]
  · rintro ⟨h1, h2⟩
    refine ⟨h1, (okRoad_iff looks but _ 0).2 fun d hl => (rightFrom_iff but _ _ looks 0).2 fun i hi e hb => ?_⟩
    have hd : d < ds.length := by rw [roadFrom_length, h1.1] at hl; exact hl
    rw [Nat.zero_add] at e hb
    have := h2 i hi hb d hd e
    rwa [rdAt_get (by rw [h1.1]; exact hd)] at this
theorem good_snoc {ls : List S92} {ds : List S90} {ks : List S43} {x : S43} {c : Ch} : c ∈ good ls ds (ks ++ [x]) [] ↔ c ∈ good ls ds ks [] ∧ ∀ d : Nat, d < ds.length → x.f0 = d → x.f1 = (rdAt ls c d).bound := by
  rw [mem_good', mem_good']
  constructor
  · rintro ⟨h1, h2⟩
    refine ⟨⟨h1, fun i hi hb d hd e => ?_⟩, fun d hd e => ?_⟩
    · have := h2 i (by simp; omega) hb d hd
      rw [List.getElem_append_left hi] at this
      exact this e
    · have := h2 ks.length (by simp) (by simp) d hd
      rw [List.getElem_append_right (Nat.le_refl _)] at this
      simp only [Nat.sub_self, List.getElem_singleton] at this
      exact this e
  · rintro ⟨⟨h1, h2⟩, h3⟩
    refine ⟨h1, fun i hi hb d hd e => ?_⟩
    by_cases hik : i < ks.length
    · rw [List.getElem_append_left hik] at e ⊢
      exact h2 i hik hb d hd e
    · have : i = ks.length := by simp at hi; omega
      subst this
      rw [List.getElem_append_right (Nat.le_refl _)] at e ⊢
      simp only [Nat.sub_self, List.getElem_singleton] at e ⊢
      exact h3 d hd e
theorem truths_pos {ls : List S92} {ds : List S90} {ks : List S43} {but : List Int} : 0 < (truthsAll ls ds ks but).length ↔ ∃ c, c ∈ good ls ds ks but := by
  rw [truthsAll_length]
  constructor
  · intro h
    exact ⟨_, List.getElem_mem h⟩
  · rintro ⟨c, hc⟩
    exact List.length_pos_of_mem hc
section
variable {ls : List S92} {ds : List S90} {ks : List S43}
theorem okLook_true {n d : Nat} {x : S43} (h0 : 0 ≤ x.f0) (h1 : x.f0 ≤ (d : Int) - 1) (h2 : 0 ≤ x.f1) (h3 : x.f1 ≤ n) : okLook n d x = true := by
  unfold okLook
  rw [decide_eq_true ⟨h0, h1⟩, decide_eq_true ⟨h2, h3⟩]
  rfl
/-- What Fits answers of a day and a number of layers. -/
theorem fitsF_eq (hok : okBook ls ds ks = true) (hT : 0 < (truthsAll ls ds ks []).length) {d : Nat} (hd : d < ds.length) {m : Int} (h0 : 0 ≤ m) (h1 : m ≤ ls.length) :
    ∃ q : Bool, fitsF ls ds ks ⟨d, m⟩ = (q, 0) ∧ (q = true ↔ ∃ c ∈ good ls ds ks [], (rdAt ls c d).bound = m) := by
  unfold fitsF
  rw [okLook_true (by show (0 : Int) ≤ d; omega) (by show (d : Int) ≤ _; omega) h0 h1, if_pos (askCode_true_zero hok hT)]
  refine ⟨_, rfl, ?_⟩
  rw [decide_eq_true_eq, truths_pos]
  constructor
  · rintro ⟨c, hc⟩
    obtain ⟨h2, h3⟩ := good_snoc.1 hc
    exact ⟨c, h2, (h3 d hd rfl).symm⟩
  · rintro ⟨c, hc, e⟩
    refine ⟨c, good_snoc.2 ⟨hc, fun d' hd' e' => ?_⟩⟩
    have : d' = d := by have : (d : Int) = d' := e'; omega
    subst this
    exact e.symm
theorem fitsF_false (hok : okBook ls ds ks = true) (hT : (truthsAll ls ds ks []).length = 0) {d : Nat} (hd : d < ds.length) {m : Int} (h0 : 0 ≤ m) (h1 : m ≤ ls.length) : fitsF ls ds ks ⟨d, m⟩ = (false, 72) := by
  have h72 : askCode ls ds ks true = 72 := by
    unfold askCode
    rw [if_pos hok, if_pos rfl, if_pos hT]
  unfold fitsF
  rw [okLook_true (by show (0 : Int) ≤ d; omega) (by show (d : Int) ≤ _; omega) h0 h1, h72]
  rfl
theorem rd_le_day {c : Ch} : ∀ (d : Nat), d < c.length → (rdAt ls c d).bound ≤ (d : Int) + 1 := by
  intro d
  induction d with
  | zero =>
    intro h
    cases c with
    | nil => simp at h
    | cons p c =>
      rw [rdAt_get h]
      have := (afterR_bound (ls := ls) (r := r00) (s := p.2) (k := p.1) (by decide) (show (0 : Int) ≤ ls.length by omega)).2.1
      exact this
  | succ d ih =>
    intro h
    have h1 := ih (by omega)
    have h2 := (rd_step (ls := ls) h).2
    omega
theorem bspan_le_day (hok : okBook ls ds ks = true) (hT : 0 < (truthsAll ls ds ks []).length) {d : Nat} (hd : d < ds.length) : (bspan (truthsAll ls ds ks []) d).2 ≤ (d : Int) + 1 := by
  have t1 := bspan_told hok hT hd
  obtain ⟨c, hc, e⟩ := t1.ehi
  have := rd_le_day (ls := ls) (c := c) d (by rw [(mem_good.1 hc).1.1]; exact hd)
  omega
theorem bspan_step (hok : okBook ls ds ks = true) (hT : 0 < (truthsAll ls ds ks []).length) {d : Nat} (hd : d + 1 < ds.length) :
    (bspan (truthsAll ls ds ks []) (d + 1)).1 ≤ (bspan (truthsAll ls ds ks []) d).1 + 1 ∧ (bspan (truthsAll ls ds ks []) (d + 1)).2 ≤ (bspan (truthsAll ls ds ks []) d).2 + 1 := by
  have t1 := bspan_told hok hT (show d < ds.length by omega)
  have t2 := bspan_told hok hT hd
  obtain ⟨c, hc, e⟩ := t1.elo
  obtain ⟨c', hc', e'⟩ := t2.ehi
  have a1 := (t2.all c hc).1
  have a2 := (t1.all c' hc').2
  have b1 := (rd_step (ls := ls) (c := c) (d := d) (by rw [(mem_good.1 hc).1.1]; exact hd)).2
  have b2 := (rd_step (ls := ls) (c := c') (d := d) (by rw [(mem_good.1 hc').1.1]; exact hd)).2
  omega
end
end Go.Proofs.YthgjedagbgmgmaaDoor.Pr
namespace Go.Proofs.YthgjedagbgmgmaaDoor.Pr
open Go.RowKit Go.Proofs.YthgjedagbgmgmaaDoorW.PrintWords Go.Proofs.YthgjedagbgmgmaaDoorW.PrintLast Go.Proofs.YthgjedagbgmgmaaDoorW.PrintMore
attribute [local go_sem] max2_int min2_int max_two min_two -- for this text's walks alone
set_option linter.unusedVariables false
set_option linter.unusedSimpArgs false
def macadamref00_Just.f (a0 : Int) : Option (Int × Int) := (macadamref00_Reach.f a0 a0).bind fun bt209 => (some (bt209.1, bt209.2))
set_option maxHeartbeats 8000000 in
set_option maxRecDepth 100000 in
theorem macadamref00_Just.calls (a0 : Int) (r1 : Int) (r2 : Int) (w : World) (h : macadamref00_Just.f a0 = some (r1, r2)) :
    Calls Tryd.prog 52 #[.int .i64 a0] w fun e w' => e = .returned (.agg #[.int .i64 r1, .int .i64 r2]) ∧ Below w.heap.size w w' := by
  have hu32 := Tryd.underlying32
  have HB := Aside0.mk (Below.refl w.heap.size w)
  have H : ((macadamref00_Reach.f a0 a0).bind fun bt209 => (some (bt209.1, bt209.2))) = some (r1, r2) := h
  clear h
  replace H := Option.bind_eq_some_iff.mp H
  obtain ⟨⟨t209, t210⟩, A20, H⟩ := H
  replace H : (some (t209, t210)) = some (r1, r2) := H
  have A2 := Aside0.mk A20
  clear A20
  simp only [Option.some.injEq, Prod.mk.injEq] at H
  obtain ⟨rfl, rfl⟩ := H
  go_enter Tryd.func52, Tryd.ntmps52
  go_wp2_with (first | ((with_reducible refine gate_dst (N := 2) rfl ?_); refine box_event ?hg (N := 2) ?hd (cs := #[.int .i64 0, .int .i64 0]) (t := 32) ?hr ?_; (case hd => rfl); (case hg => rfl); (case hr => first | (go_simp; done) | (go_simp; rfl)); intro gb208 hg w3 hbox hb; have n0_ := Aside0.mk (below_step (by repeat (first | (with_reducible first | exact HB.out | apply below_alloc | apply pw_below_drewN | apply below_drew1) | exact HB.out)) hb); have n1_ := Aside0.mk (hbox); have n2_ := Aside0.mk ((by rw [hg]; exact (below_size (by repeat (first | (with_reducible first | exact HB.out | apply below_alloc | apply pw_below_drewN | apply below_drew1) | exact HB.out))) : w.heap.size ≤ gb208)); have n3_ := Aside0.mk ((by rw [hg]; exact (below_size (by repeat (first | (with_reducible first | exact HB.out | apply below_alloc | apply pw_below_drewN | apply below_drew1) | exact HB.out))) : w.heap.size ≤ gb208)); clear HB; have HB := n0_; have BK208 := n1_; have GW208 := n2_; have GE208 := n3_; clear n0_ n1_ n2_ n3_; clear hb hbox hg) | ((with_reducible refine gate_callee (f := 55) rfl ?_); refine goesL_ (some 5) rfl rfl Tryd.func55 (by kernel_rfl) rfl #[.int .i64 a0, .int .i64 a0] rfl (by (try simp only [List.map_toArray, List.map_cons, List.map_nil]); first | done | rfl | (simp only [List.length_drop, List.length_take]; rfl)) ?_; (with_reducible refine (macadamref00_Reach.calls a0 a0 t209 t210 _ A2.out).mono ?_); rintro e w4 ⟨rfl, hb⟩; refine ⟨_, rfl, ?_⟩; have n0_ := Aside0.mk (blk_below (g := gb208) (o := .cells #[.int .i64 0, .int .i64 0] 32 (0, 0)) (by (with_reducible repeat (first | refine blk_drewN ?_ _ | refine blk_drew ?_ | refine blk_alloc ?_ _)); exact BK208.out) hb); have n1_ := Aside0.mk (below_step (by repeat (first | (with_reducible first | exact HB.out | apply below_alloc | apply pw_below_drewN | apply below_drew1 | refine below_set ?_ GE208.out) | exact HB.out)) hb); clear BK208; clear HB; have BK208 := n0_; have HB := n1_; clear n0_ n1_; (try clear hb); (try clear hb2); (try clear hk); (try clear hi); have hcz5_0 : w4.cell? ⟨gb208, 0, none⟩ = some (.int .i64 0) := (blk_cell BK208.out 0).trans rfl; have hcz5_1 : w4.cell? ⟨gb208, 1, none⟩ = some (.int .i64 0) := (blk_cell BK208.out 1).trans rfl; have hfz5_0 := blk_frozen BK208.out 0; have hfz5_1 := blk_frozen BK208.out 1))
  refine bodyPost_ret (results_cell_row rfl _ _ gb208 32 #[.int .i64 t209, .int .i64 t210] (0, 0) _ rfl (by (with_reducible repeat (first | refine blk_drewN ?_ _ | refine blk_drew ?_ | refine blk_alloc ?_ _)); refine blk_put (cs := #[.int .i64 t209, .int .i64 0]) ?_ 1 _ rfl; (with_reducible repeat (first | refine blk_drewN ?_ _ | refine blk_drew ?_ | refine blk_alloc ?_ _)); refine blk_put (cs := #[.int .i64 0, .int .i64 0]) ?_ 0 _ rfl; (with_reducible repeat (first | refine blk_drewN ?_ _ | refine blk_drew ?_ | refine blk_alloc ?_ _)); exact BK208.out) Tryd.underlying32 rfl (by kernel_rfl)) rfl ?_
  exact ⟨by first | rfl | exact congrArg (fun b_ => Ending.returned (.bool b_)) HT.out | (simp [errW_none, errW_some] <;> rfl) | (simp [*, errW_none, errW_some] <;> rfl), by repeat (first | (with_reducible first | exact HB.out | apply below_alloc | apply pw_below_drewN | apply below_drew1 | refine below_set ?_ GE208.out) | exact HB.out)⟩
def macadamref00_Holds.f (a0_0 : Int) (a0_1 : Int) (a1 : Int) : Option (Bool) := (macadamref00_Amid.f a1 a0_0 a0_1).bind fun t212 => (some t212)
set_option maxHeartbeats 8000000 in
set_option maxRecDepth 100000 in
theorem macadamref00_Holds.calls (a0_0 : Int) (a0_1 : Int) (a1 : Int) (r : Bool) (w : World) (h : macadamref00_Holds.f a0_0 a0_1 a1 = some r) :
    Calls Tryd.prog 59 #[.agg #[.int .i64 a0_0, .int .i64 a0_1], .int .i64 a1] w fun e w' => e = .returned (.bool r) ∧ Below w.heap.size w w' := by
  have hu32 := Tryd.underlying32
  have HB := Aside0.mk (Below.refl w.heap.size w)
  have H : ((macadamref00_Amid.f a1 a0_0 a0_1).bind fun t212 => (some t212)) = some r := h
  clear h
  replace H := Option.bind_eq_some_iff.mp H
  obtain ⟨t212, A30, H⟩ := H
  replace H : (some t212) = some r := H
  have A3 := Aside0.mk A30
  clear A30
  obtain rfl := Option.some.inj H
  go_enter Tryd.func59, Tryd.ntmps59
  go_wp2_with (first | ((with_reducible refine gate_dst (N := 2) rfl ?_); refine box_event ?hg (N := 2) ?hd (cs := #[.int .i64 a0_0, .int .i64 a0_1]) (t := 32) ?hr ?_; (case hd => rfl); (case hg => rfl); (case hr => first | (go_simp; done) | (go_simp; rfl)); intro gb211 hg w4 hbox hb; have n0_ := Aside0.mk (below_step (by repeat (first | (with_reducible first | exact HB.out | apply below_alloc | apply pw_below_drewN | apply below_drew1) | exact HB.out)) hb); have n1_ := Aside0.mk (hbox); have n2_ := Aside0.mk ((by rw [hg]; exact (below_size (by repeat (first | (with_reducible first | exact HB.out | apply below_alloc | apply pw_below_drewN | apply below_drew1) | exact HB.out))) : w.heap.size ≤ gb211)); have n3_ := Aside0.mk ((by rw [hg]; exact (below_size (by repeat (first | (with_reducible first | exact HB.out | apply below_alloc | apply pw_below_drewN | apply below_drew1) | exact HB.out))) : w.heap.size ≤ gb211)); clear HB; have HB := n0_; have BK211 := n1_; have GW211 := n2_; have GE211 := n3_; clear n0_ n1_ n2_ n3_; clear hb hbox hg; have hcz5_0 : w4.cell? ⟨gb211, 0, none⟩ = some (.int .i64 a0_0) := (blk_cell BK211.out 0).trans rfl; have hcz5_1 : w4.cell? ⟨gb211, 1, none⟩ = some (.int .i64 a0_1) := (blk_cell BK211.out 1).trans rfl; have hfz5_0 := blk_frozen BK211.out 0; have hfz5_1 := blk_frozen BK211.out 1) | ((with_reducible refine gate_callee (f := 60) rfl ?_); refine goesL_ (some 10) rfl rfl Tryd.func60 (by kernel_rfl) rfl #[.int .i64 a1, .int .i64 a0_0, .int .i64 a0_1] rfl (by (try simp only [List.map_toArray, List.map_cons, List.map_nil]); first | done | rfl | (simp only [List.length_drop, List.length_take]; rfl)) ?_; (with_reducible refine (macadamref00_Amid.calls a1 a0_0 a0_1 t212 _ A3.out).mono ?_); rintro e w' ⟨rfl, ⟨nd, rfl⟩⟩; refine ⟨_, rfl, ?_⟩))
  go_ret
  exact ⟨by first | rfl | exact congrArg (fun b_ => Ending.returned (.bool b_)) HT.out | (simp [errW_none, errW_some] <;> rfl) | (simp [*, errW_none, errW_some] <;> rfl), by repeat (first | (with_reducible first | exact HB.out | apply below_alloc | apply pw_below_drewN | apply below_drew1 | refine below_set ?_ GE211.out) | exact HB.out)⟩
end Go.Proofs.YthgjedagbgmgmaaDoor.Pr
