/- Part 7 of the proof that RollSteps answers true: contracts and laws, merged by a program. -/
import Derived.Test.YthgjedagbgmgmaaDoorRollStepsA6
namespace Go.Proofs.YthgjedagbgmgmaaDoor.Pr
open Go.RowKit Go.Proofs.YthgjedagbgmgmaaDoorW.PrintWords Go.Proofs.YthgjedagbgmgmaaDoorW.PrintLast Go.Proofs.YthgjedagbgmgmaaDoorW.PrintMore
set_option linter.unusedVariables false
set_option linter.unusedSimpArgs false
attribute [local go_sem] min_two
theorem just_calls (a : Int) (w : World) : Calls Tryd.prog 52 #[.int .i64 a] w fun e w' => e = .returned (.agg #[.int .i64 a, .int .i64 a]) ∧ Below w.heap.size w w' := macadamref00_Just.calls a a a w rfl
theorem holds_true {lo hi m : Int} (h0 : lo ≤ m) (h1 : m ≤ hi) (w : World) : Calls Tryd.prog 59 #[.agg #[.int .i64 lo, .int .i64 hi], .int .i64 m] w fun e w' => e = .returned (.bool true) ∧ Below w.heap.size w w' := by
  refine macadamref00_Holds.calls lo hi m true w ?_
  unfold macadamref00_Holds.f macadamref00_Amid.f
  rw [if_pos h0, decide_eq_true h1]
  rfl
set_option maxHeartbeats 8000000 in
set_option maxRecDepth 100000 in
theorem steps_none (A0 A1 A2 : Option Addr) (c0 c1 c2 : Nat) (l0 : List S92) (l1 : List S90) (l2 : List S43) (n0 n1 : Int) (w : World) (HSO : Hid (∀ W, Below w.heap.size w W → Calls Tryd.prog 56 #[.agg #[.slice A0 l0.length c0, .slice A1 l1.length c1, .slice A2 l2.length c2]] W fun e w' => e = .returned (.bool false) ∧ Below W.heap.size W w')) (HRO : Hid (∀ W, Below w.heap.size w W → Calls Tryd.prog 27 #[] W fun e w' => e = .returned (.bool true) ∧ Below W.heap.size W w')) :
    Calls Tryd.prog 8 #[.agg #[.slice A0 l0.length c0, .slice A1 l1.length c1, .slice A2 l2.length c2], .agg #[.int .i64 n0, .int .i64 n1]] w fun e w' => e = .returned (.bool true) ∧ Below w.heap.size w w' := by
  go_enter Tryd.func8, Tryd.ntmps8
  have HB0 := Lib.hid (Below.refl w.heap.size w)
  go_wp2_with fail
  refine (HSO.out _ ((HB0.out.alloc HB0.out.size (.cells #[.slice A0 l0.length c0, .slice A1 l1.length c1, .slice A2 l2.length c2] 26)).alloc (HB0.out.alloc HB0.out.size (.cells #[.slice A0 l0.length c0, .slice A1 l1.length c1, .slice A2 l2.length c2] 26)).size (.cells #[.int .i64 n0, .int .i64 n1] 84))).mono ?_
  rintro e w1 ⟨rfl, hb⟩
  have HKn := Lib.hid (show w1.heap[w.heap.size]? = some (.cells #[.slice A0 l0.length c0, .slice A1 l1.length c1, .slice A2 l2.length c2] 26 (0, 0)) from blk_below (blk_alloc (blk_new w (.cells #[.slice A0 l0.length c0, .slice A1 l1.length c1, .slice A2 l2.length c2] 26)) (.cells #[.int .i64 n0, .int .i64 n1] 84)) hb)
  have HNn := Lib.hid (show w1.heap[w.heap.size + 1]? = some (.cells #[.int .i64 n0, .int .i64 n1] 84 (0, 0)) from blk_below (blk_at (w.alloc (.cells #[.slice A0 l0.length c0, .slice A1 l1.length c1, .slice A2 l2.length c2] 26)) (.cells #[.int .i64 n0, .int .i64 n1] 84) _ (by simp)) hb)
  have HK := HKn
  clear HKn
  have HN := HNn
  clear HNn
  have HB1 := Lib.hid (((HB0.out.alloc HB0.out.size (.cells #[.slice A0 l0.length c0, .slice A1 l1.length c1, .slice A2 l2.length c2] 26)).alloc (HB0.out.alloc HB0.out.size (.cells #[.slice A0 l0.length c0, .slice A1 l1.length c1, .slice A2 l2.length c2] 26)).size (.cells #[.int .i64 n0, .int .i64 n1] 84)).trans (below_weaken hb ((HB0.out.alloc HB0.out.size (.cells #[.slice A0 l0.length c0, .slice A1 l1.length c1, .slice A2 l2.length c2] 26)).alloc (HB0.out.alloc HB0.out.size (.cells #[.slice A0 l0.length c0, .slice A1 l1.length c1, .slice A2 l2.length c2] 26)).size (.cells #[.int .i64 n0, .int .i64 n1] 84)).size))
  clear hb
  have cK_0 := (blk_cell HK.out 0).trans rfl
  have cK_1 := (blk_cell HK.out 1).trans rfl
  have cK_2 := (blk_cell HK.out 2).trans rfl
  have lK := blk_lt HK.out
  have cN_0 := (blk_cell HN.out 0).trans rfl
  have cN_1 := (blk_cell HN.out 1).trans rfl
  have lN := blk_lt HN.out
  go_wp2_with fail
  clear cK_0 cK_1 cK_2 lK cN_0 cN_1 lN
  refine (HRO.out _ HB1.out).mono ?_
  rintro e w2 ⟨rfl, hb⟩
  have HKn := Lib.hid (show w2.heap[w.heap.size]? = some (.cells #[.slice A0 l0.length c0, .slice A1 l1.length c1, .slice A2 l2.length c2] 26 (0, 0)) from blk_below HK.out hb)
  have HNn := Lib.hid (show w2.heap[w.heap.size + 1]? = some (.cells #[.int .i64 n0, .int .i64 n1] 84 (0, 0)) from blk_below HN.out hb)
  clear HK
  clear HN
  have HK := HKn
  clear HKn
  have HN := HNn
  clear HNn
  have HB2 := Lib.hid (HB1.out.trans (below_weaken hb HB1.out.size))
  clear hb
  have cK_0 := (blk_cell HK.out 0).trans rfl
  have cK_1 := (blk_cell HK.out 1).trans rfl
  have cK_2 := (blk_cell HK.out 2).trans rfl
  have lK := blk_lt HK.out
  have cN_0 := (blk_cell HN.out 0).trans rfl
  have cN_1 := (blk_cell HN.out 1).trans rfl
  have lN := blk_lt HN.out
  go_wp2
  go_ret
  exact ⟨ret_true (by first | rfl | (simp; done) | (simp; omega)), HB2.out⟩
set_option maxHeartbeats 8000000 in
set_option maxRecDepth 100000 in
theorem steps_walk (A0 A1 A2 : Option Addr) (c0 c1 c2 : Nat) (l0 : List S92) (l1 : List S90) (l2 : List S43) (n0 n1 : Int) (w : World) (d m : Nat) (lo hi ce fe : Int) (q : Bool) (hl0 : (l0.length : Int) ≤ 4) (hl1 : (l1.length : Int) ≤ 5) (HSO : Hid (∀ W, Below w.heap.size w W → Calls Tryd.prog 56 #[.agg #[.slice A0 l0.length c0, .slice A1 l1.length c1, .slice A2 l2.length c2]] W fun e w' => e = .returned (.bool true) ∧ Below W.heap.size W w')) (HRO : Hid (∀ W, Below w.heap.size w W → Calls Tryd.prog 27 #[] W fun e w' => e = .returned (.bool true) ∧ Below W.heap.size W w')) (HW0 : Hid (∀ W, Calls Tryd.prog 47 #[.int .i64 n0, .int .i64 (l1.length : Int)] W fun e w' => e = .returned (.int .i64 (d : Int)) ∧ Below W.heap.size W w')) (HW1 : Hid (∀ W, Calls Tryd.prog 47 #[.int .i64 n1, .int .i64 ((l0.length : Int) + 1)] W fun e w' => e = .returned (.int .i64 (m : Int)) ∧ Below W.heap.size W w')) (HBO : Hid (∀ W, Below w.heap.size w W → Calls Tryd.prog 21 #[.agg #[.slice A0 l0.length c0, .slice A1 l1.length c1, .slice A2 l2.length c2], .int .i64 (d : Int)] W fun e w' => e = .returned (.tuple #[.agg #[.int .i64 lo, .int .i64 hi], .int .i64 ce]) ∧ Below W.heap.size W w')) (HFI : Hid (∀ W, Below w.heap.size w W → Calls Tryd.prog 38 #[.agg #[.slice A0 l0.length c0, .slice A1 l1.length c1, .slice A2 l2.length c2], .agg #[.int .i64 (d : Int), .int .i64 (m : Int)]] W fun e w' => e = .returned (.tuple #[.bool q, .int .i64 fe]) ∧ Below W.heap.size W w')) (mn : Int) (hmn : Builtin.min2 (.int .i64 ((d : Int) + 1)) (.int .i64 (l0.length : Int)) = pure (.int .i64 mn)) (hd5 : (d : Int) ≤ 4) (hw64 : IntKind.i64.wrap ((l0.length : Int) + 1) = (l0.length : Int) + 1)
    (HC : Hid ((lo = 0 ∧ hi = 0 ∧ ce = 72 ∧ fe = 72 ∧ q = false ∧ Hid (∀ W, Calls Tryd.prog 52 #[.int .i64 0] W fun e w' => e = .returned (.agg #[.int .i64 0, .int .i64 0]) ∧ Below W.heap.size W w')) ∨ (ce = 0 ∧ fe = 0 ∧ Hid (∀ W, Calls Tryd.prog 62 #[.agg #[.int .i64 lo, .int .i64 hi], .int .i64 0, .int .i64 mn, .int .i64 4] W fun e w' => e = .returned (.bool true) ∧ Below W.heap.size W w') ∧ (q = true → Hid (∀ W, Calls Tryd.prog 59 #[.agg #[.int .i64 lo, .int .i64 hi], .int .i64 (m : Int)] W fun e w' => e = .returned (.bool true) ∧ Below W.heap.size W w')) ∧ Hid (∀ W, Below w.heap.size w W → Calls Tryd.prog 38 #[.agg #[.slice A0 l0.length c0, .slice A1 l1.length c1, .slice A2 l2.length c2], .agg #[.int .i64 (d : Int), .int .i64 lo]] W fun e w' => e = .returned (.tuple #[.bool true, .int .i64 0]) ∧ Below W.heap.size W w') ∧ Hid (∀ W, Below w.heap.size w W → Calls Tryd.prog 38 #[.agg #[.slice A0 l0.length c0, .slice A1 l1.length c1, .slice A2 l2.length c2], .agg #[.int .i64 (d : Int), .int .i64 hi]] W fun e w' => e = .returned (.tuple #[.bool true, .int .i64 0]) ∧ Below W.heap.size W w') ∧ Hid ((d = 0 ∧ hi ≤ 1) ∨ ∃ (e0 : Nat) (plo phi : Int), d = e0 + 1 ∧ Hid (∀ W, Below w.heap.size w W → Calls Tryd.prog 21 #[.agg #[.slice A0 l0.length c0, .slice A1 l1.length c1, .slice A2 l2.length c2], .int .i64 (e0 : Int)] W fun e w' => e = .returned (.tuple #[.agg #[.int .i64 plo, .int .i64 phi], .int .i64 0]) ∧ Below W.heap.size W w') ∧ (e0 : Int) + 1 ≤ 5 ∧ plo ≤ lo ∧ phi ≤ hi ∧ lo ≤ plo + 1 ∧ hi ≤ phi + 1 ∧ 0 ≤ plo ∧ plo ≤ 10 ∧ 0 ≤ phi ∧ phi ≤ 10)))) :
    Calls Tryd.prog 8 #[.agg #[.slice A0 l0.length c0, .slice A1 l1.length c1, .slice A2 l2.length c2], .agg #[.int .i64 n0, .int .i64 n1]] w fun e w' => e = .returned (.bool true) ∧ Below w.heap.size w w' := by
  go_enter Tryd.func8, Tryd.ntmps8
  have HB0 := Lib.hid (Below.refl w.heap.size w)
  go_wp2_with fail
  refine (HSO.out _ ((HB0.out.alloc HB0.out.size (.cells #[.slice A0 l0.length c0, .slice A1 l1.length c1, .slice A2 l2.length c2] 26)).alloc (HB0.out.alloc HB0.out.size (.cells #[.slice A0 l0.length c0, .slice A1 l1.length c1, .slice A2 l2.length c2] 26)).size (.cells #[.int .i64 n0, .int .i64 n1] 84))).mono ?_
  rintro e w1 ⟨rfl, hb⟩
  have HKn := Lib.hid (show w1.heap[w.heap.size]? = some (.cells #[.slice A0 l0.length c0, .slice A1 l1.length c1, .slice A2 l2.length c2] 26 (0, 0)) from blk_below (blk_alloc (blk_new w (.cells #[.slice A0 l0.length c0, .slice A1 l1.length c1, .slice A2 l2.length c2] 26)) (.cells #[.int .i64 n0, .int .i64 n1] 84)) hb)
  have HNn := Lib.hid (show w1.heap[w.heap.size + 1]? = some (.cells #[.int .i64 n0, .int .i64 n1] 84 (0, 0)) from blk_below (blk_at (w.alloc (.cells #[.slice A0 l0.length c0, .slice A1 l1.length c1, .slice A2 l2.length c2] 26)) (.cells #[.int .i64 n0, .int .i64 n1] 84) _ (by simp)) hb)
  have HK := HKn
  clear HKn
  have HN := HNn
  clear HNn
  have HB1 := Lib.hid (((HB0.out.alloc HB0.out.size (.cells #[.slice A0 l0.length c0, .slice A1 l1.length c1, .slice A2 l2.length c2] 26)).alloc (HB0.out.alloc HB0.out.size (.cells #[.slice A0 l0.length c0, .slice A1 l1.length c1, .slice A2 l2.length c2] 26)).size (.cells #[.int .i64 n0, .int .i64 n1] 84)).trans (below_weaken hb ((HB0.out.alloc HB0.out.size (.cells #[.slice A0 l0.length c0, .slice A1 l1.length c1, .slice A2 l2.length c2] 26)).alloc (HB0.out.alloc HB0.out.size (.cells #[.slice A0 l0.length c0, .slice A1 l1.length c1, .slice A2 l2.length c2] 26)).size (.cells #[.int .i64 n0, .int .i64 n1] 84)).size))
  clear hb
  have cK_0 := (blk_cell HK.out 0).trans rfl
  have cK_1 := (blk_cell HK.out 1).trans rfl
  have cK_2 := (blk_cell HK.out 2).trans rfl
  have lK := blk_lt HK.out
  have cN_0 := (blk_cell HN.out 0).trans rfl
  have cN_1 := (blk_cell HN.out 1).trans rfl
  have lN := blk_lt HN.out
  go_upto_region 3 with fail
  clear cK_0 cK_1 cK_2 lK cN_0 cN_1 lN
  have hbp : Below w1.heap.size w1 w1.drew := (Below.refl _ _).drew
  have HKn := Lib.hid (show w1.drew.heap[w.heap.size]? = some (.cells #[.slice A0 l0.length c0, .slice A1 l1.length c1, .slice A2 l2.length c2] 26 (0, 0)) from blk_below HK.out hbp)
  have HNn := Lib.hid (show w1.drew.heap[w.heap.size + 1]? = some (.cells #[.int .i64 n0, .int .i64 n1] 84 (0, 0)) from blk_below HN.out hbp)
  clear HK
  clear HN
  have HK := HKn
  clear HKn
  have HN := HNn
  clear HNn
  have HB2 := Lib.hid (HB1.out.trans (below_weaken hbp HB1.out.size))
  clear hbp
  refine start_ (n := 15) (S := fun w' => w'.cell? ⟨w.heap.size, 0, none⟩ = some (.slice A0 l0.length c0) ∧ w'.cell? ⟨w.heap.size, 1, none⟩ = some (.slice A1 l1.length c1) ∧ w'.cell? ⟨w.heap.size, 2, none⟩ = some (.slice A2 l2.length c2) ∧ w'.cell? ⟨w.heap.size + 1, 0, none⟩ = some (.int .i64 n0) ∧ w'.cell? ⟨w.heap.size + 1, 1, none⟩ = some (.int .i64 n1)) (ds := []) #[false, false, false, false, false, false, false, false, false, false, false, false, false, false, false] (by kernel_rfl) rfl rfl ⟨(blk_cell HK.out 0).trans rfl, (blk_cell HK.out 1).trans rfl, (blk_cell HK.out 2).trans rfl, (blk_cell HN.out 0).trans rfl, (blk_cell HN.out 1).trans rfl⟩ (fun hHeld => ?_)
  refine pure_ (i := 0) (N := some 20) (v := ?_) (a' := ?_) #[true, false, false, false, false, false, false, false, false, false, false, false, false, false, false] rfl rfl (by kernel_rfl) (fun _ _ _ h => h) (Or.inl ⟨by rfl, ?_⟩) ?_ ?_
  rotate_left
  · intro w'
    go_simp
    with_reducible rfl
  rotate_left
  · simp only [Act.put, List.setIfInBounds_toArray, List.set_cons_zero, List.set_cons_succ, i64_w, i32_w]
    rfl
  refine pure_ (i := 2) (N := some 22) (v := ?_) (a' := ?_) #[true, false, true, false, false, false, false, false, false, false, false, false, false, false, false] rfl rfl (by kernel_rfl) (fun _ _ _ h => h) (Or.inl ⟨by rfl, ?_⟩) ?_ ?_
  rotate_left
  · intro w'
    go_simp
    with_reducible rfl
  rotate_left
  · simp only [Act.put, List.setIfInBounds_toArray, List.set_cons_zero, List.set_cons_succ, i64_w, i32_w]
    rfl
  refine pure_ (i := 6) (N := some 26) (v := ?_) (a' := ?_) #[true, false, true, false, false, false, true, false, false, false, false, false, false, false, false] rfl rfl (by kernel_rfl) (fun _ _ _ h => h) (Or.inl ⟨by rfl, ?_⟩) ?_ ?_
  rotate_left
  · intro w'
    go_simp
    with_reducible rfl
  rotate_left
  · simp only [Act.put, List.setIfInBounds_toArray, List.set_cons_zero, List.set_cons_succ, i64_w, i32_w]
    rfl
  refine pure_ (i := 8) (N := some 28) (v := ?_) (a' := ?_) #[true, false, true, false, false, false, true, false, true, false, false, false, false, false, false] rfl rfl (by kernel_rfl) (fun _ _ _ h => h) (Or.inl ⟨by rfl, ?_⟩) ?_ ?_
  rotate_left
  · intro w'
    go_simp
    with_reducible rfl
  rotate_left
  · simp only [Act.put, List.setIfInBounds_toArray, List.set_cons_zero, List.set_cons_succ, i64_w, i32_w]
    rfl
  refine take_ (i := 1) (N := some 21) (v := ?_) (a' := ?_) #[true, true, true, false, false, false, true, false, true, false, false, false, false, false, false] rfl rfl (by kernel_rfl) (fun _ _ _ h => h) (Or.inl ⟨by rfl, ?_⟩) hHeld ?_ ?_
  rotate_left
  · rintro w' ⟨s0, s1, s2, s3, s4⟩
    go_simp
    with_reducible rfl
  rotate_left
  · simp only [Act.put, List.setIfInBounds_toArray, List.set_cons_zero, List.set_cons_succ, i64_w, i32_w]
    rfl
  refine take_ (i := 3) (N := some 23) (v := ?_) (a' := ?_) #[true, true, true, true, false, false, true, false, true, false, false, false, false, false, false] rfl rfl (by kernel_rfl) (fun _ _ _ h => h) (Or.inl ⟨by rfl, ?_⟩) hHeld ?_ ?_
  rotate_left
  · rintro w' ⟨s0, s1, s2, s3, s4⟩
    go_simp
    with_reducible rfl
  rotate_left
  · simp only [Act.put, List.setIfInBounds_toArray, List.set_cons_zero, List.set_cons_succ, i64_w, i32_w]
    rfl
  refine pure_ (i := 4) (N := some 24) (v := ?_) (a' := ?_) #[true, true, true, true, true, false, true, false, true, false, false, false, false, false, false] rfl rfl (by kernel_rfl) (fun _ _ _ h => h) (Or.inl ⟨by rfl, ?_⟩) ?_ ?_
  rotate_left
  · intro w'
    go_simp
    with_reducible rfl
  rotate_left
  · simp only [Act.put, List.setIfInBounds_toArray, List.set_cons_zero, List.set_cons_succ, i64_w, i32_w]
    rfl
  refine take_ (i := 7) (N := some 27) (v := ?_) (a' := ?_) #[true, true, true, true, true, false, true, true, true, false, false, false, false, false, false] rfl rfl (by kernel_rfl) (fun _ _ _ h => h) (Or.inl ⟨by rfl, ?_⟩) hHeld ?_ ?_
  rotate_left
  · rintro w' ⟨s0, s1, s2, s3, s4⟩
    go_simp
    with_reducible rfl
  rotate_left
  · simp only [Act.put, List.setIfInBounds_toArray, List.set_cons_zero, List.set_cons_succ, i64_w, i32_w]
    rfl
  refine take_ (i := 9) (N := some 29) (v := ?_) (a' := ?_) #[true, true, true, true, true, false, true, true, true, true, false, false, false, false, false] rfl rfl (by kernel_rfl) (fun _ _ _ h => h) (Or.inl ⟨by rfl, ?_⟩) hHeld ?_ ?_
  rotate_left
  · rintro w' ⟨s0, s1, s2, s3, s4⟩
    go_simp
    with_reducible rfl
  rotate_left
  · simp only [Act.put, List.setIfInBounds_toArray, List.set_cons_zero, List.set_cons_succ, i64_w, i32_w]
    rfl
  refine pure_ (i := 10) (N := some 30) (v := ?_) (a' := ?_) #[true, true, true, true, true, false, true, true, true, true, true, false, false, false, false] rfl rfl (by kernel_rfl) (fun _ _ _ h => h) (Or.inl ⟨by rfl, ?_⟩) ?_ ?_
  rotate_left
  · intro w'
    go_simp
    with_reducible rfl
  rotate_left
  · simp only [Act.put, List.setIfInBounds_toArray, List.set_cons_zero, List.set_cons_succ, i64_w, i32_w]
    rfl
  refine pure_ (i := 11) (N := some 31) (v := ?_) (a' := ?_) #[true, true, true, true, true, false, true, true, true, true, true, true, false, false, false] rfl rfl (by kernel_rfl) (fun _ _ _ h => h) (Or.inl ⟨by rfl, ?_⟩) ?_ ?_
  rotate_left
  · intro w'
    go_simp
    with_reducible rfl
  rotate_left
  · simp only [Act.put, List.setIfInBounds_toArray, List.set_cons_zero, List.set_cons_succ, i64_w, i32_w]
    rfl
  refine one_ (i := 5) (N := some 25) #[true, true, true, true, true, true, true, true, true, true, true, true, false, false, false] rfl rfl (by kernel_rfl) (by decide) (fun K hK => ?_)
  refine goes_ Tryd.func47 (by kernel_rfl) rfl #[.int .i64 n0, .int .i64 (l1.length : Int)] (by rfl) rfl rfl (by simp only [List.map_toArray, List.map_cons, List.map_nil]; rfl) ?_
  refine (HW0.out _).mono ?_
  rintro e r3_1 ⟨rfl, hb⟩
  refine ⟨_, rfl, ?_⟩
  have HK_3_1 := Lib.hid (show (r3_1).heap[w.heap.size]? = some (.cells #[.slice A0 l0.length c0, .slice A1 l1.length c1, .slice A2 l2.length c2] 26 (0, 0)) from blk_below HK.out hb)
  have HN_3_1 := Lib.hid (show (r3_1).heap[w.heap.size + 1]? = some (.cells #[.int .i64 n0, .int .i64 n1] 84 (0, 0)) from blk_below HN.out hb)
  have HB_3_1 := Lib.hid (HB2.out.trans (below_weaken hb HB2.out.size))
  refine hK.out _ _ ⟨(blk_cell HK_3_1.out 0).trans rfl, (blk_cell HK_3_1.out 1).trans rfl, (blk_cell HK_3_1.out 2).trans rfl, (blk_cell HN_3_1.out 0).trans rfl, (blk_cell HN_3_1.out 1).trans rfl⟩ (fun hHeld => ?_)
  clear hK K
  refine norm_ (a' := ?_) ?_ ?_
  rotate_left
  · show Act.put _ (some 25) _ = _
    simp only [Act.put, List.setIfInBounds_toArray, List.set_cons_zero, List.set_cons_succ, i64_w, i32_w]
    rfl
  refine one_ (i := 12) (N := some 32) #[true, true, true, true, true, true, true, true, true, true, true, true, true, false, false] rfl rfl (by kernel_rfl) (by decide) (fun K hK => ?_)
  refine goes_ Tryd.func47 (by kernel_rfl) rfl #[.int .i64 n1, .int .i64 ((l0.length : Int) + 1)] (by rfl) rfl rfl (by simp only [List.map_toArray, List.map_cons, List.map_nil]; rfl) ?_
  refine (HW1.out _).mono ?_
  rintro e r3_2 ⟨rfl, hb⟩
  refine ⟨_, rfl, ?_⟩
  have HK_3_2 := Lib.hid (show (r3_2).heap[w.heap.size]? = some (.cells #[.slice A0 l0.length c0, .slice A1 l1.length c1, .slice A2 l2.length c2] 26 (0, 0)) from blk_below HK_3_1.out hb)
  have HN_3_2 := Lib.hid (show (r3_2).heap[w.heap.size + 1]? = some (.cells #[.int .i64 n0, .int .i64 n1] 84 (0, 0)) from blk_below HN_3_1.out hb)
  have HB_3_2 := Lib.hid (HB_3_1.out.trans (below_weaken hb HB_3_1.out.size))
  refine hK.out _ _ ⟨(blk_cell HK_3_2.out 0).trans rfl, (blk_cell HK_3_2.out 1).trans rfl, (blk_cell HK_3_2.out 2).trans rfl, (blk_cell HN_3_2.out 0).trans rfl, (blk_cell HN_3_2.out 1).trans rfl⟩ (fun hHeld => ?_)
  clear hK K
  refine norm_ (a' := ?_) ?_ ?_
  rotate_left
  · show Act.put _ (some 32) _ = _
    simp only [Act.put, List.setIfInBounds_toArray, List.set_cons_zero, List.set_cons_succ, i64_w, i32_w]
    rfl
  refine pure_ (i := 13) (N := some 5) (v := ?_) (a' := ?_) #[true, true, true, true, true, true, true, true, true, true, true, true, true, true, false] rfl rfl (by kernel_rfl) (fun _ _ _ h => h) (Or.inl ⟨by rfl, ?_⟩) ?_ ?_
  rotate_left
  · intro w'
    go_simp
    with_reducible rfl
  rotate_left
  · simp only [Act.put, List.setIfInBounds_toArray, List.set_cons_zero, List.set_cons_succ, i64_w, i32_w]
    rfl
  refine pure_ (i := 14) (N := some 6) (v := ?_) (a' := ?_) #[true, true, true, true, true, true, true, true, true, true, true, true, true, true, true] rfl rfl (by kernel_rfl) (fun _ _ _ h => h) (Or.inl ⟨by rfl, ?_⟩) ?_ ?_
  rotate_left
  · intro w'
    go_simp
    with_reducible rfl
  rotate_left
  · simp only [Act.put, List.setIfInBounds_toArray, List.set_cons_zero, List.set_cons_succ, i64_w, i32_w]
    rfl
  refine done_ (by kernel_rfl) ?_

  have HKz := Lib.hid HK_3_2.out
  (try clear HK)
  have HK := HKz
  clear HKz
  have HNz := Lib.hid HN_3_2.out
  (try clear HN)
  have HN := HNz
  clear HNz
  have cK_0 := (blk_cell HK.out 0).trans rfl
  have cK_1 := (blk_cell HK.out 1).trans rfl
  have cK_2 := (blk_cell HK.out 2).trans rfl
  have lK := blk_lt HK.out
  have cN_0 := (blk_cell HN.out 0).trans rfl
  have cN_1 := (blk_cell HN.out 1).trans rfl
  have lN := blk_lt HN.out
  clear hw64
  go_wp2_with fail
  clear cK_0 cK_1 cK_2 lK cN_0 cN_1 lN
  refine (HBO.out _ HB_3_2.out).mono ?_
  rintro e w3 ⟨rfl, hb⟩
  have HKn := Lib.hid (show w3.heap[w.heap.size]? = some (.cells #[.slice A0 l0.length c0, .slice A1 l1.length c1, .slice A2 l2.length c2] 26 (0, 0)) from blk_below HK.out hb)
  have HNn := Lib.hid (show w3.heap[w.heap.size + 1]? = some (.cells #[.int .i64 n0, .int .i64 n1] 84 (0, 0)) from blk_below HN.out hb)
  clear HK
  clear HN
  have HK := HKn
  clear HKn
  have HN := HNn
  clear HNn
  have HB3 := Lib.hid (HB_3_2.out.trans (below_weaken hb HB_3_2.out.size))
  clear hb
  have cK_0 := (blk_cell HK.out 0).trans rfl
  have cK_1 := (blk_cell HK.out 1).trans rfl
  have cK_2 := (blk_cell HK.out 2).trans rfl
  have lK := blk_lt HK.out
  have cN_0 := (blk_cell HN.out 0).trans rfl
  have cN_1 := (blk_cell HN.out 1).trans rfl
  have lN := blk_lt HN.out
  go_wp2_with fail
  clear cK_0 cK_1 cK_2 lK cN_0 cN_1 lN
  refine (HFI.out _ (HB3.out.alloc HB3.out.size (.cells #[.int .i64 lo, .int .i64 hi] 32))).mono ?_
  rintro e w4 ⟨rfl, hb⟩
  have HKn := Lib.hid (show w4.heap[w.heap.size]? = some (.cells #[.slice A0 l0.length c0, .slice A1 l1.length c1, .slice A2 l2.length c2] 26 (0, 0)) from blk_below (blk_alloc HK.out (.cells #[.int .i64 lo, .int .i64 hi] 32)) hb)
  have HNn := Lib.hid (show w4.heap[w.heap.size + 1]? = some (.cells #[.int .i64 n0, .int .i64 n1] 84 (0, 0)) from blk_below (blk_alloc HN.out (.cells #[.int .i64 lo, .int .i64 hi] 32)) hb)
  have HSn := Lib.hid (show w4.heap[w3.heap.size]? = some (.cells #[.int .i64 lo, .int .i64 hi] 32 (0, 0)) from blk_below (blk_new w3 (.cells #[.int .i64 lo, .int .i64 hi] 32)) hb)
  clear HK
  clear HN
  have HK := HKn
  clear HKn
  have HN := HNn
  clear HNn
  have HS := HSn
  clear HSn
  have HB4 := Lib.hid ((HB3.out.alloc HB3.out.size (.cells #[.int .i64 lo, .int .i64 hi] 32)).trans (below_weaken hb (HB3.out.alloc HB3.out.size (.cells #[.int .i64 lo, .int .i64 hi] 32)).size))
  clear hb
  have cK_0 := (blk_cell HK.out 0).trans rfl
  have cK_1 := (blk_cell HK.out 1).trans rfl
  have cK_2 := (blk_cell HK.out 2).trans rfl
  have lK := blk_lt HK.out
  have cN_0 := (blk_cell HN.out 0).trans rfl
  have cN_1 := (blk_cell HN.out 1).trans rfl
  have lN := blk_lt HN.out
  have cS_0 := (blk_cell HS.out 0).trans rfl
  have cS_1 := (blk_cell HS.out 1).trans rfl
  have lS := blk_lt HS.out
  rcases HC.out with ⟨rfl, rfl, rfl, rfl, rfl, HJ0⟩ | ⟨rfl, rfl, HSA, HQ, HFLO, HFHI, HCD⟩
  · clear HC
    go_upto_region 7 with fail
    clear cK_0 cK_1 cK_2 lK cN_0 cN_1 lN cS_0 cS_1 lS
    have hbp : Below w4.heap.size w4 w4.drew := (Below.refl _ _).drew
    have HKn := Lib.hid (show w4.drew.heap[w.heap.size]? = some (.cells #[.slice A0 l0.length c0, .slice A1 l1.length c1, .slice A2 l2.length c2] 26 (0, 0)) from blk_below HK.out hbp)
    have HNn := Lib.hid (show w4.drew.heap[w.heap.size + 1]? = some (.cells #[.int .i64 n0, .int .i64 n1] 84 (0, 0)) from blk_below HN.out hbp)
    have HSn := Lib.hid (show w4.drew.heap[w3.heap.size]? = some (.cells #[.int .i64 0, .int .i64 0] 32 (0, 0)) from blk_below HS.out hbp)
    clear HK
    clear HN
    clear HS
    have HK := HKn
    clear HKn
    have HN := HNn
    clear HNn
    have HS := HSn
    clear HSn
    have HB6f := Lib.hid (HB4.out.trans (below_weaken hbp HB4.out.size))
    clear hbp
    refine start_ (n := 20) (S := fun w' => w'.cell? ⟨w3.heap.size, 0, none⟩ = some (.int .i64 0) ∧ w'.cell? ⟨w3.heap.size, 1, none⟩ = some (.int .i64 0)) (ds := []) #[false, false, false, false, false, false, false, false, false, false, false, false, false, false, false, false, false, false, false, false] (by kernel_rfl) rfl rfl ⟨(blk_cell HS.out 0).trans rfl, (blk_cell HS.out 1).trans rfl⟩ (fun hHeld => ?_)
    refine pure_ (i := 0) (N := some 49) (v := ?_) (a' := ?_) #[true, false, false, false, false, false, false, false, false, false, false, false, false, false, false, false, false, false, false, false] rfl rfl (by kernel_rfl) (fun _ _ _ h => h) (Or.inl ⟨by rfl, ?_⟩) ?_ ?_
    rotate_left
    · intro w'
      go_simp
      with_reducible rfl
    rotate_left
    · simp only [Act.put, List.setIfInBounds_toArray, List.set_cons_zero, List.set_cons_succ, i64_w, i32_w]
      rfl
    refine pure_ (i := 1) (N := some 50) (v := ?_) (a' := ?_) #[true, true, false, false, false, false, false, false, false, false, false, false, false, false, false, false, false, false, false, false] rfl rfl (by kernel_rfl) (fun _ _ _ h => h) (Or.inl ⟨by rfl, ?_⟩) ?_ ?_
    rotate_left
    · intro w'
      go_simp
      with_reducible rfl
    rotate_left
    · simp only [Act.put, List.setIfInBounds_toArray, List.set_cons_zero, List.set_cons_succ, i64_w, i32_w]
      rfl
    refine pure_ (i := 2) (N := some 51) (v := ?_) (a' := ?_) #[true, true, true, false, false, false, false, false, false, false, false, false, false, false, false, false, false, false, false, false] rfl rfl (by kernel_rfl) (fun _ _ _ h => h) (Or.inl ⟨by rfl, ?_⟩) ?_ ?_
    rotate_left
    · intro w'
      go_simp
      with_reducible rfl
    rotate_left
    · simp only [Act.put, List.setIfInBounds_toArray, List.set_cons_zero, List.set_cons_succ, i64_w, i32_w]
      rfl
    refine pure_ (i := 3) (N := some 52) (v := ?_) (a' := ?_) #[true, true, true, true, false, false, false, false, false, false, false, false, false, false, false, false, false, false, false, false] rfl rfl (by kernel_rfl) (fun _ _ _ h => h) (Or.inl ⟨by rfl, ?_⟩) ?_ ?_
    rotate_left
    · intro w'
      go_simp
      with_reducible rfl
    rotate_left
    · simp only [Act.put, List.setIfInBounds_toArray, List.set_cons_zero, List.set_cons_succ, i64_w, i32_w]
      rfl
    refine pure_ (i := 4) (N := some 53) (v := ?_) (a' := ?_) #[true, true, true, true, true, false, false, false, false, false, false, false, false, false, false, false, false, false, false, false] rfl rfl (by kernel_rfl) (fun _ _ _ h => h) (Or.inl ⟨by rfl, ?_⟩) ?_ ?_
    rotate_left
    · intro w'
      go_simp
      with_reducible rfl
    rotate_left
    · simp only [Act.put, List.setIfInBounds_toArray, List.set_cons_zero, List.set_cons_succ, i64_w, i32_w]
      rfl
    refine pure_ (i := 5) (N := some 54) (v := ?_) (a' := ?_) #[true, true, true, true, true, true, false, false, false, false, false, false, false, false, false, false, false, false, false, false] rfl rfl (by kernel_rfl) (fun _ _ _ h => h) (Or.inl ⟨by rfl, ?_⟩) ?_ ?_
    rotate_left
    · intro w'
      go_simp
      with_reducible rfl
    rotate_left
    · simp only [Act.put, List.setIfInBounds_toArray, List.set_cons_zero, List.set_cons_succ, i64_w, i32_w]
      rfl
    refine pure_ (i := 6) (N := some 55) (v := ?_) (a' := ?_) #[true, true, true, true, true, true, true, false, false, false, false, false, false, false, false, false, false, false, false, false] rfl rfl (by kernel_rfl) (fun _ _ _ h => h) (Or.inl ⟨by rfl, ?_⟩) ?_ ?_
    rotate_left
    · intro w'
      go_simp
      with_reducible rfl
    rotate_left
    · simp only [Act.put, List.setIfInBounds_toArray, List.set_cons_zero, List.set_cons_succ, i64_w, i32_w]
      rfl
    refine pure_ (i := 7) (N := some 56) (v := ?_) (a' := ?_) #[true, true, true, true, true, true, true, true, false, false, false, false, false, false, false, false, false, false, false, false] rfl rfl (by kernel_rfl) (fun _ _ _ h => h) (Or.inl ⟨by rfl, ?_⟩) ?_ ?_
    rotate_left
    · intro w'
      go_simp
      with_reducible rfl
    rotate_left
    · simp only [Act.put, List.setIfInBounds_toArray, List.set_cons_zero, List.set_cons_succ, i64_w, i32_w]
      rfl
    refine take_ (i := 8) (N := some 57) (v := ?_) (a' := ?_) #[true, true, true, true, true, true, true, true, true, false, false, false, false, false, false, false, false, false, false, false] rfl rfl (by kernel_rfl) (fun _ _ _ h => h) (Or.inl ⟨by rfl, ?_⟩) hHeld ?_ ?_
    rotate_left
    · rintro w' ⟨s0, s1⟩
      go_simp
      with_reducible rfl
    rotate_left
    · simp only [Act.put, List.setIfInBounds_toArray, List.set_cons_zero, List.set_cons_succ, i64_w, i32_w]
      rfl
    refine one_ (i := 9) (N := some 58) #[true, true, true, true, true, true, true, true, true, true, false, false, false, false, false, false, false, false, false, false] rfl rfl (by kernel_rfl) (by decide) (fun K hK => ?_)
    refine goes_ Tryd.func52 (by kernel_rfl) rfl #[.int .i64 0] (by rfl) rfl rfl (by simp only [List.map_toArray, List.map_cons, List.map_nil]; rfl) ?_
    refine (HJ0.out _).mono ?_
    rintro e r7_1f ⟨rfl, hb⟩
    refine ⟨_, rfl, ?_⟩
    have HK_7_1f := Lib.hid (show (r7_1f).heap[w.heap.size]? = some (.cells #[.slice A0 l0.length c0, .slice A1 l1.length c1, .slice A2 l2.length c2] 26 (0, 0)) from blk_below HK.out hb)
    have HN_7_1f := Lib.hid (show (r7_1f).heap[w.heap.size + 1]? = some (.cells #[.int .i64 n0, .int .i64 n1] 84 (0, 0)) from blk_below HN.out hb)
    have HS_7_1f := Lib.hid (show (r7_1f).heap[w3.heap.size]? = some (.cells #[.int .i64 0, .int .i64 0] 32 (0, 0)) from blk_below HS.out hb)
    have HB_7_1f := Lib.hid (HB6f.out.trans (below_weaken hb HB6f.out.size))
    refine hK.out _ _ ⟨(blk_cell HS_7_1f.out 0).trans rfl, (blk_cell HS_7_1f.out 1).trans rfl⟩ (fun hHeld => ?_)
    clear hK K
    refine norm_ (a' := ?_) ?_ ?_
    rotate_left
    · show Act.put _ (some 58) _ = _
      simp only [Act.put, List.setIfInBounds_toArray, List.set_cons_zero, List.set_cons_succ, i64_w, i32_w]
      rfl
    refine pure_ (i := 10) (N := some 59) (v := ?_) (a' := ?_) #[true, true, true, true, true, true, true, true, true, true, true, false, false, false, false, false, false, false, false, false] rfl rfl (by kernel_rfl) (fun _ _ _ h => h) (Or.inl ⟨by rfl, ?_⟩) ?_ ?_
    rotate_left
    · intro w'
      go_simp
      with_reducible rfl
    rotate_left
    · simp only [Act.put, List.setIfInBounds_toArray, List.set_cons_zero, List.set_cons_succ, i64_w, i32_w]
      rfl
    refine pure_ (i := 11) (N := some 60) (v := ?_) (a' := ?_) #[true, true, true, true, true, true, true, true, true, true, true, true, false, false, false, false, false, false, false, false] rfl rfl (by kernel_rfl) (fun _ _ _ h => h) (Or.inl ⟨by rfl, ?_⟩) ?_ ?_
    rotate_left
    · intro w'
      go_simp
      with_reducible rfl
    rotate_left
    · simp only [Act.put, List.setIfInBounds_toArray, List.set_cons_zero, List.set_cons_succ, i64_w, i32_w]
      rfl
    refine pure_ (i := 12) (N := some 61) (v := ?_) (a' := ?_) #[true, true, true, true, true, true, true, true, true, true, true, true, true, false, false, false, false, false, false, false] rfl rfl (by kernel_rfl) (fun _ _ _ h => h) (Or.inl ⟨by rfl, ?_⟩) ?_ ?_
    rotate_left
    · intro w'
      go_simp
      with_reducible rfl
    rotate_left
    · simp only [Act.put, List.setIfInBounds_toArray, List.set_cons_zero, List.set_cons_succ, i64_w, i32_w]
      rfl
    refine pure_ (i := 13) (N := some 62) (v := ?_) (a' := ?_) #[true, true, true, true, true, true, true, true, true, true, true, true, true, true, false, false, false, false, false, false] rfl rfl (by kernel_rfl) (fun _ _ _ h => h) (Or.inl ⟨by rfl, ?_⟩) ?_ ?_
    rotate_left
    · intro w'
      go_simp
      with_reducible rfl
    rotate_left
    · simp only [Act.put, List.setIfInBounds_toArray, List.set_cons_zero, List.set_cons_succ, i64_w, i32_w]
      rfl
    refine pure_ (i := 14) (N := some 63) (v := ?_) (a' := ?_) #[true, true, true, true, true, true, true, true, true, true, true, true, true, true, true, false, false, false, false, false] rfl rfl (by kernel_rfl) (fun _ _ _ h => h) (Or.inl ⟨by rfl, ?_⟩) ?_ ?_
    rotate_left
    · intro w'
      go_simp
      with_reducible rfl
    rotate_left
    · simp only [Act.put, List.setIfInBounds_toArray, List.set_cons_zero, List.set_cons_succ, i64_w, i32_w]
      rfl
    refine pure_ (i := 15) (N := some 64) (v := ?_) (a' := ?_) #[true, true, true, true, true, true, true, true, true, true, true, true, true, true, true, true, false, false, false, false] rfl rfl (by kernel_rfl) (fun _ _ _ h => h) (Or.inl ⟨by rfl, ?_⟩) ?_ ?_
    rotate_left
    · intro w'
      go_simp
      with_reducible rfl
    rotate_left
    · simp only [Act.put, List.setIfInBounds_toArray, List.set_cons_zero, List.set_cons_succ, i64_w, i32_w]
      rfl
    refine pure_ (i := 16) (N := some 65) (v := ?_) (a' := ?_) #[true, true, true, true, true, true, true, true, true, true, true, true, true, true, true, true, true, false, false, false] rfl rfl (by kernel_rfl) (fun _ _ _ h => h) (Or.inl ⟨by rfl, ?_⟩) ?_ ?_
    rotate_left
    · intro w'
      go_simp
      with_reducible rfl
    rotate_left
    · simp only [Act.put, List.setIfInBounds_toArray, List.set_cons_zero, List.set_cons_succ, i64_w, i32_w]
      rfl
    refine one_ (i := 17) (N := some 66) #[true, true, true, true, true, true, true, true, true, true, true, true, true, true, true, true, true, true, false, false] rfl rfl (by kernel_rfl) (by decide) (fun K hK => ?_)
    refine goes_ Tryd.func27 (by kernel_rfl) rfl #[] (by rfl) rfl rfl (by simp only [List.map_toArray, List.map_nil]) ?_
    refine (HRO.out _ HB_7_1f.out).mono ?_
    rintro e r7_2f ⟨rfl, hb⟩
    refine ⟨_, rfl, ?_⟩
    have HK_7_2f := Lib.hid (show (r7_2f).heap[w.heap.size]? = some (.cells #[.slice A0 l0.length c0, .slice A1 l1.length c1, .slice A2 l2.length c2] 26 (0, 0)) from blk_below HK_7_1f.out hb)
    have HN_7_2f := Lib.hid (show (r7_2f).heap[w.heap.size + 1]? = some (.cells #[.int .i64 n0, .int .i64 n1] 84 (0, 0)) from blk_below HN_7_1f.out hb)
    have HS_7_2f := Lib.hid (show (r7_2f).heap[w3.heap.size]? = some (.cells #[.int .i64 0, .int .i64 0] 32 (0, 0)) from blk_below HS_7_1f.out hb)
    have HB_7_2f := Lib.hid (HB_7_1f.out.trans (below_weaken hb HB_7_1f.out.size))
    refine hK.out _ _ ⟨(blk_cell HS_7_2f.out 0).trans rfl, (blk_cell HS_7_2f.out 1).trans rfl⟩ (fun hHeld => ?_)
    clear hK K
    refine norm_ (a' := ?_) ?_ ?_
    rotate_left
    · show Act.put _ (some 66) _ = _
      simp only [Act.put, List.setIfInBounds_toArray, List.set_cons_zero, List.set_cons_succ, i64_w, i32_w]
      rfl
    refine pure_ (i := 18) (N := some 67) (v := ?_) (a' := ?_) #[true, true, true, true, true, true, true, true, true, true, true, true, true, true, true, true, true, true, true, false] rfl rfl (by kernel_rfl) (fun _ _ _ h => h) (Or.inl ⟨by rfl, ?_⟩) ?_ ?_
    rotate_left
    · intro w'
      go_simp
      with_reducible rfl
    rotate_left
    · simp only [Act.put, List.setIfInBounds_toArray, List.set_cons_zero, List.set_cons_succ, i64_w, i32_w]
      rfl
    refine pure_ (i := 19) (N := some 4) (v := ?_) (a' := ?_) #[true, true, true, true, true, true, true, true, true, true, true, true, true, true, true, true, true, true, true, true] rfl rfl (by kernel_rfl) (fun _ _ _ h => h) (Or.inl ⟨by rfl, ?_⟩) ?_ ?_
    rotate_left
    · intro w'
      go_simp
      with_reducible rfl
    rotate_left
    · simp only [Act.put, List.setIfInBounds_toArray, List.set_cons_zero, List.set_cons_succ, i64_w, i32_w]
      rfl
    refine done_ (by kernel_rfl) ?_

    have HKz := Lib.hid HK_7_2f.out
    (try clear HK)
    have HK := HKz
    clear HKz
    have HNz := Lib.hid HN_7_2f.out
    (try clear HN)
    have HN := HNz
    clear HNz
    have HSz := Lib.hid HS_7_2f.out
    (try clear HS)
    have HS := HSz
    clear HSz
    have cK_0 := (blk_cell HK.out 0).trans rfl
    have cK_1 := (blk_cell HK.out 1).trans rfl
    have cK_2 := (blk_cell HK.out 2).trans rfl
    have lK := blk_lt HK.out
    have cN_0 := (blk_cell HN.out 0).trans rfl
    have cN_1 := (blk_cell HN.out 1).trans rfl
    have lN := blk_lt HN.out
    have cS_0 := (blk_cell HS.out 0).trans rfl
    have cS_1 := (blk_cell HS.out 1).trans rfl
    have lS := blk_lt HS.out
    go_wp2
    go_ret
    exact ⟨ret_true (by first | rfl | (simp; done) | (simp; omega)), HB_7_2f.out⟩
  · have HQH := Lib.hid HQ
    clear HC HQ
    cases q with
    | true =>
      have HHO := HQH.out rfl
      go_wp2_with fail
      clear cK_0 cK_1 cK_2 lK cN_0 cN_1 lN cS_0 cS_1 lS
      refine (HSA.out _).mono ?_
      rintro e w6mt ⟨rfl, hb⟩
      have HKn := Lib.hid (show w6mt.heap[w.heap.size]? = some (.cells #[.slice A0 l0.length c0, .slice A1 l1.length c1, .slice A2 l2.length c2] 26 (0, 0)) from blk_below HK.out hb)
      have HNn := Lib.hid (show w6mt.heap[w.heap.size + 1]? = some (.cells #[.int .i64 n0, .int .i64 n1] 84 (0, 0)) from blk_below HN.out hb)
      have HSn := Lib.hid (show w6mt.heap[w3.heap.size]? = some (.cells #[.int .i64 lo, .int .i64 hi] 32 (0, 0)) from blk_below HS.out hb)
      clear HK
      clear HN
      clear HS
      have HK := HKn
      clear HKn
      have HN := HNn
      clear HNn
      have HS := HSn
      clear HSn
      have HB6mt := Lib.hid (HB4.out.trans (below_weaken hb HB4.out.size))
      clear hb
      have cK_0 := (blk_cell HK.out 0).trans rfl
      have cK_1 := (blk_cell HK.out 1).trans rfl
      have cK_2 := (blk_cell HK.out 2).trans rfl
      have lK := blk_lt HK.out
      have cN_0 := (blk_cell HN.out 0).trans rfl
      have cN_1 := (blk_cell HN.out 1).trans rfl
      have lN := blk_lt HN.out
      have cS_0 := (blk_cell HS.out 0).trans rfl
      have cS_1 := (blk_cell HS.out 1).trans rfl
      have lS := blk_lt HS.out
      go_wp2_with fail
      clear cK_0 cK_1 cK_2 lK cN_0 cN_1 lN cS_0 cS_1 lS
      refine (HHO.out _).mono ?_
      rintro e w7mt ⟨rfl, hb⟩
      have HKn := Lib.hid (show w7mt.heap[w.heap.size]? = some (.cells #[.slice A0 l0.length c0, .slice A1 l1.length c1, .slice A2 l2.length c2] 26 (0, 0)) from blk_below HK.out hb)
      have HNn := Lib.hid (show w7mt.heap[w.heap.size + 1]? = some (.cells #[.int .i64 n0, .int .i64 n1] 84 (0, 0)) from blk_below HN.out hb)
      have HSn := Lib.hid (show w7mt.heap[w3.heap.size]? = some (.cells #[.int .i64 lo, .int .i64 hi] 32 (0, 0)) from blk_below HS.out hb)
      clear HK
      clear HN
      clear HS
      have HK := HKn
      clear HKn
      have HN := HNn
      clear HNn
      have HS := HSn
      clear HSn
      have HB7mt := Lib.hid (HB6mt.out.trans (below_weaken hb HB6mt.out.size))
      clear hb
      have cK_0 := (blk_cell HK.out 0).trans rfl
      have cK_1 := (blk_cell HK.out 1).trans rfl
      have cK_2 := (blk_cell HK.out 2).trans rfl
      have lK := blk_lt HK.out
      have cN_0 := (blk_cell HN.out 0).trans rfl
      have cN_1 := (blk_cell HN.out 1).trans rfl
      have lN := blk_lt HN.out
      have cS_0 := (blk_cell HS.out 0).trans rfl
      have cS_1 := (blk_cell HS.out 1).trans rfl
      have lS := blk_lt HS.out
      go_wp2
      clear cK_0 cK_1 cK_2 lK cN_0 cN_1 lN cS_0 cS_1 lS
      go_loopg [11] (2) (fun gk v11 wr => ∃ k : Nat, v11 = .int .i64 (k : Int) ∧ Aside0 (k + gk = 2) ∧ Aside0 (wr.heap[w.heap.size]? = some (.cells #[.slice A0 l0.length c0, .slice A1 l1.length c1, .slice A2 l2.length c2] 26 (0, 0))) ∧ Aside0 (wr.heap[w3.heap.size]? = some (.cells #[.int .i64 lo, .int .i64 hi] 32 (0, 0))) ∧ Aside0 (Below w.heap.size w wr))
      case atStart => exact ⟨0, rfl, ⟨by omega⟩, ⟨HK.out⟩, ⟨HS.out⟩, ⟨HB7mt.out⟩⟩
      case round =>
        obtain ⟨k, rfl, HKK, HK, HS, HBR⟩ := hrel
        cases gk with
        | zero =>
          obtain rfl : k = 2 := by have := HKK.out; omega
          rcases HCD.out with ⟨rfl, hhi⟩ | ⟨e0, plo, phi, rfl, HBP, hed, hp1, hp2, hp3, hp4, hq1, hq2, hq3, hq4⟩
          · skip
            have cK_0 := (blk_cell HK.out 0).trans rfl
            have cK_1 := (blk_cell HK.out 1).trans rfl
            have cK_2 := (blk_cell HK.out 2).trans rfl
            have lK := blk_lt HK.out
            have cS_0 := (blk_cell HS.out 0).trans rfl
            have cS_1 := (blk_cell HS.out 1).trans rfl
            have lS := blk_lt HS.out
            go_wp2_with fail
            clear cK_0 cK_1 cK_2 lK cS_0 cS_1 lS
            refine (HRO.out _ HBR.out).mono ?_
            rintro e w9z ⟨rfl, hb⟩
            have HKn := Lib.hid (show w9z.heap[w.heap.size]? = some (.cells #[.slice A0 l0.length c0, .slice A1 l1.length c1, .slice A2 l2.length c2] 26 (0, 0)) from blk_below HK.out hb)
            have HSn := Lib.hid (show w9z.heap[w3.heap.size]? = some (.cells #[.int .i64 lo, .int .i64 hi] 32 (0, 0)) from blk_below HS.out hb)
            clear HK
            clear HS
            have HK := HKn
            clear HKn
            have HS := HSn
            clear HSn
            have HB9z := Lib.hid (HBR.out.trans (below_weaken hb HBR.out.size))
            clear hb
            have cK_0 := (blk_cell HK.out 0).trans rfl
            have cK_1 := (blk_cell HK.out 1).trans rfl
            have cK_2 := (blk_cell HK.out 2).trans rfl
            have lK := blk_lt HK.out
            have cS_0 := (blk_cell HS.out 0).trans rfl
            have cS_1 := (blk_cell HS.out 1).trans rfl
            have lS := blk_lt HS.out
            go_wp2
            go_ret
            exact ⟨ret_true (by first | rfl | (simp; done) | (simp; omega)), HB9z.out⟩
          · skip
            have cK_0 := (blk_cell HK.out 0).trans rfl
            have cK_1 := (blk_cell HK.out 1).trans rfl
            have cK_2 := (blk_cell HK.out 2).trans rfl
            have lK := blk_lt HK.out
            have cS_0 := (blk_cell HS.out 0).trans rfl
            have cS_1 := (blk_cell HS.out 1).trans rfl
            have lS := blk_lt HS.out
            go_wp2_with fail
            clear cK_0 cK_1 cK_2 lK cS_0 cS_1 lS
            refine (HBP.out _ HBR.out).mono ?_
            rintro e w9u ⟨rfl, hb⟩
            have HKn := Lib.hid (show w9u.heap[w.heap.size]? = some (.cells #[.slice A0 l0.length c0, .slice A1 l1.length c1, .slice A2 l2.length c2] 26 (0, 0)) from blk_below HK.out hb)
            have HSn := Lib.hid (show w9u.heap[w3.heap.size]? = some (.cells #[.int .i64 lo, .int .i64 hi] 32 (0, 0)) from blk_below HS.out hb)
            clear HK
            clear HS
            have HK := HKn
            clear HKn
            have HS := HSn
            clear HSn
            have HB9u := Lib.hid (HBR.out.trans (below_weaken hb HBR.out.size))
            clear hb
            have cK_0 := (blk_cell HK.out 0).trans rfl
            have cK_1 := (blk_cell HK.out 1).trans rfl
            have cK_2 := (blk_cell HK.out 2).trans rfl
            have lK := blk_lt HK.out
            have cS_0 := (blk_cell HS.out 0).trans rfl
            have cS_1 := (blk_cell HS.out 1).trans rfl
            have lS := blk_lt HS.out
            go_wp2_with fail
            clear cK_0 cK_1 cK_2 lK cS_0 cS_1 lS
            refine (HRO.out _ (HB9u.out.alloc HB9u.out.size (.cells #[.int .i64 plo, .int .i64 phi] 32))).mono ?_
            rintro e w10u ⟨rfl, hb⟩
            have HKn := Lib.hid (show w10u.heap[w.heap.size]? = some (.cells #[.slice A0 l0.length c0, .slice A1 l1.length c1, .slice A2 l2.length c2] 26 (0, 0)) from blk_below (blk_alloc HK.out (.cells #[.int .i64 plo, .int .i64 phi] 32)) hb)
            have HSn := Lib.hid (show w10u.heap[w3.heap.size]? = some (.cells #[.int .i64 lo, .int .i64 hi] 32 (0, 0)) from blk_below (blk_alloc HS.out (.cells #[.int .i64 plo, .int .i64 phi] 32)) hb)
            have HTn := Lib.hid (show w10u.heap[w9u.heap.size]? = some (.cells #[.int .i64 plo, .int .i64 phi] 32 (0, 0)) from blk_below (blk_new w9u (.cells #[.int .i64 plo, .int .i64 phi] 32)) hb)
            clear HK
            clear HS
            have HK := HKn
            clear HKn
            have HS := HSn
            clear HSn
            have HT := HTn
            clear HTn
            have HB10u := Lib.hid ((HB9u.out.alloc HB9u.out.size (.cells #[.int .i64 plo, .int .i64 phi] 32)).trans (below_weaken hb (HB9u.out.alloc HB9u.out.size (.cells #[.int .i64 plo, .int .i64 phi] 32)).size))
            clear hb
            have cK_0 := (blk_cell HK.out 0).trans rfl
            have cK_1 := (blk_cell HK.out 1).trans rfl
            have cK_2 := (blk_cell HK.out 2).trans rfl
            have lK := blk_lt HK.out
            have cS_0 := (blk_cell HS.out 0).trans rfl
            have cS_1 := (blk_cell HS.out 1).trans rfl
            have lS := blk_lt HS.out
            have cT_0 := (blk_cell HT.out 0).trans rfl
            have cT_1 := (blk_cell HT.out 1).trans rfl
            have lT := blk_lt HT.out
            go_wp2
            go_ret
            exact ⟨ret_true (by first | rfl | (simp; done) | (simp; omega)), HB10u.out⟩
        | succ g1 =>
          have hk2 : k < 2 := by have := HKK.out; omega
          obtain ⟨v, HRV, HFV⟩ : ∃ v : Int, Hid ((#[.int .i64 lo, .int .i64 hi] : Array Value)[k]? = some (.int .i64 v)) ∧ (Hid (∀ W, Below w.heap.size w W → Calls Tryd.prog 38 #[.agg #[.slice A0 l0.length c0, .slice A1 l1.length c1, .slice A2 l2.length c2], .agg #[.int .i64 (d : Int), .int .i64 v]] W fun e w' => e = .returned (.tuple #[.bool true, .int .i64 0]) ∧ Below W.heap.size W w')) := by
            have hk3 : k = 0 ∨ k = 1 := by omega
            rcases hk3 with rfl | rfl
            · exact ⟨lo, Lib.hid rfl, HFLO⟩
            · exact ⟨hi, Lib.hid rfl, HFHI⟩
          have hk2i : (k : Int) < 2 := by omega
          go_upto_region 13 with fail
          have hbp : Below wr.heap.size wr wr.drew := (Below.refl _ _).drew
          have HKn := Lib.hid (show wr.drew.heap[w.heap.size]? = some (.cells #[.slice A0 l0.length c0, .slice A1 l1.length c1, .slice A2 l2.length c2] 26 (0, 0)) from blk_below HK.out hbp)
          have HSn := Lib.hid (show wr.drew.heap[w3.heap.size]? = some (.cells #[.int .i64 lo, .int .i64 hi] 32 (0, 0)) from blk_below HS.out hbp)
          clear HK
          clear HS
          have HK := HKn
          clear HKn
          have HS := HSn
          clear HSn
          have HB9r := Lib.hid (HBR.out.trans (below_weaken hbp HBR.out.size))
          clear hbp
          refine start_ (n := 17) (S := fun w' => w'.cell? ⟨w.heap.size, 0, none⟩ = some (.slice A0 l0.length c0) ∧ w'.cell? ⟨w.heap.size, 1, none⟩ = some (.slice A1 l1.length c1) ∧ w'.cell? ⟨w.heap.size, 2, none⟩ = some (.slice A2 l2.length c2) ∧ w'.cell? ⟨w3.heap.size, 0, none⟩ = some (.int .i64 lo) ∧ w'.cell? ⟨w3.heap.size, 1, none⟩ = some (.int .i64 hi)) (ds := []) #[false, false, false, false, false, false, false, false, false, false, false, false, false, false, false, false, false] (by kernel_rfl) rfl rfl ⟨(blk_cell HK.out 0).trans rfl, (blk_cell HK.out 1).trans rfl, (blk_cell HK.out 2).trans rfl, (blk_cell HS.out 0).trans rfl, (blk_cell HS.out 1).trans rfl⟩ (fun hHeld => ?_)
          refine pure_ (i := 1) (N := some 96) (v := ?_) (a' := ?_) #[false, true, false, false, false, false, false, false, false, false, false, false, false, false, false, false, false] rfl rfl (by kernel_rfl) (fun _ _ _ h => h) (Or.inl ⟨by rfl, ?_⟩) ?_ ?_
          rotate_left
          · intro w'
            go_simp
            with_reducible rfl
          rotate_left
          · simp only [Act.put, List.setIfInBounds_toArray, List.set_cons_zero, List.set_cons_succ, i64_w, i32_w]
            rfl
          refine pure_ (i := 2) (N := some 97) (v := ?_) (a' := ?_) #[false, true, true, false, false, false, false, false, false, false, false, false, false, false, false, false, false] rfl rfl (by kernel_rfl) (fun _ _ _ h => h) (Or.inl ⟨by rfl, ?_⟩) ?_ ?_
          rotate_left
          · intro w'
            go_simp
            with_reducible rfl
          rotate_left
          · simp only [Act.put, List.setIfInBounds_toArray, List.set_cons_zero, List.set_cons_succ, i64_w, i32_w]
            rfl
          refine pure_ (i := 4) (N := some 99) (v := ?_) (a' := ?_) #[false, true, true, false, true, false, false, false, false, false, false, false, false, false, false, false, false] rfl rfl (by kernel_rfl) (fun _ _ _ h => h) (Or.inl ⟨by rfl, ?_⟩) ?_ ?_
          rotate_left
          · intro w'
            go_simp
            with_reducible rfl
          rotate_left
          · simp only [Act.put, List.setIfInBounds_toArray, List.set_cons_zero, List.set_cons_succ, i64_w, i32_w]
            rfl
          refine pure_ (i := 7) (N := some 102) (v := ?_) (a' := ?_) #[false, true, true, false, true, false, false, true, false, false, false, false, false, false, false, false, false] rfl rfl (by kernel_rfl) (fun _ _ _ h => h) (Or.inl ⟨by rfl, ?_⟩) ?_ ?_
          rotate_left
          · intro w'
            go_simp
            with_reducible rfl
          rotate_left
          · simp only [Act.put, List.setIfInBounds_toArray, List.set_cons_zero, List.set_cons_succ, i64_w, i32_w]
            rfl
          refine take_ (i := 0) (N := some 95) (v := ?_) (a' := ?_) #[true, true, true, false, true, false, false, true, false, false, false, false, false, false, false, false, false] rfl rfl (by kernel_rfl) (fun _ _ _ h => h) (Or.inl ⟨by rfl, ?_⟩) hHeld ?_ ?_
          rotate_left
          · rintro w' ⟨s0, s1, s2, s3, s4⟩
            go_simp
            with_reducible rfl
          rotate_left
          · simp only [Act.put, List.setIfInBounds_toArray, List.set_cons_zero, List.set_cons_succ, i64_w, i32_w]
            rfl
          refine take_ (i := 3) (N := some 98) (v := ?_) (a' := ?_) #[true, true, true, true, true, false, false, true, false, false, false, false, false, false, false, false, false] rfl rfl (by kernel_rfl) (fun _ _ _ h => h) (Or.inl ⟨by rfl, ?_⟩) hHeld ?_ ?_
          rotate_left
          · rintro w' ⟨s0, s1, s2, s3, s4⟩
            go_simp
            with_reducible rfl
          rotate_left
          · simp only [Act.put, List.setIfInBounds_toArray, List.set_cons_zero, List.set_cons_succ, i64_w, i32_w]
            rfl
          refine take_ (i := 5) (N := some 100) (v := ?_) (a' := ?_) #[true, true, true, true, true, true, false, true, false, false, false, false, false, false, false, false, false] rfl rfl (by kernel_rfl) (fun _ _ _ h => h) (Or.inl ⟨by rfl, ?_⟩) hHeld ?_ ?_
          rotate_left
          · rintro w' ⟨s0, s1, s2, s3, s4⟩
            go_simp
            with_reducible rfl
          rotate_left
          · simp only [Act.put, List.setIfInBounds_toArray, List.set_cons_zero, List.set_cons_succ, i64_w, i32_w]
            rfl
          refine one_ (i := 6) (N := some 101) #[true, true, true, true, true, true, true, true, false, false, false, false, false, false, false, false, false] rfl rfl (by kernel_rfl) (by decide) (fun K hK => ?_)
          refine value_ (w1 := ?_) (v := ?_) (by rfl) rfl ?_ ?_
          rotate_left 2
          · go_simp
            constructor
            · rfl
            · rfl
          obtain ⟨r13_1r, hrn⟩ : ∃ W, W = (wr.drew).alloc (.cells #[.int .i64 lo, .int .i64 hi] 3) := ⟨_, rfl⟩
          rw [show ((wr).alloc (.cells #[.int .i64 lo, .int .i64 hi] 3)).drew = r13_1r from hrn.symm]
          have hb : Below (wr.drew).heap.size (wr.drew) r13_1r := by rw [hrn]; exact (Below.refl _ _).alloc (Nat.le_refl _) _
          have HK_13_1r := Lib.hid (show (r13_1r).heap[w.heap.size]? = some (.cells #[.slice A0 l0.length c0, .slice A1 l1.length c1, .slice A2 l2.length c2] 26 (0, 0)) from blk_below HK.out hb)
          have HS_13_1r := Lib.hid (show (r13_1r).heap[w3.heap.size]? = some (.cells #[.int .i64 lo, .int .i64 hi] 32 (0, 0)) from blk_below HS.out hb)
          have HR_13_1r := Lib.hid (show r13_1r.heap[wr.heap.size]? = some (.cells #[.int .i64 lo, .int .i64 hi] 3 (0, 0)) by rw [hrn]; exact blk_new _ _)
          clear hrn
          have HB_13_1r := Lib.hid (HB9r.out.trans (below_weaken hb HB9r.out.size))
          refine hK.out _ _ ⟨(blk_cell HK_13_1r.out 0).trans rfl, (blk_cell HK_13_1r.out 1).trans rfl, (blk_cell HK_13_1r.out 2).trans rfl, (blk_cell HS_13_1r.out 0).trans rfl, (blk_cell HS_13_1r.out 1).trans rfl⟩ (fun hHeld => ?_)
          clear hK K
          refine norm_ (a' := ?_) ?_ ?_
          rotate_left
          · show Act.put _ (some 101) _ = _
            simp only [Act.put, List.setIfInBounds_toArray, List.set_cons_zero, List.set_cons_succ, i64_w, i32_w]
            rfl
          refine pure_ (i := 8) (N := some 103) (v := ?_) (a' := ?_) #[true, true, true, true, true, true, true, true, true, false, false, false, false, false, false, false, false] rfl rfl (by kernel_rfl) (fun _ _ _ h => h) (Or.inl ⟨by rfl, ?_⟩) ?_ ?_
          rotate_left
          · intro w'
            go_simp
            with_reducible rfl
          rotate_left
          · simp only [Act.put, List.setIfInBounds_toArray, List.set_cons_zero, List.set_cons_succ, i64_w, i32_w]
            rfl
          refine one_ (i := 9) (N := some 104) #[true, true, true, true, true, true, true, true, true, true, false, false, false, false, false, false, false] rfl rfl (by kernel_rfl) (by decide) (fun K hK => ?_)
          have hld13_2r := (blk_cell HR_13_1r.out k).trans HRV.out
          refine value_ (w1 := ?_) (v := ?_) (by rfl) rfl ?_ ?_
          rotate_left 2
          · go_simp
            constructor
            · rfl
            · rfl
          refine hK.out _ _ ⟨(blk_cell HK_13_1r.out 0).trans rfl, (blk_cell HK_13_1r.out 1).trans rfl, (blk_cell HK_13_1r.out 2).trans rfl, (blk_cell HS_13_1r.out 0).trans rfl, (blk_cell HS_13_1r.out 1).trans rfl⟩ (fun hHeld => ?_)
          clear hK K
          refine norm_ (a' := ?_) ?_ ?_
          rotate_left
          · show Act.put _ (some 104) _ = _
            simp only [Act.put, List.setIfInBounds_toArray, List.set_cons_zero, List.set_cons_succ, i64_w, i32_w]
            rfl
          refine pure_ (i := 10) (N := some 105) (v := ?_) (a' := ?_) #[true, true, true, true, true, true, true, true, true, true, true, false, false, false, false, false, false] rfl rfl (by kernel_rfl) (fun _ _ _ h => h) (Or.inl ⟨by rfl, ?_⟩) ?_ ?_
          rotate_left
          · intro w'
            go_simp
            with_reducible rfl
          rotate_left
          · simp only [Act.put, List.setIfInBounds_toArray, List.set_cons_zero, List.set_cons_succ, i64_w, i32_w]
            rfl
          refine one_ (i := 11) (N := some 106) #[true, true, true, true, true, true, true, true, true, true, true, true, false, false, false, false, false] rfl rfl (by kernel_rfl) (by decide) (fun K hK => ?_)
          refine goes_ Tryd.func38 (by kernel_rfl) rfl #[.agg #[.slice A0 l0.length c0, .slice A1 l1.length c1, .slice A2 l2.length c2], .agg #[.int .i64 (d : Int), .int .i64 v]] (by rfl) rfl rfl (by simp only [List.map_toArray, List.map_cons, List.map_nil]; rfl) ?_
          refine (HFV.out _ HB_13_1r.out).mono ?_
          rintro e r13_3r ⟨rfl, hb⟩
          refine ⟨_, rfl, ?_⟩
          have HK_13_3r := Lib.hid (show (r13_3r).heap[w.heap.size]? = some (.cells #[.slice A0 l0.length c0, .slice A1 l1.length c1, .slice A2 l2.length c2] 26 (0, 0)) from blk_below HK_13_1r.out hb)
          have HS_13_3r := Lib.hid (show (r13_3r).heap[w3.heap.size]? = some (.cells #[.int .i64 lo, .int .i64 hi] 32 (0, 0)) from blk_below HS_13_1r.out hb)
          have HR_13_3r := Lib.hid (show (r13_3r).heap[wr.heap.size]? = some (.cells #[.int .i64 lo, .int .i64 hi] 3 (0, 0)) from blk_below HR_13_1r.out hb)
          have HB_13_3r := Lib.hid (HB_13_1r.out.trans (below_weaken hb HB_13_1r.out.size))
          refine hK.out _ _ ⟨(blk_cell HK_13_3r.out 0).trans rfl, (blk_cell HK_13_3r.out 1).trans rfl, (blk_cell HK_13_3r.out 2).trans rfl, (blk_cell HS_13_3r.out 0).trans rfl, (blk_cell HS_13_3r.out 1).trans rfl⟩ (fun hHeld => ?_)
          clear hK K
          refine norm_ (a' := ?_) ?_ ?_
          rotate_left
          · show Act.put _ (some 106) _ = _
            simp only [Act.put, List.setIfInBounds_toArray, List.set_cons_zero, List.set_cons_succ, i64_w, i32_w]
            rfl
          refine pure_ (i := 12) (N := some 94) (v := ?_) (a' := ?_) #[true, true, true, true, true, true, true, true, true, true, true, true, true, false, false, false, false] rfl rfl (by kernel_rfl) (fun _ _ _ h => h) (Or.inl ⟨by rfl, ?_⟩) ?_ ?_
          rotate_left
          · intro w'
            go_simp
            with_reducible rfl
          rotate_left
          · simp only [Act.put, List.setIfInBounds_toArray, List.set_cons_zero, List.set_cons_succ, i64_w, i32_w]
            rfl
          refine pure_ (i := 13) (N := some 107) (v := ?_) (a' := ?_) #[true, true, true, true, true, true, true, true, true, true, true, true, true, true, false, false, false] rfl rfl (by kernel_rfl) (fun _ _ _ h => h) (Or.inl ⟨by rfl, ?_⟩) ?_ ?_
          rotate_left
          · intro w'
            go_simp
            with_reducible rfl
          rotate_left
          · simp only [Act.put, List.setIfInBounds_toArray, List.set_cons_zero, List.set_cons_succ, i64_w, i32_w]
            rfl
          refine pure_ (i := 14) (N := some 108) (v := ?_) (a' := ?_) #[true, true, true, true, true, true, true, true, true, true, true, true, true, true, true, false, false] rfl rfl (by kernel_rfl) (fun _ _ _ h => h) (Or.inl ⟨by rfl, ?_⟩) ?_ ?_
          rotate_left
          · intro w'
            go_simp
            with_reducible rfl
          rotate_left
          · simp only [Act.put, List.setIfInBounds_toArray, List.set_cons_zero, List.set_cons_succ, i64_w, i32_w]
            rfl
          refine pure_ (i := 15) (N := some 12) (v := ?_) (a' := ?_) #[true, true, true, true, true, true, true, true, true, true, true, true, true, true, true, true, false] rfl rfl (by kernel_rfl) (fun _ _ _ h => h) (Or.inl ⟨by rfl, ?_⟩) ?_ ?_
          rotate_left
          · intro w'
            go_simp
            with_reducible rfl
          rotate_left
          · simp only [Act.put, List.setIfInBounds_toArray, List.set_cons_zero, List.set_cons_succ, i64_w, i32_w]
            rfl
          refine pure_ (i := 16) (N := some 13) (v := ?_) (a' := ?_) #[true, true, true, true, true, true, true, true, true, true, true, true, true, true, true, true, true] rfl rfl (by kernel_rfl) (fun _ _ _ h => h) (Or.inl ⟨by rfl, ?_⟩) ?_ ?_
          rotate_left
          · intro w'
            go_simp
            with_reducible rfl
          rotate_left
          · simp only [Act.put, List.setIfInBounds_toArray, List.set_cons_zero, List.set_cons_succ, i64_w, i32_w]
            rfl
          refine done_ (by kernel_rfl) ?_

          have HKz := Lib.hid HK_13_3r.out
          (try clear HK)
          have HK := HKz
          clear HKz
          have HSz := Lib.hid HS_13_3r.out
          (try clear HS)
          have HS := HSz
          clear HSz
          have HRz := Lib.hid HR_13_3r.out
          (try clear HR)
          have HR := HRz
          clear HRz
          have cK_0 := (blk_cell HK.out 0).trans rfl
          have cK_1 := (blk_cell HK.out 1).trans rfl
          have cK_2 := (blk_cell HK.out 2).trans rfl
          have lK := blk_lt HK.out
          have cS_0 := (blk_cell HS.out 0).trans rfl
          have cS_1 := (blk_cell HS.out 1).trans rfl
          have lS := blk_lt HS.out
          have cR_0 := (blk_cell HR.out 0).trans rfl
          have cR_1 := (blk_cell HR.out 1).trans rfl
          have lR := blk_lt HR.out
          go_wp2
          clear cK_0 cK_1 cK_2 lK cS_0 cS_1 lS cR_0 cR_1 lR
          go_roundg g1
          case measure => omega
          case rel => exact ⟨k + 1, by go_num, ⟨by have := HKK.out; omega⟩, ⟨HK.out⟩, ⟨HS.out⟩, ⟨HB_13_3r.out⟩⟩
    | false =>
      go_wp2_with fail
      clear cK_0 cK_1 cK_2 lK cN_0 cN_1 lN cS_0 cS_1 lS
      refine (HSA.out _).mono ?_
      rintro e w6mf ⟨rfl, hb⟩
      have HKn := Lib.hid (show w6mf.heap[w.heap.size]? = some (.cells #[.slice A0 l0.length c0, .slice A1 l1.length c1, .slice A2 l2.length c2] 26 (0, 0)) from blk_below HK.out hb)
      have HNn := Lib.hid (show w6mf.heap[w.heap.size + 1]? = some (.cells #[.int .i64 n0, .int .i64 n1] 84 (0, 0)) from blk_below HN.out hb)
      have HSn := Lib.hid (show w6mf.heap[w3.heap.size]? = some (.cells #[.int .i64 lo, .int .i64 hi] 32 (0, 0)) from blk_below HS.out hb)
      clear HK
      clear HN
      clear HS
      have HK := HKn
      clear HKn
      have HN := HNn
      clear HNn
      have HS := HSn
      clear HSn
      have HB6mf := Lib.hid (HB4.out.trans (below_weaken hb HB4.out.size))
      clear hb
      have cK_0 := (blk_cell HK.out 0).trans rfl
      have cK_1 := (blk_cell HK.out 1).trans rfl
      have cK_2 := (blk_cell HK.out 2).trans rfl
      have lK := blk_lt HK.out
      have cN_0 := (blk_cell HN.out 0).trans rfl
      have cN_1 := (blk_cell HN.out 1).trans rfl
      have lN := blk_lt HN.out
      have cS_0 := (blk_cell HS.out 0).trans rfl
      have cS_1 := (blk_cell HS.out 1).trans rfl
      have lS := blk_lt HS.out
      go_wp2
      clear cK_0 cK_1 cK_2 lK cN_0 cN_1 lN cS_0 cS_1 lS
      go_loopg [11] (2) (fun gk v11 wr => ∃ k : Nat, v11 = .int .i64 (k : Int) ∧ Aside0 (k + gk = 2) ∧ Aside0 (wr.heap[w.heap.size]? = some (.cells #[.slice A0 l0.length c0, .slice A1 l1.length c1, .slice A2 l2.length c2] 26 (0, 0))) ∧ Aside0 (wr.heap[w3.heap.size]? = some (.cells #[.int .i64 lo, .int .i64 hi] 32 (0, 0))) ∧ Aside0 (Below w.heap.size w wr))
      case atStart => exact ⟨0, rfl, ⟨by omega⟩, ⟨HK.out⟩, ⟨HS.out⟩, ⟨HB6mf.out⟩⟩
      case round =>
        obtain ⟨k, rfl, HKK, HK, HS, HBR⟩ := hrel
        cases gk with
        | zero =>
          obtain rfl : k = 2 := by have := HKK.out; omega
          rcases HCD.out with ⟨rfl, hhi⟩ | ⟨e0, plo, phi, rfl, HBP, hed, hp1, hp2, hp3, hp4, hq1, hq2, hq3, hq4⟩
          · skip
            have cK_0 := (blk_cell HK.out 0).trans rfl
            have cK_1 := (blk_cell HK.out 1).trans rfl
            have cK_2 := (blk_cell HK.out 2).trans rfl
            have lK := blk_lt HK.out
            have cS_0 := (blk_cell HS.out 0).trans rfl
            have cS_1 := (blk_cell HS.out 1).trans rfl
            have lS := blk_lt HS.out
            go_wp2_with fail
            clear cK_0 cK_1 cK_2 lK cS_0 cS_1 lS
            refine (HRO.out _ HBR.out).mono ?_
            rintro e w8z ⟨rfl, hb⟩
            have HKn := Lib.hid (show w8z.heap[w.heap.size]? = some (.cells #[.slice A0 l0.length c0, .slice A1 l1.length c1, .slice A2 l2.length c2] 26 (0, 0)) from blk_below HK.out hb)
            have HSn := Lib.hid (show w8z.heap[w3.heap.size]? = some (.cells #[.int .i64 lo, .int .i64 hi] 32 (0, 0)) from blk_below HS.out hb)
            clear HK
            clear HS
            have HK := HKn
            clear HKn
            have HS := HSn
            clear HSn
            have HB8z := Lib.hid (HBR.out.trans (below_weaken hb HBR.out.size))
            clear hb
            have cK_0 := (blk_cell HK.out 0).trans rfl
            have cK_1 := (blk_cell HK.out 1).trans rfl
            have cK_2 := (blk_cell HK.out 2).trans rfl
            have lK := blk_lt HK.out
            have cS_0 := (blk_cell HS.out 0).trans rfl
            have cS_1 := (blk_cell HS.out 1).trans rfl
            have lS := blk_lt HS.out
            go_wp2
            go_ret
            exact ⟨ret_true (by first | rfl | (simp; done) | (simp; omega)), HB8z.out⟩
          · skip
            have cK_0 := (blk_cell HK.out 0).trans rfl
            have cK_1 := (blk_cell HK.out 1).trans rfl
            have cK_2 := (blk_cell HK.out 2).trans rfl
            have lK := blk_lt HK.out
            have cS_0 := (blk_cell HS.out 0).trans rfl
            have cS_1 := (blk_cell HS.out 1).trans rfl
            have lS := blk_lt HS.out
            go_wp2_with fail
            clear cK_0 cK_1 cK_2 lK cS_0 cS_1 lS
            refine (HBP.out _ HBR.out).mono ?_
            rintro e w8u ⟨rfl, hb⟩
            have HKn := Lib.hid (show w8u.heap[w.heap.size]? = some (.cells #[.slice A0 l0.length c0, .slice A1 l1.length c1, .slice A2 l2.length c2] 26 (0, 0)) from blk_below HK.out hb)
            have HSn := Lib.hid (show w8u.heap[w3.heap.size]? = some (.cells #[.int .i64 lo, .int .i64 hi] 32 (0, 0)) from blk_below HS.out hb)
            clear HK
            clear HS
            have HK := HKn
            clear HKn
            have HS := HSn
            clear HSn
            have HB8u := Lib.hid (HBR.out.trans (below_weaken hb HBR.out.size))
            clear hb
            have cK_0 := (blk_cell HK.out 0).trans rfl
            have cK_1 := (blk_cell HK.out 1).trans rfl
            have cK_2 := (blk_cell HK.out 2).trans rfl
            have lK := blk_lt HK.out
            have cS_0 := (blk_cell HS.out 0).trans rfl
            have cS_1 := (blk_cell HS.out 1).trans rfl
            have lS := blk_lt HS.out
            go_wp2_with fail
            clear cK_0 cK_1 cK_2 lK cS_0 cS_1 lS
            refine (HRO.out _ (HB8u.out.alloc HB8u.out.size (.cells #[.int .i64 plo, .int .i64 phi] 32))).mono ?_
            rintro e w9u ⟨rfl, hb⟩
            have HKn := Lib.hid (show w9u.heap[w.heap.size]? = some (.cells #[.slice A0 l0.length c0, .slice A1 l1.length c1, .slice A2 l2.length c2] 26 (0, 0)) from blk_below (blk_alloc HK.out (.cells #[.int .i64 plo, .int .i64 phi] 32)) hb)
            have HSn := Lib.hid (show w9u.heap[w3.heap.size]? = some (.cells #[.int .i64 lo, .int .i64 hi] 32 (0, 0)) from blk_below (blk_alloc HS.out (.cells #[.int .i64 plo, .int .i64 phi] 32)) hb)
            have HTn := Lib.hid (show w9u.heap[w8u.heap.size]? = some (.cells #[.int .i64 plo, .int .i64 phi] 32 (0, 0)) from blk_below (blk_new w8u (.cells #[.int .i64 plo, .int .i64 phi] 32)) hb)
            clear HK
            clear HS
            have HK := HKn
            clear HKn
            have HS := HSn
            clear HSn
            have HT := HTn
            clear HTn
            have HB9u := Lib.hid ((HB8u.out.alloc HB8u.out.size (.cells #[.int .i64 plo, .int .i64 phi] 32)).trans (below_weaken hb (HB8u.out.alloc HB8u.out.size (.cells #[.int .i64 plo, .int .i64 phi] 32)).size))
            clear hb
            have cK_0 := (blk_cell HK.out 0).trans rfl
            have cK_1 := (blk_cell HK.out 1).trans rfl
            have cK_2 := (blk_cell HK.out 2).trans rfl
            have lK := blk_lt HK.out
            have cS_0 := (blk_cell HS.out 0).trans rfl
            have cS_1 := (blk_cell HS.out 1).trans rfl
            have lS := blk_lt HS.out
            have cT_0 := (blk_cell HT.out 0).trans rfl
            have cT_1 := (blk_cell HT.out 1).trans rfl
            have lT := blk_lt HT.out
            go_wp2
            go_ret
            exact ⟨ret_true (by first | rfl | (simp; done) | (simp; omega)), HB9u.out⟩
        | succ g1 =>
          have hk2 : k < 2 := by have := HKK.out; omega
          obtain ⟨v, HRV, HFV⟩ : ∃ v : Int, Hid ((#[.int .i64 lo, .int .i64 hi] : Array Value)[k]? = some (.int .i64 v)) ∧ (Hid (∀ W, Below w.heap.size w W → Calls Tryd.prog 38 #[.agg #[.slice A0 l0.length c0, .slice A1 l1.length c1, .slice A2 l2.length c2], .agg #[.int .i64 (d : Int), .int .i64 v]] W fun e w' => e = .returned (.tuple #[.bool true, .int .i64 0]) ∧ Below W.heap.size W w')) := by
            have hk3 : k = 0 ∨ k = 1 := by omega
            rcases hk3 with rfl | rfl
            · exact ⟨lo, Lib.hid rfl, HFLO⟩
            · exact ⟨hi, Lib.hid rfl, HFHI⟩
          have hk2i : (k : Int) < 2 := by omega
          go_upto_region 13 with fail
          have hbp : Below wr.heap.size wr wr.drew := (Below.refl _ _).drew
          have HKn := Lib.hid (show wr.drew.heap[w.heap.size]? = some (.cells #[.slice A0 l0.length c0, .slice A1 l1.length c1, .slice A2 l2.length c2] 26 (0, 0)) from blk_below HK.out hbp)
          have HSn := Lib.hid (show wr.drew.heap[w3.heap.size]? = some (.cells #[.int .i64 lo, .int .i64 hi] 32 (0, 0)) from blk_below HS.out hbp)
          clear HK
          clear HS
          have HK := HKn
          clear HKn
          have HS := HSn
          clear HSn
          have HB8r := Lib.hid (HBR.out.trans (below_weaken hbp HBR.out.size))
          clear hbp
          refine start_ (n := 17) (S := fun w' => w'.cell? ⟨w.heap.size, 0, none⟩ = some (.slice A0 l0.length c0) ∧ w'.cell? ⟨w.heap.size, 1, none⟩ = some (.slice A1 l1.length c1) ∧ w'.cell? ⟨w.heap.size, 2, none⟩ = some (.slice A2 l2.length c2) ∧ w'.cell? ⟨w3.heap.size, 0, none⟩ = some (.int .i64 lo) ∧ w'.cell? ⟨w3.heap.size, 1, none⟩ = some (.int .i64 hi)) (ds := []) #[false, false, false, false, false, false, false, false, false, false, false, false, false, false, false, false, false] (by kernel_rfl) rfl rfl ⟨(blk_cell HK.out 0).trans rfl, (blk_cell HK.out 1).trans rfl, (blk_cell HK.out 2).trans rfl, (blk_cell HS.out 0).trans rfl, (blk_cell HS.out 1).trans rfl⟩ (fun hHeld => ?_)
          refine pure_ (i := 1) (N := some 96) (v := ?_) (a' := ?_) #[false, true, false, false, false, false, false, false, false, false, false, false, false, false, false, false, false] rfl rfl (by kernel_rfl) (fun _ _ _ h => h) (Or.inl ⟨by rfl, ?_⟩) ?_ ?_
          rotate_left
          · intro w'
            go_simp
            with_reducible rfl
          rotate_left
          · simp only [Act.put, List.setIfInBounds_toArray, List.set_cons_zero, List.set_cons_succ, i64_w, i32_w]
            rfl
          refine pure_ (i := 2) (N := some 97) (v := ?_) (a' := ?_) #[false, true, true, false, false, false, false, false, false, false, false, false, false, false, false, false, false] rfl rfl (by kernel_rfl) (fun _ _ _ h => h) (Or.inl ⟨by rfl, ?_⟩) ?_ ?_
          rotate_left
          · intro w'
            go_simp
            with_reducible rfl
          rotate_left
          · simp only [Act.put, List.setIfInBounds_toArray, List.set_cons_zero, List.set_cons_succ, i64_w, i32_w]
            rfl
          refine pure_ (i := 4) (N := some 99) (v := ?_) (a' := ?_) #[false, true, true, false, true, false, false, false, false, false, false, false, false, false, false, false, false] rfl rfl (by kernel_rfl) (fun _ _ _ h => h) (Or.inl ⟨by rfl, ?_⟩) ?_ ?_
          rotate_left
          · intro w'
            go_simp
            with_reducible rfl
          rotate_left
          · simp only [Act.put, List.setIfInBounds_toArray, List.set_cons_zero, List.set_cons_succ, i64_w, i32_w]
            rfl
          refine pure_ (i := 7) (N := some 102) (v := ?_) (a' := ?_) #[false, true, true, false, true, false, false, true, false, false, false, false, false, false, false, false, false] rfl rfl (by kernel_rfl) (fun _ _ _ h => h) (Or.inl ⟨by rfl, ?_⟩) ?_ ?_
          rotate_left
          · intro w'
            go_simp
            with_reducible rfl
          rotate_left
          · simp only [Act.put, List.setIfInBounds_toArray, List.set_cons_zero, List.set_cons_succ, i64_w, i32_w]
            rfl
          refine take_ (i := 0) (N := some 95) (v := ?_) (a' := ?_) #[true, true, true, false, true, false, false, true, false, false, false, false, false, false, false, false, false] rfl rfl (by kernel_rfl) (fun _ _ _ h => h) (Or.inl ⟨by rfl, ?_⟩) hHeld ?_ ?_
          rotate_left
          · rintro w' ⟨s0, s1, s2, s3, s4⟩
            go_simp
            with_reducible rfl
          rotate_left
          · simp only [Act.put, List.setIfInBounds_toArray, List.set_cons_zero, List.set_cons_succ, i64_w, i32_w]
            rfl
          refine take_ (i := 3) (N := some 98) (v := ?_) (a' := ?_) #[true, true, true, true, true, false, false, true, false, false, false, false, false, false, false, false, false] rfl rfl (by kernel_rfl) (fun _ _ _ h => h) (Or.inl ⟨by rfl, ?_⟩) hHeld ?_ ?_
          rotate_left
          · rintro w' ⟨s0, s1, s2, s3, s4⟩
            go_simp
            with_reducible rfl
          rotate_left
          · simp only [Act.put, List.setIfInBounds_toArray, List.set_cons_zero, List.set_cons_succ, i64_w, i32_w]
            rfl
          refine take_ (i := 5) (N := some 100) (v := ?_) (a' := ?_) #[true, true, true, true, true, true, false, true, false, false, false, false, false, false, false, false, false] rfl rfl (by kernel_rfl) (fun _ _ _ h => h) (Or.inl ⟨by rfl, ?_⟩) hHeld ?_ ?_
          rotate_left
          · rintro w' ⟨s0, s1, s2, s3, s4⟩
            go_simp
            with_reducible rfl
          rotate_left
          · simp only [Act.put, List.setIfInBounds_toArray, List.set_cons_zero, List.set_cons_succ, i64_w, i32_w]
            rfl
          refine one_ (i := 6) (N := some 101) #[true, true, true, true, true, true, true, true, false, false, false, false, false, false, false, false, false] rfl rfl (by kernel_rfl) (by decide) (fun K hK => ?_)
          refine value_ (w1 := ?_) (v := ?_) (by rfl) rfl ?_ ?_
          rotate_left 2
          · go_simp
            constructor
            · rfl
            · rfl
          obtain ⟨r13_1r, hrn⟩ : ∃ W, W = (wr.drew).alloc (.cells #[.int .i64 lo, .int .i64 hi] 3) := ⟨_, rfl⟩
          rw [show ((wr).alloc (.cells #[.int .i64 lo, .int .i64 hi] 3)).drew = r13_1r from hrn.symm]
          have hb : Below (wr.drew).heap.size (wr.drew) r13_1r := by rw [hrn]; exact (Below.refl _ _).alloc (Nat.le_refl _) _
          have HK_13_1r := Lib.hid (show (r13_1r).heap[w.heap.size]? = some (.cells #[.slice A0 l0.length c0, .slice A1 l1.length c1, .slice A2 l2.length c2] 26 (0, 0)) from blk_below HK.out hb)
          have HS_13_1r := Lib.hid (show (r13_1r).heap[w3.heap.size]? = some (.cells #[.int .i64 lo, .int .i64 hi] 32 (0, 0)) from blk_below HS.out hb)
          have HR_13_1r := Lib.hid (show r13_1r.heap[wr.heap.size]? = some (.cells #[.int .i64 lo, .int .i64 hi] 3 (0, 0)) by rw [hrn]; exact blk_new _ _)
          clear hrn
          have HB_13_1r := Lib.hid (HB8r.out.trans (below_weaken hb HB8r.out.size))
          refine hK.out _ _ ⟨(blk_cell HK_13_1r.out 0).trans rfl, (blk_cell HK_13_1r.out 1).trans rfl, (blk_cell HK_13_1r.out 2).trans rfl, (blk_cell HS_13_1r.out 0).trans rfl, (blk_cell HS_13_1r.out 1).trans rfl⟩ (fun hHeld => ?_)
          clear hK K
          refine norm_ (a' := ?_) ?_ ?_
          rotate_left
          · show Act.put _ (some 101) _ = _
            simp only [Act.put, List.setIfInBounds_toArray, List.set_cons_zero, List.set_cons_succ, i64_w, i32_w]
            rfl
          refine pure_ (i := 8) (N := some 103) (v := ?_) (a' := ?_) #[true, true, true, true, true, true, true, true, true, false, false, false, false, false, false, false, false] rfl rfl (by kernel_rfl) (fun _ _ _ h => h) (Or.inl ⟨by rfl, ?_⟩) ?_ ?_
          rotate_left
          · intro w'
            go_simp
            with_reducible rfl
          rotate_left
          · simp only [Act.put, List.setIfInBounds_toArray, List.set_cons_zero, List.set_cons_succ, i64_w, i32_w]
            rfl
          refine one_ (i := 9) (N := some 104) #[true, true, true, true, true, true, true, true, true, true, false, false, false, false, false, false, false] rfl rfl (by kernel_rfl) (by decide) (fun K hK => ?_)
          have hld13_2r := (blk_cell HR_13_1r.out k).trans HRV.out
          refine value_ (w1 := ?_) (v := ?_) (by rfl) rfl ?_ ?_
          rotate_left 2
          · go_simp
            constructor
            · rfl
            · rfl
          refine hK.out _ _ ⟨(blk_cell HK_13_1r.out 0).trans rfl, (blk_cell HK_13_1r.out 1).trans rfl, (blk_cell HK_13_1r.out 2).trans rfl, (blk_cell HS_13_1r.out 0).trans rfl, (blk_cell HS_13_1r.out 1).trans rfl⟩ (fun hHeld => ?_)
          clear hK K
          refine norm_ (a' := ?_) ?_ ?_
          rotate_left
          · show Act.put _ (some 104) _ = _
            simp only [Act.put, List.setIfInBounds_toArray, List.set_cons_zero, List.set_cons_succ, i64_w, i32_w]
            rfl
          refine pure_ (i := 10) (N := some 105) (v := ?_) (a' := ?_) #[true, true, true, true, true, true, true, true, true, true, true, false, false, false, false, false, false] rfl rfl (by kernel_rfl) (fun _ _ _ h => h) (Or.inl ⟨by rfl, ?_⟩) ?_ ?_
          rotate_left
          · intro w'
            go_simp
            with_reducible rfl
          rotate_left
          · simp only [Act.put, List.setIfInBounds_toArray, List.set_cons_zero, List.set_cons_succ, i64_w, i32_w]
            rfl
          refine one_ (i := 11) (N := some 106) #[true, true, true, true, true, true, true, true, true, true, true, true, false, false, false, false, false] rfl rfl (by kernel_rfl) (by decide) (fun K hK => ?_)
          refine goes_ Tryd.func38 (by kernel_rfl) rfl #[.agg #[.slice A0 l0.length c0, .slice A1 l1.length c1, .slice A2 l2.length c2], .agg #[.int .i64 (d : Int), .int .i64 v]] (by rfl) rfl rfl (by simp only [List.map_toArray, List.map_cons, List.map_nil]; rfl) ?_
          refine (HFV.out _ HB_13_1r.out).mono ?_
          rintro e r13_3r ⟨rfl, hb⟩
          refine ⟨_, rfl, ?_⟩
          have HK_13_3r := Lib.hid (show (r13_3r).heap[w.heap.size]? = some (.cells #[.slice A0 l0.length c0, .slice A1 l1.length c1, .slice A2 l2.length c2] 26 (0, 0)) from blk_below HK_13_1r.out hb)
          have HS_13_3r := Lib.hid (show (r13_3r).heap[w3.heap.size]? = some (.cells #[.int .i64 lo, .int .i64 hi] 32 (0, 0)) from blk_below HS_13_1r.out hb)
          have HR_13_3r := Lib.hid (show (r13_3r).heap[wr.heap.size]? = some (.cells #[.int .i64 lo, .int .i64 hi] 3 (0, 0)) from blk_below HR_13_1r.out hb)
          have HB_13_3r := Lib.hid (HB_13_1r.out.trans (below_weaken hb HB_13_1r.out.size))
          refine hK.out _ _ ⟨(blk_cell HK_13_3r.out 0).trans rfl, (blk_cell HK_13_3r.out 1).trans rfl, (blk_cell HK_13_3r.out 2).trans rfl, (blk_cell HS_13_3r.out 0).trans rfl, (blk_cell HS_13_3r.out 1).trans rfl⟩ (fun hHeld => ?_)
          clear hK K
          refine norm_ (a' := ?_) ?_ ?_
          rotate_left
          · show Act.put _ (some 106) _ = _
            simp only [Act.put, List.setIfInBounds_toArray, List.set_cons_zero, List.set_cons_succ, i64_w, i32_w]
            rfl
          refine pure_ (i := 12) (N := some 94) (v := ?_) (a' := ?_) #[true, true, true, true, true, true, true, true, true, true, true, true, true, false, false, false, false] rfl rfl (by kernel_rfl) (fun _ _ _ h => h) (Or.inl ⟨by rfl, ?_⟩) ?_ ?_
          rotate_left
          · intro w'
            go_simp
            with_reducible rfl
          rotate_left
          · simp only [Act.put, List.setIfInBounds_toArray, List.set_cons_zero, List.set_cons_succ, i64_w, i32_w]
            rfl
          refine pure_ (i := 13) (N := some 107) (v := ?_) (a' := ?_) #[true, true, true, true, true, true, true, true, true, true, true, true, true, true, false, false, false] rfl rfl (by kernel_rfl) (fun _ _ _ h => h) (Or.inl ⟨by rfl, ?_⟩) ?_ ?_
          rotate_left
          · intro w'
            go_simp
            with_reducible rfl
          rotate_left
          · simp only [Act.put, List.setIfInBounds_toArray, List.set_cons_zero, List.set_cons_succ, i64_w, i32_w]
            rfl
          refine pure_ (i := 14) (N := some 108) (v := ?_) (a' := ?_) #[true, true, true, true, true, true, true, true, true, true, true, true, true, true, true, false, false] rfl rfl (by kernel_rfl) (fun _ _ _ h => h) (Or.inl ⟨by rfl, ?_⟩) ?_ ?_
          rotate_left
          · intro w'
            go_simp
            with_reducible rfl
          rotate_left
          · simp only [Act.put, List.setIfInBounds_toArray, List.set_cons_zero, List.set_cons_succ, i64_w, i32_w]
            rfl
          refine pure_ (i := 15) (N := some 12) (v := ?_) (a' := ?_) #[true, true, true, true, true, true, true, true, true, true, true, true, true, true, true, true, false] rfl rfl (by kernel_rfl) (fun _ _ _ h => h) (Or.inl ⟨by rfl, ?_⟩) ?_ ?_
          rotate_left
          · intro w'
            go_simp
            with_reducible rfl
          rotate_left
          · simp only [Act.put, List.setIfInBounds_toArray, List.set_cons_zero, List.set_cons_succ, i64_w, i32_w]
            rfl
          refine pure_ (i := 16) (N := some 13) (v := ?_) (a' := ?_) #[true, true, true, true, true, true, true, true, true, true, true, true, true, true, true, true, true] rfl rfl (by kernel_rfl) (fun _ _ _ h => h) (Or.inl ⟨by rfl, ?_⟩) ?_ ?_
          rotate_left
          · intro w'
            go_simp
            with_reducible rfl
          rotate_left
          · simp only [Act.put, List.setIfInBounds_toArray, List.set_cons_zero, List.set_cons_succ, i64_w, i32_w]
            rfl
          refine done_ (by kernel_rfl) ?_

          have HKz := Lib.hid HK_13_3r.out
          (try clear HK)
          have HK := HKz
          clear HKz
          have HSz := Lib.hid HS_13_3r.out
          (try clear HS)
          have HS := HSz
          clear HSz
          have HRz := Lib.hid HR_13_3r.out
          (try clear HR)
          have HR := HRz
          clear HRz
          have cK_0 := (blk_cell HK.out 0).trans rfl
          have cK_1 := (blk_cell HK.out 1).trans rfl
          have cK_2 := (blk_cell HK.out 2).trans rfl
          have lK := blk_lt HK.out
          have cS_0 := (blk_cell HS.out 0).trans rfl
          have cS_1 := (blk_cell HS.out 1).trans rfl
          have lS := blk_lt HS.out
          have cR_0 := (blk_cell HR.out 0).trans rfl
          have cR_1 := (blk_cell HR.out 1).trans rfl
          have lR := blk_lt HR.out
          go_wp2
          clear cK_0 cK_1 cK_2 lK cS_0 cS_1 lS cR_0 cR_1 lR
          go_roundg g1
          case measure => omega
          case rel => exact ⟨k + 1, by go_num, ⟨by have := HKK.out; omega⟩, ⟨HK.out⟩, ⟨HS.out⟩, ⟨HB_13_3r.out⟩⟩
end Go.Proofs.YthgjedagbgmgmaaDoor.Pr
namespace Go.Proofs.YthgjedagbgmgmaaDoor.Pr
open Go.RowKit Go.Proofs.YthgjedagbgmgmaaDoorW.PrintWords Go.Proofs.YthgjedagbgmgmaaDoorW.PrintLast Go.Proofs.YthgjedagbgmgmaaDoorW.PrintMore
set_option linter.unusedVariables false
set_option linter.unusedSimpArgs false
theorem rollSteps_calls (A0 A1 A2 : Option Addr) (c0 c1 c2 : Nat) (l0 : List S92) (l1 : List S90) (l2 : List S43) (n0 n1 : Int) (w : World) (hG : GOK w) (h : BookAt w A0 A1 A2 c0 c1 c2 l0 l1 l2) :
    Calls Tryd.prog 8 #[.agg #[.slice A0 l0.length c0, .slice A1 l1.length c1, .slice A2 l2.length c2], .agg #[.int .i64 n0, .int .i64 n1]] w fun e w' => e = .returned (.bool true) ∧ Below w.heap.size w w' := by
  have HSOB := fun W (hW : Below w.heap.size w W) => sound_calls A0 A1 A2 c0 c1 c2 l0 l1 l2 W (h.below hW)
  have HRO := fun W (hW : Below w.heap.size w W) => rolled_calls W (hG.below hW)
  cases hok : okBook l0 l1 l2 with
  | false =>
    rw [hok] at HSOB
    exact steps_none A0 A1 A2 c0 c1 c2 l0 l1 l2 n0 n1 w (Lib.hid HSOB) (Lib.hid HRO)
  | true =>
    rw [hok] at HSOB
    obtain ⟨o1, o2, o3, o4, _⟩ := ok_facts hok
    obtain ⟨d, hd, hw0⟩ := wrap_calls n0 l1.length o4 (by omega)
    obtain ⟨m, hm, hw1⟩ := wrap_calls n1 (l0.length + 1) (by omega) (by omega)
    have hw1' : ∀ W, Calls Tryd.prog 47 #[.int .i64 n1, .int .i64 ((l0.length : Int) + 1)] W fun e w' => e = .returned (.int .i64 (m : Int)) ∧ Below W.heap.size W w' := fun W => hw1 W
    have HBO0 := fun (x : Int) W (hW : Below w.heap.size w W) => bound_calls A0 A1 A2 c0 c1 c2 l0 l1 l2 W (hG.below hW) (h.below hW).r0 h.c0 (h.below hW).r1 h.c1 (h.below hW).r2 h.c2 x
    have HFI0 := fun (x : S43) W (hW : Below w.heap.size w W) => fits_calls A0 A1 A2 c0 c1 c2 l0 l1 l2 W (hG.below hW) (h.below hW).r0 h.c0 (h.below hW).r1 h.c1 (h.below hW).r2 h.c2 x
    have hw64 : IntKind.i64.wrap ((l0.length : Int) + 1) = (l0.length : Int) + 1 := IntWalk.i64_in _ (by omega)
    have hmn : Builtin.min2 (.int .i64 ((d : Int) + 1)) (.int .i64 (l0.length : Int)) = (pure (.int .i64 (if (l0.length : Int) < (d : Int) + 1 then (l0.length : Int) else (d : Int) + 1)) : Sem Value) := min2_int _ _ _ _
    by_cases hT : (truthsAll l0 l1 l2 []).length = 0
    · have e1 := boundF_false hok hT hd
      have e2 := fitsF_false hok hT hd (m := (m : Int)) (by omega) (by omega)
      refine steps_walk A0 A1 A2 c0 c1 c2 l0 l1 l2 n0 n1 w d m 0 0 72 72 false (by omega) (by omega) (Lib.hid HSOB) (Lib.hid HRO) (Lib.hid hw0) (Lib.hid hw1') (Lib.hid fun W hW => ?_) (Lib.hid fun W hW => ?_) _ hmn (by omega) hw64 (Lib.hid (.inl ⟨rfl, rfl, rfl, rfl, rfl, Lib.hid (just_calls 0)⟩))
      · have := HBO0 d W hW
        rw [e1] at this
        exact this
      · have := HFI0 ⟨d, m⟩ W hW
        rw [e2] at this
        exact this
    · have hT' : 0 < (truthsAll l0 l1 l2 []).length := by omega
      obtain ⟨lo, hi, hb⟩ : ∃ lo hi, bspan (truthsAll l0 l1 l2 []) d = (lo, hi) := ⟨_, _, rfl⟩
      have e1 := boundF_eq hok hT' hd
      have he := bspan_ends hok hT' hd
      have hdy := bspan_le_day hok hT' hd
      have ht := bspan_told hok hT' hd
      rw [hb] at e1 he hdy ht
      simp only at he hdy ht
      obtain ⟨q, e2, hq⟩ := fitsF_eq hok hT' hd (m := (m : Int)) (by omega) (by omega)
      obtain ⟨ql, e3, hql⟩ := fitsF_eq hok hT' hd (m := lo) (by omega) (by omega)
      obtain ⟨qh, e4, hqh⟩ := fitsF_eq hok hT' hd (m := hi) (by omega) (by omega)
      rw [hql.2 ht.elo] at e3
      rw [hqh.2 ht.ehi] at e4
      have hmnv : (if (l0.length : Int) < (d : Int) + 1 then (l0.length : Int) else (d : Int) + 1) ≤ 1000 ∧ hi ≤ (if (l0.length : Int) < (d : Int) + 1 then (l0.length : Int) else (d : Int) + 1) := by
        split <;> omega
      refine steps_walk A0 A1 A2 c0 c1 c2 l0 l1 l2 n0 n1 w d m lo hi 0 0 q (by omega) (by omega) (Lib.hid HSOB) (Lib.hid HRO) (Lib.hid hw0) (Lib.hid hw1') (Lib.hid fun W hW => ?_) (Lib.hid fun W hW => ?_) _ hmn (by omega) hw64
        (Lib.hid (.inr ⟨rfl, rfl, Lib.hid (sane_true (a := 0) (c := 4) (by omega) (by omega) hmnv.2 (by omega) hmnv.1 (by omega)), fun hqt => Lib.hid (holds_true ?_ ?_), Lib.hid fun W hW => ?_, Lib.hid fun W hW => ?_, Lib.hid ?_⟩))
      · have := HBO0 d W hW
        rw [e1] at this
        exact this
      · have := HFI0 ⟨d, m⟩ W hW
        rw [e2] at this
        exact this
      · obtain ⟨c, hc, e⟩ := hq.1 hqt
        have := (ht.all c hc).1
        omega
      · obtain ⟨c, hc, e⟩ := hq.1 hqt
        have := (ht.all c hc).2
        omega
      · have := HFI0 ⟨d, lo⟩ W hW
        rw [e3] at this
        exact this
      · have := HFI0 ⟨d, hi⟩ W hW
        rw [e4] at this
        exact this
      · rcases Nat.eq_zero_or_pos d with h0 | hpos
        · exact .inl ⟨h0, by rw [h0] at hdy; simpa using hdy⟩
        · obtain ⟨e0, rfl⟩ : ∃ e, d = e + 1 := ⟨d - 1, by omega⟩
          have hd0 : e0 < l1.length := by omega
          have m1 := bspan_mono hok hT' (show e0 ≤ e0 + 1 by omega) hd
          have m2 := bspan_step hok hT' hd
          have m3 := bspan_ends hok hT' hd0
          rw [hb] at m1 m2
          simp only at m1 m2
          have e5 := boundF_eq hok hT' hd0
          refine .inr ⟨e0, (bspan (truthsAll l0 l1 l2 []) e0).1, (bspan (truthsAll l0 l1 l2 []) e0).2, rfl, Lib.hid fun W hW => ?_, by omega, m1.1, m1.2, m2.1, m2.2, m3.1, by omega, by omega, by omega⟩
          have := HBO0 e0 W hW
          rw [e5] at this
          exact this
end Go.Proofs.YthgjedagbgmgmaaDoor.Pr
