/- Part 8 of the proof that RollTrue answers true: contracts and laws, merged by a program. -/
import Derived.Test.YthgjedagbgmgmaaDoorRollTrueA7
namespace Go.Proofs.YthgjedagbgmgmaaDoor.Pr
open Go.RowKit Go.Proofs.YthgjedagbgmgmaaDoorW.PrintWords Go.Proofs.YthgjedagbgmgmaaDoorW.PrintLast Go.Proofs.YthgjedagbgmgmaaDoorW.PrintMore
set_option linter.unusedVariables false
set_option linter.unusedSimpArgs false
set_option maxHeartbeats 8000000 in
set_option maxRecDepth 100000 in
theorem true_none (A0 A1 A2 Ab : Option Addr) (c0 c1 c2 cb : Nat) (l0 : List S92) (l1 : List S90) (l2 : List S43) (bl : List Int) (n : Int) (w : World) (HSO : Hid (∀ W, Below w.heap.size w W → Calls Tryd.prog 56 #[.agg #[.slice A0 l0.length c0, .slice A1 l1.length c1, .slice A2 l2.length c2]] W fun e w' => e = .returned (.bool false) ∧ Below W.heap.size W w')) (HRO : Hid (∀ W, Below w.heap.size w W → Calls Tryd.prog 27 #[] W fun e w' => e = .returned (.bool true) ∧ Below W.heap.size W w')) :
    Calls Tryd.prog 7 #[.agg #[.slice A0 l0.length c0, .slice A1 l1.length c1, .slice A2 l2.length c2], .slice Ab bl.length cb, .int .i64 n] w fun e w' => e = .returned (.bool true) ∧ Below w.heap.size w w' := by
  go_enter Tryd.func7, Tryd.ntmps7
  have HB := Lib.hid (Below.refl w.heap.size w)
  go_wp2_with fail
  obtain ⟨W1, hnw⟩ : ∃ W, W = (w.alloc (.cells #[.slice A0 l0.length c0, .slice A1 l1.length c1, .slice A2 l2.length c2] 26)) := ⟨_, rfl⟩
  rw [← hnw]
  have hg : w.grownBy W1 (none) := by rw [hnw]; exact (g_all (g_refl w (none)) (.cells #[.slice A0 l0.length c0, .slice A1 l1.length c1, .slice A2 l2.length c2] 26))
  have HK := Lib.hid (show W1.heap[w.heap.size]? = some (.cells #[.slice A0 l0.length c0, .slice A1 l1.length c1, .slice A2 l2.length c2] 26 (0, 0)) by rw [hnw]; exact blk_at w (.cells #[.slice A0 l0.length c0, .slice A1 l1.length c1, .slice A2 l2.length c2] 26) _ (by simp))
  replace HB := Lib.hid (HB.out.grown hg HB.out.size (fun k e => by cases e))
  clear hg hnw
  refine (HSO.out _ HB.out).mono ?_
  rintro e W2 ⟨rfl, hb⟩
  have hg := g_below hb
  replace HK := Lib.hid (blk_grown HK.out hg (by simp))
  replace HB := Lib.hid (HB.out.trans (below_weaken hb HB.out.size))
  clear hb hg
  have cK_0 := (blk_cell HK.out 0).trans rfl
  have cK_1 := (blk_cell HK.out 1).trans rfl
  have cK_2 := (blk_cell HK.out 2).trans rfl
  have lK := blk_lt HK.out
  go_wp2_with fail
  clear cK_0 cK_1 cK_2 lK
  refine (HRO.out _ HB.out).mono ?_
  rintro e W3 ⟨rfl, hb⟩
  have hg := g_below hb
  replace HK := Lib.hid (blk_grown HK.out hg (by simp))
  replace HB := Lib.hid (HB.out.trans (below_weaken hb HB.out.size))
  clear hb hg
  have cK_0 := (blk_cell HK.out 0).trans rfl
  have cK_1 := (blk_cell HK.out 1).trans rfl
  have cK_2 := (blk_cell HK.out 2).trans rfl
  have lK := blk_lt HK.out
  clear cK_0 cK_1 cK_2 lK
  go_wp2
  go_ret
  exact ⟨ret_true (by first | rfl | (simp; done) | (simp; omega)), HB.out⟩
set_option maxHeartbeats 8000000 in
set_option maxRecDepth 100000 in
theorem true_walk (A0 A1 A2 Ab : Option Addr) (c0 c1 c2 cb : Nat) (l0 : List S92) (l1 : List S90) (l2 : List S43) (bl : List Int) (n : Int) (dd last : Nat) (w : World) (hl5 : (last : Int) ≤ 4) (hlast : IntKind.i64.wrap ((l1.length : Int) - 1) = (last : Int)) (hl1 : (l1.length : Int) ≤ 5) (HW0 : Hid (∀ W, Calls Tryd.prog 47 #[.int .i64 n, .int .i64 (l1.length : Int)] W fun e w' => e = .returned (.int .i64 (dd : Int)) ∧ Below W.heap.size W w')) (HSO : Hid (∀ W, Below w.heap.size w W → Calls Tryd.prog 56 #[.agg #[.slice A0 l0.length c0, .slice A1 l1.length c1, .slice A2 l2.length c2]] W fun e w' => e = .returned (.bool true) ∧ Below W.heap.size W w')) (HRO : Hid (∀ W, Below w.heap.size w W → Calls Tryd.prog 27 #[] W fun e w' => e = .returned (.bool true) ∧ Below W.heap.size W w')) (HTR : Hid (∀ W, Below w.heap.size w W → Calls Tryd.prog 57 #[.agg #[.slice A0 l0.length c0, .slice A1 l1.length c1, .slice A2 l2.length c2], .slice Ab bl.length cb] W fun e w' => ∃ (nd : Nat) (wl sl kb : List Int) (la lo : Int) (Aw : Option Addr) (cw : Nat) (As : Option Addr) (cs : Nat) (Ak : Option Addr) (ck : Nat), e = .returned (.agg #[.slice Aw nd cw, .slice As nd cs, .slice Ak kb.length ck, .int .i64 la, .int .i64 lo]) ∧ Kd.R (Kd.int .i64) 3 w' w.heap.size (fun _ => True) (.slice Aw nd cw) wl ∧ Kd.R (Kd.int .i64) 3 w' w.heap.size (fun _ => True) (.slice As nd cs) sl ∧ Kd.R (Kd.int .i64) 3 w' w.heap.size (fun _ => True) (.slice Ak kb.length ck) kb ∧ Hid (∃ (lk : List S43) (s1 s2 u1 u2 sky kd wd sd p1 p2 q1 q2 x1 x2 z1 z2 : Int), Hid (∀ W, Below w.heap.size w W → Kd.C (Kd.int .i64) W Ak kb.length kb → Calls Tryd.prog 58 #[.agg #[.slice A0 l0.length c0, .slice A1 l1.length c1, .slice A2 l2.length c2], .agg #[.slice Aw nd cw, .slice As nd cs, .slice Ak kb.length ck, .int .i64 la, .int .i64 lo]] W fun e w' => ∃ A c, e = .returned (.agg #[.slice A0 l0.length c0, .slice A1 l1.length c1, .slice A lk.length c]) ∧ Kd.R k43 43 w' w.heap.size (fun _ => True) (.slice A lk.length c) lk ∧ Below W.heap.size W w') ∧ Hid (∀ W Ac cc, Below w.heap.size w W → Kd.C k43 W Ac lk.length lk → lk.length ≤ cc → Calls Tryd.prog 17 #[.agg #[.slice A0 l0.length c0, .slice A1 l1.length c1, .slice Ac lk.length cc]] W fun e w' => e = .returned (.tuple #[.bool true, .int .i64 0]) ∧ Below W.heap.size W w') ∧ Hid (∀ W Ac cc, Below w.heap.size w W → Kd.C k43 W Ac lk.length lk → lk.length ≤ cc → Calls Tryd.prog 40 #[.agg #[.slice A0 l0.length c0, .slice A1 l1.length c1, .slice Ac lk.length cc]] W fun e w' => ∃ A c, e = .returned (.tuple #[.slice A 0 c, .int .i64 0]) ∧ Below W.heap.size W w') ∧ Hid (∀ W Ac cc, Below w.heap.size w W → Kd.C k43 W Ac lk.length lk → lk.length ≤ cc → Calls Tryd.prog 21 #[.agg #[.slice A0 l0.length c0, .slice A1 l1.length c1, .slice Ac lk.length cc], .int .i64 (dd : Int)] W fun e w' => e = .returned (.tuple #[.agg #[.int .i64 s1, .int .i64 s2], .int .i64 0]) ∧ Below W.heap.size W w') ∧ Hid (∀ W Ac cc, Below w.heap.size w W → Kd.C k43 W Ac lk.length lk → lk.length ≤ cc → Calls Tryd.prog 23 #[.agg #[.slice A0 l0.length c0, .slice A1 l1.length c1, .slice Ac lk.length cc], .int .i64 (dd : Int)] W fun e w' => e = .returned (.tuple #[.agg #[.int .i64 u1, .int .i64 u2], .int .i64 0]) ∧ Below W.heap.size W w') ∧ Hid (∀ W Ac cc, Below w.heap.size w W → Kd.C k43 W Ac lk.length lk → lk.length ≤ cc → Calls Tryd.prog 25 #[.agg #[.slice A0 l0.length c0, .slice A1 l1.length c1, .slice Ac lk.length cc], .int .i64 (dd : Int)] W fun e w' => e = .returned (.tuple #[.int .i64 sky, .int .i64 0]) ∧ Below W.heap.size W w') ∧ Hid (∀ W Ac cc, Below w.heap.size w W → Kd.C k43 W Ac lk.length lk → lk.length ≤ cc → Calls Tryd.prog 28 #[.agg #[.slice A0 l0.length c0, .slice A1 l1.length c1, .slice Ac lk.length cc]] W fun e w' => e = .returned (.tuple #[.agg #[.int .i64 p1, .int .i64 p2], .int .i64 0]) ∧ Below W.heap.size W w') ∧ Hid (∀ W Ac cc, Below w.heap.size w W → Kd.C k43 W Ac lk.length lk → lk.length ≤ cc → Calls Tryd.prog 30 #[.agg #[.slice A0 l0.length c0, .slice A1 l1.length c1, .slice Ac lk.length cc]] W fun e w' => e = .returned (.tuple #[.agg #[.int .i64 q1, .int .i64 q2], .int .i64 0]) ∧ Below W.heap.size W w') ∧ Hid (∀ W Ac cc, Below w.heap.size w W → Kd.C k43 W Ac lk.length lk → lk.length ≤ cc → Calls Tryd.prog 32 #[.agg #[.slice A0 l0.length c0, .slice A1 l1.length c1, .slice Ac lk.length cc]] W fun e w' => e = .returned (.tuple #[.int .i64 x1, .int .i64 x2]) ∧ Below W.heap.size W w') ∧ Hid (∀ W Ac cc, Below w.heap.size w W → Kd.C k43 W Ac lk.length lk → lk.length ≤ cc → Calls Tryd.prog 34 #[.agg #[.slice A0 l0.length c0, .slice A1 l1.length c1, .slice Ac lk.length cc]] W fun e w' => e = .returned (.tuple #[.int .i64 z1, .int .i64 z2]) ∧ Below W.heap.size W w') ∧ Hid (kb[dd]? = some kd) ∧ Hid (wl[dd]? = some wd) ∧ Hid (sl[dd]? = some sd) ∧ Hid (∀ W, Calls Tryd.prog 59 #[.agg #[.int .i64 s1, .int .i64 s2], .int .i64 kd] W fun e w' => e = .returned (.bool true) ∧ Below W.heap.size W w') ∧ Hid (∀ W, Calls Tryd.prog 59 #[.agg #[.int .i64 u1, .int .i64 u2], .int .i64 wd] W fun e w' => e = .returned (.bool true) ∧ Below W.heap.size W w') ∧ Hid (∀ W, Calls Tryd.prog 59 #[.agg #[.int .i64 p1, .int .i64 p2], .int .i64 lo] W fun e w' => e = .returned (.bool true) ∧ Below W.heap.size W w') ∧ Hid (∀ W, Calls Tryd.prog 59 #[.agg #[.int .i64 q1, .int .i64 q2], .int .i64 la] W fun e w' => e = .returned (.bool true) ∧ Below W.heap.size W w') ∧ Hid (∀ W, Calls Tryd.prog 60 #[.int .i64 sky, .int .i64 1, .int .i64 7] W fun e w' => e = .returned (.bool true) ∧ Below W.heap.size W w') ∧ Hid (∀ W, Calls Tryd.prog 61 #[.int .i64 sky, .int .i64 sd] W fun e w' => e = .returned (.bool true) ∧ Below W.heap.size W w') ∧ Hid ((x2 = 4 ∨ (x2 = 0 ∧ ∃ sn : Nat, x1 = (sn : Int) ∧ Hid (∀ W, Calls Tryd.prog 60 #[.int .i64 (sn : Int), .int .i64 0, .int .i64 (last : Int)] W fun e w' => e = .returned (.bool true) ∧ Below W.heap.size W w') ∧ Hid (kb[sn]? = some (l0.length : Int)))) ∧ (((z2 != 0) = true ∧ (z2 != 4) = false) ∨ (z2 != 0) = false)) ∧ Hid (∀ j : Nat, j < l1.length → ∃ v : Int, kb[j]? = some v ∧ (v ≠ (l0.length : Int) ∨ (v = (l0.length : Int) ∧ z2 = 0 ∧ z1 ≤ (j : Int))))) ∧ Below W.heap.size W w')) :
    Calls Tryd.prog 7 #[.agg #[.slice A0 l0.length c0, .slice A1 l1.length c1, .slice A2 l2.length c2], .slice Ab bl.length cb, .int .i64 n] w fun e w' => e = .returned (.bool true) ∧ Below w.heap.size w w' := by
  go_enter Tryd.func7, Tryd.ntmps7
  have HB := Lib.hid (Below.refl w.heap.size w)
  go_wp2_with fail
  obtain ⟨W1, hnw⟩ : ∃ W, W = (w.alloc (.cells #[.slice A0 l0.length c0, .slice A1 l1.length c1, .slice A2 l2.length c2] 26)) := ⟨_, rfl⟩
  rw [← hnw]
  have hg : w.grownBy W1 (none) := by rw [hnw]; exact (g_all (g_refl w (none)) (.cells #[.slice A0 l0.length c0, .slice A1 l1.length c1, .slice A2 l2.length c2] 26))
  have HK := Lib.hid (show W1.heap[w.heap.size]? = some (.cells #[.slice A0 l0.length c0, .slice A1 l1.length c1, .slice A2 l2.length c2] 26 (0, 0)) by rw [hnw]; exact blk_at w (.cells #[.slice A0 l0.length c0, .slice A1 l1.length c1, .slice A2 l2.length c2] 26) _ (by simp))
  replace HB := Lib.hid (HB.out.grown hg HB.out.size (fun k e => by cases e))
  clear hg hnw
  refine (HSO.out _ HB.out).mono ?_
  rintro e W2 ⟨rfl, hb⟩
  have hg := g_below hb
  replace HK := Lib.hid (blk_grown HK.out hg (by simp))
  replace HB := Lib.hid (HB.out.trans (below_weaken hb HB.out.size))
  clear hb hg
  have cK_0 := (blk_cell HK.out 0).trans rfl
  have cK_1 := (blk_cell HK.out 1).trans rfl
  have cK_2 := (blk_cell HK.out 2).trans rfl
  have lK := blk_lt HK.out
  go_wp2_with fail
  clear cK_0 cK_1 cK_2 lK
  refine (HTR.out _ HB.out).mono ?_
  rintro e W3 ⟨nd, wl, sl, kb, la, lo, Aw, cw, As, cs, Ak, ck, rfl, h1_, h2_, h3_, hrest, hb⟩
  have Rw := Lib.hid h1_
  have Rs := Lib.hid h2_
  have Rk := Lib.hid h3_
  have HREST := Lib.hid hrest.out
  clear h1_ h2_ h3_ hrest
  have hg := g_below hb
  replace HK := Lib.hid (blk_grown HK.out hg (by simp))
  replace HB := Lib.hid (HB.out.trans (below_weaken hb HB.out.size))
  clear hb hg
  have cK_0 := (blk_cell HK.out 0).trans rfl
  have cK_1 := (blk_cell HK.out 1).trans rfl
  have cK_2 := (blk_cell HK.out 2).trans rfl
  have lK := blk_lt HK.out
  obtain ⟨lk, s1, s2, u1, u2, sky, kd, wd, sd, p1, p2, q1, q2, x1, x2, z1, z2, HRG, HRI, HWR, HBO, HWA, HSK, HLO, HLA, HDO, HPE, HKD, HWD, HSD, HH1, HH2, HH3, HH4, HAM, HIN, HDX, HLP⟩ := HREST.out
  clear HREST
  go_upto_region 4 with fail
  clear cK_0 cK_1 cK_2 lK
  have LqK_3 := blk_lt HK.out
  obtain ⟨W4, hnw⟩ : ∃ W, W = (W3.alloc (.cells #[.slice Aw nd cw, .slice As nd cs, .slice Ak kb.length ck, .int .i64 la, .int .i64 lo] 77)) := ⟨_, rfl⟩
  rw [← hnw]
  have hg : W3.grownBy W4 (none) := by rw [hnw]; exact (g_all (g_refl W3 (none)) (.cells #[.slice Aw nd cw, .slice As nd cs, .slice Ak kb.length ck, .int .i64 la, .int .i64 lo] 77))
  have HT := Lib.hid (show W4.heap[W3.heap.size]? = some (.cells #[.slice Aw nd cw, .slice As nd cs, .slice Ak kb.length ck, .int .i64 la, .int .i64 lo] 77 (0, 0)) by rw [hnw]; exact blk_at W3 (.cells #[.slice Aw nd cw, .slice As nd cs, .slice Ak kb.length ck, .int .i64 la, .int .i64 lo] 77) _ (by simp))
  replace Rw := Lib.hid (R_typed_grown Rw.out hg (fun g e => by cases e))
  replace Rs := Lib.hid (R_typed_grown Rs.out hg (fun g e => by cases e))
  replace Rk := Lib.hid (R_typed_grown Rk.out hg (fun g e => by cases e))
  replace HK := Lib.hid (blk_grown HK.out hg (by simp))
  replace HB := Lib.hid (HB.out.grown hg HB.out.size (fun k e => by cases e))
  clear hg hnw
  have LrK_4 := blk_lt HK.out
  have LrT_4 := blk_lt HT.out
  have HQ := Lib.hid (Nat.le_refl W4.heap.size)
  have hb : Below W4.heap.size W4 W4.drew := (Below.refl _ _).drew
  have hg := g_below hb
  replace HQ := Lib.hid (Nat.le_trans HQ.out hg.size)
  replace Rw := Lib.hid (R_typed_grown Rw.out hg (fun g e => by cases e))
  replace Rs := Lib.hid (R_typed_grown Rs.out hg (fun g e => by cases e))
  replace Rk := Lib.hid (R_typed_grown Rk.out hg (fun g e => by cases e))
  replace HK := Lib.hid (blk_grown HK.out hg (by simp))
  replace HT := Lib.hid (blk_grown HT.out hg (by simp))
  replace HB := Lib.hid (HB.out.trans (below_weaken hb HB.out.size))
  clear hb hg
  refine start_ (n := 11) (S := fun w' => w'.cell? ⟨w.heap.size, 0, none⟩ = some (.slice A0 l0.length c0) ∧ w'.cell? ⟨w.heap.size, 1, none⟩ = some (.slice A1 l1.length c1) ∧ w'.cell? ⟨w.heap.size, 2, none⟩ = some (.slice A2 l2.length c2) ∧ w'.cell? ⟨W3.heap.size, 0, none⟩ = some (.slice Aw nd cw) ∧ w'.cell? ⟨W3.heap.size, 1, none⟩ = some (.slice As nd cs) ∧ w'.cell? ⟨W3.heap.size, 2, none⟩ = some (.slice Ak kb.length ck) ∧ w'.cell? ⟨W3.heap.size, 3, none⟩ = some (.int .i64 la) ∧ w'.cell? ⟨W3.heap.size, 4, none⟩ = some (.int .i64 lo)) (ds := [9]) #[false, false, false, false, false, false, false, false, false, false, false] (by kernel_rfl) rfl rfl ⟨(blk_cell HK.out 0).trans rfl, (blk_cell HK.out 1).trans rfl, (blk_cell HK.out 2).trans rfl, (blk_cell HT.out 0).trans rfl, (blk_cell HT.out 1).trans rfl, (blk_cell HT.out 2).trans rfl, (blk_cell HT.out 3).trans rfl, (blk_cell HT.out 4).trans rfl⟩ (fun hHeld => ?_)
  refine pu_ 3 (some 35) ?_
  refine pu_ 4 (some 36) ?_
  refine ta_ 0 (some 32) (s := hHeld) (y := by rintro w' ⟨s0, s1, s2, s3, s4, s5, s6, s7⟩; go_simp; with_reducible rfl) (h := ?_)
  refine ta_ 1 (some 33) (s := hHeld) (y := by rintro w' ⟨s0, s1, s2, s3, s4, s5, s6, s7⟩; go_simp; with_reducible rfl) (h := ?_)
  refine ta_ 5 (some 37) (s := hHeld) (y := by rintro w' ⟨s0, s1, s2, s3, s4, s5, s6, s7⟩; go_simp; with_reducible rfl) (h := ?_)
  refine pu_ 6 (some 38) ?_
  refine join_ (σ := Option Addr × Nat × Nat) 2 #[true, true, true, true, true, true, true, true, true, false, false] (fun zz => [(34, .agg #[.slice A0 l0.length c0, .slice A1 l1.length c1, .slice zz.1 lk.length zz.2.1]), (39, .int .i64 (dd : Int)), (8, .pointer (some ⟨zz.2.2, 0, none⟩))]) (fun zz w' => w'.heap[w.heap.size]? = some (.cells #[.slice A0 l0.length c0, .slice A1 l1.length c1, .slice A2 l2.length c2] 26 (0, 0)) ∧ w'.heap[W3.heap.size]? = some (.cells #[.slice Aw nd cw, .slice As nd cs, .slice Ak kb.length ck, .int .i64 la, .int .i64 lo] 77 (0, 0)) ∧ Below w.heap.size w w' ∧ Kd.R (Kd.int .i64) 3 w' (w.heap.size) (fun _ => True) (.slice Aw nd cw) (wl) ∧ Kd.R (Kd.int .i64) 3 w' (w.heap.size) (fun _ => True) (.slice As nd cs) (sl) ∧ Kd.R (Kd.int .i64) 3 w' (w.heap.size) (fun _ => True) (.slice Ak kb.length ck) (kb) ∧ w'.cell? ⟨w.heap.size, 0, none⟩ = some (.slice A0 l0.length c0) ∧ w'.cell? ⟨w.heap.size, 1, none⟩ = some (.slice A1 l1.length c1) ∧ w'.cell? ⟨w.heap.size, 2, none⟩ = some (.slice A2 l2.length c2) ∧ w'.cell? ⟨W3.heap.size, 0, none⟩ = some (.slice Aw nd cw) ∧ w'.cell? ⟨W3.heap.size, 1, none⟩ = some (.slice As nd cs) ∧ w'.cell? ⟨W3.heap.size, 2, none⟩ = some (.slice Ak kb.length ck) ∧ w'.cell? ⟨W3.heap.size, 3, none⟩ = some (.int .i64 la) ∧ w'.cell? ⟨W3.heap.size, 4, none⟩ = some (.int .i64 lo) ∧ Kd.R k43 43 w' (w.heap.size) (fun _ => True) (.slice zz.1 lk.length zz.2.1) (lk) ∧ w'.heap[zz.2.2]? = some (.cells #[.slice none 0 0, .slice none 0 0, .slice none 0 0] 26 (0, 0)) ∧ W4.heap.size ≤ zz.2.2) ?_ ?_
  rotate_left
  · intro hCont
    refine two_ (i := 2) (j := 8) (Ni := some 34) (Nj := some 8) #[true, true, true, true, true, true, true, false, false, false, false] #[true, true, false, true, true, true, true, false, true, false, false] rfl rfl rfl rfl (by kernel_rfl) (by decide) (by decide) (fun K hK => ?_) (fun K hK => ?_)
    · skip
      refine goes_ Tryd.func58 (by kernel_rfl) rfl #[.agg #[.slice A0 l0.length c0, .slice A1 l1.length c1, .slice A2 l2.length c2], .agg #[.slice Aw nd cw, .slice As nd cs, .slice Ak kb.length ck, .int .i64 la, .int .i64 lo]] (by rfl) rfl rfl (by simp only [List.map_toArray, List.map_cons, List.map_nil]; rfl) ?_
      refine (HRG.out _ HB.out (Kd.R_reads' Rk.out).2.2).mono ?_
      rintro e W5 ⟨Ax, cx, rfl, h9_, hb⟩
      refine ⟨_, rfl, ?_⟩
      have Rl := Lib.hid h9_
      clear h9_
      have hg := g_below hb
      replace HQ := Lib.hid (Nat.le_trans HQ.out hg.size)
      replace Rw := Lib.hid (R_typed_grown Rw.out hg (fun g e => by cases e))
      replace Rs := Lib.hid (R_typed_grown Rs.out hg (fun g e => by cases e))
      replace Rk := Lib.hid (R_typed_grown Rk.out hg (fun g e => by cases e))
      replace HK := Lib.hid (blk_grown HK.out hg (by simp))
      replace HT := Lib.hid (blk_grown HT.out hg (by simp))
      replace HB := Lib.hid (HB.out.trans (below_weaken hb HB.out.size))
      clear hb hg
      refine hK.out _ _ ⟨(blk_cell HK.out 0).trans rfl, (blk_cell HK.out 1).trans rfl, (blk_cell HK.out 2).trans rfl, (blk_cell HT.out 0).trans rfl, (blk_cell HT.out 1).trans rfl, (blk_cell HT.out 2).trans rfl, (blk_cell HT.out 3).trans rfl, (blk_cell HT.out 4).trans rfl⟩ (fun hHeld => ?_)
      clear hK K
      refine no_ 34 ?_
      refine two_ (i := 7) (j := 8) (Ni := some 39) (Nj := some 8) #[true, true, true, true, true, true, true, true, false, false, false] #[true, true, true, true, true, true, true, false, true, false, false] rfl rfl rfl rfl (by kernel_rfl) (by decide) (by decide) (fun K hK => ?_) (fun K hK => ?_)
      · skip
        refine goes_ Tryd.func47 (by kernel_rfl) rfl #[.int .i64 n, .int .i64 (l1.length : Int)] (by rfl) rfl rfl (by simp only [List.map_toArray, List.map_cons, List.map_nil]; rfl) ?_
        refine (HW0.out _).mono ?_
        rintro e W6 ⟨rfl, hb⟩
        refine ⟨_, rfl, ?_⟩
        have hg := g_below hb
        replace HQ := Lib.hid (Nat.le_trans HQ.out hg.size)
        replace Rw := Lib.hid (R_typed_grown Rw.out hg (fun g e => by cases e))
        replace Rs := Lib.hid (R_typed_grown Rs.out hg (fun g e => by cases e))
        replace Rk := Lib.hid (R_typed_grown Rk.out hg (fun g e => by cases e))
        replace Rl := Lib.hid (R_typed_grown Rl.out hg (fun g e => by cases e))
        replace HK := Lib.hid (blk_grown HK.out hg (by simp))
        replace HT := Lib.hid (blk_grown HT.out hg (by simp))
        replace HB := Lib.hid (HB.out.trans (below_weaken hb HB.out.size))
        clear hb hg
        refine hK.out _ _ ⟨(blk_cell HK.out 0).trans rfl, (blk_cell HK.out 1).trans rfl, (blk_cell HK.out 2).trans rfl, (blk_cell HT.out 0).trans rfl, (blk_cell HT.out 1).trans rfl, (blk_cell HT.out 2).trans rfl, (blk_cell HT.out 3).trans rfl, (blk_cell HT.out 4).trans rfl⟩ (fun hHeld => ?_)
        clear hK K
        refine no_ 39 ?_
        refine one_ (i := 8) (N := some 8) #[true, true, true, true, true, true, true, true, true, false, false] rfl rfl (by kernel_rfl) (by decide) (fun K hK => ?_)
        refine value_ (w1 := ?_) (v := ?_) (by rfl) rfl ?_ ?_
        rotate_left 2
        · go_simp
          constructor
          · rfl
          · rfl
        obtain ⟨W7, hnw⟩ : ∃ W, W = (W6).alloc (.cells #[.slice none 0 0, .slice none 0 0, .slice none 0 0] 26) := ⟨_, rfl⟩
        rw [show (W6).alloc (.cells #[.slice none 0 0, .slice none 0 0, .slice none 0 0] 26) = W7 from hnw.symm]
        have hg : (W6).grownBy W7 none := by rw [hnw]; exact g_all (g_refl _ _) _
        have HX := Lib.hid (show W7.heap[W6.heap.size]? = some (.cells #[.slice none 0 0, .slice none 0 0, .slice none 0 0] 26 (0, 0)) by rw [hnw]; exact blk_new _ _)
        have SX : W4.heap.size ≤ W6.heap.size := HQ.out
        replace HQ := Lib.hid (Nat.le_trans HQ.out hg.size)
        replace Rw := Lib.hid (R_typed_grown Rw.out hg (fun g e => by cases e))
        replace Rs := Lib.hid (R_typed_grown Rs.out hg (fun g e => by cases e))
        replace Rk := Lib.hid (R_typed_grown Rk.out hg (fun g e => by cases e))
        replace Rl := Lib.hid (R_typed_grown Rl.out hg (fun g e => by cases e))
        replace HK := Lib.hid (blk_grown HK.out hg (by simp))
        replace HT := Lib.hid (blk_grown HT.out hg (by simp))
        replace HB := Lib.hid (HB.out.grown hg HB.out.size (fun k e => by cases e))
        clear hg hnw
        refine hK.out _ _ ⟨(blk_cell HK.out 0).trans rfl, (blk_cell HK.out 1).trans rfl, (blk_cell HK.out 2).trans rfl, (blk_cell HT.out 0).trans rfl, (blk_cell HT.out 1).trans rfl, (blk_cell HT.out 2).trans rfl, (blk_cell HT.out 3).trans rfl, (blk_cell HT.out 4).trans rfl⟩ (fun hHeld => ?_)
        clear hK K
        refine no_ 8 ?_
        exact norm_ (by first | (simp only [putAll, Act.put, List.setIfInBounds_toArray, List.set_cons_zero, List.set_cons_succ]; done) | (simp only [putAll, Act.put, List.setIfInBounds_toArray, List.set_cons_zero, List.set_cons_succ]; rfl)) (hCont (Ax, cx, W6.heap.size) _ ⟨HK.out, HT.out, HB.out, Rw.out, Rs.out, Rk.out, (blk_cell HK.out 0).trans rfl, (blk_cell HK.out 1).trans rfl, (blk_cell HK.out 2).trans rfl, (blk_cell HT.out 0).trans rfl, (blk_cell HT.out 1).trans rfl, (blk_cell HT.out 2).trans rfl, (blk_cell HT.out 3).trans rfl, (blk_cell HT.out 4).trans rfl, Rl.out, HX.out, SX⟩)
      · skip
        refine value_ (w1 := ?_) (v := ?_) (by rfl) rfl ?_ ?_
        rotate_left 2
        · go_simp
          constructor
          · rfl
          · rfl
        obtain ⟨W6, hnw⟩ : ∃ W, W = (W5).alloc (.cells #[.slice none 0 0, .slice none 0 0, .slice none 0 0] 26) := ⟨_, rfl⟩
        rw [show (W5).alloc (.cells #[.slice none 0 0, .slice none 0 0, .slice none 0 0] 26) = W6 from hnw.symm]
        have hg : (W5).grownBy W6 none := by rw [hnw]; exact g_all (g_refl _ _) _
        have HX := Lib.hid (show W6.heap[W5.heap.size]? = some (.cells #[.slice none 0 0, .slice none 0 0, .slice none 0 0] 26 (0, 0)) by rw [hnw]; exact blk_new _ _)
        have SX : W4.heap.size ≤ W5.heap.size := HQ.out
        replace HQ := Lib.hid (Nat.le_trans HQ.out hg.size)
        replace Rw := Lib.hid (R_typed_grown Rw.out hg (fun g e => by cases e))
        replace Rs := Lib.hid (R_typed_grown Rs.out hg (fun g e => by cases e))
        replace Rk := Lib.hid (R_typed_grown Rk.out hg (fun g e => by cases e))
        replace Rl := Lib.hid (R_typed_grown Rl.out hg (fun g e => by cases e))
        replace HK := Lib.hid (blk_grown HK.out hg (by simp))
        replace HT := Lib.hid (blk_grown HT.out hg (by simp))
        replace HB := Lib.hid (HB.out.grown hg HB.out.size (fun k e => by cases e))
        clear hg hnw
        refine hK.out _ _ ⟨(blk_cell HK.out 0).trans rfl, (blk_cell HK.out 1).trans rfl, (blk_cell HK.out 2).trans rfl, (blk_cell HT.out 0).trans rfl, (blk_cell HT.out 1).trans rfl, (blk_cell HT.out 2).trans rfl, (blk_cell HT.out 3).trans rfl, (blk_cell HT.out 4).trans rfl⟩ (fun hHeld => ?_)
        clear hK K
        refine no_ 8 ?_
        refine one_ (i := 7) (N := some 39) #[true, true, true, true, true, true, true, true, true, false, false] rfl rfl (by kernel_rfl) (by decide) (fun K hK => ?_)
        refine goes_ Tryd.func47 (by kernel_rfl) rfl #[.int .i64 n, .int .i64 (l1.length : Int)] (by rfl) rfl rfl (by simp only [List.map_toArray, List.map_cons, List.map_nil]; rfl) ?_
        refine (HW0.out _).mono ?_
        rintro e W7 ⟨rfl, hb⟩
        refine ⟨_, rfl, ?_⟩
        have hg := g_below hb
        replace HQ := Lib.hid (Nat.le_trans HQ.out hg.size)
        replace Rw := Lib.hid (R_typed_grown Rw.out hg (fun g e => by cases e))
        replace Rs := Lib.hid (R_typed_grown Rs.out hg (fun g e => by cases e))
        replace Rk := Lib.hid (R_typed_grown Rk.out hg (fun g e => by cases e))
        replace Rl := Lib.hid (R_typed_grown Rl.out hg (fun g e => by cases e))
        replace HK := Lib.hid (blk_grown HK.out hg (by simp))
        replace HT := Lib.hid (blk_grown HT.out hg (by simp))
        replace HX := Lib.hid (blk_grown HX.out hg (by simp))
        replace HB := Lib.hid (HB.out.trans (below_weaken hb HB.out.size))
        clear hb hg
        refine hK.out _ _ ⟨(blk_cell HK.out 0).trans rfl, (blk_cell HK.out 1).trans rfl, (blk_cell HK.out 2).trans rfl, (blk_cell HT.out 0).trans rfl, (blk_cell HT.out 1).trans rfl, (blk_cell HT.out 2).trans rfl, (blk_cell HT.out 3).trans rfl, (blk_cell HT.out 4).trans rfl⟩ (fun hHeld => ?_)
        clear hK K
        refine no_ 39 ?_
        exact norm_ (by first | (simp only [putAll, Act.put, List.setIfInBounds_toArray, List.set_cons_zero, List.set_cons_succ]; done) | (simp only [putAll, Act.put, List.setIfInBounds_toArray, List.set_cons_zero, List.set_cons_succ]; rfl)) (hCont (Ax, cx, W5.heap.size) _ ⟨HK.out, HT.out, HB.out, Rw.out, Rs.out, Rk.out, (blk_cell HK.out 0).trans rfl, (blk_cell HK.out 1).trans rfl, (blk_cell HK.out 2).trans rfl, (blk_cell HT.out 0).trans rfl, (blk_cell HT.out 1).trans rfl, (blk_cell HT.out 2).trans rfl, (blk_cell HT.out 3).trans rfl, (blk_cell HT.out 4).trans rfl, Rl.out, HX.out, SX⟩)
    · skip
      refine value_ (w1 := ?_) (v := ?_) (by rfl) rfl ?_ ?_
      rotate_left 2
      · go_simp
        constructor
        · rfl
        · rfl
      obtain ⟨W5, hnw⟩ : ∃ W, W = (W4.drew).alloc (.cells #[.slice none 0 0, .slice none 0 0, .slice none 0 0] 26) := ⟨_, rfl⟩
      rw [show ((W4).alloc (.cells #[.slice none 0 0, .slice none 0 0, .slice none 0 0] 26)).drew = W5 from hnw.symm]
      have hg : (W4.drew).grownBy W5 none := by rw [hnw]; exact g_all (g_refl _ _) _
      have HX := Lib.hid (show W5.heap[W4.heap.size]? = some (.cells #[.slice none 0 0, .slice none 0 0, .slice none 0 0] 26 (0, 0)) by rw [hnw]; exact blk_new _ _)
      have SX : W4.heap.size ≤ W4.heap.size := HQ.out
      replace HQ := Lib.hid (Nat.le_trans HQ.out hg.size)
      replace Rw := Lib.hid (R_typed_grown Rw.out hg (fun g e => by cases e))
      replace Rs := Lib.hid (R_typed_grown Rs.out hg (fun g e => by cases e))
      replace Rk := Lib.hid (R_typed_grown Rk.out hg (fun g e => by cases e))
      replace HK := Lib.hid (blk_grown HK.out hg (by simp))
      replace HT := Lib.hid (blk_grown HT.out hg (by simp))
      replace HB := Lib.hid (HB.out.grown hg HB.out.size (fun k e => by cases e))
      clear hg hnw
      refine hK.out _ _ ⟨(blk_cell HK.out 0).trans rfl, (blk_cell HK.out 1).trans rfl, (blk_cell HK.out 2).trans rfl, (blk_cell HT.out 0).trans rfl, (blk_cell HT.out 1).trans rfl, (blk_cell HT.out 2).trans rfl, (blk_cell HT.out 3).trans rfl, (blk_cell HT.out 4).trans rfl⟩ (fun hHeld => ?_)
      clear hK K
      refine no_ 8 ?_
      refine one_ (i := 2) (N := some 34) #[true, true, true, true, true, true, true, false, true, false, false] rfl rfl (by kernel_rfl) (by decide) (fun K hK => ?_)
      refine goes_ Tryd.func58 (by kernel_rfl) rfl #[.agg #[.slice A0 l0.length c0, .slice A1 l1.length c1, .slice A2 l2.length c2], .agg #[.slice Aw nd cw, .slice As nd cs, .slice Ak kb.length ck, .int .i64 la, .int .i64 lo]] (by rfl) rfl rfl (by simp only [List.map_toArray, List.map_cons, List.map_nil]; rfl) ?_
      refine (HRG.out _ HB.out (Kd.R_reads' Rk.out).2.2).mono ?_
      rintro e W6 ⟨Ax, cx, rfl, h9_, hb⟩
      refine ⟨_, rfl, ?_⟩
      have Rl := Lib.hid h9_
      clear h9_
      have hg := g_below hb
      replace HQ := Lib.hid (Nat.le_trans HQ.out hg.size)
      replace Rw := Lib.hid (R_typed_grown Rw.out hg (fun g e => by cases e))
      replace Rs := Lib.hid (R_typed_grown Rs.out hg (fun g e => by cases e))
      replace Rk := Lib.hid (R_typed_grown Rk.out hg (fun g e => by cases e))
      replace HK := Lib.hid (blk_grown HK.out hg (by simp))
      replace HT := Lib.hid (blk_grown HT.out hg (by simp))
      replace HX := Lib.hid (blk_grown HX.out hg (by simp))
      replace HB := Lib.hid (HB.out.trans (below_weaken hb HB.out.size))
      clear hb hg
      refine hK.out _ _ ⟨(blk_cell HK.out 0).trans rfl, (blk_cell HK.out 1).trans rfl, (blk_cell HK.out 2).trans rfl, (blk_cell HT.out 0).trans rfl, (blk_cell HT.out 1).trans rfl, (blk_cell HT.out 2).trans rfl, (blk_cell HT.out 3).trans rfl, (blk_cell HT.out 4).trans rfl⟩ (fun hHeld => ?_)
      clear hK K
      refine no_ 34 ?_
      refine one_ (i := 7) (N := some 39) #[true, true, true, true, true, true, true, true, true, false, false] rfl rfl (by kernel_rfl) (by decide) (fun K hK => ?_)
      refine goes_ Tryd.func47 (by kernel_rfl) rfl #[.int .i64 n, .int .i64 (l1.length : Int)] (by rfl) rfl rfl (by simp only [List.map_toArray, List.map_cons, List.map_nil]; rfl) ?_
      refine (HW0.out _).mono ?_
      rintro e W7 ⟨rfl, hb⟩
      refine ⟨_, rfl, ?_⟩
      have hg := g_below hb
      replace HQ := Lib.hid (Nat.le_trans HQ.out hg.size)
      replace Rw := Lib.hid (R_typed_grown Rw.out hg (fun g e => by cases e))
      replace Rs := Lib.hid (R_typed_grown Rs.out hg (fun g e => by cases e))
      replace Rk := Lib.hid (R_typed_grown Rk.out hg (fun g e => by cases e))
      replace Rl := Lib.hid (R_typed_grown Rl.out hg (fun g e => by cases e))
      replace HK := Lib.hid (blk_grown HK.out hg (by simp))
      replace HT := Lib.hid (blk_grown HT.out hg (by simp))
      replace HX := Lib.hid (blk_grown HX.out hg (by simp))
      replace HB := Lib.hid (HB.out.trans (below_weaken hb HB.out.size))
      clear hb hg
      refine hK.out _ _ ⟨(blk_cell HK.out 0).trans rfl, (blk_cell HK.out 1).trans rfl, (blk_cell HK.out 2).trans rfl, (blk_cell HT.out 0).trans rfl, (blk_cell HT.out 1).trans rfl, (blk_cell HT.out 2).trans rfl, (blk_cell HT.out 3).trans rfl, (blk_cell HT.out 4).trans rfl⟩ (fun hHeld => ?_)
      clear hK K
      refine no_ 39 ?_
      exact norm_ (by first | (simp only [putAll, Act.put, List.setIfInBounds_toArray, List.set_cons_zero, List.set_cons_succ]; done) | (simp only [putAll, Act.put, List.setIfInBounds_toArray, List.set_cons_zero, List.set_cons_succ]; rfl)) (hCont (Ax, cx, W4.heap.size) _ ⟨HK.out, HT.out, HB.out, Rw.out, Rs.out, Rk.out, (blk_cell HK.out 0).trans rfl, (blk_cell HK.out 1).trans rfl, (blk_cell HK.out 2).trans rfl, (blk_cell HT.out 0).trans rfl, (blk_cell HT.out 1).trans rfl, (blk_cell HT.out 2).trans rfl, (blk_cell HT.out 3).trans rfl, (blk_cell HT.out 4).trans rfl, Rl.out, HX.out, SX⟩)
  rintro ⟨Ax, cx, gX_⟩ w' ⟨aHK, aHT, aHB, aRw, aRs, aRk, q0, q1, q2, q3, q4, q5, q6, q7, aRl, aHX, aSX⟩
  have hHeld : w'.cell? ⟨w.heap.size, 0, none⟩ = some (.slice A0 l0.length c0) ∧ w'.cell? ⟨w.heap.size, 1, none⟩ = some (.slice A1 l1.length c1) ∧ w'.cell? ⟨w.heap.size, 2, none⟩ = some (.slice A2 l2.length c2) ∧ w'.cell? ⟨W3.heap.size, 0, none⟩ = some (.slice Aw nd cw) ∧ w'.cell? ⟨W3.heap.size, 1, none⟩ = some (.slice As nd cs) ∧ w'.cell? ⟨W3.heap.size, 2, none⟩ = some (.slice Ak kb.length ck) ∧ w'.cell? ⟨W3.heap.size, 3, none⟩ = some (.int .i64 la) ∧ w'.cell? ⟨W3.heap.size, 4, none⟩ = some (.int .i64 lo) := ⟨q0, q1, q2, q3, q4, q5, q6, q7⟩
  (try clear HK)
  have HK := Lib.hid aHK
  (try clear HT)
  have HT := Lib.hid aHT
  (try clear HB)
  have HB := Lib.hid aHB
  (try clear Rw)
  have Rw := Lib.hid aRw
  (try clear Rs)
  have Rs := Lib.hid aRs
  (try clear Rk)
  have Rk := Lib.hid aRk
  (try clear Rl)
  have Rl := Lib.hid (show Kd.R k43 43 w' (w.heap.size) (fun _ => True) (.slice Ax lk.length cx) (lk) from aRl)
  (try clear HX)
  have HX := Lib.hid (show w'.heap[gX_]? = some (.cells #[.slice none 0 0, .slice none 0 0, .slice none 0 0] 26 (0, 0)) from aHX)
  have SX : W4.heap.size ≤ gX_ := aSX
  clear aHK aHT aHB aRw aRs aRk aRl aHX aSX q0 q1 q2 q3 q4 q5 q6 q7
  refine norm_ (a' := ?_) ?_ ?_
  rotate_left
  · simp only [putAll, Act.put, List.setIfInBounds_toArray, List.set_cons_zero, List.set_cons_succ]
    rfl
  refine last_ (i := 9) (N := none) #[true, true, true, true, true, true, true, true, true, true, false] rfl rfl (by kernel_rfl) (by decide) (fun K hK => ?_)
  have cX_0 := (blk_cell HX.out 0).trans rfl
  have cX_1 := (blk_cell HX.out 1).trans rfl
  have cX_2 := (blk_cell HX.out 2).trans rfl
  have fX_0 := blk_frozen HX.out 0
  have fX_1 := blk_frozen HX.out 1
  have fX_2 := blk_frozen HX.out 2
  have lX := blk_lt HX.out
  refine skip_ (w1 := ?_) (by rfl) rfl ?_ ?_
  rotate_left
  · go_simp
    rfl
  refine hK.out _ _ ?_
  clear hK K
  refine pu_ 10 (some 9) ?_
  refine done_ (by kernel_rfl) ?_

  clear HQ
  clear cX_0 cX_1 cX_2 fX_0 fX_1 fX_2 lX
  obtain ⟨W25, hnw⟩ : ∃ W, W = (((w'.setCell ⟨gX_, 0, none⟩ (.slice A0 l0.length c0)).setCell ⟨gX_, 1, none⟩ (.slice A1 l1.length c1)).setCell ⟨gX_, 2, none⟩ (.slice Ax lk.length cx)) := ⟨_, rfl⟩
  rw [← hnw]
  have hg : w'.grownBy W25 (some (gX_)) := by rw [hnw]; exact (g_put (g_put (g_put (g_refl w' (some (gX_))) 0 (.slice A0 l0.length c0)) 1 (.slice A1 l1.length c1)) 2 (.slice Ax lk.length cx))
  have HXq := Lib.hid (show W25.heap[gX_]? = some (.cells #[.slice A0 l0.length c0, .slice A1 l1.length c1, .slice Ax lk.length cx] 26 (0, 0)) by rw [hnw]; exact blk_put (blk_put (blk_put (HX.out) 0 (.slice A0 l0.length c0) rfl) 1 (.slice A1 l1.length c1) rfl) 2 (.slice Ax lk.length cx) rfl)
  have HOLD := HX
  replace Rw := Lib.hid (R_typed_grown Rw.out hg (fun g e => by injection e with e; subst e; exact ⟨_, _, HOLD.out, by decide⟩))
  replace Rs := Lib.hid (R_typed_grown Rs.out hg (fun g e => by injection e with e; subst e; exact ⟨_, _, HOLD.out, by decide⟩))
  replace Rk := Lib.hid (R_typed_grown Rk.out hg (fun g e => by injection e with e; subst e; exact ⟨_, _, HOLD.out, by decide⟩))
  replace Rl := Lib.hid (R_typed_grown Rl.out hg (fun g e => by injection e with e; subst e; exact ⟨_, _, HOLD.out, by decide⟩))
  replace HK := Lib.hid (blk_grown HK.out hg (fun e => by injection e with e; omega))
  replace HT := Lib.hid (blk_grown HT.out hg (fun e => by injection e with e; exact absurd e (blk_ne HT.out HX.out (by decide))))
  clear HOLD
  clear HX
  have HX := HXq
  clear HXq
  replace HB := Lib.hid (HB.out.grown hg HB.out.size (fun k e => by injection e with e; have := HB.out.size; omega))
  clear hg hnw
  have cK_0 := (blk_cell HK.out 0).trans rfl
  have cK_1 := (blk_cell HK.out 1).trans rfl
  have cK_2 := (blk_cell HK.out 2).trans rfl
  have lK := blk_lt HK.out
  have cT_0 := (blk_cell HT.out 0).trans rfl
  have cT_1 := (blk_cell HT.out 1).trans rfl
  have cT_2 := (blk_cell HT.out 2).trans rfl
  have cT_3 := (blk_cell HT.out 3).trans rfl
  have cT_4 := (blk_cell HT.out 4).trans rfl
  have lT := blk_lt HT.out
  have cX_0 := (blk_cell HX.out 0).trans rfl
  have cX_1 := (blk_cell HX.out 1).trans rfl
  have cX_2 := (blk_cell HX.out 2).trans rfl
  have lX := blk_lt HX.out
  go_wp2_with fail
  clear cK_0 cK_1 cK_2 lK cT_0 cT_1 cT_2 cT_3 cT_4 lT cX_0 cX_1 cX_2 lX
  refine (HRI.out _ _ _ HB.out (Kd.R_reads' Rl.out).2.2 (Kd.R_reads' Rl.out).2.1).mono ?_
  rintro e W26 ⟨rfl, hb⟩
  have hg := g_below hb
  replace Rw := Lib.hid (R_typed_grown Rw.out hg (fun g e => by cases e))
  replace Rs := Lib.hid (R_typed_grown Rs.out hg (fun g e => by cases e))
  replace Rk := Lib.hid (R_typed_grown Rk.out hg (fun g e => by cases e))
  replace Rl := Lib.hid (R_typed_grown Rl.out hg (fun g e => by cases e))
  replace HK := Lib.hid (blk_grown HK.out hg (by simp))
  replace HT := Lib.hid (blk_grown HT.out hg (by simp))
  replace HX := Lib.hid (blk_grown HX.out hg (by simp))
  replace HB := Lib.hid (HB.out.trans (below_weaken hb HB.out.size))
  clear hb hg
  have cK_0 := (blk_cell HK.out 0).trans rfl
  have cK_1 := (blk_cell HK.out 1).trans rfl
  have cK_2 := (blk_cell HK.out 2).trans rfl
  have lK := blk_lt HK.out
  have cT_0 := (blk_cell HT.out 0).trans rfl
  have cT_1 := (blk_cell HT.out 1).trans rfl
  have cT_2 := (blk_cell HT.out 2).trans rfl
  have cT_3 := (blk_cell HT.out 3).trans rfl
  have cT_4 := (blk_cell HT.out 4).trans rfl
  have lT := blk_lt HT.out
  have cX_0 := (blk_cell HX.out 0).trans rfl
  have cX_1 := (blk_cell HX.out 1).trans rfl
  have cX_2 := (blk_cell HX.out 2).trans rfl
  have lX := blk_lt HX.out
  go_wp2_with fail
  clear cK_0 cK_1 cK_2 lK cT_0 cT_1 cT_2 cT_3 cT_4 lT cX_0 cX_1 cX_2 lX
  refine (HWR.out _ _ _ HB.out (Kd.R_reads' Rl.out).2.2 (Kd.R_reads' Rl.out).2.1).mono ?_
  rintro e W27 ⟨Aq, cq, rfl, hb⟩
  have hg := g_below hb
  replace Rw := Lib.hid (R_typed_grown Rw.out hg (fun g e => by cases e))
  replace Rs := Lib.hid (R_typed_grown Rs.out hg (fun g e => by cases e))
  replace Rk := Lib.hid (R_typed_grown Rk.out hg (fun g e => by cases e))
  replace Rl := Lib.hid (R_typed_grown Rl.out hg (fun g e => by cases e))
  replace HK := Lib.hid (blk_grown HK.out hg (by simp))
  replace HT := Lib.hid (blk_grown HT.out hg (by simp))
  replace HX := Lib.hid (blk_grown HX.out hg (by simp))
  replace HB := Lib.hid (HB.out.trans (below_weaken hb HB.out.size))
  clear hb hg
  have cK_0 := (blk_cell HK.out 0).trans rfl
  have cK_1 := (blk_cell HK.out 1).trans rfl
  have cK_2 := (blk_cell HK.out 2).trans rfl
  have lK := blk_lt HK.out
  have cT_0 := (blk_cell HT.out 0).trans rfl
  have cT_1 := (blk_cell HT.out 1).trans rfl
  have cT_2 := (blk_cell HT.out 2).trans rfl
  have cT_3 := (blk_cell HT.out 3).trans rfl
  have cT_4 := (blk_cell HT.out 4).trans rfl
  have lT := blk_lt HT.out
  have cX_0 := (blk_cell HX.out 0).trans rfl
  have cX_1 := (blk_cell HX.out 1).trans rfl
  have cX_2 := (blk_cell HX.out 2).trans rfl
  have lX := blk_lt HX.out
  go_wp2_with fail
  clear cK_0 cK_1 cK_2 lK cT_0 cT_1 cT_2 cT_3 cT_4 lT cX_0 cX_1 cX_2 lX
  refine (HBO.out _ _ _ HB.out (Kd.R_reads' Rl.out).2.2 (Kd.R_reads' Rl.out).2.1).mono ?_
  rintro e W28 ⟨rfl, hb⟩
  have hg := g_below hb
  replace Rw := Lib.hid (R_typed_grown Rw.out hg (fun g e => by cases e))
  replace Rs := Lib.hid (R_typed_grown Rs.out hg (fun g e => by cases e))
  replace Rk := Lib.hid (R_typed_grown Rk.out hg (fun g e => by cases e))
  replace Rl := Lib.hid (R_typed_grown Rl.out hg (fun g e => by cases e))
  replace HK := Lib.hid (blk_grown HK.out hg (by simp))
  replace HT := Lib.hid (blk_grown HT.out hg (by simp))
  replace HX := Lib.hid (blk_grown HX.out hg (by simp))
  replace HB := Lib.hid (HB.out.trans (below_weaken hb HB.out.size))
  clear hb hg
  have cK_0 := (blk_cell HK.out 0).trans rfl
  have cK_1 := (blk_cell HK.out 1).trans rfl
  have cK_2 := (blk_cell HK.out 2).trans rfl
  have lK := blk_lt HK.out
  have cT_0 := (blk_cell HT.out 0).trans rfl
  have cT_1 := (blk_cell HT.out 1).trans rfl
  have cT_2 := (blk_cell HT.out 2).trans rfl
  have cT_3 := (blk_cell HT.out 3).trans rfl
  have cT_4 := (blk_cell HT.out 4).trans rfl
  have lT := blk_lt HT.out
  have cX_0 := (blk_cell HX.out 0).trans rfl
  have cX_1 := (blk_cell HX.out 1).trans rfl
  have cX_2 := (blk_cell HX.out 2).trans rfl
  have lX := blk_lt HX.out
  go_wp2_with fail
  clear cK_0 cK_1 cK_2 lK cT_0 cT_1 cT_2 cT_3 cT_4 lT cX_0 cX_1 cX_2 lX
  have LqK_28 := blk_lt HK.out
  have LqT_28 := blk_lt HT.out
  have LqX_28 := blk_lt HX.out
  obtain ⟨W29, hnw⟩ : ∃ W, W = (W28.alloc (.cells #[.int .i64 s1, .int .i64 s2] 32)) := ⟨_, rfl⟩
  rw [← hnw]
  have hg : W28.grownBy W29 (none) := by rw [hnw]; exact (g_all (g_refl W28 (none)) (.cells #[.int .i64 s1, .int .i64 s2] 32))
  have HS := Lib.hid (show W29.heap[W28.heap.size]? = some (.cells #[.int .i64 s1, .int .i64 s2] 32 (0, 0)) by rw [hnw]; exact blk_at W28 (.cells #[.int .i64 s1, .int .i64 s2] 32) _ (by simp))
  replace Rw := Lib.hid (R_typed_grown Rw.out hg (fun g e => by cases e))
  replace Rs := Lib.hid (R_typed_grown Rs.out hg (fun g e => by cases e))
  replace Rk := Lib.hid (R_typed_grown Rk.out hg (fun g e => by cases e))
  replace Rl := Lib.hid (R_typed_grown Rl.out hg (fun g e => by cases e))
  replace HK := Lib.hid (blk_grown HK.out hg (by simp))
  replace HT := Lib.hid (blk_grown HT.out hg (by simp))
  replace HX := Lib.hid (blk_grown HX.out hg (by simp))
  replace HB := Lib.hid (HB.out.grown hg HB.out.size (fun k e => by cases e))
  clear hg hnw
  refine (HWA.out _ _ _ HB.out (Kd.R_reads' Rl.out).2.2 (Kd.R_reads' Rl.out).2.1).mono ?_
  rintro e W30 ⟨rfl, hb⟩
  have hg := g_below hb
  replace Rw := Lib.hid (R_typed_grown Rw.out hg (fun g e => by cases e))
  replace Rs := Lib.hid (R_typed_grown Rs.out hg (fun g e => by cases e))
  replace Rk := Lib.hid (R_typed_grown Rk.out hg (fun g e => by cases e))
  replace Rl := Lib.hid (R_typed_grown Rl.out hg (fun g e => by cases e))
  replace HK := Lib.hid (blk_grown HK.out hg (by simp))
  replace HT := Lib.hid (blk_grown HT.out hg (by simp))
  replace HX := Lib.hid (blk_grown HX.out hg (by simp))
  replace HS := Lib.hid (blk_grown HS.out hg (by simp))
  replace HB := Lib.hid (HB.out.trans (below_weaken hb HB.out.size))
  clear hb hg
  have cK_0 := (blk_cell HK.out 0).trans rfl
  have cK_1 := (blk_cell HK.out 1).trans rfl
  have cK_2 := (blk_cell HK.out 2).trans rfl
  have lK := blk_lt HK.out
  have cT_0 := (blk_cell HT.out 0).trans rfl
  have cT_1 := (blk_cell HT.out 1).trans rfl
  have cT_2 := (blk_cell HT.out 2).trans rfl
  have cT_3 := (blk_cell HT.out 3).trans rfl
  have cT_4 := (blk_cell HT.out 4).trans rfl
  have lT := blk_lt HT.out
  have cX_0 := (blk_cell HX.out 0).trans rfl
  have cX_1 := (blk_cell HX.out 1).trans rfl
  have cX_2 := (blk_cell HX.out 2).trans rfl
  have lX := blk_lt HX.out
  have cS_0 := (blk_cell HS.out 0).trans rfl
  have cS_1 := (blk_cell HS.out 1).trans rfl
  have lS := blk_lt HS.out
  go_wp2_with fail
  clear cK_0 cK_1 cK_2 lK cT_0 cT_1 cT_2 cT_3 cT_4 lT cX_0 cX_1 cX_2 lX cS_0 cS_1 lS
  have LqK_30 := blk_lt HK.out
  have LqT_30 := blk_lt HT.out
  have LqX_30 := blk_lt HX.out
  have LqS_30 := blk_lt HS.out
  obtain ⟨W31, hnw⟩ : ∃ W, W = (W30.alloc (.cells #[.int .i64 u1, .int .i64 u2] 32)) := ⟨_, rfl⟩
  rw [← hnw]
  have hg : W30.grownBy W31 (none) := by rw [hnw]; exact (g_all (g_refl W30 (none)) (.cells #[.int .i64 u1, .int .i64 u2] 32))
  have HU := Lib.hid (show W31.heap[W30.heap.size]? = some (.cells #[.int .i64 u1, .int .i64 u2] 32 (0, 0)) by rw [hnw]; exact blk_at W30 (.cells #[.int .i64 u1, .int .i64 u2] 32) _ (by simp))
  replace Rw := Lib.hid (R_typed_grown Rw.out hg (fun g e => by cases e))
  replace Rs := Lib.hid (R_typed_grown Rs.out hg (fun g e => by cases e))
  replace Rk := Lib.hid (R_typed_grown Rk.out hg (fun g e => by cases e))
  replace Rl := Lib.hid (R_typed_grown Rl.out hg (fun g e => by cases e))
  replace HK := Lib.hid (blk_grown HK.out hg (by simp))
  replace HT := Lib.hid (blk_grown HT.out hg (by simp))
  replace HX := Lib.hid (blk_grown HX.out hg (by simp))
  replace HS := Lib.hid (blk_grown HS.out hg (by simp))
  replace HB := Lib.hid (HB.out.grown hg HB.out.size (fun k e => by cases e))
  clear hg hnw
  refine (HSK.out _ _ _ HB.out (Kd.R_reads' Rl.out).2.2 (Kd.R_reads' Rl.out).2.1).mono ?_
  rintro e W32 ⟨rfl, hb⟩
  have hg := g_below hb
  replace Rw := Lib.hid (R_typed_grown Rw.out hg (fun g e => by cases e))
  replace Rs := Lib.hid (R_typed_grown Rs.out hg (fun g e => by cases e))
  replace Rk := Lib.hid (R_typed_grown Rk.out hg (fun g e => by cases e))
  replace Rl := Lib.hid (R_typed_grown Rl.out hg (fun g e => by cases e))
  replace HK := Lib.hid (blk_grown HK.out hg (by simp))
  replace HT := Lib.hid (blk_grown HT.out hg (by simp))
  replace HX := Lib.hid (blk_grown HX.out hg (by simp))
  replace HS := Lib.hid (blk_grown HS.out hg (by simp))
  replace HU := Lib.hid (blk_grown HU.out hg (by simp))
  replace HB := Lib.hid (HB.out.trans (below_weaken hb HB.out.size))
  clear hb hg
  have cK_0 := (blk_cell HK.out 0).trans rfl
  have cK_1 := (blk_cell HK.out 1).trans rfl
  have cK_2 := (blk_cell HK.out 2).trans rfl
  have lK := blk_lt HK.out
  have cT_0 := (blk_cell HT.out 0).trans rfl
  have cT_1 := (blk_cell HT.out 1).trans rfl
  have cT_2 := (blk_cell HT.out 2).trans rfl
  have cT_3 := (blk_cell HT.out 3).trans rfl
  have cT_4 := (blk_cell HT.out 4).trans rfl
  have lT := blk_lt HT.out
  have cX_0 := (blk_cell HX.out 0).trans rfl
  have cX_1 := (blk_cell HX.out 1).trans rfl
  have cX_2 := (blk_cell HX.out 2).trans rfl
  have lX := blk_lt HX.out
  have cS_0 := (blk_cell HS.out 0).trans rfl
  have cS_1 := (blk_cell HS.out 1).trans rfl
  have lS := blk_lt HS.out
  have cU_0 := (blk_cell HU.out 0).trans rfl
  have cU_1 := (blk_cell HU.out 1).trans rfl
  have lU := blk_lt HU.out
  obtain ⟨bk, ok, ek⟩ := some_of_C (Kd.R_reads' Rk.out).2.2 HKD.out
  subst ek
  obtain ⟨bw, ow, ew⟩ := some_of_C (Kd.R_reads' Rw.out).2.2 HWD.out
  subst ew
  obtain ⟨bs, os, es⟩ := some_of_C (Kd.R_reads' Rs.out).2.2 HSD.out
  subst es
  have hl1_ := lt_of_get HKD.out
  have hl2_ : dd < nd := by have h1 := (Kd.R_reads' Rw.out).1; have h2 := lt_of_get HWD.out; omega
  clear cK_0 cK_1 cK_2 lK cT_0 cT_1 cT_2 cT_3 cT_4 lT cX_0 cX_1 cX_2 lX cS_0 cS_1 lS cU_0 cU_1 lU
  have cK_0 := (blk_cell HK.out 0).trans rfl
  have cK_1 := (blk_cell HK.out 1).trans rfl
  have cK_2 := (blk_cell HK.out 2).trans rfl
  have lK := blk_lt HK.out
  have cT_0 := (blk_cell HT.out 0).trans rfl
  have cT_1 := (blk_cell HT.out 1).trans rfl
  have cT_2 := (blk_cell HT.out 2).trans rfl
  have cT_3 := (blk_cell HT.out 3).trans rfl
  have cT_4 := (blk_cell HT.out 4).trans rfl
  have lT := blk_lt HT.out
  have cX_0 := (blk_cell HX.out 0).trans rfl
  have cX_1 := (blk_cell HX.out 1).trans rfl
  have cX_2 := (blk_cell HX.out 2).trans rfl
  have lX := blk_lt HX.out
  have cS_0 := (blk_cell HS.out 0).trans rfl
  have cS_1 := (blk_cell HS.out 1).trans rfl
  have lS := blk_lt HS.out
  have cU_0 := (blk_cell HU.out 0).trans rfl
  have cU_1 := (blk_cell HU.out 1).trans rfl
  have lU := blk_lt HU.out
  go_upto_region 10 with fail
  clear cK_0 cK_1 cK_2 lK cT_0 cT_1 cT_2 cT_3 cT_4 lT cX_0 cX_1 cX_2 lX cS_0 cS_1 lS cU_0 cU_1 lU
  go_cut [129] from 25 (fun v129 wc => v129 = .bool false ∧ Aside0 (wc.heap[w.heap.size]? = some (.cells #[.slice A0 l0.length c0, .slice A1 l1.length c1, .slice A2 l2.length c2] 26 (0, 0))) ∧ Aside0 (wc.heap[W3.heap.size]? = some (.cells #[.slice (some ⟨bw, ow, none⟩) nd cw, .slice (some ⟨bs, os, none⟩) nd cs, .slice (some ⟨bk, ok, none⟩) kb.length ck, .int .i64 la, .int .i64 lo] 77 (0, 0))) ∧ Aside0 (wc.heap[gX_]? = some (.cells #[.slice A0 l0.length c0, .slice A1 l1.length c1, .slice Ax lk.length cx] 26 (0, 0))) ∧ Aside0 (wc.heap[W28.heap.size]? = some (.cells #[.int .i64 s1, .int .i64 s2] 32 (0, 0))) ∧ Aside0 (wc.heap[W30.heap.size]? = some (.cells #[.int .i64 u1, .int .i64 u2] 32 (0, 0))) ∧ Aside0 (Kd.R (Kd.int .i64) 3 wc w.heap.size (fun _ => True) (.slice (some ⟨bw, ow, none⟩) nd cw) (wl)) ∧ Aside0 (Kd.R (Kd.int .i64) 3 wc w.heap.size (fun _ => True) (.slice (some ⟨bs, os, none⟩) nd cs) (sl)) ∧ Aside0 (Kd.R (Kd.int .i64) 3 wc w.heap.size (fun _ => True) (.slice (some ⟨bk, ok, none⟩) kb.length ck) (kb)) ∧ Aside0 (Kd.R k43 43 wc w.heap.size (fun _ => True) (.slice Ax lk.length cx) (lk)) ∧ Aside0 (Below w.heap.size w wc))
  case first => as_aux_lemma =>
    have cK_0 := (blk_cell HK.out 0).trans rfl
    have cK_1 := (blk_cell HK.out 1).trans rfl
    have cK_2 := (blk_cell HK.out 2).trans rfl
    have lK := blk_lt HK.out
    have cT_0 := (blk_cell HT.out 0).trans rfl
    have cT_1 := (blk_cell HT.out 1).trans rfl
    have cT_2 := (blk_cell HT.out 2).trans rfl
    have cT_3 := (blk_cell HT.out 3).trans rfl
    have cT_4 := (blk_cell HT.out 4).trans rfl
    have lT := blk_lt HT.out
    have cX_0 := (blk_cell HX.out 0).trans rfl
    have cX_1 := (blk_cell HX.out 1).trans rfl
    have cX_2 := (blk_cell HX.out 2).trans rfl
    have lX := blk_lt HX.out
    have cS_0 := (blk_cell HS.out 0).trans rfl
    have cS_1 := (blk_cell HS.out 1).trans rfl
    have lS := blk_lt HS.out
    have cU_0 := (blk_cell HU.out 0).trans rfl
    have cU_1 := (blk_cell HU.out 1).trans rfl
    have lU := blk_lt HU.out
    clear cK_0 cK_1 cK_2 lK cT_0 cT_1 cT_2 cT_3 cT_4 lT cX_0 cX_1 cX_2 lX cS_0 cS_1 lS cU_0 cU_1 lU
    have hb : Below W32.heap.size W32 W32.drew := (Below.refl _ _).drew
    have hg := g_below hb
    replace Rw := Lib.hid (R_typed_grown Rw.out hg (fun g e => by cases e))
    replace Rs := Lib.hid (R_typed_grown Rs.out hg (fun g e => by cases e))
    replace Rk := Lib.hid (R_typed_grown Rk.out hg (fun g e => by cases e))
    replace Rl := Lib.hid (R_typed_grown Rl.out hg (fun g e => by cases e))
    replace HK := Lib.hid (blk_grown HK.out hg (by simp))
    replace HT := Lib.hid (blk_grown HT.out hg (by simp))
    replace HX := Lib.hid (blk_grown HX.out hg (by simp))
    replace HS := Lib.hid (blk_grown HS.out hg (by simp))
    replace HU := Lib.hid (blk_grown HU.out hg (by simp))
    replace HB := Lib.hid (HB.out.trans (below_weaken hb HB.out.size))
    clear hb hg
    refine start_ (n := 62) (S := fun w' => w'.cell? ⟨W3.heap.size, 0, none⟩ = some (.slice (some ⟨bw, ow, none⟩) nd cw) ∧ w'.cell? ⟨W3.heap.size, 1, none⟩ = some (.slice (some ⟨bs, os, none⟩) nd cs) ∧ w'.cell? ⟨W3.heap.size, 2, none⟩ = some (.slice (some ⟨bk, ok, none⟩) kb.length ck) ∧ w'.cell? ⟨W3.heap.size, 3, none⟩ = some (.int .i64 la) ∧ w'.cell? ⟨W3.heap.size, 4, none⟩ = some (.int .i64 lo) ∧ w'.cell? ⟨W28.heap.size, 0, none⟩ = some (.int .i64 s1) ∧ w'.cell? ⟨W28.heap.size, 1, none⟩ = some (.int .i64 s2) ∧ w'.cell? ⟨W30.heap.size, 0, none⟩ = some (.int .i64 u1) ∧ w'.cell? ⟨W30.heap.size, 1, none⟩ = some (.int .i64 u2) ∧ w'.cell? ⟨bk, ok + dd, none⟩ = some (.int .i64 kd) ∧ w'.cell? ⟨bw, ow + dd, none⟩ = some (.int .i64 wd) ∧ w'.cell? ⟨bs, os + dd, none⟩ = some (.int .i64 sd)) (ds := []) #[false, false, false, false, false, false, false, false, false, false, false, false, false, false, false, false, false, false, false, false, false, false, false, false, false, false, false, false, false, false, false, false, false, false, false, false, false, false, false, false, false, false, false, false, false, false, false, false, false, false, false, false, false, false, false, false, false, false, false, false, false, false] (by kernel_rfl) rfl rfl ⟨(blk_cell HT.out 0).trans rfl, (blk_cell HT.out 1).trans rfl, (blk_cell HT.out 2).trans rfl, (blk_cell HT.out 3).trans rfl, (blk_cell HT.out 4).trans rfl, (blk_cell HS.out 0).trans rfl, (blk_cell HS.out 1).trans rfl, (blk_cell HU.out 0).trans rfl, (blk_cell HU.out 1).trans rfl, cell_of_C (Kd.R_reads' Rk.out).2.2 HKD.out, cell_of_C (Kd.R_reads' Rw.out).2.2 HWD.out, cell_of_C (Kd.R_reads' Rs.out).2.2 HSD.out⟩ (fun hHeld => ?_)
    refine pu_ 0 (some 68) ?_
    refine pu_ 1 (some 69) ?_
    refine pu_ 2 (some 70) ?_
    refine pu_ 3 (some 71) ?_
    refine pu_ 4 (some 72) ?_
    refine pu_ 5 (some 73) ?_
    refine pu_ 6 (some 74) ?_
    refine pu_ 7 (some 75) ?_
    refine pu_ 8 (some 76) ?_
    refine pu_ 9 (some 77) ?_
    refine pu_ 10 (some 78) ?_
    refine pu_ 11 (some 79) ?_
    refine pu_ 12 (some 80) ?_
    refine pu_ 13 (some 81) ?_
    refine pu_ 14 (some 82) ?_
    refine pu_ 15 (some 83) ?_
    refine pu_ 16 (some 84) ?_
    refine pu_ 17 (some 85) ?_
    refine pu_ 18 (some 86) ?_
    refine pu_ 19 (some 87) ?_
    refine pu_ 20 (some 88) ?_
    refine pu_ 21 (some 89) ?_
    refine pu_ 22 (some 90) ?_
    refine pu_ 23 (some 91) ?_
    refine pu_ 24 (some 92) ?_
    refine pu_ 25 (some 93) ?_
    refine pu_ 26 (some 94) ?_
    refine pu_ 27 (some 95) ?_
    refine pu_ 29 (some 97) ?_
    refine pu_ 31 (some 99) ?_
    refine ta_ 28 (some 96) (s := hHeld) (y := by rintro w' ⟨s0, s1, s2, s3, s4, s5, s6, s7, s8, s9, s10, s11⟩; go_simp; with_reducible rfl) (h := ?_)
    refine ta_ 30 (some 98) (s := hHeld) (y := by rintro w' ⟨s0, s1, s2, s3, s4, s5, s6, s7, s8, s9, s10, s11⟩; go_simp; with_reducible rfl) (h := ?_)
    refine pu_ 32 (some 100) ?_
    refine ta_ 33 (some 101) (s := hHeld) (y := by rintro w' ⟨s0, s1, s2, s3, s4, s5, s6, s7, s8, s9, s10, s11⟩; go_simp; with_reducible rfl) (h := ?_)
    refine one_ (i := 34) (N := some 102) #[true, true, true, true, true, true, true, true, true, true, true, true, true, true, true, true, true, true, true, true, true, true, true, true, true, true, true, true, true, true, true, true, true, true, true, false, false, false, false, false, false, false, false, false, false, false, false, false, false, false, false, false, false, false, false, false, false, false, false, false, false, false] rfl rfl (by kernel_rfl) (by decide) (fun K hK => ?_)
    refine goes_ Tryd.func59 (by kernel_rfl) rfl #[.agg #[.int .i64 s1, .int .i64 s2], .int .i64 kd] (by rfl) rfl rfl (by simp only [List.map_toArray, List.map_cons, List.map_nil]; rfl) ?_
    refine (HH1.out _).mono ?_
    rintro e W33 ⟨rfl, hb⟩
    refine ⟨_, rfl, ?_⟩
    have hg := g_below hb
    replace Rw := Lib.hid (R_typed_grown Rw.out hg (fun g e => by cases e))
    replace Rs := Lib.hid (R_typed_grown Rs.out hg (fun g e => by cases e))
    replace Rk := Lib.hid (R_typed_grown Rk.out hg (fun g e => by cases e))
    replace Rl := Lib.hid (R_typed_grown Rl.out hg (fun g e => by cases e))
    replace HK := Lib.hid (blk_grown HK.out hg (by simp))
    replace HT := Lib.hid (blk_grown HT.out hg (by simp))
    replace HX := Lib.hid (blk_grown HX.out hg (by simp))
    replace HS := Lib.hid (blk_grown HS.out hg (by simp))
    replace HU := Lib.hid (blk_grown HU.out hg (by simp))
    replace HB := Lib.hid (HB.out.trans (below_weaken hb HB.out.size))
    clear hb hg
    refine hK.out _ _ ⟨(blk_cell HT.out 0).trans rfl, (blk_cell HT.out 1).trans rfl, (blk_cell HT.out 2).trans rfl, (blk_cell HT.out 3).trans rfl, (blk_cell HT.out 4).trans rfl, (blk_cell HS.out 0).trans rfl, (blk_cell HS.out 1).trans rfl, (blk_cell HU.out 0).trans rfl, (blk_cell HU.out 1).trans rfl, cell_of_C (Kd.R_reads' Rk.out).2.2 HKD.out, cell_of_C (Kd.R_reads' Rw.out).2.2 HWD.out, cell_of_C (Kd.R_reads' Rs.out).2.2 HSD.out⟩ (fun hHeld => ?_)
    clear hK K
    refine no_ 102 ?_
    refine pu_ 35 (some 103) ?_
    refine pu_ 36 (some 104) ?_
    refine pu_ 37 (some 105) ?_
    refine pu_ 39 (some 107) ?_
    refine pu_ 41 (some 109) ?_
    refine ta_ 38 (some 106) (s := hHeld) (y := by rintro w' ⟨s0, s1, s2, s3, s4, s5, s6, s7, s8, s9, s10, s11⟩; go_simp; with_reducible rfl) (h := ?_)
    refine ta_ 40 (some 108) (s := hHeld) (y := by rintro w' ⟨s0, s1, s2, s3, s4, s5, s6, s7, s8, s9, s10, s11⟩; go_simp; with_reducible rfl) (h := ?_)
    refine pu_ 42 (some 110) ?_
    refine ta_ 43 (some 111) (s := hHeld) (y := by rintro w' ⟨s0, s1, s2, s3, s4, s5, s6, s7, s8, s9, s10, s11⟩; go_simp; with_reducible rfl) (h := ?_)
    refine one_ (i := 44) (N := some 112) #[true, true, true, true, true, true, true, true, true, true, true, true, true, true, true, true, true, true, true, true, true, true, true, true, true, true, true, true, true, true, true, true, true, true, true, true, true, true, true, true, true, true, true, true, true, false, false, false, false, false, false, false, false, false, false, false, false, false, false, false, false, false] rfl rfl (by kernel_rfl) (by decide) (fun K hK => ?_)
    refine goes_ Tryd.func59 (by kernel_rfl) rfl #[.agg #[.int .i64 u1, .int .i64 u2], .int .i64 wd] (by rfl) rfl rfl (by simp only [List.map_toArray, List.map_cons, List.map_nil]; rfl) ?_
    refine (HH2.out _).mono ?_
    rintro e W34 ⟨rfl, hb⟩
    refine ⟨_, rfl, ?_⟩
    have hg := g_below hb
    replace Rw := Lib.hid (R_typed_grown Rw.out hg (fun g e => by cases e))
    replace Rs := Lib.hid (R_typed_grown Rs.out hg (fun g e => by cases e))
    replace Rk := Lib.hid (R_typed_grown Rk.out hg (fun g e => by cases e))
    replace Rl := Lib.hid (R_typed_grown Rl.out hg (fun g e => by cases e))
    replace HK := Lib.hid (blk_grown HK.out hg (by simp))
    replace HT := Lib.hid (blk_grown HT.out hg (by simp))
    replace HX := Lib.hid (blk_grown HX.out hg (by simp))
    replace HS := Lib.hid (blk_grown HS.out hg (by simp))
    replace HU := Lib.hid (blk_grown HU.out hg (by simp))
    replace HB := Lib.hid (HB.out.trans (below_weaken hb HB.out.size))
    clear hb hg
    refine hK.out _ _ ⟨(blk_cell HT.out 0).trans rfl, (blk_cell HT.out 1).trans rfl, (blk_cell HT.out 2).trans rfl, (blk_cell HT.out 3).trans rfl, (blk_cell HT.out 4).trans rfl, (blk_cell HS.out 0).trans rfl, (blk_cell HS.out 1).trans rfl, (blk_cell HU.out 0).trans rfl, (blk_cell HU.out 1).trans rfl, cell_of_C (Kd.R_reads' Rk.out).2.2 HKD.out, cell_of_C (Kd.R_reads' Rw.out).2.2 HWD.out, cell_of_C (Kd.R_reads' Rs.out).2.2 HSD.out⟩ (fun hHeld => ?_)
    clear hK K
    refine no_ 112 ?_
    refine pu_ 45 (some 113) ?_
    refine pu_ 46 (some 114) ?_
    refine pu_ 47 (some 115) ?_
    refine pu_ 48 (some 116) ?_
    refine one_ (i := 49) (N := some 117) #[true, true, true, true, true, true, true, true, true, true, true, true, true, true, true, true, true, true, true, true, true, true, true, true, true, true, true, true, true, true, true, true, true, true, true, true, true, true, true, true, true, true, true, true, true, true, true, true, true, true, false, false, false, false, false, false, false, false, false, false, false, false] rfl rfl (by kernel_rfl) (by decide) (fun K hK => ?_)
    refine goes_ Tryd.func60 (by kernel_rfl) rfl #[.int .i64 sky, .int .i64 1, .int .i64 7] (by rfl) rfl rfl (by simp only [List.map_toArray, List.map_cons, List.map_nil]; rfl) ?_
    refine (HAM.out _).mono ?_
    rintro e W35 ⟨rfl, hb⟩
    refine ⟨_, rfl, ?_⟩
    have hg := g_below hb
    replace Rw := Lib.hid (R_typed_grown Rw.out hg (fun g e => by cases e))
    replace Rs := Lib.hid (R_typed_grown Rs.out hg (fun g e => by cases e))
    replace Rk := Lib.hid (R_typed_grown Rk.out hg (fun g e => by cases e))
    replace Rl := Lib.hid (R_typed_grown Rl.out hg (fun g e => by cases e))
    replace HK := Lib.hid (blk_grown HK.out hg (by simp))
    replace HT := Lib.hid (blk_grown HT.out hg (by simp))
    replace HX := Lib.hid (blk_grown HX.out hg (by simp))
    replace HS := Lib.hid (blk_grown HS.out hg (by simp))
    replace HU := Lib.hid (blk_grown HU.out hg (by simp))
    replace HB := Lib.hid (HB.out.trans (below_weaken hb HB.out.size))
    clear hb hg
    refine hK.out _ _ ⟨(blk_cell HT.out 0).trans rfl, (blk_cell HT.out 1).trans rfl, (blk_cell HT.out 2).trans rfl, (blk_cell HT.out 3).trans rfl, (blk_cell HT.out 4).trans rfl, (blk_cell HS.out 0).trans rfl, (blk_cell HS.out 1).trans rfl, (blk_cell HU.out 0).trans rfl, (blk_cell HU.out 1).trans rfl, cell_of_C (Kd.R_reads' Rk.out).2.2 HKD.out, cell_of_C (Kd.R_reads' Rw.out).2.2 HWD.out, cell_of_C (Kd.R_reads' Rs.out).2.2 HSD.out⟩ (fun hHeld => ?_)
    clear hK K
    refine no_ 117 ?_
    refine pu_ 50 (some 118) ?_
    refine pu_ 51 (some 119) ?_
    refine pu_ 52 (some 120) ?_
    refine pu_ 53 (some 121) ?_
    refine pu_ 54 (some 122) ?_
    refine pu_ 56 (some 124) ?_
    refine ta_ 55 (some 123) (s := hHeld) (y := by rintro w' ⟨s0, s1, s2, s3, s4, s5, s6, s7, s8, s9, s10, s11⟩; go_simp; with_reducible rfl) (h := ?_)
    refine pu_ 57 (some 125) ?_
    refine ta_ 58 (some 126) (s := hHeld) (y := by rintro w' ⟨s0, s1, s2, s3, s4, s5, s6, s7, s8, s9, s10, s11⟩; go_simp; with_reducible rfl) (h := ?_)
    refine one_ (i := 59) (N := some 127) #[true, true, true, true, true, true, true, true, true, true, true, true, true, true, true, true, true, true, true, true, true, true, true, true, true, true, true, true, true, true, true, true, true, true, true, true, true, true, true, true, true, true, true, true, true, true, true, true, true, true, true, true, true, true, true, true, true, true, true, true, false, false] rfl rfl (by kernel_rfl) (by decide) (fun K hK => ?_)
    refine goes_ Tryd.func61 (by kernel_rfl) rfl #[.int .i64 sky, .int .i64 sd] (by rfl) rfl rfl (by simp only [List.map_toArray, List.map_cons, List.map_nil]; rfl) ?_
    refine (HIN.out _).mono ?_
    rintro e W36 ⟨rfl, hb⟩
    refine ⟨_, rfl, ?_⟩
    have hg := g_below hb
    replace Rw := Lib.hid (R_typed_grown Rw.out hg (fun g e => by cases e))
    replace Rs := Lib.hid (R_typed_grown Rs.out hg (fun g e => by cases e))
    replace Rk := Lib.hid (R_typed_grown Rk.out hg (fun g e => by cases e))
    replace Rl := Lib.hid (R_typed_grown Rl.out hg (fun g e => by cases e))
    replace HK := Lib.hid (blk_grown HK.out hg (by simp))
    replace HT := Lib.hid (blk_grown HT.out hg (by simp))
    replace HX := Lib.hid (blk_grown HX.out hg (by simp))
    replace HS := Lib.hid (blk_grown HS.out hg (by simp))
    replace HU := Lib.hid (blk_grown HU.out hg (by simp))
    replace HB := Lib.hid (HB.out.trans (below_weaken hb HB.out.size))
    clear hb hg
    refine hK.out _ _ ⟨(blk_cell HT.out 0).trans rfl, (blk_cell HT.out 1).trans rfl, (blk_cell HT.out 2).trans rfl, (blk_cell HT.out 3).trans rfl, (blk_cell HT.out 4).trans rfl, (blk_cell HS.out 0).trans rfl, (blk_cell HS.out 1).trans rfl, (blk_cell HU.out 0).trans rfl, (blk_cell HU.out 1).trans rfl, cell_of_C (Kd.R_reads' Rk.out).2.2 HKD.out, cell_of_C (Kd.R_reads' Rw.out).2.2 HWD.out, cell_of_C (Kd.R_reads' Rs.out).2.2 HSD.out⟩ (fun hHeld => ?_)
    clear hK K
    refine no_ 127 ?_
    refine pu_ 60 (some 128) ?_
    refine pu_ 61 (some 129) ?_
    refine done_ (by kernel_rfl) ?_

    go_wp2
    go_meet
    case rel => exact ⟨by first | rfl | (simp; done) | (simp [*]; done), ⟨HK.out⟩, ⟨HT.out⟩, ⟨HX.out⟩, ⟨HS.out⟩, ⟨HU.out⟩, ⟨Rw.out⟩, ⟨Rs.out⟩, ⟨Rk.out⟩, ⟨Rl.out⟩, ⟨HB.out⟩⟩

  case rest => as_aux_lemma =>
    clear HK HT HX HS HU Rw Rs Rk Rl HB
    obtain ⟨rfl, HK, HT, HX, HS, HU, Rw, Rs, Rk, Rl, HB⟩ := hcut
    have cK_0 := (blk_cell HK.out 0).trans rfl
    have cK_1 := (blk_cell HK.out 1).trans rfl
    have cK_2 := (blk_cell HK.out 2).trans rfl
    have lK := blk_lt HK.out
    have cT_0 := (blk_cell HT.out 0).trans rfl
    have cT_1 := (blk_cell HT.out 1).trans rfl
    have cT_2 := (blk_cell HT.out 2).trans rfl
    have cT_3 := (blk_cell HT.out 3).trans rfl
    have cT_4 := (blk_cell HT.out 4).trans rfl
    have lT := blk_lt HT.out
    have cX_0 := (blk_cell HX.out 0).trans rfl
    have cX_1 := (blk_cell HX.out 1).trans rfl
    have cX_2 := (blk_cell HX.out 2).trans rfl
    have lX := blk_lt HX.out
    have cS_0 := (blk_cell HS.out 0).trans rfl
    have cS_1 := (blk_cell HS.out 1).trans rfl
    have lS := blk_lt HS.out
    have cU_0 := (blk_cell HU.out 0).trans rfl
    have cU_1 := (blk_cell HU.out 1).trans rfl
    have lU := blk_lt HU.out
    go_wp2_with fail
    clear cK_0 cK_1 cK_2 lK cT_0 cT_1 cT_2 cT_3 cT_4 lT cX_0 cX_1 cX_2 lX cS_0 cS_1 lS cU_0 cU_1 lU
    refine (HLO.out _ _ _ HB.out (Kd.R_reads' Rl.out).2.2 (Kd.R_reads' Rl.out).2.1).mono ?_
    rintro e W73 ⟨rfl, hb⟩
    have hg := g_below hb
    replace Rw := Lib.hid (R_typed_grown Rw.out hg (fun g e => by cases e))
    replace Rs := Lib.hid (R_typed_grown Rs.out hg (fun g e => by cases e))
    replace Rk := Lib.hid (R_typed_grown Rk.out hg (fun g e => by cases e))
    replace Rl := Lib.hid (R_typed_grown Rl.out hg (fun g e => by cases e))
    replace HK := Lib.hid (blk_grown HK.out hg (by simp))
    replace HT := Lib.hid (blk_grown HT.out hg (by simp))
    replace HX := Lib.hid (blk_grown HX.out hg (by simp))
    replace HS := Lib.hid (blk_grown HS.out hg (by simp))
    replace HU := Lib.hid (blk_grown HU.out hg (by simp))
    replace HB := Lib.hid (HB.out.trans (below_weaken hb HB.out.size))
    clear hb hg
    have cK_0 := (blk_cell HK.out 0).trans rfl
    have cK_1 := (blk_cell HK.out 1).trans rfl
    have cK_2 := (blk_cell HK.out 2).trans rfl
    have lK := blk_lt HK.out
    have cT_0 := (blk_cell HT.out 0).trans rfl
    have cT_1 := (blk_cell HT.out 1).trans rfl
    have cT_2 := (blk_cell HT.out 2).trans rfl
    have cT_3 := (blk_cell HT.out 3).trans rfl
    have cT_4 := (blk_cell HT.out 4).trans rfl
    have lT := blk_lt HT.out
    have cX_0 := (blk_cell HX.out 0).trans rfl
    have cX_1 := (blk_cell HX.out 1).trans rfl
    have cX_2 := (blk_cell HX.out 2).trans rfl
    have lX := blk_lt HX.out
    have cS_0 := (blk_cell HS.out 0).trans rfl
    have cS_1 := (blk_cell HS.out 1).trans rfl
    have lS := blk_lt HS.out
    have cU_0 := (blk_cell HU.out 0).trans rfl
    have cU_1 := (blk_cell HU.out 1).trans rfl
    have lU := blk_lt HU.out
    go_wp2_with fail
    clear cK_0 cK_1 cK_2 lK cT_0 cT_1 cT_2 cT_3 cT_4 lT cX_0 cX_1 cX_2 lX cS_0 cS_1 lS cU_0 cU_1 lU
    have LqK_73 := blk_lt HK.out
    have LqT_73 := blk_lt HT.out
    have LqX_73 := blk_lt HX.out
    have LqS_73 := blk_lt HS.out
    have LqU_73 := blk_lt HU.out
    obtain ⟨W74, hnw⟩ : ∃ W, W = (W73.alloc (.cells #[.int .i64 p1, .int .i64 p2] 32)) := ⟨_, rfl⟩
    rw [← hnw]
    have hg : W73.grownBy W74 (none) := by rw [hnw]; exact (g_all (g_refl W73 (none)) (.cells #[.int .i64 p1, .int .i64 p2] 32))
    have HP := Lib.hid (show W74.heap[W73.heap.size]? = some (.cells #[.int .i64 p1, .int .i64 p2] 32 (0, 0)) by rw [hnw]; exact blk_at W73 (.cells #[.int .i64 p1, .int .i64 p2] 32) _ (by simp))
    replace Rw := Lib.hid (R_typed_grown Rw.out hg (fun g e => by cases e))
    replace Rs := Lib.hid (R_typed_grown Rs.out hg (fun g e => by cases e))
    replace Rk := Lib.hid (R_typed_grown Rk.out hg (fun g e => by cases e))
    replace Rl := Lib.hid (R_typed_grown Rl.out hg (fun g e => by cases e))
    replace HK := Lib.hid (blk_grown HK.out hg (by simp))
    replace HT := Lib.hid (blk_grown HT.out hg (by simp))
    replace HX := Lib.hid (blk_grown HX.out hg (by simp))
    replace HS := Lib.hid (blk_grown HS.out hg (by simp))
    replace HU := Lib.hid (blk_grown HU.out hg (by simp))
    replace HB := Lib.hid (HB.out.grown hg HB.out.size (fun k e => by cases e))
    clear hg hnw
    refine (HLA.out _ _ _ HB.out (Kd.R_reads' Rl.out).2.2 (Kd.R_reads' Rl.out).2.1).mono ?_
    rintro e W75 ⟨rfl, hb⟩
    have hg := g_below hb
    replace Rw := Lib.hid (R_typed_grown Rw.out hg (fun g e => by cases e))
    replace Rs := Lib.hid (R_typed_grown Rs.out hg (fun g e => by cases e))
    replace Rk := Lib.hid (R_typed_grown Rk.out hg (fun g e => by cases e))
    replace Rl := Lib.hid (R_typed_grown Rl.out hg (fun g e => by cases e))
    replace HK := Lib.hid (blk_grown HK.out hg (by simp))
    replace HT := Lib.hid (blk_grown HT.out hg (by simp))
    replace HX := Lib.hid (blk_grown HX.out hg (by simp))
    replace HS := Lib.hid (blk_grown HS.out hg (by simp))
    replace HU := Lib.hid (blk_grown HU.out hg (by simp))
    replace HP := Lib.hid (blk_grown HP.out hg (by simp))
    replace HB := Lib.hid (HB.out.trans (below_weaken hb HB.out.size))
    clear hb hg
    have cK_0 := (blk_cell HK.out 0).trans rfl
    have cK_1 := (blk_cell HK.out 1).trans rfl
    have cK_2 := (blk_cell HK.out 2).trans rfl
    have lK := blk_lt HK.out
    have cT_0 := (blk_cell HT.out 0).trans rfl
    have cT_1 := (blk_cell HT.out 1).trans rfl
    have cT_2 := (blk_cell HT.out 2).trans rfl
    have cT_3 := (blk_cell HT.out 3).trans rfl
    have cT_4 := (blk_cell HT.out 4).trans rfl
    have lT := blk_lt HT.out
    have cX_0 := (blk_cell HX.out 0).trans rfl
    have cX_1 := (blk_cell HX.out 1).trans rfl
    have cX_2 := (blk_cell HX.out 2).trans rfl
    have lX := blk_lt HX.out
    have cS_0 := (blk_cell HS.out 0).trans rfl
    have cS_1 := (blk_cell HS.out 1).trans rfl
    have lS := blk_lt HS.out
    have cU_0 := (blk_cell HU.out 0).trans rfl
    have cU_1 := (blk_cell HU.out 1).trans rfl
    have lU := blk_lt HU.out
    have cP_0 := (blk_cell HP.out 0).trans rfl
    have cP_1 := (blk_cell HP.out 1).trans rfl
    have lP := blk_lt HP.out
    go_wp2_with fail
    clear cK_0 cK_1 cK_2 lK cT_0 cT_1 cT_2 cT_3 cT_4 lT cX_0 cX_1 cX_2 lX cS_0 cS_1 lS cU_0 cU_1 lU cP_0 cP_1 lP
    have LqK_75 := blk_lt HK.out
    have LqT_75 := blk_lt HT.out
    have LqX_75 := blk_lt HX.out
    have LqS_75 := blk_lt HS.out
    have LqU_75 := blk_lt HU.out
    have LqP_75 := blk_lt HP.out
    obtain ⟨W76, hnw⟩ : ∃ W, W = (W75.alloc (.cells #[.int .i64 q1, .int .i64 q2] 32)) := ⟨_, rfl⟩
    rw [← hnw]
    have hg : W75.grownBy W76 (none) := by rw [hnw]; exact (g_all (g_refl W75 (none)) (.cells #[.int .i64 q1, .int .i64 q2] 32))
    have HQ := Lib.hid (show W76.heap[W75.heap.size]? = some (.cells #[.int .i64 q1, .int .i64 q2] 32 (0, 0)) by rw [hnw]; exact blk_at W75 (.cells #[.int .i64 q1, .int .i64 q2] 32) _ (by simp))
    replace Rw := Lib.hid (R_typed_grown Rw.out hg (fun g e => by cases e))
    replace Rs := Lib.hid (R_typed_grown Rs.out hg (fun g e => by cases e))
    replace Rk := Lib.hid (R_typed_grown Rk.out hg (fun g e => by cases e))
    replace Rl := Lib.hid (R_typed_grown Rl.out hg (fun g e => by cases e))
    replace HK := Lib.hid (blk_grown HK.out hg (by simp))
    replace HT := Lib.hid (blk_grown HT.out hg (by simp))
    replace HX := Lib.hid (blk_grown HX.out hg (by simp))
    replace HS := Lib.hid (blk_grown HS.out hg (by simp))
    replace HU := Lib.hid (blk_grown HU.out hg (by simp))
    replace HP := Lib.hid (blk_grown HP.out hg (by simp))
    replace HB := Lib.hid (HB.out.grown hg HB.out.size (fun k e => by cases e))
    clear hg hnw
    refine (HDO.out _ _ _ HB.out (Kd.R_reads' Rl.out).2.2 (Kd.R_reads' Rl.out).2.1).mono ?_
    rintro e W77 ⟨rfl, hb⟩
    have hg := g_below hb
    replace Rw := Lib.hid (R_typed_grown Rw.out hg (fun g e => by cases e))
    replace Rs := Lib.hid (R_typed_grown Rs.out hg (fun g e => by cases e))
    replace Rk := Lib.hid (R_typed_grown Rk.out hg (fun g e => by cases e))
    replace Rl := Lib.hid (R_typed_grown Rl.out hg (fun g e => by cases e))
    replace HK := Lib.hid (blk_grown HK.out hg (by simp))
    replace HT := Lib.hid (blk_grown HT.out hg (by simp))
    replace HX := Lib.hid (blk_grown HX.out hg (by simp))
    replace HS := Lib.hid (blk_grown HS.out hg (by simp))
    replace HU := Lib.hid (blk_grown HU.out hg (by simp))
    replace HP := Lib.hid (blk_grown HP.out hg (by simp))
    replace HQ := Lib.hid (blk_grown HQ.out hg (by simp))
    replace HB := Lib.hid (HB.out.trans (below_weaken hb HB.out.size))
    clear hb hg
    have cK_0 := (blk_cell HK.out 0).trans rfl
    have cK_1 := (blk_cell HK.out 1).trans rfl
    have cK_2 := (blk_cell HK.out 2).trans rfl
    have lK := blk_lt HK.out
    have cT_0 := (blk_cell HT.out 0).trans rfl
    have cT_1 := (blk_cell HT.out 1).trans rfl
    have cT_2 := (blk_cell HT.out 2).trans rfl
    have cT_3 := (blk_cell HT.out 3).trans rfl
    have cT_4 := (blk_cell HT.out 4).trans rfl
    have lT := blk_lt HT.out
    have cX_0 := (blk_cell HX.out 0).trans rfl
    have cX_1 := (blk_cell HX.out 1).trans rfl
    have cX_2 := (blk_cell HX.out 2).trans rfl
    have lX := blk_lt HX.out
    have cS_0 := (blk_cell HS.out 0).trans rfl
    have cS_1 := (blk_cell HS.out 1).trans rfl
    have lS := blk_lt HS.out
    have cU_0 := (blk_cell HU.out 0).trans rfl
    have cU_1 := (blk_cell HU.out 1).trans rfl
    have lU := blk_lt HU.out
    have cP_0 := (blk_cell HP.out 0).trans rfl
    have cP_1 := (blk_cell HP.out 1).trans rfl
    have lP := blk_lt HP.out
    have cQ_0 := (blk_cell HQ.out 0).trans rfl
    have cQ_1 := (blk_cell HQ.out 1).trans rfl
    have lQ := blk_lt HQ.out
    go_wp2_with fail
    clear cK_0 cK_1 cK_2 lK cT_0 cT_1 cT_2 cT_3 cT_4 lT cX_0 cX_1 cX_2 lX cS_0 cS_1 lS cU_0 cU_1 lU cP_0 cP_1 lP cQ_0 cQ_1 lQ
    refine (HPE.out _ _ _ HB.out (Kd.R_reads' Rl.out).2.2 (Kd.R_reads' Rl.out).2.1).mono ?_
    rintro e W78 ⟨rfl, hb⟩
    have hg := g_below hb
    replace Rw := Lib.hid (R_typed_grown Rw.out hg (fun g e => by cases e))
    replace Rs := Lib.hid (R_typed_grown Rs.out hg (fun g e => by cases e))
    replace Rk := Lib.hid (R_typed_grown Rk.out hg (fun g e => by cases e))
    replace Rl := Lib.hid (R_typed_grown Rl.out hg (fun g e => by cases e))
    replace HK := Lib.hid (blk_grown HK.out hg (by simp))
    replace HT := Lib.hid (blk_grown HT.out hg (by simp))
    replace HX := Lib.hid (blk_grown HX.out hg (by simp))
    replace HS := Lib.hid (blk_grown HS.out hg (by simp))
    replace HU := Lib.hid (blk_grown HU.out hg (by simp))
    replace HP := Lib.hid (blk_grown HP.out hg (by simp))
    replace HQ := Lib.hid (blk_grown HQ.out hg (by simp))
    replace HB := Lib.hid (HB.out.trans (below_weaken hb HB.out.size))
    clear hb hg
    have cK_0 := (blk_cell HK.out 0).trans rfl
    have cK_1 := (blk_cell HK.out 1).trans rfl
    have cK_2 := (blk_cell HK.out 2).trans rfl
    have lK := blk_lt HK.out
    have cT_0 := (blk_cell HT.out 0).trans rfl
    have cT_1 := (blk_cell HT.out 1).trans rfl
    have cT_2 := (blk_cell HT.out 2).trans rfl
    have cT_3 := (blk_cell HT.out 3).trans rfl
    have cT_4 := (blk_cell HT.out 4).trans rfl
    have lT := blk_lt HT.out
    have cX_0 := (blk_cell HX.out 0).trans rfl
    have cX_1 := (blk_cell HX.out 1).trans rfl
    have cX_2 := (blk_cell HX.out 2).trans rfl
    have lX := blk_lt HX.out
    have cS_0 := (blk_cell HS.out 0).trans rfl
    have cS_1 := (blk_cell HS.out 1).trans rfl
    have lS := blk_lt HS.out
    have cU_0 := (blk_cell HU.out 0).trans rfl
    have cU_1 := (blk_cell HU.out 1).trans rfl
    have lU := blk_lt HU.out
    have cP_0 := (blk_cell HP.out 0).trans rfl
    have cP_1 := (blk_cell HP.out 1).trans rfl
    have lP := blk_lt HP.out
    have cQ_0 := (blk_cell HQ.out 0).trans rfl
    have cQ_1 := (blk_cell HQ.out 1).trans rfl
    have lQ := blk_lt HQ.out
    go_upto_region 16 with fail
    clear cK_0 cK_1 cK_2 lK cT_0 cT_1 cT_2 cT_3 cT_4 lT cX_0 cX_1 cX_2 lX cS_0 cS_1 lS cU_0 cU_1 lU cP_0 cP_1 lP cQ_0 cQ_1 lQ
    go_cut [185] from 25 (fun v185 wc => v185 = .bool false ∧ Aside0 (wc.heap[w.heap.size]? = some (.cells #[.slice A0 l0.length c0, .slice A1 l1.length c1, .slice A2 l2.length c2] 26 (0, 0))) ∧ Aside0 (wc.heap[W3.heap.size]? = some (.cells #[.slice (some ⟨bw, ow, none⟩) nd cw, .slice (some ⟨bs, os, none⟩) nd cs, .slice (some ⟨bk, ok, none⟩) kb.length ck, .int .i64 la, .int .i64 lo] 77 (0, 0))) ∧ Aside0 (wc.heap[gX_]? = some (.cells #[.slice A0 l0.length c0, .slice A1 l1.length c1, .slice Ax lk.length cx] 26 (0, 0))) ∧ Aside0 (wc.heap[W28.heap.size]? = some (.cells #[.int .i64 s1, .int .i64 s2] 32 (0, 0))) ∧ Aside0 (wc.heap[W30.heap.size]? = some (.cells #[.int .i64 u1, .int .i64 u2] 32 (0, 0))) ∧ Aside0 (wc.heap[W73.heap.size]? = some (.cells #[.int .i64 p1, .int .i64 p2] 32 (0, 0))) ∧ Aside0 (wc.heap[W75.heap.size]? = some (.cells #[.int .i64 q1, .int .i64 q2] 32 (0, 0))) ∧ Aside0 (Kd.R (Kd.int .i64) 3 wc w.heap.size (fun _ => True) (.slice (some ⟨bw, ow, none⟩) nd cw) (wl)) ∧ Aside0 (Kd.R (Kd.int .i64) 3 wc w.heap.size (fun _ => True) (.slice (some ⟨bs, os, none⟩) nd cs) (sl)) ∧ Aside0 (Kd.R (Kd.int .i64) 3 wc w.heap.size (fun _ => True) (.slice (some ⟨bk, ok, none⟩) kb.length ck) (kb)) ∧ Aside0 (Kd.R k43 43 wc w.heap.size (fun _ => True) (.slice Ax lk.length cx) (lk)) ∧ Aside0 (Below w.heap.size w wc))
    case first => as_aux_lemma =>
      have cK_0 := (blk_cell HK.out 0).trans rfl
      have cK_1 := (blk_cell HK.out 1).trans rfl
      have cK_2 := (blk_cell HK.out 2).trans rfl
      have lK := blk_lt HK.out
      have cT_0 := (blk_cell HT.out 0).trans rfl
      have cT_1 := (blk_cell HT.out 1).trans rfl
      have cT_2 := (blk_cell HT.out 2).trans rfl
      have cT_3 := (blk_cell HT.out 3).trans rfl
      have cT_4 := (blk_cell HT.out 4).trans rfl
      have lT := blk_lt HT.out
      have cX_0 := (blk_cell HX.out 0).trans rfl
      have cX_1 := (blk_cell HX.out 1).trans rfl
      have cX_2 := (blk_cell HX.out 2).trans rfl
      have lX := blk_lt HX.out
      have cS_0 := (blk_cell HS.out 0).trans rfl
      have cS_1 := (blk_cell HS.out 1).trans rfl
      have lS := blk_lt HS.out
      have cU_0 := (blk_cell HU.out 0).trans rfl
      have cU_1 := (blk_cell HU.out 1).trans rfl
      have lU := blk_lt HU.out
      have cP_0 := (blk_cell HP.out 0).trans rfl
      have cP_1 := (blk_cell HP.out 1).trans rfl
      have lP := blk_lt HP.out
      have cQ_0 := (blk_cell HQ.out 0).trans rfl
      have cQ_1 := (blk_cell HQ.out 1).trans rfl
      have lQ := blk_lt HQ.out
      rcases HDX.out.1 with hxa | ⟨hxa, _⟩
      · skip
        have hxb : x2 = 4 := hxa
        clear hxa
        have hxc : (x2 != 0) = true := by rw [hxb]; rfl
        have hxd : (x2 != 4) = false := by rw [hxb]; rfl
        clear hxb
        rcases HDX.out.2 with ⟨hza, hzb⟩ | hza
        · skip
          go_wp2_with fail
          clear cK_0 cK_1 cK_2 lK cT_0 cT_1 cT_2 cT_3 cT_4 lT cX_0 cX_1 cX_2 lX cS_0 cS_1 lS cU_0 cU_1 lU cP_0 cP_1 lP cQ_0 cQ_1 lQ
          refine (HH3.out _).mono ?_
          rintro e W79 ⟨rfl, hb⟩
          have hg := g_below hb
          replace Rw := Lib.hid (R_typed_grown Rw.out hg (fun g e => by cases e))
          replace Rs := Lib.hid (R_typed_grown Rs.out hg (fun g e => by cases e))
          replace Rk := Lib.hid (R_typed_grown Rk.out hg (fun g e => by cases e))
          replace Rl := Lib.hid (R_typed_grown Rl.out hg (fun g e => by cases e))
          replace HK := Lib.hid (blk_grown HK.out hg (by simp))
          replace HT := Lib.hid (blk_grown HT.out hg (by simp))
          replace HX := Lib.hid (blk_grown HX.out hg (by simp))
          replace HS := Lib.hid (blk_grown HS.out hg (by simp))
          replace HU := Lib.hid (blk_grown HU.out hg (by simp))
          replace HP := Lib.hid (blk_grown HP.out hg (by simp))
          replace HQ := Lib.hid (blk_grown HQ.out hg (by simp))
          replace HB := Lib.hid (HB.out.trans (below_weaken hb HB.out.size))
          clear hb hg
          have cK_0 := (blk_cell HK.out 0).trans rfl
          have cK_1 := (blk_cell HK.out 1).trans rfl
          have cK_2 := (blk_cell HK.out 2).trans rfl
          have lK := blk_lt HK.out
          have cT_0 := (blk_cell HT.out 0).trans rfl
          have cT_1 := (blk_cell HT.out 1).trans rfl
          have cT_2 := (blk_cell HT.out 2).trans rfl
          have cT_3 := (blk_cell HT.out 3).trans rfl
          have cT_4 := (blk_cell HT.out 4).trans rfl
          have lT := blk_lt HT.out
          have cX_0 := (blk_cell HX.out 0).trans rfl
          have cX_1 := (blk_cell HX.out 1).trans rfl
          have cX_2 := (blk_cell HX.out 2).trans rfl
          have lX := blk_lt HX.out
          have cS_0 := (blk_cell HS.out 0).trans rfl
          have cS_1 := (blk_cell HS.out 1).trans rfl
          have lS := blk_lt HS.out
          have cU_0 := (blk_cell HU.out 0).trans rfl
          have cU_1 := (blk_cell HU.out 1).trans rfl
          have lU := blk_lt HU.out
          have cP_0 := (blk_cell HP.out 0).trans rfl
          have cP_1 := (blk_cell HP.out 1).trans rfl
          have lP := blk_lt HP.out
          have cQ_0 := (blk_cell HQ.out 0).trans rfl
          have cQ_1 := (blk_cell HQ.out 1).trans rfl
          have lQ := blk_lt HQ.out
          go_wp2_with fail
          clear cK_0 cK_1 cK_2 lK cT_0 cT_1 cT_2 cT_3 cT_4 lT cX_0 cX_1 cX_2 lX cS_0 cS_1 lS cU_0 cU_1 lU cP_0 cP_1 lP cQ_0 cQ_1 lQ
          refine (HH4.out _).mono ?_
          rintro e W80 ⟨rfl, hb⟩
          have hg := g_below hb
          replace Rw := Lib.hid (R_typed_grown Rw.out hg (fun g e => by cases e))
          replace Rs := Lib.hid (R_typed_grown Rs.out hg (fun g e => by cases e))
          replace Rk := Lib.hid (R_typed_grown Rk.out hg (fun g e => by cases e))
          replace Rl := Lib.hid (R_typed_grown Rl.out hg (fun g e => by cases e))
          replace HK := Lib.hid (blk_grown HK.out hg (by simp))
          replace HT := Lib.hid (blk_grown HT.out hg (by simp))
          replace HX := Lib.hid (blk_grown HX.out hg (by simp))
          replace HS := Lib.hid (blk_grown HS.out hg (by simp))
          replace HU := Lib.hid (blk_grown HU.out hg (by simp))
          replace HP := Lib.hid (blk_grown HP.out hg (by simp))
          replace HQ := Lib.hid (blk_grown HQ.out hg (by simp))
          replace HB := Lib.hid (HB.out.trans (below_weaken hb HB.out.size))
          clear hb hg
          have cK_0 := (blk_cell HK.out 0).trans rfl
          have cK_1 := (blk_cell HK.out 1).trans rfl
          have cK_2 := (blk_cell HK.out 2).trans rfl
          have lK := blk_lt HK.out
          have cT_0 := (blk_cell HT.out 0).trans rfl
          have cT_1 := (blk_cell HT.out 1).trans rfl
          have cT_2 := (blk_cell HT.out 2).trans rfl
          have cT_3 := (blk_cell HT.out 3).trans rfl
          have cT_4 := (blk_cell HT.out 4).trans rfl
          have lT := blk_lt HT.out
          have cX_0 := (blk_cell HX.out 0).trans rfl
          have cX_1 := (blk_cell HX.out 1).trans rfl
          have cX_2 := (blk_cell HX.out 2).trans rfl
          have lX := blk_lt HX.out
          have cS_0 := (blk_cell HS.out 0).trans rfl
          have cS_1 := (blk_cell HS.out 1).trans rfl
          have lS := blk_lt HS.out
          have cU_0 := (blk_cell HU.out 0).trans rfl
          have cU_1 := (blk_cell HU.out 1).trans rfl
          have lU := blk_lt HU.out
          have cP_0 := (blk_cell HP.out 0).trans rfl
          have cP_1 := (blk_cell HP.out 1).trans rfl
          have lP := blk_lt HP.out
          have cQ_0 := (blk_cell HQ.out 0).trans rfl
          have cQ_1 := (blk_cell HQ.out 1).trans rfl
          have lQ := blk_lt HQ.out
          clear cK_0 cK_1 cK_2 lK cT_0 cT_1 cT_2 cT_3 cT_4 lT cX_0 cX_1 cX_2 lX cS_0 cS_1 lS cU_0 cU_1 lU cP_0 cP_1 lP cQ_0 cQ_1 lQ
          go_wp2
          go_meet
          case rel => exact ⟨by first | rfl | (simp; done) | (simp [*]; done), ⟨HK.out⟩, ⟨HT.out⟩, ⟨HX.out⟩, ⟨HS.out⟩, ⟨HU.out⟩, ⟨HP.out⟩, ⟨HQ.out⟩, ⟨Rw.out⟩, ⟨Rs.out⟩, ⟨Rk.out⟩, ⟨Rl.out⟩, ⟨HB.out⟩⟩

        · skip
          go_wp2_with fail
          clear cK_0 cK_1 cK_2 lK cT_0 cT_1 cT_2 cT_3 cT_4 lT cX_0 cX_1 cX_2 lX cS_0 cS_1 lS cU_0 cU_1 lU cP_0 cP_1 lP cQ_0 cQ_1 lQ
          refine (HH3.out _).mono ?_
          rintro e W79 ⟨rfl, hb⟩
          have hg := g_below hb
          replace Rw := Lib.hid (R_typed_grown Rw.out hg (fun g e => by cases e))
          replace Rs := Lib.hid (R_typed_grown Rs.out hg (fun g e => by cases e))
          replace Rk := Lib.hid (R_typed_grown Rk.out hg (fun g e => by cases e))
          replace Rl := Lib.hid (R_typed_grown Rl.out hg (fun g e => by cases e))
          replace HK := Lib.hid (blk_grown HK.out hg (by simp))
          replace HT := Lib.hid (blk_grown HT.out hg (by simp))
          replace HX := Lib.hid (blk_grown HX.out hg (by simp))
          replace HS := Lib.hid (blk_grown HS.out hg (by simp))
          replace HU := Lib.hid (blk_grown HU.out hg (by simp))
          replace HP := Lib.hid (blk_grown HP.out hg (by simp))
          replace HQ := Lib.hid (blk_grown HQ.out hg (by simp))
          replace HB := Lib.hid (HB.out.trans (below_weaken hb HB.out.size))
          clear hb hg
          have cK_0 := (blk_cell HK.out 0).trans rfl
          have cK_1 := (blk_cell HK.out 1).trans rfl
          have cK_2 := (blk_cell HK.out 2).trans rfl
          have lK := blk_lt HK.out
          have cT_0 := (blk_cell HT.out 0).trans rfl
          have cT_1 := (blk_cell HT.out 1).trans rfl
          have cT_2 := (blk_cell HT.out 2).trans rfl
          have cT_3 := (blk_cell HT.out 3).trans rfl
          have cT_4 := (blk_cell HT.out 4).trans rfl
          have lT := blk_lt HT.out
          have cX_0 := (blk_cell HX.out 0).trans rfl
          have cX_1 := (blk_cell HX.out 1).trans rfl
          have cX_2 := (blk_cell HX.out 2).trans rfl
          have lX := blk_lt HX.out
          have cS_0 := (blk_cell HS.out 0).trans rfl
          have cS_1 := (blk_cell HS.out 1).trans rfl
          have lS := blk_lt HS.out
          have cU_0 := (blk_cell HU.out 0).trans rfl
          have cU_1 := (blk_cell HU.out 1).trans rfl
          have lU := blk_lt HU.out
          have cP_0 := (blk_cell HP.out 0).trans rfl
          have cP_1 := (blk_cell HP.out 1).trans rfl
          have lP := blk_lt HP.out
          have cQ_0 := (blk_cell HQ.out 0).trans rfl
          have cQ_1 := (blk_cell HQ.out 1).trans rfl
          have lQ := blk_lt HQ.out
          go_wp2_with fail
          clear cK_0 cK_1 cK_2 lK cT_0 cT_1 cT_2 cT_3 cT_4 lT cX_0 cX_1 cX_2 lX cS_0 cS_1 lS cU_0 cU_1 lU cP_0 cP_1 lP cQ_0 cQ_1 lQ
          refine (HH4.out _).mono ?_
          rintro e W80 ⟨rfl, hb⟩
          have hg := g_below hb
          replace Rw := Lib.hid (R_typed_grown Rw.out hg (fun g e => by cases e))
          replace Rs := Lib.hid (R_typed_grown Rs.out hg (fun g e => by cases e))
          replace Rk := Lib.hid (R_typed_grown Rk.out hg (fun g e => by cases e))
          replace Rl := Lib.hid (R_typed_grown Rl.out hg (fun g e => by cases e))
          replace HK := Lib.hid (blk_grown HK.out hg (by simp))
          replace HT := Lib.hid (blk_grown HT.out hg (by simp))
          replace HX := Lib.hid (blk_grown HX.out hg (by simp))
          replace HS := Lib.hid (blk_grown HS.out hg (by simp))
          replace HU := Lib.hid (blk_grown HU.out hg (by simp))
          replace HP := Lib.hid (blk_grown HP.out hg (by simp))
          replace HQ := Lib.hid (blk_grown HQ.out hg (by simp))
          replace HB := Lib.hid (HB.out.trans (below_weaken hb HB.out.size))
          clear hb hg
          have cK_0 := (blk_cell HK.out 0).trans rfl
          have cK_1 := (blk_cell HK.out 1).trans rfl
          have cK_2 := (blk_cell HK.out 2).trans rfl
          have lK := blk_lt HK.out
          have cT_0 := (blk_cell HT.out 0).trans rfl
          have cT_1 := (blk_cell HT.out 1).trans rfl
          have cT_2 := (blk_cell HT.out 2).trans rfl
          have cT_3 := (blk_cell HT.out 3).trans rfl
          have cT_4 := (blk_cell HT.out 4).trans rfl
          have lT := blk_lt HT.out
          have cX_0 := (blk_cell HX.out 0).trans rfl
          have cX_1 := (blk_cell HX.out 1).trans rfl
          have cX_2 := (blk_cell HX.out 2).trans rfl
          have lX := blk_lt HX.out
          have cS_0 := (blk_cell HS.out 0).trans rfl
          have cS_1 := (blk_cell HS.out 1).trans rfl
          have lS := blk_lt HS.out
          have cU_0 := (blk_cell HU.out 0).trans rfl
          have cU_1 := (blk_cell HU.out 1).trans rfl
          have lU := blk_lt HU.out
          have cP_0 := (blk_cell HP.out 0).trans rfl
          have cP_1 := (blk_cell HP.out 1).trans rfl
          have lP := blk_lt HP.out
          have cQ_0 := (blk_cell HQ.out 0).trans rfl
          have cQ_1 := (blk_cell HQ.out 1).trans rfl
          have lQ := blk_lt HQ.out
          clear cK_0 cK_1 cK_2 lK cT_0 cT_1 cT_2 cT_3 cT_4 lT cX_0 cX_1 cX_2 lX cS_0 cS_1 lS cU_0 cU_1 lU cP_0 cP_1 lP cQ_0 cQ_1 lQ
          go_wp2
          go_meet
          case rel => exact ⟨by first | rfl | (simp; done) | (simp [*]; done), ⟨HK.out⟩, ⟨HT.out⟩, ⟨HX.out⟩, ⟨HS.out⟩, ⟨HU.out⟩, ⟨HP.out⟩, ⟨HQ.out⟩, ⟨Rw.out⟩, ⟨Rs.out⟩, ⟨Rk.out⟩, ⟨Rl.out⟩, ⟨HB.out⟩⟩


      · skip
        have hxb : x2 = 0 := hxa
        clear hxa
        have hxc : (x2 != 0) = false := by rw [hxb]; rfl
        have hxd : (x2 != 4) = true := by rw [hxb]; rfl
        clear hxb
        rcases HDX.out.2 with ⟨hza, hzb⟩ | hza
        · skip
          go_wp2_with fail
          clear cK_0 cK_1 cK_2 lK cT_0 cT_1 cT_2 cT_3 cT_4 lT cX_0 cX_1 cX_2 lX cS_0 cS_1 lS cU_0 cU_1 lU cP_0 cP_1 lP cQ_0 cQ_1 lQ
          refine (HH3.out _).mono ?_
          rintro e W79 ⟨rfl, hb⟩
          have hg := g_below hb
          replace Rw := Lib.hid (R_typed_grown Rw.out hg (fun g e => by cases e))
          replace Rs := Lib.hid (R_typed_grown Rs.out hg (fun g e => by cases e))
          replace Rk := Lib.hid (R_typed_grown Rk.out hg (fun g e => by cases e))
          replace Rl := Lib.hid (R_typed_grown Rl.out hg (fun g e => by cases e))
          replace HK := Lib.hid (blk_grown HK.out hg (by simp))
          replace HT := Lib.hid (blk_grown HT.out hg (by simp))
          replace HX := Lib.hid (blk_grown HX.out hg (by simp))
          replace HS := Lib.hid (blk_grown HS.out hg (by simp))
          replace HU := Lib.hid (blk_grown HU.out hg (by simp))
          replace HP := Lib.hid (blk_grown HP.out hg (by simp))
          replace HQ := Lib.hid (blk_grown HQ.out hg (by simp))
          replace HB := Lib.hid (HB.out.trans (below_weaken hb HB.out.size))
          clear hb hg
          have cK_0 := (blk_cell HK.out 0).trans rfl
          have cK_1 := (blk_cell HK.out 1).trans rfl
          have cK_2 := (blk_cell HK.out 2).trans rfl
          have lK := blk_lt HK.out
          have cT_0 := (blk_cell HT.out 0).trans rfl
          have cT_1 := (blk_cell HT.out 1).trans rfl
          have cT_2 := (blk_cell HT.out 2).trans rfl
          have cT_3 := (blk_cell HT.out 3).trans rfl
          have cT_4 := (blk_cell HT.out 4).trans rfl
          have lT := blk_lt HT.out
          have cX_0 := (blk_cell HX.out 0).trans rfl
          have cX_1 := (blk_cell HX.out 1).trans rfl
          have cX_2 := (blk_cell HX.out 2).trans rfl
          have lX := blk_lt HX.out
          have cS_0 := (blk_cell HS.out 0).trans rfl
          have cS_1 := (blk_cell HS.out 1).trans rfl
          have lS := blk_lt HS.out
          have cU_0 := (blk_cell HU.out 0).trans rfl
          have cU_1 := (blk_cell HU.out 1).trans rfl
          have lU := blk_lt HU.out
          have cP_0 := (blk_cell HP.out 0).trans rfl
          have cP_1 := (blk_cell HP.out 1).trans rfl
          have lP := blk_lt HP.out
          have cQ_0 := (blk_cell HQ.out 0).trans rfl
          have cQ_1 := (blk_cell HQ.out 1).trans rfl
          have lQ := blk_lt HQ.out
          go_wp2_with fail
          clear cK_0 cK_1 cK_2 lK cT_0 cT_1 cT_2 cT_3 cT_4 lT cX_0 cX_1 cX_2 lX cS_0 cS_1 lS cU_0 cU_1 lU cP_0 cP_1 lP cQ_0 cQ_1 lQ
          refine (HH4.out _).mono ?_
          rintro e W80 ⟨rfl, hb⟩
          have hg := g_below hb
          replace Rw := Lib.hid (R_typed_grown Rw.out hg (fun g e => by cases e))
          replace Rs := Lib.hid (R_typed_grown Rs.out hg (fun g e => by cases e))
          replace Rk := Lib.hid (R_typed_grown Rk.out hg (fun g e => by cases e))
          replace Rl := Lib.hid (R_typed_grown Rl.out hg (fun g e => by cases e))
          replace HK := Lib.hid (blk_grown HK.out hg (by simp))
          replace HT := Lib.hid (blk_grown HT.out hg (by simp))
          replace HX := Lib.hid (blk_grown HX.out hg (by simp))
          replace HS := Lib.hid (blk_grown HS.out hg (by simp))
          replace HU := Lib.hid (blk_grown HU.out hg (by simp))
          replace HP := Lib.hid (blk_grown HP.out hg (by simp))
          replace HQ := Lib.hid (blk_grown HQ.out hg (by simp))
          replace HB := Lib.hid (HB.out.trans (below_weaken hb HB.out.size))
          clear hb hg
          have cK_0 := (blk_cell HK.out 0).trans rfl
          have cK_1 := (blk_cell HK.out 1).trans rfl
          have cK_2 := (blk_cell HK.out 2).trans rfl
          have lK := blk_lt HK.out
          have cT_0 := (blk_cell HT.out 0).trans rfl
          have cT_1 := (blk_cell HT.out 1).trans rfl
          have cT_2 := (blk_cell HT.out 2).trans rfl
          have cT_3 := (blk_cell HT.out 3).trans rfl
          have cT_4 := (blk_cell HT.out 4).trans rfl
          have lT := blk_lt HT.out
          have cX_0 := (blk_cell HX.out 0).trans rfl
          have cX_1 := (blk_cell HX.out 1).trans rfl
          have cX_2 := (blk_cell HX.out 2).trans rfl
          have lX := blk_lt HX.out
          have cS_0 := (blk_cell HS.out 0).trans rfl
          have cS_1 := (blk_cell HS.out 1).trans rfl
          have lS := blk_lt HS.out
          have cU_0 := (blk_cell HU.out 0).trans rfl
          have cU_1 := (blk_cell HU.out 1).trans rfl
          have lU := blk_lt HU.out
          have cP_0 := (blk_cell HP.out 0).trans rfl
          have cP_1 := (blk_cell HP.out 1).trans rfl
          have lP := blk_lt HP.out
          have cQ_0 := (blk_cell HQ.out 0).trans rfl
          have cQ_1 := (blk_cell HQ.out 1).trans rfl
          have lQ := blk_lt HQ.out
          clear cK_0 cK_1 cK_2 lK cT_0 cT_1 cT_2 cT_3 cT_4 lT cX_0 cX_1 cX_2 lX cS_0 cS_1 lS cU_0 cU_1 lU cP_0 cP_1 lP cQ_0 cQ_1 lQ
          go_wp2
          go_meet
          case rel => exact ⟨by first | rfl | (simp; done) | (simp [*]; done), ⟨HK.out⟩, ⟨HT.out⟩, ⟨HX.out⟩, ⟨HS.out⟩, ⟨HU.out⟩, ⟨HP.out⟩, ⟨HQ.out⟩, ⟨Rw.out⟩, ⟨Rs.out⟩, ⟨Rk.out⟩, ⟨Rl.out⟩, ⟨HB.out⟩⟩

        · skip
          go_wp2_with fail
          clear cK_0 cK_1 cK_2 lK cT_0 cT_1 cT_2 cT_3 cT_4 lT cX_0 cX_1 cX_2 lX cS_0 cS_1 lS cU_0 cU_1 lU cP_0 cP_1 lP cQ_0 cQ_1 lQ
          refine (HH3.out _).mono ?_
          rintro e W79 ⟨rfl, hb⟩
          have hg := g_below hb
          replace Rw := Lib.hid (R_typed_grown Rw.out hg (fun g e => by cases e))
          replace Rs := Lib.hid (R_typed_grown Rs.out hg (fun g e => by cases e))
          replace Rk := Lib.hid (R_typed_grown Rk.out hg (fun g e => by cases e))
          replace Rl := Lib.hid (R_typed_grown Rl.out hg (fun g e => by cases e))
          replace HK := Lib.hid (blk_grown HK.out hg (by simp))
          replace HT := Lib.hid (blk_grown HT.out hg (by simp))
          replace HX := Lib.hid (blk_grown HX.out hg (by simp))
          replace HS := Lib.hid (blk_grown HS.out hg (by simp))
          replace HU := Lib.hid (blk_grown HU.out hg (by simp))
          replace HP := Lib.hid (blk_grown HP.out hg (by simp))
          replace HQ := Lib.hid (blk_grown HQ.out hg (by simp))
          replace HB := Lib.hid (HB.out.trans (below_weaken hb HB.out.size))
          clear hb hg
          have cK_0 := (blk_cell HK.out 0).trans rfl
          have cK_1 := (blk_cell HK.out 1).trans rfl
          have cK_2 := (blk_cell HK.out 2).trans rfl
          have lK := blk_lt HK.out
          have cT_0 := (blk_cell HT.out 0).trans rfl
          have cT_1 := (blk_cell HT.out 1).trans rfl
          have cT_2 := (blk_cell HT.out 2).trans rfl
          have cT_3 := (blk_cell HT.out 3).trans rfl
          have cT_4 := (blk_cell HT.out 4).trans rfl
          have lT := blk_lt HT.out
          have cX_0 := (blk_cell HX.out 0).trans rfl
          have cX_1 := (blk_cell HX.out 1).trans rfl
          have cX_2 := (blk_cell HX.out 2).trans rfl
          have lX := blk_lt HX.out
          have cS_0 := (blk_cell HS.out 0).trans rfl
          have cS_1 := (blk_cell HS.out 1).trans rfl
          have lS := blk_lt HS.out
          have cU_0 := (blk_cell HU.out 0).trans rfl
          have cU_1 := (blk_cell HU.out 1).trans rfl
          have lU := blk_lt HU.out
          have cP_0 := (blk_cell HP.out 0).trans rfl
          have cP_1 := (blk_cell HP.out 1).trans rfl
          have lP := blk_lt HP.out
          have cQ_0 := (blk_cell HQ.out 0).trans rfl
          have cQ_1 := (blk_cell HQ.out 1).trans rfl
          have lQ := blk_lt HQ.out
          go_wp2_with fail
          clear cK_0 cK_1 cK_2 lK cT_0 cT_1 cT_2 cT_3 cT_4 lT cX_0 cX_1 cX_2 lX cS_0 cS_1 lS cU_0 cU_1 lU cP_0 cP_1 lP cQ_0 cQ_1 lQ
          refine (HH4.out _).mono ?_
          rintro e W80 ⟨rfl, hb⟩
          have hg := g_below hb
          replace Rw := Lib.hid (R_typed_grown Rw.out hg (fun g e => by cases e))
          replace Rs := Lib.hid (R_typed_grown Rs.out hg (fun g e => by cases e))
          replace Rk := Lib.hid (R_typed_grown Rk.out hg (fun g e => by cases e))
          replace Rl := Lib.hid (R_typed_grown Rl.out hg (fun g e => by cases e))
          replace HK := Lib.hid (blk_grown HK.out hg (by simp))
          replace HT := Lib.hid (blk_grown HT.out hg (by simp))
          replace HX := Lib.hid (blk_grown HX.out hg (by simp))
          replace HS := Lib.hid (blk_grown HS.out hg (by simp))
          replace HU := Lib.hid (blk_grown HU.out hg (by simp))
          replace HP := Lib.hid (blk_grown HP.out hg (by simp))
          replace HQ := Lib.hid (blk_grown HQ.out hg (by simp))
          replace HB := Lib.hid (HB.out.trans (below_weaken hb HB.out.size))
          clear hb hg
          have cK_0 := (blk_cell HK.out 0).trans rfl
          have cK_1 := (blk_cell HK.out 1).trans rfl
          have cK_2 := (blk_cell HK.out 2).trans rfl
          have lK := blk_lt HK.out
          have cT_0 := (blk_cell HT.out 0).trans rfl
          have cT_1 := (blk_cell HT.out 1).trans rfl
          have cT_2 := (blk_cell HT.out 2).trans rfl
          have cT_3 := (blk_cell HT.out 3).trans rfl
          have cT_4 := (blk_cell HT.out 4).trans rfl
          have lT := blk_lt HT.out
          have cX_0 := (blk_cell HX.out 0).trans rfl
          have cX_1 := (blk_cell HX.out 1).trans rfl
          have cX_2 := (blk_cell HX.out 2).trans rfl
          have lX := blk_lt HX.out
          have cS_0 := (blk_cell HS.out 0).trans rfl
          have cS_1 := (blk_cell HS.out 1).trans rfl
          have lS := blk_lt HS.out
          have cU_0 := (blk_cell HU.out 0).trans rfl
          have cU_1 := (blk_cell HU.out 1).trans rfl
          have lU := blk_lt HU.out
          have cP_0 := (blk_cell HP.out 0).trans rfl
          have cP_1 := (blk_cell HP.out 1).trans rfl
          have lP := blk_lt HP.out
          have cQ_0 := (blk_cell HQ.out 0).trans rfl
          have cQ_1 := (blk_cell HQ.out 1).trans rfl
          have lQ := blk_lt HQ.out
          clear cK_0 cK_1 cK_2 lK cT_0 cT_1 cT_2 cT_3 cT_4 lT cX_0 cX_1 cX_2 lX cS_0 cS_1 lS cU_0 cU_1 lU cP_0 cP_1 lP cQ_0 cQ_1 lQ
          go_wp2
          go_meet
          case rel => exact ⟨by first | rfl | (simp; done) | (simp [*]; done), ⟨HK.out⟩, ⟨HT.out⟩, ⟨HX.out⟩, ⟨HS.out⟩, ⟨HU.out⟩, ⟨HP.out⟩, ⟨HQ.out⟩, ⟨Rw.out⟩, ⟨Rs.out⟩, ⟨Rk.out⟩, ⟨Rl.out⟩, ⟨HB.out⟩⟩



    case rest => as_aux_lemma =>
      clear HK HT HX HS HU HP HQ Rw Rs Rk Rl HB
      obtain ⟨rfl, HK, HT, HX, HS, HU, HP, HQ, Rw, Rs, Rk, Rl, HB⟩ := hcut
      have cK_0 := (blk_cell HK.out 0).trans rfl
      have cK_1 := (blk_cell HK.out 1).trans rfl
      have cK_2 := (blk_cell HK.out 2).trans rfl
      have lK := blk_lt HK.out
      have cT_0 := (blk_cell HT.out 0).trans rfl
      have cT_1 := (blk_cell HT.out 1).trans rfl
      have cT_2 := (blk_cell HT.out 2).trans rfl
      have cT_3 := (blk_cell HT.out 3).trans rfl
      have cT_4 := (blk_cell HT.out 4).trans rfl
      have lT := blk_lt HT.out
      have cX_0 := (blk_cell HX.out 0).trans rfl
      have cX_1 := (blk_cell HX.out 1).trans rfl
      have cX_2 := (blk_cell HX.out 2).trans rfl
      have lX := blk_lt HX.out
      have cS_0 := (blk_cell HS.out 0).trans rfl
      have cS_1 := (blk_cell HS.out 1).trans rfl
      have lS := blk_lt HS.out
      have cU_0 := (blk_cell HU.out 0).trans rfl
      have cU_1 := (blk_cell HU.out 1).trans rfl
      have lU := blk_lt HU.out
      have cP_0 := (blk_cell HP.out 0).trans rfl
      have cP_1 := (blk_cell HP.out 1).trans rfl
      have lP := blk_lt HP.out
      have cQ_0 := (blk_cell HQ.out 0).trans rfl
      have cQ_1 := (blk_cell HQ.out 1).trans rfl
      have lQ := blk_lt HQ.out
      go_upto_region 18 with fail
      clear cK_0 cK_1 cK_2 lK cT_0 cT_1 cT_2 cT_3 cT_4 lT cX_0 cX_1 cX_2 lX cS_0 cS_1 lS cU_0 cU_1 lU cP_0 cP_1 lP cQ_0 cQ_1 lQ
      go_cut [207] from 25 (fun v207 wc => v207 = .bool false ∧ Aside0 (wc.heap[w.heap.size]? = some (.cells #[.slice A0 l0.length c0, .slice A1 l1.length c1, .slice A2 l2.length c2] 26 (0, 0))) ∧ Aside0 (wc.heap[W3.heap.size]? = some (.cells #[.slice (some ⟨bw, ow, none⟩) nd cw, .slice (some ⟨bs, os, none⟩) nd cs, .slice (some ⟨bk, ok, none⟩) kb.length ck, .int .i64 la, .int .i64 lo] 77 (0, 0))) ∧ Aside0 (wc.heap[gX_]? = some (.cells #[.slice A0 l0.length c0, .slice A1 l1.length c1, .slice Ax lk.length cx] 26 (0, 0))) ∧ Aside0 (wc.heap[W28.heap.size]? = some (.cells #[.int .i64 s1, .int .i64 s2] 32 (0, 0))) ∧ Aside0 (wc.heap[W30.heap.size]? = some (.cells #[.int .i64 u1, .int .i64 u2] 32 (0, 0))) ∧ Aside0 (wc.heap[W73.heap.size]? = some (.cells #[.int .i64 p1, .int .i64 p2] 32 (0, 0))) ∧ Aside0 (wc.heap[W75.heap.size]? = some (.cells #[.int .i64 q1, .int .i64 q2] 32 (0, 0))) ∧ Aside0 (Kd.R (Kd.int .i64) 3 wc w.heap.size (fun _ => True) (.slice (some ⟨bw, ow, none⟩) nd cw) (wl)) ∧ Aside0 (Kd.R (Kd.int .i64) 3 wc w.heap.size (fun _ => True) (.slice (some ⟨bs, os, none⟩) nd cs) (sl)) ∧ Aside0 (Kd.R (Kd.int .i64) 3 wc w.heap.size (fun _ => True) (.slice (some ⟨bk, ok, none⟩) kb.length ck) (kb)) ∧ Aside0 (Kd.R k43 43 wc w.heap.size (fun _ => True) (.slice Ax lk.length cx) (lk)) ∧ Aside0 (Below w.heap.size w wc))
      case first => as_aux_lemma =>
        have cK_0 := (blk_cell HK.out 0).trans rfl
        have cK_1 := (blk_cell HK.out 1).trans rfl
        have cK_2 := (blk_cell HK.out 2).trans rfl
        have lK := blk_lt HK.out
        have cT_0 := (blk_cell HT.out 0).trans rfl
        have cT_1 := (blk_cell HT.out 1).trans rfl
        have cT_2 := (blk_cell HT.out 2).trans rfl
        have cT_3 := (blk_cell HT.out 3).trans rfl
        have cT_4 := (blk_cell HT.out 4).trans rfl
        have lT := blk_lt HT.out
        have cX_0 := (blk_cell HX.out 0).trans rfl
        have cX_1 := (blk_cell HX.out 1).trans rfl
        have cX_2 := (blk_cell HX.out 2).trans rfl
        have lX := blk_lt HX.out
        have cS_0 := (blk_cell HS.out 0).trans rfl
        have cS_1 := (blk_cell HS.out 1).trans rfl
        have lS := blk_lt HS.out
        have cU_0 := (blk_cell HU.out 0).trans rfl
        have cU_1 := (blk_cell HU.out 1).trans rfl
        have lU := blk_lt HU.out
        have cP_0 := (blk_cell HP.out 0).trans rfl
        have cP_1 := (blk_cell HP.out 1).trans rfl
        have lP := blk_lt HP.out
        have cQ_0 := (blk_cell HQ.out 0).trans rfl
        have cQ_1 := (blk_cell HQ.out 1).trans rfl
        have lQ := blk_lt HQ.out
        rcases HDX.out.1 with hxa | ⟨hxa, sn, hxs, HSA, HSN⟩
        · skip
          have hxc : (x2 == 0) = false := by rw [hxa]; rfl
          clear hxa
          clear cK_0 cK_1 cK_2 lK cT_0 cT_1 cT_2 cT_3 cT_4 lT cX_0 cX_1 cX_2 lX cS_0 cS_1 lS cU_0 cU_1 lU cP_0 cP_1 lP cQ_0 cQ_1 lQ
          have hb : Below wc.heap.size wc wc.drew := (Below.refl _ _).drew
          have hg := g_below hb
          replace Rw := Lib.hid (R_typed_grown Rw.out hg (fun g e => by cases e))
          replace Rs := Lib.hid (R_typed_grown Rs.out hg (fun g e => by cases e))
          replace Rk := Lib.hid (R_typed_grown Rk.out hg (fun g e => by cases e))
          replace Rl := Lib.hid (R_typed_grown Rl.out hg (fun g e => by cases e))
          replace HK := Lib.hid (blk_grown HK.out hg (by simp))
          replace HT := Lib.hid (blk_grown HT.out hg (by simp))
          replace HX := Lib.hid (blk_grown HX.out hg (by simp))
          replace HS := Lib.hid (blk_grown HS.out hg (by simp))
          replace HU := Lib.hid (blk_grown HU.out hg (by simp))
          replace HP := Lib.hid (blk_grown HP.out hg (by simp))
          replace HQ := Lib.hid (blk_grown HQ.out hg (by simp))
          replace HB := Lib.hid (HB.out.trans (below_weaken hb HB.out.size))
          clear hb hg
          refine start_ (n := 22) (S := fun w' => w'.cell? ⟨w.heap.size, 0, none⟩ = some (.slice A0 l0.length c0) ∧ w'.cell? ⟨w.heap.size, 1, none⟩ = some (.slice A1 l1.length c1) ∧ w'.cell? ⟨w.heap.size, 2, none⟩ = some (.slice A2 l2.length c2) ∧ w'.cell? ⟨W3.heap.size, 0, none⟩ = some (.slice (some ⟨bw, ow, none⟩) nd cw) ∧ w'.cell? ⟨W3.heap.size, 1, none⟩ = some (.slice (some ⟨bs, os, none⟩) nd cs) ∧ w'.cell? ⟨W3.heap.size, 2, none⟩ = some (.slice (some ⟨bk, ok, none⟩) kb.length ck) ∧ w'.cell? ⟨W3.heap.size, 3, none⟩ = some (.int .i64 la) ∧ w'.cell? ⟨W3.heap.size, 4, none⟩ = some (.int .i64 lo)) (ds := []) #[false, false, false, false, false, false, false, false, false, false, false, false, false, false, false, false, false, false, false, false, false, false] (by kernel_rfl) rfl rfl ⟨(blk_cell HK.out 0).trans rfl, (blk_cell HK.out 1).trans rfl, (blk_cell HK.out 2).trans rfl, (blk_cell HT.out 0).trans rfl, (blk_cell HT.out 1).trans rfl, (blk_cell HT.out 2).trans rfl, (blk_cell HT.out 3).trans rfl, (blk_cell HT.out 4).trans rfl⟩ (fun hHeld => ?_)
          refine pu_ 0 (some 186) ?_
          refine pu_ 1 (some 187) ?_
          refine pu_ 2 (some 188) ?_
          refine pure_ (i := 3) (N := some 189) (v := undef) (a' := ?_) #[true, true, true, true, false, false, false, false, false, false, false, false, false, false, false, false, false, false, false, false, false, false] rfl rfl (by kernel_rfl) (fun _ _ _ h => h) (Or.inr ⟨by rfl, rfl⟩) ?_ ?_
          rotate_left
          · simp only [Act.put, List.setIfInBounds_toArray, List.set_cons_zero, List.set_cons_succ, i64_w, i32_w]
            rfl
          refine pure_ (i := 4) (N := some 190) (v := undef) (a' := ?_) #[true, true, true, true, true, false, false, false, false, false, false, false, false, false, false, false, false, false, false, false, false, false] rfl rfl (by kernel_rfl) (fun _ _ _ h => h) (Or.inr ⟨by rfl, rfl⟩) ?_ ?_
          rotate_left
          · simp only [Act.put, List.setIfInBounds_toArray, List.set_cons_zero, List.set_cons_succ, i64_w, i32_w]
            rfl
          refine pure_ (i := 5) (N := some 191) (v := undef) (a' := ?_) #[true, true, true, true, true, true, false, false, false, false, false, false, false, false, false, false, false, false, false, false, false, false] rfl rfl (by kernel_rfl) (fun _ _ _ h => h) (Or.inr ⟨by rfl, rfl⟩) ?_ ?_
          rotate_left
          · simp only [Act.put, List.setIfInBounds_toArray, List.set_cons_zero, List.set_cons_succ, i64_w, i32_w]
            rfl
          refine pure_ (i := 6) (N := some 192) (v := undef) (a' := ?_) #[true, true, true, true, true, true, true, false, false, false, false, false, false, false, false, false, false, false, false, false, false, false] rfl rfl (by kernel_rfl) (fun _ _ _ h => h) (Or.inr ⟨by rfl, rfl⟩) ?_ ?_
          rotate_left
          · simp only [Act.put, List.setIfInBounds_toArray, List.set_cons_zero, List.set_cons_succ, i64_w, i32_w]
            rfl
          refine pure_ (i := 7) (N := some 193) (v := undef) (a' := ?_) #[true, true, true, true, true, true, true, true, false, false, false, false, false, false, false, false, false, false, false, false, false, false] rfl rfl (by kernel_rfl) (fun _ _ _ h => h) (Or.inr ⟨by rfl, rfl⟩) ?_ ?_
          rotate_left
          · simp only [Act.put, List.setIfInBounds_toArray, List.set_cons_zero, List.set_cons_succ, i64_w, i32_w]
            rfl
          refine pure_ (i := 8) (N := some 194) (v := undef) (a' := ?_) #[true, true, true, true, true, true, true, true, true, false, false, false, false, false, false, false, false, false, false, false, false, false] rfl rfl (by kernel_rfl) (fun _ _ _ h => h) (Or.inr ⟨by rfl, rfl⟩) ?_ ?_
          rotate_left
          · simp only [Act.put, List.setIfInBounds_toArray, List.set_cons_zero, List.set_cons_succ, i64_w, i32_w]
            rfl
          refine pure_ (i := 9) (N := some 195) (v := undef) (a' := ?_) #[true, true, true, true, true, true, true, true, true, true, false, false, false, false, false, false, false, false, false, false, false, false] rfl rfl (by kernel_rfl) (fun _ _ _ h => h) (Or.inr ⟨by rfl, rfl⟩) ?_ ?_
          rotate_left
          · simp only [Act.put, List.setIfInBounds_toArray, List.set_cons_zero, List.set_cons_succ, i64_w, i32_w]
            rfl
          refine pure_ (i := 10) (N := some 196) (v := undef) (a' := ?_) #[true, true, true, true, true, true, true, true, true, true, true, false, false, false, false, false, false, false, false, false, false, false] rfl rfl (by kernel_rfl) (fun _ _ _ h => h) (Or.inr ⟨by rfl, rfl⟩) ?_ ?_
          rotate_left
          · simp only [Act.put, List.setIfInBounds_toArray, List.set_cons_zero, List.set_cons_succ, i64_w, i32_w]
            rfl
          refine pure_ (i := 11) (N := some 197) (v := undef) (a' := ?_) #[true, true, true, true, true, true, true, true, true, true, true, true, false, false, false, false, false, false, false, false, false, false] rfl rfl (by kernel_rfl) (fun _ _ _ h => h) (Or.inr ⟨by rfl, rfl⟩) ?_ ?_
          rotate_left
          · simp only [Act.put, List.setIfInBounds_toArray, List.set_cons_zero, List.set_cons_succ, i64_w, i32_w]
            rfl
          refine pure_ (i := 12) (N := some 198) (v := undef) (a' := ?_) #[true, true, true, true, true, true, true, true, true, true, true, true, true, false, false, false, false, false, false, false, false, false] rfl rfl (by kernel_rfl) (fun _ _ _ h => h) (Or.inr ⟨by rfl, rfl⟩) ?_ ?_
          rotate_left
          · simp only [Act.put, List.setIfInBounds_toArray, List.set_cons_zero, List.set_cons_succ, i64_w, i32_w]
            rfl
          refine pure_ (i := 13) (N := some 199) (v := undef) (a' := ?_) #[true, true, true, true, true, true, true, true, true, true, true, true, true, true, false, false, false, false, false, false, false, false] rfl rfl (by kernel_rfl) (fun _ _ _ h => h) (Or.inr ⟨by rfl, rfl⟩) ?_ ?_
          rotate_left
          · simp only [Act.put, List.setIfInBounds_toArray, List.set_cons_zero, List.set_cons_succ, i64_w, i32_w]
            rfl
          refine pure_ (i := 14) (N := some 200) (v := undef) (a' := ?_) #[true, true, true, true, true, true, true, true, true, true, true, true, true, true, true, false, false, false, false, false, false, false] rfl rfl (by kernel_rfl) (fun _ _ _ h => h) (Or.inr ⟨by rfl, rfl⟩) ?_ ?_
          rotate_left
          · simp only [Act.put, List.setIfInBounds_toArray, List.set_cons_zero, List.set_cons_succ, i64_w, i32_w]
            rfl
          refine pure_ (i := 15) (N := some 201) (v := undef) (a' := ?_) #[true, true, true, true, true, true, true, true, true, true, true, true, true, true, true, true, false, false, false, false, false, false] rfl rfl (by kernel_rfl) (fun _ _ _ h => h) (Or.inr ⟨by rfl, rfl⟩) ?_ ?_
          rotate_left
          · simp only [Act.put, List.setIfInBounds_toArray, List.set_cons_zero, List.set_cons_succ, i64_w, i32_w]
            rfl
          refine pure_ (i := 16) (N := some 202) (v := undef) (a' := ?_) #[true, true, true, true, true, true, true, true, true, true, true, true, true, true, true, true, true, false, false, false, false, false] rfl rfl (by kernel_rfl) (fun _ _ _ h => h) (Or.inr ⟨by rfl, rfl⟩) ?_ ?_
          rotate_left
          · simp only [Act.put, List.setIfInBounds_toArray, List.set_cons_zero, List.set_cons_succ, i64_w, i32_w]
            rfl
          refine pure_ (i := 17) (N := some 203) (v := undef) (a' := ?_) #[true, true, true, true, true, true, true, true, true, true, true, true, true, true, true, true, true, true, false, false, false, false] rfl rfl (by kernel_rfl) (fun _ _ _ h => h) (Or.inr ⟨by rfl, rfl⟩) ?_ ?_
          rotate_left
          · simp only [Act.put, List.setIfInBounds_toArray, List.set_cons_zero, List.set_cons_succ, i64_w, i32_w]
            rfl
          refine pure_ (i := 18) (N := some 204) (v := undef) (a' := ?_) #[true, true, true, true, true, true, true, true, true, true, true, true, true, true, true, true, true, true, true, false, false, false] rfl rfl (by kernel_rfl) (fun _ _ _ h => h) (Or.inr ⟨by rfl, rfl⟩) ?_ ?_
          rotate_left
          · simp only [Act.put, List.setIfInBounds_toArray, List.set_cons_zero, List.set_cons_succ, i64_w, i32_w]
            rfl
          refine pure_ (i := 19) (N := some 205) (v := undef) (a' := ?_) #[true, true, true, true, true, true, true, true, true, true, true, true, true, true, true, true, true, true, true, true, false, false] rfl rfl (by kernel_rfl) (fun _ _ _ h => h) (Or.inr ⟨by rfl, rfl⟩) ?_ ?_
          rotate_left
          · simp only [Act.put, List.setIfInBounds_toArray, List.set_cons_zero, List.set_cons_succ, i64_w, i32_w]
            rfl
          refine pure_ (i := 20) (N := some 206) (v := undef) (a' := ?_) #[true, true, true, true, true, true, true, true, true, true, true, true, true, true, true, true, true, true, true, true, true, false] rfl rfl (by kernel_rfl) (fun _ _ _ h => h) (Or.inr ⟨by rfl, rfl⟩) ?_ ?_
          rotate_left
          · simp only [Act.put, List.setIfInBounds_toArray, List.set_cons_zero, List.set_cons_succ, i64_w, i32_w]
            rfl
          refine pu_ 21 (some 207) ?_
          refine done_ (by kernel_rfl) ?_

          go_wp2
          go_meet
          case rel => exact ⟨by first | rfl | (simp; done) | (simp [*]; done), ⟨HK.out⟩, ⟨HT.out⟩, ⟨HX.out⟩, ⟨HS.out⟩, ⟨HU.out⟩, ⟨HP.out⟩, ⟨HQ.out⟩, ⟨Rw.out⟩, ⟨Rs.out⟩, ⟨Rk.out⟩, ⟨Rl.out⟩, ⟨HB.out⟩⟩

        · skip
          have hxc : (x2 == 0) = true := by rw [hxa]; rfl
          clear hxa
          subst hxs
          have hl3_ := lt_of_get HSN.out
          clear cK_0 cK_1 cK_2 lK cT_0 cT_1 cT_2 cT_3 cT_4 lT cX_0 cX_1 cX_2 lX cS_0 cS_1 lS cU_0 cU_1 lU cP_0 cP_1 lP cQ_0 cQ_1 lQ
          have hb : Below wc.heap.size wc wc.drew := (Below.refl _ _).drew
          have hg := g_below hb
          replace Rw := Lib.hid (R_typed_grown Rw.out hg (fun g e => by cases e))
          replace Rs := Lib.hid (R_typed_grown Rs.out hg (fun g e => by cases e))
          replace Rk := Lib.hid (R_typed_grown Rk.out hg (fun g e => by cases e))
          replace Rl := Lib.hid (R_typed_grown Rl.out hg (fun g e => by cases e))
          replace HK := Lib.hid (blk_grown HK.out hg (by simp))
          replace HT := Lib.hid (blk_grown HT.out hg (by simp))
          replace HX := Lib.hid (blk_grown HX.out hg (by simp))
          replace HS := Lib.hid (blk_grown HS.out hg (by simp))
          replace HU := Lib.hid (blk_grown HU.out hg (by simp))
          replace HP := Lib.hid (blk_grown HP.out hg (by simp))
          replace HQ := Lib.hid (blk_grown HQ.out hg (by simp))
          replace HB := Lib.hid (HB.out.trans (below_weaken hb HB.out.size))
          clear hb hg
          refine start_ (n := 22) (S := fun w' => w'.cell? ⟨w.heap.size, 0, none⟩ = some (.slice A0 l0.length c0) ∧ w'.cell? ⟨w.heap.size, 1, none⟩ = some (.slice A1 l1.length c1) ∧ w'.cell? ⟨w.heap.size, 2, none⟩ = some (.slice A2 l2.length c2) ∧ w'.cell? ⟨W3.heap.size, 0, none⟩ = some (.slice (some ⟨bw, ow, none⟩) nd cw) ∧ w'.cell? ⟨W3.heap.size, 1, none⟩ = some (.slice (some ⟨bs, os, none⟩) nd cs) ∧ w'.cell? ⟨W3.heap.size, 2, none⟩ = some (.slice (some ⟨bk, ok, none⟩) kb.length ck) ∧ w'.cell? ⟨W3.heap.size, 3, none⟩ = some (.int .i64 la) ∧ w'.cell? ⟨W3.heap.size, 4, none⟩ = some (.int .i64 lo) ∧ w'.cell? ⟨bk, ok + sn, none⟩ = some (.int .i64 (l0.length : Int))) (ds := []) #[false, false, false, false, false, false, false, false, false, false, false, false, false, false, false, false, false, false, false, false, false, false] (by kernel_rfl) rfl rfl ⟨(blk_cell HK.out 0).trans rfl, (blk_cell HK.out 1).trans rfl, (blk_cell HK.out 2).trans rfl, (blk_cell HT.out 0).trans rfl, (blk_cell HT.out 1).trans rfl, (blk_cell HT.out 2).trans rfl, (blk_cell HT.out 3).trans rfl, (blk_cell HT.out 4).trans rfl, cell_of_C (Kd.R_reads' Rk.out).2.2 HSN.out⟩ (fun hHeld => ?_)
          refine pu_ 0 (some 186) ?_
          refine pu_ 1 (some 187) ?_
          refine pu_ 2 (some 188) ?_
          refine pu_ 3 (some 189) ?_
          refine pu_ 4 (some 190) ?_
          refine ta_ 5 (some 191) (s := hHeld) (y := by rintro w' ⟨s0, s1, s2, s3, s4, s5, s6, s7, s8⟩; go_simp; with_reducible rfl) (h := ?_)
          refine pu_ 6 (some 192) ?_
          refine pu_ 7 (some 193) ?_
          refine one_ (i := 8) (N := some 194) #[true, true, true, true, true, true, true, true, true, false, false, false, false, false, false, false, false, false, false, false, false, false] rfl rfl (by kernel_rfl) (by decide) (fun K hK => ?_)
          refine goes_ Tryd.func60 (by kernel_rfl) rfl #[.int .i64 (sn : Int), .int .i64 0, .int .i64 (last : Int)] (by rfl) rfl rfl (by simp only [List.map_toArray, List.map_cons, List.map_nil]; rfl) ?_
          refine (HSA.out _).mono ?_
          rintro e W119 ⟨rfl, hb⟩
          refine ⟨_, rfl, ?_⟩
          have hg := g_below hb
          replace Rw := Lib.hid (R_typed_grown Rw.out hg (fun g e => by cases e))
          replace Rs := Lib.hid (R_typed_grown Rs.out hg (fun g e => by cases e))
          replace Rk := Lib.hid (R_typed_grown Rk.out hg (fun g e => by cases e))
          replace Rl := Lib.hid (R_typed_grown Rl.out hg (fun g e => by cases e))
          replace HK := Lib.hid (blk_grown HK.out hg (by simp))
          replace HT := Lib.hid (blk_grown HT.out hg (by simp))
          replace HX := Lib.hid (blk_grown HX.out hg (by simp))
          replace HS := Lib.hid (blk_grown HS.out hg (by simp))
          replace HU := Lib.hid (blk_grown HU.out hg (by simp))
          replace HP := Lib.hid (blk_grown HP.out hg (by simp))
          replace HQ := Lib.hid (blk_grown HQ.out hg (by simp))
          replace HB := Lib.hid (HB.out.trans (below_weaken hb HB.out.size))
          clear hb hg
          refine hK.out _ _ ⟨(blk_cell HK.out 0).trans rfl, (blk_cell HK.out 1).trans rfl, (blk_cell HK.out 2).trans rfl, (blk_cell HT.out 0).trans rfl, (blk_cell HT.out 1).trans rfl, (blk_cell HT.out 2).trans rfl, (blk_cell HT.out 3).trans rfl, (blk_cell HT.out 4).trans rfl, cell_of_C (Kd.R_reads' Rk.out).2.2 HSN.out⟩ (fun hHeld => ?_)
          clear hK K
          refine no_ 194 ?_
          refine pu_ 9 (some 195) ?_
          refine pu_ 10 (some 196) ?_
          refine pu_ 11 (some 197) ?_
          refine pu_ 13 (some 199) ?_
          refine pu_ 16 (some 202) ?_
          refine ta_ 12 (some 198) (s := hHeld) (y := by rintro w' ⟨s0, s1, s2, s3, s4, s5, s6, s7, s8⟩; go_simp; with_reducible rfl) (h := ?_)
          refine pu_ 14 (some 200) ?_
          refine ta_ 15 (some 201) (s := hHeld) (y := by rintro w' ⟨s0, s1, s2, s3, s4, s5, s6, s7, s8⟩; go_simp; with_reducible rfl) (h := ?_)
          refine ta_ 17 (some 203) (s := hHeld) (y := by rintro w' ⟨s0, s1, s2, s3, s4, s5, s6, s7, s8⟩; go_simp; with_reducible rfl) (h := ?_)
          refine pu_ 18 (some 204) ?_
          refine pu_ 19 (some 205) ?_
          refine pu_ 20 (some 206) ?_
          refine pu_ 21 (some 207) ?_
          refine done_ (by kernel_rfl) ?_

          go_wp2
          go_meet
          case rel => exact ⟨by first | rfl | (simp; done) | (simp [*]; done), ⟨HK.out⟩, ⟨HT.out⟩, ⟨HX.out⟩, ⟨HS.out⟩, ⟨HU.out⟩, ⟨HP.out⟩, ⟨HQ.out⟩, ⟨Rw.out⟩, ⟨Rs.out⟩, ⟨Rk.out⟩, ⟨Rl.out⟩, ⟨HB.out⟩⟩


      case rest => as_aux_lemma =>
        clear HK HT HX HS HU HP HQ Rw Rs Rk Rl HB
        obtain ⟨rfl, HK, HT, HX, HS, HU, HP, HQ, Rw, Rs, Rk, Rl, HB⟩ := hcut
        have cK_0 := (blk_cell HK.out 0).trans rfl
        have cK_1 := (blk_cell HK.out 1).trans rfl
        have cK_2 := (blk_cell HK.out 2).trans rfl
        have lK := blk_lt HK.out
        have cT_0 := (blk_cell HT.out 0).trans rfl
        have cT_1 := (blk_cell HT.out 1).trans rfl
        have cT_2 := (blk_cell HT.out 2).trans rfl
        have cT_3 := (blk_cell HT.out 3).trans rfl
        have cT_4 := (blk_cell HT.out 4).trans rfl
        have lT := blk_lt HT.out
        have cX_0 := (blk_cell HX.out 0).trans rfl
        have cX_1 := (blk_cell HX.out 1).trans rfl
        have cX_2 := (blk_cell HX.out 2).trans rfl
        have lX := blk_lt HX.out
        have cS_0 := (blk_cell HS.out 0).trans rfl
        have cS_1 := (blk_cell HS.out 1).trans rfl
        have lS := blk_lt HS.out
        have cU_0 := (blk_cell HU.out 0).trans rfl
        have cU_1 := (blk_cell HU.out 1).trans rfl
        have lU := blk_lt HU.out
        have cP_0 := (blk_cell HP.out 0).trans rfl
        have cP_1 := (blk_cell HP.out 1).trans rfl
        have lP := blk_lt HP.out
        have cQ_0 := (blk_cell HQ.out 0).trans rfl
        have cQ_1 := (blk_cell HQ.out 1).trans rfl
        have lQ := blk_lt HQ.out
        go_wp2
        clear cK_0 cK_1 cK_2 lK cT_0 cT_1 cT_2 cT_3 cT_4 lT cX_0 cX_1 cX_2 lX cS_0 cS_1 lS cU_0 cU_1 lU cP_0 cP_1 lP cQ_0 cQ_1 lQ
        go_loopg [24] (l1.length) (fun gk v24 wr => ∃ k : Nat, v24 = .int .i64 (k : Int) ∧ Aside0 (k + gk = l1.length) ∧ Aside0 (wr.heap[w.heap.size]? = some (.cells #[.slice A0 l0.length c0, .slice A1 l1.length c1, .slice A2 l2.length c2] 26 (0, 0))) ∧ Aside0 (wr.heap[W3.heap.size]? = some (.cells #[.slice (some ⟨bw, ow, none⟩) nd cw, .slice (some ⟨bs, os, none⟩) nd cs, .slice (some ⟨bk, ok, none⟩) kb.length ck, .int .i64 la, .int .i64 lo] 77 (0, 0))) ∧ Aside0 (Kd.R (Kd.int .i64) 3 wr w.heap.size (fun _ => True) (.slice (some ⟨bk, ok, none⟩) kb.length ck) kb) ∧ Aside0 (Below w.heap.size w wr))
        case atStart => exact ⟨0, rfl, ⟨by omega⟩, ⟨HK.out⟩, ⟨HT.out⟩, ⟨Rk.out⟩, ⟨HB.out⟩⟩
        case round =>
          clear HB HT HK Rk
          obtain ⟨k, rfl, HKK, HK, HT, Rk, HB⟩ := hrel
          cases gk with
          | zero =>
            have hge : ¬ k < l1.length := by have := HKK.out; omega
            have cK_0 := (blk_cell HK.out 0).trans rfl
            have cK_1 := (blk_cell HK.out 1).trans rfl
            have cK_2 := (blk_cell HK.out 2).trans rfl
            have lK := blk_lt HK.out
            have cT_0 := (blk_cell HT.out 0).trans rfl
            have cT_1 := (blk_cell HT.out 1).trans rfl
            have cT_2 := (blk_cell HT.out 2).trans rfl
            have cT_3 := (blk_cell HT.out 3).trans rfl
            have cT_4 := (blk_cell HT.out 4).trans rfl
            have lT := blk_lt HT.out
            go_wp2_with fail
            clear cK_0 cK_1 cK_2 lK cT_0 cT_1 cT_2 cT_3 cT_4 lT
            refine (HRO.out _ HB.out).mono ?_
            rintro e W1 ⟨rfl, hb⟩
            have hg := g_below hb
            replace Rk := Lib.hid (R_typed_grown Rk.out hg (fun g e => by cases e))
            replace HK := Lib.hid (blk_grown HK.out hg (by simp))
            replace HT := Lib.hid (blk_grown HT.out hg (by simp))
            replace HB := Lib.hid (HB.out.trans (below_weaken hb HB.out.size))
            clear hb hg
            have cK_0 := (blk_cell HK.out 0).trans rfl
            have cK_1 := (blk_cell HK.out 1).trans rfl
            have cK_2 := (blk_cell HK.out 2).trans rfl
            have lK := blk_lt HK.out
            have cT_0 := (blk_cell HT.out 0).trans rfl
            have cT_1 := (blk_cell HT.out 1).trans rfl
            have cT_2 := (blk_cell HT.out 2).trans rfl
            have cT_3 := (blk_cell HT.out 3).trans rfl
            have cT_4 := (blk_cell HT.out 4).trans rfl
            have lT := blk_lt HT.out
            clear cK_0 cK_1 cK_2 lK cT_0 cT_1 cT_2 cT_3 cT_4 lT
            go_wp2
            go_ret
            exact ⟨ret_true (by first | rfl | (simp; done) | (simp; omega)), HB.out⟩

          | succ g1 =>
            have hlt : k < l1.length := by have := HKK.out; omega
            obtain ⟨v, hv0, hor⟩ := HLP.out k hlt
            have HV := Lib.hid hv0
            clear hv0
            have hl4_ := lt_of_get HV.out
            have hcv := cell_of_C (Kd.R_reads' Rk.out).2.2 HV.out
            have HCV := Lib.hid (fun (W : World) (hg : wr.grownBy W none) => World.grownBy.cell hg hcv (by simp))
            clear hcv
            rcases hor with hne | ⟨hv2_, hz2_, hz1⟩
            · skip
              have hvn : (v == (l0.length : Int)) = false := beq_eq_false_iff_ne.2 hne
              clear hne
              have cK_0 := (blk_cell HK.out 0).trans rfl
              have cK_1 := (blk_cell HK.out 1).trans rfl
              have cK_2 := (blk_cell HK.out 2).trans rfl
              have lK := blk_lt HK.out
              have cT_0 := (blk_cell HT.out 0).trans rfl
              have cT_1 := (blk_cell HT.out 1).trans rfl
              have cT_2 := (blk_cell HT.out 2).trans rfl
              have cT_3 := (blk_cell HT.out 3).trans rfl
              have cT_4 := (blk_cell HT.out 4).trans rfl
              have lT := blk_lt HT.out
              go_upto_region 23 with fail
              clear cK_0 cK_1 cK_2 lK cT_0 cT_1 cT_2 cT_3 cT_4 lT
              have hb : Below wr.heap.size wr wr.drew := (Below.refl _ _).drew
              have hg := g_below hb
              replace Rk := Lib.hid (R_typed_grown Rk.out hg (fun g e => by cases e))
              replace HK := Lib.hid (blk_grown HK.out hg (by simp))
              replace HT := Lib.hid (blk_grown HT.out hg (by simp))
              replace HB := Lib.hid (HB.out.trans (below_weaken hb HB.out.size))
              clear hb hg
              refine start_ (n := 18) (S := fun w' => w'.cell? ⟨w.heap.size, 0, none⟩ = some (.slice A0 l0.length c0) ∧ w'.cell? ⟨w.heap.size, 1, none⟩ = some (.slice A1 l1.length c1) ∧ w'.cell? ⟨w.heap.size, 2, none⟩ = some (.slice A2 l2.length c2) ∧ w'.cell? ⟨W3.heap.size, 0, none⟩ = some (.slice (some ⟨bw, ow, none⟩) nd cw) ∧ w'.cell? ⟨W3.heap.size, 1, none⟩ = some (.slice (some ⟨bs, os, none⟩) nd cs) ∧ w'.cell? ⟨W3.heap.size, 2, none⟩ = some (.slice (some ⟨bk, ok, none⟩) kb.length ck) ∧ w'.cell? ⟨W3.heap.size, 3, none⟩ = some (.int .i64 la) ∧ w'.cell? ⟨W3.heap.size, 4, none⟩ = some (.int .i64 lo) ∧ w'.cell? ⟨bk, ok + k, none⟩ = some (.int .i64 v)) (ds := []) #[false, false, false, false, false, false, false, false, false, false, false, false, false, false, false, false, false, false] (by kernel_rfl) rfl rfl ⟨(blk_cell HK.out 0).trans rfl, (blk_cell HK.out 1).trans rfl, (blk_cell HK.out 2).trans rfl, (blk_cell HT.out 0).trans rfl, (blk_cell HT.out 1).trans rfl, (blk_cell HT.out 2).trans rfl, (blk_cell HT.out 3).trans rfl, (blk_cell HT.out 4).trans rfl, HCV.out _ (g_below (Below.refl _ _).drew)⟩ (fun hHeld => ?_)
              refine pu_ 0 (some 215) ?_
              refine pu_ 2 (some 217) ?_
              refine pu_ 5 (some 220) ?_
              refine ta_ 1 (some 216) (s := hHeld) (y := by rintro w' ⟨s0, s1, s2, s3, s4, s5, s6, s7, s8⟩; go_simp; with_reducible rfl) (h := ?_)
              refine pu_ 3 (some 218) ?_
              refine ta_ 4 (some 219) (s := hHeld) (y := by rintro w' ⟨s0, s1, s2, s3, s4, s5, s6, s7, s8⟩; go_simp; with_reducible rfl) (h := ?_)
              refine ta_ 6 (some 221) (s := hHeld) (y := by rintro w' ⟨s0, s1, s2, s3, s4, s5, s6, s7, s8⟩; go_simp; with_reducible rfl) (h := ?_)
              refine pu_ 7 (some 222) ?_
              refine pu_ 8 (some 223) ?_
              refine pu_ 9 (some 224) ?_
              refine pure_ (i := 10) (N := some 225) (v := undef) (a' := ?_) #[true, true, true, true, true, true, true, true, true, true, true, false, false, false, false, false, false, false] rfl rfl (by kernel_rfl) (fun _ _ _ h => h) (Or.inr ⟨by rfl, rfl⟩) ?_ ?_
              rotate_left
              · simp only [Act.put, List.setIfInBounds_toArray, List.set_cons_zero, List.set_cons_succ, i64_w, i32_w]
                rfl
              refine pure_ (i := 11) (N := some 226) (v := undef) (a' := ?_) #[true, true, true, true, true, true, true, true, true, true, true, true, false, false, false, false, false, false] rfl rfl (by kernel_rfl) (fun _ _ _ h => h) (Or.inr ⟨by rfl, rfl⟩) ?_ ?_
              rotate_left
              · simp only [Act.put, List.setIfInBounds_toArray, List.set_cons_zero, List.set_cons_succ, i64_w, i32_w]
                rfl
              refine pure_ (i := 12) (N := some 227) (v := undef) (a' := ?_) #[true, true, true, true, true, true, true, true, true, true, true, true, true, false, false, false, false, false] rfl rfl (by kernel_rfl) (fun _ _ _ h => h) (Or.inr ⟨by rfl, rfl⟩) ?_ ?_
              rotate_left
              · simp only [Act.put, List.setIfInBounds_toArray, List.set_cons_zero, List.set_cons_succ, i64_w, i32_w]
                rfl
              refine pure_ (i := 13) (N := some 228) (v := undef) (a' := ?_) #[true, true, true, true, true, true, true, true, true, true, true, true, true, true, false, false, false, false] rfl rfl (by kernel_rfl) (fun _ _ _ h => h) (Or.inr ⟨by rfl, rfl⟩) ?_ ?_
              rotate_left
              · simp only [Act.put, List.setIfInBounds_toArray, List.set_cons_zero, List.set_cons_succ, i64_w, i32_w]
                rfl
              refine pure_ (i := 14) (N := some 229) (v := undef) (a' := ?_) #[true, true, true, true, true, true, true, true, true, true, true, true, true, true, true, false, false, false] rfl rfl (by kernel_rfl) (fun _ _ _ h => h) (Or.inr ⟨by rfl, rfl⟩) ?_ ?_
              rotate_left
              · simp only [Act.put, List.setIfInBounds_toArray, List.set_cons_zero, List.set_cons_succ, i64_w, i32_w]
                rfl
              refine pure_ (i := 15) (N := some 230) (v := undef) (a' := ?_) #[true, true, true, true, true, true, true, true, true, true, true, true, true, true, true, true, false, false] rfl rfl (by kernel_rfl) (fun _ _ _ h => h) (Or.inr ⟨by rfl, rfl⟩) ?_ ?_
              rotate_left
              · simp only [Act.put, List.setIfInBounds_toArray, List.set_cons_zero, List.set_cons_succ, i64_w, i32_w]
                rfl
              refine pure_ (i := 16) (N := some 231) (v := undef) (a' := ?_) #[true, true, true, true, true, true, true, true, true, true, true, true, true, true, true, true, true, false] rfl rfl (by kernel_rfl) (fun _ _ _ h => h) (Or.inr ⟨by rfl, rfl⟩) ?_ ?_
              rotate_left
              · simp only [Act.put, List.setIfInBounds_toArray, List.set_cons_zero, List.set_cons_succ, i64_w, i32_w]
                rfl
              refine pu_ 17 (some 232) ?_
              refine done_ (by kernel_rfl) ?_

              go_wp2
              go_roundg g1
              case measure => omega
              case rel => exact ⟨k + 1, by go_num, ⟨by have := HKK.out; omega⟩, ⟨HK.out⟩, ⟨HT.out⟩, ⟨Rk.out⟩, ⟨HB.out⟩⟩

            · skip
              have hvn : (v == (l0.length : Int)) = true := beq_iff_eq.2 hv2_
              clear hv2_
              have hz3 : (z2 != 0) = false := by rw [hz2_]; rfl
              clear hz2_
              have hz4 : decide ((k : Int) < z1) = false := decide_eq_false (by omega)
              have cK_0 := (blk_cell HK.out 0).trans rfl
              have cK_1 := (blk_cell HK.out 1).trans rfl
              have cK_2 := (blk_cell HK.out 2).trans rfl
              have lK := blk_lt HK.out
              have cT_0 := (blk_cell HT.out 0).trans rfl
              have cT_1 := (blk_cell HT.out 1).trans rfl
              have cT_2 := (blk_cell HT.out 2).trans rfl
              have cT_3 := (blk_cell HT.out 3).trans rfl
              have cT_4 := (blk_cell HT.out 4).trans rfl
              have lT := blk_lt HT.out
              go_upto_region 23 with fail
              clear cK_0 cK_1 cK_2 lK cT_0 cT_1 cT_2 cT_3 cT_4 lT
              have hb : Below wr.heap.size wr wr.drew := (Below.refl _ _).drew
              have hg := g_below hb
              replace Rk := Lib.hid (R_typed_grown Rk.out hg (fun g e => by cases e))
              replace HK := Lib.hid (blk_grown HK.out hg (by simp))
              replace HT := Lib.hid (blk_grown HT.out hg (by simp))
              replace HB := Lib.hid (HB.out.trans (below_weaken hb HB.out.size))
              clear hb hg
              refine start_ (n := 18) (S := fun w' => w'.cell? ⟨w.heap.size, 0, none⟩ = some (.slice A0 l0.length c0) ∧ w'.cell? ⟨w.heap.size, 1, none⟩ = some (.slice A1 l1.length c1) ∧ w'.cell? ⟨w.heap.size, 2, none⟩ = some (.slice A2 l2.length c2) ∧ w'.cell? ⟨W3.heap.size, 0, none⟩ = some (.slice (some ⟨bw, ow, none⟩) nd cw) ∧ w'.cell? ⟨W3.heap.size, 1, none⟩ = some (.slice (some ⟨bs, os, none⟩) nd cs) ∧ w'.cell? ⟨W3.heap.size, 2, none⟩ = some (.slice (some ⟨bk, ok, none⟩) kb.length ck) ∧ w'.cell? ⟨W3.heap.size, 3, none⟩ = some (.int .i64 la) ∧ w'.cell? ⟨W3.heap.size, 4, none⟩ = some (.int .i64 lo) ∧ w'.cell? ⟨bk, ok + k, none⟩ = some (.int .i64 v)) (ds := []) #[false, false, false, false, false, false, false, false, false, false, false, false, false, false, false, false, false, false] (by kernel_rfl) rfl rfl ⟨(blk_cell HK.out 0).trans rfl, (blk_cell HK.out 1).trans rfl, (blk_cell HK.out 2).trans rfl, (blk_cell HT.out 0).trans rfl, (blk_cell HT.out 1).trans rfl, (blk_cell HT.out 2).trans rfl, (blk_cell HT.out 3).trans rfl, (blk_cell HT.out 4).trans rfl, HCV.out _ (g_below (Below.refl _ _).drew)⟩ (fun hHeld => ?_)
              refine pu_ 0 (some 215) ?_
              refine pu_ 2 (some 217) ?_
              refine pu_ 5 (some 220) ?_
              refine ta_ 1 (some 216) (s := hHeld) (y := by rintro w' ⟨s0, s1, s2, s3, s4, s5, s6, s7, s8⟩; go_simp; with_reducible rfl) (h := ?_)
              refine pu_ 3 (some 218) ?_
              refine ta_ 4 (some 219) (s := hHeld) (y := by rintro w' ⟨s0, s1, s2, s3, s4, s5, s6, s7, s8⟩; go_simp; with_reducible rfl) (h := ?_)
              refine ta_ 6 (some 221) (s := hHeld) (y := by rintro w' ⟨s0, s1, s2, s3, s4, s5, s6, s7, s8⟩; go_simp; with_reducible rfl) (h := ?_)
              refine pu_ 7 (some 222) ?_
              refine pu_ 8 (some 223) ?_
              refine pu_ 9 (some 224) ?_
              refine pu_ 10 (some 225) ?_
              refine pu_ 11 (some 226) ?_
              refine pu_ 12 (some 227) ?_
              refine pu_ 13 (some 228) ?_
              refine pu_ 14 (some 229) ?_
              refine pu_ 15 (some 230) ?_
              refine pu_ 16 (some 231) ?_
              refine pu_ 17 (some 232) ?_
              refine done_ (by kernel_rfl) ?_

              go_wp2
              go_roundg g1
              case measure => omega
              case rel => exact ⟨k + 1, by go_num, ⟨by have := HKK.out; omega⟩, ⟨HK.out⟩, ⟨HT.out⟩, ⟨Rk.out⟩, ⟨HB.out⟩⟩
end Go.Proofs.YthgjedagbgmgmaaDoor.Pr
namespace Go.Proofs.YthgjedagbgmgmaaDoor.Pr
open Go.RowKit Go.Proofs.YthgjedagbgmgmaaDoorW.PrintWords Go.Proofs.YthgjedagbgmgmaaDoorW.PrintLast Go.Proofs.YthgjedagbgmgmaaDoorW.PrintMore
set_option linter.unusedVariables false
set_option linter.unusedSimpArgs false
theorem holds_yes {lo hi m : Int} (h0 : lo ≤ m) (h1 : m ≤ hi) (w : World) : Calls Tryd.prog 59 #[.agg #[.int .i64 lo, .int .i64 hi], .int .i64 m] w fun e w' => e = .returned (.bool true) ∧ Below w.heap.size w w' := by
  refine macadamref00_Holds.calls lo hi m true w ?_
  unfold macadamref00_Holds.f macadamref00_Amid.f
  rw [if_pos h0, decide_eq_true h1]
  rfl
theorem getD_get {ch : Ch} {d : Nat} (h : d < ch.length) : ch.getD d (0, 0) = ch[d] := by rw [List.getD_eq_getElem?_getD, List.getElem?_eq_getElem h]; rfl
set_option maxHeartbeats 1000000 in
theorem rollTrue_calls (A0 A1 A2 Ab : Option Addr) (c0 c1 c2 cb : Nat) (l0 : List S92) (l1 : List S90) (l2 : List S43) (bl : List Int) (n : Int) (w : World) (hG : GOK w) (h : BookAt w A0 A1 A2 c0 c1 c2 l0 l1 l2) (hb : Kd.C (Kd.int .i64) w Ab bl.length bl) (hcb : bl.length ≤ cb) :
    Calls Tryd.prog 7 #[.agg #[.slice A0 l0.length c0, .slice A1 l1.length c1, .slice A2 l2.length c2], .slice Ab bl.length cb, .int .i64 n] w fun e w' => e = .returned (.bool true) ∧ Below w.heap.size w w' := by
  have HSOB := fun W (hW : Below w.heap.size w W) => sound_calls A0 A1 A2 c0 c1 c2 l0 l1 l2 W (h.below hW)
  have HRO := fun W (hW : Below w.heap.size w W) => rolled_calls W (hG.below hW)
  cases hok : okBook l0 l1 l2 with
  | false =>
    rw [hok] at HSOB
    exact true_none A0 A1 A2 Ab c0 c1 c2 cb l0 l1 l2 bl n w (Lib.hid HSOB) (Lib.hid HRO)
  | true =>
    rw [hok] at HSOB
    obtain ⟨o1, o2, o3, o4, _, o6, o7⟩ := ok_facts hok
    obtain ⟨dd, hd, hwr⟩ := wrap_calls n l1.length o4 (by omega)
    have hlast : IntKind.i64.wrap ((l1.length : Int) - 1) = ((l1.length - 1 : Nat) : Int) := by
      rw [show ((l1.length - 1 : Nat) : Int) = (l1.length : Int) - 1 by omega]
      exact IntWalk.i64_in _ (by omega)
    refine true_walk A0 A1 A2 Ab c0 c1 c2 cb l0 l1 l2 bl n dd (l1.length - 1) w (by omega) hlast (by omega) (Lib.hid hwr) (Lib.hid HSOB) (Lib.hid HRO) (Lib.hid (known_book A0 A1 A2 Ab c0 c1 c2 cb l0 l1 l2 bl w h hb hcb hok fun ch Aw cw As cs Ak ck hc => ?_))
    have hok' := rightLooks_ok (ks := l2) hok hc
    have hg := rightLooks_good hok hc
    obtain ⟨lk, hlk⟩ : ∃ l, l = rightLooks l0 ch l2 := ⟨_, rfl⟩
    rw [← hlk] at hok' hg
    have hdc : dd < ch.length := by rw [hc.1]; exact hd
    obtain ⟨r1, r2⟩ := right_told hok' hg
    obtain ⟨s1, s2, a1, a2, a3⟩ := true_bound hok' hg hd
    obtain ⟨u1, u2, b1, b2, b3⟩ := true_wagons hok' hg hd
    obtain ⟨sky, k1, k2, k3, k4⟩ := true_sky hok' hg hd
    obtain ⟨p1, p2, f1, f2, f3⟩ := true_lost hok' hg
    obtain ⟨q1, q2, g1, g2, g3⟩ := true_laid hok' hg
    have hsk := okCh_sky hc hd
    rw [getD_get hdc] at b2 b3 k4 hsk
    have hkd := (boundsK_get hok hc hd).1
    have hrg := known_rightly A0 A1 A2 Aw As Ak c0 c1 c2 cw cs ck l0 l1 l2 w h hok hc (lastK l0 ch kn0).laid (lastK l0 ch kn0).lost
    rw [← hlk] at hrg
    have hin : ∀ W, Calls Tryd.prog 61 #[.int .i64 sky, .int .i64 ch[dd].2] W fun e w' => e = .returned (.bool true) ∧ Below W.heap.size W w' := fun W => by
      have := in_calls (s := sky) (j := ch[dd].2) (by omega) (by omega) hsk.1 hsk.2 W
      rw [show hasSky sky ch[dd].2.toNat = true by unfold hasSky; rw [k4]; rfl] at this
      exact this
    refine ⟨lk, s1, s2, u1, u2, sky, (rdAt l0 ch dd).bound, ch[dd].1, ch[dd].2, p1, p2, q1, q2, (doneF l0 l1 lk).1, (doneF l0 l1 lk).2, (perhapsF l0 l1 lk).1, (perhapsF l0 l1 lk).2, Lib.hid hrg, Lib.hid (kb_right A0 A1 c0 c1 l0 l1 _ w hG h r1), Lib.hid fun W Ac cc hW hr hcc => ?_, Lib.hid (kb_bound A0 A1 c0 c1 l0 l1 _ w hG h _ a1), Lib.hid (kb_wagons A0 A1 c0 c1 l0 l1 _ w hG h _ b1), Lib.hid (kb_sky A0 A1 c0 c1 l0 l1 _ w hG h _ k1), Lib.hid (kb_lost A0 A1 c0 c1 l0 l1 _ w hG h f1), Lib.hid (kb_laid A0 A1 c0 c1 l0 l1 _ w hG h g1), Lib.hid (kb_done A0 A1 c0 c1 l0 l1 _ w hG h rfl), Lib.hid (kb_perhaps A0 A1 c0 c1 l0 l1 _ w hG h rfl), Lib.hid hkd, Lib.hid (by rw [List.getElem?_map, List.getElem?_eq_getElem hdc]; rfl), Lib.hid (by rw [List.getElem?_map, List.getElem?_eq_getElem hdc]; rfl), Lib.hid (holds_yes a2 a3), Lib.hid (holds_yes b2 b3), Lib.hid (holds_yes f2 f3), Lib.hid (holds_yes g2 g3), Lib.hid (amid_true k2 k3), Lib.hid hin, Lib.hid ⟨?_, ?_⟩, Lib.hid fun j hj => ?_⟩
    · have := wrong_calls A0 A1 Ac c0 c1 cc l0 l1 lk W (hG.below hW) (h.below hW).r0 h.c0 (h.below hW).r1 h.c1 hr hcc
      rw [r2] at this
      refine this.mono ?_
      rintro e w' ⟨v, rfl, ⟨A, c, rfl, _, _⟩, hb'⟩
      exact ⟨A, c, rfl, hb'⟩
    · rcases true_done hok' hg with e | ⟨j, e, hj, hbj⟩
      · rw [e]; exact .inl rfl
      · rw [e]
        exact .inr ⟨rfl, j, rfl, Lib.hid (amid_true (by omega) (by omega)), Lib.hid (by rw [(boundsK_get hok hc hj).1, hbj])⟩
    · rcases true_perhaps hok' hg with ⟨e, _⟩ | ⟨i, e, _, _⟩
      · rw [e]; exact .inl ⟨rfl, rfl⟩
      · rw [e]; exact .inr rfl
    · refine ⟨(rdAt l0 ch j).bound, (boundsK_get hok hc hj).1, ?_⟩
      by_cases q : (rdAt l0 ch j).bound = l0.length
      · rcases true_perhaps hok' hg with ⟨e, hno⟩ | ⟨i, e, _, hle⟩
        · exact absurd q (hno j hj)
        · rw [e]
          have := hle j hj q
          exact .inr ⟨q, rfl, by dsimp only; omega⟩
      · exact .inl q
end Go.Proofs.YthgjedagbgmgmaaDoor.Pr
