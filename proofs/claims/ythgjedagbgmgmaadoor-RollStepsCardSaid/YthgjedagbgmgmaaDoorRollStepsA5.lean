/- Part 5 of the proof that RollSteps answers true: contracts and laws, merged by a program. -/
import Derived.Deep.RegionLawGrows
import Derived.Test.YthgjedagbgmgmaaDoorRollStepsA4
namespace Go.Proofs.YthgjedagbgmgmaaDoor.Pr
open Go.RowKit Go.Proofs.YthgjedagbgmgmaaDoorW.PrintWords Go.Proofs.YthgjedagbgmgmaaDoorW.PrintLast Go.Proofs.YthgjedagbgmgmaaDoorW.PrintMore
set_option linter.unusedVariables false
set_option linter.unusedSimpArgs false
/-- What is told of the layers that are bound at the end of a day. -/
def bspan (T : List (List Int)) (d : Nat) : Int × Int := spanF (fun t => t.getD (10 + d * 10) 0) T ((T.headD []).getD (10 + d * 10) 0)
/-- The first day of some at which an end is a number. -/
def firstFrom (g : Nat → Int) (n : Int) : Nat → Nat → Int × Int
  | 0, _ => (0, 4)
  | k + 1, d => if g d = n then ((d : Int), 0) else firstFrom g n k (d + 1)
def doneF (ls : List S92) (ds : List S90) (ks : List S43) : Int × Int := if askCode ls ds ks true = 0 then firstFrom (fun d => (bspan (truthsAll ls ds ks []) d).1) ls.length ds.length 0 else (0, askCode ls ds ks true)
def perhapsF (ls : List S92) (ds : List S90) (ks : List S43) : Int × Int := if askCode ls ds ks true = 0 then firstFrom (fun d => (bspan (truthsAll ls ds ks []) d).2) ls.length ds.length 0 else (0, askCode ls ds ks true)
set_option maxHeartbeats 4000000 in
set_option maxRecDepth 100000 in
theorem firstDone_calls (A0 A1 A2 : Option Addr) (c0 c1 c2 : Nat) (l0 : List S92) (l1 : List S90) (l2 : List S43) (w : World) (hG : GOK w) (hr0 : Kd.C k92 w A0 l0.length l0) (hc0 : l0.length ≤ c0) (hr1 : Kd.C k90 w A1 l1.length l1) (hc1 : l1.length ≤ c1) (hr2 : Kd.C k43 w A2 l2.length l2) (hc2 : l2.length ≤ c2) :
    Calls Tryd.prog 94 #[.agg #[.slice A0 l0.length c0, .slice A1 l1.length c1, .slice A2 l2.length c2], .func (.func 95) #[] #[]] w fun e w' => e = .returned (.tuple #[.int .i64 (doneF l0 l1 l2).1, .int .i64 (doneF l0 l1 l2).2]) ∧ Below w.heap.size w w' := by
  have h0 : (l0.length : Int) ≤ 9223372036854775807 := by have := hr0.2.1; omega
  have h1 : (l1.length : Int) ≤ 9223372036854775807 := by have := hr1.2.1; omega
  have h2 : (l2.length : Int) ≤ 9223372036854775807 := by have := hr2.2.1; omega
  have HASK := Lib.hid (ask_calls A0 A1 A2 c0 c1 c2 l0 l1 l2 w hG hr0 hc0 hr1 hc1 hr2 hc2 h0 h1 h2 true)
  unfold doneF
  obtain ⟨code, hcode⟩ : ∃ c, c = askCode l0 l1 l2 true := ⟨_, rfl⟩
  rw [← hcode]
  rw [← hcode] at HASK
  have HCODE := Lib.hid hcode
  clear hG hr0 hr1 hr2 hcode h0 h2
  by_cases hz : code = 0
  · rw [if_pos hz]
    have ht : (code != 0) = false := by simpa using hz
    obtain ⟨hok, _, hT0⟩ := askCode_zero (HCODE.out.symm.trans hz)
    obtain ⟨o1, o2, o3, o4, o5, o6, o7⟩ := ok_facts hok
    have HOK := Lib.hid hok
    have HT0 := Lib.hid hT0
    have HZ := Lib.hid hz
    clear hz hok o5 o6 o7 o1 hT0 h1
    go_enter Tryd.func94, Tryd.ntmps94
    go_wp2_with fail
    refine (HASK.out _ ?hw).mono ?_
    (case hw => exact by repeat (first | exact Below.refl _ _ | refine Below.alloc ?_ (by simp <;> omega) _ | refine Below.setCell ?_ (by simp <;> omega) _ | apply Below.drew))
    rintro e w6 ⟨v, rfl, hP, hb⟩
    obtain ⟨B0, n0, d0, B1, n1, d1, B2, n2, d2, mp, B3, n3, d3, rfl, hP⟩ := hP
    obtain ⟨rfl, rfl, rfl, rfl, rfl, rfl, rfl, rfl, rfl, rfl, ho, mm, rfl, _, _⟩ := hP HZ.out
    have hg2 : w6.heap[w.heap.size]? = some (.cells #[.slice B0 l0.length d0, .slice B1 l1.length d1, .slice B2 l2.length d2] 26 (0, 0)) := blk_below (blk_new w _) hb
    have HB6 := Lib.hid ((show Below w.heap.size w _ from by repeat (first | exact Below.refl _ _ | refine Below.alloc ?_ (by simp <;> omega) _ | refine Below.setCell ?_ (by simp <;> omega) _ | apply Below.drew)).trans (below_weaken hb (by simp)))
    have hF := frow_own ho (truthsAll_60 o3)
    obtain ⟨hF, _, hcd⟩ := hF
    have HSP : Hid (∀ (W : World) (p d : Nat), Below w6.heap.size w6 W → W.cell? ⟨p, 0, none⟩ = some (.int .i64 (d : Int)) → d < 5 →
        Calls Tryd.prog 82 #[.agg #[.slice B0 l0.length d0, .slice B1 l1.length d1, .slice B2 l2.length d2, .map (some mm), .slice B3 (truthsAll l0 l1 l2 []).length d3], .func (.func 127) #[] #[.pointer (some ⟨p, 0, none⟩)]] W fun e w' => e = .returned (.agg #[.int .i64 (bspan (truthsAll l0 l1 l2 []) d).1, .int .i64 (bspan (truthsAll l0 l1 l2 []) d).2]) ∧ Below W.heap.size W w') :=
      Lib.hid fun W p d hW hp hd =>
        span_127 B0 B1 B2 B3 l0.length d0 l1.length d1 l2.length d2 d3 (some mm) (truthsAll l0 l1 l2 []) (.pointer (some ⟨p, 0, none⟩)) (fun t => t.getD (10 + d * 10) 0) W (hF.below hW) (truthsAll_60 o3) HT0.out hcd (truthsAll_len HOK.out) (fun W' hW' t ht =>
          first1_calls t d p W' (truthsAll_60 o3 t ht) hd (Nat.lt_of_lt_of_le (World.block_lt_of_cell? W ⟨p, 0, none⟩ hp) hW'.size) ((hW'.cell (p := ⟨p, 0, none⟩) (World.block_lt_of_cell? W ⟨p, 0, none⟩ hp)).trans hp))
    have HG2 := Lib.hid hg2
    have hg20 := (blk_cell (blk_alloc hg2 (.cells #[.slice B0 l0.length d0, .slice B1 l1.length d1, .slice B2 l2.length d2, .map (some mm), .slice B3 (truthsAll l0 l1 l2 []).length d3] 107)) 1).trans rfl
    have hl2 := blk_lt hg2
    clear hP ho hF hcd hg2 hb
    go_wp2
    clear hg20
    go_loopg [20] (l1.length) (fun gk v20 wr => ∃ (k : Nat), v20 = .int .i64 k ∧ Aside0 (k + gk = l1.length) ∧ Aside0 (firstFrom (fun d => (bspan (truthsAll l0 l1 l2 []) d).1) l0.length l1.length 0 = firstFrom (fun d => (bspan (truthsAll l0 l1 l2 []) d).1) l0.length gk k) ∧ Aside0 (wr.heap[w6.heap.size]? = some (.cells #[.slice B0 l0.length d0, .slice B1 l1.length d1, .slice B2 l2.length d2, .map (some mm), .slice B3 (truthsAll l0 l1 l2 []).length d3] 107 (0, 0))) ∧ Aside0 (wr.heap[w.heap.size]? = some (.cells #[.slice B0 l0.length d0, .slice B1 l1.length d1, .slice B2 l2.length d2] 26 (0, 0))) ∧ Aside0 (Below w6.heap.size w6 wr))
    case atStart => exact ⟨0, rfl, ⟨by omega⟩, ⟨rfl⟩, ⟨blk_new _ _⟩, ⟨blk_alloc HG2.out _⟩, ⟨by repeat (first | exact Below.refl _ _ | refine Below.alloc ?_ (by simp <;> omega) _ | refine Below.setCell ?_ (by simp <;> omega) _ | apply Below.drew)⟩⟩
    case round =>
      obtain ⟨k, rfl, HK, HS, HG6R, HG2R, HBR⟩ := hrel
      cases gk with
      | zero =>
        have hge : ¬ k < l1.length := by have := HK.out; omega
        go_wp2
        go_ret2
        refine ⟨?_, HB6.out.trans (below_weaken HBR.out HB6.out.size)⟩
        rw [HS.out]
        rfl
      | succ g1 =>
        have hlt : k < l1.length := by have := HK.out; omega
        obtain ⟨r1, hr1⟩ : ∃ x, x = (bspan (truthsAll l0 l1 l2 []) k).1 := ⟨_, rfl⟩
        obtain ⟨r2, hr2⟩ : ∃ x, x = (bspan (truthsAll l0 l1 l2 []) k).2 := ⟨_, rfl⟩
        have HSPK : Hid (∀ (W : World), Below w6.heap.size w6 W → W.cell? ⟨wr.heap.size, 0, none⟩ = some (.int .i64 (k : Int)) →
            Calls Tryd.prog 82 #[.agg #[.slice B0 l0.length d0, .slice B1 l1.length d1, .slice B2 l2.length d2, .map (some mm), .slice B3 (truthsAll l0 l1 l2 []).length d3], .func (.func 127) #[] #[.pointer (some ⟨wr.heap.size, 0, none⟩)]] W fun e w' => e = .returned (.agg #[.int .i64 r1, .int .i64 r2]) ∧ Below W.heap.size W w') := by
          refine Lib.hid fun W hW hp => ?_
          rw [hr1, hr2]
          exact HSP.out W wr.heap.size k hW hp (by omega)
        have HR1 := Lib.hid hr1
        have HR2 := Lib.hid hr2
        clear hr1 hr2
        by_cases hs : r1 = (l0.length : Int)
        · have hsb : (r1 == (l0.length : Int)) = true := beq_iff_eq.2 hs
          have HHS := Lib.hid hs
          clear hs
          go_upto_region 7 with fail
          obtain ⟨wP, hwP⟩ : ∃ W, W = wr.alloc (.cells #[.int .i64 (k : Int)] 3) := ⟨_, rfl⟩
          rw [← hwP]
          have hBP : Below wr.heap.size wr wP.drew := by rw [hwP]; exact by repeat (first | exact Below.refl _ _ | refine Below.alloc ?_ (by simp <;> omega) _ | refine Below.setCell ?_ (by simp <;> omega) _ | apply Below.drew)
          have HG6P := Lib.hid (blk_below HG6R.out hBP)
          have HG2P := Lib.hid (blk_below HG2R.out hBP)
          have hq := (show wP.drew.heap[wr.heap.size]? = some (.cells #[.int .i64 (k : Int)] 3 (0, 0)) by rw [hwP]; exact blk_new _ _)
          have HCK := Lib.hid ((blk_cell hq 0).trans rfl)
          have HLP := Lib.hid (blk_lt hq)
          have HBP := Lib.hid (HBR.out.trans (below_weaken hBP HBR.out.size))
          clear hwP hBP hq
          refine start_ (n := 9) (S := fun w' => w'.cell? ⟨w6.heap.size, 0, none⟩ = some (.slice B0 l0.length d0) ∧ w'.cell? ⟨w6.heap.size, 1, none⟩ = some (.slice B1 l1.length d1) ∧ w'.cell? ⟨w6.heap.size, 2, none⟩ = some (.slice B2 l2.length d2) ∧ w'.cell? ⟨w6.heap.size, 3, none⟩ = some (.map (some mm)) ∧ w'.cell? ⟨w6.heap.size, 4, none⟩ = some (.slice B3 (truthsAll l0 l1 l2 []).length d3) ∧ w'.cell? ⟨w.heap.size, 0, none⟩ = some (.slice B0 l0.length d0)) (ds := []) #[false, false, false, false, false, false, false, false, false] (by kernel_rfl) rfl rfl ⟨(blk_cell HG6P.out 0).trans rfl, (blk_cell HG6P.out 1).trans rfl, (blk_cell HG6P.out 2).trans rfl, (blk_cell HG6P.out 3).trans rfl, (blk_cell HG6P.out 4).trans rfl, (blk_cell HG2P.out 0).trans rfl⟩ (fun hHeld => ?_)
          refine pure_ (i := 0) (N := some 23) (v := ?_) (a' := ?_) #[true, false, false, false, false, false, false, false, false] rfl rfl (by kernel_rfl) (fun _ _ _ h => h) (Or.inl ⟨by rfl, ?_⟩) ?_ ?_
          rotate_left
          · intro w'
            go_simp
            with_reducible rfl
          rotate_left
          · simp only [Act.put, List.setIfInBounds_toArray, List.set_cons_zero, List.set_cons_succ, i64_w, i32_w]
            rfl
          refine pure_ (i := 2) (N := some 25) (v := ?_) (a' := ?_) #[true, false, true, false, false, false, false, false, false] rfl rfl (by kernel_rfl) (fun _ _ _ h => h) (Or.inl ⟨by rfl, ?_⟩) ?_ ?_
          rotate_left
          · intro w'
            go_simp
            with_reducible rfl
          rotate_left
          · simp only [Act.put, List.setIfInBounds_toArray, List.set_cons_zero, List.set_cons_succ, i64_w, i32_w]
            rfl
          refine pure_ (i := 5) (N := some 28) (v := ?_) (a' := ?_) #[true, false, true, false, false, true, false, false, false] rfl rfl (by kernel_rfl) (fun _ _ _ h => h) (Or.inl ⟨by rfl, ?_⟩) ?_ ?_
          rotate_left
          · intro w'
            go_simp
            with_reducible rfl
          rotate_left
          · simp only [Act.put, List.setIfInBounds_toArray, List.set_cons_zero, List.set_cons_succ, i64_w, i32_w]
            rfl
          refine take_ (i := 1) (N := some 24) (v := ?_) (a' := ?_) #[true, true, true, false, false, true, false, false, false] rfl rfl (by kernel_rfl) (fun _ _ _ h => h) (Or.inl ⟨by rfl, ?_⟩) hHeld ?_ ?_
          rotate_left
          · rintro w' ⟨s0, s1, s2, s3, s4, s5⟩
            go_simp
            with_reducible rfl
          rotate_left
          · simp only [Act.put, List.setIfInBounds_toArray, List.set_cons_zero, List.set_cons_succ, i64_w, i32_w]
            rfl
          refine take_ (i := 6) (N := some 29) (v := ?_) (a' := ?_) #[true, true, true, false, false, true, true, false, false] rfl rfl (by kernel_rfl) (fun _ _ _ h => h) (Or.inl ⟨by rfl, ?_⟩) hHeld ?_ ?_
          rotate_left
          · rintro w' ⟨s0, s1, s2, s3, s4, s5⟩
            go_simp
            with_reducible rfl
          rotate_left
          · simp only [Act.put, List.setIfInBounds_toArray, List.set_cons_zero, List.set_cons_succ, i64_w, i32_w]
            rfl
          refine pure_ (i := 7) (N := some 30) (v := ?_) (a' := ?_) #[true, true, true, false, false, true, true, true, false] rfl rfl (by kernel_rfl) (fun _ _ _ h => h) (Or.inl ⟨by rfl, ?_⟩) ?_ ?_
          rotate_left
          · intro w'
            go_simp
            with_reducible rfl
          rotate_left
          · simp only [Act.put, List.setIfInBounds_toArray, List.set_cons_zero, List.set_cons_succ, i64_w, i32_w]
            rfl
          refine one_ (i := 3) (N := some 26) #[true, true, true, true, false, true, true, true, false] rfl rfl (by kernel_rfl) (by decide) (fun K hK => ?_)
          refine goes_ Tryd.func82 (by kernel_rfl) rfl #[.agg #[.slice B0 l0.length d0, .slice B1 l1.length d1, .slice B2 l2.length d2, .map (some mm), .slice B3 (truthsAll l0 l1 l2 []).length d3], .func (.func 127) #[] #[.pointer (some ⟨wr.heap.size, 0, none⟩)]] (by rfl) rfl rfl (by simp only [List.map_toArray, List.map_cons, List.map_nil]; rfl) ?_
          refine (HSPK.out _ HBP.out HCK.out).mono ?_
          rintro e w7 ⟨rfl, hb⟩
          refine ⟨_, rfl, ?_⟩
          have h67 := blk_below HG6P.out hb
          have h27 := blk_below HG2P.out hb
          have hcell7 := (hb.cell (p := ⟨wr.heap.size, 0, none⟩) HLP.out).trans HCK.out
          have HB7 := Lib.hid (HBP.out.trans (below_weaken hb HBP.out.size))
          have hl7 := Nat.lt_of_lt_of_le HLP.out hb.size
          refine hK.out _ _ ⟨(blk_cell h67 0).trans rfl, (blk_cell h67 1).trans rfl, (blk_cell h67 2).trans rfl, (blk_cell h67 3).trans rfl, (blk_cell h67 4).trans rfl, (blk_cell h27 0).trans rfl⟩ (fun hHeld => ?_)
          clear hK K
          refine norm_ (a' := ?_) ?_ ?_
          rotate_left
          · show Act.put _ (some 26) _ = _
            simp only [Act.put, List.setIfInBounds_toArray, List.set_cons_zero, List.set_cons_succ, i64_w, i32_w]
            rfl
          refine one_ (i := 4) (N := some 27) #[true, true, true, true, true, true, true, true, false] rfl rfl (by kernel_rfl) (by decide) (fun K hK => ?_)
          refine goesV_ Tryd.func95 (by kernel_rfl) rfl #[.agg #[.int .i64 r1, .int .i64 r2]] #[] #[] (by rfl) rfl rfl rfl (by simp only [List.map_toArray, List.map_cons, List.map_nil]; rfl) ?_
          refine (done1_calls r1 r2 _).mono ?_
          rintro e w8 ⟨rfl, hb8⟩
          refine ⟨_, rfl, ?_⟩
          have h68 := blk_below h67 hb8
          have h28 := blk_below h27 hb8
          have hcell8 := (hb8.cell (p := ⟨wr.heap.size, 0, none⟩) hl7).trans hcell7
          have HB8 := Lib.hid (HB7.out.trans (below_weaken hb8 HB7.out.size))
          refine hK.out _ _ ⟨(blk_cell h68 0).trans rfl, (blk_cell h68 1).trans rfl, (blk_cell h68 2).trans rfl, (blk_cell h68 3).trans rfl, (blk_cell h68 4).trans rfl, (blk_cell h28 0).trans rfl⟩ (fun hHeld => ?_)
          clear hK K
          refine norm_ (a' := ?_) ?_ ?_
          rotate_left
          · show Act.put _ (some 27) _ = _
            simp only [Act.put, List.setIfInBounds_toArray, List.set_cons_zero, List.set_cons_succ, i64_w, i32_w]
            rfl
          refine pure_ (i := 8) (N := some 31) (v := ?_) (a' := ?_) #[true, true, true, true, true, true, true, true, true] rfl rfl (by kernel_rfl) (fun _ _ _ h => h) (Or.inl ⟨by rfl, ?_⟩) ?_ ?_
          rotate_left
          · intro w'
            go_simp
            with_reducible rfl
          rotate_left
          · simp only [Act.put, List.setIfInBounds_toArray, List.set_cons_zero, List.set_cons_succ, i64_w, i32_w]
            rfl
          refine done_ (by kernel_rfl) ?_

          go_wp2
          go_ret2
          refine ⟨?_, HB6.out.trans (below_weaken HB8.out HB6.out.size)⟩
          rw [HS.out]
          show _ = Ending.returned (.tuple #[.int .i64 (if _ = _ then _ else _ : Int × Int).1, .int .i64 (if _ = _ then _ else _ : Int × Int).2])
          rw [if_pos (HR1.out.symm.trans HHS.out)]
          rfl
        · have hsb : (r1 == (l0.length : Int)) = false := beq_eq_false_iff_ne.2 hs
          have HHS := Lib.hid hs
          clear hs
          go_upto_region 7 with fail
          obtain ⟨wP, hwP⟩ : ∃ W, W = wr.alloc (.cells #[.int .i64 (k : Int)] 3) := ⟨_, rfl⟩
          rw [← hwP]
          have hBP : Below wr.heap.size wr wP.drew := by rw [hwP]; exact by repeat (first | exact Below.refl _ _ | refine Below.alloc ?_ (by simp <;> omega) _ | refine Below.setCell ?_ (by simp <;> omega) _ | apply Below.drew)
          have HG6P := Lib.hid (blk_below HG6R.out hBP)
          have HG2P := Lib.hid (blk_below HG2R.out hBP)
          have hq := (show wP.drew.heap[wr.heap.size]? = some (.cells #[.int .i64 (k : Int)] 3 (0, 0)) by rw [hwP]; exact blk_new _ _)
          have HCK := Lib.hid ((blk_cell hq 0).trans rfl)
          have HLP := Lib.hid (blk_lt hq)
          have HBP := Lib.hid (HBR.out.trans (below_weaken hBP HBR.out.size))
          clear hwP hBP hq
          refine start_ (n := 9) (S := fun w' => w'.cell? ⟨w6.heap.size, 0, none⟩ = some (.slice B0 l0.length d0) ∧ w'.cell? ⟨w6.heap.size, 1, none⟩ = some (.slice B1 l1.length d1) ∧ w'.cell? ⟨w6.heap.size, 2, none⟩ = some (.slice B2 l2.length d2) ∧ w'.cell? ⟨w6.heap.size, 3, none⟩ = some (.map (some mm)) ∧ w'.cell? ⟨w6.heap.size, 4, none⟩ = some (.slice B3 (truthsAll l0 l1 l2 []).length d3) ∧ w'.cell? ⟨w.heap.size, 0, none⟩ = some (.slice B0 l0.length d0)) (ds := []) #[false, false, false, false, false, false, false, false, false] (by kernel_rfl) rfl rfl ⟨(blk_cell HG6P.out 0).trans rfl, (blk_cell HG6P.out 1).trans rfl, (blk_cell HG6P.out 2).trans rfl, (blk_cell HG6P.out 3).trans rfl, (blk_cell HG6P.out 4).trans rfl, (blk_cell HG2P.out 0).trans rfl⟩ (fun hHeld => ?_)
          refine pure_ (i := 0) (N := some 23) (v := ?_) (a' := ?_) #[true, false, false, false, false, false, false, false, false] rfl rfl (by kernel_rfl) (fun _ _ _ h => h) (Or.inl ⟨by rfl, ?_⟩) ?_ ?_
          rotate_left
          · intro w'
            go_simp
            with_reducible rfl
          rotate_left
          · simp only [Act.put, List.setIfInBounds_toArray, List.set_cons_zero, List.set_cons_succ, i64_w, i32_w]
            rfl
          refine pure_ (i := 2) (N := some 25) (v := ?_) (a' := ?_) #[true, false, true, false, false, false, false, false, false] rfl rfl (by kernel_rfl) (fun _ _ _ h => h) (Or.inl ⟨by rfl, ?_⟩) ?_ ?_
          rotate_left
          · intro w'
            go_simp
            with_reducible rfl
          rotate_left
          · simp only [Act.put, List.setIfInBounds_toArray, List.set_cons_zero, List.set_cons_succ, i64_w, i32_w]
            rfl
          refine pure_ (i := 5) (N := some 28) (v := ?_) (a' := ?_) #[true, false, true, false, false, true, false, false, false] rfl rfl (by kernel_rfl) (fun _ _ _ h => h) (Or.inl ⟨by rfl, ?_⟩) ?_ ?_
          rotate_left
          · intro w'
            go_simp
            with_reducible rfl
          rotate_left
          · simp only [Act.put, List.setIfInBounds_toArray, List.set_cons_zero, List.set_cons_succ, i64_w, i32_w]
            rfl
          refine take_ (i := 1) (N := some 24) (v := ?_) (a' := ?_) #[true, true, true, false, false, true, false, false, false] rfl rfl (by kernel_rfl) (fun _ _ _ h => h) (Or.inl ⟨by rfl, ?_⟩) hHeld ?_ ?_
          rotate_left
          · rintro w' ⟨s0, s1, s2, s3, s4, s5⟩
            go_simp
            with_reducible rfl
          rotate_left
          · simp only [Act.put, List.setIfInBounds_toArray, List.set_cons_zero, List.set_cons_succ, i64_w, i32_w]
            rfl
          refine take_ (i := 6) (N := some 29) (v := ?_) (a' := ?_) #[true, true, true, false, false, true, true, false, false] rfl rfl (by kernel_rfl) (fun _ _ _ h => h) (Or.inl ⟨by rfl, ?_⟩) hHeld ?_ ?_
          rotate_left
          · rintro w' ⟨s0, s1, s2, s3, s4, s5⟩
            go_simp
            with_reducible rfl
          rotate_left
          · simp only [Act.put, List.setIfInBounds_toArray, List.set_cons_zero, List.set_cons_succ, i64_w, i32_w]
            rfl
          refine pure_ (i := 7) (N := some 30) (v := ?_) (a' := ?_) #[true, true, true, false, false, true, true, true, false] rfl rfl (by kernel_rfl) (fun _ _ _ h => h) (Or.inl ⟨by rfl, ?_⟩) ?_ ?_
          rotate_left
          · intro w'
            go_simp
            with_reducible rfl
          rotate_left
          · simp only [Act.put, List.setIfInBounds_toArray, List.set_cons_zero, List.set_cons_succ, i64_w, i32_w]
            rfl
          refine one_ (i := 3) (N := some 26) #[true, true, true, true, false, true, true, true, false] rfl rfl (by kernel_rfl) (by decide) (fun K hK => ?_)
          refine goes_ Tryd.func82 (by kernel_rfl) rfl #[.agg #[.slice B0 l0.length d0, .slice B1 l1.length d1, .slice B2 l2.length d2, .map (some mm), .slice B3 (truthsAll l0 l1 l2 []).length d3], .func (.func 127) #[] #[.pointer (some ⟨wr.heap.size, 0, none⟩)]] (by rfl) rfl rfl (by simp only [List.map_toArray, List.map_cons, List.map_nil]; rfl) ?_
          refine (HSPK.out _ HBP.out HCK.out).mono ?_
          rintro e w7 ⟨rfl, hb⟩
          refine ⟨_, rfl, ?_⟩
          have h67 := blk_below HG6P.out hb
          have h27 := blk_below HG2P.out hb
          have hcell7 := (hb.cell (p := ⟨wr.heap.size, 0, none⟩) HLP.out).trans HCK.out
          have HB7 := Lib.hid (HBP.out.trans (below_weaken hb HBP.out.size))
          have hl7 := Nat.lt_of_lt_of_le HLP.out hb.size
          refine hK.out _ _ ⟨(blk_cell h67 0).trans rfl, (blk_cell h67 1).trans rfl, (blk_cell h67 2).trans rfl, (blk_cell h67 3).trans rfl, (blk_cell h67 4).trans rfl, (blk_cell h27 0).trans rfl⟩ (fun hHeld => ?_)
          clear hK K
          refine norm_ (a' := ?_) ?_ ?_
          rotate_left
          · show Act.put _ (some 26) _ = _
            simp only [Act.put, List.setIfInBounds_toArray, List.set_cons_zero, List.set_cons_succ, i64_w, i32_w]
            rfl
          refine one_ (i := 4) (N := some 27) #[true, true, true, true, true, true, true, true, false] rfl rfl (by kernel_rfl) (by decide) (fun K hK => ?_)
          refine goesV_ Tryd.func95 (by kernel_rfl) rfl #[.agg #[.int .i64 r1, .int .i64 r2]] #[] #[] (by rfl) rfl rfl rfl (by simp only [List.map_toArray, List.map_cons, List.map_nil]; rfl) ?_
          refine (done1_calls r1 r2 _).mono ?_
          rintro e w8 ⟨rfl, hb8⟩
          refine ⟨_, rfl, ?_⟩
          have h68 := blk_below h67 hb8
          have h28 := blk_below h27 hb8
          have hcell8 := (hb8.cell (p := ⟨wr.heap.size, 0, none⟩) hl7).trans hcell7
          have HB8 := Lib.hid (HB7.out.trans (below_weaken hb8 HB7.out.size))
          refine hK.out _ _ ⟨(blk_cell h68 0).trans rfl, (blk_cell h68 1).trans rfl, (blk_cell h68 2).trans rfl, (blk_cell h68 3).trans rfl, (blk_cell h68 4).trans rfl, (blk_cell h28 0).trans rfl⟩ (fun hHeld => ?_)
          clear hK K
          refine norm_ (a' := ?_) ?_ ?_
          rotate_left
          · show Act.put _ (some 27) _ = _
            simp only [Act.put, List.setIfInBounds_toArray, List.set_cons_zero, List.set_cons_succ, i64_w, i32_w]
            rfl
          refine pure_ (i := 8) (N := some 31) (v := ?_) (a' := ?_) #[true, true, true, true, true, true, true, true, true] rfl rfl (by kernel_rfl) (fun _ _ _ h => h) (Or.inl ⟨by rfl, ?_⟩) ?_ ?_
          rotate_left
          · intro w'
            go_simp
            with_reducible rfl
          rotate_left
          · simp only [Act.put, List.setIfInBounds_toArray, List.set_cons_zero, List.set_cons_succ, i64_w, i32_w]
            rfl
          refine done_ (by kernel_rfl) ?_

          go_wp2
          go_roundg g1
          case measure => omega
          case rel =>
            refine ⟨k + 1, by go_num, ⟨by have := HK.out; omega⟩, ⟨?_⟩, ⟨h68⟩, ⟨h28⟩, ⟨HB8.out⟩⟩
            rw [HS.out]
            show (if _ = _ then _ else _) = _
            rw [if_neg (fun e => HHS.out (HR1.out.trans e))]
  · rw [if_neg hz]
    have ht : (code != 0) = true := by simpa using hz
    go_enter Tryd.func94, Tryd.ntmps94
    go_wp2_with fail
    refine (HASK.out _ ?hw).mono ?_
    (case hw => exact by repeat (first | exact Below.refl _ _ | refine Below.alloc ?_ (by simp <;> omega) _ | refine Below.setCell ?_ (by simp <;> omega) _ | apply Below.drew))
    rintro e w6 ⟨v, rfl, hP, hb⟩
    obtain ⟨B0, n0, d0, B1, n1, d1, B2, n2, d2, mp, B3, n3, d3, rfl, hP⟩ := hP
    have HB6 := Lib.hid ((show Below w.heap.size w _ from by repeat (first | exact Below.refl _ _ | refine Below.alloc ?_ (by simp <;> omega) _ | refine Below.setCell ?_ (by simp <;> omega) _ | apply Below.drew)).trans (below_weaken hb (by simp)))
    clear hb hP
    go_wp2
    go_ret2
    exact ⟨rfl, HB6.out.alloc HB6.out.size _⟩
set_option maxHeartbeats 4000000 in
set_option maxRecDepth 100000 in
theorem firstPerhaps_calls (A0 A1 A2 : Option Addr) (c0 c1 c2 : Nat) (l0 : List S92) (l1 : List S90) (l2 : List S43) (w : World) (hG : GOK w) (hr0 : Kd.C k92 w A0 l0.length l0) (hc0 : l0.length ≤ c0) (hr1 : Kd.C k90 w A1 l1.length l1) (hc1 : l1.length ≤ c1) (hr2 : Kd.C k43 w A2 l2.length l2) (hc2 : l2.length ≤ c2) :
    Calls Tryd.prog 94 #[.agg #[.slice A0 l0.length c0, .slice A1 l1.length c1, .slice A2 l2.length c2], .func (.func 97) #[] #[]] w fun e w' => e = .returned (.tuple #[.int .i64 (perhapsF l0 l1 l2).1, .int .i64 (perhapsF l0 l1 l2).2]) ∧ Below w.heap.size w w' := by
  have h0 : (l0.length : Int) ≤ 9223372036854775807 := by have := hr0.2.1; omega
  have h1 : (l1.length : Int) ≤ 9223372036854775807 := by have := hr1.2.1; omega
  have h2 : (l2.length : Int) ≤ 9223372036854775807 := by have := hr2.2.1; omega
  have HASK := Lib.hid (ask_calls A0 A1 A2 c0 c1 c2 l0 l1 l2 w hG hr0 hc0 hr1 hc1 hr2 hc2 h0 h1 h2 true)
  unfold perhapsF
  obtain ⟨code, hcode⟩ : ∃ c, c = askCode l0 l1 l2 true := ⟨_, rfl⟩
  rw [← hcode]
  rw [← hcode] at HASK
  have HCODE := Lib.hid hcode
  clear hG hr0 hr1 hr2 hcode h0 h2
  by_cases hz : code = 0
  · rw [if_pos hz]
    have ht : (code != 0) = false := by simpa using hz
    obtain ⟨hok, _, hT0⟩ := askCode_zero (HCODE.out.symm.trans hz)
    obtain ⟨o1, o2, o3, o4, o5, o6, o7⟩ := ok_facts hok
    have HOK := Lib.hid hok
    have HT0 := Lib.hid hT0
    have HZ := Lib.hid hz
    clear hz hok o5 o6 o7 o1 hT0 h1
    go_enter Tryd.func94, Tryd.ntmps94
    go_wp2_with fail
    refine (HASK.out _ ?hw).mono ?_
    (case hw => exact by repeat (first | exact Below.refl _ _ | refine Below.alloc ?_ (by simp <;> omega) _ | refine Below.setCell ?_ (by simp <;> omega) _ | apply Below.drew))
    rintro e w6 ⟨v, rfl, hP, hb⟩
    obtain ⟨B0, n0, d0, B1, n1, d1, B2, n2, d2, mp, B3, n3, d3, rfl, hP⟩ := hP
    obtain ⟨rfl, rfl, rfl, rfl, rfl, rfl, rfl, rfl, rfl, rfl, ho, mm, rfl, _, _⟩ := hP HZ.out
    have hg2 : w6.heap[w.heap.size]? = some (.cells #[.slice B0 l0.length d0, .slice B1 l1.length d1, .slice B2 l2.length d2] 26 (0, 0)) := blk_below (blk_new w _) hb
    have HB6 := Lib.hid ((show Below w.heap.size w _ from by repeat (first | exact Below.refl _ _ | refine Below.alloc ?_ (by simp <;> omega) _ | refine Below.setCell ?_ (by simp <;> omega) _ | apply Below.drew)).trans (below_weaken hb (by simp)))
    have hF := frow_own ho (truthsAll_60 o3)
    obtain ⟨hF, _, hcd⟩ := hF
    have HSP : Hid (∀ (W : World) (p d : Nat), Below w6.heap.size w6 W → W.cell? ⟨p, 0, none⟩ = some (.int .i64 (d : Int)) → d < 5 →
        Calls Tryd.prog 82 #[.agg #[.slice B0 l0.length d0, .slice B1 l1.length d1, .slice B2 l2.length d2, .map (some mm), .slice B3 (truthsAll l0 l1 l2 []).length d3], .func (.func 127) #[] #[.pointer (some ⟨p, 0, none⟩)]] W fun e w' => e = .returned (.agg #[.int .i64 (bspan (truthsAll l0 l1 l2 []) d).1, .int .i64 (bspan (truthsAll l0 l1 l2 []) d).2]) ∧ Below W.heap.size W w') :=
      Lib.hid fun W p d hW hp hd =>
        span_127 B0 B1 B2 B3 l0.length d0 l1.length d1 l2.length d2 d3 (some mm) (truthsAll l0 l1 l2 []) (.pointer (some ⟨p, 0, none⟩)) (fun t => t.getD (10 + d * 10) 0) W (hF.below hW) (truthsAll_60 o3) HT0.out hcd (truthsAll_len HOK.out) (fun W' hW' t ht =>
          first1_calls t d p W' (truthsAll_60 o3 t ht) hd (Nat.lt_of_lt_of_le (World.block_lt_of_cell? W ⟨p, 0, none⟩ hp) hW'.size) ((hW'.cell (p := ⟨p, 0, none⟩) (World.block_lt_of_cell? W ⟨p, 0, none⟩ hp)).trans hp))
    have HG2 := Lib.hid hg2
    have hg20 := (blk_cell (blk_alloc hg2 (.cells #[.slice B0 l0.length d0, .slice B1 l1.length d1, .slice B2 l2.length d2, .map (some mm), .slice B3 (truthsAll l0 l1 l2 []).length d3] 107)) 1).trans rfl
    have hl2 := blk_lt hg2
    clear hP ho hF hcd hg2 hb
    go_wp2
    clear hg20
    go_loopg [20] (l1.length) (fun gk v20 wr => ∃ (k : Nat), v20 = .int .i64 k ∧ Aside0 (k + gk = l1.length) ∧ Aside0 (firstFrom (fun d => (bspan (truthsAll l0 l1 l2 []) d).2) l0.length l1.length 0 = firstFrom (fun d => (bspan (truthsAll l0 l1 l2 []) d).2) l0.length gk k) ∧ Aside0 (wr.heap[w6.heap.size]? = some (.cells #[.slice B0 l0.length d0, .slice B1 l1.length d1, .slice B2 l2.length d2, .map (some mm), .slice B3 (truthsAll l0 l1 l2 []).length d3] 107 (0, 0))) ∧ Aside0 (wr.heap[w.heap.size]? = some (.cells #[.slice B0 l0.length d0, .slice B1 l1.length d1, .slice B2 l2.length d2] 26 (0, 0))) ∧ Aside0 (Below w6.heap.size w6 wr))
    case atStart => exact ⟨0, rfl, ⟨by omega⟩, ⟨rfl⟩, ⟨blk_new _ _⟩, ⟨blk_alloc HG2.out _⟩, ⟨by repeat (first | exact Below.refl _ _ | refine Below.alloc ?_ (by simp <;> omega) _ | refine Below.setCell ?_ (by simp <;> omega) _ | apply Below.drew)⟩⟩
    case round =>
      obtain ⟨k, rfl, HK, HS, HG6R, HG2R, HBR⟩ := hrel
      cases gk with
      | zero =>
        have hge : ¬ k < l1.length := by have := HK.out; omega
        go_wp2
        go_ret2
        refine ⟨?_, HB6.out.trans (below_weaken HBR.out HB6.out.size)⟩
        rw [HS.out]
        rfl
      | succ g1 =>
        have hlt : k < l1.length := by have := HK.out; omega
        obtain ⟨r1, hr1⟩ : ∃ x, x = (bspan (truthsAll l0 l1 l2 []) k).1 := ⟨_, rfl⟩
        obtain ⟨r2, hr2⟩ : ∃ x, x = (bspan (truthsAll l0 l1 l2 []) k).2 := ⟨_, rfl⟩
        have HSPK : Hid (∀ (W : World), Below w6.heap.size w6 W → W.cell? ⟨wr.heap.size, 0, none⟩ = some (.int .i64 (k : Int)) →
            Calls Tryd.prog 82 #[.agg #[.slice B0 l0.length d0, .slice B1 l1.length d1, .slice B2 l2.length d2, .map (some mm), .slice B3 (truthsAll l0 l1 l2 []).length d3], .func (.func 127) #[] #[.pointer (some ⟨wr.heap.size, 0, none⟩)]] W fun e w' => e = .returned (.agg #[.int .i64 r1, .int .i64 r2]) ∧ Below W.heap.size W w') := by
          refine Lib.hid fun W hW hp => ?_
          rw [hr1, hr2]
          exact HSP.out W wr.heap.size k hW hp (by omega)
        have HR1 := Lib.hid hr1
        have HR2 := Lib.hid hr2
        clear hr1 hr2
        by_cases hs : r2 = (l0.length : Int)
        · have hsb : (r2 == (l0.length : Int)) = true := beq_iff_eq.2 hs
          have HHS := Lib.hid hs
          clear hs
          go_upto_region 7 with fail
          obtain ⟨wP, hwP⟩ : ∃ W, W = wr.alloc (.cells #[.int .i64 (k : Int)] 3) := ⟨_, rfl⟩
          rw [← hwP]
          have hBP : Below wr.heap.size wr wP.drew := by rw [hwP]; exact by repeat (first | exact Below.refl _ _ | refine Below.alloc ?_ (by simp <;> omega) _ | refine Below.setCell ?_ (by simp <;> omega) _ | apply Below.drew)
          have HG6P := Lib.hid (blk_below HG6R.out hBP)
          have HG2P := Lib.hid (blk_below HG2R.out hBP)
          have hq := (show wP.drew.heap[wr.heap.size]? = some (.cells #[.int .i64 (k : Int)] 3 (0, 0)) by rw [hwP]; exact blk_new _ _)
          have HCK := Lib.hid ((blk_cell hq 0).trans rfl)
          have HLP := Lib.hid (blk_lt hq)
          have HBP := Lib.hid (HBR.out.trans (below_weaken hBP HBR.out.size))
          clear hwP hBP hq
          refine start_ (n := 9) (S := fun w' => w'.cell? ⟨w6.heap.size, 0, none⟩ = some (.slice B0 l0.length d0) ∧ w'.cell? ⟨w6.heap.size, 1, none⟩ = some (.slice B1 l1.length d1) ∧ w'.cell? ⟨w6.heap.size, 2, none⟩ = some (.slice B2 l2.length d2) ∧ w'.cell? ⟨w6.heap.size, 3, none⟩ = some (.map (some mm)) ∧ w'.cell? ⟨w6.heap.size, 4, none⟩ = some (.slice B3 (truthsAll l0 l1 l2 []).length d3) ∧ w'.cell? ⟨w.heap.size, 0, none⟩ = some (.slice B0 l0.length d0)) (ds := []) #[false, false, false, false, false, false, false, false, false] (by kernel_rfl) rfl rfl ⟨(blk_cell HG6P.out 0).trans rfl, (blk_cell HG6P.out 1).trans rfl, (blk_cell HG6P.out 2).trans rfl, (blk_cell HG6P.out 3).trans rfl, (blk_cell HG6P.out 4).trans rfl, (blk_cell HG2P.out 0).trans rfl⟩ (fun hHeld => ?_)
          refine pure_ (i := 0) (N := some 23) (v := ?_) (a' := ?_) #[true, false, false, false, false, false, false, false, false] rfl rfl (by kernel_rfl) (fun _ _ _ h => h) (Or.inl ⟨by rfl, ?_⟩) ?_ ?_
          rotate_left
          · intro w'
            go_simp
            with_reducible rfl
          rotate_left
          · simp only [Act.put, List.setIfInBounds_toArray, List.set_cons_zero, List.set_cons_succ, i64_w, i32_w]
            rfl
          refine pure_ (i := 2) (N := some 25) (v := ?_) (a' := ?_) #[true, false, true, false, false, false, false, false, false] rfl rfl (by kernel_rfl) (fun _ _ _ h => h) (Or.inl ⟨by rfl, ?_⟩) ?_ ?_
          rotate_left
          · intro w'
            go_simp
            with_reducible rfl
          rotate_left
          · simp only [Act.put, List.setIfInBounds_toArray, List.set_cons_zero, List.set_cons_succ, i64_w, i32_w]
            rfl
          refine pure_ (i := 5) (N := some 28) (v := ?_) (a' := ?_) #[true, false, true, false, false, true, false, false, false] rfl rfl (by kernel_rfl) (fun _ _ _ h => h) (Or.inl ⟨by rfl, ?_⟩) ?_ ?_
          rotate_left
          · intro w'
            go_simp
            with_reducible rfl
          rotate_left
          · simp only [Act.put, List.setIfInBounds_toArray, List.set_cons_zero, List.set_cons_succ, i64_w, i32_w]
            rfl
          refine take_ (i := 1) (N := some 24) (v := ?_) (a' := ?_) #[true, true, true, false, false, true, false, false, false] rfl rfl (by kernel_rfl) (fun _ _ _ h => h) (Or.inl ⟨by rfl, ?_⟩) hHeld ?_ ?_
          rotate_left
          · rintro w' ⟨s0, s1, s2, s3, s4, s5⟩
            go_simp
            with_reducible rfl
          rotate_left
          · simp only [Act.put, List.setIfInBounds_toArray, List.set_cons_zero, List.set_cons_succ, i64_w, i32_w]
            rfl
          refine take_ (i := 6) (N := some 29) (v := ?_) (a' := ?_) #[true, true, true, false, false, true, true, false, false] rfl rfl (by kernel_rfl) (fun _ _ _ h => h) (Or.inl ⟨by rfl, ?_⟩) hHeld ?_ ?_
          rotate_left
          · rintro w' ⟨s0, s1, s2, s3, s4, s5⟩
            go_simp
            with_reducible rfl
          rotate_left
          · simp only [Act.put, List.setIfInBounds_toArray, List.set_cons_zero, List.set_cons_succ, i64_w, i32_w]
            rfl
          refine pure_ (i := 7) (N := some 30) (v := ?_) (a' := ?_) #[true, true, true, false, false, true, true, true, false] rfl rfl (by kernel_rfl) (fun _ _ _ h => h) (Or.inl ⟨by rfl, ?_⟩) ?_ ?_
          rotate_left
          · intro w'
            go_simp
            with_reducible rfl
          rotate_left
          · simp only [Act.put, List.setIfInBounds_toArray, List.set_cons_zero, List.set_cons_succ, i64_w, i32_w]
            rfl
          refine one_ (i := 3) (N := some 26) #[true, true, true, true, false, true, true, true, false] rfl rfl (by kernel_rfl) (by decide) (fun K hK => ?_)
          refine goes_ Tryd.func82 (by kernel_rfl) rfl #[.agg #[.slice B0 l0.length d0, .slice B1 l1.length d1, .slice B2 l2.length d2, .map (some mm), .slice B3 (truthsAll l0 l1 l2 []).length d3], .func (.func 127) #[] #[.pointer (some ⟨wr.heap.size, 0, none⟩)]] (by rfl) rfl rfl (by simp only [List.map_toArray, List.map_cons, List.map_nil]; rfl) ?_
          refine (HSPK.out _ HBP.out HCK.out).mono ?_
          rintro e w7 ⟨rfl, hb⟩
          refine ⟨_, rfl, ?_⟩
          have h67 := blk_below HG6P.out hb
          have h27 := blk_below HG2P.out hb
          have hcell7 := (hb.cell (p := ⟨wr.heap.size, 0, none⟩) HLP.out).trans HCK.out
          have HB7 := Lib.hid (HBP.out.trans (below_weaken hb HBP.out.size))
          have hl7 := Nat.lt_of_lt_of_le HLP.out hb.size
          refine hK.out _ _ ⟨(blk_cell h67 0).trans rfl, (blk_cell h67 1).trans rfl, (blk_cell h67 2).trans rfl, (blk_cell h67 3).trans rfl, (blk_cell h67 4).trans rfl, (blk_cell h27 0).trans rfl⟩ (fun hHeld => ?_)
          clear hK K
          refine norm_ (a' := ?_) ?_ ?_
          rotate_left
          · show Act.put _ (some 26) _ = _
            simp only [Act.put, List.setIfInBounds_toArray, List.set_cons_zero, List.set_cons_succ, i64_w, i32_w]
            rfl
          refine one_ (i := 4) (N := some 27) #[true, true, true, true, true, true, true, true, false] rfl rfl (by kernel_rfl) (by decide) (fun K hK => ?_)
          refine goesV_ Tryd.func97 (by kernel_rfl) rfl #[.agg #[.int .i64 r1, .int .i64 r2]] #[] #[] (by rfl) rfl rfl rfl (by simp only [List.map_toArray, List.map_cons, List.map_nil]; rfl) ?_
          refine (perhaps1_calls r1 r2 _).mono ?_
          rintro e w8 ⟨rfl, hb8⟩
          refine ⟨_, rfl, ?_⟩
          have h68 := blk_below h67 hb8
          have h28 := blk_below h27 hb8
          have hcell8 := (hb8.cell (p := ⟨wr.heap.size, 0, none⟩) hl7).trans hcell7
          have HB8 := Lib.hid (HB7.out.trans (below_weaken hb8 HB7.out.size))
          refine hK.out _ _ ⟨(blk_cell h68 0).trans rfl, (blk_cell h68 1).trans rfl, (blk_cell h68 2).trans rfl, (blk_cell h68 3).trans rfl, (blk_cell h68 4).trans rfl, (blk_cell h28 0).trans rfl⟩ (fun hHeld => ?_)
          clear hK K
          refine norm_ (a' := ?_) ?_ ?_
          rotate_left
          · show Act.put _ (some 27) _ = _
            simp only [Act.put, List.setIfInBounds_toArray, List.set_cons_zero, List.set_cons_succ, i64_w, i32_w]
            rfl
          refine pure_ (i := 8) (N := some 31) (v := ?_) (a' := ?_) #[true, true, true, true, true, true, true, true, true] rfl rfl (by kernel_rfl) (fun _ _ _ h => h) (Or.inl ⟨by rfl, ?_⟩) ?_ ?_
          rotate_left
          · intro w'
            go_simp
            with_reducible rfl
          rotate_left
          · simp only [Act.put, List.setIfInBounds_toArray, List.set_cons_zero, List.set_cons_succ, i64_w, i32_w]
            rfl
          refine done_ (by kernel_rfl) ?_

          go_wp2
          go_ret2
          refine ⟨?_, HB6.out.trans (below_weaken HB8.out HB6.out.size)⟩
          rw [HS.out]
          show _ = Ending.returned (.tuple #[.int .i64 (if _ = _ then _ else _ : Int × Int).1, .int .i64 (if _ = _ then _ else _ : Int × Int).2])
          rw [if_pos (HR2.out.symm.trans HHS.out)]
          rfl
        · have hsb : (r2 == (l0.length : Int)) = false := beq_eq_false_iff_ne.2 hs
          have HHS := Lib.hid hs
          clear hs
          go_upto_region 7 with fail
          obtain ⟨wP, hwP⟩ : ∃ W, W = wr.alloc (.cells #[.int .i64 (k : Int)] 3) := ⟨_, rfl⟩
          rw [← hwP]
          have hBP : Below wr.heap.size wr wP.drew := by rw [hwP]; exact by repeat (first | exact Below.refl _ _ | refine Below.alloc ?_ (by simp <;> omega) _ | refine Below.setCell ?_ (by simp <;> omega) _ | apply Below.drew)
          have HG6P := Lib.hid (blk_below HG6R.out hBP)
          have HG2P := Lib.hid (blk_below HG2R.out hBP)
          have hq := (show wP.drew.heap[wr.heap.size]? = some (.cells #[.int .i64 (k : Int)] 3 (0, 0)) by rw [hwP]; exact blk_new _ _)
          have HCK := Lib.hid ((blk_cell hq 0).trans rfl)
          have HLP := Lib.hid (blk_lt hq)
          have HBP := Lib.hid (HBR.out.trans (below_weaken hBP HBR.out.size))
          clear hwP hBP hq
          refine start_ (n := 9) (S := fun w' => w'.cell? ⟨w6.heap.size, 0, none⟩ = some (.slice B0 l0.length d0) ∧ w'.cell? ⟨w6.heap.size, 1, none⟩ = some (.slice B1 l1.length d1) ∧ w'.cell? ⟨w6.heap.size, 2, none⟩ = some (.slice B2 l2.length d2) ∧ w'.cell? ⟨w6.heap.size, 3, none⟩ = some (.map (some mm)) ∧ w'.cell? ⟨w6.heap.size, 4, none⟩ = some (.slice B3 (truthsAll l0 l1 l2 []).length d3) ∧ w'.cell? ⟨w.heap.size, 0, none⟩ = some (.slice B0 l0.length d0)) (ds := []) #[false, false, false, false, false, false, false, false, false] (by kernel_rfl) rfl rfl ⟨(blk_cell HG6P.out 0).trans rfl, (blk_cell HG6P.out 1).trans rfl, (blk_cell HG6P.out 2).trans rfl, (blk_cell HG6P.out 3).trans rfl, (blk_cell HG6P.out 4).trans rfl, (blk_cell HG2P.out 0).trans rfl⟩ (fun hHeld => ?_)
          refine pure_ (i := 0) (N := some 23) (v := ?_) (a' := ?_) #[true, false, false, false, false, false, false, false, false] rfl rfl (by kernel_rfl) (fun _ _ _ h => h) (Or.inl ⟨by rfl, ?_⟩) ?_ ?_
          rotate_left
          · intro w'
            go_simp
            with_reducible rfl
          rotate_left
          · simp only [Act.put, List.setIfInBounds_toArray, List.set_cons_zero, List.set_cons_succ, i64_w, i32_w]
            rfl
          refine pure_ (i := 2) (N := some 25) (v := ?_) (a' := ?_) #[true, false, true, false, false, false, false, false, false] rfl rfl (by kernel_rfl) (fun _ _ _ h => h) (Or.inl ⟨by rfl, ?_⟩) ?_ ?_
          rotate_left
          · intro w'
            go_simp
            with_reducible rfl
          rotate_left
          · simp only [Act.put, List.setIfInBounds_toArray, List.set_cons_zero, List.set_cons_succ, i64_w, i32_w]
            rfl
          refine pure_ (i := 5) (N := some 28) (v := ?_) (a' := ?_) #[true, false, true, false, false, true, false, false, false] rfl rfl (by kernel_rfl) (fun _ _ _ h => h) (Or.inl ⟨by rfl, ?_⟩) ?_ ?_
          rotate_left
          · intro w'
            go_simp
            with_reducible rfl
          rotate_left
          · simp only [Act.put, List.setIfInBounds_toArray, List.set_cons_zero, List.set_cons_succ, i64_w, i32_w]
            rfl
          refine take_ (i := 1) (N := some 24) (v := ?_) (a' := ?_) #[true, true, true, false, false, true, false, false, false] rfl rfl (by kernel_rfl) (fun _ _ _ h => h) (Or.inl ⟨by rfl, ?_⟩) hHeld ?_ ?_
          rotate_left
          · rintro w' ⟨s0, s1, s2, s3, s4, s5⟩
            go_simp
            with_reducible rfl
          rotate_left
          · simp only [Act.put, List.setIfInBounds_toArray, List.set_cons_zero, List.set_cons_succ, i64_w, i32_w]
            rfl
          refine take_ (i := 6) (N := some 29) (v := ?_) (a' := ?_) #[true, true, true, false, false, true, true, false, false] rfl rfl (by kernel_rfl) (fun _ _ _ h => h) (Or.inl ⟨by rfl, ?_⟩) hHeld ?_ ?_
          rotate_left
          · rintro w' ⟨s0, s1, s2, s3, s4, s5⟩
            go_simp
            with_reducible rfl
          rotate_left
          · simp only [Act.put, List.setIfInBounds_toArray, List.set_cons_zero, List.set_cons_succ, i64_w, i32_w]
            rfl
          refine pure_ (i := 7) (N := some 30) (v := ?_) (a' := ?_) #[true, true, true, false, false, true, true, true, false] rfl rfl (by kernel_rfl) (fun _ _ _ h => h) (Or.inl ⟨by rfl, ?_⟩) ?_ ?_
          rotate_left
          · intro w'
            go_simp
            with_reducible rfl
          rotate_left
          · simp only [Act.put, List.setIfInBounds_toArray, List.set_cons_zero, List.set_cons_succ, i64_w, i32_w]
            rfl
          refine one_ (i := 3) (N := some 26) #[true, true, true, true, false, true, true, true, false] rfl rfl (by kernel_rfl) (by decide) (fun K hK => ?_)
          refine goes_ Tryd.func82 (by kernel_rfl) rfl #[.agg #[.slice B0 l0.length d0, .slice B1 l1.length d1, .slice B2 l2.length d2, .map (some mm), .slice B3 (truthsAll l0 l1 l2 []).length d3], .func (.func 127) #[] #[.pointer (some ⟨wr.heap.size, 0, none⟩)]] (by rfl) rfl rfl (by simp only [List.map_toArray, List.map_cons, List.map_nil]; rfl) ?_
          refine (HSPK.out _ HBP.out HCK.out).mono ?_
          rintro e w7 ⟨rfl, hb⟩
          refine ⟨_, rfl, ?_⟩
          have h67 := blk_below HG6P.out hb
          have h27 := blk_below HG2P.out hb
          have hcell7 := (hb.cell (p := ⟨wr.heap.size, 0, none⟩) HLP.out).trans HCK.out
          have HB7 := Lib.hid (HBP.out.trans (below_weaken hb HBP.out.size))
          have hl7 := Nat.lt_of_lt_of_le HLP.out hb.size
          refine hK.out _ _ ⟨(blk_cell h67 0).trans rfl, (blk_cell h67 1).trans rfl, (blk_cell h67 2).trans rfl, (blk_cell h67 3).trans rfl, (blk_cell h67 4).trans rfl, (blk_cell h27 0).trans rfl⟩ (fun hHeld => ?_)
          clear hK K
          refine norm_ (a' := ?_) ?_ ?_
          rotate_left
          · show Act.put _ (some 26) _ = _
            simp only [Act.put, List.setIfInBounds_toArray, List.set_cons_zero, List.set_cons_succ, i64_w, i32_w]
            rfl
          refine one_ (i := 4) (N := some 27) #[true, true, true, true, true, true, true, true, false] rfl rfl (by kernel_rfl) (by decide) (fun K hK => ?_)
          refine goesV_ Tryd.func97 (by kernel_rfl) rfl #[.agg #[.int .i64 r1, .int .i64 r2]] #[] #[] (by rfl) rfl rfl rfl (by simp only [List.map_toArray, List.map_cons, List.map_nil]; rfl) ?_
          refine (perhaps1_calls r1 r2 _).mono ?_
          rintro e w8 ⟨rfl, hb8⟩
          refine ⟨_, rfl, ?_⟩
          have h68 := blk_below h67 hb8
          have h28 := blk_below h27 hb8
          have hcell8 := (hb8.cell (p := ⟨wr.heap.size, 0, none⟩) hl7).trans hcell7
          have HB8 := Lib.hid (HB7.out.trans (below_weaken hb8 HB7.out.size))
          refine hK.out _ _ ⟨(blk_cell h68 0).trans rfl, (blk_cell h68 1).trans rfl, (blk_cell h68 2).trans rfl, (blk_cell h68 3).trans rfl, (blk_cell h68 4).trans rfl, (blk_cell h28 0).trans rfl⟩ (fun hHeld => ?_)
          clear hK K
          refine norm_ (a' := ?_) ?_ ?_
          rotate_left
          · show Act.put _ (some 27) _ = _
            simp only [Act.put, List.setIfInBounds_toArray, List.set_cons_zero, List.set_cons_succ, i64_w, i32_w]
            rfl
          refine pure_ (i := 8) (N := some 31) (v := ?_) (a' := ?_) #[true, true, true, true, true, true, true, true, true] rfl rfl (by kernel_rfl) (fun _ _ _ h => h) (Or.inl ⟨by rfl, ?_⟩) ?_ ?_
          rotate_left
          · intro w'
            go_simp
            with_reducible rfl
          rotate_left
          · simp only [Act.put, List.setIfInBounds_toArray, List.set_cons_zero, List.set_cons_succ, i64_w, i32_w]
            rfl
          refine done_ (by kernel_rfl) ?_

          go_wp2
          go_roundg g1
          case measure => omega
          case rel =>
            refine ⟨k + 1, by go_num, ⟨by have := HK.out; omega⟩, ⟨?_⟩, ⟨h68⟩, ⟨h28⟩, ⟨HB8.out⟩⟩
            rw [HS.out]
            show (if _ = _ then _ else _) = _
            rw [if_neg (fun e => HHS.out (HR2.out.trans e))]
  · rw [if_neg hz]
    have ht : (code != 0) = true := by simpa using hz
    go_enter Tryd.func94, Tryd.ntmps94
    go_wp2_with fail
    refine (HASK.out _ ?hw).mono ?_
    (case hw => exact by repeat (first | exact Below.refl _ _ | refine Below.alloc ?_ (by simp <;> omega) _ | refine Below.setCell ?_ (by simp <;> omega) _ | apply Below.drew))
    rintro e w6 ⟨v, rfl, hP, hb⟩
    obtain ⟨B0, n0, d0, B1, n1, d1, B2, n2, d2, mp, B3, n3, d3, rfl, hP⟩ := hP
    have HB6 := Lib.hid ((show Below w.heap.size w _ from by repeat (first | exact Below.refl _ _ | refine Below.alloc ?_ (by simp <;> omega) _ | refine Below.setCell ?_ (by simp <;> omega) _ | apply Below.drew)).trans (below_weaken hb (by simp)))
    clear hb hP
    go_wp2
    go_ret2
    exact ⟨rfl, HB6.out.alloc HB6.out.size _⟩
set_option maxRecDepth 100000 in
theorem done_calls (A0 A1 A2 : Option Addr) (c0 c1 c2 : Nat) (l0 : List S92) (l1 : List S90) (l2 : List S43) (w : World) (hG : GOK w) (hr0 : Kd.C k92 w A0 l0.length l0) (hc0 : l0.length ≤ c0) (hr1 : Kd.C k90 w A1 l1.length l1) (hc1 : l1.length ≤ c1) (hr2 : Kd.C k43 w A2 l2.length l2) (hc2 : l2.length ≤ c2) :
    Calls Tryd.prog 32 #[.agg #[.slice A0 l0.length c0, .slice A1 l1.length c1, .slice A2 l2.length c2]] w fun e w' => e = .returned (.tuple #[.int .i64 (doneF l0 l1 l2).1, .int .i64 (doneF l0 l1 l2).2]) ∧ Below w.heap.size w w' := by
  obtain ⟨q1, hq1⟩ : ∃ q, q = (doneF l0 l1 l2).1 := ⟨_, rfl⟩
  obtain ⟨q2, hq2⟩ : ∃ q, q = (doneF l0 l1 l2).2 := ⟨_, rfl⟩
  have HF : Hid (∀ W, Below w.heap.size w W → Calls Tryd.prog 94 #[.agg #[.slice A0 l0.length c0, .slice A1 l1.length c1, .slice A2 l2.length c2], .func (.func 95) #[] #[]] W fun e w' => e = .returned (.tuple #[.int .i64 q1, .int .i64 q2]) ∧ Below W.heap.size W w') := by
    refine Lib.hid fun W hW => ?_
    rw [hq1, hq2]
    exact firstDone_calls A0 A1 A2 c0 c1 c2 l0 l1 l2 W (hG.below hW) (Kd.C_below hr0 hW) hc0 (Kd.C_below hr1 hW) hc1 (Kd.C_below hr2 hW) hc2
  rw [← hq1, ← hq2]
  clear hq1 hq2 hG hr0 hr1 hr2
  go_enter Tryd.func32, Tryd.ntmps32
  go_wp2_with fail
  refine (HF.out _ ?hw).mono ?_
  (case hw => exact by repeat (first | exact Below.refl _ _ | refine Below.alloc ?_ (by simp <;> omega) _ | refine Below.setCell ?_ (by simp <;> omega) _ | apply Below.drew))
  rintro e w6 ⟨rfl, hb⟩
  go_wp2
  go_ret2
  exact ⟨rfl, (show Below w.heap.size w _ from by repeat (first | exact Below.refl _ _ | refine Below.alloc ?_ (by simp <;> omega) _ | refine Below.setCell ?_ (by simp <;> omega) _ | apply Below.drew)).trans (below_weaken hb (by simp))⟩
set_option maxRecDepth 100000 in
theorem perhaps_calls (A0 A1 A2 : Option Addr) (c0 c1 c2 : Nat) (l0 : List S92) (l1 : List S90) (l2 : List S43) (w : World) (hG : GOK w) (hr0 : Kd.C k92 w A0 l0.length l0) (hc0 : l0.length ≤ c0) (hr1 : Kd.C k90 w A1 l1.length l1) (hc1 : l1.length ≤ c1) (hr2 : Kd.C k43 w A2 l2.length l2) (hc2 : l2.length ≤ c2) :
    Calls Tryd.prog 34 #[.agg #[.slice A0 l0.length c0, .slice A1 l1.length c1, .slice A2 l2.length c2]] w fun e w' => e = .returned (.tuple #[.int .i64 (perhapsF l0 l1 l2).1, .int .i64 (perhapsF l0 l1 l2).2]) ∧ Below w.heap.size w w' := by
  obtain ⟨q1, hq1⟩ : ∃ q, q = (perhapsF l0 l1 l2).1 := ⟨_, rfl⟩
  obtain ⟨q2, hq2⟩ : ∃ q, q = (perhapsF l0 l1 l2).2 := ⟨_, rfl⟩
  have HF : Hid (∀ W, Below w.heap.size w W → Calls Tryd.prog 94 #[.agg #[.slice A0 l0.length c0, .slice A1 l1.length c1, .slice A2 l2.length c2], .func (.func 97) #[] #[]] W fun e w' => e = .returned (.tuple #[.int .i64 q1, .int .i64 q2]) ∧ Below W.heap.size W w') := by
    refine Lib.hid fun W hW => ?_
    rw [hq1, hq2]
    exact firstPerhaps_calls A0 A1 A2 c0 c1 c2 l0 l1 l2 W (hG.below hW) (Kd.C_below hr0 hW) hc0 (Kd.C_below hr1 hW) hc1 (Kd.C_below hr2 hW) hc2
  rw [← hq1, ← hq2]
  clear hq1 hq2 hG hr0 hr1 hr2
  go_enter Tryd.func34, Tryd.ntmps34
  go_wp2_with fail
  refine (HF.out _ ?hw).mono ?_
  (case hw => exact by repeat (first | exact Below.refl _ _ | refine Below.alloc ?_ (by simp <;> omega) _ | refine Below.setCell ?_ (by simp <;> omega) _ | apply Below.drew))
  rintro e w6 ⟨rfl, hb⟩
  go_wp2
  go_ret2
  exact ⟨rfl, (show Below w.heap.size w _ from by repeat (first | exact Below.refl _ _ | refine Below.alloc ?_ (by simp <;> omega) _ | refine Below.setCell ?_ (by simp <;> omega) _ | apply Below.drew)).trans (below_weaken hb (by simp))⟩
end Go.Proofs.YthgjedagbgmgmaaDoor.Pr
namespace Go.Proofs.YthgjedagbgmgmaaDoor.Pr
open Go.RowKit Go.Proofs.YthgjedagbgmgmaaDoorW.PrintWords Go.Proofs.YthgjedagbgmgmaaDoorW.PrintLast Go.Proofs.YthgjedagbgmgmaaDoorW.PrintMore
set_option linter.unusedVariables false
set_option linter.unusedSimpArgs false
def Rd.li (r : Rd) : List Int := [r.bound, r.rolled, r.a0, r.a1, r.a2, r.a3, r.o0, r.o1, r.o2, r.o3]
/-- The road at last, if it is watered. -/
def waterFrom (ls : List S92) (wf : Int → Int → Int) (t : List Int) : Nat → Nat → Rd → Rd
  | 0, _, r => r
  | d + 1, day, r => waterFrom ls wf t d (day + 1) (afterR ls r (wf (day : Int) (t.getD (5 + day) 0)) (t.getD day 0))
def worst1F (ls : List S92) (n : Nat) (wf : Int → Int → Int) (t : List Int) : Int := (waterFrom ls wf t n 0 r00).bound
def neverF (_ s : Int) : Int := s
def onF (at_ : Int) (d s : Int) : Int := if d = at_ ∧ s = 0 then 1 else s
theorem blkI_whole {W : World} {g : Nat} {t : TypeId} {C vs : List Int} (h : W.heap[g]? = some (.cells (encI (splice0 C 0 vs)).toArray t (0, 0))) (hl : C.length = vs.length) : W.heap[g]? = some (.cells (encI vs).toArray t (0, 0)) := by
  rw [← encI_splice] at h
  exact blk_whole h (by simp [encI, hl])
set_option maxHeartbeats 4000000 in
set_option maxRecDepth 100000 in
theorem worst1n_calls (A0 A1 A2 At : Option Addr) (c0 n1 c1 n2 c2 nt ct m cl p q : Nat) (l0 : List S92) (t : List Int) (w : World) (hG : GOK w) (hr0 : FRow e92 2 w A0 l0) (hc0 : l0.length ≤ c0) (h1 : 1 ≤ l0.length) (h4 : l0.length ≤ 4) (hm : w.heap[m]? = some (.map (bareMap l0.length).toArray cl)) (hn5 : n1 ≤ 5)
    (ht : t.length = 60) (hw : ∀ d, d < n1 → 0 ≤ t.getD d 0 ∧ t.getD d 0 ≤ 20) (hs : ∀ d, d < n1 → 0 ≤ t.getD (5 + d) 0 ∧ t.getD (5 + d) 0 ≤ 2) (hp : w.heap[p]? = some (.cells #[.slice A0 l0.length c0, .slice A1 n1 c1, .slice A2 n2 c2, .map (some m), .slice At nt ct] 107 (0, 0))) (hq : w.heap[q]? = some (.cells #[.func (.func 130) #[] #[]] 142 (0, 0))) :
    Calls Tryd.prog 128 #[.agg (encI t).toArray, .pointer (some ⟨p, 0, none⟩), .pointer (some ⟨q, 0, none⟩)] w fun e w' => e = .returned (.int .i64 (worst1F l0 n1 (neverF) t)) ∧ Below w.heap.size w w' := by
  have z0 : 0 < w.heap.size := by have := hG.size; omega
  have q0 := hG.b0
  have q1 := hG.b1
  have pl := blk_lt hp
  have ql := blk_lt hq
  have HAFR : Hid (∀ (r : Rd) (sky k : Int), r.Ok l0.length 9 → 0 ≤ k → k ≤ 20 → 0 ≤ sky → sky ≤ 2 → ∀ W, Below w.heap.size w W → Calls Tryd.prog 129 #[.agg #[.slice A0 l0.length c0, .slice A1 n1 c1, .slice A2 n2 c2, .map (some m), .slice At nt ct], .agg r.arr, .int .i64 sky, .int .i64 k] W fun e w' => e = .returned (.agg (afterR l0 r sky k).arr) ∧ Below W.heap.size W w') :=
    Lib.hid fun r sky k ok k0 k1 s0 s1 W hW => after_calls A0 A1 A2 At c0 n1 c1 n2 c2 nt ct m cl l0 W (hG.below hW) (hr0.below hW) hc0 h1 h4 ((hW.block m (Array.getElem?_eq_some_iff.1 hm).1).trans hm) r ok sky k k0 k1 s0 s1
  have HP := Lib.hid hp
  have HQ := Lib.hid hq
  have HW := Lib.hid hw
  have HSS := Lib.hid hs
  have hn5i : (n1 : Int) ≤ 5 := by omega
  have hp0 := (blk_cell hp 1).trans rfl
  skip
  clear hG hr0 hm hp hq hw hs
  go_enter Tryd.func128, Tryd.ntmps128
  go_wp2
  go_loopg [13] (n1) (fun gk v13 wr => ∃ (k : Nat) (r : Rd), v13 = .int .i64 k ∧ Aside0 (k + gk = n1) ∧ Aside0 (worst1F l0 n1 (neverF) t = (waterFrom l0 (neverF) t gk k r).bound) ∧ Aside0 (r.Ok l0.length k) ∧ Aside0 (wr.heap[w.heap.size + 1]? = some (.cells (encI r.li).toArray 120 (0, 0))) ∧ Aside0 (wr.heap[w.heap.size]? = some (.cells (encI t).toArray 123 (0, 0))) ∧ Aside0 (wr.heap[p]? = some (.cells #[.slice A0 l0.length c0, .slice A1 n1 c1, .slice A2 n2 c2, .map (some m), .slice At nt ct] 107 (0, 0))) ∧ Aside0 (wr.heap[q]? = some (.cells #[.func (.func 130) #[] #[]] 142 (0, 0))) ∧ Aside0 (Below w.heap.size w wr))
  case atStart => exact ⟨0, r00, rfl, ⟨by omega⟩, ⟨rfl⟩, ⟨r00_ok _⟩, ⟨blk_at _ _ _ (by simp)⟩, ⟨blk_alloc (blk_new _ _) _⟩, ⟨blk_alloc (blk_alloc HP.out _) _⟩, ⟨blk_alloc (blk_alloc HQ.out _) _⟩, ⟨by repeat (first | exact Below.refl _ _ | refine Below.alloc ?_ (by simp <;> omega) _ | refine Below.setCell ?_ (by simp <;> omega) _ | apply Below.drew)⟩⟩
  case round =>
    obtain ⟨k, r, rfl, HK, HS, HOK, H5, HT, HPW, HQW, HB⟩ := hrel
    cases gk with
    | zero =>
      have hge : ¬ k < n1 := by have := HK.out; omega
      have c50 : wr.cell? ⟨w.heap.size + 1, 0, none⟩ = some (.int .i64 r.bound) := (blk_cell H5.out 0).trans rfl
      go_wp2
      go_ret
      refine ⟨?_, HB.out⟩
      rw [HS.out]
      rfl
    | succ g1 =>
      have hlt : k < n1 := by have := HK.out; omega
      obtain ⟨sk, hsk⟩ : ∃ s, s = t.getD (5 + k) 0 := ⟨_, rfl⟩
      obtain ⟨wg, hwg⟩ : ∃ s, s = t.getD k 0 := ⟨_, rfl⟩
      have hwb := HW.out k hlt
      have hsb := HSS.out k hlt
      rw [← hwg] at hwb
      rw [← hsk] at hsb
      obtain ⟨s2, hs2⟩ : ∃ s, s = neverF (k : Int) sk := ⟨_, rfl⟩
      have hs2b : 0 ≤ s2 ∧ s2 ≤ 2 := by
        rw [hs2]
        first
          | exact hsb
          | (unfold onF; split <;> omega)
      have hcsk : (encI t).toArray[5 + k]? = some (.int .i64 sk) := by
        have hl : 5 + k < t.length := by omega
        rw [hsk, List.getD_eq_getElem?_getD, List.getElem?_eq_getElem hl]
        simp [encI, hl]
      have hcwg : (encI t).toArray[k]? = some (.int .i64 wg) := by
        have hl : k < t.length := by omega
        rw [hwg, List.getD_eq_getElem?_getD, List.getElem?_eq_getElem hl]
        simp [encI, hl]
      have HAF := Lib.hid (HAFR.out r s2 wg (HOK.out.mono (by omega)) hwb.1 hwb.2 hs2b.1 hs2b.2)
      have HOK1 := Lib.hid (afterR_ok (sky := s2) HOK.out (by omega) hwb.1 hwb.2)
      have HSK := Lib.hid hcsk
      have HWG := Lib.hid hcwg
      have HSKE := Lib.hid hsk
      have HWGE := Lib.hid hwg
      have HS2 := Lib.hid hs2
      have hk5 : (k : Int) < 5 := by omega
      clear hcsk hcwg hsk hwg hs2 hwb hsb hs2b
      go_upto_region 5 with fail
      have hBP : Below wr.heap.size wr wr.drew := by repeat (first | exact Below.refl _ _ | refine Below.alloc ?_ (by simp <;> omega) _ | refine Below.setCell ?_ (by simp <;> omega) _ | apply Below.drew)
      have HPR := Lib.hid (blk_below HPW.out hBP)
      have HQR := Lib.hid (blk_below HQW.out hBP)
      have H5R := Lib.hid (blk_below H5.out hBP)
      have HTR := Lib.hid (blk_below HT.out hBP)
      have HBR := Lib.hid (HB.out.trans (below_weaken hBP HB.out.size))
      skip
      have HFN : Hid (Calls Tryd.prog 130 #[.int .i64 (k : Int), .int .i64 sk] wr.drew fun e w' => e = .returned (.int .i64 s2) ∧ wr.drew = w') := by
        refine Lib.hid ?_
        rw [HS2.out]
        exact never1_calls (k : Int) sk _
      clear hBP
      refine start_ (n := 16) (S := fun w' => w'.cell? ⟨p, 0, none⟩ = some (.slice A0 l0.length c0) ∧ w'.cell? ⟨p, 1, none⟩ = some (.slice A1 n1 c1) ∧ w'.cell? ⟨p, 2, none⟩ = some (.slice A2 n2 c2) ∧ w'.cell? ⟨p, 3, none⟩ = some (.map (some m)) ∧ w'.cell? ⟨p, 4, none⟩ = some (.slice At nt ct) ∧ w'.cell? ⟨w.heap.size + 1, 0, none⟩ = some (.int .i64 r.bound) ∧ w'.cell? ⟨w.heap.size + 1, 1, none⟩ = some (.int .i64 r.rolled) ∧ w'.cell? ⟨w.heap.size + 1, 2, none⟩ = some (.int .i64 r.a0) ∧ w'.cell? ⟨w.heap.size + 1, 3, none⟩ = some (.int .i64 r.a1) ∧ w'.cell? ⟨w.heap.size + 1, 4, none⟩ = some (.int .i64 r.a2) ∧ w'.cell? ⟨w.heap.size + 1, 5, none⟩ = some (.int .i64 r.a3) ∧ w'.cell? ⟨w.heap.size + 1, 6, none⟩ = some (.int .i64 r.o0) ∧ w'.cell? ⟨w.heap.size + 1, 7, none⟩ = some (.int .i64 r.o1) ∧ w'.cell? ⟨w.heap.size + 1, 8, none⟩ = some (.int .i64 r.o2) ∧ w'.cell? ⟨w.heap.size + 1, 9, none⟩ = some (.int .i64 r.o3) ∧ w'.cell? ⟨q, 0, none⟩ = some (.func (.func 130) #[] #[]) ∧ w'.cell? ⟨w.heap.size, 5 + k, none⟩ = some (.int .i64 sk) ∧ w'.cell? ⟨w.heap.size, k, none⟩ = some (.int .i64 wg)) (ds := [15]) #[false, false, false, false, false, false, false, false, false, false, false, false, false, false, false, false] (by kernel_rfl) rfl rfl ⟨(blk_cell HPR.out 0).trans rfl, (blk_cell HPR.out 1).trans rfl, (blk_cell HPR.out 2).trans rfl, (blk_cell HPR.out 3).trans rfl, (blk_cell HPR.out 4).trans rfl, (blk_cell H5R.out 0).trans rfl, (blk_cell H5R.out 1).trans rfl, (blk_cell H5R.out 2).trans rfl, (blk_cell H5R.out 3).trans rfl, (blk_cell H5R.out 4).trans rfl, (blk_cell H5R.out 5).trans rfl, (blk_cell H5R.out 6).trans rfl, (blk_cell H5R.out 7).trans rfl, (blk_cell H5R.out 8).trans rfl, (blk_cell H5R.out 9).trans rfl, (blk_cell HQR.out 0).trans rfl, (blk_cell HTR.out (5 + k)).trans HSK.out, (blk_cell HTR.out k).trans HWG.out⟩ (fun hHeld => ?_)
      refine pure_ (i := 2) (N := some 18) (v := ?_) (a' := ?_) #[false, false, true, false, false, false, false, false, false, false, false, false, false, false, false, false] rfl rfl (by kernel_rfl) (fun _ _ _ h => h) (Or.inl ⟨by rfl, ?_⟩) ?_ ?_
      rotate_left
      · intro w'
        go_simp
        with_reducible rfl
      rotate_left
      · simp only [Act.put, List.setIfInBounds_toArray, List.set_cons_zero, List.set_cons_succ, i64_w, i32_w]
        rfl
      refine pure_ (i := 4) (N := some 20) (v := ?_) (a' := ?_) #[false, false, true, false, true, false, false, false, false, false, false, false, false, false, false, false] rfl rfl (by kernel_rfl) (fun _ _ _ h => h) (Or.inl ⟨by rfl, ?_⟩) ?_ ?_
      rotate_left
      · intro w'
        go_simp
        with_reducible rfl
      rotate_left
      · simp only [Act.put, List.setIfInBounds_toArray, List.set_cons_zero, List.set_cons_succ, i64_w, i32_w]
        rfl
      refine pure_ (i := 5) (N := some 21) (v := ?_) (a' := ?_) #[false, false, true, false, true, true, false, false, false, false, false, false, false, false, false, false] rfl rfl (by kernel_rfl) (fun _ _ _ h => h) (Or.inl ⟨by rfl, ?_⟩) ?_ ?_
      rotate_left
      · intro w'
        go_simp
        with_reducible rfl
      rotate_left
      · simp only [Act.put, List.setIfInBounds_toArray, List.set_cons_zero, List.set_cons_succ, i64_w, i32_w]
        rfl
      refine pure_ (i := 6) (N := some 22) (v := ?_) (a' := ?_) #[false, false, true, false, true, true, true, false, false, false, false, false, false, false, false, false] rfl rfl (by kernel_rfl) (fun _ _ _ h => h) (Or.inl ⟨by rfl, ?_⟩) ?_ ?_
      rotate_left
      · intro w'
        go_simp
        with_reducible rfl
      rotate_left
      · simp only [Act.put, List.setIfInBounds_toArray, List.set_cons_zero, List.set_cons_succ, i64_w, i32_w]
        rfl
      refine pure_ (i := 7) (N := some 23) (v := ?_) (a' := ?_) #[false, false, true, false, true, true, true, true, false, false, false, false, false, false, false, false] rfl rfl (by kernel_rfl) (fun _ _ _ h => h) (Or.inl ⟨by rfl, ?_⟩) ?_ ?_
      rotate_left
      · intro w'
        go_simp
        with_reducible rfl
      rotate_left
      · simp only [Act.put, List.setIfInBounds_toArray, List.set_cons_zero, List.set_cons_succ, i64_w, i32_w]
        rfl
      refine pure_ (i := 10) (N := some 26) (v := ?_) (a' := ?_) #[false, false, true, false, true, true, true, true, false, false, true, false, false, false, false, false] rfl rfl (by kernel_rfl) (fun _ _ _ h => h) (Or.inl ⟨by rfl, ?_⟩) ?_ ?_
      rotate_left
      · intro w'
        go_simp
        with_reducible rfl
      rotate_left
      · simp only [Act.put, List.setIfInBounds_toArray, List.set_cons_zero, List.set_cons_succ, i64_w, i32_w]
        rfl
      refine pure_ (i := 11) (N := some 27) (v := ?_) (a' := ?_) #[false, false, true, false, true, true, true, true, false, false, true, true, false, false, false, false] rfl rfl (by kernel_rfl) (fun _ _ _ h => h) (Or.inl ⟨by rfl, ?_⟩) ?_ ?_
      rotate_left
      · intro w'
        go_simp
        with_reducible rfl
      rotate_left
      · simp only [Act.put, List.setIfInBounds_toArray, List.set_cons_zero, List.set_cons_succ, i64_w, i32_w]
        rfl
      refine pure_ (i := 12) (N := some 28) (v := ?_) (a' := ?_) #[false, false, true, false, true, true, true, true, false, false, true, true, true, false, false, false] rfl rfl (by kernel_rfl) (fun _ _ _ h => h) (Or.inl ⟨by rfl, ?_⟩) ?_ ?_
      rotate_left
      · intro w'
        go_simp
        with_reducible rfl
      rotate_left
      · simp only [Act.put, List.setIfInBounds_toArray, List.set_cons_zero, List.set_cons_succ, i64_w, i32_w]
        rfl
      refine take_ (i := 0) (N := some 16) (v := ?_) (a' := ?_) #[true, false, true, false, true, true, true, true, false, false, true, true, true, false, false, false] rfl rfl (by kernel_rfl) (fun _ _ _ h => h) (Or.inl ⟨by rfl, ?_⟩) hHeld ?_ ?_
      rotate_left
      · rintro w' ⟨s0, s1, s2, s3, s4, s5, s6, s7, s8, s9, s10, s11, s12, s13, s14, s15, s16, s17⟩
        go_simp
        with_reducible rfl
      rotate_left
      · simp only [Act.put, List.setIfInBounds_toArray, List.set_cons_zero, List.set_cons_succ, i64_w, i32_w]
        rfl
      refine take_ (i := 1) (N := some 17) (v := ?_) (a' := ?_) #[true, true, true, false, true, true, true, true, false, false, true, true, true, false, false, false] rfl rfl (by kernel_rfl) (fun _ _ _ h => h) (Or.inl ⟨by rfl, ?_⟩) hHeld ?_ ?_
      rotate_left
      · rintro w' ⟨s0, s1, s2, s3, s4, s5, s6, s7, s8, s9, s10, s11, s12, s13, s14, s15, s16, s17⟩
        go_simp
        with_reducible rfl
      rotate_left
      · simp only [Act.put, List.setIfInBounds_toArray, List.set_cons_zero, List.set_cons_succ, i64_w, i32_w]
        rfl
      refine take_ (i := 3) (N := some 19) (v := ?_) (a' := ?_) #[true, true, true, true, true, true, true, true, false, false, true, true, true, false, false, false] rfl rfl (by kernel_rfl) (fun _ _ _ h => h) (Or.inl ⟨by rfl, ?_⟩) hHeld ?_ ?_
      rotate_left
      · rintro w' ⟨s0, s1, s2, s3, s4, s5, s6, s7, s8, s9, s10, s11, s12, s13, s14, s15, s16, s17⟩
        go_simp
        with_reducible rfl
      rotate_left
      · simp only [Act.put, List.setIfInBounds_toArray, List.set_cons_zero, List.set_cons_succ, i64_w, i32_w]
        rfl
      refine take_ (i := 8) (N := some 24) (v := ?_) (a' := ?_) #[true, true, true, true, true, true, true, true, true, false, true, true, true, false, false, false] rfl rfl (by kernel_rfl) (fun _ _ _ h => h) (Or.inl ⟨by rfl, ?_⟩) hHeld ?_ ?_
      rotate_left
      · rintro w' ⟨s0, s1, s2, s3, s4, s5, s6, s7, s8, s9, s10, s11, s12, s13, s14, s15, s16, s17⟩
        go_simp
        with_reducible rfl
      rotate_left
      · simp only [Act.put, List.setIfInBounds_toArray, List.set_cons_zero, List.set_cons_succ, i64_w, i32_w]
        rfl
      refine take_ (i := 13) (N := some 29) (v := ?_) (a' := ?_) #[true, true, true, true, true, true, true, true, true, false, true, true, true, true, false, false] rfl rfl (by kernel_rfl) (fun _ _ _ h => h) (Or.inl ⟨by rfl, ?_⟩) hHeld ?_ ?_
      rotate_left
      · rintro w' ⟨s0, s1, s2, s3, s4, s5, s6, s7, s8, s9, s10, s11, s12, s13, s14, s15, s16, s17⟩
        go_simp
        with_reducible rfl
      rotate_left
      · simp only [Act.put, List.setIfInBounds_toArray, List.set_cons_zero, List.set_cons_succ, i64_w, i32_w]
        rfl
      refine one_ (i := 9) (N := some 25) #[true, true, true, true, true, true, true, true, true, true, true, true, true, true, false, false] rfl rfl (by kernel_rfl) (by decide) (fun K hK => ?_)
      refine goesV_ Tryd.func130 (by kernel_rfl) rfl #[.int .i64 (k : Int), .int .i64 sk] #[] #[] (by rfl) rfl rfl rfl (by simp only [List.map_toArray, List.map_cons, List.map_nil]; rfl) ?_
      refine (HFN.out).mono ?_
      rintro e w5 ⟨rfl, rfl⟩
      refine ⟨_, rfl, ?_⟩
      refine hK.out _ _ ⟨hHeld.1, hHeld.2.1, hHeld.2.2.1, hHeld.2.2.2.1, hHeld.2.2.2.2.1, hHeld.2.2.2.2.2.1, hHeld.2.2.2.2.2.2.1, hHeld.2.2.2.2.2.2.2.1, hHeld.2.2.2.2.2.2.2.2.1, hHeld.2.2.2.2.2.2.2.2.2.1, hHeld.2.2.2.2.2.2.2.2.2.2.1, hHeld.2.2.2.2.2.2.2.2.2.2.2.1, hHeld.2.2.2.2.2.2.2.2.2.2.2.2.1, hHeld.2.2.2.2.2.2.2.2.2.2.2.2.2.1, hHeld.2.2.2.2.2.2.2.2.2.2.2.2.2.2.1, hHeld.2.2.2.2.2.2.2.2.2.2.2.2.2.2.2.1, hHeld.2.2.2.2.2.2.2.2.2.2.2.2.2.2.2.2.1, hHeld.2.2.2.2.2.2.2.2.2.2.2.2.2.2.2.2.2⟩ (fun hHeld => ?_)
      clear hK K
      refine norm_ (a' := ?_) ?_ ?_
      rotate_left
      · show Act.put _ (some 25) _ = _
        simp only [Act.put, List.setIfInBounds_toArray, List.set_cons_zero, List.set_cons_succ, i64_w, i32_w]
        rfl
      refine one_ (i := 14) (N := some 30) #[true, true, true, true, true, true, true, true, true, true, true, true, true, true, true, false] rfl rfl (by kernel_rfl) (by decide) (fun K hK => ?_)
      refine goes_ Tryd.func129 (by kernel_rfl) rfl #[.agg #[.slice A0 l0.length c0, .slice A1 n1 c1, .slice A2 n2 c2, .map (some m), .slice At nt ct], .agg r.arr, .int .i64 s2, .int .i64 wg] (by rfl) rfl rfl (by simp only [List.map_toArray, List.map_cons, List.map_nil]; rfl) ?_
      refine (HAF.out _ HBR.out).mono ?_
      rintro e w6 ⟨rfl, hb⟩
      refine ⟨_, rfl, ?_⟩
      have h56 := blk_below H5R.out hb
      have HB6 := Lib.hid (HBR.out.trans (below_weaken hb HBR.out.size))
      have hp6 := blk_below HPR.out hb
      have hq6 := blk_below HQR.out hb
      have ht6 := blk_below HTR.out hb
      refine hK.out _ _ ⟨(blk_cell hp6 0).trans rfl, (blk_cell hp6 1).trans rfl, (blk_cell hp6 2).trans rfl, (blk_cell hp6 3).trans rfl, (blk_cell hp6 4).trans rfl, (blk_cell h56 0).trans rfl, (blk_cell h56 1).trans rfl, (blk_cell h56 2).trans rfl, (blk_cell h56 3).trans rfl, (blk_cell h56 4).trans rfl, (blk_cell h56 5).trans rfl, (blk_cell h56 6).trans rfl, (blk_cell h56 7).trans rfl, (blk_cell h56 8).trans rfl, (blk_cell h56 9).trans rfl, (blk_cell hq6 0).trans rfl, (blk_cell ht6 (5 + k)).trans HSK.out, (blk_cell ht6 k).trans HWG.out⟩ (fun hHeld => ?_)
      clear hK K
      refine norm_ (a' := ?_) ?_ ?_
      rotate_left
      · show Act.put _ (some 30) _ = _
        simp only [Act.put, List.setIfInBounds_toArray, List.set_cons_zero, List.set_cons_succ, i64_w, i32_w]
        rfl
      refine last_ (i := 15) (N := none) #[true, true, true, true, true, true, true, true, true, true, true, true, true, true, true, true] rfl rfl (by kernel_rfl) (by decide) (fun K hK => ?_)
      refine skip_row (by rfl) rfl 120 _ _ rfl (w.heap.size + 1) 0 r.li (afterR l0 r s2 wg).li 120 (by rfl) (by rfl) h56 (by simp [Rd.li]) (by kernel_rfl) ?_
      intro w7 h57 hg7 _
      have H57 := Lib.hid (blkI_whole h57 (by simp [Rd.li]))
      have hne : ∀ j, j < w.heap.size + 1 → some j ≠ some (w.heap.size + 1) := fun j hj e => by simp at e; omega
      have HP7 := Lib.hid ((hg7.block _ (blk_lt hp6) (hne _ (by omega))).trans hp6)
      have HQ7 := Lib.hid ((hg7.block _ (blk_lt hq6) (hne _ (by omega))).trans hq6)
      have HT7 := Lib.hid ((hg7.block _ (blk_lt ht6) (hne _ (by omega))).trans ht6)
      have HB7 := Lib.hid (HB6.out.grown hg7 (by have := HB6.out.size; omega) (fun j ej => by simp at ej; omega))
      clear h57 hg7
      refine hK.out _ _ ?_
      clear hK K
      refine done_ (by kernel_rfl) ?_

      go_wp2
      go_roundg g1
      case measure => omega
      case rel =>
        refine ⟨k + 1, afterR l0 r s2 wg, by go_num, ⟨by have := HK.out; omega⟩, ⟨?_⟩, ⟨by rw [Int.natCast_add]; exact HOK1.out⟩, ⟨H57.out⟩, ⟨HT7.out⟩, ⟨HP7.out⟩, ⟨HQ7.out⟩, ⟨HB7.out⟩⟩
        rw [HS.out, HS2.out, HSKE.out, HWGE.out]
        rfl
set_option maxHeartbeats 4000000 in
set_option maxRecDepth 100000 in
theorem worst1o_calls (A0 A1 A2 At : Option Addr) (c0 n1 c1 n2 c2 nt ct m cl p q : Nat) (l0 : List S92) (t : List Int) (at_ : Int) (a : Nat) (w : World) (hG : GOK w) (hr0 : FRow e92 2 w A0 l0) (hc0 : l0.length ≤ c0) (h1 : 1 ≤ l0.length) (h4 : l0.length ≤ 4) (hm : w.heap[m]? = some (.map (bareMap l0.length).toArray cl)) (hn5 : n1 ≤ 5)
    (ht : t.length = 60) (hw : ∀ d, d < n1 → 0 ≤ t.getD d 0 ∧ t.getD d 0 ≤ 20) (hs : ∀ d, d < n1 → 0 ≤ t.getD (5 + d) 0 ∧ t.getD (5 + d) 0 ≤ 2) (hp : w.heap[p]? = some (.cells #[.slice A0 l0.length c0, .slice A1 n1 c1, .slice A2 n2 c2, .map (some m), .slice At nt ct] 107 (0, 0))) (hq : w.heap[q]? = some (.cells #[.func (.func 131) #[] #[.pointer (some ⟨a, 0, none⟩)]] 142 (0, 0))) (hca : w.cell? ⟨a, 0, none⟩ = some (.int .i64 at_)) (hal : a < w.heap.size) :
    Calls Tryd.prog 128 #[.agg (encI t).toArray, .pointer (some ⟨p, 0, none⟩), .pointer (some ⟨q, 0, none⟩)] w fun e w' => e = .returned (.int .i64 (worst1F l0 n1 (onF at_) t)) ∧ Below w.heap.size w w' := by
  have z0 : 0 < w.heap.size := by have := hG.size; omega
  have q0 := hG.b0
  have q1 := hG.b1
  have pl := blk_lt hp
  have ql := blk_lt hq
  have HAFR : Hid (∀ (r : Rd) (sky k : Int), r.Ok l0.length 9 → 0 ≤ k → k ≤ 20 → 0 ≤ sky → sky ≤ 2 → ∀ W, Below w.heap.size w W → Calls Tryd.prog 129 #[.agg #[.slice A0 l0.length c0, .slice A1 n1 c1, .slice A2 n2 c2, .map (some m), .slice At nt ct], .agg r.arr, .int .i64 sky, .int .i64 k] W fun e w' => e = .returned (.agg (afterR l0 r sky k).arr) ∧ Below W.heap.size W w') :=
    Lib.hid fun r sky k ok k0 k1 s0 s1 W hW => after_calls A0 A1 A2 At c0 n1 c1 n2 c2 nt ct m cl l0 W (hG.below hW) (hr0.below hW) hc0 h1 h4 ((hW.block m (Array.getElem?_eq_some_iff.1 hm).1).trans hm) r ok sky k k0 k1 s0 s1
  have HP := Lib.hid hp
  have HQ := Lib.hid hq
  have HW := Lib.hid hw
  have HSS := Lib.hid hs
  have hn5i : (n1 : Int) ≤ 5 := by omega
  have hp0 := (blk_cell hp 1).trans rfl
  have HCA := Lib.hid hca; clear hca
  clear hG hr0 hm hp hq hw hs
  go_enter Tryd.func128, Tryd.ntmps128
  go_wp2
  go_loopg [13] (n1) (fun gk v13 wr => ∃ (k : Nat) (r : Rd), v13 = .int .i64 k ∧ Aside0 (k + gk = n1) ∧ Aside0 (worst1F l0 n1 (onF at_) t = (waterFrom l0 (onF at_) t gk k r).bound) ∧ Aside0 (r.Ok l0.length k) ∧ Aside0 (wr.heap[w.heap.size + 1]? = some (.cells (encI r.li).toArray 120 (0, 0))) ∧ Aside0 (wr.heap[w.heap.size]? = some (.cells (encI t).toArray 123 (0, 0))) ∧ Aside0 (wr.heap[p]? = some (.cells #[.slice A0 l0.length c0, .slice A1 n1 c1, .slice A2 n2 c2, .map (some m), .slice At nt ct] 107 (0, 0))) ∧ Aside0 (wr.heap[q]? = some (.cells #[.func (.func 131) #[] #[.pointer (some ⟨a, 0, none⟩)]] 142 (0, 0))) ∧ Aside0 (Below w.heap.size w wr))
  case atStart => exact ⟨0, r00, rfl, ⟨by omega⟩, ⟨rfl⟩, ⟨r00_ok _⟩, ⟨blk_at _ _ _ (by simp)⟩, ⟨blk_alloc (blk_new _ _) _⟩, ⟨blk_alloc (blk_alloc HP.out _) _⟩, ⟨blk_alloc (blk_alloc HQ.out _) _⟩, ⟨by repeat (first | exact Below.refl _ _ | refine Below.alloc ?_ (by simp <;> omega) _ | refine Below.setCell ?_ (by simp <;> omega) _ | apply Below.drew)⟩⟩
  case round =>
    obtain ⟨k, r, rfl, HK, HS, HOK, H5, HT, HPW, HQW, HB⟩ := hrel
    cases gk with
    | zero =>
      have hge : ¬ k < n1 := by have := HK.out; omega
      have c50 : wr.cell? ⟨w.heap.size + 1, 0, none⟩ = some (.int .i64 r.bound) := (blk_cell H5.out 0).trans rfl
      go_wp2
      go_ret
      refine ⟨?_, HB.out⟩
      rw [HS.out]
      rfl
    | succ g1 =>
      have hlt : k < n1 := by have := HK.out; omega
      obtain ⟨sk, hsk⟩ : ∃ s, s = t.getD (5 + k) 0 := ⟨_, rfl⟩
      obtain ⟨wg, hwg⟩ : ∃ s, s = t.getD k 0 := ⟨_, rfl⟩
      have hwb := HW.out k hlt
      have hsb := HSS.out k hlt
      rw [← hwg] at hwb
      rw [← hsk] at hsb
      obtain ⟨s2, hs2⟩ : ∃ s, s = onF at_ (k : Int) sk := ⟨_, rfl⟩
      have hs2b : 0 ≤ s2 ∧ s2 ≤ 2 := by
        rw [hs2]
        first
          | exact hsb
          | (unfold onF; split <;> omega)
      have hcsk : (encI t).toArray[5 + k]? = some (.int .i64 sk) := by
        have hl : 5 + k < t.length := by omega
        rw [hsk, List.getD_eq_getElem?_getD, List.getElem?_eq_getElem hl]
        simp [encI, hl]
      have hcwg : (encI t).toArray[k]? = some (.int .i64 wg) := by
        have hl : k < t.length := by omega
        rw [hwg, List.getD_eq_getElem?_getD, List.getElem?_eq_getElem hl]
        simp [encI, hl]
      have HAF := Lib.hid (HAFR.out r s2 wg (HOK.out.mono (by omega)) hwb.1 hwb.2 hs2b.1 hs2b.2)
      have HOK1 := Lib.hid (afterR_ok (sky := s2) HOK.out (by omega) hwb.1 hwb.2)
      have HSK := Lib.hid hcsk
      have HWG := Lib.hid hcwg
      have HSKE := Lib.hid hsk
      have HWGE := Lib.hid hwg
      have HS2 := Lib.hid hs2
      have hk5 : (k : Int) < 5 := by omega
      clear hcsk hcwg hsk hwg hs2 hwb hsb hs2b
      go_upto_region 5 with fail
      have hBP : Below wr.heap.size wr wr.drew := by repeat (first | exact Below.refl _ _ | refine Below.alloc ?_ (by simp <;> omega) _ | refine Below.setCell ?_ (by simp <;> omega) _ | apply Below.drew)
      have HPR := Lib.hid (blk_below HPW.out hBP)
      have HQR := Lib.hid (blk_below HQW.out hBP)
      have H5R := Lib.hid (blk_below H5.out hBP)
      have HTR := Lib.hid (blk_below HT.out hBP)
      have HBR := Lib.hid (HB.out.trans (below_weaken hBP HB.out.size))
      have HCA1 := Lib.hid ((HBR.out.cell (p := ⟨a, 0, none⟩) hal).trans HCA.out)
      have HFN : Hid (Calls Tryd.prog 131 #[.int .i64 (k : Int), .int .i64 sk, .pointer (some ⟨a, 0, none⟩)] wr.drew fun e w' => e = .returned (.int .i64 s2) ∧ wr.drew = w') := by
        refine Lib.hid ?_
        rw [HS2.out]
        exact on1_calls (k : Int) sk at_ _ _ HCA1.out
      clear hBP
      refine start_ (n := 16) (S := fun w' => w'.cell? ⟨p, 0, none⟩ = some (.slice A0 l0.length c0) ∧ w'.cell? ⟨p, 1, none⟩ = some (.slice A1 n1 c1) ∧ w'.cell? ⟨p, 2, none⟩ = some (.slice A2 n2 c2) ∧ w'.cell? ⟨p, 3, none⟩ = some (.map (some m)) ∧ w'.cell? ⟨p, 4, none⟩ = some (.slice At nt ct) ∧ w'.cell? ⟨w.heap.size + 1, 0, none⟩ = some (.int .i64 r.bound) ∧ w'.cell? ⟨w.heap.size + 1, 1, none⟩ = some (.int .i64 r.rolled) ∧ w'.cell? ⟨w.heap.size + 1, 2, none⟩ = some (.int .i64 r.a0) ∧ w'.cell? ⟨w.heap.size + 1, 3, none⟩ = some (.int .i64 r.a1) ∧ w'.cell? ⟨w.heap.size + 1, 4, none⟩ = some (.int .i64 r.a2) ∧ w'.cell? ⟨w.heap.size + 1, 5, none⟩ = some (.int .i64 r.a3) ∧ w'.cell? ⟨w.heap.size + 1, 6, none⟩ = some (.int .i64 r.o0) ∧ w'.cell? ⟨w.heap.size + 1, 7, none⟩ = some (.int .i64 r.o1) ∧ w'.cell? ⟨w.heap.size + 1, 8, none⟩ = some (.int .i64 r.o2) ∧ w'.cell? ⟨w.heap.size + 1, 9, none⟩ = some (.int .i64 r.o3) ∧ w'.cell? ⟨q, 0, none⟩ = some (.func (.func 131) #[] #[.pointer (some ⟨a, 0, none⟩)]) ∧ w'.cell? ⟨w.heap.size, 5 + k, none⟩ = some (.int .i64 sk) ∧ w'.cell? ⟨w.heap.size, k, none⟩ = some (.int .i64 wg)) (ds := [15]) #[false, false, false, false, false, false, false, false, false, false, false, false, false, false, false, false] (by kernel_rfl) rfl rfl ⟨(blk_cell HPR.out 0).trans rfl, (blk_cell HPR.out 1).trans rfl, (blk_cell HPR.out 2).trans rfl, (blk_cell HPR.out 3).trans rfl, (blk_cell HPR.out 4).trans rfl, (blk_cell H5R.out 0).trans rfl, (blk_cell H5R.out 1).trans rfl, (blk_cell H5R.out 2).trans rfl, (blk_cell H5R.out 3).trans rfl, (blk_cell H5R.out 4).trans rfl, (blk_cell H5R.out 5).trans rfl, (blk_cell H5R.out 6).trans rfl, (blk_cell H5R.out 7).trans rfl, (blk_cell H5R.out 8).trans rfl, (blk_cell H5R.out 9).trans rfl, (blk_cell HQR.out 0).trans rfl, (blk_cell HTR.out (5 + k)).trans HSK.out, (blk_cell HTR.out k).trans HWG.out⟩ (fun hHeld => ?_)
      refine pure_ (i := 2) (N := some 18) (v := ?_) (a' := ?_) #[false, false, true, false, false, false, false, false, false, false, false, false, false, false, false, false] rfl rfl (by kernel_rfl) (fun _ _ _ h => h) (Or.inl ⟨by rfl, ?_⟩) ?_ ?_
      rotate_left
      · intro w'
        go_simp
        with_reducible rfl
      rotate_left
      · simp only [Act.put, List.setIfInBounds_toArray, List.set_cons_zero, List.set_cons_succ, i64_w, i32_w]
        rfl
      refine pure_ (i := 4) (N := some 20) (v := ?_) (a' := ?_) #[false, false, true, false, true, false, false, false, false, false, false, false, false, false, false, false] rfl rfl (by kernel_rfl) (fun _ _ _ h => h) (Or.inl ⟨by rfl, ?_⟩) ?_ ?_
      rotate_left
      · intro w'
        go_simp
        with_reducible rfl
      rotate_left
      · simp only [Act.put, List.setIfInBounds_toArray, List.set_cons_zero, List.set_cons_succ, i64_w, i32_w]
        rfl
      refine pure_ (i := 5) (N := some 21) (v := ?_) (a' := ?_) #[false, false, true, false, true, true, false, false, false, false, false, false, false, false, false, false] rfl rfl (by kernel_rfl) (fun _ _ _ h => h) (Or.inl ⟨by rfl, ?_⟩) ?_ ?_
      rotate_left
      · intro w'
        go_simp
        with_reducible rfl
      rotate_left
      · simp only [Act.put, List.setIfInBounds_toArray, List.set_cons_zero, List.set_cons_succ, i64_w, i32_w]
        rfl
      refine pure_ (i := 6) (N := some 22) (v := ?_) (a' := ?_) #[false, false, true, false, true, true, true, false, false, false, false, false, false, false, false, false] rfl rfl (by kernel_rfl) (fun _ _ _ h => h) (Or.inl ⟨by rfl, ?_⟩) ?_ ?_
      rotate_left
      · intro w'
        go_simp
        with_reducible rfl
      rotate_left
      · simp only [Act.put, List.setIfInBounds_toArray, List.set_cons_zero, List.set_cons_succ, i64_w, i32_w]
        rfl
      refine pure_ (i := 7) (N := some 23) (v := ?_) (a' := ?_) #[false, false, true, false, true, true, true, true, false, false, false, false, false, false, false, false] rfl rfl (by kernel_rfl) (fun _ _ _ h => h) (Or.inl ⟨by rfl, ?_⟩) ?_ ?_
      rotate_left
      · intro w'
        go_simp
        with_reducible rfl
      rotate_left
      · simp only [Act.put, List.setIfInBounds_toArray, List.set_cons_zero, List.set_cons_succ, i64_w, i32_w]
        rfl
      refine pure_ (i := 10) (N := some 26) (v := ?_) (a' := ?_) #[false, false, true, false, true, true, true, true, false, false, true, false, false, false, false, false] rfl rfl (by kernel_rfl) (fun _ _ _ h => h) (Or.inl ⟨by rfl, ?_⟩) ?_ ?_
      rotate_left
      · intro w'
        go_simp
        with_reducible rfl
      rotate_left
      · simp only [Act.put, List.setIfInBounds_toArray, List.set_cons_zero, List.set_cons_succ, i64_w, i32_w]
        rfl
      refine pure_ (i := 11) (N := some 27) (v := ?_) (a' := ?_) #[false, false, true, false, true, true, true, true, false, false, true, true, false, false, false, false] rfl rfl (by kernel_rfl) (fun _ _ _ h => h) (Or.inl ⟨by rfl, ?_⟩) ?_ ?_
      rotate_left
      · intro w'
        go_simp
        with_reducible rfl
      rotate_left
      · simp only [Act.put, List.setIfInBounds_toArray, List.set_cons_zero, List.set_cons_succ, i64_w, i32_w]
        rfl
      refine pure_ (i := 12) (N := some 28) (v := ?_) (a' := ?_) #[false, false, true, false, true, true, true, true, false, false, true, true, true, false, false, false] rfl rfl (by kernel_rfl) (fun _ _ _ h => h) (Or.inl ⟨by rfl, ?_⟩) ?_ ?_
      rotate_left
      · intro w'
        go_simp
        with_reducible rfl
      rotate_left
      · simp only [Act.put, List.setIfInBounds_toArray, List.set_cons_zero, List.set_cons_succ, i64_w, i32_w]
        rfl
      refine take_ (i := 0) (N := some 16) (v := ?_) (a' := ?_) #[true, false, true, false, true, true, true, true, false, false, true, true, true, false, false, false] rfl rfl (by kernel_rfl) (fun _ _ _ h => h) (Or.inl ⟨by rfl, ?_⟩) hHeld ?_ ?_
      rotate_left
      · rintro w' ⟨s0, s1, s2, s3, s4, s5, s6, s7, s8, s9, s10, s11, s12, s13, s14, s15, s16, s17⟩
        go_simp
        with_reducible rfl
      rotate_left
      · simp only [Act.put, List.setIfInBounds_toArray, List.set_cons_zero, List.set_cons_succ, i64_w, i32_w]
        rfl
      refine take_ (i := 1) (N := some 17) (v := ?_) (a' := ?_) #[true, true, true, false, true, true, true, true, false, false, true, true, true, false, false, false] rfl rfl (by kernel_rfl) (fun _ _ _ h => h) (Or.inl ⟨by rfl, ?_⟩) hHeld ?_ ?_
      rotate_left
      · rintro w' ⟨s0, s1, s2, s3, s4, s5, s6, s7, s8, s9, s10, s11, s12, s13, s14, s15, s16, s17⟩
        go_simp
        with_reducible rfl
      rotate_left
      · simp only [Act.put, List.setIfInBounds_toArray, List.set_cons_zero, List.set_cons_succ, i64_w, i32_w]
        rfl
      refine take_ (i := 3) (N := some 19) (v := ?_) (a' := ?_) #[true, true, true, true, true, true, true, true, false, false, true, true, true, false, false, false] rfl rfl (by kernel_rfl) (fun _ _ _ h => h) (Or.inl ⟨by rfl, ?_⟩) hHeld ?_ ?_
      rotate_left
      · rintro w' ⟨s0, s1, s2, s3, s4, s5, s6, s7, s8, s9, s10, s11, s12, s13, s14, s15, s16, s17⟩
        go_simp
        with_reducible rfl
      rotate_left
      · simp only [Act.put, List.setIfInBounds_toArray, List.set_cons_zero, List.set_cons_succ, i64_w, i32_w]
        rfl
      refine take_ (i := 8) (N := some 24) (v := ?_) (a' := ?_) #[true, true, true, true, true, true, true, true, true, false, true, true, true, false, false, false] rfl rfl (by kernel_rfl) (fun _ _ _ h => h) (Or.inl ⟨by rfl, ?_⟩) hHeld ?_ ?_
      rotate_left
      · rintro w' ⟨s0, s1, s2, s3, s4, s5, s6, s7, s8, s9, s10, s11, s12, s13, s14, s15, s16, s17⟩
        go_simp
        with_reducible rfl
      rotate_left
      · simp only [Act.put, List.setIfInBounds_toArray, List.set_cons_zero, List.set_cons_succ, i64_w, i32_w]
        rfl
      refine take_ (i := 13) (N := some 29) (v := ?_) (a' := ?_) #[true, true, true, true, true, true, true, true, true, false, true, true, true, true, false, false] rfl rfl (by kernel_rfl) (fun _ _ _ h => h) (Or.inl ⟨by rfl, ?_⟩) hHeld ?_ ?_
      rotate_left
      · rintro w' ⟨s0, s1, s2, s3, s4, s5, s6, s7, s8, s9, s10, s11, s12, s13, s14, s15, s16, s17⟩
        go_simp
        with_reducible rfl
      rotate_left
      · simp only [Act.put, List.setIfInBounds_toArray, List.set_cons_zero, List.set_cons_succ, i64_w, i32_w]
        rfl
      refine one_ (i := 9) (N := some 25) #[true, true, true, true, true, true, true, true, true, true, true, true, true, true, false, false] rfl rfl (by kernel_rfl) (by decide) (fun K hK => ?_)
      refine goesV_ Tryd.func131 (by kernel_rfl) rfl #[.int .i64 (k : Int), .int .i64 sk, .pointer (some ⟨a, 0, none⟩)] #[] #[.pointer (some ⟨a, 0, none⟩)] (by rfl) rfl rfl rfl (by simp only [List.map_toArray, List.map_cons, List.map_nil]; rfl) ?_
      refine (HFN.out).mono ?_
      rintro e w5 ⟨rfl, rfl⟩
      refine ⟨_, rfl, ?_⟩
      refine hK.out _ _ ⟨hHeld.1, hHeld.2.1, hHeld.2.2.1, hHeld.2.2.2.1, hHeld.2.2.2.2.1, hHeld.2.2.2.2.2.1, hHeld.2.2.2.2.2.2.1, hHeld.2.2.2.2.2.2.2.1, hHeld.2.2.2.2.2.2.2.2.1, hHeld.2.2.2.2.2.2.2.2.2.1, hHeld.2.2.2.2.2.2.2.2.2.2.1, hHeld.2.2.2.2.2.2.2.2.2.2.2.1, hHeld.2.2.2.2.2.2.2.2.2.2.2.2.1, hHeld.2.2.2.2.2.2.2.2.2.2.2.2.2.1, hHeld.2.2.2.2.2.2.2.2.2.2.2.2.2.2.1, hHeld.2.2.2.2.2.2.2.2.2.2.2.2.2.2.2.1, hHeld.2.2.2.2.2.2.2.2.2.2.2.2.2.2.2.2.1, hHeld.2.2.2.2.2.2.2.2.2.2.2.2.2.2.2.2.2⟩ (fun hHeld => ?_)
      clear hK K
      refine norm_ (a' := ?_) ?_ ?_
      rotate_left
      · show Act.put _ (some 25) _ = _
        simp only [Act.put, List.setIfInBounds_toArray, List.set_cons_zero, List.set_cons_succ, i64_w, i32_w]
        rfl
      refine one_ (i := 14) (N := some 30) #[true, true, true, true, true, true, true, true, true, true, true, true, true, true, true, false] rfl rfl (by kernel_rfl) (by decide) (fun K hK => ?_)
      refine goes_ Tryd.func129 (by kernel_rfl) rfl #[.agg #[.slice A0 l0.length c0, .slice A1 n1 c1, .slice A2 n2 c2, .map (some m), .slice At nt ct], .agg r.arr, .int .i64 s2, .int .i64 wg] (by rfl) rfl rfl (by simp only [List.map_toArray, List.map_cons, List.map_nil]; rfl) ?_
      refine (HAF.out _ HBR.out).mono ?_
      rintro e w6 ⟨rfl, hb⟩
      refine ⟨_, rfl, ?_⟩
      have h56 := blk_below H5R.out hb
      have HB6 := Lib.hid (HBR.out.trans (below_weaken hb HBR.out.size))
      have hp6 := blk_below HPR.out hb
      have hq6 := blk_below HQR.out hb
      have ht6 := blk_below HTR.out hb
      refine hK.out _ _ ⟨(blk_cell hp6 0).trans rfl, (blk_cell hp6 1).trans rfl, (blk_cell hp6 2).trans rfl, (blk_cell hp6 3).trans rfl, (blk_cell hp6 4).trans rfl, (blk_cell h56 0).trans rfl, (blk_cell h56 1).trans rfl, (blk_cell h56 2).trans rfl, (blk_cell h56 3).trans rfl, (blk_cell h56 4).trans rfl, (blk_cell h56 5).trans rfl, (blk_cell h56 6).trans rfl, (blk_cell h56 7).trans rfl, (blk_cell h56 8).trans rfl, (blk_cell h56 9).trans rfl, (blk_cell hq6 0).trans rfl, (blk_cell ht6 (5 + k)).trans HSK.out, (blk_cell ht6 k).trans HWG.out⟩ (fun hHeld => ?_)
      clear hK K
      refine norm_ (a' := ?_) ?_ ?_
      rotate_left
      · show Act.put _ (some 30) _ = _
        simp only [Act.put, List.setIfInBounds_toArray, List.set_cons_zero, List.set_cons_succ, i64_w, i32_w]
        rfl
      refine last_ (i := 15) (N := none) #[true, true, true, true, true, true, true, true, true, true, true, true, true, true, true, true] rfl rfl (by kernel_rfl) (by decide) (fun K hK => ?_)
      refine skip_row (by rfl) rfl 120 _ _ rfl (w.heap.size + 1) 0 r.li (afterR l0 r s2 wg).li 120 (by rfl) (by rfl) h56 (by simp [Rd.li]) (by kernel_rfl) ?_
      intro w7 h57 hg7 _
      have H57 := Lib.hid (blkI_whole h57 (by simp [Rd.li]))
      have hne : ∀ j, j < w.heap.size + 1 → some j ≠ some (w.heap.size + 1) := fun j hj e => by simp at e; omega
      have HP7 := Lib.hid ((hg7.block _ (blk_lt hp6) (hne _ (by omega))).trans hp6)
      have HQ7 := Lib.hid ((hg7.block _ (blk_lt hq6) (hne _ (by omega))).trans hq6)
      have HT7 := Lib.hid ((hg7.block _ (blk_lt ht6) (hne _ (by omega))).trans ht6)
      have HB7 := Lib.hid (HB6.out.grown hg7 (by have := HB6.out.size; omega) (fun j ej => by simp at ej; omega))
      clear h57 hg7
      refine hK.out _ _ ?_
      clear hK K
      refine done_ (by kernel_rfl) ?_

      go_wp2
      go_roundg g1
      case measure => omega
      case rel =>
        refine ⟨k + 1, afterR l0 r s2 wg, by go_num, ⟨by have := HK.out; omega⟩, ⟨?_⟩, ⟨by rw [Int.natCast_add]; exact HOK1.out⟩, ⟨H57.out⟩, ⟨HT7.out⟩, ⟨HP7.out⟩, ⟨HQ7.out⟩, ⟨HB7.out⟩⟩
        rw [HS.out, HS2.out, HSKE.out, HWGE.out]
        rfl
end Go.Proofs.YthgjedagbgmgmaaDoor.Pr
namespace Go.Proofs.YthgjedagbgmgmaaDoor.Pr
open Go.RowKit Go.Proofs.YthgjedagbgmgmaaDoorW.PrintWords Go.Proofs.YthgjedagbgmgmaaDoorW.PrintLast Go.Proofs.YthgjedagbgmgmaaDoorW.PrintMore
set_option linter.unusedVariables false
set_option linter.unusedSimpArgs false
theorem field32 (a b : Int) (W : World) : (Instr.field 32 (.agg #[.int .i64 a, .int .i64 b]) 0).run Tryd.prog W = .ok (.int .i64 a) W := by
  first
    | kernel_rfl
    | rfl
    | (have hu := Tryd.underlying32; simp [Instr.field, Sem.run_bind, run_underlying hu, Result.andThen])
theorem truths_wagons {ls : List S92} {ds : List S90} {ks : List S43} {but : List Int} (hok : okBook ls ds ks = true) {d : Nat} (hd : d < ds.length) : ∀ x ∈ truthsAll ls ds ks but, 0 ≤ x.getD d 0 ∧ x.getD d 0 ≤ 20 := by
  intro x hx
  obtain ⟨_, _, h5, _, _, h6, _⟩ := ok_facts hok
  rw [truthsAll_good] at hx
  obtain ⟨c, hc, rfl⟩ := List.mem_map.1 hx
  have ho := (mem_good.1 hc).1
  rw [enc0_wagons ho h5 d hd]
  have hl : d < c.length := by rw [ho.1]; exact hd
  rw [List.getD_eq_getElem?_getD, List.getElem?_eq_getElem hl]
  exact ch_wagons ho (fun x hx => ⟨(h6 x hx).1, (h6 x hx).2.2.1⟩) _ (List.getElem_mem hl)
/-- How many layers are bound at last, at the least, if the road is watered. -/
def worstF (ls : List S92) (n : Nat) (wf : Int → Int → Int) (T : List (List Int)) : Int := (spanF (worst1F ls n wf) T (worst1F ls n wf (T.headD []))).1
/-- The best day of some. -/
def waterBest (g : Int → Int) : Nat → Nat → Int × Int → Int × Int
  | 0, _, s => s
  | k + 1, d, s => waterBest g k (d + 1) (if s.2 < g (d : Int) then ((d : Int), g (d : Int)) else s)
def wRes (b : Int × Int) : Int × Int := if b.1 < 0 then (0, 4) else (b.1, 0)
theorem wRes_none {s1 s2 : Int} (h : s1 < 0) : wRes (s1, s2) = (0, 4) := if_pos h
theorem wRes_some {s1 s2 : Int} (h : 0 ≤ s1) : wRes (s1, s2) = (s1, 0) := if_neg (show ¬ s1 < 0 by omega)
theorem waterBest_yes {g : Int → Int} {k d : Nat} {s1 s2 x : Int} (hx : x = g (d : Int)) (h : s2 < x) : waterBest g (k + 1) d (s1, s2) = waterBest g k (d + 1) ((d : Int), x) := by
  subst hx
  show waterBest g k (d + 1) (if s2 < g (d : Int) then ((d : Int), g (d : Int)) else (s1, s2)) = _
  rw [if_pos h]
theorem waterBest_no {g : Int → Int} {k d : Nat} {s1 s2 x : Int} (hx : x = g (d : Int)) (h : x ≤ s2) : waterBest g (k + 1) d (s1, s2) = waterBest g k (d + 1) (s1, s2) := by
  subst hx
  show waterBest g k (d + 1) (if s2 < g (d : Int) then ((d : Int), g (d : Int)) else (s1, s2)) = _
  rw [if_neg (by omega)]
def waterF (ls : List S92) (ds : List S90) (ks : List S43) : Int × Int :=
  if askCode ls ds ks true = 0 then wRes (waterBest (fun d => worstF ls ds.length (onF d) (truthsAll ls ds ks [])) ds.length 0 (-1, worstF ls ds.length neverF (truthsAll ls ds ks []))) else (0, askCode ls ds ks true)
set_option maxHeartbeats 4000000 in
set_option maxRecDepth 100000 in
theorem worstn_calls (B0 B1 B2 B3 : Option Addr) (d0 d1 d2 d3 mm cl : Nat) (l0 : List S92) (l1 : List S90) (l2 : List S43) (w : World) (hG : GOK w) (hr0 : FRow e92 2 w B0 l0) (hc0 : l0.length ≤ d0) (hok : okBook l0 l1 l2 = true) (hm : w.heap[mm]? = some (.map (bareMap l0.length).toArray cl)) (hF : FRow encI 60 w B3 (truthsAll l0 l1 l2 [])) (hT : 0 < (truthsAll l0 l1 l2 []).length) (hcd : (truthsAll l0 l1 l2 []).length ≤ d3) :
    Calls Tryd.prog 98 #[.agg #[.slice B0 l0.length d0, .slice B1 l1.length d1, .slice B2 l2.length d2, .map (some mm), .slice B3 (truthsAll l0 l1 l2 []).length d3], .agg #[.func (.func 130) #[] #[]]] w fun e w' => e = .returned (.int .i64 (spanF (worst1F l0 l1.length (neverF)) (truthsAll l0 l1 l2 []) (worst1F l0 l1.length (neverF) ((truthsAll l0 l1 l2 []).headD []))).1) ∧ Below w.heap.size w w' := by
  obtain ⟨o1, o2, o3, o4, o5, o6, o7⟩ := ok_facts hok
  obtain ⟨r1, hr1⟩ : ∃ x, x = (spanF (worst1F l0 l1.length (neverF)) (truthsAll l0 l1 l2 []) (worst1F l0 l1.length (neverF) ((truthsAll l0 l1 l2 []).headD []))).1 := ⟨_, rfl⟩
  obtain ⟨r2, hr2⟩ : ∃ x, x = (spanF (worst1F l0 l1.length (neverF)) (truthsAll l0 l1 l2 []) (worst1F l0 l1.length (neverF) ((truthsAll l0 l1 l2 []).headD []))).2 := ⟨_, rfl⟩
  have HSP : Hid (∀ (W : World) (p q : Nat), Below w.heap.size w W → W.heap[p]? = some (.cells #[.slice B0 l0.length d0, .slice B1 l1.length d1, .slice B2 l2.length d2, .map (some mm), .slice B3 (truthsAll l0 l1 l2 []).length d3] 107 (0, 0)) → W.heap[q]? = some (.cells #[.func (.func 130) #[] #[]] 142 (0, 0)) →
      Calls Tryd.prog 82 #[.agg #[.slice B0 l0.length d0, .slice B1 l1.length d1, .slice B2 l2.length d2, .map (some mm), .slice B3 (truthsAll l0 l1 l2 []).length d3], .func (.func 128) #[] #[.pointer (some ⟨p, 0, none⟩), .pointer (some ⟨q, 0, none⟩)]] W fun e w' => e = .returned (.agg #[.int .i64 r1, .int .i64 r2]) ∧ Below W.heap.size W w') := by
    refine Lib.hid fun W p q hW hp hq => ?_
    rw [hr1, hr2]
    refine span_128 B0 B1 B2 B3 l0.length d0 l1.length d1 l2.length d2 d3 (some mm) (truthsAll l0 l1 l2 []) (.pointer (some ⟨p, 0, none⟩)) (.pointer (some ⟨q, 0, none⟩)) (worst1F l0 l1.length (neverF)) W (hF.below hW) (truthsAll_60 o3) hT hcd (truthsAll_len hok) (fun W' hW' t ht => ?_)
    have hWW := hW.trans (below_weaken hW' hW.size)
    exact worst1n_calls B0 B1 B2 B3 d0 l1.length d1 l2.length d2 (truthsAll l0 l1 l2 []).length d3 mm cl p q l0 t W' (hG.below hWW) (hr0.below hWW) hc0 o1 o2 ((hWW.block mm (Array.getElem?_eq_some_iff.1 hm).1).trans hm) o3 (truthsAll_60 o3 t ht) (fun d hd => truths_wagons hok hd t ht) (fun d hd => truths_sky o3 hd t ht) (blk_below hp hW') (blk_below hq hW')
  rw [← hr1]
  clear hr1 hr2 hG hr0 hm hF hT hcd o1 o2 o3 o4 o5 o6 o7 hok
  go_enter Tryd.func98, Tryd.ntmps98
  go_wp2_with fail
  refine (HSP.out _ w.heap.size (w.heap.size + 1) ?hw (blk_alloc (blk_new w _) _) (blk_at _ _ _ (by simp))).mono ?_
  (case hw => exact by repeat (first | exact Below.refl _ _ | refine Below.alloc ?_ (by simp <;> omega) _ | refine Below.setCell ?_ (by simp <;> omega) _ | apply Below.drew))
  rintro e w6 ⟨rfl, hb⟩
  have hfl : ∀ W, (Instr.field 32 (.agg #[.int .i64 r1, .int .i64 r2]) 0).run Tryd.prog W = .ok (.int .i64 r1) W := field32 r1 r2
  go_wp2
  go_ret
  exact ⟨rfl, (show Below w.heap.size w _ from by repeat (first | exact Below.refl _ _ | refine Below.alloc ?_ (by simp <;> omega) _ | refine Below.setCell ?_ (by simp <;> omega) _ | apply Below.drew)).trans (below_weaken hb (by simp; omega))⟩
set_option maxHeartbeats 4000000 in
set_option maxRecDepth 100000 in
theorem worsto_calls (B0 B1 B2 B3 : Option Addr) (d0 d1 d2 d3 mm cl : Nat) (l0 : List S92) (l1 : List S90) (l2 : List S43) (at_ : Int) (a : Nat) (w : World) (hG : GOK w) (hr0 : FRow e92 2 w B0 l0) (hc0 : l0.length ≤ d0) (hok : okBook l0 l1 l2 = true) (hm : w.heap[mm]? = some (.map (bareMap l0.length).toArray cl)) (hF : FRow encI 60 w B3 (truthsAll l0 l1 l2 [])) (hT : 0 < (truthsAll l0 l1 l2 []).length) (hcd : (truthsAll l0 l1 l2 []).length ≤ d3) (hca : w.cell? ⟨a, 0, none⟩ = some (.int .i64 at_)) :
    Calls Tryd.prog 98 #[.agg #[.slice B0 l0.length d0, .slice B1 l1.length d1, .slice B2 l2.length d2, .map (some mm), .slice B3 (truthsAll l0 l1 l2 []).length d3], .agg #[.func (.func 131) #[] #[.pointer (some ⟨a, 0, none⟩)]]] w fun e w' => e = .returned (.int .i64 (spanF (worst1F l0 l1.length (onF at_)) (truthsAll l0 l1 l2 []) (worst1F l0 l1.length (onF at_) ((truthsAll l0 l1 l2 []).headD []))).1) ∧ Below w.heap.size w w' := by
  obtain ⟨o1, o2, o3, o4, o5, o6, o7⟩ := ok_facts hok
  obtain ⟨r1, hr1⟩ : ∃ x, x = (spanF (worst1F l0 l1.length (onF at_)) (truthsAll l0 l1 l2 []) (worst1F l0 l1.length (onF at_) ((truthsAll l0 l1 l2 []).headD []))).1 := ⟨_, rfl⟩
  obtain ⟨r2, hr2⟩ : ∃ x, x = (spanF (worst1F l0 l1.length (onF at_)) (truthsAll l0 l1 l2 []) (worst1F l0 l1.length (onF at_) ((truthsAll l0 l1 l2 []).headD []))).2 := ⟨_, rfl⟩
  have HSP : Hid (∀ (W : World) (p q : Nat), Below w.heap.size w W → W.heap[p]? = some (.cells #[.slice B0 l0.length d0, .slice B1 l1.length d1, .slice B2 l2.length d2, .map (some mm), .slice B3 (truthsAll l0 l1 l2 []).length d3] 107 (0, 0)) → W.heap[q]? = some (.cells #[.func (.func 131) #[] #[.pointer (some ⟨a, 0, none⟩)]] 142 (0, 0)) →
      Calls Tryd.prog 82 #[.agg #[.slice B0 l0.length d0, .slice B1 l1.length d1, .slice B2 l2.length d2, .map (some mm), .slice B3 (truthsAll l0 l1 l2 []).length d3], .func (.func 128) #[] #[.pointer (some ⟨p, 0, none⟩), .pointer (some ⟨q, 0, none⟩)]] W fun e w' => e = .returned (.agg #[.int .i64 r1, .int .i64 r2]) ∧ Below W.heap.size W w') := by
    refine Lib.hid fun W p q hW hp hq => ?_
    rw [hr1, hr2]
    refine span_128 B0 B1 B2 B3 l0.length d0 l1.length d1 l2.length d2 d3 (some mm) (truthsAll l0 l1 l2 []) (.pointer (some ⟨p, 0, none⟩)) (.pointer (some ⟨q, 0, none⟩)) (worst1F l0 l1.length (onF at_)) W (hF.below hW) (truthsAll_60 o3) hT hcd (truthsAll_len hok) (fun W' hW' t ht => ?_)
    have hWW := hW.trans (below_weaken hW' hW.size)
    exact worst1o_calls B0 B1 B2 B3 d0 l1.length d1 l2.length d2 (truthsAll l0 l1 l2 []).length d3 mm cl p q l0 t at_ a W' (hG.below hWW) (hr0.below hWW) hc0 o1 o2 ((hWW.block mm (Array.getElem?_eq_some_iff.1 hm).1).trans hm) o3 (truthsAll_60 o3 t ht) (fun d hd => truths_wagons hok hd t ht) (fun d hd => truths_sky o3 hd t ht) (blk_below hp hW') (blk_below hq hW') ((hWW.cell (p := ⟨a, 0, none⟩) (World.block_lt_of_cell? w ⟨a, 0, none⟩ hca)).trans hca) (Nat.lt_of_lt_of_le (World.block_lt_of_cell? w ⟨a, 0, none⟩ hca) hWW.size)
  rw [← hr1]
  clear hr1 hr2 hG hr0 hm hF hT hcd o1 o2 o3 o4 o5 o6 o7 hok hca
  go_enter Tryd.func98, Tryd.ntmps98
  go_wp2_with fail
  refine (HSP.out _ w.heap.size (w.heap.size + 1) ?hw (blk_alloc (blk_new w _) _) (blk_at _ _ _ (by simp))).mono ?_
  (case hw => exact by repeat (first | exact Below.refl _ _ | refine Below.alloc ?_ (by simp <;> omega) _ | refine Below.setCell ?_ (by simp <;> omega) _ | apply Below.drew))
  rintro e w6 ⟨rfl, hb⟩
  have hfl : ∀ W, (Instr.field 32 (.agg #[.int .i64 r1, .int .i64 r2]) 0).run Tryd.prog W = .ok (.int .i64 r1) W := field32 r1 r2
  go_wp2
  go_ret
  exact ⟨rfl, (show Below w.heap.size w _ from by repeat (first | exact Below.refl _ _ | refine Below.alloc ?_ (by simp <;> omega) _ | refine Below.setCell ?_ (by simp <;> omega) _ | apply Below.drew)).trans (below_weaken hb (by simp; omega))⟩
end Go.Proofs.YthgjedagbgmgmaaDoor.Pr
namespace Go.Proofs.YthgjedagbgmgmaaDoor.Pr
open Go.RowKit Go.Proofs.YthgjedagbgmgmaaDoorW.PrintWords Go.Proofs.YthgjedagbgmgmaaDoorW.PrintLast Go.Proofs.YthgjedagbgmgmaaDoorW.PrintMore
set_option linter.unusedVariables false
set_option linter.unusedSimpArgs false
set_option maxHeartbeats 4000000 in
set_option maxRecDepth 100000 in
theorem water_calls (A0 A1 A2 : Option Addr) (c0 c1 c2 : Nat) (l0 : List S92) (l1 : List S90) (l2 : List S43) (w : World) (hG : GOK w) (hr0 : Kd.C k92 w A0 l0.length l0) (hc0 : l0.length ≤ c0) (hr1 : Kd.C k90 w A1 l1.length l1) (hc1 : l1.length ≤ c1) (hr2 : Kd.C k43 w A2 l2.length l2) (hc2 : l2.length ≤ c2) :
    Calls Tryd.prog 36 #[.agg #[.slice A0 l0.length c0, .slice A1 l1.length c1, .slice A2 l2.length c2]] w fun e w' => e = .returned (.tuple #[.int .i64 (waterF l0 l1 l2).1, .int .i64 (waterF l0 l1 l2).2]) ∧ Below w.heap.size w w' := by
  have h0 : (l0.length : Int) ≤ 9223372036854775807 := by have := hr0.2.1; omega
  have h1 : (l1.length : Int) ≤ 9223372036854775807 := by have := hr1.2.1; omega
  have h2 : (l2.length : Int) ≤ 9223372036854775807 := by have := hr2.2.1; omega
  have HASK := Lib.hid (ask_calls A0 A1 A2 c0 c1 c2 l0 l1 l2 w hG hr0 hc0 hr1 hc1 hr2 hc2 h0 h1 h2 true)
  have HG := Lib.hid hG
  have HR0 := Lib.hid (row92 hr0)
  unfold waterF
  obtain ⟨code, hcode⟩ : ∃ c, c = askCode l0 l1 l2 true := ⟨_, rfl⟩
  rw [← hcode]
  rw [← hcode] at HASK
  have HCODE := Lib.hid hcode
  clear hG hr0 hr1 hr2 hcode h0 h2
  by_cases hz : code = 0
  · rw [if_pos hz]
    obtain ⟨ra, hra⟩ : ∃ x, x = (wRes (waterBest (fun d => worstF l0 l1.length (onF d) (truthsAll l0 l1 l2 [])) l1.length 0 (-1, worstF l0 l1.length neverF (truthsAll l0 l1 l2 [])))).1 := ⟨_, rfl⟩
    obtain ⟨rb, hrb⟩ : ∃ x, x = (wRes (waterBest (fun d => worstF l0 l1.length (onF d) (truthsAll l0 l1 l2 [])) l1.length 0 (-1, worstF l0 l1.length neverF (truthsAll l0 l1 l2 [])))).2 := ⟨_, rfl⟩
    rw [← hra, ← hrb]
    have HRA := Lib.hid hra
    have HRB := Lib.hid hrb
    clear hra hrb
    have ht : (code != 0) = false := by simpa using hz
    obtain ⟨hok, _, hT0⟩ := askCode_zero (HCODE.out.symm.trans hz)
    obtain ⟨o1, o2, o3, o4, o5, o6, o7⟩ := ok_facts hok
    have HOK := Lib.hid hok
    have HT0 := Lib.hid hT0
    have HZ := Lib.hid hz
    clear hz hok o5 o6 o7 o1 hT0 h1
    go_enter Tryd.func36, Tryd.ntmps36
    go_wp2_with fail
    refine (HASK.out _ ?hw).mono ?_
    (case hw => exact by repeat (first | exact Below.refl _ _ | refine Below.alloc ?_ (by simp <;> omega) _ | refine Below.setCell ?_ (by simp <;> omega) _ | apply Below.drew))
    rintro e w6 ⟨v, rfl, hP, hb⟩
    obtain ⟨B0, n0, d0, B1, n1, d1, B2, n2, d2, mp, B3, n3, d3, rfl, hP⟩ := hP
    obtain ⟨rfl, rfl, rfl, rfl, rfl, rfl, rfl, rfl, rfl, rfl, ho, mm, rfl, _, hmm⟩ := hP HZ.out
    have hg2 : w6.heap[w.heap.size]? = some (.cells #[.slice B0 l0.length d0, .slice B1 l1.length d1, .slice B2 l2.length d2] 26 (0, 0)) := blk_below (blk_new w _) hb
    have HB6 := Lib.hid ((show Below w.heap.size w _ from by repeat (first | exact Below.refl _ _ | refine Below.alloc ?_ (by simp <;> omega) _ | refine Below.setCell ?_ (by simp <;> omega) _ | apply Below.drew)).trans (below_weaken hb (by simp)))
    obtain ⟨hF, _, hcd⟩ := frow_own ho (truthsAll_60 o3)
    have HWN : Hid (∀ W, Below w6.heap.size w6 W → Calls Tryd.prog 98 #[.agg #[.slice B0 l0.length d0, .slice B1 l1.length d1, .slice B2 l2.length d2, .map (some mm), .slice B3 (truthsAll l0 l1 l2 []).length d3], .agg #[.func (.func 130) #[] #[]]] W fun e w' => e = .returned (.int .i64 (worstF l0 l1.length neverF (truthsAll l0 l1 l2 []))) ∧ Below W.heap.size W w') :=
      Lib.hid fun W hW => worstn_calls B0 B1 B2 B3 d0 d1 d2 d3 mm l0.length l0 l1 l2 W ((HG.out.below HB6.out).below hW) ((HR0.out.below HB6.out).below hW) hc0 HOK.out ((hW.block mm (Array.getElem?_eq_some_iff.1 hmm).1).trans hmm) (hF.below hW) HT0.out hcd
    have HWO : Hid (∀ (W : World) (a : Nat) (d : Int), Below w6.heap.size w6 W → W.cell? ⟨a, 0, none⟩ = some (.int .i64 d) → Calls Tryd.prog 98 #[.agg #[.slice B0 l0.length d0, .slice B1 l1.length d1, .slice B2 l2.length d2, .map (some mm), .slice B3 (truthsAll l0 l1 l2 []).length d3], .agg #[.func (.func 131) #[] #[.pointer (some ⟨a, 0, none⟩)]]] W fun e w' => e = .returned (.int .i64 (worstF l0 l1.length (onF d) (truthsAll l0 l1 l2 []))) ∧ Below W.heap.size W w') :=
      Lib.hid fun W a d hW hca => worsto_calls B0 B1 B2 B3 d0 d1 d2 d3 mm l0.length l0 l1 l2 d a W ((HG.out.below HB6.out).below hW) ((HR0.out.below HB6.out).below hW) hc0 HOK.out ((hW.block mm (Array.getElem?_eq_some_iff.1 hmm).1).trans hmm) (hF.below hW) HT0.out hcd hca
    obtain ⟨x0, hx0⟩ : ∃ x, x = worstF l0 l1.length neverF (truthsAll l0 l1 l2 []) := ⟨_, rfl⟩
    obtain ⟨g, hg⟩ : ∃ g : Int → Int, g = fun d => worstF l0 l1.length (onF d) (truthsAll l0 l1 l2 []) := ⟨_, rfl⟩
    have hge : ∀ d, worstF l0 l1.length (onF d) (truthsAll l0 l1 l2 []) = g d := fun d => by rw [hg]
    simp only [hge] at HWO
    rw [← hx0] at HWN
    have HX0 := Lib.hid hx0
    have HG2 := Lib.hid hg2
    have HRES : Hid (∀ b : Int × Int, waterBest g l1.length 0 (-1, x0) = b → ra = (wRes b).1 ∧ rb = (wRes b).2) :=
      Lib.hid fun b hb => by rw [HRA.out, HRB.out, ← HX0.out, ← hg, hb]; exact ⟨rfl, rfl⟩
    clear hx0 hg hge hP ho hF hcd hg2 hb hmm HOK HT0
    go_upto_region 4 with fail
    obtain ⟨wP, hwP⟩ : ∃ W, W = w6.alloc (.cells #[.slice B0 l0.length d0, .slice B1 l1.length d1, .slice B2 l2.length d2, .map (some mm), .slice B3 (truthsAll l0 l1 l2 []).length d3] 107) := ⟨_, rfl⟩
    rw [← hwP]
    have HGP := Lib.hid (show wP.drew.heap[w6.heap.size]? = some (.cells #[.slice B0 l0.length d0, .slice B1 l1.length d1, .slice B2 l2.length d2, .map (some mm), .slice B3 (truthsAll l0 l1 l2 []).length d3] 107 (0, 0)) by rw [hwP]; exact blk_new _ _)
    have hBP : Below w6.heap.size w6 wP.drew := by rw [hwP]; exact by repeat (first | exact Below.refl _ _ | refine Below.alloc ?_ (by simp <;> omega) _ | refine Below.setCell ?_ (by simp <;> omega) _ | apply Below.drew)
    have HBP := Lib.hid hBP
    clear hwP hBP
    refine start_ (n := 5) (S := fun w' => w'.cell? ⟨w6.heap.size, 0, none⟩ = some (.slice B0 l0.length d0) ∧ w'.cell? ⟨w6.heap.size, 1, none⟩ = some (.slice B1 l1.length d1) ∧ w'.cell? ⟨w6.heap.size, 2, none⟩ = some (.slice B2 l2.length d2) ∧ w'.cell? ⟨w6.heap.size, 3, none⟩ = some (.map (some mm)) ∧ w'.cell? ⟨w6.heap.size, 4, none⟩ = some (.slice B3 (truthsAll l0 l1 l2 []).length d3)) (ds := []) #[false, false, false, false, false] (by kernel_rfl) rfl rfl ⟨(blk_cell HGP.out 0).trans rfl, (blk_cell HGP.out 1).trans rfl, (blk_cell HGP.out 2).trans rfl, (blk_cell HGP.out 3).trans rfl, (blk_cell HGP.out 4).trans rfl⟩ (fun hHeld => ?_)
    refine take_ (i := 0) (N := some 18) (v := ?_) (a' := ?_) #[true, false, false, false, false] rfl rfl (by kernel_rfl) (fun _ _ _ h => h) (Or.inl ⟨by rfl, ?_⟩) hHeld ?_ ?_
    rotate_left
    · rintro w' ⟨s0, s1, s2, s3, s4⟩
      go_simp
      with_reducible rfl
    rotate_left
    · simp only [Act.put, List.setIfInBounds_toArray, List.set_cons_zero, List.set_cons_succ, i64_w, i32_w]
      rfl
    refine one_ (i := 1) (N := some 19) #[true, true, false, false, false] rfl rfl (by kernel_rfl) (by decide) (fun K hK => ?_)
    refine goes_ Tryd.func99 (by kernel_rfl) rfl #[] (by rfl) rfl rfl (by simp only [List.map_toArray, List.map_nil]) ?_
    refine (never_calls _).mono ?_
    rintro e w7 ⟨rfl, hb⟩
    refine ⟨_, rfl, ?_⟩
    have h7 := blk_below HGP.out hb
    have HB7 := Lib.hid (HBP.out.trans (below_weaken hb HBP.out.size))
    refine hK.out _ _ ⟨(blk_cell h7 0).trans rfl, (blk_cell h7 1).trans rfl, (blk_cell h7 2).trans rfl, (blk_cell h7 3).trans rfl, (blk_cell h7 4).trans rfl⟩ (fun hHeld => ?_)
    clear hK K
    refine norm_ (a' := ?_) ?_ ?_
    rotate_left
    · show Act.put _ (some 19) _ = _
      simp only [Act.put, List.setIfInBounds_toArray, List.set_cons_zero, List.set_cons_succ, i64_w, i32_w]
      rfl
    refine one_ (i := 2) (N := some 20) #[true, true, true, false, false] rfl rfl (by kernel_rfl) (by decide) (fun K hK => ?_)
    refine goes_ Tryd.func98 (by kernel_rfl) rfl #[.agg #[.slice B0 l0.length d0, .slice B1 l1.length d1, .slice B2 l2.length d2, .map (some mm), .slice B3 (truthsAll l0 l1 l2 []).length d3], .agg #[.func (.func 130) #[] #[]]] (by rfl) rfl rfl (by simp only [List.map_toArray, List.map_cons, List.map_nil]; rfl) ?_
    refine (HWN.out _ HB7.out).mono ?_
    rintro e w8 ⟨rfl, hb8⟩
    refine ⟨_, rfl, ?_⟩
    have h8 := blk_below h7 hb8
    have HB8 := Lib.hid (HB7.out.trans (below_weaken hb8 HB7.out.size))
    refine hK.out _ _ ⟨(blk_cell h8 0).trans rfl, (blk_cell h8 1).trans rfl, (blk_cell h8 2).trans rfl, (blk_cell h8 3).trans rfl, (blk_cell h8 4).trans rfl⟩ (fun hHeld => ?_)
    clear hK K
    refine norm_ (a' := ?_) ?_ ?_
    rotate_left
    · show Act.put _ (some 20) _ = _
      simp only [Act.put, List.setIfInBounds_toArray, List.set_cons_zero, List.set_cons_succ, i64_w, i32_w]
      rfl
    refine pure_ (i := 3) (N := some 6) (v := ?_) (a' := ?_) #[true, true, true, true, false] rfl rfl (by kernel_rfl) (fun _ _ _ h => h) (Or.inl ⟨by rfl, ?_⟩) ?_ ?_
    rotate_left
    · intro w'
      go_simp
      with_reducible rfl
    rotate_left
    · simp only [Act.put, List.setIfInBounds_toArray, List.set_cons_zero, List.set_cons_succ, i64_w, i32_w]
      rfl
    refine pure_ (i := 4) (N := some 7) (v := ?_) (a' := ?_) #[true, true, true, true, true] rfl rfl (by kernel_rfl) (fun _ _ _ h => h) (Or.inl ⟨by rfl, ?_⟩) ?_ ?_
    rotate_left
    · intro w'
      go_simp
      with_reducible rfl
    rotate_left
    · simp only [Act.put, List.setIfInBounds_toArray, List.set_cons_zero, List.set_cons_succ, i64_w, i32_w]
      rfl
    refine done_ (by kernel_rfl) ?_

    have h20 := blk_below HG2.out HB8.out
    have c20 := (blk_cell h20 1).trans rfl
    have HG28 := Lib.hid h20
    have HG8 := Lib.hid h8
    clear h20 h8 h7 hb hb8
    go_wp2
    clear c20
    go_loopg [6, 7, 24] (l1.length) (fun gk v6 v7 v24 wr => ∃ (k : Nat) (s1 s2 : Int), v6 = .int .i64 s1 ∧ v7 = .int .i64 s2 ∧ v24 = .int .i64 k ∧ Aside0 (k + gk = l1.length) ∧ Aside0 (waterBest g l1.length 0 (-1, x0) = waterBest g gk k (s1, s2)) ∧ Aside0 (wr.heap[w6.heap.size]? = some (.cells #[.slice B0 l0.length d0, .slice B1 l1.length d1, .slice B2 l2.length d2, .map (some mm), .slice B3 (truthsAll l0 l1 l2 []).length d3] 107 (0, 0))) ∧ Aside0 (Below w6.heap.size w6 wr))
    case atStart => exact ⟨0, -1, x0, rfl, rfl, rfl, ⟨by omega⟩, ⟨rfl⟩, ⟨HG8.out⟩, ⟨HB8.out⟩⟩
    case round =>
      obtain ⟨k, s1, s2, rfl, rfl, rfl, HK, HS, HG6R, HBR⟩ := hrel
      cases gk with
      | zero =>
        have hge : ¬ k < l1.length := by have := HK.out; omega
        have HR := Lib.hid (HRES.out (s1, s2) HS.out)
        rcases Int.lt_or_le s1 0 with hs | hs
        · go_wp2
          go_ret2
          refine ⟨?_, HB6.out.trans (below_weaken HBR.out HB6.out.size)⟩
          rw [HR.out.1, HR.out.2, wRes_none hs]
          rfl
        · go_wp2
          go_ret2
          refine ⟨?_, HB6.out.trans (below_weaken HBR.out HB6.out.size)⟩
          rw [HR.out.1, HR.out.2, wRes_some hs]
          rfl
      | succ g1 =>
        have hlt : k < l1.length := by have := HK.out; omega
        obtain ⟨x, hx⟩ : ∃ x, x = g (k : Int) := ⟨_, rfl⟩
        have HWO1 : Hid (∀ (W : World) (a : Nat), Below w6.heap.size w6 W → W.cell? ⟨a, 0, none⟩ = some (.int .i64 (k : Int)) → Calls Tryd.prog 98 #[.agg #[.slice B0 l0.length d0, .slice B1 l1.length d1, .slice B2 l2.length d2, .map (some mm), .slice B3 (truthsAll l0 l1 l2 []).length d3], .agg #[.func (.func 131) #[] #[.pointer (some ⟨a, 0, none⟩)]]] W fun e w' => e = .returned (.int .i64 x) ∧ Below W.heap.size W w') := by
          refine Lib.hid fun W a hW hca => ?_
          rw [hx]
          exact HWO.out W a k hW hca
        have HX := Lib.hid hx
        clear hx
        go_upto_region 8 with fail
        have hBP : Below wr.heap.size wr wr.drew := by repeat (first | exact Below.refl _ _ | refine Below.alloc ?_ (by simp <;> omega) _ | refine Below.setCell ?_ (by simp <;> omega) _ | apply Below.drew)
        have HGP := Lib.hid (blk_below HG6R.out hBP)
        have HBP := Lib.hid (HBR.out.trans (below_weaken hBP HBR.out.size))
        clear hBP
        refine start_ (n := 5) (S := fun w' => w'.cell? ⟨w6.heap.size, 0, none⟩ = some (.slice B0 l0.length d0) ∧ w'.cell? ⟨w6.heap.size, 1, none⟩ = some (.slice B1 l1.length d1) ∧ w'.cell? ⟨w6.heap.size, 2, none⟩ = some (.slice B2 l2.length d2) ∧ w'.cell? ⟨w6.heap.size, 3, none⟩ = some (.map (some mm)) ∧ w'.cell? ⟨w6.heap.size, 4, none⟩ = some (.slice B3 (truthsAll l0 l1 l2 []).length d3)) (ds := []) #[false, false, false, false, false] (by kernel_rfl) rfl rfl ⟨(blk_cell HGP.out 0).trans rfl, (blk_cell HGP.out 1).trans rfl, (blk_cell HGP.out 2).trans rfl, (blk_cell HGP.out 3).trans rfl, (blk_cell HGP.out 4).trans rfl⟩ (fun hHeld => ?_)
        refine pure_ (i := 1) (N := some 28) (v := ?_) (a' := ?_) #[false, true, false, false, false] rfl rfl (by kernel_rfl) (fun _ _ _ h => h) (Or.inl ⟨by rfl, ?_⟩) ?_ ?_
        rotate_left
        · intro w'
          go_simp
          with_reducible rfl
        rotate_left
        · simp only [Act.put, List.setIfInBounds_toArray, List.set_cons_zero, List.set_cons_succ, i64_w, i32_w]
          rfl
        refine take_ (i := 0) (N := some 27) (v := ?_) (a' := ?_) #[true, true, false, false, false] rfl rfl (by kernel_rfl) (fun _ _ _ h => h) (Or.inl ⟨by rfl, ?_⟩) hHeld ?_ ?_
        rotate_left
        · rintro w' ⟨s0, s1, s2, s3, s4⟩
          go_simp
          with_reducible rfl
        rotate_left
        · simp only [Act.put, List.setIfInBounds_toArray, List.set_cons_zero, List.set_cons_succ, i64_w, i32_w]
          rfl
        refine one_ (i := 2) (N := some 29) #[true, true, true, false, false] rfl rfl (by kernel_rfl) (by decide) (fun K hK => ?_)
        refine goes_ Tryd.func100 (by kernel_rfl) rfl #[.int .i64 (k : Int)] (by rfl) rfl rfl (by simp only [List.map_toArray, List.map_cons, List.map_nil]; rfl) ?_
        refine (on_calls (k : Int) _).mono ?_
        rintro e w7 ⟨rfl, hb, hcell, _⟩
        refine ⟨_, rfl, ?_⟩
        have h7 := blk_below HGP.out hb
        have HB7 := Lib.hid (HBP.out.trans (below_weaken hb HBP.out.size))
        have HCELL := Lib.hid hcell
        refine hK.out _ _ ⟨(blk_cell h7 0).trans rfl, (blk_cell h7 1).trans rfl, (blk_cell h7 2).trans rfl, (blk_cell h7 3).trans rfl, (blk_cell h7 4).trans rfl⟩ (fun hHeld => ?_)
        clear hK K
        refine norm_ (a' := ?_) ?_ ?_
        rotate_left
        · show Act.put _ (some 29) _ = _
          simp only [Act.put, List.setIfInBounds_toArray, List.set_cons_zero, List.set_cons_succ, i64_w, i32_w]
          rfl
        refine one_ (i := 3) (N := some 30) #[true, true, true, true, false] rfl rfl (by kernel_rfl) (by decide) (fun K hK => ?_)
        refine goes_ Tryd.func98 (by kernel_rfl) rfl #[.agg #[.slice B0 l0.length d0, .slice B1 l1.length d1, .slice B2 l2.length d2, .map (some mm), .slice B3 (truthsAll l0 l1 l2 []).length d3], .agg #[.func (.func 131) #[] #[.pointer (some ⟨wr.drew.heap.size, 0, none⟩)]]] (by rfl) rfl rfl (by simp only [List.map_toArray, List.map_cons, List.map_nil]; rfl) ?_
        refine (HWO1.out _ _ HB7.out HCELL.out).mono ?_
        rintro e w8 ⟨rfl, hb8⟩
        refine ⟨_, rfl, ?_⟩
        have h8 := blk_below h7 hb8
        have HB8 := Lib.hid (HB7.out.trans (below_weaken hb8 HB7.out.size))
        refine hK.out _ _ ⟨(blk_cell h8 0).trans rfl, (blk_cell h8 1).trans rfl, (blk_cell h8 2).trans rfl, (blk_cell h8 3).trans rfl, (blk_cell h8 4).trans rfl⟩ (fun hHeld => ?_)
        clear hK K
        refine norm_ (a' := ?_) ?_ ?_
        rotate_left
        · show Act.put _ (some 30) _ = _
          simp only [Act.put, List.setIfInBounds_toArray, List.set_cons_zero, List.set_cons_succ, i64_w, i32_w]
          rfl
        refine pure_ (i := 4) (N := some 9) (v := ?_) (a' := ?_) #[true, true, true, true, true] rfl rfl (by kernel_rfl) (fun _ _ _ h => h) (Or.inl ⟨by rfl, ?_⟩) ?_ ?_
        rotate_left
        · intro w'
          go_simp
          with_reducible rfl
        rotate_left
        · simp only [Act.put, List.setIfInBounds_toArray, List.set_cons_zero, List.set_cons_succ, i64_w, i32_w]
          rfl
        refine done_ (by kernel_rfl) ?_

        have HG8R := Lib.hid h8
        clear h8 h7 hb hb8 hcell
        rcases Int.lt_or_le s2 x with hs | hs
        · go_wp2
          go_roundg g1
          case measure => omega
          case rel =>
            refine ⟨k + 1, (k : Int), x, rfl, rfl, by go_num, ⟨by have := HK.out; omega⟩, ⟨?_⟩, ⟨HG8R.out⟩, ⟨HB8.out⟩⟩
            rw [HS.out]
            exact waterBest_yes HX.out hs
        · go_wp2
          go_roundg g1
          case measure => omega
          case rel =>
            refine ⟨k + 1, s1, s2, rfl, rfl, by go_num, ⟨by have := HK.out; omega⟩, ⟨?_⟩, ⟨HG8R.out⟩, ⟨HB8.out⟩⟩
            rw [HS.out]
            exact waterBest_no HX.out hs
  · rw [if_neg hz]
    have ht : (code != 0) = true := by simpa using hz
    go_enter Tryd.func36, Tryd.ntmps36
    go_wp2_with fail
    refine (HASK.out _ ?hw).mono ?_
    (case hw => exact by repeat (first | exact Below.refl _ _ | refine Below.alloc ?_ (by simp <;> omega) _ | refine Below.setCell ?_ (by simp <;> omega) _ | apply Below.drew))
    rintro e w6 ⟨v, rfl, hP, hb⟩
    obtain ⟨B0, n0, d0, B1, n1, d1, B2, n2, d2, mp, B3, n3, d3, rfl, hP⟩ := hP
    have HB6 := Lib.hid ((show Below w.heap.size w _ from by repeat (first | exact Below.refl _ _ | refine Below.alloc ?_ (by simp <;> omega) _ | refine Below.setCell ?_ (by simp <;> omega) _ | apply Below.drew)).trans (below_weaken hb (by simp)))
    clear hb hP
    go_wp2
    go_ret2
    exact ⟨rfl, HB6.out.alloc HB6.out.size _⟩
end Go.Proofs.YthgjedagbgmgmaaDoor.Pr
namespace Go.Proofs.YthgjedagbgmgmaaDoor.Pr
open Go.RowKit Go.Proofs.YthgjedagbgmgmaaDoorW.PrintWords Go.Proofs.YthgjedagbgmgmaaDoorW.PrintLast Go.Proofs.YthgjedagbgmgmaaDoorW.PrintMore
set_option linter.unusedVariables false
set_option linter.unusedSimpArgs false
theorem flat_length {α : Type} {enc : α → List Value} {sz : Nat} (h : ∀ x, (enc x).length = sz) (xs : List α) : (xs.flatMap enc).length = xs.length * sz := by
  induction xs with
  | nil => simp
  | cons x xs ih => rw [List.flatMap_cons, List.length_append, ih, h, List.length_cons, Nat.succ_mul]; omega
theorem e43_len (x : S43) : (e43 x).length = 2 := rfl
theorem eI_len (x : Int) : (eI x).length = 1 := rfl
/-- The cells of a row of elements. -/
theorem row_flat {α : Type} {enc : α → List Value} {sz : Nat} (he : ∀ x, (enc x).length = sz) {w : World} {b : Nat} : ∀ (xs : List α) (o : Nat), (∀ i x, xs[i]? = some x → w.rangeAt b (o + i * sz) (enc x)) → ∀ j u, (xs.flatMap enc)[j]? = some u → w.cell? ⟨b, o + j, none⟩ = some u := by
  intro xs
  induction xs with
  | nil => intro o _ j u hj; simp at hj
  | cons x xs ih =>
    intro o h j u hj
    rw [List.flatMap_cons, List.getElem?_append] at hj
    split at hj
    · have := h 0 x rfl j u hj
      rwa [Nat.zero_mul, Nat.add_zero] at this
    · rename_i hlt
      rw [he] at hj hlt
      have := ih (o + sz) (fun i y hy => by
        have := h (i + 1) y (by simpa using hy)
        rwa [Nat.succ_mul, Nat.add_comm (i * sz) sz, ← Nat.add_assoc] at this) (j - sz) u hj
      rwa [show o + sz + (j - sz) = o + j by omega] at this
theorem frow_flat {α : Type} {enc : α → List Value} {sz : Nat} (he : ∀ x, (enc x).length = sz) {w : World} {A : Option Addr} {xs : List α} (h : FRow enc sz w A xs) : ∀ b, A = some b → ∀ j u, (xs.flatMap enc)[j]? = some u → w.cell? (b.add j) = some u := by
  intro b hb j u hj
  rcases h with rfl | ⟨g, o, e, _, hc⟩
  · simp at hj
  · rw [hb] at e
    injection e with e
    subst e
    rw [Addr.add_mid]
    exact row_flat he xs o hc j u hj
theorem frow_own' {α : Type} {enc : α → List Value} {sz : Nat} (he : ∀ x, (enc x).length = sz) (hs : 0 < sz) {W : World} {base : Nat} {e : TypeId} {v : Value} {n : Nat} {T : List α} (h : W.ownsRow base e sz v n (T.flatMap enc)) : n = T.length ∧ ∃ A c, v = .slice A T.length c ∧ FRow enc sz W A T ∧ T.length ≤ c := by
  have hl := flat_length he T
  have hn : n = T.length := by
    have := h.1
    rw [hl] at this
    exact (Nat.eq_of_mul_eq_mul_right hs this).symm
  refine ⟨hn, ?_⟩
  rcases h.2 with ⟨e1, h0⟩ | ⟨g, cap, cur, e1, h1, h2, h3, h4, h5, h6⟩
  · have : T.length = 0 := by omega
    exact ⟨none, 0, by rw [e1, this], .inl (List.length_eq_zero_iff.1 this), by omega⟩
  · refine ⟨some ⟨g, 0, none⟩, cap, by rw [e1, hn], .inr ⟨g, 0, rfl, (Array.getElem?_eq_some_iff.1 h2).1, fun i x hx j v hj => ?_⟩, by omega⟩
    rw [cell_of_row W g _ cur e (0, 0) h2, Nat.zero_add]
    have hf := take_drop_flat (xs := T.map enc) (s := sz) (fun y hy => by obtain ⟨x, _, rfl⟩ := List.mem_map.1 hy; exact he x) i (enc x) (by rw [List.getElem?_map, hx]; rfl) j v hj
    rw [← List.flatMap_def, ← h6] at hf
    rw [List.getElem?_take] at hf
    split at hf
    · simpa using hf
    · simp at hf
theorem frow_at {α : Type} {enc : α → List Value} {sz : Nat} (he : ∀ x, (enc x).length = sz) (hs : 0 < sz) {W : World} {base : Nat} {e : TypeId} {A : Option Addr} {n c m : Nat} {T : List α} (h : W.ownsRow base e sz (.slice A n c) m (T.flatMap enc)) : FRow enc sz W A T := by
  obtain ⟨_, A', c', e1, hF, _⟩ := frow_own' he hs h
  injection e1 with e1 e2 e3
  rw [e1]
  exact hF
theorem nil_none {α : Type} {d : Kd α} {w : World} {A : Option Addr} {xs : List α} (h : Kd.C d w A xs.length xs) (hA : A = none) : xs.length = 0 := by
  by_cases hn : xs.length = 0
  · exact hn
  · obtain ⟨ad, e, _⟩ := h.2.2 (by omega)
    rw [hA] at e
    cases e
/-- Can a look be right? -/
def fitsF (ls : List S92) (ds : List S90) (ks : List S43) (x : S43) : Bool × Int :=
  if askCode ls ds ks (okLook ls.length ds.length x) = 0 then (decide (0 < (truthsAll ls ds (ks ++ [x]) []).length), 0) else (false, askCode ls ds ks (okLook ls.length ds.length x))
theorem inf43 : (Tryd.prog.info? 43).map (fun i => (i.zero, i.size, i.bytes)) = some (some (.agg #[.int .i64 0, .int .i64 0]), 2, 16) := by kernel_rfl
set_option maxHeartbeats 4000000 in
set_option maxRecDepth 100000 in
theorem fits_calls (A0 A1 A2 : Option Addr) (c0 c1 c2 : Nat) (l0 : List S92) (l1 : List S90) (l2 : List S43) (w : World) (hG : GOK w) (hr0 : Kd.C k92 w A0 l0.length l0) (hc0 : l0.length ≤ c0) (hr1 : Kd.C k90 w A1 l1.length l1) (hc1 : l1.length ≤ c1) (hr2 : Kd.C k43 w A2 l2.length l2) (hc2 : l2.length ≤ c2) (lx : S43) :
    Calls Tryd.prog 38 #[.agg #[.slice A0 l0.length c0, .slice A1 l1.length c1, .slice A2 l2.length c2], .agg #[.int .i64 lx.f0, .int .i64 lx.f1]] w fun e w' => e = .returned (.tuple #[.bool (fitsF l0 l1 l2 lx).1, .int .i64 (fitsF l0 l1 l2 lx).2]) ∧ Below w.heap.size w w' := by
  have h0 : (l0.length : Int) ≤ 9223372036854775807 := by have := hr0.2.1; omega
  have h1 : (l1.length : Int) ≤ 9223372036854775807 := by have := hr1.2.1; omega
  have h2 : (l2.length : Int) ≤ 9223372036854775807 := by have := hr2.2.1; omega
  obtain ⟨qd, hqd⟩ : ∃ q, q = okLook l0.length l1.length lx := ⟨_, rfl⟩
  have HASK := Lib.hid (ask_calls A0 A1 A2 c0 c1 c2 l0 l1 l2 w hG hr0 hc0 hr1 hc1 hr2 hc2 h0 h1 h2 qd)
  have HLOOK : Hid (∀ W, Below w.heap.size w W → Calls Tryd.prog 78 #[.agg #[.slice A0 l0.length c0, .slice A1 l1.length c1, .slice A2 l2.length c2], .agg #[.int .i64 lx.f0, .int .i64 lx.f1]] W fun e w' => e = .returned (.bool qd) ∧ Below W.heap.size W w') :=
    Lib.hid fun W hW => by
      rw [hqd]
      exact roll_isLook.calls A0 c0 l0 A1 c1 l1 A2 c2 l2 lx.f0 lx.f1 _ W (Kd.C_below hr0 hW) hc0 (Kd.C_below hr1 hW) hc1 (Kd.C_below hr2 hW) hc2 (isLook_law l0 l1 l2 lx h1)
  have HNONE := Lib.hid (fun h : A2 = none => (show l2.length = 0 ∧ l2.length = 0 from ⟨nil_none hr2 h, nil_none hr2 h⟩))
  have HR0 := Lib.hid (row92 hr0)
  have HR1 := Lib.hid (row90 hr1)
  have HFLAT : Hid (∀ W, Below w.heap.size w W → ∀ b, A2 = some b → ∀ j u, (l2.flatMap e43)[j]? = some u → W.cell? (b.add j) = some u) :=
    Lib.hid fun W hW => frow_flat e43_len ((row43 hr2).below hW)
  have HG := Lib.hid hG
  obtain ⟨i43, hi43, hz0, hz1, hz2⟩ := info_parts inf43
  unfold fitsF
  rw [← hqd]
  have HQD := Lib.hid hqd
  obtain ⟨code, hcode⟩ : ∃ c, c = askCode l0 l1 l2 qd := ⟨_, rfl⟩
  rw [← hcode]
  rw [← hcode] at HASK
  have HCODE := Lib.hid hcode
  clear hG hr0 hr1 hr2 hqd hcode h0 h1 h2
  by_cases hz : code = 0
  · rw [if_pos hz]
    have ht : (code != 0) = false := by simpa using hz
    obtain ⟨hok, _, _⟩ := askCode_zero (HCODE.out.symm.trans hz)
    obtain ⟨o1, o2, o3, o4, o5, o6, o7⟩ := ok_facts hok
    obtain ⟨T, hT⟩ : ∃ T, T = truthsAll l0 l1 (l2 ++ [lx]) [] := ⟨_, rfl⟩
    rw [← hT]
    obtain ⟨q, hq⟩ : ∃ q, q = decide (0 < T.length) := ⟨_, rfl⟩
    rw [← hq]
    have hqi : decide ((0 : Int) < (T.length : Int)) = q := by rw [hq]; exact decide_eq_decide.2 (by omega)
    obtain ⟨n9, hn9⟩ : ∃ n, n = (l2 ++ [lx]).length := ⟨_, rfl⟩
    have HN9 : Hid ((l2 ++ [lx]).length = n9) := Lib.hid hn9.symm
    have HOP : Hid (∀ W A c, Below w.heap.size w W → FRow e43 2 W A (l2 ++ [lx]) → n9 ≤ c → Calls Tryd.prog 75 #[.agg #[.slice A0 l0.length c0, .slice A1 l1.length c1, .slice A n9 c], .slice none 0 0] W fun e W' => ∃ At ct m, e = .returned (.agg #[.slice A0 l0.length c0, .slice A1 l1.length c1, .slice A n9 c, .map (some m), .slice At T.length ct]) ∧ Below W.heap.size W W') :=
      Lib.hid fun W A c hW hr hc => by
        have hll := HN9.out
        have h := (opened_calls A0 A1 A none c0 c1 c 0 l0 l1 (l2 ++ [lx]) [] W (HG.out.below hW) (HR0.out.below hW) (HR1.out.below hW) hr (.inl rfl) hc0 (by rw [hll]; exact hc) (by simp) o1 o2 o3 (by simp; omega) (by simp) o6)
        rw [hll, ← hT] at h
        refine h.mono ?_
        rintro e W' ⟨At, ct, m, rfl, _, _, _, hb⟩
        exact ⟨At, ct, m, rfl, hb⟩
    have hfl : ∀ A c m A' ct W, (Instr.field 107 (.agg #[.slice A0 l0.length c0, .slice A1 l1.length c1, .slice A n9 c, .map (some m), .slice A' T.length ct]) 2).run Tryd.prog W = .ok (.slice A' T.length ct) W := fun _ _ _ _ _ _ => field107 _ _ _ _ _ _ _ _ _ _ _ _ _ _
    have HFL := Lib.hid hfl
    have HQ := Lib.hid hq
    have HQI := Lib.hid hqi
    have HZ := Lib.hid hz
    have hl5 : l2.length ≤ 4 := o5
    clear hT hn9 hq hqi hz hok o1 o2 o3 o4 o5 o6 o7 hfl
    go_enter Tryd.func38, Tryd.ntmps38
    go_upto_region 1 with fail
    obtain ⟨wP, hwP⟩ : ∃ W, W = ((w.alloc (.cells #[.slice A0 l0.length c0, .slice A1 l1.length c1, .slice A2 l2.length c2] 26)).alloc (.cells #[.int .i64 lx.f0, .int .i64 lx.f1] 43)) := ⟨_, rfl⟩
    rw [← hwP]
    have h2_ : wP.heap[w.heap.size]? = some (.cells #[.slice A0 l0.length c0, .slice A1 l1.length c1, .slice A2 l2.length c2] 26 (0, 0)) := by rw [hwP]; exact blk_alloc (blk_new _ _) _
    have h3_ : wP.heap[w.heap.size + 1]? = some (.cells #[.int .i64 lx.f0, .int .i64 lx.f1] 43 (0, 0)) := by rw [hwP]; exact blk_at (w.alloc _) _ _ (by simp)
    have hB_ : Below w.heap.size w wP.drew := by rw [hwP]; exact by repeat (first | exact Below.refl _ _ | refine Below.alloc ?_ (by simp <;> omega) _ | refine Below.setCell ?_ (by simp <;> omega) _ | apply Below.drew)
    clear hwP
    refine start_ (n := 11) (S := fun w' => w'.heap[w.heap.size]? = some (.cells #[.slice A0 l0.length c0, .slice A1 l1.length c1, .slice A2 l2.length c2] 26 (0, 0)) ∧ w'.heap[w.heap.size + 1]? = some (.cells #[.int .i64 lx.f0, .int .i64 lx.f1] 43 (0, 0)) ∧ Below w.heap.size w w' ∧ w'.cell? ⟨w.heap.size, 0, none⟩ = some (.slice A0 l0.length c0) ∧ w'.cell? ⟨w.heap.size, 1, none⟩ = some (.slice A1 l1.length c1) ∧ w'.cell? ⟨w.heap.size, 2, none⟩ = some (.slice A2 l2.length c2) ∧ w'.cell? ⟨w.heap.size + 1, 0, none⟩ = some (.int .i64 lx.f0) ∧ w'.cell? ⟨w.heap.size + 1, 1, none⟩ = some (.int .i64 lx.f1)) (ds := [9]) #[false, false, false, false, false, false, false, false, false, false, false] (by kernel_rfl) rfl rfl ⟨h2_, h3_, hB_, (blk_cell (h2_) 0).trans rfl, (blk_cell (h2_) 1).trans rfl, (blk_cell (h2_) 2).trans rfl, (blk_cell (h3_) 0).trans rfl, (blk_cell (h3_) 1).trans rfl⟩ (fun hHeld => ?_)
    refine take_ (i := 0) (N := some 9) (v := ?_) (a' := ?_) #[true, false, false, false, false, false, false, false, false, false, false] rfl rfl (by kernel_rfl) (fun _ _ _ h => h) (Or.inl ⟨by rfl, ?_⟩) hHeld ?_ ?_
    rotate_left
    · rintro w' ⟨s0, s1, s2, s3, s4, s5, s6, s7⟩
      go_simp
      with_reducible rfl
    rotate_left
    · simp only [Act.put, List.setIfInBounds_toArray, List.set_cons_zero, List.set_cons_succ, i64_w, i32_w]
      rfl
    refine take_ (i := 1) (N := some 10) (v := ?_) (a' := ?_) #[true, true, false, false, false, false, false, false, false, false, false] rfl rfl (by kernel_rfl) (fun _ _ _ h => h) (Or.inl ⟨by rfl, ?_⟩) hHeld ?_ ?_
    rotate_left
    · rintro w' ⟨s0, s1, s2, s3, s4, s5, s6, s7⟩
      go_simp
      with_reducible rfl
    rotate_left
    · simp only [Act.put, List.setIfInBounds_toArray, List.set_cons_zero, List.set_cons_succ, i64_w, i32_w]
      rfl
    refine take_ (i := 2) (N := some 11) (v := ?_) (a' := ?_) #[true, true, true, false, false, false, false, false, false, false, false] rfl rfl (by kernel_rfl) (fun _ _ _ h => h) (Or.inl ⟨by rfl, ?_⟩) hHeld ?_ ?_
    rotate_left
    · rintro w' ⟨s0, s1, s2, s3, s4, s5, s6, s7⟩
      go_simp
      with_reducible rfl
    rotate_left
    · simp only [Act.put, List.setIfInBounds_toArray, List.set_cons_zero, List.set_cons_succ, i64_w, i32_w]
      rfl
    refine join_ (σ := Nat × Value) 2 #[true, true, true, true, true, true, true, true, true, false, false] (fun s => [(12, .bool qd), (13, .tuple #[s.2, .int .i64 code]), (8, .tuple #[s.2, .int .i64 code]), (14, s.2), (15, .int .i64 code), (6, .pointer (some ⟨s.1, 0, none⟩))]) (fun s w' => w'.heap[w.heap.size]? = some (.cells #[.slice A0 l0.length c0, .slice A1 l1.length c1, .slice A2 l2.length c2] 26 (0, 0)) ∧ w'.heap[w.heap.size + 1]? = some (.cells #[.int .i64 lx.f0, .int .i64 lx.f1] 43 (0, 0)) ∧ Below w.heap.size w w' ∧ w'.cell? ⟨w.heap.size, 0, none⟩ = some (.slice A0 l0.length c0) ∧ w'.cell? ⟨w.heap.size, 1, none⟩ = some (.slice A1 l1.length c1) ∧ w'.cell? ⟨w.heap.size, 2, none⟩ = some (.slice A2 l2.length c2) ∧ w'.cell? ⟨w.heap.size + 1, 0, none⟩ = some (.int .i64 lx.f0) ∧ w'.cell? ⟨w.heap.size + 1, 1, none⟩ = some (.int .i64 lx.f1) ∧ w'.heap[s.1]? = some (.cells #[.slice none 0 0, .slice none 0 0, .slice none 0 0, .map none, .slice none 0 0] 107 (0, 0)) ∧ w.heap.size ≤ s.1 ∧ AskP A0 A1 A2 c0 c1 c2 l0 l1 l2 w.heap.size code s.2 w') ?_ ?_
    rotate_left
    · intro hCont
      refine two_ (i := 3) (j := 8) (Ni := some 12) (Nj := some 6) #[true, true, true, true, false, false, false, false, false, false, false] #[true, true, true, false, false, false, false, false, true, false, false] rfl rfl rfl rfl (by kernel_rfl) (by decide) (by decide) (fun K hK => ?_) (fun K hK => ?_)
      · skip
        refine goes_ Tryd.func78 (by kernel_rfl) rfl #[.agg #[.slice A0 l0.length c0, .slice A1 l1.length c1, .slice A2 l2.length c2], .agg #[.int .i64 lx.f0, .int .i64 lx.f1]] (by rfl) rfl rfl (by simp only [List.map_toArray, List.map_cons, List.map_nil]; rfl) ?_
        refine (HLOOK.out _ hHeld.2.2.1).mono ?_
        rintro e w5 ⟨rfl, hb⟩
        refine ⟨_, rfl, ?_⟩
        refine hK.out _ _ ⟨blk_below hHeld.1 hb, blk_below hHeld.2.1 hb, hHeld.2.2.1.trans (below_weaken hb hHeld.2.2.1.size), (blk_cell (blk_below hHeld.1 hb) 0).trans rfl, (blk_cell (blk_below hHeld.1 hb) 1).trans rfl, (blk_cell (blk_below hHeld.1 hb) 2).trans rfl, (blk_cell (blk_below hHeld.2.1 hb) 0).trans rfl, (blk_cell (blk_below hHeld.2.1 hb) 1).trans rfl⟩ (fun hHeld => ?_)
        clear hK K
        refine norm_ (a' := ?_) ?_ ?_
        rotate_left
        · show Act.put _ (some 12) _ = _
          simp only [Act.put, List.setIfInBounds_toArray, List.set_cons_zero, List.set_cons_succ, i64_w, i32_w]
          rfl
        refine two_ (i := 4) (j := 8) (Ni := some 13) (Nj := some 6) #[true, true, true, true, true, false, false, false, false, false, false] #[true, true, true, true, false, false, false, false, true, false, false] rfl rfl rfl rfl (by kernel_rfl) (by decide) (by decide) (fun K hK => ?_) (fun K hK => ?_)
        · skip
          refine goes_ Tryd.func80 (by kernel_rfl) rfl #[.agg #[.slice A0 l0.length c0, .slice A1 l1.length c1, .slice A2 l2.length c2], .bool qd] (by rfl) rfl rfl (by simp only [List.map_toArray, List.map_cons, List.map_nil]; rfl) ?_
          refine (HASK.out _ hHeld.2.2.1).mono ?_
          rintro e w6 ⟨v, rfl, hP, hb⟩
          refine ⟨_, rfl, ?_⟩
          refine hK.out _ _ ⟨blk_below hHeld.1 hb, blk_below hHeld.2.1 hb, hHeld.2.2.1.trans (below_weaken hb hHeld.2.2.1.size), (blk_cell (blk_below hHeld.1 hb) 0).trans rfl, (blk_cell (blk_below hHeld.1 hb) 1).trans rfl, (blk_cell (blk_below hHeld.1 hb) 2).trans rfl, (blk_cell (blk_below hHeld.2.1 hb) 0).trans rfl, (blk_cell (blk_below hHeld.2.1 hb) 1).trans rfl⟩ (fun hHeld => ?_)
          clear hK K
          refine norm_ (a' := ?_) ?_ ?_
          rotate_left
          · show Act.put _ (some 13) _ = _
            simp only [Act.put, List.setIfInBounds_toArray, List.set_cons_zero, List.set_cons_succ, i64_w, i32_w]
            rfl
          refine pure_ (i := 5) (N := some 8) (v := ?_) (a' := ?_) #[true, true, true, true, true, true, false, false, false, false, false] rfl rfl (by kernel_rfl) (fun _ _ _ h => h) (Or.inl ⟨by rfl, ?_⟩) ?_ ?_
          rotate_left
          · intro w'
            go_simp
            with_reducible rfl
          rotate_left
          · simp only [Act.put, List.setIfInBounds_toArray, List.set_cons_zero, List.set_cons_succ, i64_w, i32_w]
            rfl
          refine pure_ (i := 6) (N := some 14) (v := ?_) (a' := ?_) #[true, true, true, true, true, true, true, false, false, false, false] rfl rfl (by kernel_rfl) (fun _ _ _ h => h) (Or.inl ⟨by rfl, ?_⟩) ?_ ?_
          rotate_left
          · intro w'
            go_simp
            with_reducible rfl
          rotate_left
          · simp only [Act.put, List.setIfInBounds_toArray, List.set_cons_zero, List.set_cons_succ, i64_w, i32_w]
            rfl
          refine pure_ (i := 7) (N := some 15) (v := ?_) (a' := ?_) #[true, true, true, true, true, true, true, true, false, false, false] rfl rfl (by kernel_rfl) (fun _ _ _ h => h) (Or.inl ⟨by rfl, ?_⟩) ?_ ?_
          rotate_left
          · intro w'
            go_simp
            with_reducible rfl
          rotate_left
          · simp only [Act.put, List.setIfInBounds_toArray, List.set_cons_zero, List.set_cons_succ, i64_w, i32_w]
            rfl
          refine one_ (i := 8) (N := some 6) #[true, true, true, true, true, true, true, true, true, false, false] rfl rfl (by kernel_rfl) (by decide) (fun K hK => ?_)
          refine value_ (w1 := ?_) (v := ?_) (by rfl) rfl ?_ ?_
          rotate_left 2
          · go_simp
            constructor
            · rfl
            · rfl
          have lz : w.heap.size ≤ (w6).heap.size := hHeld.2.2.1.size
          have hal : Below (w6).heap.size (w6) ((w6).alloc (.cells #[.slice none 0 0, .slice none 0 0, .slice none 0 0, .map none, .slice none 0 0] 107)) := (Below.refl _ _).alloc (Nat.le_refl _) _
          have q8 := blk_new (w6) (.cells #[.slice none 0 0, .slice none 0 0, .slice none 0 0, .map none, .slice none 0 0] 107)
          have hP8 := hP.below hal
          refine hK.out _ _ ⟨blk_below hHeld.1 hal, blk_below hHeld.2.1 hal, hHeld.2.2.1.trans (below_weaken hal hHeld.2.2.1.size), (blk_cell (blk_below hHeld.1 hal) 0).trans rfl, (blk_cell (blk_below hHeld.1 hal) 1).trans rfl, (blk_cell (blk_below hHeld.1 hal) 2).trans rfl, (blk_cell (blk_below hHeld.2.1 hal) 0).trans rfl, (blk_cell (blk_below hHeld.2.1 hal) 1).trans rfl⟩ (fun hHeld => ?_)
          clear hK K
          refine norm_ (a' := ?_) ?_ ?_
          rotate_left
          · show Act.put _ (some 6) _ = _
            simp only [Act.put, List.setIfInBounds_toArray, List.set_cons_zero, List.set_cons_succ, i64_w, i32_w]
            rfl
          exact norm_ (by first | (simp only [putAll, Act.put, List.setIfInBounds_toArray, List.set_cons_zero, List.set_cons_succ]; done) | (simp only [putAll, Act.put, List.setIfInBounds_toArray, List.set_cons_zero, List.set_cons_succ]; rfl)) (hCont (w6.heap.size, v) _ ⟨hHeld.1, hHeld.2.1, hHeld.2.2.1, hHeld.2.2.2.1, hHeld.2.2.2.2.1, hHeld.2.2.2.2.2.1, hHeld.2.2.2.2.2.2.1, hHeld.2.2.2.2.2.2.2, q8, lz, hP8⟩)
        · skip
          refine value_ (w1 := ?_) (v := ?_) (by rfl) rfl ?_ ?_
          rotate_left 2
          · go_simp
            constructor
            · rfl
            · rfl
          have lz : w.heap.size ≤ (w5).heap.size := hHeld.2.2.1.size
          have hal : Below (w5).heap.size (w5) ((w5).alloc (.cells #[.slice none 0 0, .slice none 0 0, .slice none 0 0, .map none, .slice none 0 0] 107)) := (Below.refl _ _).alloc (Nat.le_refl _) _
          have h8_ := blk_new (w5) (.cells #[.slice none 0 0, .slice none 0 0, .slice none 0 0, .map none, .slice none 0 0] 107)
          refine hK.out _ _ ⟨blk_below hHeld.1 hal, blk_below hHeld.2.1 hal, hHeld.2.2.1.trans (below_weaken hal hHeld.2.2.1.size), (blk_cell (blk_below hHeld.1 hal) 0).trans rfl, (blk_cell (blk_below hHeld.1 hal) 1).trans rfl, (blk_cell (blk_below hHeld.1 hal) 2).trans rfl, (blk_cell (blk_below hHeld.2.1 hal) 0).trans rfl, (blk_cell (blk_below hHeld.2.1 hal) 1).trans rfl⟩ (fun hHeld => ?_)
          clear hK K
          refine norm_ (a' := ?_) ?_ ?_
          rotate_left
          · show Act.put _ (some 6) _ = _
            simp only [Act.put, List.setIfInBounds_toArray, List.set_cons_zero, List.set_cons_succ, i64_w, i32_w]
            rfl
          refine one_ (i := 4) (N := some 13) #[true, true, true, true, true, false, false, false, true, false, false] rfl rfl (by kernel_rfl) (by decide) (fun K hK => ?_)
          refine goes_ Tryd.func80 (by kernel_rfl) rfl #[.agg #[.slice A0 l0.length c0, .slice A1 l1.length c1, .slice A2 l2.length c2], .bool qd] (by rfl) rfl rfl (by simp only [List.map_toArray, List.map_cons, List.map_nil]; rfl) ?_
          refine (HASK.out _ hHeld.2.2.1).mono ?_
          rintro e w6 ⟨v, rfl, hP, hb⟩
          refine ⟨_, rfl, ?_⟩
          have q8 := blk_below h8_ hb
          refine hK.out _ _ ⟨blk_below hHeld.1 hb, blk_below hHeld.2.1 hb, hHeld.2.2.1.trans (below_weaken hb hHeld.2.2.1.size), (blk_cell (blk_below hHeld.1 hb) 0).trans rfl, (blk_cell (blk_below hHeld.1 hb) 1).trans rfl, (blk_cell (blk_below hHeld.1 hb) 2).trans rfl, (blk_cell (blk_below hHeld.2.1 hb) 0).trans rfl, (blk_cell (blk_below hHeld.2.1 hb) 1).trans rfl⟩ (fun hHeld => ?_)
          clear hK K
          refine norm_ (a' := ?_) ?_ ?_
          rotate_left
          · show Act.put _ (some 13) _ = _
            simp only [Act.put, List.setIfInBounds_toArray, List.set_cons_zero, List.set_cons_succ, i64_w, i32_w]
            rfl
          refine pure_ (i := 5) (N := some 8) (v := ?_) (a' := ?_) #[true, true, true, true, true, true, false, false, true, false, false] rfl rfl (by kernel_rfl) (fun _ _ _ h => h) (Or.inl ⟨by rfl, ?_⟩) ?_ ?_
          rotate_left
          · intro w'
            go_simp
            with_reducible rfl
          rotate_left
          · simp only [Act.put, List.setIfInBounds_toArray, List.set_cons_zero, List.set_cons_succ, i64_w, i32_w]
            rfl
          refine pure_ (i := 6) (N := some 14) (v := ?_) (a' := ?_) #[true, true, true, true, true, true, true, false, true, false, false] rfl rfl (by kernel_rfl) (fun _ _ _ h => h) (Or.inl ⟨by rfl, ?_⟩) ?_ ?_
          rotate_left
          · intro w'
            go_simp
            with_reducible rfl
          rotate_left
          · simp only [Act.put, List.setIfInBounds_toArray, List.set_cons_zero, List.set_cons_succ, i64_w, i32_w]
            rfl
          refine pure_ (i := 7) (N := some 15) (v := ?_) (a' := ?_) #[true, true, true, true, true, true, true, true, true, false, false] rfl rfl (by kernel_rfl) (fun _ _ _ h => h) (Or.inl ⟨by rfl, ?_⟩) ?_ ?_
          rotate_left
          · intro w'
            go_simp
            with_reducible rfl
          rotate_left
          · simp only [Act.put, List.setIfInBounds_toArray, List.set_cons_zero, List.set_cons_succ, i64_w, i32_w]
            rfl
          exact norm_ (by first | (simp only [putAll, Act.put, List.setIfInBounds_toArray, List.set_cons_zero, List.set_cons_succ]; done) | (simp only [putAll, Act.put, List.setIfInBounds_toArray, List.set_cons_zero, List.set_cons_succ]; rfl)) (hCont (w5.heap.size, v) _ ⟨hHeld.1, hHeld.2.1, hHeld.2.2.1, hHeld.2.2.2.1, hHeld.2.2.2.2.1, hHeld.2.2.2.2.2.1, hHeld.2.2.2.2.2.2.1, hHeld.2.2.2.2.2.2.2, q8, lz, hP⟩)
      · skip
        refine value_ (w1 := ?_) (v := ?_) (by rfl) rfl ?_ ?_
        rotate_left 2
        · go_simp
          constructor
          · rfl
          · rfl
        have lz : w.heap.size ≤ (wP.drew).heap.size := hHeld.2.2.1.size
        have hal : Below (wP.drew).heap.size (wP.drew) ((wP.drew).alloc (.cells #[.slice none 0 0, .slice none 0 0, .slice none 0 0, .map none, .slice none 0 0] 107)) := (Below.refl _ _).alloc (Nat.le_refl _) _
        have h8_ := blk_new (wP.drew) (.cells #[.slice none 0 0, .slice none 0 0, .slice none 0 0, .map none, .slice none 0 0] 107)
        refine hK.out _ _ ⟨blk_below hHeld.1 hal, blk_below hHeld.2.1 hal, hHeld.2.2.1.trans (below_weaken hal hHeld.2.2.1.size), (blk_cell (blk_below hHeld.1 hal) 0).trans rfl, (blk_cell (blk_below hHeld.1 hal) 1).trans rfl, (blk_cell (blk_below hHeld.1 hal) 2).trans rfl, (blk_cell (blk_below hHeld.2.1 hal) 0).trans rfl, (blk_cell (blk_below hHeld.2.1 hal) 1).trans rfl⟩ (fun hHeld => ?_)
        clear hK K
        refine norm_ (a' := ?_) ?_ ?_
        rotate_left
        · show Act.put _ (some 6) _ = _
          simp only [Act.put, List.setIfInBounds_toArray, List.set_cons_zero, List.set_cons_succ, i64_w, i32_w]
          rfl
        refine one_ (i := 3) (N := some 12) #[true, true, true, true, false, false, false, false, true, false, false] rfl rfl (by kernel_rfl) (by decide) (fun K hK => ?_)
        refine goes_ Tryd.func78 (by kernel_rfl) rfl #[.agg #[.slice A0 l0.length c0, .slice A1 l1.length c1, .slice A2 l2.length c2], .agg #[.int .i64 lx.f0, .int .i64 lx.f1]] (by rfl) rfl rfl (by simp only [List.map_toArray, List.map_cons, List.map_nil]; rfl) ?_
        refine (HLOOK.out _ hHeld.2.2.1).mono ?_
        rintro e w5 ⟨rfl, hb⟩
        refine ⟨_, rfl, ?_⟩
        have h8b := blk_below h8_ hb
        refine hK.out _ _ ⟨blk_below hHeld.1 hb, blk_below hHeld.2.1 hb, hHeld.2.2.1.trans (below_weaken hb hHeld.2.2.1.size), (blk_cell (blk_below hHeld.1 hb) 0).trans rfl, (blk_cell (blk_below hHeld.1 hb) 1).trans rfl, (blk_cell (blk_below hHeld.1 hb) 2).trans rfl, (blk_cell (blk_below hHeld.2.1 hb) 0).trans rfl, (blk_cell (blk_below hHeld.2.1 hb) 1).trans rfl⟩ (fun hHeld => ?_)
        clear hK K
        refine norm_ (a' := ?_) ?_ ?_
        rotate_left
        · show Act.put _ (some 12) _ = _
          simp only [Act.put, List.setIfInBounds_toArray, List.set_cons_zero, List.set_cons_succ, i64_w, i32_w]
          rfl
        refine one_ (i := 4) (N := some 13) #[true, true, true, true, true, false, false, false, true, false, false] rfl rfl (by kernel_rfl) (by decide) (fun K hK => ?_)
        refine goes_ Tryd.func80 (by kernel_rfl) rfl #[.agg #[.slice A0 l0.length c0, .slice A1 l1.length c1, .slice A2 l2.length c2], .bool qd] (by rfl) rfl rfl (by simp only [List.map_toArray, List.map_cons, List.map_nil]; rfl) ?_
        refine (HASK.out _ hHeld.2.2.1).mono ?_
        rintro e w6 ⟨v, rfl, hP, hb⟩
        refine ⟨_, rfl, ?_⟩
        have q8 := blk_below h8b hb
        refine hK.out _ _ ⟨blk_below hHeld.1 hb, blk_below hHeld.2.1 hb, hHeld.2.2.1.trans (below_weaken hb hHeld.2.2.1.size), (blk_cell (blk_below hHeld.1 hb) 0).trans rfl, (blk_cell (blk_below hHeld.1 hb) 1).trans rfl, (blk_cell (blk_below hHeld.1 hb) 2).trans rfl, (blk_cell (blk_below hHeld.2.1 hb) 0).trans rfl, (blk_cell (blk_below hHeld.2.1 hb) 1).trans rfl⟩ (fun hHeld => ?_)
        clear hK K
        refine norm_ (a' := ?_) ?_ ?_
        rotate_left
        · show Act.put _ (some 13) _ = _
          simp only [Act.put, List.setIfInBounds_toArray, List.set_cons_zero, List.set_cons_succ, i64_w, i32_w]
          rfl
        refine pure_ (i := 5) (N := some 8) (v := ?_) (a' := ?_) #[true, true, true, true, true, true, false, false, true, false, false] rfl rfl (by kernel_rfl) (fun _ _ _ h => h) (Or.inl ⟨by rfl, ?_⟩) ?_ ?_
        rotate_left
        · intro w'
          go_simp
          with_reducible rfl
        rotate_left
        · simp only [Act.put, List.setIfInBounds_toArray, List.set_cons_zero, List.set_cons_succ, i64_w, i32_w]
          rfl
        refine pure_ (i := 6) (N := some 14) (v := ?_) (a' := ?_) #[true, true, true, true, true, true, true, false, true, false, false] rfl rfl (by kernel_rfl) (fun _ _ _ h => h) (Or.inl ⟨by rfl, ?_⟩) ?_ ?_
        rotate_left
        · intro w'
          go_simp
          with_reducible rfl
        rotate_left
        · simp only [Act.put, List.setIfInBounds_toArray, List.set_cons_zero, List.set_cons_succ, i64_w, i32_w]
          rfl
        refine pure_ (i := 7) (N := some 15) (v := ?_) (a' := ?_) #[true, true, true, true, true, true, true, true, true, false, false] rfl rfl (by kernel_rfl) (fun _ _ _ h => h) (Or.inl ⟨by rfl, ?_⟩) ?_ ?_
        rotate_left
        · intro w'
          go_simp
          with_reducible rfl
        rotate_left
        · simp only [Act.put, List.setIfInBounds_toArray, List.set_cons_zero, List.set_cons_succ, i64_w, i32_w]
          rfl
        exact norm_ (by first | (simp only [putAll, Act.put, List.setIfInBounds_toArray, List.set_cons_zero, List.set_cons_succ]; done) | (simp only [putAll, Act.put, List.setIfInBounds_toArray, List.set_cons_zero, List.set_cons_succ]; rfl)) (hCont (wP.drew.heap.size, v) _ ⟨hHeld.1, hHeld.2.1, hHeld.2.2.1, hHeld.2.2.2.1, hHeld.2.2.2.2.1, hHeld.2.2.2.2.2.1, hHeld.2.2.2.2.2.2.1, hHeld.2.2.2.2.2.2.2, q8, lz, hP⟩)
    rintro ⟨g6, v⟩ w' ⟨s0, s1, s2, s3, s4, s5, s6, s7, h8, hg6, hP⟩
    obtain ⟨B0, n0, d0, B1, n1, d1, B2, n2, d2, mp, B3, n3, d3, rfl, hP⟩ := hP
    have hHeld : w'.heap[w.heap.size]? = some (.cells #[.slice A0 l0.length c0, .slice A1 l1.length c1, .slice A2 l2.length c2] 26 (0, 0)) ∧ w'.heap[w.heap.size + 1]? = some (.cells #[.int .i64 lx.f0, .int .i64 lx.f1] 43 (0, 0)) ∧ Below w.heap.size w w' ∧ w'.cell? ⟨w.heap.size, 0, none⟩ = some (.slice A0 l0.length c0) ∧ w'.cell? ⟨w.heap.size, 1, none⟩ = some (.slice A1 l1.length c1) ∧ w'.cell? ⟨w.heap.size, 2, none⟩ = some (.slice A2 l2.length c2) ∧ w'.cell? ⟨w.heap.size + 1, 0, none⟩ = some (.int .i64 lx.f0) ∧ w'.cell? ⟨w.heap.size + 1, 1, none⟩ = some (.int .i64 lx.f1) := ⟨s0, s1, s2, s3, s4, s5, s6, s7⟩
    have k0 := (blk_cell h8 0).trans rfl
    have k1 := (blk_cell h8 1).trans rfl
    have k2 := (blk_cell h8 2).trans rfl
    have k3 := (blk_cell h8 3).trans rfl
    have k4 := (blk_cell h8 4).trans rfl
    have f0 := blk_frozen h8 0
    have f1 := blk_frozen h8 1
    have f2 := blk_frozen h8 2
    have f3 := blk_frozen h8 3
    have f4 := blk_frozen h8 4
    have l8 := blk_lt h8
    have H8 := Lib.hid h8
    have HP := Lib.hid hP
    have HHE := Lib.hid hHeld
    clear h8 hP s0 s1 s2
    refine norm_ (a' := ?_) ?_ ?_
    rotate_left
    · simp only [putAll, Act.put, List.setIfInBounds_toArray, List.set_cons_zero, List.set_cons_succ]
      rfl
    refine last_ (i := 9) (N := none) #[true, true, true, true, true, true, true, true, true, true, false] rfl rfl (by kernel_rfl) (by decide) (fun K hK => ?_)
    refine skip_ (w1 := ?_) (by rfl) rfl ?_ ?_
    rotate_left
    · go_simp
      rfl
    refine hK.out _ _ ?_
    clear hK K
    refine pure_ (i := 10) (N := some 7) (v := ?_) (a' := ?_) #[true, true, true, true, true, true, true, true, true, true, true] rfl rfl (by kernel_rfl) (fun _ _ _ h => h) (Or.inl ⟨by rfl, ?_⟩) ?_ ?_
    rotate_left
    · intro w'
      go_simp
      with_reducible rfl
    rotate_left
    · simp only [Act.put, List.setIfInBounds_toArray, List.set_cons_zero, List.set_cons_succ, i64_w, i32_w]
      rfl
    refine done_ (by kernel_rfl) ?_

    obtain ⟨u2, u3, uB, _⟩ := HHE.out
    have nb2 : w.heap.size ≠ g6 := fun e => by
      have := H8.out
      rw [← e, u2] at this
      simp at this
    have nb3 : w.heap.size + 1 ≠ g6 := fun e => by
      have := H8.out
      rw [← e, u3] at this
      simp at this
    obtain ⟨W8, hW8⟩ : ∃ W, W = (((((w'.setCell ⟨g6, 0, none⟩ (.slice B0 n0 d0)).setCell ⟨g6, 1, none⟩ (.slice B1 n1 d1)).setCell ⟨g6, 2, none⟩ (.slice B2 n2 d2)).setCell ⟨g6, 3, none⟩ (.map mp)).setCell ⟨g6, 4, none⟩ (.slice B3 n3 d3)) := ⟨_, rfl⟩
    rw [← hW8]
    have h88 : W8.heap[g6]? = some (.cells #[.slice B0 n0 d0, .slice B1 n1 d1, .slice B2 n2 d2, .map mp, .slice B3 n3 d3] 107 (0, 0)) := by rw [hW8]; exact blk_put (blk_set (blk_set (blk_set (blk_set H8.out 0 _) 1 _) 2 _) 3 _) 4 _ rfl
    have hch : Chg (fun k => k = g6) w' W8 := by rw [hW8]; exact (((((Chg.cell (S := fun k => k = g6) w' g6 0 (.slice B0 n0 d0) rfl).trans (Chg.cell _ g6 1 (.slice B1 n1 d1) rfl)).trans (Chg.cell _ g6 2 (.slice B2 n2 d2) rfl)).trans (Chg.cell _ g6 3 (.map mp) rfl)).trans (Chg.cell _ g6 4 (.slice B3 n3 d3) rfl))
    have h82 := (hch.block _ (blk_lt u2) nb2).trans u2
    have h83 := (hch.block _ (blk_lt u3) nb3).trans u3
    have hB8 : Below w.heap.size w W8 := uB.trans ⟨hch.os, hch.tape, hch.output, hch.size, fun k hk => hch.block k (Nat.lt_of_lt_of_le hk uB.size) (by omega)⟩
    have HCH := Lib.hid hch
    have HB8 := Lib.hid hB8
    clear hW8 hch u2 u3 uB HHE k0 k1 k2 k3 k4 f0 f1 f2 f3 f4 l8 s3 s4 s5 s6 s7 hHeld hB8
    have hBD : Below W8.heap.size W8 W8.drew := by repeat (first | exact Below.refl _ _ | refine Below.alloc ?_ (by simp <;> omega) _ | refine Below.setCell ?_ (by simp <;> omega) _ | apply Below.drew)
    have H82D := Lib.hid (blk_below h82 hBD)
    have H83D := Lib.hid (blk_below h83 hBD)
    have HBD := Lib.hid (HB8.out.trans (below_weaken hBD HB8.out.size))
    have d82 := (blk_cell h82 2).trans rfl
    clear h88 hBD
    go_wp2_with fail
    clear d82
    refine start_ (n := 14) (S := fun w' => w'.cell? ⟨w.heap.size, 2, none⟩ = some (.slice A2 l2.length c2) ∧ w'.cell? ⟨w.heap.size + 1, 0, none⟩ = some (.int .i64 lx.f0) ∧ w'.cell? ⟨w.heap.size + 1, 1, none⟩ = some (.int .i64 lx.f1)) (ds := [11, 13]) #[false, false, false, false, false, false, false, false, false, false, false, false, false, false] (by kernel_rfl) rfl rfl ⟨(blk_cell H82D.out 2).trans rfl, (blk_cell H83D.out 0).trans rfl, (blk_cell H83D.out 1).trans rfl⟩ (fun hHeld => ?_)
    refine pure_ (i := 0) (N := some 19) (v := ?_) (a' := ?_) #[true, false, false, false, false, false, false, false, false, false, false, false, false, false] rfl rfl (by kernel_rfl) (fun _ _ _ h => h) (Or.inl ⟨by rfl, ?_⟩) ?_ ?_
    rotate_left
    · intro w'
      go_simp
      with_reducible rfl
    rotate_left
    · simp only [Act.put, List.setIfInBounds_toArray, List.set_cons_zero, List.set_cons_succ, i64_w, i32_w]
      rfl
    refine pure_ (i := 2) (N := some 21) (v := ?_) (a' := ?_) #[true, false, true, false, false, false, false, false, false, false, false, false, false, false] rfl rfl (by kernel_rfl) (fun _ _ _ h => h) (Or.inl ⟨by rfl, ?_⟩) ?_ ?_
    rotate_left
    · intro w'
      go_simp
      with_reducible rfl
    rotate_left
    · simp only [Act.put, List.setIfInBounds_toArray, List.set_cons_zero, List.set_cons_succ, i64_w, i32_w]
      rfl
    refine pure_ (i := 5) (N := some 24) (v := ?_) (a' := ?_) #[true, false, true, false, false, true, false, false, false, false, false, false, false, false] rfl rfl (by kernel_rfl) (fun _ _ _ h => h) (Or.inl ⟨by rfl, ?_⟩) ?_ ?_
    rotate_left
    · intro w'
      go_simp
      with_reducible rfl
    rotate_left
    · simp only [Act.put, List.setIfInBounds_toArray, List.set_cons_zero, List.set_cons_succ, i64_w, i32_w]
      rfl
    refine take_ (i := 1) (N := some 20) (v := ?_) (a' := ?_) #[true, true, true, false, false, true, false, false, false, false, false, false, false, false] rfl rfl (by kernel_rfl) (fun _ _ _ h => h) (Or.inl ⟨by rfl, ?_⟩) hHeld ?_ ?_
    rotate_left
    · rintro w' ⟨s0, s1, s2⟩
      go_simp
      with_reducible rfl
    rotate_left
    · simp only [Act.put, List.setIfInBounds_toArray, List.set_cons_zero, List.set_cons_succ, i64_w, i32_w]
      rfl
    refine take_ (i := 3) (N := some 22) (v := ?_) (a' := ?_) #[true, true, true, true, false, true, false, false, false, false, false, false, false, false] rfl rfl (by kernel_rfl) (fun _ _ _ h => h) (Or.inl ⟨by rfl, ?_⟩) hHeld ?_ ?_
    rotate_left
    · rintro w' ⟨s0, s1, s2⟩
      go_simp
      with_reducible rfl
    rotate_left
    · simp only [Act.put, List.setIfInBounds_toArray, List.set_cons_zero, List.set_cons_succ, i64_w, i32_w]
      rfl
    refine pure_ (i := 4) (N := some 23) (v := ?_) (a' := ?_) #[true, true, true, true, true, true, false, false, false, false, false, false, false, false] rfl rfl (by kernel_rfl) (fun _ _ _ h => h) (Or.inl ⟨by rfl, ?_⟩) ?_ ?_
    rotate_left
    · intro w'
      go_simp
      with_reducible rfl
    rotate_left
    · simp only [Act.put, List.setIfInBounds_toArray, List.set_cons_zero, List.set_cons_succ, i64_w, i32_w]
      rfl
    refine take_ (i := 6) (N := some 25) (v := ?_) (a' := ?_) #[true, true, true, true, true, true, true, false, false, false, false, false, false, false] rfl rfl (by kernel_rfl) (fun _ _ _ h => h) (Or.inl ⟨by rfl, ?_⟩) hHeld ?_ ?_
    rotate_left
    · rintro w' ⟨s0, s1, s2⟩
      go_simp
      with_reducible rfl
    rotate_left
    · simp only [Act.put, List.setIfInBounds_toArray, List.set_cons_zero, List.set_cons_succ, i64_w, i32_w]
      rfl
    refine pure_ (i := 7) (N := some 26) (v := ?_) (a' := ?_) #[true, true, true, true, true, true, true, true, false, false, false, false, false, false] rfl rfl (by kernel_rfl) (fun _ _ _ h => h) (Or.inl ⟨by rfl, ?_⟩) ?_ ?_
    rotate_left
    · intro w'
      go_simp
      with_reducible rfl
    rotate_left
    · simp only [Act.put, List.setIfInBounds_toArray, List.set_cons_zero, List.set_cons_succ, i64_w, i32_w]
      rfl
    refine pure_ (i := 8) (N := some 27) (v := ?_) (a' := ?_) #[true, true, true, true, true, true, true, true, true, false, false, false, false, false] rfl rfl (by kernel_rfl) (fun _ _ _ h => h) (Or.inl ⟨by rfl, ?_⟩) ?_ ?_
    rotate_left
    · intro w'
      go_simp
      with_reducible rfl
    rotate_left
    · simp only [Act.put, List.setIfInBounds_toArray, List.set_cons_zero, List.set_cons_succ, i64_w, i32_w]
      rfl
    refine take_ (i := 9) (N := some 28) (v := ?_) (a' := ?_) #[true, true, true, true, true, true, true, true, true, true, false, false, false, false] rfl rfl (by kernel_rfl) (fun _ _ _ h => h) (Or.inl ⟨by rfl, ?_⟩) hHeld ?_ ?_
    rotate_left
    · rintro w' ⟨s0, s1, s2⟩
      go_simp
      with_reducible rfl
    rotate_left
    · simp only [Act.put, List.setIfInBounds_toArray, List.set_cons_zero, List.set_cons_succ, i64_w, i32_w]
      rfl
    refine one_ (i := 10) (N := some 29) #[true, true, true, true, true, true, true, true, true, true, true, false, false, false] rfl rfl (by kernel_rfl) (by decide) (fun K hK => ?_)
    refine value_ (w1 := ?_) (v := ?_) (by rfl) rfl ?_ ?_
    rotate_left 2
    · go_simp
      constructor
      · rfl
      · rfl
    have h8a := blk_alloc H82D.out (.cells #[.int .i64 lx.f0, .int .i64 lx.f1] 43)
    have h8b := blk_alloc H83D.out (.cells #[.int .i64 lx.f0, .int .i64 lx.f1] 43)
    have hnw := blk_new W8.drew (.cells #[.int .i64 lx.f0, .int .i64 lx.f1] 43)
    have HHA := Lib.hid ((HBD.out.alloc HBD.out.size (.cells #[.int .i64 lx.f0, .int .i64 lx.f1] 43)))
    refine hK.out _ _ ⟨(blk_cell h8a 2).trans rfl, (blk_cell h8b 0).trans rfl, (blk_cell h8b 1).trans rfl⟩ (fun hHeld => ?_)
    clear hK K
    refine norm_ (a' := ?_) ?_ ?_
    rotate_left
    · show Act.put _ (some 29) _ = _
      simp only [Act.put, List.setIfInBounds_toArray, List.set_cons_zero, List.set_cons_succ, i64_w, i32_w]
      rfl
    refine last_ (i := 11) (N := some 30) #[true, true, true, true, true, true, true, true, true, true, true, true, false, false] rfl rfl (by kernel_rfl) (by decide) (fun K hK => ?_)
    refine step_append_grows rfl (.tmp 27) (.tmp 29) 24 (by rfl) 43 i43 _ 2 16 Tryd.underlying24 hi43 hz0 hz1 hz2 rfl (by decide) A2 l2.length l2.length (l2.flatMap e43) (by rfl) HNONE.out (flat_length e43_len l2) (HFLAT.out _ HHA.out) ⟨W8.drew.heap.size, 0, none⟩ 1 1 [.int .i64 lx.f0, .int .i64 lx.f1] (by rfl) rfl ?aC ?aO (by omega) (by unfold maxLen; omega) (by omega) ?_
    (case aC => exact fun j u hj => (cell_add hnw j).trans (by simpa using hj))
    (case aO => exact fun u hu => by simp at hu; rcases hu with rfl | rfl <;> rfl)
    intro v6 w9 ho9 hg9
    have h92 := (hg9.block _ (blk_lt h8a) (by simp)).trans h8a
    rw [show l2.flatMap e43 ++ [.int .i64 lx.f0, .int .i64 lx.f1] = (l2 ++ [lx]).flatMap e43 by simp [e43]] at ho9
    obtain ⟨_, A9, c9, ev, _, hc9⟩ := frow_own' e43_len (by decide) ho9
    rw [HN9.out] at ev hc9
    subst ev
    have HC9 := Lib.hid hc9
    clear hc9
    have HB9 := Lib.hid (HHA.out.grown hg9 (by have := HHA.out.size; omega) (fun j ej => by simp at ej))
    have HO9 := Lib.hid ho9
    have H92 := Lib.hid h92
    have l92 := blk_lt h92
    have c92 := (blk_cell h92 2).trans rfl
    have f92 := blk_frozen h92 2
    clear ho9 hg9 h92 h8a h8b hnw
    refine hK.out _ _ ?_
    clear hK K
    refine norm_ (a' := ?_) ?_ ?_
    rotate_left
    · show Act.put _ (some 30) _ = _
      simp only [Act.put, List.setIfInBounds_toArray, List.set_cons_zero, List.set_cons_succ, i64_w, i32_w]
      rfl
    refine pure_ (i := 12) (N := some 31) (v := ?_) (a' := ?_) #[true, true, true, true, true, true, true, true, true, true, true, true, true, false] rfl rfl (by kernel_rfl) (fun _ _ _ h => h) (Or.inl ⟨by rfl, ?_⟩) ?_ ?_
    rotate_left
    · intro w'
      go_simp
      with_reducible rfl
    rotate_left
    · simp only [Act.put, List.setIfInBounds_toArray, List.set_cons_zero, List.set_cons_succ, i64_w, i32_w]
      rfl
    refine last_ (i := 13) (N := none) #[true, true, true, true, true, true, true, true, true, true, true, true, true, true] rfl rfl (by kernel_rfl) (by decide) (fun K hK => ?_)
    refine skip_ (w1 := ?_) (by rfl) rfl ?_ ?_
    rotate_left
    · go_simp
      rfl
    refine hK.out _ _ ?_
    clear hK K
    refine done_ (by kernel_rfl) ?_

    have c90 := (blk_cell H92.out 0).trans rfl
    have c91 := (blk_cell H92.out 1).trans rfl
    have hqi := HQI.out
    have hfl := HFL.out
    have hbs : Below w.heap.size w (w9.setCell ⟨w.heap.size, 2, none⟩ (.slice A9 n9 c9)) := HB9.out.setCell (by simp) _
    have hos := own_same (W' := w9.setCell ⟨w.heap.size, 2, none⟩ (.slice A9 n9 c9)) HO9.out (fun k hk => Below.heap_setCell _ _ _ k (fun e => row_ne H92.out (by decide) HO9.out (by rw [hk, e])))
    have hrs := frow_at e43_len (by decide) hos
    have HOPS := Lib.hid (HOP.out _ A9 c9 hbs hrs HC9.out)
    have HBS := Lib.hid hbs
    clear hbs hos hrs
    go_wp2_with (go_at_call 75; refine HOPS.out.mono ?_; rintro e w3 ⟨At, ct, m, rfl, hB3⟩)
    go_ret2
    exact ⟨by rw [HQ.out]; rfl, HBS.out.trans (below_weaken hB3 HBS.out.size)⟩
  · rw [if_neg hz]
    have ht : (code != 0) = true := by simpa using hz
    go_enter Tryd.func38, Tryd.ntmps38
    go_upto_region 1 with fail
    obtain ⟨wP, hwP⟩ : ∃ W, W = ((w.alloc (.cells #[.slice A0 l0.length c0, .slice A1 l1.length c1, .slice A2 l2.length c2] 26)).alloc (.cells #[.int .i64 lx.f0, .int .i64 lx.f1] 43)) := ⟨_, rfl⟩
    rw [← hwP]
    have h2_ : wP.heap[w.heap.size]? = some (.cells #[.slice A0 l0.length c0, .slice A1 l1.length c1, .slice A2 l2.length c2] 26 (0, 0)) := by rw [hwP]; exact blk_alloc (blk_new _ _) _
    have h3_ : wP.heap[w.heap.size + 1]? = some (.cells #[.int .i64 lx.f0, .int .i64 lx.f1] 43 (0, 0)) := by rw [hwP]; exact blk_at (w.alloc _) _ _ (by simp)
    have hB_ : Below w.heap.size w wP.drew := by rw [hwP]; exact by repeat (first | exact Below.refl _ _ | refine Below.alloc ?_ (by simp <;> omega) _ | refine Below.setCell ?_ (by simp <;> omega) _ | apply Below.drew)
    clear hwP
    refine start_ (n := 11) (S := fun w' => w'.heap[w.heap.size]? = some (.cells #[.slice A0 l0.length c0, .slice A1 l1.length c1, .slice A2 l2.length c2] 26 (0, 0)) ∧ w'.heap[w.heap.size + 1]? = some (.cells #[.int .i64 lx.f0, .int .i64 lx.f1] 43 (0, 0)) ∧ Below w.heap.size w w' ∧ w'.cell? ⟨w.heap.size, 0, none⟩ = some (.slice A0 l0.length c0) ∧ w'.cell? ⟨w.heap.size, 1, none⟩ = some (.slice A1 l1.length c1) ∧ w'.cell? ⟨w.heap.size, 2, none⟩ = some (.slice A2 l2.length c2) ∧ w'.cell? ⟨w.heap.size + 1, 0, none⟩ = some (.int .i64 lx.f0) ∧ w'.cell? ⟨w.heap.size + 1, 1, none⟩ = some (.int .i64 lx.f1)) (ds := [9]) #[false, false, false, false, false, false, false, false, false, false, false] (by kernel_rfl) rfl rfl ⟨h2_, h3_, hB_, (blk_cell (h2_) 0).trans rfl, (blk_cell (h2_) 1).trans rfl, (blk_cell (h2_) 2).trans rfl, (blk_cell (h3_) 0).trans rfl, (blk_cell (h3_) 1).trans rfl⟩ (fun hHeld => ?_)
    refine take_ (i := 0) (N := some 9) (v := ?_) (a' := ?_) #[true, false, false, false, false, false, false, false, false, false, false] rfl rfl (by kernel_rfl) (fun _ _ _ h => h) (Or.inl ⟨by rfl, ?_⟩) hHeld ?_ ?_
    rotate_left
    · rintro w' ⟨s0, s1, s2, s3, s4, s5, s6, s7⟩
      go_simp
      with_reducible rfl
    rotate_left
    · simp only [Act.put, List.setIfInBounds_toArray, List.set_cons_zero, List.set_cons_succ, i64_w, i32_w]
      rfl
    refine take_ (i := 1) (N := some 10) (v := ?_) (a' := ?_) #[true, true, false, false, false, false, false, false, false, false, false] rfl rfl (by kernel_rfl) (fun _ _ _ h => h) (Or.inl ⟨by rfl, ?_⟩) hHeld ?_ ?_
    rotate_left
    · rintro w' ⟨s0, s1, s2, s3, s4, s5, s6, s7⟩
      go_simp
      with_reducible rfl
    rotate_left
    · simp only [Act.put, List.setIfInBounds_toArray, List.set_cons_zero, List.set_cons_succ, i64_w, i32_w]
      rfl
    refine take_ (i := 2) (N := some 11) (v := ?_) (a' := ?_) #[true, true, true, false, false, false, false, false, false, false, false] rfl rfl (by kernel_rfl) (fun _ _ _ h => h) (Or.inl ⟨by rfl, ?_⟩) hHeld ?_ ?_
    rotate_left
    · rintro w' ⟨s0, s1, s2, s3, s4, s5, s6, s7⟩
      go_simp
      with_reducible rfl
    rotate_left
    · simp only [Act.put, List.setIfInBounds_toArray, List.set_cons_zero, List.set_cons_succ, i64_w, i32_w]
      rfl
    refine join_ (σ := Nat × Value) 2 #[true, true, true, true, true, true, true, true, true, false, false] (fun s => [(12, .bool qd), (13, .tuple #[s.2, .int .i64 code]), (8, .tuple #[s.2, .int .i64 code]), (14, s.2), (15, .int .i64 code), (6, .pointer (some ⟨s.1, 0, none⟩))]) (fun s w' => w'.heap[w.heap.size]? = some (.cells #[.slice A0 l0.length c0, .slice A1 l1.length c1, .slice A2 l2.length c2] 26 (0, 0)) ∧ w'.heap[w.heap.size + 1]? = some (.cells #[.int .i64 lx.f0, .int .i64 lx.f1] 43 (0, 0)) ∧ Below w.heap.size w w' ∧ w'.cell? ⟨w.heap.size, 0, none⟩ = some (.slice A0 l0.length c0) ∧ w'.cell? ⟨w.heap.size, 1, none⟩ = some (.slice A1 l1.length c1) ∧ w'.cell? ⟨w.heap.size, 2, none⟩ = some (.slice A2 l2.length c2) ∧ w'.cell? ⟨w.heap.size + 1, 0, none⟩ = some (.int .i64 lx.f0) ∧ w'.cell? ⟨w.heap.size + 1, 1, none⟩ = some (.int .i64 lx.f1) ∧ w'.heap[s.1]? = some (.cells #[.slice none 0 0, .slice none 0 0, .slice none 0 0, .map none, .slice none 0 0] 107 (0, 0)) ∧ w.heap.size ≤ s.1 ∧ AskP A0 A1 A2 c0 c1 c2 l0 l1 l2 w.heap.size code s.2 w') ?_ ?_
    rotate_left
    · intro hCont
      refine two_ (i := 3) (j := 8) (Ni := some 12) (Nj := some 6) #[true, true, true, true, false, false, false, false, false, false, false] #[true, true, true, false, false, false, false, false, true, false, false] rfl rfl rfl rfl (by kernel_rfl) (by decide) (by decide) (fun K hK => ?_) (fun K hK => ?_)
      · skip
        refine goes_ Tryd.func78 (by kernel_rfl) rfl #[.agg #[.slice A0 l0.length c0, .slice A1 l1.length c1, .slice A2 l2.length c2], .agg #[.int .i64 lx.f0, .int .i64 lx.f1]] (by rfl) rfl rfl (by simp only [List.map_toArray, List.map_cons, List.map_nil]; rfl) ?_
        refine (HLOOK.out _ hHeld.2.2.1).mono ?_
        rintro e w5 ⟨rfl, hb⟩
        refine ⟨_, rfl, ?_⟩
        refine hK.out _ _ ⟨blk_below hHeld.1 hb, blk_below hHeld.2.1 hb, hHeld.2.2.1.trans (below_weaken hb hHeld.2.2.1.size), (blk_cell (blk_below hHeld.1 hb) 0).trans rfl, (blk_cell (blk_below hHeld.1 hb) 1).trans rfl, (blk_cell (blk_below hHeld.1 hb) 2).trans rfl, (blk_cell (blk_below hHeld.2.1 hb) 0).trans rfl, (blk_cell (blk_below hHeld.2.1 hb) 1).trans rfl⟩ (fun hHeld => ?_)
        clear hK K
        refine norm_ (a' := ?_) ?_ ?_
        rotate_left
        · show Act.put _ (some 12) _ = _
          simp only [Act.put, List.setIfInBounds_toArray, List.set_cons_zero, List.set_cons_succ, i64_w, i32_w]
          rfl
        refine two_ (i := 4) (j := 8) (Ni := some 13) (Nj := some 6) #[true, true, true, true, true, false, false, false, false, false, false] #[true, true, true, true, false, false, false, false, true, false, false] rfl rfl rfl rfl (by kernel_rfl) (by decide) (by decide) (fun K hK => ?_) (fun K hK => ?_)
        · skip
          refine goes_ Tryd.func80 (by kernel_rfl) rfl #[.agg #[.slice A0 l0.length c0, .slice A1 l1.length c1, .slice A2 l2.length c2], .bool qd] (by rfl) rfl rfl (by simp only [List.map_toArray, List.map_cons, List.map_nil]; rfl) ?_
          refine (HASK.out _ hHeld.2.2.1).mono ?_
          rintro e w6 ⟨v, rfl, hP, hb⟩
          refine ⟨_, rfl, ?_⟩
          refine hK.out _ _ ⟨blk_below hHeld.1 hb, blk_below hHeld.2.1 hb, hHeld.2.2.1.trans (below_weaken hb hHeld.2.2.1.size), (blk_cell (blk_below hHeld.1 hb) 0).trans rfl, (blk_cell (blk_below hHeld.1 hb) 1).trans rfl, (blk_cell (blk_below hHeld.1 hb) 2).trans rfl, (blk_cell (blk_below hHeld.2.1 hb) 0).trans rfl, (blk_cell (blk_below hHeld.2.1 hb) 1).trans rfl⟩ (fun hHeld => ?_)
          clear hK K
          refine norm_ (a' := ?_) ?_ ?_
          rotate_left
          · show Act.put _ (some 13) _ = _
            simp only [Act.put, List.setIfInBounds_toArray, List.set_cons_zero, List.set_cons_succ, i64_w, i32_w]
            rfl
          refine pure_ (i := 5) (N := some 8) (v := ?_) (a' := ?_) #[true, true, true, true, true, true, false, false, false, false, false] rfl rfl (by kernel_rfl) (fun _ _ _ h => h) (Or.inl ⟨by rfl, ?_⟩) ?_ ?_
          rotate_left
          · intro w'
            go_simp
            with_reducible rfl
          rotate_left
          · simp only [Act.put, List.setIfInBounds_toArray, List.set_cons_zero, List.set_cons_succ, i64_w, i32_w]
            rfl
          refine pure_ (i := 6) (N := some 14) (v := ?_) (a' := ?_) #[true, true, true, true, true, true, true, false, false, false, false] rfl rfl (by kernel_rfl) (fun _ _ _ h => h) (Or.inl ⟨by rfl, ?_⟩) ?_ ?_
          rotate_left
          · intro w'
            go_simp
            with_reducible rfl
          rotate_left
          · simp only [Act.put, List.setIfInBounds_toArray, List.set_cons_zero, List.set_cons_succ, i64_w, i32_w]
            rfl
          refine pure_ (i := 7) (N := some 15) (v := ?_) (a' := ?_) #[true, true, true, true, true, true, true, true, false, false, false] rfl rfl (by kernel_rfl) (fun _ _ _ h => h) (Or.inl ⟨by rfl, ?_⟩) ?_ ?_
          rotate_left
          · intro w'
            go_simp
            with_reducible rfl
          rotate_left
          · simp only [Act.put, List.setIfInBounds_toArray, List.set_cons_zero, List.set_cons_succ, i64_w, i32_w]
            rfl
          refine one_ (i := 8) (N := some 6) #[true, true, true, true, true, true, true, true, true, false, false] rfl rfl (by kernel_rfl) (by decide) (fun K hK => ?_)
          refine value_ (w1 := ?_) (v := ?_) (by rfl) rfl ?_ ?_
          rotate_left 2
          · go_simp
            constructor
            · rfl
            · rfl
          have lz : w.heap.size ≤ (w6).heap.size := hHeld.2.2.1.size
          have hal : Below (w6).heap.size (w6) ((w6).alloc (.cells #[.slice none 0 0, .slice none 0 0, .slice none 0 0, .map none, .slice none 0 0] 107)) := (Below.refl _ _).alloc (Nat.le_refl _) _
          have q8 := blk_new (w6) (.cells #[.slice none 0 0, .slice none 0 0, .slice none 0 0, .map none, .slice none 0 0] 107)
          have hP8 := hP.below hal
          refine hK.out _ _ ⟨blk_below hHeld.1 hal, blk_below hHeld.2.1 hal, hHeld.2.2.1.trans (below_weaken hal hHeld.2.2.1.size), (blk_cell (blk_below hHeld.1 hal) 0).trans rfl, (blk_cell (blk_below hHeld.1 hal) 1).trans rfl, (blk_cell (blk_below hHeld.1 hal) 2).trans rfl, (blk_cell (blk_below hHeld.2.1 hal) 0).trans rfl, (blk_cell (blk_below hHeld.2.1 hal) 1).trans rfl⟩ (fun hHeld => ?_)
          clear hK K
          refine norm_ (a' := ?_) ?_ ?_
          rotate_left
          · show Act.put _ (some 6) _ = _
            simp only [Act.put, List.setIfInBounds_toArray, List.set_cons_zero, List.set_cons_succ, i64_w, i32_w]
            rfl
          exact norm_ (by first | (simp only [putAll, Act.put, List.setIfInBounds_toArray, List.set_cons_zero, List.set_cons_succ]; done) | (simp only [putAll, Act.put, List.setIfInBounds_toArray, List.set_cons_zero, List.set_cons_succ]; rfl)) (hCont (w6.heap.size, v) _ ⟨hHeld.1, hHeld.2.1, hHeld.2.2.1, hHeld.2.2.2.1, hHeld.2.2.2.2.1, hHeld.2.2.2.2.2.1, hHeld.2.2.2.2.2.2.1, hHeld.2.2.2.2.2.2.2, q8, lz, hP8⟩)
        · skip
          refine value_ (w1 := ?_) (v := ?_) (by rfl) rfl ?_ ?_
          rotate_left 2
          · go_simp
            constructor
            · rfl
            · rfl
          have lz : w.heap.size ≤ (w5).heap.size := hHeld.2.2.1.size
          have hal : Below (w5).heap.size (w5) ((w5).alloc (.cells #[.slice none 0 0, .slice none 0 0, .slice none 0 0, .map none, .slice none 0 0] 107)) := (Below.refl _ _).alloc (Nat.le_refl _) _
          have h8_ := blk_new (w5) (.cells #[.slice none 0 0, .slice none 0 0, .slice none 0 0, .map none, .slice none 0 0] 107)
          refine hK.out _ _ ⟨blk_below hHeld.1 hal, blk_below hHeld.2.1 hal, hHeld.2.2.1.trans (below_weaken hal hHeld.2.2.1.size), (blk_cell (blk_below hHeld.1 hal) 0).trans rfl, (blk_cell (blk_below hHeld.1 hal) 1).trans rfl, (blk_cell (blk_below hHeld.1 hal) 2).trans rfl, (blk_cell (blk_below hHeld.2.1 hal) 0).trans rfl, (blk_cell (blk_below hHeld.2.1 hal) 1).trans rfl⟩ (fun hHeld => ?_)
          clear hK K
          refine norm_ (a' := ?_) ?_ ?_
          rotate_left
          · show Act.put _ (some 6) _ = _
            simp only [Act.put, List.setIfInBounds_toArray, List.set_cons_zero, List.set_cons_succ, i64_w, i32_w]
            rfl
          refine one_ (i := 4) (N := some 13) #[true, true, true, true, true, false, false, false, true, false, false] rfl rfl (by kernel_rfl) (by decide) (fun K hK => ?_)
          refine goes_ Tryd.func80 (by kernel_rfl) rfl #[.agg #[.slice A0 l0.length c0, .slice A1 l1.length c1, .slice A2 l2.length c2], .bool qd] (by rfl) rfl rfl (by simp only [List.map_toArray, List.map_cons, List.map_nil]; rfl) ?_
          refine (HASK.out _ hHeld.2.2.1).mono ?_
          rintro e w6 ⟨v, rfl, hP, hb⟩
          refine ⟨_, rfl, ?_⟩
          have q8 := blk_below h8_ hb
          refine hK.out _ _ ⟨blk_below hHeld.1 hb, blk_below hHeld.2.1 hb, hHeld.2.2.1.trans (below_weaken hb hHeld.2.2.1.size), (blk_cell (blk_below hHeld.1 hb) 0).trans rfl, (blk_cell (blk_below hHeld.1 hb) 1).trans rfl, (blk_cell (blk_below hHeld.1 hb) 2).trans rfl, (blk_cell (blk_below hHeld.2.1 hb) 0).trans rfl, (blk_cell (blk_below hHeld.2.1 hb) 1).trans rfl⟩ (fun hHeld => ?_)
          clear hK K
          refine norm_ (a' := ?_) ?_ ?_
          rotate_left
          · show Act.put _ (some 13) _ = _
            simp only [Act.put, List.setIfInBounds_toArray, List.set_cons_zero, List.set_cons_succ, i64_w, i32_w]
            rfl
          refine pure_ (i := 5) (N := some 8) (v := ?_) (a' := ?_) #[true, true, true, true, true, true, false, false, true, false, false] rfl rfl (by kernel_rfl) (fun _ _ _ h => h) (Or.inl ⟨by rfl, ?_⟩) ?_ ?_
          rotate_left
          · intro w'
            go_simp
            with_reducible rfl
          rotate_left
          · simp only [Act.put, List.setIfInBounds_toArray, List.set_cons_zero, List.set_cons_succ, i64_w, i32_w]
            rfl
          refine pure_ (i := 6) (N := some 14) (v := ?_) (a' := ?_) #[true, true, true, true, true, true, true, false, true, false, false] rfl rfl (by kernel_rfl) (fun _ _ _ h => h) (Or.inl ⟨by rfl, ?_⟩) ?_ ?_
          rotate_left
          · intro w'
            go_simp
            with_reducible rfl
          rotate_left
          · simp only [Act.put, List.setIfInBounds_toArray, List.set_cons_zero, List.set_cons_succ, i64_w, i32_w]
            rfl
          refine pure_ (i := 7) (N := some 15) (v := ?_) (a' := ?_) #[true, true, true, true, true, true, true, true, true, false, false] rfl rfl (by kernel_rfl) (fun _ _ _ h => h) (Or.inl ⟨by rfl, ?_⟩) ?_ ?_
          rotate_left
          · intro w'
            go_simp
            with_reducible rfl
          rotate_left
          · simp only [Act.put, List.setIfInBounds_toArray, List.set_cons_zero, List.set_cons_succ, i64_w, i32_w]
            rfl
          exact norm_ (by first | (simp only [putAll, Act.put, List.setIfInBounds_toArray, List.set_cons_zero, List.set_cons_succ]; done) | (simp only [putAll, Act.put, List.setIfInBounds_toArray, List.set_cons_zero, List.set_cons_succ]; rfl)) (hCont (w5.heap.size, v) _ ⟨hHeld.1, hHeld.2.1, hHeld.2.2.1, hHeld.2.2.2.1, hHeld.2.2.2.2.1, hHeld.2.2.2.2.2.1, hHeld.2.2.2.2.2.2.1, hHeld.2.2.2.2.2.2.2, q8, lz, hP⟩)
      · skip
        refine value_ (w1 := ?_) (v := ?_) (by rfl) rfl ?_ ?_
        rotate_left 2
        · go_simp
          constructor
          · rfl
          · rfl
        have lz : w.heap.size ≤ (wP.drew).heap.size := hHeld.2.2.1.size
        have hal : Below (wP.drew).heap.size (wP.drew) ((wP.drew).alloc (.cells #[.slice none 0 0, .slice none 0 0, .slice none 0 0, .map none, .slice none 0 0] 107)) := (Below.refl _ _).alloc (Nat.le_refl _) _
        have h8_ := blk_new (wP.drew) (.cells #[.slice none 0 0, .slice none 0 0, .slice none 0 0, .map none, .slice none 0 0] 107)
        refine hK.out _ _ ⟨blk_below hHeld.1 hal, blk_below hHeld.2.1 hal, hHeld.2.2.1.trans (below_weaken hal hHeld.2.2.1.size), (blk_cell (blk_below hHeld.1 hal) 0).trans rfl, (blk_cell (blk_below hHeld.1 hal) 1).trans rfl, (blk_cell (blk_below hHeld.1 hal) 2).trans rfl, (blk_cell (blk_below hHeld.2.1 hal) 0).trans rfl, (blk_cell (blk_below hHeld.2.1 hal) 1).trans rfl⟩ (fun hHeld => ?_)
        clear hK K
        refine norm_ (a' := ?_) ?_ ?_
        rotate_left
        · show Act.put _ (some 6) _ = _
          simp only [Act.put, List.setIfInBounds_toArray, List.set_cons_zero, List.set_cons_succ, i64_w, i32_w]
          rfl
        refine one_ (i := 3) (N := some 12) #[true, true, true, true, false, false, false, false, true, false, false] rfl rfl (by kernel_rfl) (by decide) (fun K hK => ?_)
        refine goes_ Tryd.func78 (by kernel_rfl) rfl #[.agg #[.slice A0 l0.length c0, .slice A1 l1.length c1, .slice A2 l2.length c2], .agg #[.int .i64 lx.f0, .int .i64 lx.f1]] (by rfl) rfl rfl (by simp only [List.map_toArray, List.map_cons, List.map_nil]; rfl) ?_
        refine (HLOOK.out _ hHeld.2.2.1).mono ?_
        rintro e w5 ⟨rfl, hb⟩
        refine ⟨_, rfl, ?_⟩
        have h8b := blk_below h8_ hb
        refine hK.out _ _ ⟨blk_below hHeld.1 hb, blk_below hHeld.2.1 hb, hHeld.2.2.1.trans (below_weaken hb hHeld.2.2.1.size), (blk_cell (blk_below hHeld.1 hb) 0).trans rfl, (blk_cell (blk_below hHeld.1 hb) 1).trans rfl, (blk_cell (blk_below hHeld.1 hb) 2).trans rfl, (blk_cell (blk_below hHeld.2.1 hb) 0).trans rfl, (blk_cell (blk_below hHeld.2.1 hb) 1).trans rfl⟩ (fun hHeld => ?_)
        clear hK K
        refine norm_ (a' := ?_) ?_ ?_
        rotate_left
        · show Act.put _ (some 12) _ = _
          simp only [Act.put, List.setIfInBounds_toArray, List.set_cons_zero, List.set_cons_succ, i64_w, i32_w]
          rfl
        refine one_ (i := 4) (N := some 13) #[true, true, true, true, true, false, false, false, true, false, false] rfl rfl (by kernel_rfl) (by decide) (fun K hK => ?_)
        refine goes_ Tryd.func80 (by kernel_rfl) rfl #[.agg #[.slice A0 l0.length c0, .slice A1 l1.length c1, .slice A2 l2.length c2], .bool qd] (by rfl) rfl rfl (by simp only [List.map_toArray, List.map_cons, List.map_nil]; rfl) ?_
        refine (HASK.out _ hHeld.2.2.1).mono ?_
        rintro e w6 ⟨v, rfl, hP, hb⟩
        refine ⟨_, rfl, ?_⟩
        have q8 := blk_below h8b hb
        refine hK.out _ _ ⟨blk_below hHeld.1 hb, blk_below hHeld.2.1 hb, hHeld.2.2.1.trans (below_weaken hb hHeld.2.2.1.size), (blk_cell (blk_below hHeld.1 hb) 0).trans rfl, (blk_cell (blk_below hHeld.1 hb) 1).trans rfl, (blk_cell (blk_below hHeld.1 hb) 2).trans rfl, (blk_cell (blk_below hHeld.2.1 hb) 0).trans rfl, (blk_cell (blk_below hHeld.2.1 hb) 1).trans rfl⟩ (fun hHeld => ?_)
        clear hK K
        refine norm_ (a' := ?_) ?_ ?_
        rotate_left
        · show Act.put _ (some 13) _ = _
          simp only [Act.put, List.setIfInBounds_toArray, List.set_cons_zero, List.set_cons_succ, i64_w, i32_w]
          rfl
        refine pure_ (i := 5) (N := some 8) (v := ?_) (a' := ?_) #[true, true, true, true, true, true, false, false, true, false, false] rfl rfl (by kernel_rfl) (fun _ _ _ h => h) (Or.inl ⟨by rfl, ?_⟩) ?_ ?_
        rotate_left
        · intro w'
          go_simp
          with_reducible rfl
        rotate_left
        · simp only [Act.put, List.setIfInBounds_toArray, List.set_cons_zero, List.set_cons_succ, i64_w, i32_w]
          rfl
        refine pure_ (i := 6) (N := some 14) (v := ?_) (a' := ?_) #[true, true, true, true, true, true, true, false, true, false, false] rfl rfl (by kernel_rfl) (fun _ _ _ h => h) (Or.inl ⟨by rfl, ?_⟩) ?_ ?_
        rotate_left
        · intro w'
          go_simp
          with_reducible rfl
        rotate_left
        · simp only [Act.put, List.setIfInBounds_toArray, List.set_cons_zero, List.set_cons_succ, i64_w, i32_w]
          rfl
        refine pure_ (i := 7) (N := some 15) (v := ?_) (a' := ?_) #[true, true, true, true, true, true, true, true, true, false, false] rfl rfl (by kernel_rfl) (fun _ _ _ h => h) (Or.inl ⟨by rfl, ?_⟩) ?_ ?_
        rotate_left
        · intro w'
          go_simp
          with_reducible rfl
        rotate_left
        · simp only [Act.put, List.setIfInBounds_toArray, List.set_cons_zero, List.set_cons_succ, i64_w, i32_w]
          rfl
        exact norm_ (by first | (simp only [putAll, Act.put, List.setIfInBounds_toArray, List.set_cons_zero, List.set_cons_succ]; done) | (simp only [putAll, Act.put, List.setIfInBounds_toArray, List.set_cons_zero, List.set_cons_succ]; rfl)) (hCont (wP.drew.heap.size, v) _ ⟨hHeld.1, hHeld.2.1, hHeld.2.2.1, hHeld.2.2.2.1, hHeld.2.2.2.2.1, hHeld.2.2.2.2.2.1, hHeld.2.2.2.2.2.2.1, hHeld.2.2.2.2.2.2.2, q8, lz, hP⟩)
    rintro ⟨g6, v⟩ w' ⟨s0, s1, s2, s3, s4, s5, s6, s7, h8, hg6, hP⟩
    obtain ⟨B0, n0, d0, B1, n1, d1, B2, n2, d2, mp, B3, n3, d3, rfl, hP⟩ := hP
    have hHeld : w'.heap[w.heap.size]? = some (.cells #[.slice A0 l0.length c0, .slice A1 l1.length c1, .slice A2 l2.length c2] 26 (0, 0)) ∧ w'.heap[w.heap.size + 1]? = some (.cells #[.int .i64 lx.f0, .int .i64 lx.f1] 43 (0, 0)) ∧ Below w.heap.size w w' ∧ w'.cell? ⟨w.heap.size, 0, none⟩ = some (.slice A0 l0.length c0) ∧ w'.cell? ⟨w.heap.size, 1, none⟩ = some (.slice A1 l1.length c1) ∧ w'.cell? ⟨w.heap.size, 2, none⟩ = some (.slice A2 l2.length c2) ∧ w'.cell? ⟨w.heap.size + 1, 0, none⟩ = some (.int .i64 lx.f0) ∧ w'.cell? ⟨w.heap.size + 1, 1, none⟩ = some (.int .i64 lx.f1) := ⟨s0, s1, s2, s3, s4, s5, s6, s7⟩
    have k0 := (blk_cell h8 0).trans rfl
    have k1 := (blk_cell h8 1).trans rfl
    have k2 := (blk_cell h8 2).trans rfl
    have k3 := (blk_cell h8 3).trans rfl
    have k4 := (blk_cell h8 4).trans rfl
    have f0 := blk_frozen h8 0
    have f1 := blk_frozen h8 1
    have f2 := blk_frozen h8 2
    have f3 := blk_frozen h8 3
    have f4 := blk_frozen h8 4
    have l8 := blk_lt h8
    have H8 := Lib.hid h8
    have HP := Lib.hid hP
    have HHE := Lib.hid hHeld
    clear h8 hP s0 s1 s2
    refine norm_ (a' := ?_) ?_ ?_
    rotate_left
    · simp only [putAll, Act.put, List.setIfInBounds_toArray, List.set_cons_zero, List.set_cons_succ]
      rfl
    refine last_ (i := 9) (N := none) #[true, true, true, true, true, true, true, true, true, true, false] rfl rfl (by kernel_rfl) (by decide) (fun K hK => ?_)
    refine skip_ (w1 := ?_) (by rfl) rfl ?_ ?_
    rotate_left
    · go_simp
      rfl
    refine hK.out _ _ ?_
    clear hK K
    refine pure_ (i := 10) (N := some 7) (v := ?_) (a' := ?_) #[true, true, true, true, true, true, true, true, true, true, true] rfl rfl (by kernel_rfl) (fun _ _ _ h => h) (Or.inl ⟨by rfl, ?_⟩) ?_ ?_
    rotate_left
    · intro w'
      go_simp
      with_reducible rfl
    rotate_left
    · simp only [Act.put, List.setIfInBounds_toArray, List.set_cons_zero, List.set_cons_succ, i64_w, i32_w]
      rfl
    refine done_ (by kernel_rfl) ?_

    obtain ⟨u2, u3, uB, _⟩ := HHE.out
    have nb2 : w.heap.size ≠ g6 := fun e => by
      have := H8.out
      rw [← e, u2] at this
      simp at this
    have nb3 : w.heap.size + 1 ≠ g6 := fun e => by
      have := H8.out
      rw [← e, u3] at this
      simp at this
    obtain ⟨W8, hW8⟩ : ∃ W, W = (((((w'.setCell ⟨g6, 0, none⟩ (.slice B0 n0 d0)).setCell ⟨g6, 1, none⟩ (.slice B1 n1 d1)).setCell ⟨g6, 2, none⟩ (.slice B2 n2 d2)).setCell ⟨g6, 3, none⟩ (.map mp)).setCell ⟨g6, 4, none⟩ (.slice B3 n3 d3)) := ⟨_, rfl⟩
    rw [← hW8]
    have h88 : W8.heap[g6]? = some (.cells #[.slice B0 n0 d0, .slice B1 n1 d1, .slice B2 n2 d2, .map mp, .slice B3 n3 d3] 107 (0, 0)) := by rw [hW8]; exact blk_put (blk_set (blk_set (blk_set (blk_set H8.out 0 _) 1 _) 2 _) 3 _) 4 _ rfl
    have hch : Chg (fun k => k = g6) w' W8 := by rw [hW8]; exact (((((Chg.cell (S := fun k => k = g6) w' g6 0 (.slice B0 n0 d0) rfl).trans (Chg.cell _ g6 1 (.slice B1 n1 d1) rfl)).trans (Chg.cell _ g6 2 (.slice B2 n2 d2) rfl)).trans (Chg.cell _ g6 3 (.map mp) rfl)).trans (Chg.cell _ g6 4 (.slice B3 n3 d3) rfl))
    have h82 := (hch.block _ (blk_lt u2) nb2).trans u2
    have h83 := (hch.block _ (blk_lt u3) nb3).trans u3
    have hB8 : Below w.heap.size w W8 := uB.trans ⟨hch.os, hch.tape, hch.output, hch.size, fun k hk => hch.block k (Nat.lt_of_lt_of_le hk uB.size) (by omega)⟩
    have HCH := Lib.hid hch
    have HB8 := Lib.hid hB8
    clear hW8 hch u2 u3 uB HHE k0 k1 k2 k3 k4 f0 f1 f2 f3 f4 l8 s3 s4 s5 s6 s7 hHeld hB8
    go_wp2
    go_ret2
    exact ⟨rfl, HB8.out⟩
end Go.Proofs.YthgjedagbgmgmaaDoor.Pr
namespace Go.Proofs.YthgjedagbgmgmaaDoor.Pr
open Go.RowKit Go.Proofs.YthgjedagbgmgmaaDoorW.PrintWords Go.Proofs.YthgjedagbgmgmaaDoorW.PrintLast Go.Proofs.YthgjedagbgmgmaaDoorW.PrintMore
set_option linter.unusedVariables false
set_option linter.unusedSimpArgs false
/-- The first number from m on with which it goes on. -/
def chooseL (next : List Int → Option (List Int)) (s : List Int) : Nat → Nat → Option (List Int)
  | 0, _ => none
  | g + 1, m => match next (s ++ [(m : Int)]) with
    | some l => some l
    | none => chooseL next s g (m + 1)
/-- Where the next number begins. -/
def startOf (s : List Int) : Nat := match s.getLast? with
  | none => 0
  | some x => (x + 1).toNat
theorem startOf_some {s : List Int} {x : Int} (h : s.getLast? = some x) : startOf s = (x + 1).toNat := by unfold startOf; rw [h]
/-- The first rising row that begins with s and has f numbers more, below n. -/
def chooseF (ok : List Int → Bool) (n : Nat) : Nat → List Int → Option (List Int)
  | 0, s => if ok s then some s else none
  | f + 1, s => chooseL (chooseF ok n f) s (n - startOf s) (startOf s)
/-- The first number of looks with which there is a row. -/
def chooseAll (ok : List Int → Bool) (n : Nat) : Nat → Nat → Option (List Int)
  | 0, _ => none
  | g + 1, m => match chooseF ok n m [] with
    | some l => some l
    | none => chooseAll ok n g (m + 1)
def okBut (ls : List S92) (ds : List S90) (ks : List S43) (but : List Int) : Bool := decide (0 < (truthsAll ls ds ks but).length)
/-- What a row of choose's is. -/
def ChP (r : Option (List Int)) (v : Value) (W : World) : Prop := ∀ L, r = some L → ∃ A c, v = .slice A L.length c ∧ FRow eI 1 W A L ∧ L.length ≤ c
theorem inf3 : (Tryd.prog.info? 3).map (fun i => (i.zero, i.size, i.bytes)) = some (some (.int .i64 0), 1, 8) := by kernel_rfl
set_option maxHeartbeats 4000000 in
set_option maxRecDepth 100000 in
theorem choose0_calls (g1 g2 : Nat) (A0 A1 A2 : Option Addr) (c0 c1 c2 : Nat) (l0 : List S92) (l1 : List S90) (l2 : List S43) (w0 : World) (hG : GOK w0) (hr0 : FRow e92 2 w0 A0 l0) (hc0 : l0.length ≤ c0) (hr1 : FRow e90 3 w0 A1 l1) (hr2 : FRow e43 2 w0 A2 l2) (hc2 : l2.length ≤ c2) (hok : okBook l0 l1 l2 = true)
    (hg1 : w0.heap[g1]? = some (.cells #[.slice A0 l0.length c0, .slice A1 l1.length c1, .slice A2 l2.length c2] 26 (0, 0))) (hg2 : w0.heap[g2]? = some (.cells #[.func (.func 102) #[] #[.pointer (some ⟨g1, 0, none⟩), .pointer (some ⟨g2, 0, none⟩)]] 146 (0, 0))) (W : World) (A : Option Addr) (c : Nat) (s : List Int) (hB : Below w0.heap.size w0 W) (hF : FRow eI 1 W A s) (hc : s.length ≤ c) (hs4 : s.length ≤ 4) :
    Calls Tryd.prog 102 #[.slice A s.length c, .int .i64 (s.length : Int), .pointer (some ⟨g1, 0, none⟩), .pointer (some ⟨g2, 0, none⟩)] W fun e w' => ∃ v, e = .returned (.tuple #[v, .bool (if okBut l0 l1 l2 s = true then some s else none).isSome]) ∧ ChP (if okBut l0 l1 l2 s = true then some s else none) v w' ∧ Below W.heap.size W w' := by
  obtain ⟨o1, o2, o3, o4, o5, o6, o7⟩ := ok_facts hok
  obtain ⟨T, hT⟩ : ∃ T, T = truthsAll l0 l1 l2 s := ⟨_, rfl⟩
  have hob : okBut l0 l1 l2 s = decide (0 < T.length) := by rw [hT]; rfl
  have HOP : Hid (∀ W', Below W.heap.size W W' → Calls Tryd.prog 75 #[.agg #[.slice A0 l0.length c0, .slice A1 l1.length c1, .slice A2 l2.length c2], .slice A s.length c] W' fun e W9 => ∃ At ct m, e = .returned (.agg #[.slice A0 l0.length c0, .slice A1 l1.length c1, .slice A2 l2.length c2, .map (some m), .slice At T.length ct]) ∧ Below W'.heap.size W' W9) :=
    Lib.hid fun W' hW' => (opened_calls A0 A1 A2 A c0 c1 c2 c l0 l1 l2 s W' (hG.below (hB.trans (below_weaken hW' hB.size))) (hr0.below (hB.trans (below_weaken hW' hB.size))) (hr1.below (hB.trans (below_weaken hW' hB.size))) (hr2.below (hB.trans (below_weaken hW' hB.size))) (hF.below hW') hc0 hc2 hc o1 o2 o3 (by omega) (by omega) o6).mono (by
      rintro e W9 ⟨At, ct, m, rfl, _, _, _, hb⟩
      rw [← hT]
      exact ⟨At, ct, m, rfl, hb⟩)
  have hfl : ∀ A' m ct W, (Instr.field 107 (.agg #[.slice A0 l0.length c0, .slice A1 l1.length c1, .slice A2 l2.length c2, .map (some m), .slice A' T.length ct]) 2).run Tryd.prog W = .ok (.slice A' T.length ct) W := fun _ _ _ _ => field107 _ _ _ _ _ _ _ _ _ _ _ _ _ _
  have hg1W := blk_below hg1 hB
  have k0 := (blk_cell hg1W 0).trans rfl
  have k1 := (blk_cell hg1W 1).trans rfl
  have k2 := (blk_cell hg1W 2).trans rfl
  have HF := Lib.hid hF
  have hq : ((s.length : Int) == (s.length : Int)) = true := beq_self_eq_true _
  obtain ⟨q, hqq⟩ : ∃ q, q = okBut l0 l1 l2 s := ⟨_, rfl⟩
  have hsome : (if okBut l0 l1 l2 s = true then some s else none).isSome = q := by rw [hqq]; cases okBut l0 l1 l2 s <;> rfl
  have hch : ∀ w', Below W.heap.size W w' → ChP (if okBut l0 l1 l2 s = true then some s else none) (.slice A s.length c) w' := by
    intro w' hb L hL
    have : s = L := by
      split at hL
      · exact Option.some.inj hL
      · cases hL
    subst this
    exact ⟨A, c, rfl, hF.below hb, hc⟩
  rw [hsome]
  have HCH := Lib.hid hch
  have HQ := Lib.hid (hqq.trans hob)
  have HFL := Lib.hid hfl
  clear hT hob hG hr0 hr1 hr2 hok hg1 hg2 hg1W hF o1 o2 o3 o4 o5 o6 o7 hsome hch hqq hfl hB
  generalize (if okBut l0 l1 l2 s = true then some s else none) = RR at HCH ⊢
  have hfl := HFL.out
  go_enter Tryd.func102, Tryd.ntmps102
  go_wp2_with (go_at_call 75; refine (HOP.out _ ?hw).mono ?_; (case hw => exact by repeat (first | exact Below.refl _ _ | refine Below.alloc ?_ (by simp <;> omega) _ | refine Below.setCell ?_ (by simp <;> omega) _ | apply Below.drew)); rintro e w3 ⟨At, ct, m, rfl, hB3⟩)
  go_ret2
  exact ⟨_, by rw [HQ.out]; rfl, HCH.out _ hB3, hB3⟩
set_option maxHeartbeats 4000000 in
set_option maxRecDepth 100000 in
theorem choose_step (g1 g2 : Nat) (A0 A1 A2 : Option Addr) (c0 c1 c2 : Nat) (l0 : List S92) (l1 : List S90) (l2 : List S43) (w0 : World) (hG : GOK w0) (hr0 : FRow e92 2 w0 A0 l0) (hc0 : l0.length ≤ c0) (hr1 : FRow e90 3 w0 A1 l1) (hr2 : FRow e43 2 w0 A2 l2) (hc2 : l2.length ≤ c2) (hok : okBook l0 l1 l2 = true)
    (hg1 : w0.heap[g1]? = some (.cells #[.slice A0 l0.length c0, .slice A1 l1.length c1, .slice A2 l2.length c2] 26 (0, 0))) (hg2 : w0.heap[g2]? = some (.cells #[.func (.func 102) #[] #[.pointer (some ⟨g1, 0, none⟩), .pointer (some ⟨g2, 0, none⟩)]] 146 (0, 0))) (f many : Nat)
    (ih : ∀ (W : World) (A : Option Addr) (c : Nat) (s : List Int), Below w0.heap.size w0 W → FRow eI 1 W A s → s.length ≤ c → s.length + f = many → many ≤ 4 → (∀ x ∈ s, 0 ≤ x ∧ x < (l2.length : Int)) →
      Calls Tryd.prog 102 #[.slice A s.length c, .int .i64 (many : Int), .pointer (some ⟨g1, 0, none⟩), .pointer (some ⟨g2, 0, none⟩)] W fun e w' => ∃ v, e = .returned (.tuple #[v, .bool (chooseF (okBut l0 l1 l2) l2.length f s).isSome]) ∧ ChP (chooseF (okBut l0 l1 l2) l2.length f s) v w' ∧ Below W.heap.size W w')
    (W : World) (A : Option Addr) (c : Nat) (s : List Int) (hB : Below w0.heap.size w0 W) (hF : FRow eI 1 W A s) (hc : s.length ≤ c) (hm : s.length + (f + 1) = many) (hm4 : many ≤ 4) (hx : ∀ x ∈ s, 0 ≤ x ∧ x < (l2.length : Int)) :
    Calls Tryd.prog 102 #[.slice A s.length c, .int .i64 (many : Int), .pointer (some ⟨g1, 0, none⟩), .pointer (some ⟨g2, 0, none⟩)] W fun e w' => ∃ v, e = .returned (.tuple #[v, .bool (chooseF (okBut l0 l1 l2) l2.length (f + 1) s).isSome]) ∧ ChP (chooseF (okBut l0 l1 l2) l2.length (f + 1) s) v w' ∧ Below W.heap.size W w' := by
  obtain ⟨i3, hi3, hz0, hz1, hz2⟩ := info_parts inf3
  have hl24 : l2.length ≤ 4 := (ok_facts hok).2.2.2.2.1
  have hg1W := blk_below hg1 hB
  have hg2W := blk_below hg2 hB
  have k2 := (blk_cell hg1W 2).trans rfl
  have HG1 := Lib.hid hg1W
  have HG2 := Lib.hid hg2W
  have HFLAT : Hid (∀ W', Below W.heap.size W W' → ∀ b, A = some b → ∀ j u, (s.flatMap eI)[j]? = some u → W'.cell? (b.add j) = some u) :=
    Lib.hid fun W' hW' => frow_flat eI_len (hF.below hW')
  have hst : startOf s ≤ l2.length := by
    unfold startOf
    split
    · omega
    · rename_i x hx'
      have := hx x (List.mem_of_getLast? hx')
      omega
  obtain ⟨n9, hn9⟩ : ∃ n, n = s.length + 1 := ⟨_, rfl⟩
  have HIHM : Hid (∀ (m : Nat), m < l2.length → ∀ (W' : World) (A9 : Option Addr) (c9 : Nat), Below W.heap.size W W' → FRow eI 1 W' A9 (s ++ [(m : Int)]) → n9 ≤ c9 →
      Calls Tryd.prog 102 #[.slice A9 n9 c9, .int .i64 (many : Int), .pointer (some ⟨g1, 0, none⟩), .pointer (some ⟨g2, 0, none⟩)] W' fun e w' => ∃ v, e = .returned (.tuple #[v, .bool (chooseF (okBut l0 l1 l2) l2.length f (s ++ [(m : Int)])).isSome]) ∧ ChP (chooseF (okBut l0 l1 l2) l2.length f (s ++ [(m : Int)])) v w' ∧ Below W'.heap.size W' w') := by
    refine Lib.hid fun m hml W' A9 c9 hW' hF9 hc9 => ?_
    have hl : (s ++ [(m : Int)]).length = n9 := by simp [hn9]
    have := ih W' A9 c9 (s ++ [(m : Int)]) (hB.trans (below_weaken hW' hB.size)) hF9 (by rw [hl]; exact hc9) (by rw [hl, hn9]; omega) hm4 (fun x hxm => by
      rcases List.mem_append.1 hxm with h | h
      · exact hx x h
      · simp at h; omega)
    rw [hl] at this
    exact this
  have hne : ((s.length : Int) == (many : Int)) = false := beq_eq_false_iff_ne.2 (by omega)
  have hs4 : s.length ≤ 4 := by omega
  have HN9 : Hid (∀ m : Nat, (s ++ [(m : Int)]).length = n9) := Lib.hid fun m => by simp [hn9]
  have HLF : Hid (chooseF (okBut l0 l1 l2) l2.length (f + 1) s = chooseL (chooseF (okBut l0 l1 l2) l2.length f) s (l2.length - startOf s) (startOf s)) := Lib.hid rfl
  have hlast : s.length = 0 ∧ startOf s = 0 ∨ ∃ (j : Nat) (x : Int) (b o : Nat), s.length = j + 1 ∧ A = some ⟨b, o, none⟩ ∧ W.cell? ⟨b, o + j, none⟩ = some (.int .i64 x) ∧ x + 1 = (startOf s : Int) ∧ 0 ≤ x ∧ x < 4 := by
    by_cases hs0 : s.length = 0
    · left
      refine ⟨hs0, ?_⟩
      rw [List.length_eq_zero_iff.1 hs0]
      rfl
    · right
      obtain ⟨j, hj⟩ : ∃ j, s.length = j + 1 := ⟨s.length - 1, by omega⟩
      have hsj : s[j]? = some (s[j]'(by omega)) := List.getElem?_eq_getElem (by omega)
      rcases hF with h | ⟨b, o, e, _, hcc⟩
      · rw [h] at hs0; simp at hs0
      · have hcj := hcc j _ hsj 0 _ rfl
        simp only [Nat.mul_one, Nat.add_zero] at hcj
        have hxj := hx _ (List.getElem_mem (l := s) (n := j) (by omega))
        refine ⟨j, _, b, o, hj, e, hcj, ?_, hxj.1, by omega⟩
        have hgl : s.getLast? = some (s[j]'(by omega)) := by
          rw [List.getLast?_eq_getElem?, show s.length - 1 = j by omega]
          exact hsj
        rw [startOf_some hgl]
        omega
  obtain ⟨RR, hRR⟩ : ∃ R, R = chooseF (okBut l0 l1 l2) l2.length (f + 1) s := ⟨_, rfl⟩
  rw [← hRR]
  have HRR := Lib.hid (hRR.trans HLF.out)
  have HF := Lib.hid hF
  obtain ⟨st, hst2⟩ : ∃ n, n = startOf s := ⟨_, rfl⟩
  rw [← hst2] at HRR hst hlast
  clear hG hr0 hr1 hr2 hok hg1 hg2 hg1W hg2W hF hx ih hB hn9 hm hRR HLF hst2
  obtain ⟨n8, hn8⟩ : ∃ n, n = s.length := ⟨_, rfl⟩
  have HN8 : Hid (s.length = n8) := Lib.hid hn8.symm
  rw [← hn8] at hlast hne hs4 hc ⊢
  clear hn8
  rcases hlast with ⟨rfl, rfl⟩ | ⟨j, x, b, o, rfl, rfl, hcx, hxst, hx0, hx4⟩
  · go_enter Tryd.func102, Tryd.ntmps102
    go_wp2
    go_loopg [10] (l2.length - 0) (fun gk v10 wr => ∃ (m : Nat), v10 = .int .i64 m ∧ Aside0 (m + gk = l2.length) ∧ Aside0 (RR = chooseL (chooseF (okBut l0 l1 l2) l2.length f) s gk m) ∧ Aside0 (wr.heap[g2]? = some (.cells #[.func (.func 102) #[] #[.pointer (some ⟨g1, 0, none⟩), .pointer (some ⟨g2, 0, none⟩)]] 146 (0, 0))) ∧ Aside0 (wr.heap[g1]? = some (.cells #[.slice A0 l0.length c0, .slice A1 l1.length c1, .slice A2 l2.length c2] 26 (0, 0))) ∧ Aside0 (Below W.heap.size W wr))
    case atStart =>  exact ⟨0, rfl, ⟨by omega⟩, ⟨by first | exact HRR.out | (rw [HRR.out]; congr 1; omega)⟩, ⟨HG2.out⟩, ⟨HG1.out⟩, ⟨Below.refl _ _⟩⟩
    case round =>
      obtain ⟨m, rfl, HK, HS, HG2R, HG1R, HBR⟩ := hrel
      have k2 := (blk_cell HG1R.out 2).trans rfl
      cases gk with
      | zero =>
        have hge : ¬ m < l2.length := by have := HK.out; omega
        have HNO : Hid (RR = none) := Lib.hid HS.out
        have hch : ∀ v w', ChP RR v w' := fun v w' L hL => by rw [HNO.out] at hL; cases hL
        have HCH := Lib.hid hch
        have HIS : Hid (RR.isSome = false) := Lib.hid (by rw [HNO.out]; rfl)
        clear hch
        go_wp2
        go_ret2
        exact ⟨_, by rw [HIS.out]; rfl, HCH.out _ _, HBR.out⟩
      | succ g1' =>
        have hlt : m < l2.length := by have := HK.out; omega
        obtain ⟨R9, hR9⟩ : ∃ R, R = chooseF (okBut l0 l1 l2) l2.length f (s ++ [(m : Int)]) := ⟨_, rfl⟩
        have HIH := Lib.hid (HIHM.out m hlt)
        rw [← hR9] at HIH
        have hm4 : m ≤ 4 := by omega
        cases R9 with
        | none =>
          have HSN : Hid (RR = chooseL (chooseF (okBut l0 l1 l2) l2.length f) s g1' (m + 1)) := by
            refine Lib.hid ?_
            rw [HS.out]
            show (match chooseF (okBut l0 l1 l2) l2.length f (s ++ [(m : Int)]) with | some l => some l | none => _) = _
            rw [← hR9]
          clear hR9
          go_upto_region 10 with fail
          have hBP : Below wr.heap.size wr wr.drew := by repeat (first | exact Below.refl _ _ | refine Below.alloc ?_ (by simp <;> omega) _ | refine Below.setCell ?_ (by simp <;> omega) _ | apply Below.drew)
          have HG2D := Lib.hid (blk_below HG2R.out hBP)
          have HBD := Lib.hid (HBR.out.trans (below_weaken hBP HBR.out.size))
          have HN9 := Lib.hid (HN9.out m)
          clear hBP
          refine start_ (n := 15) (S := fun w' => w'.cell? ⟨g2, 0, none⟩ = some (.func (.func 102) #[] #[.pointer (some ⟨g1, 0, none⟩), .pointer (some ⟨g2, 0, none⟩)])) (ds := []) #[false, false, false, false, false, false, false, false, false, false, false, false, false, false, false] (by kernel_rfl) rfl rfl ((blk_cell HG2D.out 0).trans rfl) (fun hHeld => ?_)
          refine pure_ (i := 1) (N := some 43) (v := ?_) (a' := ?_) #[false, true, false, false, false, false, false, false, false, false, false, false, false, false, false] rfl rfl (by kernel_rfl) (fun _ _ _ h => h) (Or.inl ⟨by rfl, ?_⟩) ?_ ?_
          rotate_left
          · intro w'
            go_simp
            with_reducible rfl
          rotate_left
          · simp only [Act.put, List.setIfInBounds_toArray, List.set_cons_zero, List.set_cons_succ, i64_w, i32_w]
            rfl
          refine pure_ (i := 2) (N := some 44) (v := ?_) (a' := ?_) #[false, true, true, false, false, false, false, false, false, false, false, false, false, false, false] rfl rfl (by kernel_rfl) (fun _ _ _ h => h) (Or.inl ⟨by rfl, ?_⟩) ?_ ?_
          rotate_left
          · intro w'
            go_simp
            with_reducible rfl
          rotate_left
          · simp only [Act.put, List.setIfInBounds_toArray, List.set_cons_zero, List.set_cons_succ, i64_w, i32_w]
            rfl
          refine pure_ (i := 3) (N := some 45) (v := ?_) (a' := ?_) #[false, true, true, true, false, false, false, false, false, false, false, false, false, false, false] rfl rfl (by kernel_rfl) (fun _ _ _ h => h) (Or.inl ⟨by rfl, ?_⟩) ?_ ?_
          rotate_left
          · intro w'
            go_simp
            with_reducible rfl
          rotate_left
          · simp only [Act.put, List.setIfInBounds_toArray, List.set_cons_zero, List.set_cons_succ, i64_w, i32_w]
            rfl
          refine pure_ (i := 4) (N := some 46) (v := ?_) (a' := ?_) #[false, true, true, true, true, false, false, false, false, false, false, false, false, false, false] rfl rfl (by kernel_rfl) (fun _ _ _ h => h) (Or.inl ⟨by rfl, ?_⟩) ?_ ?_
          rotate_left
          · intro w'
            go_simp
            with_reducible rfl
          rotate_left
          · simp only [Act.put, List.setIfInBounds_toArray, List.set_cons_zero, List.set_cons_succ, i64_w, i32_w]
            rfl
          refine pure_ (i := 5) (N := some 47) (v := ?_) (a' := ?_) #[false, true, true, true, true, true, false, false, false, false, false, false, false, false, false] rfl rfl (by kernel_rfl) (fun _ _ _ h => h) (Or.inl ⟨by rfl, ?_⟩) ?_ ?_
          rotate_left
          · intro w'
            go_simp
            with_reducible rfl
          rotate_left
          · simp only [Act.put, List.setIfInBounds_toArray, List.set_cons_zero, List.set_cons_succ, i64_w, i32_w]
            rfl
          refine pure_ (i := 8) (N := some 50) (v := ?_) (a' := ?_) #[false, true, true, true, true, true, false, false, true, false, false, false, false, false, false] rfl rfl (by kernel_rfl) (fun _ _ _ h => h) (Or.inl ⟨by rfl, ?_⟩) ?_ ?_
          rotate_left
          · intro w'
            go_simp
            with_reducible rfl
          rotate_left
          · simp only [Act.put, List.setIfInBounds_toArray, List.set_cons_zero, List.set_cons_succ, i64_w, i32_w]
            rfl
          refine take_ (i := 0) (N := some 42) (v := ?_) (a' := ?_) #[true, true, true, true, true, true, false, false, true, false, false, false, false, false, false] rfl rfl (by kernel_rfl) (fun _ _ _ h => h) (Or.inl ⟨by rfl, ?_⟩) hHeld ?_ ?_
          rotate_left
          · intro w' s0
            go_simp
            with_reducible rfl
          rotate_left
          · simp only [Act.put, List.setIfInBounds_toArray, List.set_cons_zero, List.set_cons_succ, i64_w, i32_w]
            rfl
          refine one_ (i := 6) (N := some 48) #[true, true, true, true, true, true, true, false, true, false, false, false, false, false, false] rfl rfl (by kernel_rfl) (by decide) (fun K hK => ?_)
          refine value_ (w1 := ?_) (v := ?_) (by rfl) rfl ?_ ?_
          rotate_left 2
          · go_simp
            constructor
            · rfl
            · rfl
          have h2a := blk_alloc HG2D.out (.cells #[.int .i64 (m : Int)] 3)
          have hnw := blk_new wr.drew (.cells #[.int .i64 (m : Int)] 3)
          have HHA := Lib.hid (HBD.out.alloc HBD.out.size (.cells #[.int .i64 (m : Int)] 3))
          refine hK.out _ _ ((blk_cell h2a 0).trans rfl) (fun hHeld => ?_)
          clear hK K
          refine norm_ (a' := ?_) ?_ ?_
          rotate_left
          · show Act.put _ (some 48) _ = _
            simp only [Act.put, List.setIfInBounds_toArray, List.set_cons_zero, List.set_cons_succ, i64_w, i32_w]
            rfl
          refine one_ (i := 7) (N := some 49) #[true, true, true, true, true, true, true, true, true, false, false, false, false, false, false] rfl rfl (by kernel_rfl) (by decide) (fun K hK => ?_)
          refine step_append_grows rfl (.tmp 46) (.tmp 48) 45 (by rfl) 3 i3 _ 1 8 Tryd.underlying45 hi3 hz0 hz1 hz2 rfl (by decide) A 0 0 (s.flatMap eI) (by rfl) (fun _ => ⟨rfl, rfl⟩) (by rw [flat_length eI_len s, HN8.out]) (HFLAT.out _ HHA.out) ⟨wr.drew.heap.size, 0, none⟩ 1 1 [.int .i64 (m : Int)] (by rfl) rfl ?aC ?aO (by omega) (by unfold maxLen; omega) (by omega) ?_
          (case aC => exact fun j u hj => (cell_add hnw j).trans (by simpa using hj))
          (case aO => exact fun u hu => by simp at hu; rcases hu with rfl; rfl)
          intro v6 w9 ho9 hg9
          have h29 := (hg9.block _ (blk_lt h2a) (by simp)).trans h2a
          have HB9 := Lib.hid (HHA.out.grown hg9 (by have := HHA.out.size; omega) (fun j ej => by simp at ej))
          rw [show s.flatMap eI ++ [.int .i64 (m : Int)] = (s ++ [(m : Int)]).flatMap eI by simp [eI]] at ho9
          obtain ⟨eL, A9, c9, ev, hF9, hc9⟩ := frow_own' eI_len (by decide) ho9
          clear eL
          rw [HN9.out] at ev hc9
          subst ev
          have HC9 := Lib.hid hc9
          have HF9 := Lib.hid hF9
          clear hc9 hF9 ho9 hg9 hnw
          refine hK.out _ _ ((blk_cell h29 0).trans rfl) (fun hHeld => ?_)
          clear hK K
          refine norm_ (a' := ?_) ?_ ?_
          rotate_left
          · show Act.put _ (some 49) _ = _
            simp only [Act.put, List.setIfInBounds_toArray, List.set_cons_zero, List.set_cons_succ, i64_w, i32_w]
            rfl
          refine one_ (i := 9) (N := some 51) #[true, true, true, true, true, true, true, true, true, true, false, false, false, false, false] rfl rfl (by kernel_rfl) (by decide) (fun K hK => ?_)
          refine goesV_ Tryd.func102 (by kernel_rfl) rfl #[.slice A9 n9 c9, .int .i64 (many : Int), .pointer (some ⟨g1, 0, none⟩), .pointer (some ⟨g2, 0, none⟩)] #[] #[.pointer (some ⟨g1, 0, none⟩), .pointer (some ⟨g2, 0, none⟩)] (by rfl) rfl rfl rfl (by simp only [List.map_toArray, List.map_cons, List.map_nil]; rfl) ?_
          refine (HIH.out _ A9 c9 HB9.out HF9.out HC9.out).mono ?_
          rintro e w10 ⟨v, rfl, hP, hb⟩
          refine ⟨_, rfl, ?_⟩
          have h210 := blk_below h29 hb
          have HB10 := Lib.hid (HB9.out.trans (below_weaken hb HB9.out.size))
          have HP := Lib.hid hP
          clear hP hb
          refine hK.out _ _ ((blk_cell h210 0).trans rfl) (fun hHeld => ?_)
          clear hK K
          refine norm_ (a' := ?_) ?_ ?_
          rotate_left
          · show Act.put _ (some 51) _ = _
            simp only [Act.put, List.setIfInBounds_toArray, List.set_cons_zero, List.set_cons_succ, i64_w, i32_w]
            rfl
          refine pure_ (i := 10) (N := some 41) (v := ?_) (a' := ?_) #[true, true, true, true, true, true, true, true, true, true, true, false, false, false, false] rfl rfl (by kernel_rfl) (fun _ _ _ h => h) (Or.inl ⟨by rfl, ?_⟩) ?_ ?_
          rotate_left
          · intro w'
            go_simp
            with_reducible rfl
          rotate_left
          · simp only [Act.put, List.setIfInBounds_toArray, List.set_cons_zero, List.set_cons_succ, i64_w, i32_w]
            rfl
          refine pure_ (i := 11) (N := some 52) (v := ?_) (a' := ?_) #[true, true, true, true, true, true, true, true, true, true, true, true, false, false, false] rfl rfl (by kernel_rfl) (fun _ _ _ h => h) (Or.inl ⟨by rfl, ?_⟩) ?_ ?_
          rotate_left
          · intro w'
            go_simp
            with_reducible rfl
          rotate_left
          · simp only [Act.put, List.setIfInBounds_toArray, List.set_cons_zero, List.set_cons_succ, i64_w, i32_w]
            rfl
          refine pure_ (i := 12) (N := some 53) (v := ?_) (a' := ?_) #[true, true, true, true, true, true, true, true, true, true, true, true, true, false, false] rfl rfl (by kernel_rfl) (fun _ _ _ h => h) (Or.inl ⟨by rfl, ?_⟩) ?_ ?_
          rotate_left
          · intro w'
            go_simp
            with_reducible rfl
          rotate_left
          · simp only [Act.put, List.setIfInBounds_toArray, List.set_cons_zero, List.set_cons_succ, i64_w, i32_w]
            rfl
          refine pure_ (i := 13) (N := some 11) (v := ?_) (a' := ?_) #[true, true, true, true, true, true, true, true, true, true, true, true, true, true, false] rfl rfl (by kernel_rfl) (fun _ _ _ h => h) (Or.inl ⟨by rfl, ?_⟩) ?_ ?_
          rotate_left
          · intro w'
            go_simp
            with_reducible rfl
          rotate_left
          · simp only [Act.put, List.setIfInBounds_toArray, List.set_cons_zero, List.set_cons_succ, i64_w, i32_w]
            rfl
          refine pure_ (i := 14) (N := some 12) (v := ?_) (a' := ?_) #[true, true, true, true, true, true, true, true, true, true, true, true, true, true, true] rfl rfl (by kernel_rfl) (fun _ _ _ h => h) (Or.inl ⟨by rfl, ?_⟩) ?_ ?_
          rotate_left
          · intro w'
            go_simp
            with_reducible rfl
          rotate_left
          · simp only [Act.put, List.setIfInBounds_toArray, List.set_cons_zero, List.set_cons_succ, i64_w, i32_w]
            rfl
          refine done_ (by kernel_rfl) ?_

          go_wp2
          go_roundg g1'
          case measure => omega
          case rel => exact ⟨m + 1, by go_num, ⟨by have := HK.out; omega⟩, ⟨HSN.out⟩, ⟨h210⟩, ⟨blk_below HG1.out HB10.out⟩, ⟨HB10.out⟩⟩
        | some L =>
          have HSS : Hid (RR = some L) := by
            refine Lib.hid ?_
            rw [HS.out]
            show (match chooseF (okBut l0 l1 l2) l2.length f (s ++ [(m : Int)]) with | some l => some l | none => _) = _
            rw [← hR9]
          have HIS : Hid (RR.isSome = true) := Lib.hid (by rw [HSS.out]; rfl)
          clear hR9
          go_upto_region 10 with fail
          have hBP : Below wr.heap.size wr wr.drew := by repeat (first | exact Below.refl _ _ | refine Below.alloc ?_ (by simp <;> omega) _ | refine Below.setCell ?_ (by simp <;> omega) _ | apply Below.drew)
          have HG2D := Lib.hid (blk_below HG2R.out hBP)
          have HBD := Lib.hid (HBR.out.trans (below_weaken hBP HBR.out.size))
          have HN9 := Lib.hid (HN9.out m)
          clear hBP
          refine start_ (n := 15) (S := fun w' => w'.cell? ⟨g2, 0, none⟩ = some (.func (.func 102) #[] #[.pointer (some ⟨g1, 0, none⟩), .pointer (some ⟨g2, 0, none⟩)])) (ds := []) #[false, false, false, false, false, false, false, false, false, false, false, false, false, false, false] (by kernel_rfl) rfl rfl ((blk_cell HG2D.out 0).trans rfl) (fun hHeld => ?_)
          refine pure_ (i := 1) (N := some 43) (v := ?_) (a' := ?_) #[false, true, false, false, false, false, false, false, false, false, false, false, false, false, false] rfl rfl (by kernel_rfl) (fun _ _ _ h => h) (Or.inl ⟨by rfl, ?_⟩) ?_ ?_
          rotate_left
          · intro w'
            go_simp
            with_reducible rfl
          rotate_left
          · simp only [Act.put, List.setIfInBounds_toArray, List.set_cons_zero, List.set_cons_succ, i64_w, i32_w]
            rfl
          refine pure_ (i := 2) (N := some 44) (v := ?_) (a' := ?_) #[false, true, true, false, false, false, false, false, false, false, false, false, false, false, false] rfl rfl (by kernel_rfl) (fun _ _ _ h => h) (Or.inl ⟨by rfl, ?_⟩) ?_ ?_
          rotate_left
          · intro w'
            go_simp
            with_reducible rfl
          rotate_left
          · simp only [Act.put, List.setIfInBounds_toArray, List.set_cons_zero, List.set_cons_succ, i64_w, i32_w]
            rfl
          refine pure_ (i := 3) (N := some 45) (v := ?_) (a' := ?_) #[false, true, true, true, false, false, false, false, false, false, false, false, false, false, false] rfl rfl (by kernel_rfl) (fun _ _ _ h => h) (Or.inl ⟨by rfl, ?_⟩) ?_ ?_
          rotate_left
          · intro w'
            go_simp
            with_reducible rfl
          rotate_left
          · simp only [Act.put, List.setIfInBounds_toArray, List.set_cons_zero, List.set_cons_succ, i64_w, i32_w]
            rfl
          refine pure_ (i := 4) (N := some 46) (v := ?_) (a' := ?_) #[false, true, true, true, true, false, false, false, false, false, false, false, false, false, false] rfl rfl (by kernel_rfl) (fun _ _ _ h => h) (Or.inl ⟨by rfl, ?_⟩) ?_ ?_
          rotate_left
          · intro w'
            go_simp
            with_reducible rfl
          rotate_left
          · simp only [Act.put, List.setIfInBounds_toArray, List.set_cons_zero, List.set_cons_succ, i64_w, i32_w]
            rfl
          refine pure_ (i := 5) (N := some 47) (v := ?_) (a' := ?_) #[false, true, true, true, true, true, false, false, false, false, false, false, false, false, false] rfl rfl (by kernel_rfl) (fun _ _ _ h => h) (Or.inl ⟨by rfl, ?_⟩) ?_ ?_
          rotate_left
          · intro w'
            go_simp
            with_reducible rfl
          rotate_left
          · simp only [Act.put, List.setIfInBounds_toArray, List.set_cons_zero, List.set_cons_succ, i64_w, i32_w]
            rfl
          refine pure_ (i := 8) (N := some 50) (v := ?_) (a' := ?_) #[false, true, true, true, true, true, false, false, true, false, false, false, false, false, false] rfl rfl (by kernel_rfl) (fun _ _ _ h => h) (Or.inl ⟨by rfl, ?_⟩) ?_ ?_
          rotate_left
          · intro w'
            go_simp
            with_reducible rfl
          rotate_left
          · simp only [Act.put, List.setIfInBounds_toArray, List.set_cons_zero, List.set_cons_succ, i64_w, i32_w]
            rfl
          refine take_ (i := 0) (N := some 42) (v := ?_) (a' := ?_) #[true, true, true, true, true, true, false, false, true, false, false, false, false, false, false] rfl rfl (by kernel_rfl) (fun _ _ _ h => h) (Or.inl ⟨by rfl, ?_⟩) hHeld ?_ ?_
          rotate_left
          · intro w' s0
            go_simp
            with_reducible rfl
          rotate_left
          · simp only [Act.put, List.setIfInBounds_toArray, List.set_cons_zero, List.set_cons_succ, i64_w, i32_w]
            rfl
          refine one_ (i := 6) (N := some 48) #[true, true, true, true, true, true, true, false, true, false, false, false, false, false, false] rfl rfl (by kernel_rfl) (by decide) (fun K hK => ?_)
          refine value_ (w1 := ?_) (v := ?_) (by rfl) rfl ?_ ?_
          rotate_left 2
          · go_simp
            constructor
            · rfl
            · rfl
          have h2a := blk_alloc HG2D.out (.cells #[.int .i64 (m : Int)] 3)
          have hnw := blk_new wr.drew (.cells #[.int .i64 (m : Int)] 3)
          have HHA := Lib.hid (HBD.out.alloc HBD.out.size (.cells #[.int .i64 (m : Int)] 3))
          refine hK.out _ _ ((blk_cell h2a 0).trans rfl) (fun hHeld => ?_)
          clear hK K
          refine norm_ (a' := ?_) ?_ ?_
          rotate_left
          · show Act.put _ (some 48) _ = _
            simp only [Act.put, List.setIfInBounds_toArray, List.set_cons_zero, List.set_cons_succ, i64_w, i32_w]
            rfl
          refine one_ (i := 7) (N := some 49) #[true, true, true, true, true, true, true, true, true, false, false, false, false, false, false] rfl rfl (by kernel_rfl) (by decide) (fun K hK => ?_)
          refine step_append_grows rfl (.tmp 46) (.tmp 48) 45 (by rfl) 3 i3 _ 1 8 Tryd.underlying45 hi3 hz0 hz1 hz2 rfl (by decide) A 0 0 (s.flatMap eI) (by rfl) (fun _ => ⟨rfl, rfl⟩) (by rw [flat_length eI_len s, HN8.out]) (HFLAT.out _ HHA.out) ⟨wr.drew.heap.size, 0, none⟩ 1 1 [.int .i64 (m : Int)] (by rfl) rfl ?aC ?aO (by omega) (by unfold maxLen; omega) (by omega) ?_
          (case aC => exact fun j u hj => (cell_add hnw j).trans (by simpa using hj))
          (case aO => exact fun u hu => by simp at hu; rcases hu with rfl; rfl)
          intro v6 w9 ho9 hg9
          have h29 := (hg9.block _ (blk_lt h2a) (by simp)).trans h2a
          have HB9 := Lib.hid (HHA.out.grown hg9 (by have := HHA.out.size; omega) (fun j ej => by simp at ej))
          rw [show s.flatMap eI ++ [.int .i64 (m : Int)] = (s ++ [(m : Int)]).flatMap eI by simp [eI]] at ho9
          obtain ⟨eL, A9, c9, ev, hF9, hc9⟩ := frow_own' eI_len (by decide) ho9
          clear eL
          rw [HN9.out] at ev hc9
          subst ev
          have HC9 := Lib.hid hc9
          have HF9 := Lib.hid hF9
          clear hc9 hF9 ho9 hg9 hnw
          refine hK.out _ _ ((blk_cell h29 0).trans rfl) (fun hHeld => ?_)
          clear hK K
          refine norm_ (a' := ?_) ?_ ?_
          rotate_left
          · show Act.put _ (some 49) _ = _
            simp only [Act.put, List.setIfInBounds_toArray, List.set_cons_zero, List.set_cons_succ, i64_w, i32_w]
            rfl
          refine one_ (i := 9) (N := some 51) #[true, true, true, true, true, true, true, true, true, true, false, false, false, false, false] rfl rfl (by kernel_rfl) (by decide) (fun K hK => ?_)
          refine goesV_ Tryd.func102 (by kernel_rfl) rfl #[.slice A9 n9 c9, .int .i64 (many : Int), .pointer (some ⟨g1, 0, none⟩), .pointer (some ⟨g2, 0, none⟩)] #[] #[.pointer (some ⟨g1, 0, none⟩), .pointer (some ⟨g2, 0, none⟩)] (by rfl) rfl rfl rfl (by simp only [List.map_toArray, List.map_cons, List.map_nil]; rfl) ?_
          refine (HIH.out _ A9 c9 HB9.out HF9.out HC9.out).mono ?_
          rintro e w10 ⟨v, rfl, hP, hb⟩
          refine ⟨_, rfl, ?_⟩
          have h210 := blk_below h29 hb
          have HB10 := Lib.hid (HB9.out.trans (below_weaken hb HB9.out.size))
          have HP := Lib.hid hP
          clear hP hb
          refine hK.out _ _ ((blk_cell h210 0).trans rfl) (fun hHeld => ?_)
          clear hK K
          refine norm_ (a' := ?_) ?_ ?_
          rotate_left
          · show Act.put _ (some 51) _ = _
            simp only [Act.put, List.setIfInBounds_toArray, List.set_cons_zero, List.set_cons_succ, i64_w, i32_w]
            rfl
          refine pure_ (i := 10) (N := some 41) (v := ?_) (a' := ?_) #[true, true, true, true, true, true, true, true, true, true, true, false, false, false, false] rfl rfl (by kernel_rfl) (fun _ _ _ h => h) (Or.inl ⟨by rfl, ?_⟩) ?_ ?_
          rotate_left
          · intro w'
            go_simp
            with_reducible rfl
          rotate_left
          · simp only [Act.put, List.setIfInBounds_toArray, List.set_cons_zero, List.set_cons_succ, i64_w, i32_w]
            rfl
          refine pure_ (i := 11) (N := some 52) (v := ?_) (a' := ?_) #[true, true, true, true, true, true, true, true, true, true, true, true, false, false, false] rfl rfl (by kernel_rfl) (fun _ _ _ h => h) (Or.inl ⟨by rfl, ?_⟩) ?_ ?_
          rotate_left
          · intro w'
            go_simp
            with_reducible rfl
          rotate_left
          · simp only [Act.put, List.setIfInBounds_toArray, List.set_cons_zero, List.set_cons_succ, i64_w, i32_w]
            rfl
          refine pure_ (i := 12) (N := some 53) (v := ?_) (a' := ?_) #[true, true, true, true, true, true, true, true, true, true, true, true, true, false, false] rfl rfl (by kernel_rfl) (fun _ _ _ h => h) (Or.inl ⟨by rfl, ?_⟩) ?_ ?_
          rotate_left
          · intro w'
            go_simp
            with_reducible rfl
          rotate_left
          · simp only [Act.put, List.setIfInBounds_toArray, List.set_cons_zero, List.set_cons_succ, i64_w, i32_w]
            rfl
          refine pure_ (i := 13) (N := some 11) (v := ?_) (a' := ?_) #[true, true, true, true, true, true, true, true, true, true, true, true, true, true, false] rfl rfl (by kernel_rfl) (fun _ _ _ h => h) (Or.inl ⟨by rfl, ?_⟩) ?_ ?_
          rotate_left
          · intro w'
            go_simp
            with_reducible rfl
          rotate_left
          · simp only [Act.put, List.setIfInBounds_toArray, List.set_cons_zero, List.set_cons_succ, i64_w, i32_w]
            rfl
          refine pure_ (i := 14) (N := some 12) (v := ?_) (a' := ?_) #[true, true, true, true, true, true, true, true, true, true, true, true, true, true, true] rfl rfl (by kernel_rfl) (fun _ _ _ h => h) (Or.inl ⟨by rfl, ?_⟩) ?_ ?_
          rotate_left
          · intro w'
            go_simp
            with_reducible rfl
          rotate_left
          · simp only [Act.put, List.setIfInBounds_toArray, List.set_cons_zero, List.set_cons_succ, i64_w, i32_w]
            rfl
          refine done_ (by kernel_rfl) ?_

          go_wp2
          go_ret2
          exact ⟨_, by rw [HIS.out]; rfl, by rw [HSS.out]; exact HP.out, HB10.out⟩

  · have HXST := Lib.hid hxst
    have hcI : ((j : Int) + 1 ≤ (c : Int)) = True := eq_true (by omega)
    have hjI : ((0 : Int) ≤ (j : Int) + 1) = True := eq_true (by omega)
    clear hxst
    go_enter Tryd.func102, Tryd.ntmps102
    go_wp2
    go_loopg [10] (l2.length - st) (fun gk v10 wr => ∃ (m : Nat), v10 = .int .i64 m ∧ Aside0 (m + gk = l2.length) ∧ Aside0 (RR = chooseL (chooseF (okBut l0 l1 l2) l2.length f) s gk m) ∧ Aside0 (wr.heap[g2]? = some (.cells #[.func (.func 102) #[] #[.pointer (some ⟨g1, 0, none⟩), .pointer (some ⟨g2, 0, none⟩)]] 146 (0, 0))) ∧ Aside0 (wr.heap[g1]? = some (.cells #[.slice A0 l0.length c0, .slice A1 l1.length c1, .slice A2 l2.length c2] 26 (0, 0))) ∧ Aside0 (Below W.heap.size W wr))
    case atStart => have hxx := HXST.out; exact ⟨st, by rw [HXST.out], ⟨by omega⟩, ⟨by first | exact HRR.out | (rw [HRR.out]; congr 1; omega)⟩, ⟨HG2.out⟩, ⟨HG1.out⟩, ⟨Below.refl _ _⟩⟩
    case round =>
      obtain ⟨m, rfl, HK, HS, HG2R, HG1R, HBR⟩ := hrel
      have k2 := (blk_cell HG1R.out 2).trans rfl
      cases gk with
      | zero =>
        have hge : ¬ m < l2.length := by have := HK.out; omega
        have HNO : Hid (RR = none) := Lib.hid HS.out
        have hch : ∀ v w', ChP RR v w' := fun v w' L hL => by rw [HNO.out] at hL; cases hL
        have HCH := Lib.hid hch
        have HIS : Hid (RR.isSome = false) := Lib.hid (by rw [HNO.out]; rfl)
        clear hch
        go_wp2
        go_ret2
        exact ⟨_, by rw [HIS.out]; rfl, HCH.out _ _, HBR.out⟩
      | succ g1' =>
        have hlt : m < l2.length := by have := HK.out; omega
        obtain ⟨R9, hR9⟩ : ∃ R, R = chooseF (okBut l0 l1 l2) l2.length f (s ++ [(m : Int)]) := ⟨_, rfl⟩
        have HIH := Lib.hid (HIHM.out m hlt)
        rw [← hR9] at HIH
        have hm4 : m ≤ 4 := by omega
        cases R9 with
        | none =>
          have HSN : Hid (RR = chooseL (chooseF (okBut l0 l1 l2) l2.length f) s g1' (m + 1)) := by
            refine Lib.hid ?_
            rw [HS.out]
            show (match chooseF (okBut l0 l1 l2) l2.length f (s ++ [(m : Int)]) with | some l => some l | none => _) = _
            rw [← hR9]
          clear hR9
          go_upto_region 10 with fail
          have hBP : Below wr.heap.size wr wr.drew := by repeat (first | exact Below.refl _ _ | refine Below.alloc ?_ (by simp <;> omega) _ | refine Below.setCell ?_ (by simp <;> omega) _ | apply Below.drew)
          have HG2D := Lib.hid (blk_below HG2R.out hBP)
          have HBD := Lib.hid (HBR.out.trans (below_weaken hBP HBR.out.size))
          have HN9 := Lib.hid (HN9.out m)
          clear hBP
          refine start_ (n := 15) (S := fun w' => w'.cell? ⟨g2, 0, none⟩ = some (.func (.func 102) #[] #[.pointer (some ⟨g1, 0, none⟩), .pointer (some ⟨g2, 0, none⟩)])) (ds := []) #[false, false, false, false, false, false, false, false, false, false, false, false, false, false, false] (by kernel_rfl) rfl rfl ((blk_cell HG2D.out 0).trans rfl) (fun hHeld => ?_)
          refine pure_ (i := 1) (N := some 43) (v := ?_) (a' := ?_) #[false, true, false, false, false, false, false, false, false, false, false, false, false, false, false] rfl rfl (by kernel_rfl) (fun _ _ _ h => h) (Or.inl ⟨by rfl, ?_⟩) ?_ ?_
          rotate_left
          · intro w'
            go_simp
            with_reducible rfl
          rotate_left
          · simp only [Act.put, List.setIfInBounds_toArray, List.set_cons_zero, List.set_cons_succ, i64_w, i32_w]
            rfl
          refine pure_ (i := 2) (N := some 44) (v := ?_) (a' := ?_) #[false, true, true, false, false, false, false, false, false, false, false, false, false, false, false] rfl rfl (by kernel_rfl) (fun _ _ _ h => h) (Or.inl ⟨by rfl, ?_⟩) ?_ ?_
          rotate_left
          · intro w'
            go_simp
            with_reducible rfl
          rotate_left
          · simp only [Act.put, List.setIfInBounds_toArray, List.set_cons_zero, List.set_cons_succ, i64_w, i32_w]
            rfl
          refine pure_ (i := 3) (N := some 45) (v := ?_) (a' := ?_) #[false, true, true, true, false, false, false, false, false, false, false, false, false, false, false] rfl rfl (by kernel_rfl) (fun _ _ _ h => h) (Or.inl ⟨by rfl, ?_⟩) ?_ ?_
          rotate_left
          · intro w'
            go_simp
            with_reducible rfl
          rotate_left
          · simp only [Act.put, List.setIfInBounds_toArray, List.set_cons_zero, List.set_cons_succ, i64_w, i32_w]
            rfl
          refine pure_ (i := 4) (N := some 46) (v := ?_) (a' := ?_) #[false, true, true, true, true, false, false, false, false, false, false, false, false, false, false] rfl rfl (by kernel_rfl) (fun _ _ _ h => h) (Or.inl ⟨by rfl, ?_⟩) ?_ ?_
          rotate_left
          · intro w'
            go_simp
            with_reducible rfl
          rotate_left
          · simp only [Act.put, List.setIfInBounds_toArray, List.set_cons_zero, List.set_cons_succ, i64_w, i32_w]
            rfl
          refine pure_ (i := 5) (N := some 47) (v := ?_) (a' := ?_) #[false, true, true, true, true, true, false, false, false, false, false, false, false, false, false] rfl rfl (by kernel_rfl) (fun _ _ _ h => h) (Or.inl ⟨by rfl, ?_⟩) ?_ ?_
          rotate_left
          · intro w'
            go_simp
            with_reducible rfl
          rotate_left
          · simp only [Act.put, List.setIfInBounds_toArray, List.set_cons_zero, List.set_cons_succ, i64_w, i32_w]
            rfl
          refine pure_ (i := 8) (N := some 50) (v := ?_) (a' := ?_) #[false, true, true, true, true, true, false, false, true, false, false, false, false, false, false] rfl rfl (by kernel_rfl) (fun _ _ _ h => h) (Or.inl ⟨by rfl, ?_⟩) ?_ ?_
          rotate_left
          · intro w'
            go_simp
            with_reducible rfl
          rotate_left
          · simp only [Act.put, List.setIfInBounds_toArray, List.set_cons_zero, List.set_cons_succ, i64_w, i32_w]
            rfl
          refine take_ (i := 0) (N := some 42) (v := ?_) (a' := ?_) #[true, true, true, true, true, true, false, false, true, false, false, false, false, false, false] rfl rfl (by kernel_rfl) (fun _ _ _ h => h) (Or.inl ⟨by rfl, ?_⟩) hHeld ?_ ?_
          rotate_left
          · intro w' s0
            go_simp
            with_reducible rfl
          rotate_left
          · simp only [Act.put, List.setIfInBounds_toArray, List.set_cons_zero, List.set_cons_succ, i64_w, i32_w]
            rfl
          refine one_ (i := 6) (N := some 48) #[true, true, true, true, true, true, true, false, true, false, false, false, false, false, false] rfl rfl (by kernel_rfl) (by decide) (fun K hK => ?_)
          refine value_ (w1 := ?_) (v := ?_) (by rfl) rfl ?_ ?_
          rotate_left 2
          · go_simp
            constructor
            · rfl
            · rfl
          have h2a := blk_alloc HG2D.out (.cells #[.int .i64 (m : Int)] 3)
          have hnw := blk_new wr.drew (.cells #[.int .i64 (m : Int)] 3)
          have HHA := Lib.hid (HBD.out.alloc HBD.out.size (.cells #[.int .i64 (m : Int)] 3))
          refine hK.out _ _ ((blk_cell h2a 0).trans rfl) (fun hHeld => ?_)
          clear hK K
          refine norm_ (a' := ?_) ?_ ?_
          rotate_left
          · show Act.put _ (some 48) _ = _
            simp only [Act.put, List.setIfInBounds_toArray, List.set_cons_zero, List.set_cons_succ, i64_w, i32_w]
            rfl
          refine one_ (i := 7) (N := some 49) #[true, true, true, true, true, true, true, true, true, false, false, false, false, false, false] rfl rfl (by kernel_rfl) (by decide) (fun K hK => ?_)
          refine step_append_grows rfl (.tmp 46) (.tmp 48) 45 (by rfl) 3 i3 _ 1 8 Tryd.underlying45 hi3 hz0 hz1 hz2 rfl (by decide) (some ⟨b, o, none⟩) (j + 1) (j + 1) (s.flatMap eI) (by rfl) (fun h => by cases h) (by rw [flat_length eI_len s, HN8.out]) (HFLAT.out _ HHA.out) ⟨wr.drew.heap.size, 0, none⟩ 1 1 [.int .i64 (m : Int)] (by rfl) rfl ?aC ?aO (by omega) (by unfold maxLen; omega) (by omega) ?_
          (case aC => exact fun j u hj => (cell_add hnw j).trans (by simpa using hj))
          (case aO => exact fun u hu => by simp at hu; rcases hu with rfl; rfl)
          intro v6 w9 ho9 hg9
          have h29 := (hg9.block _ (blk_lt h2a) (by simp)).trans h2a
          have HB9 := Lib.hid (HHA.out.grown hg9 (by have := HHA.out.size; omega) (fun j ej => by simp at ej))
          rw [show s.flatMap eI ++ [.int .i64 (m : Int)] = (s ++ [(m : Int)]).flatMap eI by simp [eI]] at ho9
          obtain ⟨eL, A9, c9, ev, hF9, hc9⟩ := frow_own' eI_len (by decide) ho9
          clear eL
          rw [HN9.out] at ev hc9
          subst ev
          have HC9 := Lib.hid hc9
          have HF9 := Lib.hid hF9
          clear hc9 hF9 ho9 hg9 hnw
          refine hK.out _ _ ((blk_cell h29 0).trans rfl) (fun hHeld => ?_)
          clear hK K
          refine norm_ (a' := ?_) ?_ ?_
          rotate_left
          · show Act.put _ (some 49) _ = _
            simp only [Act.put, List.setIfInBounds_toArray, List.set_cons_zero, List.set_cons_succ, i64_w, i32_w]
            rfl
          refine one_ (i := 9) (N := some 51) #[true, true, true, true, true, true, true, true, true, true, false, false, false, false, false] rfl rfl (by kernel_rfl) (by decide) (fun K hK => ?_)
          refine goesV_ Tryd.func102 (by kernel_rfl) rfl #[.slice A9 n9 c9, .int .i64 (many : Int), .pointer (some ⟨g1, 0, none⟩), .pointer (some ⟨g2, 0, none⟩)] #[] #[.pointer (some ⟨g1, 0, none⟩), .pointer (some ⟨g2, 0, none⟩)] (by rfl) rfl rfl rfl (by simp only [List.map_toArray, List.map_cons, List.map_nil]; rfl) ?_
          refine (HIH.out _ A9 c9 HB9.out HF9.out HC9.out).mono ?_
          rintro e w10 ⟨v, rfl, hP, hb⟩
          refine ⟨_, rfl, ?_⟩
          have h210 := blk_below h29 hb
          have HB10 := Lib.hid (HB9.out.trans (below_weaken hb HB9.out.size))
          have HP := Lib.hid hP
          clear hP hb
          refine hK.out _ _ ((blk_cell h210 0).trans rfl) (fun hHeld => ?_)
          clear hK K
          refine norm_ (a' := ?_) ?_ ?_
          rotate_left
          · show Act.put _ (some 51) _ = _
            simp only [Act.put, List.setIfInBounds_toArray, List.set_cons_zero, List.set_cons_succ, i64_w, i32_w]
            rfl
          refine pure_ (i := 10) (N := some 41) (v := ?_) (a' := ?_) #[true, true, true, true, true, true, true, true, true, true, true, false, false, false, false] rfl rfl (by kernel_rfl) (fun _ _ _ h => h) (Or.inl ⟨by rfl, ?_⟩) ?_ ?_
          rotate_left
          · intro w'
            go_simp
            with_reducible rfl
          rotate_left
          · simp only [Act.put, List.setIfInBounds_toArray, List.set_cons_zero, List.set_cons_succ, i64_w, i32_w]
            rfl
          refine pure_ (i := 11) (N := some 52) (v := ?_) (a' := ?_) #[true, true, true, true, true, true, true, true, true, true, true, true, false, false, false] rfl rfl (by kernel_rfl) (fun _ _ _ h => h) (Or.inl ⟨by rfl, ?_⟩) ?_ ?_
          rotate_left
          · intro w'
            go_simp
            with_reducible rfl
          rotate_left
          · simp only [Act.put, List.setIfInBounds_toArray, List.set_cons_zero, List.set_cons_succ, i64_w, i32_w]
            rfl
          refine pure_ (i := 12) (N := some 53) (v := ?_) (a' := ?_) #[true, true, true, true, true, true, true, true, true, true, true, true, true, false, false] rfl rfl (by kernel_rfl) (fun _ _ _ h => h) (Or.inl ⟨by rfl, ?_⟩) ?_ ?_
          rotate_left
          · intro w'
            go_simp
            with_reducible rfl
          rotate_left
          · simp only [Act.put, List.setIfInBounds_toArray, List.set_cons_zero, List.set_cons_succ, i64_w, i32_w]
            rfl
          refine pure_ (i := 13) (N := some 11) (v := ?_) (a' := ?_) #[true, true, true, true, true, true, true, true, true, true, true, true, true, true, false] rfl rfl (by kernel_rfl) (fun _ _ _ h => h) (Or.inl ⟨by rfl, ?_⟩) ?_ ?_
          rotate_left
          · intro w'
            go_simp
            with_reducible rfl
          rotate_left
          · simp only [Act.put, List.setIfInBounds_toArray, List.set_cons_zero, List.set_cons_succ, i64_w, i32_w]
            rfl
          refine pure_ (i := 14) (N := some 12) (v := ?_) (a' := ?_) #[true, true, true, true, true, true, true, true, true, true, true, true, true, true, true] rfl rfl (by kernel_rfl) (fun _ _ _ h => h) (Or.inl ⟨by rfl, ?_⟩) ?_ ?_
          rotate_left
          · intro w'
            go_simp
            with_reducible rfl
          rotate_left
          · simp only [Act.put, List.setIfInBounds_toArray, List.set_cons_zero, List.set_cons_succ, i64_w, i32_w]
            rfl
          refine done_ (by kernel_rfl) ?_

          go_wp2
          go_roundg g1'
          case measure => omega
          case rel => exact ⟨m + 1, by go_num, ⟨by have := HK.out; omega⟩, ⟨HSN.out⟩, ⟨h210⟩, ⟨blk_below HG1.out HB10.out⟩, ⟨HB10.out⟩⟩
        | some L =>
          have HSS : Hid (RR = some L) := by
            refine Lib.hid ?_
            rw [HS.out]
            show (match chooseF (okBut l0 l1 l2) l2.length f (s ++ [(m : Int)]) with | some l => some l | none => _) = _
            rw [← hR9]
          have HIS : Hid (RR.isSome = true) := Lib.hid (by rw [HSS.out]; rfl)
          clear hR9
          go_upto_region 10 with fail
          have hBP : Below wr.heap.size wr wr.drew := by repeat (first | exact Below.refl _ _ | refine Below.alloc ?_ (by simp <;> omega) _ | refine Below.setCell ?_ (by simp <;> omega) _ | apply Below.drew)
          have HG2D := Lib.hid (blk_below HG2R.out hBP)
          have HBD := Lib.hid (HBR.out.trans (below_weaken hBP HBR.out.size))
          have HN9 := Lib.hid (HN9.out m)
          clear hBP
          refine start_ (n := 15) (S := fun w' => w'.cell? ⟨g2, 0, none⟩ = some (.func (.func 102) #[] #[.pointer (some ⟨g1, 0, none⟩), .pointer (some ⟨g2, 0, none⟩)])) (ds := []) #[false, false, false, false, false, false, false, false, false, false, false, false, false, false, false] (by kernel_rfl) rfl rfl ((blk_cell HG2D.out 0).trans rfl) (fun hHeld => ?_)
          refine pure_ (i := 1) (N := some 43) (v := ?_) (a' := ?_) #[false, true, false, false, false, false, false, false, false, false, false, false, false, false, false] rfl rfl (by kernel_rfl) (fun _ _ _ h => h) (Or.inl ⟨by rfl, ?_⟩) ?_ ?_
          rotate_left
          · intro w'
            go_simp
            with_reducible rfl
          rotate_left
          · simp only [Act.put, List.setIfInBounds_toArray, List.set_cons_zero, List.set_cons_succ, i64_w, i32_w]
            rfl
          refine pure_ (i := 2) (N := some 44) (v := ?_) (a' := ?_) #[false, true, true, false, false, false, false, false, false, false, false, false, false, false, false] rfl rfl (by kernel_rfl) (fun _ _ _ h => h) (Or.inl ⟨by rfl, ?_⟩) ?_ ?_
          rotate_left
          · intro w'
            go_simp
            with_reducible rfl
          rotate_left
          · simp only [Act.put, List.setIfInBounds_toArray, List.set_cons_zero, List.set_cons_succ, i64_w, i32_w]
            rfl
          refine pure_ (i := 3) (N := some 45) (v := ?_) (a' := ?_) #[false, true, true, true, false, false, false, false, false, false, false, false, false, false, false] rfl rfl (by kernel_rfl) (fun _ _ _ h => h) (Or.inl ⟨by rfl, ?_⟩) ?_ ?_
          rotate_left
          · intro w'
            go_simp
            with_reducible rfl
          rotate_left
          · simp only [Act.put, List.setIfInBounds_toArray, List.set_cons_zero, List.set_cons_succ, i64_w, i32_w]
            rfl
          refine pure_ (i := 4) (N := some 46) (v := ?_) (a' := ?_) #[false, true, true, true, true, false, false, false, false, false, false, false, false, false, false] rfl rfl (by kernel_rfl) (fun _ _ _ h => h) (Or.inl ⟨by rfl, ?_⟩) ?_ ?_
          rotate_left
          · intro w'
            go_simp
            with_reducible rfl
          rotate_left
          · simp only [Act.put, List.setIfInBounds_toArray, List.set_cons_zero, List.set_cons_succ, i64_w, i32_w]
            rfl
          refine pure_ (i := 5) (N := some 47) (v := ?_) (a' := ?_) #[false, true, true, true, true, true, false, false, false, false, false, false, false, false, false] rfl rfl (by kernel_rfl) (fun _ _ _ h => h) (Or.inl ⟨by rfl, ?_⟩) ?_ ?_
          rotate_left
          · intro w'
            go_simp
            with_reducible rfl
          rotate_left
          · simp only [Act.put, List.setIfInBounds_toArray, List.set_cons_zero, List.set_cons_succ, i64_w, i32_w]
            rfl
          refine pure_ (i := 8) (N := some 50) (v := ?_) (a' := ?_) #[false, true, true, true, true, true, false, false, true, false, false, false, false, false, false] rfl rfl (by kernel_rfl) (fun _ _ _ h => h) (Or.inl ⟨by rfl, ?_⟩) ?_ ?_
          rotate_left
          · intro w'
            go_simp
            with_reducible rfl
          rotate_left
          · simp only [Act.put, List.setIfInBounds_toArray, List.set_cons_zero, List.set_cons_succ, i64_w, i32_w]
            rfl
          refine take_ (i := 0) (N := some 42) (v := ?_) (a' := ?_) #[true, true, true, true, true, true, false, false, true, false, false, false, false, false, false] rfl rfl (by kernel_rfl) (fun _ _ _ h => h) (Or.inl ⟨by rfl, ?_⟩) hHeld ?_ ?_
          rotate_left
          · intro w' s0
            go_simp
            with_reducible rfl
          rotate_left
          · simp only [Act.put, List.setIfInBounds_toArray, List.set_cons_zero, List.set_cons_succ, i64_w, i32_w]
            rfl
          refine one_ (i := 6) (N := some 48) #[true, true, true, true, true, true, true, false, true, false, false, false, false, false, false] rfl rfl (by kernel_rfl) (by decide) (fun K hK => ?_)
          refine value_ (w1 := ?_) (v := ?_) (by rfl) rfl ?_ ?_
          rotate_left 2
          · go_simp
            constructor
            · rfl
            · rfl
          have h2a := blk_alloc HG2D.out (.cells #[.int .i64 (m : Int)] 3)
          have hnw := blk_new wr.drew (.cells #[.int .i64 (m : Int)] 3)
          have HHA := Lib.hid (HBD.out.alloc HBD.out.size (.cells #[.int .i64 (m : Int)] 3))
          refine hK.out _ _ ((blk_cell h2a 0).trans rfl) (fun hHeld => ?_)
          clear hK K
          refine norm_ (a' := ?_) ?_ ?_
          rotate_left
          · show Act.put _ (some 48) _ = _
            simp only [Act.put, List.setIfInBounds_toArray, List.set_cons_zero, List.set_cons_succ, i64_w, i32_w]
            rfl
          refine one_ (i := 7) (N := some 49) #[true, true, true, true, true, true, true, true, true, false, false, false, false, false, false] rfl rfl (by kernel_rfl) (by decide) (fun K hK => ?_)
          refine step_append_grows rfl (.tmp 46) (.tmp 48) 45 (by rfl) 3 i3 _ 1 8 Tryd.underlying45 hi3 hz0 hz1 hz2 rfl (by decide) (some ⟨b, o, none⟩) (j + 1) (j + 1) (s.flatMap eI) (by rfl) (fun h => by cases h) (by rw [flat_length eI_len s, HN8.out]) (HFLAT.out _ HHA.out) ⟨wr.drew.heap.size, 0, none⟩ 1 1 [.int .i64 (m : Int)] (by rfl) rfl ?aC ?aO (by omega) (by unfold maxLen; omega) (by omega) ?_
          (case aC => exact fun j u hj => (cell_add hnw j).trans (by simpa using hj))
          (case aO => exact fun u hu => by simp at hu; rcases hu with rfl; rfl)
          intro v6 w9 ho9 hg9
          have h29 := (hg9.block _ (blk_lt h2a) (by simp)).trans h2a
          have HB9 := Lib.hid (HHA.out.grown hg9 (by have := HHA.out.size; omega) (fun j ej => by simp at ej))
          rw [show s.flatMap eI ++ [.int .i64 (m : Int)] = (s ++ [(m : Int)]).flatMap eI by simp [eI]] at ho9
          obtain ⟨eL, A9, c9, ev, hF9, hc9⟩ := frow_own' eI_len (by decide) ho9
          clear eL
          rw [HN9.out] at ev hc9
          subst ev
          have HC9 := Lib.hid hc9
          have HF9 := Lib.hid hF9
          clear hc9 hF9 ho9 hg9 hnw
          refine hK.out _ _ ((blk_cell h29 0).trans rfl) (fun hHeld => ?_)
          clear hK K
          refine norm_ (a' := ?_) ?_ ?_
          rotate_left
          · show Act.put _ (some 49) _ = _
            simp only [Act.put, List.setIfInBounds_toArray, List.set_cons_zero, List.set_cons_succ, i64_w, i32_w]
            rfl
          refine one_ (i := 9) (N := some 51) #[true, true, true, true, true, true, true, true, true, true, false, false, false, false, false] rfl rfl (by kernel_rfl) (by decide) (fun K hK => ?_)
          refine goesV_ Tryd.func102 (by kernel_rfl) rfl #[.slice A9 n9 c9, .int .i64 (many : Int), .pointer (some ⟨g1, 0, none⟩), .pointer (some ⟨g2, 0, none⟩)] #[] #[.pointer (some ⟨g1, 0, none⟩), .pointer (some ⟨g2, 0, none⟩)] (by rfl) rfl rfl rfl (by simp only [List.map_toArray, List.map_cons, List.map_nil]; rfl) ?_
          refine (HIH.out _ A9 c9 HB9.out HF9.out HC9.out).mono ?_
          rintro e w10 ⟨v, rfl, hP, hb⟩
          refine ⟨_, rfl, ?_⟩
          have h210 := blk_below h29 hb
          have HB10 := Lib.hid (HB9.out.trans (below_weaken hb HB9.out.size))
          have HP := Lib.hid hP
          clear hP hb
          refine hK.out _ _ ((blk_cell h210 0).trans rfl) (fun hHeld => ?_)
          clear hK K
          refine norm_ (a' := ?_) ?_ ?_
          rotate_left
          · show Act.put _ (some 51) _ = _
            simp only [Act.put, List.setIfInBounds_toArray, List.set_cons_zero, List.set_cons_succ, i64_w, i32_w]
            rfl
          refine pure_ (i := 10) (N := some 41) (v := ?_) (a' := ?_) #[true, true, true, true, true, true, true, true, true, true, true, false, false, false, false] rfl rfl (by kernel_rfl) (fun _ _ _ h => h) (Or.inl ⟨by rfl, ?_⟩) ?_ ?_
          rotate_left
          · intro w'
            go_simp
            with_reducible rfl
          rotate_left
          · simp only [Act.put, List.setIfInBounds_toArray, List.set_cons_zero, List.set_cons_succ, i64_w, i32_w]
            rfl
          refine pure_ (i := 11) (N := some 52) (v := ?_) (a' := ?_) #[true, true, true, true, true, true, true, true, true, true, true, true, false, false, false] rfl rfl (by kernel_rfl) (fun _ _ _ h => h) (Or.inl ⟨by rfl, ?_⟩) ?_ ?_
          rotate_left
          · intro w'
            go_simp
            with_reducible rfl
          rotate_left
          · simp only [Act.put, List.setIfInBounds_toArray, List.set_cons_zero, List.set_cons_succ, i64_w, i32_w]
            rfl
          refine pure_ (i := 12) (N := some 53) (v := ?_) (a' := ?_) #[true, true, true, true, true, true, true, true, true, true, true, true, true, false, false] rfl rfl (by kernel_rfl) (fun _ _ _ h => h) (Or.inl ⟨by rfl, ?_⟩) ?_ ?_
          rotate_left
          · intro w'
            go_simp
            with_reducible rfl
          rotate_left
          · simp only [Act.put, List.setIfInBounds_toArray, List.set_cons_zero, List.set_cons_succ, i64_w, i32_w]
            rfl
          refine pure_ (i := 13) (N := some 11) (v := ?_) (a' := ?_) #[true, true, true, true, true, true, true, true, true, true, true, true, true, true, false] rfl rfl (by kernel_rfl) (fun _ _ _ h => h) (Or.inl ⟨by rfl, ?_⟩) ?_ ?_
          rotate_left
          · intro w'
            go_simp
            with_reducible rfl
          rotate_left
          · simp only [Act.put, List.setIfInBounds_toArray, List.set_cons_zero, List.set_cons_succ, i64_w, i32_w]
            rfl
          refine pure_ (i := 14) (N := some 12) (v := ?_) (a' := ?_) #[true, true, true, true, true, true, true, true, true, true, true, true, true, true, true] rfl rfl (by kernel_rfl) (fun _ _ _ h => h) (Or.inl ⟨by rfl, ?_⟩) ?_ ?_
          rotate_left
          · intro w'
            go_simp
            with_reducible rfl
          rotate_left
          · simp only [Act.put, List.setIfInBounds_toArray, List.set_cons_zero, List.set_cons_succ, i64_w, i32_w]
            rfl
          refine done_ (by kernel_rfl) ?_

          go_wp2
          go_ret2
          exact ⟨_, by rw [HIS.out]; rfl, by rw [HSS.out]; exact HP.out, HB10.out⟩
end Go.Proofs.YthgjedagbgmgmaaDoor.Pr
namespace Go.Proofs.YthgjedagbgmgmaaDoor.Pr
open Go.RowKit Go.Proofs.YthgjedagbgmgmaaDoorW.PrintWords Go.Proofs.YthgjedagbgmgmaaDoorW.PrintLast Go.Proofs.YthgjedagbgmgmaaDoorW.PrintMore
set_option linter.unusedVariables false
set_option linter.unusedSimpArgs false
theorem choose_calls (g1 g2 : Nat) (A0 A1 A2 : Option Addr) (c0 c1 c2 : Nat) (l0 : List S92) (l1 : List S90) (l2 : List S43) (w0 : World) (hG : GOK w0) (hr0 : FRow e92 2 w0 A0 l0) (hc0 : l0.length ≤ c0) (hr1 : FRow e90 3 w0 A1 l1) (hr2 : FRow e43 2 w0 A2 l2) (hc2 : l2.length ≤ c2) (hok : okBook l0 l1 l2 = true)
    (hg1 : w0.heap[g1]? = some (.cells #[.slice A0 l0.length c0, .slice A1 l1.length c1, .slice A2 l2.length c2] 26 (0, 0))) (hg2 : w0.heap[g2]? = some (.cells #[.func (.func 102) #[] #[.pointer (some ⟨g1, 0, none⟩), .pointer (some ⟨g2, 0, none⟩)]] 146 (0, 0))) (f : Nat) : ∀ (many : Nat) (W : World) (A : Option Addr) (c : Nat) (s : List Int), Below w0.heap.size w0 W → FRow eI 1 W A s → s.length ≤ c → s.length + f = many → many ≤ 4 → (∀ x ∈ s, 0 ≤ x ∧ x < (l2.length : Int)) →
      Calls Tryd.prog 102 #[.slice A s.length c, .int .i64 (many : Int), .pointer (some ⟨g1, 0, none⟩), .pointer (some ⟨g2, 0, none⟩)] W fun e w' => ∃ v, e = .returned (.tuple #[v, .bool (chooseF (okBut l0 l1 l2) l2.length f s).isSome]) ∧ ChP (chooseF (okBut l0 l1 l2) l2.length f s) v w' ∧ Below W.heap.size W w' := by
  induction f with
  | zero =>
    intro many W A c s hB hF hc hm hm4 hx
    obtain rfl : s.length = many := by omega
    exact choose0_calls g1 g2 A0 A1 A2 c0 c1 c2 l0 l1 l2 w0 hG hr0 hc0 hr1 hr2 hc2 hok hg1 hg2 W A c s hB hF hc hm4
  | succ f ih =>
    intro many W A c s hB hF hc hm hm4 hx
    exact choose_step g1 g2 A0 A1 A2 c0 c1 c2 l0 l1 l2 w0 hG hr0 hc0 hr1 hr2 hc2 hok hg1 hg2 f many (ih many) W A c s hB hF hc hm hm4 hx
/-- The looks that must be wrong. -/
def wrongF (ls : List S92) (ds : List S90) (ks : List S43) : List Int × Int := if okBook ls ds ks then ((chooseAll (okBut ls ds ks) ks.length (ks.length + 1) 0).getD [], 0) else ([], 70)
def SliceOf (L : List Int) (v : Value) (W : World) : Prop := ∃ A c, v = .slice A L.length c ∧ FRow eI 1 W A L ∧ L.length ≤ c
set_option maxHeartbeats 4000000 in
set_option maxRecDepth 100000 in
theorem wrong_calls (A0 A1 A2 : Option Addr) (c0 c1 c2 : Nat) (l0 : List S92) (l1 : List S90) (l2 : List S43) (w : World) (hG : GOK w) (hr0 : Kd.C k92 w A0 l0.length l0) (hc0 : l0.length ≤ c0) (hr1 : Kd.C k90 w A1 l1.length l1) (hc1 : l1.length ≤ c1) (hr2 : Kd.C k43 w A2 l2.length l2) (hc2 : l2.length ≤ c2) :
    Calls Tryd.prog 40 #[.agg #[.slice A0 l0.length c0, .slice A1 l1.length c1, .slice A2 l2.length c2]] w fun e w' => ∃ v, e = .returned (.tuple #[v, .int .i64 (wrongF l0 l1 l2).2]) ∧ SliceOf (wrongF l0 l1 l2).1 v w' ∧ Below w.heap.size w w' := by
  have h0 : (l0.length : Int) ≤ 9223372036854775807 := by have := hr0.2.1; omega
  have h1 : (l1.length : Int) ≤ 9223372036854775807 := by have := hr1.2.1; omega
  have h2 : (l2.length : Int) ≤ 9223372036854775807 := by have := hr2.2.1; omega
  obtain ⟨ok, hok⟩ : ∃ b, b = okBook l0 l1 l2 := ⟨_, rfl⟩
  have HCC : ∀ W, Below w.heap.size w W → Calls Tryd.prog 19 #[.agg #[.slice A0 l0.length c0, .slice A1 l1.length c1, .slice A2 l2.length c2]] W fun e w' => e = .returned (.int .i64 (if ok then 0 else 70)) ∧ Below W.heap.size W w' := by
    intro W hW
    rw [hok]
    exact check_calls A0 A1 A2 c0 c1 c2 l0 l1 l2 W (Kd.C_below hr0 hW) hc0 (Kd.C_below hr1 hW) hc1 (Kd.C_below hr2 hW) hc2 h0 h1 h2
  unfold wrongF
  rw [← hok]
  have HOK := Lib.hid hok
  have HG := Lib.hid hG
  have H0 := Lib.hid (row92 hr0)
  have H1 := Lib.hid (row90 hr1)
  have H2 := Lib.hid (row43 hr2)
  clear hok hG hr0 hr1 hr2 h0 h1 h2
  cases ok
  · simp only [Bool.false_eq_true, if_false] at HCC ⊢
    go_enter Tryd.func40, Tryd.ntmps40
    go_wp2_with (go_at_call 19; refine (HCC _ ?hw).mono ?_; (case hw => exact by repeat (first | exact Below.refl _ _ | refine Below.alloc ?_ (by simp <;> omega) _ | refine Below.setCell ?_ (by simp <;> omega) _ | apply Below.drew)); rintro e w1 ⟨rfl, hB1⟩)
    go_ret2
    exact ⟨_, rfl, ⟨none, 0, rfl, .inl rfl, Nat.le_refl _⟩, ((Below.refl w.heap.size w).alloc (Nat.le_refl _) _).trans (below_weaken hB1 (by simp))⟩
  · simp only [if_true] at HCC ⊢
    have hl24 : l2.length ≤ 4 := (ok_facts HOK.out.symm).2.2.2.2.1
    obtain ⟨RR, hRR⟩ : ∃ R, R = chooseAll (okBut l0 l1 l2) l2.length (l2.length + 1) 0 := ⟨_, rfl⟩
    rw [← hRR]
    have HRR := Lib.hid hRR
    clear hRR
    obtain ⟨RD, hRD⟩ : ∃ R, R = RR.getD [] := ⟨_, rfl⟩
    rw [← hRD]
    have HRD := Lib.hid hRD
    clear hRD
    go_enter Tryd.func40, Tryd.ntmps40
    go_wp2_with fail
    refine (HCC _ ?hw).mono ?_
    (case hw => exact by repeat (first | exact Below.refl _ _ | refine Below.alloc ?_ (by simp <;> omega) _ | refine Below.setCell ?_ (by simp <;> omega) _ | apply Below.drew))
    rintro e w1 ⟨rfl, hB1⟩
    have hg1 : w1.heap[w.heap.size]? = some (.cells #[.slice A0 l0.length c0, .slice A1 l1.length c1, .slice A2 l2.length c2] 26 (0, 0)) := blk_below (blk_new w _) hB1
    have HG1 := Lib.hid hg1
    have k2 := (blk_cell hg1 2).trans rfl
    have l1' := blk_lt hg1
    have HB1 := Lib.hid ((show Below w.heap.size w _ from by repeat (first | exact Below.refl _ _ | refine Below.alloc ?_ (by simp <;> omega) _ | refine Below.setCell ?_ (by simp <;> omega) _ | apply Below.drew)).trans (below_weaken hB1 (by simp)))
    have hCH : ∀ (WC : World), Below w1.heap.size w1 WC → WC.heap[w1.heap.size]? = some (.cells #[.func (.func 102) #[] #[.pointer (some ⟨w.heap.size, 0, none⟩), .pointer (some ⟨w1.heap.size, 0, none⟩)]] 146 (0, 0)) → ∀ (many : Nat) (W : World), Below WC.heap.size WC W → many ≤ 4 →
        Calls Tryd.prog 102 #[.slice none 0 0, .int .i64 (many : Int), .pointer (some ⟨w.heap.size, 0, none⟩), .pointer (some ⟨w1.heap.size, 0, none⟩)] W fun e w' => ∃ v, e = .returned (.tuple #[v, .bool (chooseF (okBut l0 l1 l2) l2.length many []).isSome]) ∧ ChP (chooseF (okBut l0 l1 l2) l2.length many []) v w' ∧ Below W.heap.size W w' := by
      intro WC hWC hcl many W hW hm4
      have hww := HB1.out.trans (below_weaken hWC HB1.out.size)
      exact choose_calls w.heap.size w1.heap.size A0 A1 A2 c0 c1 c2 l0 l1 l2 WC (HG.out.below hww) (H0.out.below hww) hc0 (H1.out.below hww) (H2.out.below hww) hc2 HOK.out.symm (blk_below HG1.out hWC) hcl many many W none 0 [] hW (.inl rfl) (Nat.le_refl _) (by simp) hm4 (fun x hx => by simp at hx)
    have HCH := Lib.hid hCH
    clear hg1 hB1 hCH HCC
    go_wp2
    obtain ⟨WC, hWC⟩ : ∃ W, W = w1.alloc (.cells #[.func (.func 102) #[] #[.pointer (some ⟨w.heap.size, 0, none⟩), .pointer (some ⟨w1.heap.size, 0, none⟩)]] 146) := ⟨_, rfl⟩
    rw [← hWC]
    have hBC : Below w1.heap.size w1 WC := by rw [hWC]; exact by repeat (first | exact Below.refl _ _ | refine Below.alloc ?_ (by simp <;> omega) _ | refine Below.setCell ?_ (by simp <;> omega) _ | apply Below.drew)
    have HCL := Lib.hid (show WC.heap[w1.heap.size]? = some (.cells #[.func (.func 102) #[] #[.pointer (some ⟨w.heap.size, 0, none⟩), .pointer (some ⟨w1.heap.size, 0, none⟩)]] 146 (0, 0)) by rw [hWC]; exact blk_new _ _)
    have HCHW := Lib.hid (HCH.out WC hBC HCL.out)
    have HBC := Lib.hid (HB1.out.trans (below_weaken hBC HB1.out.size))
    clear hWC hBC HCH k2
    go_loopg [19] (l2.length + 1) (fun gk v19 wr => ∃ (k : Nat), v19 = .int .i64 k ∧ Aside0 (k + gk = l2.length + 1) ∧ Aside0 (RR = chooseAll (okBut l0 l1 l2) l2.length gk k) ∧ Aside0 (Below WC.heap.size WC wr))
    case atStart => exact ⟨0, rfl, ⟨by omega⟩, ⟨HRR.out⟩, ⟨Below.refl _ _⟩⟩
    case round =>
      obtain ⟨k, rfl, HK, HS, HBR⟩ := hrel
      cases gk with
      | zero =>
        have hge : ¬ (k : Int) < (l2.length : Int) + 1 := by have := HK.out; omega
        have HNO : Hid (RD = []) := Lib.hid (by rw [HRD.out, HS.out]; rfl)
        go_wp2
        go_ret2
        exact ⟨_, rfl, by rw [HNO.out]; exact ⟨none, 0, rfl, .inl rfl, Nat.le_refl _⟩, HBC.out.trans (below_weaken HBR.out HBC.out.size)⟩
      | succ g1 =>
        have hlt : (k : Int) < (l2.length : Int) + 1 := by have := HK.out; omega
        have hk4 : k ≤ 4 := by omega
        have hclc := (blk_cell (blk_below HCL.out HBR.out) 0).trans rfl
        obtain ⟨R9, hR9⟩ : ∃ R, R = chooseF (okBut l0 l1 l2) l2.length k [] := ⟨_, rfl⟩
        have HIH := Lib.hid (HCHW.out k wr HBR.out hk4)
        rw [← hR9] at HIH
        cases R9 with
        | none =>
          have HSN : Hid (RR = chooseAll (okBut l0 l1 l2) l2.length g1 (k + 1)) := by
            refine Lib.hid ?_
            rw [HS.out]
            show (match chooseF (okBut l0 l1 l2) l2.length k [] with | some l => some l | none => _) = _
            rw [← hR9]
          clear hR9
          go_wp2_with fail
          refine HIH.out.mono ?_
          rintro e w9 ⟨v, rfl, _, hB9⟩
          have HB9 := Lib.hid (HBR.out.trans (below_weaken hB9 HBR.out.size))
          clear hB9 hclc
          go_wp2
          go_roundg g1
          case measure => omega
          case rel => exact ⟨k + 1, by go_num, ⟨by have := HK.out; omega⟩, ⟨HSN.out⟩, ⟨HB9.out⟩⟩
        | some L =>
          have HSS : Hid (RD = L) := by
            refine Lib.hid ?_
            rw [HRD.out, HS.out]
            show (match chooseF (okBut l0 l1 l2) l2.length k [] with | some l => some l | none => _).getD [] = _
            rw [← hR9]
            rfl
          clear hR9
          go_wp2_with fail
          refine HIH.out.mono ?_
          rintro e w9 ⟨v, rfl, hP, hB9⟩
          obtain ⟨A9, c9, rfl, hF9, hc9⟩ := hP L rfl
          have HB9 := Lib.hid (HBR.out.trans (below_weaken hB9 HBR.out.size))
          have HF9 := Lib.hid hF9
          have hcI : ((L.length : Int) ≤ (c9 : Int)) = True := eq_true (by omega)
          clear hB9 hclc hF9 hP hc9
          go_wp2
          go_ret2
          exact ⟨_, rfl, by rw [HSS.out]; exact ⟨A9, L.length, rfl, HF9.out, Nat.le_refl _⟩, HBC.out.trans (below_weaken HB9.out HBC.out.size)⟩
end Go.Proofs.YthgjedagbgmgmaaDoor.Pr
