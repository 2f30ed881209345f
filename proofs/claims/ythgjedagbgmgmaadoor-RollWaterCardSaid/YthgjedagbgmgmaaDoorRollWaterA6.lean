/- Part 6 of the proof that RollWater answers true: contracts and laws, merged by a program. -/
import Derived.Deep.RegionLawGrows
import Derived.Test.YthgjedagbgmgmaaDoorCards
import Derived.Test.YthgjedagbgmgmaaDoorTie
import Derived.WalkKit
import Derived.ProofKit
import Derived.OpenShut
import Derived.Deep.DeepHandedRow
import Derived.Deep.DeepWitnessRowRef
import Derived.Lib.LaidTab
import Derived.Lib.LaidU8
import Derived.LaidMore
import Derived.Lib.SmallJoins
import Derived.Deep.Slices
import Derived.Carry
import Derived.Laws.IdiomArrays
import Derived.SevenTiedAt
import Derived.IntWalk
import Derived.Test.YthgjedagbgmgmaaDoorRollWaterA5
namespace Go.Proofs.YthgjedagbgmgmaaDoor.Pr
open Go.RowKit Go.Proofs.YthgjedagbgmgmaaDoorW.PrintWords Go.Proofs.YthgjedagbgmgmaaDoorW.PrintLast Go.Proofs.YthgjedagbgmgmaaDoorW.PrintMore
set_option linter.unusedVariables false
set_option linter.unusedSimpArgs false
set_option maxHeartbeats 4000000 in
set_option maxRecDepth 100000 in
theorem water_calls (A0 A1 A2 : Option Addr) (c0 c1 c2 : Nat) (l0 : List S92) (l1 : List S90) (l2 : List S43) (w : World) (hG : GOK w) (hr0 : Kd.C k92 w A0 l0.length l0) (hc0 : l0.length ≤ c0) (hr1 : Kd.C k90 w A1 l1.length l1) (hc1 : l1.length ≤ c1) (hr2 : Kd.C k43 w A2 l2.length l2) (hc2 : l2.length ≤ c2) :
    Calls Tryd.prog 36 #[.agg #[.slice A0 l0.length c0, .slice A1 l1.length c1, .slice A2 l2.length c2]] w fun e w' => e = .returned (.tuple #[.int .i64 (waterF l0 l1 l2).1, .int .i64 (waterF l0 l1 l2).2]) ∧ Below w.heap.size w w' := by
  have h0 : (l0.length : Int) ≤ 9223372036854775807 := by have := hr0.2.1; omega
  have h1 : (l1.length : Int) ≤ 9223372036854775807 := by have := hr1.2.1; omega
  have h2 : (l2.length : Int) ≤ 9223372036854775807 := by have := hr2.2.1; omega
  have HASK := Lib.hid (ask_calls A0 A1 A2 c0 c1 c2 l0 l1 l2 w hG hr0 hc0 hr1 hc1 hr2 hc2 h0 h1 h2 true)
  have HG := Lib.hid hG
  have HR0 := Lib.hid (row92 hr0)
  unfold waterF
  obtain ⟨code, hcode⟩ : ∃ c, c = askCode l0 l1 l2 true := ⟨_, rfl⟩
  rw [← hcode]
  rw [← hcode] at HASK
  have HCODE := Lib.hid hcode
  clear hG hr0 hr1 hr2 hcode h0 h2
  by_cases hz : code = 0
  · rw [if_pos hz]
    obtain ⟨ra, hra⟩ : ∃ x, x = (wRes (waterBest (fun d => worstF l0 l1.length (onF d) (truthsAll l0 l1 l2 [])) l1.length 0 (-1, worstF l0 l1.length neverF (truthsAll l0 l1 l2 [])))).1 := ⟨_, rfl⟩
    obtain ⟨rb, hrb⟩ : ∃ x, x = (wRes (waterBest (fun d => worstF l0 l1.length (onF d) (truthsAll l0 l1 l2 [])) l1.length 0 (-1, worstF l0 l1.length neverF (truthsAll l0 l1 l2 [])))).2 := ⟨_, rfl⟩
    rw [← hra, ← hrb]
    have HRA := Lib.hid hra
    have HRB := Lib.hid hrb
    clear hra hrb
    have ht : (code != 0) = false := by simpa using hz
    obtain ⟨hok, _, hT0⟩ := askCode_zero (HCODE.out.symm.trans hz)
    obtain ⟨o1, o2, o3, o4, o5, o6, o7⟩ := ok_facts hok
    have HOK := Lib.hid hok
    have HT0 := Lib.hid hT0
    have HZ := Lib.hid hz
    clear hz hok o5 o6 o7 o1 hT0 h1
    go_enter Tryd.func36, Tryd.ntmps36
    go_wp2_with fail
    refine (HASK.out _ ?hw).mono ?_
    (case hw => exact by repeat (first | exact Below.refl _ _ | refine Below.alloc ?_ (by simp <;> omega) _ | refine Below.setCell ?_ (by simp <;> omega) _ | apply Below.drew))
    rintro e w6 ⟨v, rfl, hP, hb⟩
    obtain ⟨B0, n0, d0, B1, n1, d1, B2, n2, d2, mp, B3, n3, d3, rfl, hP⟩ := hP
    obtain ⟨rfl, rfl, rfl, rfl, rfl, rfl, rfl, rfl, rfl, rfl, ho, mm, rfl, _, hmm⟩ := hP HZ.out
    have hg2 : w6.heap[w.heap.size]? = some (.cells #[.slice B0 l0.length d0, .slice B1 l1.length d1, .slice B2 l2.length d2] 26 (0, 0)) := blk_below (blk_new w _) hb
    have HB6 := Lib.hid ((show Below w.heap.size w _ from by repeat (first | exact Below.refl _ _ | refine Below.alloc ?_ (by simp <;> omega) _ | refine Below.setCell ?_ (by simp <;> omega) _ | apply Below.drew)).trans (below_weaken hb (by simp)))
    obtain ⟨hF, _, hcd⟩ := frow_own ho (truthsAll_60 o3)
    have HWN : Hid (∀ W, Below w6.heap.size w6 W → Calls Tryd.prog 98 #[.agg #[.slice B0 l0.length d0, .slice B1 l1.length d1, .slice B2 l2.length d2, .map (some mm), .slice B3 (truthsAll l0 l1 l2 []).length d3], .agg #[.func (.func 130) #[] #[]]] W fun e w' => e = .returned (.int .i64 (worstF l0 l1.length neverF (truthsAll l0 l1 l2 []))) ∧ Below W.heap.size W w') :=
      Lib.hid fun W hW => worstn_calls B0 B1 B2 B3 d0 d1 d2 d3 mm l0.length l0 l1 l2 W ((HG.out.below HB6.out).below hW) ((HR0.out.below HB6.out).below hW) hc0 HOK.out ((hW.block mm (Array.getElem?_eq_some_iff.1 hmm).1).trans hmm) (hF.below hW) HT0.out hcd
    have HWO : Hid (∀ (W : World) (a : Nat) (d : Int), Below w6.heap.size w6 W → W.cell? ⟨a, 0, none⟩ = some (.int .i64 d) → Calls Tryd.prog 98 #[.agg #[.slice B0 l0.length d0, .slice B1 l1.length d1, .slice B2 l2.length d2, .map (some mm), .slice B3 (truthsAll l0 l1 l2 []).length d3], .agg #[.func (.func 131) #[] #[.pointer (some ⟨a, 0, none⟩)]]] W fun e w' => e = .returned (.int .i64 (worstF l0 l1.length (onF d) (truthsAll l0 l1 l2 []))) ∧ Below W.heap.size W w') :=
      Lib.hid fun W a d hW hca => worsto_calls B0 B1 B2 B3 d0 d1 d2 d3 mm l0.length l0 l1 l2 d a W ((HG.out.below HB6.out).below hW) ((HR0.out.below HB6.out).below hW) hc0 HOK.out ((hW.block mm (Array.getElem?_eq_some_iff.1 hmm).1).trans hmm) (hF.below hW) HT0.out hcd hca
    obtain ⟨x0, hx0⟩ : ∃ x, x = worstF l0 l1.length neverF (truthsAll l0 l1 l2 []) := ⟨_, rfl⟩
    obtain ⟨g, hg⟩ : ∃ g : Int → Int, g = fun d => worstF l0 l1.length (onF d) (truthsAll l0 l1 l2 []) := ⟨_, rfl⟩
    have hge : ∀ d, worstF l0 l1.length (onF d) (truthsAll l0 l1 l2 []) = g d := fun d => by rw [hg]
    simp only [hge] at HWO
    rw [← hx0] at HWN
    have HX0 := Lib.hid hx0
    have HG2 := Lib.hid hg2
    have HRES : Hid (∀ b : Int × Int, waterBest g l1.length 0 (-1, x0) = b → ra = (wRes b).1 ∧ rb = (wRes b).2) :=
      Lib.hid fun b hb => by rw [HRA.out, HRB.out, ← HX0.out, ← hg, hb]; exact ⟨rfl, rfl⟩
    clear hx0 hg hge hP ho hF hcd hg2 hb hmm HOK HT0
    go_upto_region 4 with fail
    obtain ⟨wP, hwP⟩ : ∃ W, W = w6.alloc (.cells #[.slice B0 l0.length d0, .slice B1 l1.length d1, .slice B2 l2.length d2, .map (some mm), .slice B3 (truthsAll l0 l1 l2 []).length d3] 107) := ⟨_, rfl⟩
    rw [← hwP]
    have HGP := Lib.hid (show wP.drew.heap[w6.heap.size]? = some (.cells #[.slice B0 l0.length d0, .slice B1 l1.length d1, .slice B2 l2.length d2, .map (some mm), .slice B3 (truthsAll l0 l1 l2 []).length d3] 107 (0, 0)) by rw [hwP]; exact blk_new _ _)
    have hBP : Below w6.heap.size w6 wP.drew := by rw [hwP]; exact by repeat (first | exact Below.refl _ _ | refine Below.alloc ?_ (by simp <;> omega) _ | refine Below.setCell ?_ (by simp <;> omega) _ | apply Below.drew)
    have HBP := Lib.hid hBP
    clear hwP hBP
    refine start_ (n := 5) (S := fun w' => w'.cell? ⟨w6.heap.size, 0, none⟩ = some (.slice B0 l0.length d0) ∧ w'.cell? ⟨w6.heap.size, 1, none⟩ = some (.slice B1 l1.length d1) ∧ w'.cell? ⟨w6.heap.size, 2, none⟩ = some (.slice B2 l2.length d2) ∧ w'.cell? ⟨w6.heap.size, 3, none⟩ = some (.map (some mm)) ∧ w'.cell? ⟨w6.heap.size, 4, none⟩ = some (.slice B3 (truthsAll l0 l1 l2 []).length d3)) (ds := []) #[false, false, false, false, false] (by kernel_rfl) rfl rfl ⟨(blk_cell HGP.out 0).trans rfl, (blk_cell HGP.out 1).trans rfl, (blk_cell HGP.out 2).trans rfl, (blk_cell HGP.out 3).trans rfl, (blk_cell HGP.out 4).trans rfl⟩ (fun hHeld => ?_)
    refine ta_ 0 (some 18) (s := hHeld) (y := by rintro w' ⟨s0, s1, s2, s3, s4⟩; go_simp; with_reducible rfl) (h := ?_)
    refine one_ (i := 1) (N := some 19) #[true, true, false, false, false] rfl rfl (by kernel_rfl) (by decide) (fun K hK => ?_)
    refine goes_ Tryd.func99 (by kernel_rfl) rfl #[] (by rfl) rfl rfl (by simp only [List.map_toArray, List.map_nil]) ?_
    refine (never_calls _).mono ?_
    rintro e w7 ⟨rfl, hb⟩
    refine ⟨_, rfl, ?_⟩
    have h7 := blk_below HGP.out hb
    have HB7 := Lib.hid (HBP.out.trans (below_weaken hb HBP.out.size))
    refine hK.out _ _ ⟨(blk_cell h7 0).trans rfl, (blk_cell h7 1).trans rfl, (blk_cell h7 2).trans rfl, (blk_cell h7 3).trans rfl, (blk_cell h7 4).trans rfl⟩ (fun hHeld => ?_)
    clear hK K
    refine no_ 19 ?_
    refine one_ (i := 2) (N := some 20) #[true, true, true, false, false] rfl rfl (by kernel_rfl) (by decide) (fun K hK => ?_)
    refine goes_ Tryd.func98 (by kernel_rfl) rfl #[.agg #[.slice B0 l0.length d0, .slice B1 l1.length d1, .slice B2 l2.length d2, .map (some mm), .slice B3 (truthsAll l0 l1 l2 []).length d3], .agg #[.func (.func 130) #[] #[]]] (by rfl) rfl rfl (by simp only [List.map_toArray, List.map_cons, List.map_nil]; rfl) ?_
    refine (HWN.out _ HB7.out).mono ?_
    rintro e w8 ⟨rfl, hb8⟩
    refine ⟨_, rfl, ?_⟩
    have h8 := blk_below h7 hb8
    have HB8 := Lib.hid (HB7.out.trans (below_weaken hb8 HB7.out.size))
    refine hK.out _ _ ⟨(blk_cell h8 0).trans rfl, (blk_cell h8 1).trans rfl, (blk_cell h8 2).trans rfl, (blk_cell h8 3).trans rfl, (blk_cell h8 4).trans rfl⟩ (fun hHeld => ?_)
    clear hK K
    refine no_ 20 ?_
    refine pu_ 3 (some 6) ?_
    refine pu_ 4 (some 7) ?_
    refine done_ (by kernel_rfl) ?_

    have h20 := blk_below HG2.out HB8.out
    have c20 := (blk_cell h20 1).trans rfl
    have HG28 := Lib.hid h20
    have HG8 := Lib.hid h8
    clear h20 h8 h7 hb hb8
    go_wp2
    clear c20
    go_loopg [6, 7, 24] (l1.length) (fun gk v6 v7 v24 wr => ∃ (k : Nat) (s1 s2 : Int), v6 = .int .i64 s1 ∧ v7 = .int .i64 s2 ∧ v24 = .int .i64 k ∧ Aside0 (k + gk = l1.length) ∧ Aside0 (waterBest g l1.length 0 (-1, x0) = waterBest g gk k (s1, s2)) ∧ Aside0 (wr.heap[w6.heap.size]? = some (.cells #[.slice B0 l0.length d0, .slice B1 l1.length d1, .slice B2 l2.length d2, .map (some mm), .slice B3 (truthsAll l0 l1 l2 []).length d3] 107 (0, 0))) ∧ Aside0 (Below w6.heap.size w6 wr))
    case atStart => exact ⟨0, -1, x0, rfl, rfl, rfl, ⟨by omega⟩, ⟨rfl⟩, ⟨HG8.out⟩, ⟨HB8.out⟩⟩
    case round =>
      obtain ⟨k, s1, s2, rfl, rfl, rfl, HK, HS, HG6R, HBR⟩ := hrel
      cases gk with
      | zero =>
        have hge : ¬ k < l1.length := by have := HK.out; omega
        have HR := Lib.hid (HRES.out (s1, s2) HS.out)
        rcases Int.lt_or_le s1 0 with hs | hs
        · go_wp2
          go_ret2
          refine ⟨?_, HB6.out.trans (below_weaken HBR.out HB6.out.size)⟩
          rw [HR.out.1, HR.out.2, wRes_none hs]
          rfl
        · go_wp2
          go_ret2
          refine ⟨?_, HB6.out.trans (below_weaken HBR.out HB6.out.size)⟩
          rw [HR.out.1, HR.out.2, wRes_some hs]
          rfl
      | succ g1 =>
        have hlt : k < l1.length := by have := HK.out; omega
        obtain ⟨x, hx⟩ : ∃ x, x = g (k : Int) := ⟨_, rfl⟩
        have HWO1 : Hid (∀ (W : World) (a : Nat), Below w6.heap.size w6 W → W.cell? ⟨a, 0, none⟩ = some (.int .i64 (k : Int)) → Calls Tryd.prog 98 #[.agg #[.slice B0 l0.length d0, .slice B1 l1.length d1, .slice B2 l2.length d2, .map (some mm), .slice B3 (truthsAll l0 l1 l2 []).length d3], .agg #[.func (.func 131) #[] #[.pointer (some ⟨a, 0, none⟩)]]] W fun e w' => e = .returned (.int .i64 x) ∧ Below W.heap.size W w') := by
          refine Lib.hid fun W a hW hca => ?_
          rw [hx]
          exact HWO.out W a k hW hca
        have HX := Lib.hid hx
        clear hx
        go_upto_region 8 with fail
        have hBP : Below wr.heap.size wr wr.drew := by repeat (first | exact Below.refl _ _ | refine Below.alloc ?_ (by simp <;> omega) _ | refine Below.setCell ?_ (by simp <;> omega) _ | apply Below.drew)
        have HGP := Lib.hid (blk_below HG6R.out hBP)
        have HBP := Lib.hid (HBR.out.trans (below_weaken hBP HBR.out.size))
        clear hBP
        refine start_ (n := 5) (S := fun w' => w'.cell? ⟨w6.heap.size, 0, none⟩ = some (.slice B0 l0.length d0) ∧ w'.cell? ⟨w6.heap.size, 1, none⟩ = some (.slice B1 l1.length d1) ∧ w'.cell? ⟨w6.heap.size, 2, none⟩ = some (.slice B2 l2.length d2) ∧ w'.cell? ⟨w6.heap.size, 3, none⟩ = some (.map (some mm)) ∧ w'.cell? ⟨w6.heap.size, 4, none⟩ = some (.slice B3 (truthsAll l0 l1 l2 []).length d3)) (ds := []) #[false, false, false, false, false] (by kernel_rfl) rfl rfl ⟨(blk_cell HGP.out 0).trans rfl, (blk_cell HGP.out 1).trans rfl, (blk_cell HGP.out 2).trans rfl, (blk_cell HGP.out 3).trans rfl, (blk_cell HGP.out 4).trans rfl⟩ (fun hHeld => ?_)
        refine pu_ 1 (some 28) ?_
        refine ta_ 0 (some 27) (s := hHeld) (y := by rintro w' ⟨s0, s1, s2, s3, s4⟩; go_simp; with_reducible rfl) (h := ?_)
        refine one_ (i := 2) (N := some 29) #[true, true, true, false, false] rfl rfl (by kernel_rfl) (by decide) (fun K hK => ?_)
        refine goes_ Tryd.func100 (by kernel_rfl) rfl #[.int .i64 (k : Int)] (by rfl) rfl rfl (by simp only [List.map_toArray, List.map_cons, List.map_nil]; rfl) ?_
        refine (on_calls (k : Int) _).mono ?_
        rintro e w7 ⟨rfl, hb, hcell, _⟩
        refine ⟨_, rfl, ?_⟩
        have h7 := blk_below HGP.out hb
        have HB7 := Lib.hid (HBP.out.trans (below_weaken hb HBP.out.size))
        have HCELL := Lib.hid hcell
        refine hK.out _ _ ⟨(blk_cell h7 0).trans rfl, (blk_cell h7 1).trans rfl, (blk_cell h7 2).trans rfl, (blk_cell h7 3).trans rfl, (blk_cell h7 4).trans rfl⟩ (fun hHeld => ?_)
        clear hK K
        refine no_ 29 ?_
        refine one_ (i := 3) (N := some 30) #[true, true, true, true, false] rfl rfl (by kernel_rfl) (by decide) (fun K hK => ?_)
        refine goes_ Tryd.func98 (by kernel_rfl) rfl #[.agg #[.slice B0 l0.length d0, .slice B1 l1.length d1, .slice B2 l2.length d2, .map (some mm), .slice B3 (truthsAll l0 l1 l2 []).length d3], .agg #[.func (.func 131) #[] #[.pointer (some ⟨wr.drew.heap.size, 0, none⟩)]]] (by rfl) rfl rfl (by simp only [List.map_toArray, List.map_cons, List.map_nil]; rfl) ?_
        refine (HWO1.out _ _ HB7.out HCELL.out).mono ?_
        rintro e w8 ⟨rfl, hb8⟩
        refine ⟨_, rfl, ?_⟩
        have h8 := blk_below h7 hb8
        have HB8 := Lib.hid (HB7.out.trans (below_weaken hb8 HB7.out.size))
        refine hK.out _ _ ⟨(blk_cell h8 0).trans rfl, (blk_cell h8 1).trans rfl, (blk_cell h8 2).trans rfl, (blk_cell h8 3).trans rfl, (blk_cell h8 4).trans rfl⟩ (fun hHeld => ?_)
        clear hK K
        refine no_ 30 ?_
        refine pu_ 4 (some 9) ?_
        refine done_ (by kernel_rfl) ?_

        have HG8R := Lib.hid h8
        clear h8 h7 hb hb8 hcell
        rcases Int.lt_or_le s2 x with hs | hs
        · go_wp2
          go_roundg g1
          case measure => omega
          case rel =>
            refine ⟨k + 1, (k : Int), x, rfl, rfl, by go_num, ⟨by have := HK.out; omega⟩, ⟨?_⟩, ⟨HG8R.out⟩, ⟨HB8.out⟩⟩
            rw [HS.out]
            exact waterBest_yes HX.out hs
        · go_wp2
          go_roundg g1
          case measure => omega
          case rel =>
            refine ⟨k + 1, s1, s2, rfl, rfl, by go_num, ⟨by have := HK.out; omega⟩, ⟨?_⟩, ⟨HG8R.out⟩, ⟨HB8.out⟩⟩
            rw [HS.out]
            exact waterBest_no HX.out hs
  · rw [if_neg hz]
    have ht : (code != 0) = true := by simpa using hz
    go_enter Tryd.func36, Tryd.ntmps36
    go_wp2_with fail
    refine (HASK.out _ ?hw).mono ?_
    (case hw => exact by repeat (first | exact Below.refl _ _ | refine Below.alloc ?_ (by simp <;> omega) _ | refine Below.setCell ?_ (by simp <;> omega) _ | apply Below.drew))
    rintro e w6 ⟨v, rfl, hP, hb⟩
    obtain ⟨B0, n0, d0, B1, n1, d1, B2, n2, d2, mp, B3, n3, d3, rfl, hP⟩ := hP
    have HB6 := Lib.hid ((show Below w.heap.size w _ from by repeat (first | exact Below.refl _ _ | refine Below.alloc ?_ (by simp <;> omega) _ | refine Below.setCell ?_ (by simp <;> omega) _ | apply Below.drew)).trans (below_weaken hb (by simp)))
    clear hb hP
    go_wp2
    go_ret2
    exact ⟨rfl, HB6.out.alloc HB6.out.size _⟩
end Go.Proofs.YthgjedagbgmgmaaDoor.Pr
namespace Go.Proofs.YthgjedagbgmgmaaDoor.Pr
open Go.RowKit Go.Proofs.YthgjedagbgmgmaaDoorW.PrintWords Go.Proofs.YthgjedagbgmgmaaDoorW.PrintLast Go.Proofs.YthgjedagbgmgmaaDoorW.PrintMore
set_option linter.unusedVariables false
set_option linter.unusedSimpArgs false
theorem flat_length {α : Type} {enc : α → List Value} {sz : Nat} (h : ∀ x, (enc x).length = sz) (xs : List α) : (xs.flatMap enc).length = xs.length * sz := by
  induction xs with
  | nil => simp
  | cons x xs ih => rw [List.flatMap_cons, List.length_append, ih, h, List.length_cons, Nat.succ_mul]; omega
theorem e43_len (x : S43) : (e43 x).length = 2 := rfl
theorem eI_len (x : Int) : (eI x).length = 1 := rfl
/-- The cells of a row of elements. -/
theorem row_flat {α : Type} {enc : α → List Value} {sz : Nat} (he : ∀ x, (enc x).length = sz) {w : World} {b : Nat} : ∀ (xs : List α) (o : Nat), (∀ i x, xs[i]? = some x → w.rangeAt b (o + i * sz) (enc x)) → ∀ j u, (xs.flatMap enc)[j]? = some u → w.cell? ⟨b, o + j, none⟩ = some u := by
  intro xs
  induction xs with
  | nil => intro o _ j u hj; simp at hj
  | cons x xs ih =>
    intro o h j u hj
    rw [List.flatMap_cons, List.getElem?_append] at hj
    split at hj
    · have := h 0 x rfl j u hj
      rwa [Nat.zero_mul, Nat.add_zero] at this
    · rename_i hlt
      rw [he] at hj hlt
      have := ih (o + sz) (fun i y hy => by
        have := h (i + 1) y (by simpa using hy)
        rwa [Nat.succ_mul, Nat.add_comm (i * sz) sz, ← Nat.add_assoc] at this) (j - sz) u hj
      rwa [show o + sz + (j - sz) = o + j by omega] at this
theorem frow_flat {α : Type} {enc : α → List Value} {sz : Nat} (he : ∀ x, (enc x).length = sz) {w : World} {A : Option Addr} {xs : List α} (h : FRow enc sz w A xs) : ∀ b, A = some b → ∀ j u, (xs.flatMap enc)[j]? = some u → w.cell? (b.add j) = some u := by
  intro b hb j u hj
  rcases h with rfl | ⟨g, o, e, _, hc⟩
  · simp at hj
  · rw [hb] at e
    injection e with e
    subst e
    rw [Addr.add_mid]
    exact row_flat he xs o hc j u hj
theorem frow_own' {α : Type} {enc : α → List Value} {sz : Nat} (he : ∀ x, (enc x).length = sz) (hs : 0 < sz) {W : World} {base : Nat} {e : TypeId} {v : Value} {n : Nat} {T : List α} (h : W.ownsRow base e sz v n (T.flatMap enc)) : n = T.length ∧ ∃ A c, v = .slice A T.length c ∧ FRow enc sz W A T ∧ T.length ≤ c := by
  have hl := flat_length he T
  have hn : n = T.length := by
    have := h.1
    rw [hl] at this
    exact (Nat.eq_of_mul_eq_mul_right hs this).symm
  refine ⟨hn, ?_⟩
  rcases h.2 with ⟨e1, h0⟩ | ⟨g, cap, cur, e1, h1, h2, h3, h4, h5, h6⟩
  · have : T.length = 0 := by omega
    exact ⟨none, 0, by rw [e1, this], .inl (List.length_eq_zero_iff.1 this), by omega⟩
  · refine ⟨some ⟨g, 0, none⟩, cap, by rw [e1, hn], .inr ⟨g, 0, rfl, (Array.getElem?_eq_some_iff.1 h2).1, fun i x hx j v hj => ?_⟩, by omega⟩
    rw [cell_of_row W g _ cur e (0, 0) h2, Nat.zero_add]
    have hf := take_drop_flat (xs := T.map enc) (s := sz) (fun y hy => by obtain ⟨x, _, rfl⟩ := List.mem_map.1 hy; exact he x) i (enc x) (by rw [List.getElem?_map, hx]; rfl) j v hj
    rw [← List.flatMap_def, ← h6] at hf
    rw [List.getElem?_take] at hf
    split at hf
    · simpa using hf
    · simp at hf
theorem frow_at {α : Type} {enc : α → List Value} {sz : Nat} (he : ∀ x, (enc x).length = sz) (hs : 0 < sz) {W : World} {base : Nat} {e : TypeId} {A : Option Addr} {n c m : Nat} {T : List α} (h : W.ownsRow base e sz (.slice A n c) m (T.flatMap enc)) : FRow enc sz W A T := by
  obtain ⟨_, A', c', e1, hF, _⟩ := frow_own' he hs h
  injection e1 with e1 e2 e3
  rw [e1]
  exact hF
theorem nil_none {α : Type} {d : Kd α} {w : World} {A : Option Addr} {xs : List α} (h : Kd.C d w A xs.length xs) (hA : A = none) : xs.length = 0 := by
  by_cases hn : xs.length = 0
  · exact hn
  · obtain ⟨ad, e, _⟩ := h.2.2 (by omega)
    rw [hA] at e
    cases e
/-- Can a look be right? -/
def fitsF (ls : List S92) (ds : List S90) (ks : List S43) (x : S43) : Bool × Int :=
  if askCode ls ds ks (okLook ls.length ds.length x) = 0 then (decide (0 < (truthsAll ls ds (ks ++ [x]) []).length), 0) else (false, askCode ls ds ks (okLook ls.length ds.length x))
theorem inf43 : (Tryd.prog.info? 43).map (fun i => (i.zero, i.size, i.bytes)) = some (some (.agg #[.int .i64 0, .int .i64 0]), 2, 16) := by kernel_rfl
set_option maxHeartbeats 4000000 in
set_option maxRecDepth 100000 in
theorem fits_calls (A0 A1 A2 : Option Addr) (c0 c1 c2 : Nat) (l0 : List S92) (l1 : List S90) (l2 : List S43) (w : World) (hG : GOK w) (hr0 : Kd.C k92 w A0 l0.length l0) (hc0 : l0.length ≤ c0) (hr1 : Kd.C k90 w A1 l1.length l1) (hc1 : l1.length ≤ c1) (hr2 : Kd.C k43 w A2 l2.length l2) (hc2 : l2.length ≤ c2) (lx : S43) :
    Calls Tryd.prog 38 #[.agg #[.slice A0 l0.length c0, .slice A1 l1.length c1, .slice A2 l2.length c2], .agg #[.int .i64 lx.f0, .int .i64 lx.f1]] w fun e w' => e = .returned (.tuple #[.bool (fitsF l0 l1 l2 lx).1, .int .i64 (fitsF l0 l1 l2 lx).2]) ∧ Below w.heap.size w w' := by
  have h0 : (l0.length : Int) ≤ 9223372036854775807 := by have := hr0.2.1; omega
  have h1 : (l1.length : Int) ≤ 9223372036854775807 := by have := hr1.2.1; omega
  have h2 : (l2.length : Int) ≤ 9223372036854775807 := by have := hr2.2.1; omega
  obtain ⟨qd, hqd⟩ : ∃ q, q = okLook l0.length l1.length lx := ⟨_, rfl⟩
  have HASK := Lib.hid (ask_calls A0 A1 A2 c0 c1 c2 l0 l1 l2 w hG hr0 hc0 hr1 hc1 hr2 hc2 h0 h1 h2 qd)
  have HLOOK : Hid (∀ W, Below w.heap.size w W → Calls Tryd.prog 78 #[.agg #[.slice A0 l0.length c0, .slice A1 l1.length c1, .slice A2 l2.length c2], .agg #[.int .i64 lx.f0, .int .i64 lx.f1]] W fun e w' => e = .returned (.bool qd) ∧ Below W.heap.size W w') :=
    Lib.hid fun W hW => by
      rw [hqd]
      exact roll_isLook.calls A0 c0 l0 A1 c1 l1 A2 c2 l2 lx.f0 lx.f1 _ W (Kd.C_below hr0 hW) hc0 (Kd.C_below hr1 hW) hc1 (Kd.C_below hr2 hW) hc2 (isLook_law l0 l1 l2 lx h1)
  have HNONE := Lib.hid (fun h : A2 = none => (show l2.length = 0 ∧ l2.length = 0 from ⟨nil_none hr2 h, nil_none hr2 h⟩))
  have HR0 := Lib.hid (row92 hr0)
  have HR1 := Lib.hid (row90 hr1)
  have HFLAT : Hid (∀ W, Below w.heap.size w W → ∀ b, A2 = some b → ∀ j u, (l2.flatMap e43)[j]? = some u → W.cell? (b.add j) = some u) :=
    Lib.hid fun W hW => frow_flat e43_len ((row43 hr2).below hW)
  have HG := Lib.hid hG
  obtain ⟨i43, hi43, hz0, hz1, hz2⟩ := info_parts inf43
  unfold fitsF
  rw [← hqd]
  have HQD := Lib.hid hqd
  obtain ⟨code, hcode⟩ : ∃ c, c = askCode l0 l1 l2 qd := ⟨_, rfl⟩
  rw [← hcode]
  rw [← hcode] at HASK
  have HCODE := Lib.hid hcode
  clear hG hr0 hr1 hr2 hqd hcode h0 h1 h2
  by_cases hz : code = 0
  · rw [if_pos hz]
    have ht : (code != 0) = false := by simpa using hz
    obtain ⟨hok, _, _⟩ := askCode_zero (HCODE.out.symm.trans hz)
    obtain ⟨o1, o2, o3, o4, o5, o6, o7⟩ := ok_facts hok
    obtain ⟨T, hT⟩ : ∃ T, T = truthsAll l0 l1 (l2 ++ [lx]) [] := ⟨_, rfl⟩
    rw [← hT]
    obtain ⟨q, hq⟩ : ∃ q, q = decide (0 < T.length) := ⟨_, rfl⟩
    rw [← hq]
    have hqi : decide ((0 : Int) < (T.length : Int)) = q := by rw [hq]; exact decide_eq_decide.2 (by omega)
    obtain ⟨n9, hn9⟩ : ∃ n, n = (l2 ++ [lx]).length := ⟨_, rfl⟩
    have HN9 : Hid ((l2 ++ [lx]).length = n9) := Lib.hid hn9.symm
    have HOP : Hid (∀ W A c, Below w.heap.size w W → FRow e43 2 W A (l2 ++ [lx]) → n9 ≤ c → Calls Tryd.prog 75 #[.agg #[.slice A0 l0.length c0, .slice A1 l1.length c1, .slice A n9 c], .slice none 0 0] W fun e W' => ∃ At ct m, e = .returned (.agg #[.slice A0 l0.length c0, .slice A1 l1.length c1, .slice A n9 c, .map (some m), .slice At T.length ct]) ∧ Below W.heap.size W W') :=
      Lib.hid fun W A c hW hr hc => by
        have hll := HN9.out
        have h := (opened_calls A0 A1 A none c0 c1 c 0 l0 l1 (l2 ++ [lx]) [] W (HG.out.below hW) (HR0.out.below hW) (HR1.out.below hW) hr (.inl rfl) hc0 (by rw [hll]; exact hc) (by simp) o1 o2 o3 (by simp; omega) (by simp) o6)
        rw [hll, ← hT] at h
        refine h.mono ?_
        rintro e W' ⟨At, ct, m, rfl, _, _, _, hb⟩
        exact ⟨At, ct, m, rfl, hb⟩
    have hfl : ∀ A c m A' ct W, (Instr.field 107 (.agg #[.slice A0 l0.length c0, .slice A1 l1.length c1, .slice A n9 c, .map (some m), .slice A' T.length ct]) 2).run Tryd.prog W = .ok (.slice A' T.length ct) W := fun _ _ _ _ _ _ => field107 _ _ _ _ _ _ _ _ _ _ _ _ _ _
    have HFL := Lib.hid hfl
    have HQ := Lib.hid hq
    have HQI := Lib.hid hqi
    have HZ := Lib.hid hz
    have hl5 : l2.length ≤ 4 := o5
    clear hT hn9 hq hqi hz hok o1 o2 o3 o4 o5 o6 o7 hfl
    go_enter Tryd.func38, Tryd.ntmps38
    go_upto_region 1 with fail
    obtain ⟨wP, hwP⟩ : ∃ W, W = ((w.alloc (.cells #[.slice A0 l0.length c0, .slice A1 l1.length c1, .slice A2 l2.length c2] 26)).alloc (.cells #[.int .i64 lx.f0, .int .i64 lx.f1] 43)) := ⟨_, rfl⟩
    rw [← hwP]
    have h2_ : wP.heap[w.heap.size]? = some (.cells #[.slice A0 l0.length c0, .slice A1 l1.length c1, .slice A2 l2.length c2] 26 (0, 0)) := by rw [hwP]; exact blk_alloc (blk_new _ _) _
    have h3_ : wP.heap[w.heap.size + 1]? = some (.cells #[.int .i64 lx.f0, .int .i64 lx.f1] 43 (0, 0)) := by rw [hwP]; exact blk_at (w.alloc _) _ _ (by simp)
    have hB_ : Below w.heap.size w wP.drew := by rw [hwP]; exact by repeat (first | exact Below.refl _ _ | refine Below.alloc ?_ (by simp <;> omega) _ | refine Below.setCell ?_ (by simp <;> omega) _ | apply Below.drew)
    clear hwP
    refine start_ (n := 11) (S := fun w' => w'.heap[w.heap.size]? = some (.cells #[.slice A0 l0.length c0, .slice A1 l1.length c1, .slice A2 l2.length c2] 26 (0, 0)) ∧ w'.heap[w.heap.size + 1]? = some (.cells #[.int .i64 lx.f0, .int .i64 lx.f1] 43 (0, 0)) ∧ Below w.heap.size w w' ∧ w'.cell? ⟨w.heap.size, 0, none⟩ = some (.slice A0 l0.length c0) ∧ w'.cell? ⟨w.heap.size, 1, none⟩ = some (.slice A1 l1.length c1) ∧ w'.cell? ⟨w.heap.size, 2, none⟩ = some (.slice A2 l2.length c2) ∧ w'.cell? ⟨w.heap.size + 1, 0, none⟩ = some (.int .i64 lx.f0) ∧ w'.cell? ⟨w.heap.size + 1, 1, none⟩ = some (.int .i64 lx.f1)) (ds := [9]) #[false, false, false, false, false, false, false, false, false, false, false] (by kernel_rfl) rfl rfl ⟨h2_, h3_, hB_, (blk_cell (h2_) 0).trans rfl, (blk_cell (h2_) 1).trans rfl, (blk_cell (h2_) 2).trans rfl, (blk_cell (h3_) 0).trans rfl, (blk_cell (h3_) 1).trans rfl⟩ (fun hHeld => ?_)
    refine ta_ 0 (some 9) (s := hHeld) (y := by rintro w' ⟨s0, s1, s2, s3, s4, s5, s6, s7⟩; go_simp; with_reducible rfl) (h := ?_)
    refine ta_ 1 (some 10) (s := hHeld) (y := by rintro w' ⟨s0, s1, s2, s3, s4, s5, s6, s7⟩; go_simp; with_reducible rfl) (h := ?_)
    refine ta_ 2 (some 11) (s := hHeld) (y := by rintro w' ⟨s0, s1, s2, s3, s4, s5, s6, s7⟩; go_simp; with_reducible rfl) (h := ?_)
    refine join_ (σ := Nat × Value) 2 #[true, true, true, true, true, true, true, true, true, false, false] (fun s => [(12, .bool qd), (13, .tuple #[s.2, .int .i64 code]), (8, .tuple #[s.2, .int .i64 code]), (14, s.2), (15, .int .i64 code), (6, .pointer (some ⟨s.1, 0, none⟩))]) (fun s w' => w'.heap[w.heap.size]? = some (.cells #[.slice A0 l0.length c0, .slice A1 l1.length c1, .slice A2 l2.length c2] 26 (0, 0)) ∧ w'.heap[w.heap.size + 1]? = some (.cells #[.int .i64 lx.f0, .int .i64 lx.f1] 43 (0, 0)) ∧ Below w.heap.size w w' ∧ w'.cell? ⟨w.heap.size, 0, none⟩ = some (.slice A0 l0.length c0) ∧ w'.cell? ⟨w.heap.size, 1, none⟩ = some (.slice A1 l1.length c1) ∧ w'.cell? ⟨w.heap.size, 2, none⟩ = some (.slice A2 l2.length c2) ∧ w'.cell? ⟨w.heap.size + 1, 0, none⟩ = some (.int .i64 lx.f0) ∧ w'.cell? ⟨w.heap.size + 1, 1, none⟩ = some (.int .i64 lx.f1) ∧ w'.heap[s.1]? = some (.cells #[.slice none 0 0, .slice none 0 0, .slice none 0 0, .map none, .slice none 0 0] 107 (0, 0)) ∧ w.heap.size ≤ s.1 ∧ AskP A0 A1 A2 c0 c1 c2 l0 l1 l2 w.heap.size code s.2 w') ?_ ?_
    rotate_left
    · intro hCont
      refine two_ (i := 3) (j := 8) (Ni := some 12) (Nj := some 6) #[true, true, true, true, false, false, false, false, false, false, false] #[true, true, true, false, false, false, false, false, true, false, false] rfl rfl rfl rfl (by kernel_rfl) (by decide) (by decide) (fun K hK => ?_) (fun K hK => ?_)
      · skip
        refine goes_ Tryd.func78 (by kernel_rfl) rfl #[.agg #[.slice A0 l0.length c0, .slice A1 l1.length c1, .slice A2 l2.length c2], .agg #[.int .i64 lx.f0, .int .i64 lx.f1]] (by rfl) rfl rfl (by simp only [List.map_toArray, List.map_cons, List.map_nil]; rfl) ?_
        refine (HLOOK.out _ hHeld.2.2.1).mono ?_
        rintro e w5 ⟨rfl, hb⟩
        refine ⟨_, rfl, ?_⟩
        refine hK.out _ _ ⟨blk_below hHeld.1 hb, blk_below hHeld.2.1 hb, hHeld.2.2.1.trans (below_weaken hb hHeld.2.2.1.size), (blk_cell (blk_below hHeld.1 hb) 0).trans rfl, (blk_cell (blk_below hHeld.1 hb) 1).trans rfl, (blk_cell (blk_below hHeld.1 hb) 2).trans rfl, (blk_cell (blk_below hHeld.2.1 hb) 0).trans rfl, (blk_cell (blk_below hHeld.2.1 hb) 1).trans rfl⟩ (fun hHeld => ?_)
        clear hK K
        refine no_ 12 ?_
        refine two_ (i := 4) (j := 8) (Ni := some 13) (Nj := some 6) #[true, true, true, true, true, false, false, false, false, false, false] #[true, true, true, true, false, false, false, false, true, false, false] rfl rfl rfl rfl (by kernel_rfl) (by decide) (by decide) (fun K hK => ?_) (fun K hK => ?_)
        · skip
          refine goes_ Tryd.func80 (by kernel_rfl) rfl #[.agg #[.slice A0 l0.length c0, .slice A1 l1.length c1, .slice A2 l2.length c2], .bool qd] (by rfl) rfl rfl (by simp only [List.map_toArray, List.map_cons, List.map_nil]; rfl) ?_
          refine (HASK.out _ hHeld.2.2.1).mono ?_
          rintro e w6 ⟨v, rfl, hP, hb⟩
          refine ⟨_, rfl, ?_⟩
          refine hK.out _ _ ⟨blk_below hHeld.1 hb, blk_below hHeld.2.1 hb, hHeld.2.2.1.trans (below_weaken hb hHeld.2.2.1.size), (blk_cell (blk_below hHeld.1 hb) 0).trans rfl, (blk_cell (blk_below hHeld.1 hb) 1).trans rfl, (blk_cell (blk_below hHeld.1 hb) 2).trans rfl, (blk_cell (blk_below hHeld.2.1 hb) 0).trans rfl, (blk_cell (blk_below hHeld.2.1 hb) 1).trans rfl⟩ (fun hHeld => ?_)
          clear hK K
          refine no_ 13 ?_
          refine pu_ 5 (some 8) ?_
          refine pu_ 6 (some 14) ?_
          refine pu_ 7 (some 15) ?_
          refine one_ (i := 8) (N := some 6) #[true, true, true, true, true, true, true, true, true, false, false] rfl rfl (by kernel_rfl) (by decide) (fun K hK => ?_)
          refine value_ (w1 := ?_) (v := ?_) (by rfl) rfl ?_ ?_
          rotate_left 2
          · go_simp
            constructor
            · rfl
            · rfl
          have lz : w.heap.size ≤ (w6).heap.size := hHeld.2.2.1.size
          have hal : Below (w6).heap.size (w6) ((w6).alloc (.cells #[.slice none 0 0, .slice none 0 0, .slice none 0 0, .map none, .slice none 0 0] 107)) := (Below.refl _ _).alloc (Nat.le_refl _) _
          have q8 := blk_new (w6) (.cells #[.slice none 0 0, .slice none 0 0, .slice none 0 0, .map none, .slice none 0 0] 107)
          have hP8 := hP.below hal
          refine hK.out _ _ ⟨blk_below hHeld.1 hal, blk_below hHeld.2.1 hal, hHeld.2.2.1.trans (below_weaken hal hHeld.2.2.1.size), (blk_cell (blk_below hHeld.1 hal) 0).trans rfl, (blk_cell (blk_below hHeld.1 hal) 1).trans rfl, (blk_cell (blk_below hHeld.1 hal) 2).trans rfl, (blk_cell (blk_below hHeld.2.1 hal) 0).trans rfl, (blk_cell (blk_below hHeld.2.1 hal) 1).trans rfl⟩ (fun hHeld => ?_)
          clear hK K
          refine no_ 6 ?_
          exact norm_ (by first | (simp only [putAll, Act.put, List.setIfInBounds_toArray, List.set_cons_zero, List.set_cons_succ]; done) | (simp only [putAll, Act.put, List.setIfInBounds_toArray, List.set_cons_zero, List.set_cons_succ]; rfl)) (hCont (w6.heap.size, v) _ ⟨hHeld.1, hHeld.2.1, hHeld.2.2.1, hHeld.2.2.2.1, hHeld.2.2.2.2.1, hHeld.2.2.2.2.2.1, hHeld.2.2.2.2.2.2.1, hHeld.2.2.2.2.2.2.2, q8, lz, hP8⟩)
        · skip
          refine value_ (w1 := ?_) (v := ?_) (by rfl) rfl ?_ ?_
          rotate_left 2
          · go_simp
            constructor
            · rfl
            · rfl
          have lz : w.heap.size ≤ (w5).heap.size := hHeld.2.2.1.size
          have hal : Below (w5).heap.size (w5) ((w5).alloc (.cells #[.slice none 0 0, .slice none 0 0, .slice none 0 0, .map none, .slice none 0 0] 107)) := (Below.refl _ _).alloc (Nat.le_refl _) _
          have h8_ := blk_new (w5) (.cells #[.slice none 0 0, .slice none 0 0, .slice none 0 0, .map none, .slice none 0 0] 107)
          refine hK.out _ _ ⟨blk_below hHeld.1 hal, blk_below hHeld.2.1 hal, hHeld.2.2.1.trans (below_weaken hal hHeld.2.2.1.size), (blk_cell (blk_below hHeld.1 hal) 0).trans rfl, (blk_cell (blk_below hHeld.1 hal) 1).trans rfl, (blk_cell (blk_below hHeld.1 hal) 2).trans rfl, (blk_cell (blk_below hHeld.2.1 hal) 0).trans rfl, (blk_cell (blk_below hHeld.2.1 hal) 1).trans rfl⟩ (fun hHeld => ?_)
          clear hK K
          refine no_ 6 ?_
          refine one_ (i := 4) (N := some 13) #[true, true, true, true, true, false, false, false, true, false, false] rfl rfl (by kernel_rfl) (by decide) (fun K hK => ?_)
          refine goes_ Tryd.func80 (by kernel_rfl) rfl #[.agg #[.slice A0 l0.length c0, .slice A1 l1.length c1, .slice A2 l2.length c2], .bool qd] (by rfl) rfl rfl (by simp only [List.map_toArray, List.map_cons, List.map_nil]; rfl) ?_
          refine (HASK.out _ hHeld.2.2.1).mono ?_
          rintro e w6 ⟨v, rfl, hP, hb⟩
          refine ⟨_, rfl, ?_⟩
          have q8 := blk_below h8_ hb
          refine hK.out _ _ ⟨blk_below hHeld.1 hb, blk_below hHeld.2.1 hb, hHeld.2.2.1.trans (below_weaken hb hHeld.2.2.1.size), (blk_cell (blk_below hHeld.1 hb) 0).trans rfl, (blk_cell (blk_below hHeld.1 hb) 1).trans rfl, (blk_cell (blk_below hHeld.1 hb) 2).trans rfl, (blk_cell (blk_below hHeld.2.1 hb) 0).trans rfl, (blk_cell (blk_below hHeld.2.1 hb) 1).trans rfl⟩ (fun hHeld => ?_)
          clear hK K
          refine no_ 13 ?_
          refine pu_ 5 (some 8) ?_
          refine pu_ 6 (some 14) ?_
          refine pu_ 7 (some 15) ?_
          exact norm_ (by first | (simp only [putAll, Act.put, List.setIfInBounds_toArray, List.set_cons_zero, List.set_cons_succ]; done) | (simp only [putAll, Act.put, List.setIfInBounds_toArray, List.set_cons_zero, List.set_cons_succ]; rfl)) (hCont (w5.heap.size, v) _ ⟨hHeld.1, hHeld.2.1, hHeld.2.2.1, hHeld.2.2.2.1, hHeld.2.2.2.2.1, hHeld.2.2.2.2.2.1, hHeld.2.2.2.2.2.2.1, hHeld.2.2.2.2.2.2.2, q8, lz, hP⟩)
      · skip
        refine value_ (w1 := ?_) (v := ?_) (by rfl) rfl ?_ ?_
        rotate_left 2
        · go_simp
          constructor
          · rfl
          · rfl
        have lz : w.heap.size ≤ (wP.drew).heap.size := hHeld.2.2.1.size
        have hal : Below (wP.drew).heap.size (wP.drew) ((wP.drew).alloc (.cells #[.slice none 0 0, .slice none 0 0, .slice none 0 0, .map none, .slice none 0 0] 107)) := (Below.refl _ _).alloc (Nat.le_refl _) _
        have h8_ := blk_new (wP.drew) (.cells #[.slice none 0 0, .slice none 0 0, .slice none 0 0, .map none, .slice none 0 0] 107)
        refine hK.out _ _ ⟨blk_below hHeld.1 hal, blk_below hHeld.2.1 hal, hHeld.2.2.1.trans (below_weaken hal hHeld.2.2.1.size), (blk_cell (blk_below hHeld.1 hal) 0).trans rfl, (blk_cell (blk_below hHeld.1 hal) 1).trans rfl, (blk_cell (blk_below hHeld.1 hal) 2).trans rfl, (blk_cell (blk_below hHeld.2.1 hal) 0).trans rfl, (blk_cell (blk_below hHeld.2.1 hal) 1).trans rfl⟩ (fun hHeld => ?_)
        clear hK K
        refine no_ 6 ?_
        refine one_ (i := 3) (N := some 12) #[true, true, true, true, false, false, false, false, true, false, false] rfl rfl (by kernel_rfl) (by decide) (fun K hK => ?_)
        refine goes_ Tryd.func78 (by kernel_rfl) rfl #[.agg #[.slice A0 l0.length c0, .slice A1 l1.length c1, .slice A2 l2.length c2], .agg #[.int .i64 lx.f0, .int .i64 lx.f1]] (by rfl) rfl rfl (by simp only [List.map_toArray, List.map_cons, List.map_nil]; rfl) ?_
        refine (HLOOK.out _ hHeld.2.2.1).mono ?_
        rintro e w5 ⟨rfl, hb⟩
        refine ⟨_, rfl, ?_⟩
        have h8b := blk_below h8_ hb
        refine hK.out _ _ ⟨blk_below hHeld.1 hb, blk_below hHeld.2.1 hb, hHeld.2.2.1.trans (below_weaken hb hHeld.2.2.1.size), (blk_cell (blk_below hHeld.1 hb) 0).trans rfl, (blk_cell (blk_below hHeld.1 hb) 1).trans rfl, (blk_cell (blk_below hHeld.1 hb) 2).trans rfl, (blk_cell (blk_below hHeld.2.1 hb) 0).trans rfl, (blk_cell (blk_below hHeld.2.1 hb) 1).trans rfl⟩ (fun hHeld => ?_)
        clear hK K
        refine no_ 12 ?_
        refine one_ (i := 4) (N := some 13) #[true, true, true, true, true, false, false, false, true, false, false] rfl rfl (by kernel_rfl) (by decide) (fun K hK => ?_)
        refine goes_ Tryd.func80 (by kernel_rfl) rfl #[.agg #[.slice A0 l0.length c0, .slice A1 l1.length c1, .slice A2 l2.length c2], .bool qd] (by rfl) rfl rfl (by simp only [List.map_toArray, List.map_cons, List.map_nil]; rfl) ?_
        refine (HASK.out _ hHeld.2.2.1).mono ?_
        rintro e w6 ⟨v, rfl, hP, hb⟩
        refine ⟨_, rfl, ?_⟩
        have q8 := blk_below h8b hb
        refine hK.out _ _ ⟨blk_below hHeld.1 hb, blk_below hHeld.2.1 hb, hHeld.2.2.1.trans (below_weaken hb hHeld.2.2.1.size), (blk_cell (blk_below hHeld.1 hb) 0).trans rfl, (blk_cell (blk_below hHeld.1 hb) 1).trans rfl, (blk_cell (blk_below hHeld.1 hb) 2).trans rfl, (blk_cell (blk_below hHeld.2.1 hb) 0).trans rfl, (blk_cell (blk_below hHeld.2.1 hb) 1).trans rfl⟩ (fun hHeld => ?_)
        clear hK K
        refine no_ 13 ?_
        refine pu_ 5 (some 8) ?_
        refine pu_ 6 (some 14) ?_
        refine pu_ 7 (some 15) ?_
        exact norm_ (by first | (simp only [putAll, Act.put, List.setIfInBounds_toArray, List.set_cons_zero, List.set_cons_succ]; done) | (simp only [putAll, Act.put, List.setIfInBounds_toArray, List.set_cons_zero, List.set_cons_succ]; rfl)) (hCont (wP.drew.heap.size, v) _ ⟨hHeld.1, hHeld.2.1, hHeld.2.2.1, hHeld.2.2.2.1, hHeld.2.2.2.2.1, hHeld.2.2.2.2.2.1, hHeld.2.2.2.2.2.2.1, hHeld.2.2.2.2.2.2.2, q8, lz, hP⟩)
    rintro ⟨g6, v⟩ w' ⟨s0, s1, s2, s3, s4, s5, s6, s7, h8, hg6, hP⟩
    obtain ⟨B0, n0, d0, B1, n1, d1, B2, n2, d2, mp, B3, n3, d3, rfl, hP⟩ := hP
    have hHeld : w'.heap[w.heap.size]? = some (.cells #[.slice A0 l0.length c0, .slice A1 l1.length c1, .slice A2 l2.length c2] 26 (0, 0)) ∧ w'.heap[w.heap.size + 1]? = some (.cells #[.int .i64 lx.f0, .int .i64 lx.f1] 43 (0, 0)) ∧ Below w.heap.size w w' ∧ w'.cell? ⟨w.heap.size, 0, none⟩ = some (.slice A0 l0.length c0) ∧ w'.cell? ⟨w.heap.size, 1, none⟩ = some (.slice A1 l1.length c1) ∧ w'.cell? ⟨w.heap.size, 2, none⟩ = some (.slice A2 l2.length c2) ∧ w'.cell? ⟨w.heap.size + 1, 0, none⟩ = some (.int .i64 lx.f0) ∧ w'.cell? ⟨w.heap.size + 1, 1, none⟩ = some (.int .i64 lx.f1) := ⟨s0, s1, s2, s3, s4, s5, s6, s7⟩
    have k0 := (blk_cell h8 0).trans rfl
    have k1 := (blk_cell h8 1).trans rfl
    have k2 := (blk_cell h8 2).trans rfl
    have k3 := (blk_cell h8 3).trans rfl
    have k4 := (blk_cell h8 4).trans rfl
    have f0 := blk_frozen h8 0
    have f1 := blk_frozen h8 1
    have f2 := blk_frozen h8 2
    have f3 := blk_frozen h8 3
    have f4 := blk_frozen h8 4
    have l8 := blk_lt h8
    have H8 := Lib.hid h8
    have HP := Lib.hid hP
    have HHE := Lib.hid hHeld
    clear h8 hP s0 s1 s2
    refine norm_ (a' := ?_) ?_ ?_
    rotate_left
    · simp only [putAll, Act.put, List.setIfInBounds_toArray, List.set_cons_zero, List.set_cons_succ]
      rfl
    refine last_ (i := 9) (N := none) #[true, true, true, true, true, true, true, true, true, true, false] rfl rfl (by kernel_rfl) (by decide) (fun K hK => ?_)
    refine skip_ (w1 := ?_) (by rfl) rfl ?_ ?_
    rotate_left
    · go_simp
      rfl
    refine hK.out _ _ ?_
    clear hK K
    refine pu_ 10 (some 7) ?_
    refine done_ (by kernel_rfl) ?_

    obtain ⟨u2, u3, uB, _⟩ := HHE.out
    have nb2 : w.heap.size ≠ g6 := fun e => by
      have := H8.out
      rw [← e, u2] at this
      simp at this
    have nb3 : w.heap.size + 1 ≠ g6 := fun e => by
      have := H8.out
      rw [← e, u3] at this
      simp at this
    obtain ⟨W8, hW8⟩ : ∃ W, W = (((((w'.setCell ⟨g6, 0, none⟩ (.slice B0 n0 d0)).setCell ⟨g6, 1, none⟩ (.slice B1 n1 d1)).setCell ⟨g6, 2, none⟩ (.slice B2 n2 d2)).setCell ⟨g6, 3, none⟩ (.map mp)).setCell ⟨g6, 4, none⟩ (.slice B3 n3 d3)) := ⟨_, rfl⟩
    rw [← hW8]
    have h88 : W8.heap[g6]? = some (.cells #[.slice B0 n0 d0, .slice B1 n1 d1, .slice B2 n2 d2, .map mp, .slice B3 n3 d3] 107 (0, 0)) := by rw [hW8]; exact blk_put (blk_set (blk_set (blk_set (blk_set H8.out 0 _) 1 _) 2 _) 3 _) 4 _ rfl
    have hch : Chg (fun k => k = g6) w' W8 := by rw [hW8]; exact (((((Chg.cell (S := fun k => k = g6) w' g6 0 (.slice B0 n0 d0) rfl).trans (Chg.cell _ g6 1 (.slice B1 n1 d1) rfl)).trans (Chg.cell _ g6 2 (.slice B2 n2 d2) rfl)).trans (Chg.cell _ g6 3 (.map mp) rfl)).trans (Chg.cell _ g6 4 (.slice B3 n3 d3) rfl))
    have h82 := (hch.block _ (blk_lt u2) nb2).trans u2
    have h83 := (hch.block _ (blk_lt u3) nb3).trans u3
    have hB8 : Below w.heap.size w W8 := uB.trans ⟨hch.os, hch.tape, hch.output, hch.size, fun k hk => hch.block k (Nat.lt_of_lt_of_le hk uB.size) (by omega)⟩
    have HCH := Lib.hid hch
    have HB8 := Lib.hid hB8
    clear hW8 hch u2 u3 uB HHE k0 k1 k2 k3 k4 f0 f1 f2 f3 f4 l8 s3 s4 s5 s6 s7 hHeld hB8
    have hBD : Below W8.heap.size W8 W8.drew := by repeat (first | exact Below.refl _ _ | refine Below.alloc ?_ (by simp <;> omega) _ | refine Below.setCell ?_ (by simp <;> omega) _ | apply Below.drew)
    have H82D := Lib.hid (blk_below h82 hBD)
    have H83D := Lib.hid (blk_below h83 hBD)
    have HBD := Lib.hid (HB8.out.trans (below_weaken hBD HB8.out.size))
    have d82 := (blk_cell h82 2).trans rfl
    clear h88 hBD
    go_wp2_with fail
    clear d82
    refine start_ (n := 14) (S := fun w' => w'.cell? ⟨w.heap.size, 2, none⟩ = some (.slice A2 l2.length c2) ∧ w'.cell? ⟨w.heap.size + 1, 0, none⟩ = some (.int .i64 lx.f0) ∧ w'.cell? ⟨w.heap.size + 1, 1, none⟩ = some (.int .i64 lx.f1)) (ds := [11, 13]) #[false, false, false, false, false, false, false, false, false, false, false, false, false, false] (by kernel_rfl) rfl rfl ⟨(blk_cell H82D.out 2).trans rfl, (blk_cell H83D.out 0).trans rfl, (blk_cell H83D.out 1).trans rfl⟩ (fun hHeld => ?_)
    refine pu_ 0 (some 19) ?_
    refine pu_ 2 (some 21) ?_
    refine pu_ 5 (some 24) ?_
    refine ta_ 1 (some 20) (s := hHeld) (y := by rintro w' ⟨s0, s1, s2⟩; go_simp; with_reducible rfl) (h := ?_)
    refine ta_ 3 (some 22) (s := hHeld) (y := by rintro w' ⟨s0, s1, s2⟩; go_simp; with_reducible rfl) (h := ?_)
    refine pu_ 4 (some 23) ?_
    refine ta_ 6 (some 25) (s := hHeld) (y := by rintro w' ⟨s0, s1, s2⟩; go_simp; with_reducible rfl) (h := ?_)
    refine pu_ 7 (some 26) ?_
    refine pu_ 8 (some 27) ?_
    refine ta_ 9 (some 28) (s := hHeld) (y := by rintro w' ⟨s0, s1, s2⟩; go_simp; with_reducible rfl) (h := ?_)
    refine one_ (i := 10) (N := some 29) #[true, true, true, true, true, true, true, true, true, true, true, false, false, false] rfl rfl (by kernel_rfl) (by decide) (fun K hK => ?_)
    refine value_ (w1 := ?_) (v := ?_) (by rfl) rfl ?_ ?_
    rotate_left 2
    · go_simp
      constructor
      · rfl
      · rfl
    have h8a := blk_alloc H82D.out (.cells #[.int .i64 lx.f0, .int .i64 lx.f1] 43)
    have h8b := blk_alloc H83D.out (.cells #[.int .i64 lx.f0, .int .i64 lx.f1] 43)
    have hnw := blk_new W8.drew (.cells #[.int .i64 lx.f0, .int .i64 lx.f1] 43)
    have HHA := Lib.hid ((HBD.out.alloc HBD.out.size (.cells #[.int .i64 lx.f0, .int .i64 lx.f1] 43)))
    refine hK.out _ _ ⟨(blk_cell h8a 2).trans rfl, (blk_cell h8b 0).trans rfl, (blk_cell h8b 1).trans rfl⟩ (fun hHeld => ?_)
    clear hK K
    refine no_ 29 ?_
    refine last_ (i := 11) (N := some 30) #[true, true, true, true, true, true, true, true, true, true, true, true, false, false] rfl rfl (by kernel_rfl) (by decide) (fun K hK => ?_)
    refine step_append_grows rfl (.tmp 27) (.tmp 29) 24 (by rfl) 43 i43 _ 2 16 Tryd.underlying24 hi43 hz0 hz1 hz2 rfl (by decide) A2 l2.length l2.length (l2.flatMap e43) (by rfl) HNONE.out (flat_length e43_len l2) (HFLAT.out _ HHA.out) ⟨W8.drew.heap.size, 0, none⟩ 1 1 [.int .i64 lx.f0, .int .i64 lx.f1] (by rfl) rfl ?aC ?aO (by omega) (by unfold maxLen; omega) (by omega) ?_
    (case aC => exact fun j u hj => (cell_add hnw j).trans (by simpa using hj))
    (case aO => exact fun u hu => by simp at hu; rcases hu with rfl | rfl <;> rfl)
    intro v6 w9 ho9 hg9
    have h92 := (hg9.block _ (blk_lt h8a) (by simp)).trans h8a
    rw [show l2.flatMap e43 ++ [.int .i64 lx.f0, .int .i64 lx.f1] = (l2 ++ [lx]).flatMap e43 by simp [e43]] at ho9
    obtain ⟨_, A9, c9, ev, _, hc9⟩ := frow_own' e43_len (by decide) ho9
    rw [HN9.out] at ev hc9
    subst ev
    have HC9 := Lib.hid hc9
    clear hc9
    have HB9 := Lib.hid (HHA.out.grown hg9 (by have := HHA.out.size; omega) (fun j ej => by simp at ej))
    have HO9 := Lib.hid ho9
    have H92 := Lib.hid h92
    have l92 := blk_lt h92
    have c92 := (blk_cell h92 2).trans rfl
    have f92 := blk_frozen h92 2
    clear ho9 hg9 h92 h8a h8b hnw
    refine hK.out _ _ ?_
    clear hK K
    refine no_ 30 ?_
    refine pu_ 12 (some 31) ?_
    refine last_ (i := 13) (N := none) #[true, true, true, true, true, true, true, true, true, true, true, true, true, true] rfl rfl (by kernel_rfl) (by decide) (fun K hK => ?_)
    refine skip_ (w1 := ?_) (by rfl) rfl ?_ ?_
    rotate_left
    · go_simp
      rfl
    refine hK.out _ _ ?_
    clear hK K
    refine done_ (by kernel_rfl) ?_

    have c90 := (blk_cell H92.out 0).trans rfl
    have c91 := (blk_cell H92.out 1).trans rfl
    have hqi := HQI.out
    have hfl := HFL.out
    have hbs : Below w.heap.size w (w9.setCell ⟨w.heap.size, 2, none⟩ (.slice A9 n9 c9)) := HB9.out.setCell (by simp) _
    have hos := own_same (W' := w9.setCell ⟨w.heap.size, 2, none⟩ (.slice A9 n9 c9)) HO9.out (fun k hk => Below.heap_setCell _ _ _ k (fun e => row_ne H92.out (by decide) HO9.out (by rw [hk, e])))
    have hrs := frow_at e43_len (by decide) hos
    have HOPS := Lib.hid (HOP.out _ A9 c9 hbs hrs HC9.out)
    have HBS := Lib.hid hbs
    clear hbs hos hrs
    go_wp2_with (go_at_call 75; refine HOPS.out.mono ?_; rintro e w3 ⟨At, ct, m, rfl, hB3⟩)
    go_ret2
    exact ⟨by rw [HQ.out]; rfl, HBS.out.trans (below_weaken hB3 HBS.out.size)⟩
  · rw [if_neg hz]
    have ht : (code != 0) = true := by simpa using hz
    go_enter Tryd.func38, Tryd.ntmps38
    go_upto_region 1 with fail
    obtain ⟨wP, hwP⟩ : ∃ W, W = ((w.alloc (.cells #[.slice A0 l0.length c0, .slice A1 l1.length c1, .slice A2 l2.length c2] 26)).alloc (.cells #[.int .i64 lx.f0, .int .i64 lx.f1] 43)) := ⟨_, rfl⟩
    rw [← hwP]
    have h2_ : wP.heap[w.heap.size]? = some (.cells #[.slice A0 l0.length c0, .slice A1 l1.length c1, .slice A2 l2.length c2] 26 (0, 0)) := by rw [hwP]; exact blk_alloc (blk_new _ _) _
    have h3_ : wP.heap[w.heap.size + 1]? = some (.cells #[.int .i64 lx.f0, .int .i64 lx.f1] 43 (0, 0)) := by rw [hwP]; exact blk_at (w.alloc _) _ _ (by simp)
    have hB_ : Below w.heap.size w wP.drew := by rw [hwP]; exact by repeat (first | exact Below.refl _ _ | refine Below.alloc ?_ (by simp <;> omega) _ | refine Below.setCell ?_ (by simp <;> omega) _ | apply Below.drew)
    clear hwP
    refine start_ (n := 11) (S := fun w' => w'.heap[w.heap.size]? = some (.cells #[.slice A0 l0.length c0, .slice A1 l1.length c1, .slice A2 l2.length c2] 26 (0, 0)) ∧ w'.heap[w.heap.size + 1]? = some (.cells #[.int .i64 lx.f0, .int .i64 lx.f1] 43 (0, 0)) ∧ Below w.heap.size w w' ∧ w'.cell? ⟨w.heap.size, 0, none⟩ = some (.slice A0 l0.length c0) ∧ w'.cell? ⟨w.heap.size, 1, none⟩ = some (.slice A1 l1.length c1) ∧ w'.cell? ⟨w.heap.size, 2, none⟩ = some (.slice A2 l2.length c2) ∧ w'.cell? ⟨w.heap.size + 1, 0, none⟩ = some (.int .i64 lx.f0) ∧ w'.cell? ⟨w.heap.size + 1, 1, none⟩ = some (.int .i64 lx.f1)) (ds := [9]) #[false, false, false, false, false, false, false, false, false, false, false] (by kernel_rfl) rfl rfl ⟨h2_, h3_, hB_, (blk_cell (h2_) 0).trans rfl, (blk_cell (h2_) 1).trans rfl, (blk_cell (h2_) 2).trans rfl, (blk_cell (h3_) 0).trans rfl, (blk_cell (h3_) 1).trans rfl⟩ (fun hHeld => ?_)
    refine ta_ 0 (some 9) (s := hHeld) (y := by rintro w' ⟨s0, s1, s2, s3, s4, s5, s6, s7⟩; go_simp; with_reducible rfl) (h := ?_)
    refine ta_ 1 (some 10) (s := hHeld) (y := by rintro w' ⟨s0, s1, s2, s3, s4, s5, s6, s7⟩; go_simp; with_reducible rfl) (h := ?_)
    refine ta_ 2 (some 11) (s := hHeld) (y := by rintro w' ⟨s0, s1, s2, s3, s4, s5, s6, s7⟩; go_simp; with_reducible rfl) (h := ?_)
    refine join_ (σ := Nat × Value) 2 #[true, true, true, true, true, true, true, true, true, false, false] (fun s => [(12, .bool qd), (13, .tuple #[s.2, .int .i64 code]), (8, .tuple #[s.2, .int .i64 code]), (14, s.2), (15, .int .i64 code), (6, .pointer (some ⟨s.1, 0, none⟩))]) (fun s w' => w'.heap[w.heap.size]? = some (.cells #[.slice A0 l0.length c0, .slice A1 l1.length c1, .slice A2 l2.length c2] 26 (0, 0)) ∧ w'.heap[w.heap.size + 1]? = some (.cells #[.int .i64 lx.f0, .int .i64 lx.f1] 43 (0, 0)) ∧ Below w.heap.size w w' ∧ w'.cell? ⟨w.heap.size, 0, none⟩ = some (.slice A0 l0.length c0) ∧ w'.cell? ⟨w.heap.size, 1, none⟩ = some (.slice A1 l1.length c1) ∧ w'.cell? ⟨w.heap.size, 2, none⟩ = some (.slice A2 l2.length c2) ∧ w'.cell? ⟨w.heap.size + 1, 0, none⟩ = some (.int .i64 lx.f0) ∧ w'.cell? ⟨w.heap.size + 1, 1, none⟩ = some (.int .i64 lx.f1) ∧ w'.heap[s.1]? = some (.cells #[.slice none 0 0, .slice none 0 0, .slice none 0 0, .map none, .slice none 0 0] 107 (0, 0)) ∧ w.heap.size ≤ s.1 ∧ AskP A0 A1 A2 c0 c1 c2 l0 l1 l2 w.heap.size code s.2 w') ?_ ?_
    rotate_left
    · intro hCont
      refine two_ (i := 3) (j := 8) (Ni := some 12) (Nj := some 6) #[true, true, true, true, false, false, false, false, false, false, false] #[true, true, true, false, false, false, false, false, true, false, false] rfl rfl rfl rfl (by kernel_rfl) (by decide) (by decide) (fun K hK => ?_) (fun K hK => ?_)
      · skip
        refine goes_ Tryd.func78 (by kernel_rfl) rfl #[.agg #[.slice A0 l0.length c0, .slice A1 l1.length c1, .slice A2 l2.length c2], .agg #[.int .i64 lx.f0, .int .i64 lx.f1]] (by rfl) rfl rfl (by simp only [List.map_toArray, List.map_cons, List.map_nil]; rfl) ?_
        refine (HLOOK.out _ hHeld.2.2.1).mono ?_
        rintro e w5 ⟨rfl, hb⟩
        refine ⟨_, rfl, ?_⟩
        refine hK.out _ _ ⟨blk_below hHeld.1 hb, blk_below hHeld.2.1 hb, hHeld.2.2.1.trans (below_weaken hb hHeld.2.2.1.size), (blk_cell (blk_below hHeld.1 hb) 0).trans rfl, (blk_cell (blk_below hHeld.1 hb) 1).trans rfl, (blk_cell (blk_below hHeld.1 hb) 2).trans rfl, (blk_cell (blk_below hHeld.2.1 hb) 0).trans rfl, (blk_cell (blk_below hHeld.2.1 hb) 1).trans rfl⟩ (fun hHeld => ?_)
        clear hK K
        refine no_ 12 ?_
        refine two_ (i := 4) (j := 8) (Ni := some 13) (Nj := some 6) #[true, true, true, true, true, false, false, false, false, false, false] #[true, true, true, true, false, false, false, false, true, false, false] rfl rfl rfl rfl (by kernel_rfl) (by decide) (by decide) (fun K hK => ?_) (fun K hK => ?_)
        · skip
          refine goes_ Tryd.func80 (by kernel_rfl) rfl #[.agg #[.slice A0 l0.length c0, .slice A1 l1.length c1, .slice A2 l2.length c2], .bool qd] (by rfl) rfl rfl (by simp only [List.map_toArray, List.map_cons, List.map_nil]; rfl) ?_
          refine (HASK.out _ hHeld.2.2.1).mono ?_
          rintro e w6 ⟨v, rfl, hP, hb⟩
          refine ⟨_, rfl, ?_⟩
          refine hK.out _ _ ⟨blk_below hHeld.1 hb, blk_below hHeld.2.1 hb, hHeld.2.2.1.trans (below_weaken hb hHeld.2.2.1.size), (blk_cell (blk_below hHeld.1 hb) 0).trans rfl, (blk_cell (blk_below hHeld.1 hb) 1).trans rfl, (blk_cell (blk_below hHeld.1 hb) 2).trans rfl, (blk_cell (blk_below hHeld.2.1 hb) 0).trans rfl, (blk_cell (blk_below hHeld.2.1 hb) 1).trans rfl⟩ (fun hHeld => ?_)
          clear hK K
          refine no_ 13 ?_
          refine pu_ 5 (some 8) ?_
          refine pu_ 6 (some 14) ?_
          refine pu_ 7 (some 15) ?_
          refine one_ (i := 8) (N := some 6) #[true, true, true, true, true, true, true, true, true, false, false] rfl rfl (by kernel_rfl) (by decide) (fun K hK => ?_)
          refine value_ (w1 := ?_) (v := ?_) (by rfl) rfl ?_ ?_
          rotate_left 2
          · go_simp
            constructor
            · rfl
            · rfl
          have lz : w.heap.size ≤ (w6).heap.size := hHeld.2.2.1.size
          have hal : Below (w6).heap.size (w6) ((w6).alloc (.cells #[.slice none 0 0, .slice none 0 0, .slice none 0 0, .map none, .slice none 0 0] 107)) := (Below.refl _ _).alloc (Nat.le_refl _) _
          have q8 := blk_new (w6) (.cells #[.slice none 0 0, .slice none 0 0, .slice none 0 0, .map none, .slice none 0 0] 107)
          have hP8 := hP.below hal
          refine hK.out _ _ ⟨blk_below hHeld.1 hal, blk_below hHeld.2.1 hal, hHeld.2.2.1.trans (below_weaken hal hHeld.2.2.1.size), (blk_cell (blk_below hHeld.1 hal) 0).trans rfl, (blk_cell (blk_below hHeld.1 hal) 1).trans rfl, (blk_cell (blk_below hHeld.1 hal) 2).trans rfl, (blk_cell (blk_below hHeld.2.1 hal) 0).trans rfl, (blk_cell (blk_below hHeld.2.1 hal) 1).trans rfl⟩ (fun hHeld => ?_)
          clear hK K
          refine no_ 6 ?_
          exact norm_ (by first | (simp only [putAll, Act.put, List.setIfInBounds_toArray, List.set_cons_zero, List.set_cons_succ]; done) | (simp only [putAll, Act.put, List.setIfInBounds_toArray, List.set_cons_zero, List.set_cons_succ]; rfl)) (hCont (w6.heap.size, v) _ ⟨hHeld.1, hHeld.2.1, hHeld.2.2.1, hHeld.2.2.2.1, hHeld.2.2.2.2.1, hHeld.2.2.2.2.2.1, hHeld.2.2.2.2.2.2.1, hHeld.2.2.2.2.2.2.2, q8, lz, hP8⟩)
        · skip
          refine value_ (w1 := ?_) (v := ?_) (by rfl) rfl ?_ ?_
          rotate_left 2
          · go_simp
            constructor
            · rfl
            · rfl
          have lz : w.heap.size ≤ (w5).heap.size := hHeld.2.2.1.size
          have hal : Below (w5).heap.size (w5) ((w5).alloc (.cells #[.slice none 0 0, .slice none 0 0, .slice none 0 0, .map none, .slice none 0 0] 107)) := (Below.refl _ _).alloc (Nat.le_refl _) _
          have h8_ := blk_new (w5) (.cells #[.slice none 0 0, .slice none 0 0, .slice none 0 0, .map none, .slice none 0 0] 107)
          refine hK.out _ _ ⟨blk_below hHeld.1 hal, blk_below hHeld.2.1 hal, hHeld.2.2.1.trans (below_weaken hal hHeld.2.2.1.size), (blk_cell (blk_below hHeld.1 hal) 0).trans rfl, (blk_cell (blk_below hHeld.1 hal) 1).trans rfl, (blk_cell (blk_below hHeld.1 hal) 2).trans rfl, (blk_cell (blk_below hHeld.2.1 hal) 0).trans rfl, (blk_cell (blk_below hHeld.2.1 hal) 1).trans rfl⟩ (fun hHeld => ?_)
          clear hK K
          refine no_ 6 ?_
          refine one_ (i := 4) (N := some 13) #[true, true, true, true, true, false, false, false, true, false, false] rfl rfl (by kernel_rfl) (by decide) (fun K hK => ?_)
          refine goes_ Tryd.func80 (by kernel_rfl) rfl #[.agg #[.slice A0 l0.length c0, .slice A1 l1.length c1, .slice A2 l2.length c2], .bool qd] (by rfl) rfl rfl (by simp only [List.map_toArray, List.map_cons, List.map_nil]; rfl) ?_
          refine (HASK.out _ hHeld.2.2.1).mono ?_
          rintro e w6 ⟨v, rfl, hP, hb⟩
          refine ⟨_, rfl, ?_⟩
          have q8 := blk_below h8_ hb
          refine hK.out _ _ ⟨blk_below hHeld.1 hb, blk_below hHeld.2.1 hb, hHeld.2.2.1.trans (below_weaken hb hHeld.2.2.1.size), (blk_cell (blk_below hHeld.1 hb) 0).trans rfl, (blk_cell (blk_below hHeld.1 hb) 1).trans rfl, (blk_cell (blk_below hHeld.1 hb) 2).trans rfl, (blk_cell (blk_below hHeld.2.1 hb) 0).trans rfl, (blk_cell (blk_below hHeld.2.1 hb) 1).trans rfl⟩ (fun hHeld => ?_)
          clear hK K
          refine no_ 13 ?_
          refine pu_ 5 (some 8) ?_
          refine pu_ 6 (some 14) ?_
          refine pu_ 7 (some 15) ?_
          exact norm_ (by first | (simp only [putAll, Act.put, List.setIfInBounds_toArray, List.set_cons_zero, List.set_cons_succ]; done) | (simp only [putAll, Act.put, List.setIfInBounds_toArray, List.set_cons_zero, List.set_cons_succ]; rfl)) (hCont (w5.heap.size, v) _ ⟨hHeld.1, hHeld.2.1, hHeld.2.2.1, hHeld.2.2.2.1, hHeld.2.2.2.2.1, hHeld.2.2.2.2.2.1, hHeld.2.2.2.2.2.2.1, hHeld.2.2.2.2.2.2.2, q8, lz, hP⟩)
      · skip
        refine value_ (w1 := ?_) (v := ?_) (by rfl) rfl ?_ ?_
        rotate_left 2
        · go_simp
          constructor
          · rfl
          · rfl
        have lz : w.heap.size ≤ (wP.drew).heap.size := hHeld.2.2.1.size
        have hal : Below (wP.drew).heap.size (wP.drew) ((wP.drew).alloc (.cells #[.slice none 0 0, .slice none 0 0, .slice none 0 0, .map none, .slice none 0 0] 107)) := (Below.refl _ _).alloc (Nat.le_refl _) _
        have h8_ := blk_new (wP.drew) (.cells #[.slice none 0 0, .slice none 0 0, .slice none 0 0, .map none, .slice none 0 0] 107)
        refine hK.out _ _ ⟨blk_below hHeld.1 hal, blk_below hHeld.2.1 hal, hHeld.2.2.1.trans (below_weaken hal hHeld.2.2.1.size), (blk_cell (blk_below hHeld.1 hal) 0).trans rfl, (blk_cell (blk_below hHeld.1 hal) 1).trans rfl, (blk_cell (blk_below hHeld.1 hal) 2).trans rfl, (blk_cell (blk_below hHeld.2.1 hal) 0).trans rfl, (blk_cell (blk_below hHeld.2.1 hal) 1).trans rfl⟩ (fun hHeld => ?_)
        clear hK K
        refine no_ 6 ?_
        refine one_ (i := 3) (N := some 12) #[true, true, true, true, false, false, false, false, true, false, false] rfl rfl (by kernel_rfl) (by decide) (fun K hK => ?_)
        refine goes_ Tryd.func78 (by kernel_rfl) rfl #[.agg #[.slice A0 l0.length c0, .slice A1 l1.length c1, .slice A2 l2.length c2], .agg #[.int .i64 lx.f0, .int .i64 lx.f1]] (by rfl) rfl rfl (by simp only [List.map_toArray, List.map_cons, List.map_nil]; rfl) ?_
        refine (HLOOK.out _ hHeld.2.2.1).mono ?_
        rintro e w5 ⟨rfl, hb⟩
        refine ⟨_, rfl, ?_⟩
        have h8b := blk_below h8_ hb
        refine hK.out _ _ ⟨blk_below hHeld.1 hb, blk_below hHeld.2.1 hb, hHeld.2.2.1.trans (below_weaken hb hHeld.2.2.1.size), (blk_cell (blk_below hHeld.1 hb) 0).trans rfl, (blk_cell (blk_below hHeld.1 hb) 1).trans rfl, (blk_cell (blk_below hHeld.1 hb) 2).trans rfl, (blk_cell (blk_below hHeld.2.1 hb) 0).trans rfl, (blk_cell (blk_below hHeld.2.1 hb) 1).trans rfl⟩ (fun hHeld => ?_)
        clear hK K
        refine no_ 12 ?_
        refine one_ (i := 4) (N := some 13) #[true, true, true, true, true, false, false, false, true, false, false] rfl rfl (by kernel_rfl) (by decide) (fun K hK => ?_)
        refine goes_ Tryd.func80 (by kernel_rfl) rfl #[.agg #[.slice A0 l0.length c0, .slice A1 l1.length c1, .slice A2 l2.length c2], .bool qd] (by rfl) rfl rfl (by simp only [List.map_toArray, List.map_cons, List.map_nil]; rfl) ?_
        refine (HASK.out _ hHeld.2.2.1).mono ?_
        rintro e w6 ⟨v, rfl, hP, hb⟩
        refine ⟨_, rfl, ?_⟩
        have q8 := blk_below h8b hb
        refine hK.out _ _ ⟨blk_below hHeld.1 hb, blk_below hHeld.2.1 hb, hHeld.2.2.1.trans (below_weaken hb hHeld.2.2.1.size), (blk_cell (blk_below hHeld.1 hb) 0).trans rfl, (blk_cell (blk_below hHeld.1 hb) 1).trans rfl, (blk_cell (blk_below hHeld.1 hb) 2).trans rfl, (blk_cell (blk_below hHeld.2.1 hb) 0).trans rfl, (blk_cell (blk_below hHeld.2.1 hb) 1).trans rfl⟩ (fun hHeld => ?_)
        clear hK K
        refine no_ 13 ?_
        refine pu_ 5 (some 8) ?_
        refine pu_ 6 (some 14) ?_
        refine pu_ 7 (some 15) ?_
        exact norm_ (by first | (simp only [putAll, Act.put, List.setIfInBounds_toArray, List.set_cons_zero, List.set_cons_succ]; done) | (simp only [putAll, Act.put, List.setIfInBounds_toArray, List.set_cons_zero, List.set_cons_succ]; rfl)) (hCont (wP.drew.heap.size, v) _ ⟨hHeld.1, hHeld.2.1, hHeld.2.2.1, hHeld.2.2.2.1, hHeld.2.2.2.2.1, hHeld.2.2.2.2.2.1, hHeld.2.2.2.2.2.2.1, hHeld.2.2.2.2.2.2.2, q8, lz, hP⟩)
    rintro ⟨g6, v⟩ w' ⟨s0, s1, s2, s3, s4, s5, s6, s7, h8, hg6, hP⟩
    obtain ⟨B0, n0, d0, B1, n1, d1, B2, n2, d2, mp, B3, n3, d3, rfl, hP⟩ := hP
    have hHeld : w'.heap[w.heap.size]? = some (.cells #[.slice A0 l0.length c0, .slice A1 l1.length c1, .slice A2 l2.length c2] 26 (0, 0)) ∧ w'.heap[w.heap.size + 1]? = some (.cells #[.int .i64 lx.f0, .int .i64 lx.f1] 43 (0, 0)) ∧ Below w.heap.size w w' ∧ w'.cell? ⟨w.heap.size, 0, none⟩ = some (.slice A0 l0.length c0) ∧ w'.cell? ⟨w.heap.size, 1, none⟩ = some (.slice A1 l1.length c1) ∧ w'.cell? ⟨w.heap.size, 2, none⟩ = some (.slice A2 l2.length c2) ∧ w'.cell? ⟨w.heap.size + 1, 0, none⟩ = some (.int .i64 lx.f0) ∧ w'.cell? ⟨w.heap.size + 1, 1, none⟩ = some (.int .i64 lx.f1) := ⟨s0, s1, s2, s3, s4, s5, s6, s7⟩
    have k0 := (blk_cell h8 0).trans rfl
    have k1 := (blk_cell h8 1).trans rfl
    have k2 := (blk_cell h8 2).trans rfl
    have k3 := (blk_cell h8 3).trans rfl
    have k4 := (blk_cell h8 4).trans rfl
    have f0 := blk_frozen h8 0
    have f1 := blk_frozen h8 1
    have f2 := blk_frozen h8 2
    have f3 := blk_frozen h8 3
    have f4 := blk_frozen h8 4
    have l8 := blk_lt h8
    have H8 := Lib.hid h8
    have HP := Lib.hid hP
    have HHE := Lib.hid hHeld
    clear h8 hP s0 s1 s2
    refine norm_ (a' := ?_) ?_ ?_
    rotate_left
    · simp only [putAll, Act.put, List.setIfInBounds_toArray, List.set_cons_zero, List.set_cons_succ]
      rfl
    refine last_ (i := 9) (N := none) #[true, true, true, true, true, true, true, true, true, true, false] rfl rfl (by kernel_rfl) (by decide) (fun K hK => ?_)
    refine skip_ (w1 := ?_) (by rfl) rfl ?_ ?_
    rotate_left
    · go_simp
      rfl
    refine hK.out _ _ ?_
    clear hK K
    refine pu_ 10 (some 7) ?_
    refine done_ (by kernel_rfl) ?_

    obtain ⟨u2, u3, uB, _⟩ := HHE.out
    have nb2 : w.heap.size ≠ g6 := fun e => by
      have := H8.out
      rw [← e, u2] at this
      simp at this
    have nb3 : w.heap.size + 1 ≠ g6 := fun e => by
      have := H8.out
      rw [← e, u3] at this
      simp at this
    obtain ⟨W8, hW8⟩ : ∃ W, W = (((((w'.setCell ⟨g6, 0, none⟩ (.slice B0 n0 d0)).setCell ⟨g6, 1, none⟩ (.slice B1 n1 d1)).setCell ⟨g6, 2, none⟩ (.slice B2 n2 d2)).setCell ⟨g6, 3, none⟩ (.map mp)).setCell ⟨g6, 4, none⟩ (.slice B3 n3 d3)) := ⟨_, rfl⟩
    rw [← hW8]
    have h88 : W8.heap[g6]? = some (.cells #[.slice B0 n0 d0, .slice B1 n1 d1, .slice B2 n2 d2, .map mp, .slice B3 n3 d3] 107 (0, 0)) := by rw [hW8]; exact blk_put (blk_set (blk_set (blk_set (blk_set H8.out 0 _) 1 _) 2 _) 3 _) 4 _ rfl
    have hch : Chg (fun k => k = g6) w' W8 := by rw [hW8]; exact (((((Chg.cell (S := fun k => k = g6) w' g6 0 (.slice B0 n0 d0) rfl).trans (Chg.cell _ g6 1 (.slice B1 n1 d1) rfl)).trans (Chg.cell _ g6 2 (.slice B2 n2 d2) rfl)).trans (Chg.cell _ g6 3 (.map mp) rfl)).trans (Chg.cell _ g6 4 (.slice B3 n3 d3) rfl))
    have h82 := (hch.block _ (blk_lt u2) nb2).trans u2
    have h83 := (hch.block _ (blk_lt u3) nb3).trans u3
    have hB8 : Below w.heap.size w W8 := uB.trans ⟨hch.os, hch.tape, hch.output, hch.size, fun k hk => hch.block k (Nat.lt_of_lt_of_le hk uB.size) (by omega)⟩
    have HCH := Lib.hid hch
    have HB8 := Lib.hid hB8
    clear hW8 hch u2 u3 uB HHE k0 k1 k2 k3 k4 f0 f1 f2 f3 f4 l8 s3 s4 s5 s6 s7 hHeld hB8
    go_wp2
    go_ret2
    exact ⟨rfl, HB8.out⟩
end Go.Proofs.YthgjedagbgmgmaaDoor.Pr
namespace Go.Proofs.YthgjedagbgmgmaaDoor.Pr
open Go.RowKit Go.Proofs.YthgjedagbgmgmaaDoorW.PrintWords Go.Proofs.YthgjedagbgmgmaaDoorW.PrintLast Go.Proofs.YthgjedagbgmgmaaDoorW.PrintMore
set_option linter.unusedVariables false
set_option linter.unusedSimpArgs false
/-- The first number from m on with which it goes on. -/
def chooseL (next : List Int → Option (List Int)) (s : List Int) : Nat → Nat → Option (List Int)
  | 0, _ => none
  | g + 1, m => match next (s ++ [(m : Int)]) with
    | some l => some l
    | none => chooseL next s g (m + 1)
/-- Where the next number begins. -/
def startOf (s : List Int) : Nat := match s.getLast? with
  | none => 0
  | some x => (x + 1).toNat
theorem startOf_some {s : List Int} {x : Int} (h : s.getLast? = some x) : startOf s = (x + 1).toNat := by unfold startOf; rw [h]
/-- The first rising row that begins with s and has f numbers more, below n. -/
def chooseF (ok : List Int → Bool) (n : Nat) : Nat → List Int → Option (List Int)
  | 0, s => if ok s then some s else none
  | f + 1, s => chooseL (chooseF ok n f) s (n - startOf s) (startOf s)
/-- The first number of looks with which there is a row. -/
def chooseAll (ok : List Int → Bool) (n : Nat) : Nat → Nat → Option (List Int)
  | 0, _ => none
  | g + 1, m => match chooseF ok n m [] with
    | some l => some l
    | none => chooseAll ok n g (m + 1)
def okBut (ls : List S92) (ds : List S90) (ks : List S43) (but : List Int) : Bool := decide (0 < (truthsAll ls ds ks but).length)
/-- What a row of choose's is. -/
def ChP (r : Option (List Int)) (v : Value) (W : World) : Prop := ∀ L, r = some L → ∃ A c, v = .slice A L.length c ∧ FRow eI 1 W A L ∧ L.length ≤ c
theorem inf3 : (Tryd.prog.info? 3).map (fun i => (i.zero, i.size, i.bytes)) = some (some (.int .i64 0), 1, 8) := by kernel_rfl
set_option maxHeartbeats 4000000 in
set_option maxRecDepth 100000 in
theorem choose0_calls (g1 g2 : Nat) (A0 A1 A2 : Option Addr) (c0 c1 c2 : Nat) (l0 : List S92) (l1 : List S90) (l2 : List S43) (w0 : World) (hG : GOK w0) (hr0 : FRow e92 2 w0 A0 l0) (hc0 : l0.length ≤ c0) (hr1 : FRow e90 3 w0 A1 l1) (hr2 : FRow e43 2 w0 A2 l2) (hc2 : l2.length ≤ c2) (hok : okBook l0 l1 l2 = true)
    (hg1 : w0.heap[g1]? = some (.cells #[.slice A0 l0.length c0, .slice A1 l1.length c1, .slice A2 l2.length c2] 26 (0, 0))) (hg2 : w0.heap[g2]? = some (.cells #[.func (.func 102) #[] #[.pointer (some ⟨g1, 0, none⟩), .pointer (some ⟨g2, 0, none⟩)]] 146 (0, 0))) (W : World) (A : Option Addr) (c : Nat) (s : List Int) (hB : Below w0.heap.size w0 W) (hF : FRow eI 1 W A s) (hc : s.length ≤ c) (hs4 : s.length ≤ 4) :
    Calls Tryd.prog 102 #[.slice A s.length c, .int .i64 (s.length : Int), .pointer (some ⟨g1, 0, none⟩), .pointer (some ⟨g2, 0, none⟩)] W fun e w' => ∃ v, e = .returned (.tuple #[v, .bool (if okBut l0 l1 l2 s = true then some s else none).isSome]) ∧ ChP (if okBut l0 l1 l2 s = true then some s else none) v w' ∧ Below W.heap.size W w' := by
  obtain ⟨o1, o2, o3, o4, o5, o6, o7⟩ := ok_facts hok
  obtain ⟨T, hT⟩ : ∃ T, T = truthsAll l0 l1 l2 s := ⟨_, rfl⟩
  have hob : okBut l0 l1 l2 s = decide (0 < T.length) := by rw [hT]; rfl
  have HOP : Hid (∀ W', Below W.heap.size W W' → Calls Tryd.prog 75 #[.agg #[.slice A0 l0.length c0, .slice A1 l1.length c1, .slice A2 l2.length c2], .slice A s.length c] W' fun e W9 => ∃ At ct m, e = .returned (.agg #[.slice A0 l0.length c0, .slice A1 l1.length c1, .slice A2 l2.length c2, .map (some m), .slice At T.length ct]) ∧ Below W'.heap.size W' W9) :=
    Lib.hid fun W' hW' => (opened_calls A0 A1 A2 A c0 c1 c2 c l0 l1 l2 s W' (hG.below (hB.trans (below_weaken hW' hB.size))) (hr0.below (hB.trans (below_weaken hW' hB.size))) (hr1.below (hB.trans (below_weaken hW' hB.size))) (hr2.below (hB.trans (below_weaken hW' hB.size))) (hF.below hW') hc0 hc2 hc o1 o2 o3 (by omega) (by omega) o6).mono (by
      rintro e W9 ⟨At, ct, m, rfl, _, _, _, hb⟩
      rw [← hT]
      exact ⟨At, ct, m, rfl, hb⟩)
  have hfl : ∀ A' m ct W, (Instr.field 107 (.agg #[.slice A0 l0.length c0, .slice A1 l1.length c1, .slice A2 l2.length c2, .map (some m), .slice A' T.length ct]) 2).run Tryd.prog W = .ok (.slice A' T.length ct) W := fun _ _ _ _ => field107 _ _ _ _ _ _ _ _ _ _ _ _ _ _
  have hg1W := blk_below hg1 hB
  have k0 := (blk_cell hg1W 0).trans rfl
  have k1 := (blk_cell hg1W 1).trans rfl
  have k2 := (blk_cell hg1W 2).trans rfl
  have HF := Lib.hid hF
  have hq : ((s.length : Int) == (s.length : Int)) = true := beq_self_eq_true _
  obtain ⟨q, hqq⟩ : ∃ q, q = okBut l0 l1 l2 s := ⟨_, rfl⟩
  have hsome : (if okBut l0 l1 l2 s = true then some s else none).isSome = q := by rw [hqq]; cases okBut l0 l1 l2 s <;> rfl
  have hch : ∀ w', Below W.heap.size W w' → ChP (if okBut l0 l1 l2 s = true then some s else none) (.slice A s.length c) w' := by
    intro w' hb L hL
    have : s = L := by
      split at hL
      · exact Option.some.inj hL
      · cases hL
    subst this
    exact ⟨A, c, rfl, hF.below hb, hc⟩
  rw [hsome]
  have HCH := Lib.hid hch
  have HQ := Lib.hid (hqq.trans hob)
  have HFL := Lib.hid hfl
  clear hT hob hG hr0 hr1 hr2 hok hg1 hg2 hg1W hF o1 o2 o3 o4 o5 o6 o7 hsome hch hqq hfl hB
  generalize (if okBut l0 l1 l2 s = true then some s else none) = RR at HCH ⊢
  have hfl := HFL.out
  go_enter Tryd.func102, Tryd.ntmps102
  go_wp2_with (go_at_call 75; refine (HOP.out _ ?hw).mono ?_; (case hw => exact by repeat (first | exact Below.refl _ _ | refine Below.alloc ?_ (by simp <;> omega) _ | refine Below.setCell ?_ (by simp <;> omega) _ | apply Below.drew)); rintro e w3 ⟨At, ct, m, rfl, hB3⟩)
  go_ret2
  exact ⟨_, by rw [HQ.out]; rfl, HCH.out _ hB3, hB3⟩
set_option maxHeartbeats 4000000 in
set_option maxRecDepth 100000 in
theorem choose_step (g1 g2 : Nat) (A0 A1 A2 : Option Addr) (c0 c1 c2 : Nat) (l0 : List S92) (l1 : List S90) (l2 : List S43) (w0 : World) (hG : GOK w0) (hr0 : FRow e92 2 w0 A0 l0) (hc0 : l0.length ≤ c0) (hr1 : FRow e90 3 w0 A1 l1) (hr2 : FRow e43 2 w0 A2 l2) (hc2 : l2.length ≤ c2) (hok : okBook l0 l1 l2 = true)
    (hg1 : w0.heap[g1]? = some (.cells #[.slice A0 l0.length c0, .slice A1 l1.length c1, .slice A2 l2.length c2] 26 (0, 0))) (hg2 : w0.heap[g2]? = some (.cells #[.func (.func 102) #[] #[.pointer (some ⟨g1, 0, none⟩), .pointer (some ⟨g2, 0, none⟩)]] 146 (0, 0))) (f many : Nat)
    (ih : ∀ (W : World) (A : Option Addr) (c : Nat) (s : List Int), Below w0.heap.size w0 W → FRow eI 1 W A s → s.length ≤ c → s.length + f = many → many ≤ 4 → (∀ x ∈ s, 0 ≤ x ∧ x < (l2.length : Int)) →
      Calls Tryd.prog 102 #[.slice A s.length c, .int .i64 (many : Int), .pointer (some ⟨g1, 0, none⟩), .pointer (some ⟨g2, 0, none⟩)] W fun e w' => ∃ v, e = .returned (.tuple #[v, .bool (chooseF (okBut l0 l1 l2) l2.length f s).isSome]) ∧ ChP (chooseF (okBut l0 l1 l2) l2.length f s) v w' ∧ Below W.heap.size W w')
    (W : World) (A : Option Addr) (c : Nat) (s : List Int) (hB : Below w0.heap.size w0 W) (hF : FRow eI 1 W A s) (hc : s.length ≤ c) (hm : s.length + (f + 1) = many) (hm4 : many ≤ 4) (hx : ∀ x ∈ s, 0 ≤ x ∧ x < (l2.length : Int)) :
    Calls Tryd.prog 102 #[.slice A s.length c, .int .i64 (many : Int), .pointer (some ⟨g1, 0, none⟩), .pointer (some ⟨g2, 0, none⟩)] W fun e w' => ∃ v, e = .returned (.tuple #[v, .bool (chooseF (okBut l0 l1 l2) l2.length (f + 1) s).isSome]) ∧ ChP (chooseF (okBut l0 l1 l2) l2.length (f + 1) s) v w' ∧ Below W.heap.size W w' := by
  obtain ⟨i3, hi3, hz0, hz1, hz2⟩ := info_parts inf3
  have hl24 : l2.length ≤ 4 := (ok_facts hok).2.2.2.2.1
  have hg1W := blk_below hg1 hB
  have hg2W := blk_below hg2 hB
  have k2 := (blk_cell hg1W 2).trans rfl
  have HG1 := Lib.hid hg1W
  have HG2 := Lib.hid hg2W
  have HFLAT : Hid (∀ W', Below W.heap.size W W' → ∀ b, A = some b → ∀ j u, (s.flatMap eI)[j]? = some u → W'.cell? (b.add j) = some u) :=
    Lib.hid fun W' hW' => frow_flat eI_len (hF.below hW')
  have hst : startOf s ≤ l2.length := by
    unfold startOf
    split
    · omega
    · rename_i x hx'
      have := hx x (List.mem_of_getLast? hx')
      omega
  obtain ⟨n9, hn9⟩ : ∃ n, n = s.length + 1 := ⟨_, rfl⟩
  have HIHM : Hid (∀ (m : Nat), m < l2.length → ∀ (W' : World) (A9 : Option Addr) (c9 : Nat), Below W.heap.size W W' → FRow eI 1 W' A9 (s ++ [(m : Int)]) → n9 ≤ c9 →
      Calls Tryd.prog 102 #[.slice A9 n9 c9, .int .i64 (many : Int), .pointer (some ⟨g1, 0, none⟩), .pointer (some ⟨g2, 0, none⟩)] W' fun e w' => ∃ v, e = .returned (.tuple #[v, .bool (chooseF (okBut l0 l1 l2) l2.length f (s ++ [(m : Int)])).isSome]) ∧ ChP (chooseF (okBut l0 l1 l2) l2.length f (s ++ [(m : Int)])) v w' ∧ Below W'.heap.size W' w') := by
    refine Lib.hid fun m hml W' A9 c9 hW' hF9 hc9 => ?_
    have hl : (s ++ [(m : Int)]).length = n9 := by simp [hn9]
    have := ih W' A9 c9 (s ++ [(m : Int)]) (hB.trans (below_weaken hW' hB.size)) hF9 (by rw [hl]; exact hc9) (by rw [hl, hn9]; omega) hm4 (fun x hxm => by
      rcases List.mem_append.1 hxm with h | h
      · exact hx x h
      · simp at h; omega)
    rw [hl] at this
    exact this
  have hne : ((s.length : Int) == (many : Int)) = false := beq_eq_false_iff_ne.2 (by omega)
  have hs4 : s.length ≤ 4 := by omega
  have HN9 : Hid (∀ m : Nat, (s ++ [(m : Int)]).length = n9) := Lib.hid fun m => by simp [hn9]
  have HLF : Hid (chooseF (okBut l0 l1 l2) l2.length (f + 1) s = chooseL (chooseF (okBut l0 l1 l2) l2.length f) s (l2.length - startOf s) (startOf s)) := Lib.hid rfl
  have hlast : s.length = 0 ∧ startOf s = 0 ∨ ∃ (j : Nat) (x : Int) (b o : Nat), s.length = j + 1 ∧ A = some ⟨b, o, none⟩ ∧ W.cell? ⟨b, o + j, none⟩ = some (.int .i64 x) ∧ x + 1 = (startOf s : Int) ∧ 0 ≤ x ∧ x < 4 := by
    by_cases hs0 : s.length = 0
    · left
      refine ⟨hs0, ?_⟩
      rw [List.length_eq_zero_iff.1 hs0]
      rfl
    · right
      obtain ⟨j, hj⟩ : ∃ j, s.length = j + 1 := ⟨s.length - 1, by omega⟩
      have hsj : s[j]? = some (s[j]'(by omega)) := List.getElem?_eq_getElem (by omega)
      rcases hF with h | ⟨b, o, e, _, hcc⟩
      · rw [h] at hs0; simp at hs0
      · have hcj := hcc j _ hsj 0 _ rfl
        simp only [Nat.mul_one, Nat.add_zero] at hcj
        have hxj := hx _ (List.getElem_mem (l := s) (n := j) (by omega))
        refine ⟨j, _, b, o, hj, e, hcj, ?_, hxj.1, by omega⟩
        have hgl : s.getLast? = some (s[j]'(by omega)) := by
          rw [List.getLast?_eq_getElem?, show s.length - 1 = j by omega]
          exact hsj
        rw [startOf_some hgl]
        omega
  obtain ⟨RR, hRR⟩ : ∃ R, R = chooseF (okBut l0 l1 l2) l2.length (f + 1) s := ⟨_, rfl⟩
  rw [← hRR]
  have HRR := Lib.hid (hRR.trans HLF.out)
  have HF := Lib.hid hF
  obtain ⟨st, hst2⟩ : ∃ n, n = startOf s := ⟨_, rfl⟩
  rw [← hst2] at HRR hst hlast
  clear hG hr0 hr1 hr2 hok hg1 hg2 hg1W hg2W hF hx ih hB hn9 hm hRR HLF hst2
  obtain ⟨n8, hn8⟩ : ∃ n, n = s.length := ⟨_, rfl⟩
  have HN8 : Hid (s.length = n8) := Lib.hid hn8.symm
  rw [← hn8] at hlast hne hs4 hc ⊢
  clear hn8
  rcases hlast with ⟨rfl, rfl⟩ | ⟨j, x, b, o, rfl, rfl, hcx, hxst, hx0, hx4⟩
  · go_enter Tryd.func102, Tryd.ntmps102
    go_wp2
    go_loopg [10] (l2.length - 0) (fun gk v10 wr => ∃ (m : Nat), v10 = .int .i64 m ∧ Aside0 (m + gk = l2.length) ∧ Aside0 (RR = chooseL (chooseF (okBut l0 l1 l2) l2.length f) s gk m) ∧ Aside0 (wr.heap[g2]? = some (.cells #[.func (.func 102) #[] #[.pointer (some ⟨g1, 0, none⟩), .pointer (some ⟨g2, 0, none⟩)]] 146 (0, 0))) ∧ Aside0 (wr.heap[g1]? = some (.cells #[.slice A0 l0.length c0, .slice A1 l1.length c1, .slice A2 l2.length c2] 26 (0, 0))) ∧ Aside0 (Below W.heap.size W wr))
    case atStart =>  exact ⟨0, rfl, ⟨by omega⟩, ⟨by first | exact HRR.out | (rw [HRR.out]; congr 1; omega)⟩, ⟨HG2.out⟩, ⟨HG1.out⟩, ⟨Below.refl _ _⟩⟩
    case round =>
      obtain ⟨m, rfl, HK, HS, HG2R, HG1R, HBR⟩ := hrel
      have k2 := (blk_cell HG1R.out 2).trans rfl
      cases gk with
      | zero =>
        have hge : ¬ m < l2.length := by have := HK.out; omega
        have HNO : Hid (RR = none) := Lib.hid HS.out
        have hch : ∀ v w', ChP RR v w' := fun v w' L hL => by rw [HNO.out] at hL; cases hL
        have HCH := Lib.hid hch
        have HIS : Hid (RR.isSome = false) := Lib.hid (by rw [HNO.out]; rfl)
        clear hch
        go_wp2
        go_ret2
        exact ⟨_, by rw [HIS.out]; rfl, HCH.out _ _, HBR.out⟩
      | succ g1' =>
        have hlt : m < l2.length := by have := HK.out; omega
        obtain ⟨R9, hR9⟩ : ∃ R, R = chooseF (okBut l0 l1 l2) l2.length f (s ++ [(m : Int)]) := ⟨_, rfl⟩
        have HIH := Lib.hid (HIHM.out m hlt)
        rw [← hR9] at HIH
        have hm4 : m ≤ 4 := by omega
        cases R9 with
        | none =>
          have HSN : Hid (RR = chooseL (chooseF (okBut l0 l1 l2) l2.length f) s g1' (m + 1)) := by
            refine Lib.hid ?_
            rw [HS.out]
            show (match chooseF (okBut l0 l1 l2) l2.length f (s ++ [(m : Int)]) with | some l => some l | none => _) = _
            rw [← hR9]
          clear hR9
          go_upto_region 10 with fail
          have hBP : Below wr.heap.size wr wr.drew := by repeat (first | exact Below.refl _ _ | refine Below.alloc ?_ (by simp <;> omega) _ | refine Below.setCell ?_ (by simp <;> omega) _ | apply Below.drew)
          have HG2D := Lib.hid (blk_below HG2R.out hBP)
          have HBD := Lib.hid (HBR.out.trans (below_weaken hBP HBR.out.size))
          have HN9 := Lib.hid (HN9.out m)
          clear hBP
          refine start_ (n := 15) (S := fun w' => w'.cell? ⟨g2, 0, none⟩ = some (.func (.func 102) #[] #[.pointer (some ⟨g1, 0, none⟩), .pointer (some ⟨g2, 0, none⟩)])) (ds := []) #[false, false, false, false, false, false, false, false, false, false, false, false, false, false, false] (by kernel_rfl) rfl rfl ((blk_cell HG2D.out 0).trans rfl) (fun hHeld => ?_)
          refine pu_ 1 (some 43) ?_
          refine pu_ 2 (some 44) ?_
          refine pu_ 3 (some 45) ?_
          refine pu_ 4 (some 46) ?_
          refine pu_ 5 (some 47) ?_
          refine pu_ 8 (some 50) ?_
          refine take_ (i := 0) (N := some 42) (v := ?_) (a' := ?_) #[true, true, true, true, true, true, false, false, true, false, false, false, false, false, false] rfl rfl (by kernel_rfl) (fun _ _ _ h => h) (Or.inl ⟨by rfl, ?_⟩) hHeld ?_ ?_
          rotate_left
          · intro w' s0
            go_simp
            with_reducible rfl
          rotate_left
          · simp only [Act.put, List.setIfInBounds_toArray, List.set_cons_zero, List.set_cons_succ, i64_w, i32_w]
            rfl
          refine one_ (i := 6) (N := some 48) #[true, true, true, true, true, true, true, false, true, false, false, false, false, false, false] rfl rfl (by kernel_rfl) (by decide) (fun K hK => ?_)
          refine value_ (w1 := ?_) (v := ?_) (by rfl) rfl ?_ ?_
          rotate_left 2
          · go_simp
            constructor
            · rfl
            · rfl
          have h2a := blk_alloc HG2D.out (.cells #[.int .i64 (m : Int)] 3)
          have hnw := blk_new wr.drew (.cells #[.int .i64 (m : Int)] 3)
          have HHA := Lib.hid (HBD.out.alloc HBD.out.size (.cells #[.int .i64 (m : Int)] 3))
          refine hK.out _ _ ((blk_cell h2a 0).trans rfl) (fun hHeld => ?_)
          clear hK K
          refine no_ 48 ?_
          refine one_ (i := 7) (N := some 49) #[true, true, true, true, true, true, true, true, true, false, false, false, false, false, false] rfl rfl (by kernel_rfl) (by decide) (fun K hK => ?_)
          refine step_append_grows rfl (.tmp 46) (.tmp 48) 45 (by rfl) 3 i3 _ 1 8 Tryd.underlying45 hi3 hz0 hz1 hz2 rfl (by decide) A 0 0 (s.flatMap eI) (by rfl) (fun _ => ⟨rfl, rfl⟩) (by rw [flat_length eI_len s, HN8.out]) (HFLAT.out _ HHA.out) ⟨wr.drew.heap.size, 0, none⟩ 1 1 [.int .i64 (m : Int)] (by rfl) rfl ?aC ?aO (by omega) (by unfold maxLen; omega) (by omega) ?_
          (case aC => exact fun j u hj => (cell_add hnw j).trans (by simpa using hj))
          (case aO => exact fun u hu => by simp at hu; rcases hu with rfl; rfl)
          intro v6 w9 ho9 hg9
          have h29 := (hg9.block _ (blk_lt h2a) (by simp)).trans h2a
          have HB9 := Lib.hid (HHA.out.grown hg9 (by have := HHA.out.size; omega) (fun j ej => by simp at ej))
          rw [show s.flatMap eI ++ [.int .i64 (m : Int)] = (s ++ [(m : Int)]).flatMap eI by simp [eI]] at ho9
          obtain ⟨eL, A9, c9, ev, hF9, hc9⟩ := frow_own' eI_len (by decide) ho9
          clear eL
          rw [HN9.out] at ev hc9
          subst ev
          have HC9 := Lib.hid hc9
          have HF9 := Lib.hid hF9
          clear hc9 hF9 ho9 hg9 hnw
          refine hK.out _ _ ((blk_cell h29 0).trans rfl) (fun hHeld => ?_)
          clear hK K
          refine no_ 49 ?_
          refine one_ (i := 9) (N := some 51) #[true, true, true, true, true, true, true, true, true, true, false, false, false, false, false] rfl rfl (by kernel_rfl) (by decide) (fun K hK => ?_)
          refine goesV_ Tryd.func102 (by kernel_rfl) rfl #[.slice A9 n9 c9, .int .i64 (many : Int), .pointer (some ⟨g1, 0, none⟩), .pointer (some ⟨g2, 0, none⟩)] #[] #[.pointer (some ⟨g1, 0, none⟩), .pointer (some ⟨g2, 0, none⟩)] (by rfl) rfl rfl rfl (by simp only [List.map_toArray, List.map_cons, List.map_nil]; rfl) ?_
          refine (HIH.out _ A9 c9 HB9.out HF9.out HC9.out).mono ?_
          rintro e w10 ⟨v, rfl, hP, hb⟩
          refine ⟨_, rfl, ?_⟩
          have h210 := blk_below h29 hb
          have HB10 := Lib.hid (HB9.out.trans (below_weaken hb HB9.out.size))
          have HP := Lib.hid hP
          clear hP hb
          refine hK.out _ _ ((blk_cell h210 0).trans rfl) (fun hHeld => ?_)
          clear hK K
          refine no_ 51 ?_
          refine pu_ 10 (some 41) ?_
          refine pu_ 11 (some 52) ?_
          refine pu_ 12 (some 53) ?_
          refine pu_ 13 (some 11) ?_
          refine pu_ 14 (some 12) ?_
          refine done_ (by kernel_rfl) ?_

          go_wp2
          go_roundg g1'
          case measure => omega
          case rel => exact ⟨m + 1, by go_num, ⟨by have := HK.out; omega⟩, ⟨HSN.out⟩, ⟨h210⟩, ⟨blk_below HG1.out HB10.out⟩, ⟨HB10.out⟩⟩
        | some L =>
          have HSS : Hid (RR = some L) := by
            refine Lib.hid ?_
            rw [HS.out]
            show (match chooseF (okBut l0 l1 l2) l2.length f (s ++ [(m : Int)]) with | some l => some l | none => _) = _
            rw [← hR9]
          have HIS : Hid (RR.isSome = true) := Lib.hid (by rw [HSS.out]; rfl)
          clear hR9
          go_upto_region 10 with fail
          have hBP : Below wr.heap.size wr wr.drew := by repeat (first | exact Below.refl _ _ | refine Below.alloc ?_ (by simp <;> omega) _ | refine Below.setCell ?_ (by simp <;> omega) _ | apply Below.drew)
          have HG2D := Lib.hid (blk_below HG2R.out hBP)
          have HBD := Lib.hid (HBR.out.trans (below_weaken hBP HBR.out.size))
          have HN9 := Lib.hid (HN9.out m)
          clear hBP
          refine start_ (n := 15) (S := fun w' => w'.cell? ⟨g2, 0, none⟩ = some (.func (.func 102) #[] #[.pointer (some ⟨g1, 0, none⟩), .pointer (some ⟨g2, 0, none⟩)])) (ds := []) #[false, false, false, false, false, false, false, false, false, false, false, false, false, false, false] (by kernel_rfl) rfl rfl ((blk_cell HG2D.out 0).trans rfl) (fun hHeld => ?_)
          refine pu_ 1 (some 43) ?_
          refine pu_ 2 (some 44) ?_
          refine pu_ 3 (some 45) ?_
          refine pu_ 4 (some 46) ?_
          refine pu_ 5 (some 47) ?_
          refine pu_ 8 (some 50) ?_
          refine take_ (i := 0) (N := some 42) (v := ?_) (a' := ?_) #[true, true, true, true, true, true, false, false, true, false, false, false, false, false, false] rfl rfl (by kernel_rfl) (fun _ _ _ h => h) (Or.inl ⟨by rfl, ?_⟩) hHeld ?_ ?_
          rotate_left
          · intro w' s0
            go_simp
            with_reducible rfl
          rotate_left
          · simp only [Act.put, List.setIfInBounds_toArray, List.set_cons_zero, List.set_cons_succ, i64_w, i32_w]
            rfl
          refine one_ (i := 6) (N := some 48) #[true, true, true, true, true, true, true, false, true, false, false, false, false, false, false] rfl rfl (by kernel_rfl) (by decide) (fun K hK => ?_)
          refine value_ (w1 := ?_) (v := ?_) (by rfl) rfl ?_ ?_
          rotate_left 2
          · go_simp
            constructor
            · rfl
            · rfl
          have h2a := blk_alloc HG2D.out (.cells #[.int .i64 (m : Int)] 3)
          have hnw := blk_new wr.drew (.cells #[.int .i64 (m : Int)] 3)
          have HHA := Lib.hid (HBD.out.alloc HBD.out.size (.cells #[.int .i64 (m : Int)] 3))
          refine hK.out _ _ ((blk_cell h2a 0).trans rfl) (fun hHeld => ?_)
          clear hK K
          refine no_ 48 ?_
          refine one_ (i := 7) (N := some 49) #[true, true, true, true, true, true, true, true, true, false, false, false, false, false, false] rfl rfl (by kernel_rfl) (by decide) (fun K hK => ?_)
          refine step_append_grows rfl (.tmp 46) (.tmp 48) 45 (by rfl) 3 i3 _ 1 8 Tryd.underlying45 hi3 hz0 hz1 hz2 rfl (by decide) A 0 0 (s.flatMap eI) (by rfl) (fun _ => ⟨rfl, rfl⟩) (by rw [flat_length eI_len s, HN8.out]) (HFLAT.out _ HHA.out) ⟨wr.drew.heap.size, 0, none⟩ 1 1 [.int .i64 (m : Int)] (by rfl) rfl ?aC ?aO (by omega) (by unfold maxLen; omega) (by omega) ?_
          (case aC => exact fun j u hj => (cell_add hnw j).trans (by simpa using hj))
          (case aO => exact fun u hu => by simp at hu; rcases hu with rfl; rfl)
          intro v6 w9 ho9 hg9
          have h29 := (hg9.block _ (blk_lt h2a) (by simp)).trans h2a
          have HB9 := Lib.hid (HHA.out.grown hg9 (by have := HHA.out.size; omega) (fun j ej => by simp at ej))
          rw [show s.flatMap eI ++ [.int .i64 (m : Int)] = (s ++ [(m : Int)]).flatMap eI by simp [eI]] at ho9
          obtain ⟨eL, A9, c9, ev, hF9, hc9⟩ := frow_own' eI_len (by decide) ho9
          clear eL
          rw [HN9.out] at ev hc9
          subst ev
          have HC9 := Lib.hid hc9
          have HF9 := Lib.hid hF9
          clear hc9 hF9 ho9 hg9 hnw
          refine hK.out _ _ ((blk_cell h29 0).trans rfl) (fun hHeld => ?_)
          clear hK K
          refine no_ 49 ?_
          refine one_ (i := 9) (N := some 51) #[true, true, true, true, true, true, true, true, true, true, false, false, false, false, false] rfl rfl (by kernel_rfl) (by decide) (fun K hK => ?_)
          refine goesV_ Tryd.func102 (by kernel_rfl) rfl #[.slice A9 n9 c9, .int .i64 (many : Int), .pointer (some ⟨g1, 0, none⟩), .pointer (some ⟨g2, 0, none⟩)] #[] #[.pointer (some ⟨g1, 0, none⟩), .pointer (some ⟨g2, 0, none⟩)] (by rfl) rfl rfl rfl (by simp only [List.map_toArray, List.map_cons, List.map_nil]; rfl) ?_
          refine (HIH.out _ A9 c9 HB9.out HF9.out HC9.out).mono ?_
          rintro e w10 ⟨v, rfl, hP, hb⟩
          refine ⟨_, rfl, ?_⟩
          have h210 := blk_below h29 hb
          have HB10 := Lib.hid (HB9.out.trans (below_weaken hb HB9.out.size))
          have HP := Lib.hid hP
          clear hP hb
          refine hK.out _ _ ((blk_cell h210 0).trans rfl) (fun hHeld => ?_)
          clear hK K
          refine no_ 51 ?_
          refine pu_ 10 (some 41) ?_
          refine pu_ 11 (some 52) ?_
          refine pu_ 12 (some 53) ?_
          refine pu_ 13 (some 11) ?_
          refine pu_ 14 (some 12) ?_
          refine done_ (by kernel_rfl) ?_

          go_wp2
          go_ret2
          exact ⟨_, by rw [HIS.out]; rfl, by rw [HSS.out]; exact HP.out, HB10.out⟩

  · have HXST := Lib.hid hxst
    have hcI : ((j : Int) + 1 ≤ (c : Int)) = True := eq_true (by omega)
    have hjI : ((0 : Int) ≤ (j : Int) + 1) = True := eq_true (by omega)
    clear hxst
    go_enter Tryd.func102, Tryd.ntmps102
    go_wp2
    go_loopg [10] (l2.length - st) (fun gk v10 wr => ∃ (m : Nat), v10 = .int .i64 m ∧ Aside0 (m + gk = l2.length) ∧ Aside0 (RR = chooseL (chooseF (okBut l0 l1 l2) l2.length f) s gk m) ∧ Aside0 (wr.heap[g2]? = some (.cells #[.func (.func 102) #[] #[.pointer (some ⟨g1, 0, none⟩), .pointer (some ⟨g2, 0, none⟩)]] 146 (0, 0))) ∧ Aside0 (wr.heap[g1]? = some (.cells #[.slice A0 l0.length c0, .slice A1 l1.length c1, .slice A2 l2.length c2] 26 (0, 0))) ∧ Aside0 (Below W.heap.size W wr))
    case atStart => have hxx := HXST.out; exact ⟨st, by rw [HXST.out], ⟨by omega⟩, ⟨by first | exact HRR.out | (rw [HRR.out]; congr 1; omega)⟩, ⟨HG2.out⟩, ⟨HG1.out⟩, ⟨Below.refl _ _⟩⟩
    case round =>
      obtain ⟨m, rfl, HK, HS, HG2R, HG1R, HBR⟩ := hrel
      have k2 := (blk_cell HG1R.out 2).trans rfl
      cases gk with
      | zero =>
        have hge : ¬ m < l2.length := by have := HK.out; omega
        have HNO : Hid (RR = none) := Lib.hid HS.out
        have hch : ∀ v w', ChP RR v w' := fun v w' L hL => by rw [HNO.out] at hL; cases hL
        have HCH := Lib.hid hch
        have HIS : Hid (RR.isSome = false) := Lib.hid (by rw [HNO.out]; rfl)
        clear hch
        go_wp2
        go_ret2
        exact ⟨_, by rw [HIS.out]; rfl, HCH.out _ _, HBR.out⟩
      | succ g1' =>
        have hlt : m < l2.length := by have := HK.out; omega
        obtain ⟨R9, hR9⟩ : ∃ R, R = chooseF (okBut l0 l1 l2) l2.length f (s ++ [(m : Int)]) := ⟨_, rfl⟩
        have HIH := Lib.hid (HIHM.out m hlt)
        rw [← hR9] at HIH
        have hm4 : m ≤ 4 := by omega
        cases R9 with
        | none =>
          have HSN : Hid (RR = chooseL (chooseF (okBut l0 l1 l2) l2.length f) s g1' (m + 1)) := by
            refine Lib.hid ?_
            rw [HS.out]
            show (match chooseF (okBut l0 l1 l2) l2.length f (s ++ [(m : Int)]) with | some l => some l | none => _) = _
            rw [← hR9]
          clear hR9
          go_upto_region 10 with fail
          have hBP : Below wr.heap.size wr wr.drew := by repeat (first | exact Below.refl _ _ | refine Below.alloc ?_ (by simp <;> omega) _ | refine Below.setCell ?_ (by simp <;> omega) _ | apply Below.drew)
          have HG2D := Lib.hid (blk_below HG2R.out hBP)
          have HBD := Lib.hid (HBR.out.trans (below_weaken hBP HBR.out.size))
          have HN9 := Lib.hid (HN9.out m)
          clear hBP
          refine start_ (n := 15) (S := fun w' => w'.cell? ⟨g2, 0, none⟩ = some (.func (.func 102) #[] #[.pointer (some ⟨g1, 0, none⟩), .pointer (some ⟨g2, 0, none⟩)])) (ds := []) #[false, false, false, false, false, false, false, false, false, false, false, false, false, false, false] (by kernel_rfl) rfl rfl ((blk_cell HG2D.out 0).trans rfl) (fun hHeld => ?_)
          refine pu_ 1 (some 43) ?_
          refine pu_ 2 (some 44) ?_
          refine pu_ 3 (some 45) ?_
          refine pu_ 4 (some 46) ?_
          refine pu_ 5 (some 47) ?_
          refine pu_ 8 (some 50) ?_
          refine take_ (i := 0) (N := some 42) (v := ?_) (a' := ?_) #[true, true, true, true, true, true, false, false, true, false, false, false, false, false, false] rfl rfl (by kernel_rfl) (fun _ _ _ h => h) (Or.inl ⟨by rfl, ?_⟩) hHeld ?_ ?_
          rotate_left
          · intro w' s0
            go_simp
            with_reducible rfl
          rotate_left
          · simp only [Act.put, List.setIfInBounds_toArray, List.set_cons_zero, List.set_cons_succ, i64_w, i32_w]
            rfl
          refine one_ (i := 6) (N := some 48) #[true, true, true, true, true, true, true, false, true, false, false, false, false, false, false] rfl rfl (by kernel_rfl) (by decide) (fun K hK => ?_)
          refine value_ (w1 := ?_) (v := ?_) (by rfl) rfl ?_ ?_
          rotate_left 2
          · go_simp
            constructor
            · rfl
            · rfl
          have h2a := blk_alloc HG2D.out (.cells #[.int .i64 (m : Int)] 3)
          have hnw := blk_new wr.drew (.cells #[.int .i64 (m : Int)] 3)
          have HHA := Lib.hid (HBD.out.alloc HBD.out.size (.cells #[.int .i64 (m : Int)] 3))
          refine hK.out _ _ ((blk_cell h2a 0).trans rfl) (fun hHeld => ?_)
          clear hK K
          refine no_ 48 ?_
          refine one_ (i := 7) (N := some 49) #[true, true, true, true, true, true, true, true, true, false, false, false, false, false, false] rfl rfl (by kernel_rfl) (by decide) (fun K hK => ?_)
          refine step_append_grows rfl (.tmp 46) (.tmp 48) 45 (by rfl) 3 i3 _ 1 8 Tryd.underlying45 hi3 hz0 hz1 hz2 rfl (by decide) (some ⟨b, o, none⟩) (j + 1) (j + 1) (s.flatMap eI) (by rfl) (fun h => by cases h) (by rw [flat_length eI_len s, HN8.out]) (HFLAT.out _ HHA.out) ⟨wr.drew.heap.size, 0, none⟩ 1 1 [.int .i64 (m : Int)] (by rfl) rfl ?aC ?aO (by omega) (by unfold maxLen; omega) (by omega) ?_
          (case aC => exact fun j u hj => (cell_add hnw j).trans (by simpa using hj))
          (case aO => exact fun u hu => by simp at hu; rcases hu with rfl; rfl)
          intro v6 w9 ho9 hg9
          have h29 := (hg9.block _ (blk_lt h2a) (by simp)).trans h2a
          have HB9 := Lib.hid (HHA.out.grown hg9 (by have := HHA.out.size; omega) (fun j ej => by simp at ej))
          rw [show s.flatMap eI ++ [.int .i64 (m : Int)] = (s ++ [(m : Int)]).flatMap eI by simp [eI]] at ho9
          obtain ⟨eL, A9, c9, ev, hF9, hc9⟩ := frow_own' eI_len (by decide) ho9
          clear eL
          rw [HN9.out] at ev hc9
          subst ev
          have HC9 := Lib.hid hc9
          have HF9 := Lib.hid hF9
          clear hc9 hF9 ho9 hg9 hnw
          refine hK.out _ _ ((blk_cell h29 0).trans rfl) (fun hHeld => ?_)
          clear hK K
          refine no_ 49 ?_
          refine one_ (i := 9) (N := some 51) #[true, true, true, true, true, true, true, true, true, true, false, false, false, false, false] rfl rfl (by kernel_rfl) (by decide) (fun K hK => ?_)
          refine goesV_ Tryd.func102 (by kernel_rfl) rfl #[.slice A9 n9 c9, .int .i64 (many : Int), .pointer (some ⟨g1, 0, none⟩), .pointer (some ⟨g2, 0, none⟩)] #[] #[.pointer (some ⟨g1, 0, none⟩), .pointer (some ⟨g2, 0, none⟩)] (by rfl) rfl rfl rfl (by simp only [List.map_toArray, List.map_cons, List.map_nil]; rfl) ?_
          refine (HIH.out _ A9 c9 HB9.out HF9.out HC9.out).mono ?_
          rintro e w10 ⟨v, rfl, hP, hb⟩
          refine ⟨_, rfl, ?_⟩
          have h210 := blk_below h29 hb
          have HB10 := Lib.hid (HB9.out.trans (below_weaken hb HB9.out.size))
          have HP := Lib.hid hP
          clear hP hb
          refine hK.out _ _ ((blk_cell h210 0).trans rfl) (fun hHeld => ?_)
          clear hK K
          refine no_ 51 ?_
          refine pu_ 10 (some 41) ?_
          refine pu_ 11 (some 52) ?_
          refine pu_ 12 (some 53) ?_
          refine pu_ 13 (some 11) ?_
          refine pu_ 14 (some 12) ?_
          refine done_ (by kernel_rfl) ?_

          go_wp2
          go_roundg g1'
          case measure => omega
          case rel => exact ⟨m + 1, by go_num, ⟨by have := HK.out; omega⟩, ⟨HSN.out⟩, ⟨h210⟩, ⟨blk_below HG1.out HB10.out⟩, ⟨HB10.out⟩⟩
        | some L =>
          have HSS : Hid (RR = some L) := by
            refine Lib.hid ?_
            rw [HS.out]
            show (match chooseF (okBut l0 l1 l2) l2.length f (s ++ [(m : Int)]) with | some l => some l | none => _) = _
            rw [← hR9]
          have HIS : Hid (RR.isSome = true) := Lib.hid (by rw [HSS.out]; rfl)
          clear hR9
          go_upto_region 10 with fail
          have hBP : Below wr.heap.size wr wr.drew := by repeat (first | exact Below.refl _ _ | refine Below.alloc ?_ (by simp <;> omega) _ | refine Below.setCell ?_ (by simp <;> omega) _ | apply Below.drew)
          have HG2D := Lib.hid (blk_below HG2R.out hBP)
          have HBD := Lib.hid (HBR.out.trans (below_weaken hBP HBR.out.size))
          have HN9 := Lib.hid (HN9.out m)
          clear hBP
          refine start_ (n := 15) (S := fun w' => w'.cell? ⟨g2, 0, none⟩ = some (.func (.func 102) #[] #[.pointer (some ⟨g1, 0, none⟩), .pointer (some ⟨g2, 0, none⟩)])) (ds := []) #[false, false, false, false, false, false, false, false, false, false, false, false, false, false, false] (by kernel_rfl) rfl rfl ((blk_cell HG2D.out 0).trans rfl) (fun hHeld => ?_)
          refine pu_ 1 (some 43) ?_
          refine pu_ 2 (some 44) ?_
          refine pu_ 3 (some 45) ?_
          refine pu_ 4 (some 46) ?_
          refine pu_ 5 (some 47) ?_
          refine pu_ 8 (some 50) ?_
          refine take_ (i := 0) (N := some 42) (v := ?_) (a' := ?_) #[true, true, true, true, true, true, false, false, true, false, false, false, false, false, false] rfl rfl (by kernel_rfl) (fun _ _ _ h => h) (Or.inl ⟨by rfl, ?_⟩) hHeld ?_ ?_
          rotate_left
          · intro w' s0
            go_simp
            with_reducible rfl
          rotate_left
          · simp only [Act.put, List.setIfInBounds_toArray, List.set_cons_zero, List.set_cons_succ, i64_w, i32_w]
            rfl
          refine one_ (i := 6) (N := some 48) #[true, true, true, true, true, true, true, false, true, false, false, false, false, false, false] rfl rfl (by kernel_rfl) (by decide) (fun K hK => ?_)
          refine value_ (w1 := ?_) (v := ?_) (by rfl) rfl ?_ ?_
          rotate_left 2
          · go_simp
            constructor
            · rfl
            · rfl
          have h2a := blk_alloc HG2D.out (.cells #[.int .i64 (m : Int)] 3)
          have hnw := blk_new wr.drew (.cells #[.int .i64 (m : Int)] 3)
          have HHA := Lib.hid (HBD.out.alloc HBD.out.size (.cells #[.int .i64 (m : Int)] 3))
          refine hK.out _ _ ((blk_cell h2a 0).trans rfl) (fun hHeld => ?_)
          clear hK K
          refine no_ 48 ?_
          refine one_ (i := 7) (N := some 49) #[true, true, true, true, true, true, true, true, true, false, false, false, false, false, false] rfl rfl (by kernel_rfl) (by decide) (fun K hK => ?_)
          refine step_append_grows rfl (.tmp 46) (.tmp 48) 45 (by rfl) 3 i3 _ 1 8 Tryd.underlying45 hi3 hz0 hz1 hz2 rfl (by decide) (some ⟨b, o, none⟩) (j + 1) (j + 1) (s.flatMap eI) (by rfl) (fun h => by cases h) (by rw [flat_length eI_len s, HN8.out]) (HFLAT.out _ HHA.out) ⟨wr.drew.heap.size, 0, none⟩ 1 1 [.int .i64 (m : Int)] (by rfl) rfl ?aC ?aO (by omega) (by unfold maxLen; omega) (by omega) ?_
          (case aC => exact fun j u hj => (cell_add hnw j).trans (by simpa using hj))
          (case aO => exact fun u hu => by simp at hu; rcases hu with rfl; rfl)
          intro v6 w9 ho9 hg9
          have h29 := (hg9.block _ (blk_lt h2a) (by simp)).trans h2a
          have HB9 := Lib.hid (HHA.out.grown hg9 (by have := HHA.out.size; omega) (fun j ej => by simp at ej))
          rw [show s.flatMap eI ++ [.int .i64 (m : Int)] = (s ++ [(m : Int)]).flatMap eI by simp [eI]] at ho9
          obtain ⟨eL, A9, c9, ev, hF9, hc9⟩ := frow_own' eI_len (by decide) ho9
          clear eL
          rw [HN9.out] at ev hc9
          subst ev
          have HC9 := Lib.hid hc9
          have HF9 := Lib.hid hF9
          clear hc9 hF9 ho9 hg9 hnw
          refine hK.out _ _ ((blk_cell h29 0).trans rfl) (fun hHeld => ?_)
          clear hK K
          refine no_ 49 ?_
          refine one_ (i := 9) (N := some 51) #[true, true, true, true, true, true, true, true, true, true, false, false, false, false, false] rfl rfl (by kernel_rfl) (by decide) (fun K hK => ?_)
          refine goesV_ Tryd.func102 (by kernel_rfl) rfl #[.slice A9 n9 c9, .int .i64 (many : Int), .pointer (some ⟨g1, 0, none⟩), .pointer (some ⟨g2, 0, none⟩)] #[] #[.pointer (some ⟨g1, 0, none⟩), .pointer (some ⟨g2, 0, none⟩)] (by rfl) rfl rfl rfl (by simp only [List.map_toArray, List.map_cons, List.map_nil]; rfl) ?_
          refine (HIH.out _ A9 c9 HB9.out HF9.out HC9.out).mono ?_
          rintro e w10 ⟨v, rfl, hP, hb⟩
          refine ⟨_, rfl, ?_⟩
          have h210 := blk_below h29 hb
          have HB10 := Lib.hid (HB9.out.trans (below_weaken hb HB9.out.size))
          have HP := Lib.hid hP
          clear hP hb
          refine hK.out _ _ ((blk_cell h210 0).trans rfl) (fun hHeld => ?_)
          clear hK K
          refine no_ 51 ?_
          refine pu_ 10 (some 41) ?_
          refine pu_ 11 (some 52) ?_
          refine pu_ 12 (some 53) ?_
          refine pu_ 13 (some 11) ?_
          refine pu_ 14 (some 12) ?_
          refine done_ (by kernel_rfl) ?_

          go_wp2
          go_ret2
          exact ⟨_, by rw [HIS.out]; rfl, by rw [HSS.out]; exact HP.out, HB10.out⟩
end Go.Proofs.YthgjedagbgmgmaaDoor.Pr
namespace Go.Proofs.YthgjedagbgmgmaaDoor.Pr
open Go.RowKit Go.Proofs.YthgjedagbgmgmaaDoorW.PrintWords Go.Proofs.YthgjedagbgmgmaaDoorW.PrintLast Go.Proofs.YthgjedagbgmgmaaDoorW.PrintMore
set_option linter.unusedVariables false
set_option linter.unusedSimpArgs false
theorem choose_calls (g1 g2 : Nat) (A0 A1 A2 : Option Addr) (c0 c1 c2 : Nat) (l0 : List S92) (l1 : List S90) (l2 : List S43) (w0 : World) (hG : GOK w0) (hr0 : FRow e92 2 w0 A0 l0) (hc0 : l0.length ≤ c0) (hr1 : FRow e90 3 w0 A1 l1) (hr2 : FRow e43 2 w0 A2 l2) (hc2 : l2.length ≤ c2) (hok : okBook l0 l1 l2 = true)
    (hg1 : w0.heap[g1]? = some (.cells #[.slice A0 l0.length c0, .slice A1 l1.length c1, .slice A2 l2.length c2] 26 (0, 0))) (hg2 : w0.heap[g2]? = some (.cells #[.func (.func 102) #[] #[.pointer (some ⟨g1, 0, none⟩), .pointer (some ⟨g2, 0, none⟩)]] 146 (0, 0))) (f : Nat) : ∀ (many : Nat) (W : World) (A : Option Addr) (c : Nat) (s : List Int), Below w0.heap.size w0 W → FRow eI 1 W A s → s.length ≤ c → s.length + f = many → many ≤ 4 → (∀ x ∈ s, 0 ≤ x ∧ x < (l2.length : Int)) →
      Calls Tryd.prog 102 #[.slice A s.length c, .int .i64 (many : Int), .pointer (some ⟨g1, 0, none⟩), .pointer (some ⟨g2, 0, none⟩)] W fun e w' => ∃ v, e = .returned (.tuple #[v, .bool (chooseF (okBut l0 l1 l2) l2.length f s).isSome]) ∧ ChP (chooseF (okBut l0 l1 l2) l2.length f s) v w' ∧ Below W.heap.size W w' := by
  induction f with
  | zero =>
    intro many W A c s hB hF hc hm hm4 hx
    obtain rfl : s.length = many := by omega
    exact choose0_calls g1 g2 A0 A1 A2 c0 c1 c2 l0 l1 l2 w0 hG hr0 hc0 hr1 hr2 hc2 hok hg1 hg2 W A c s hB hF hc hm4
  | succ f ih =>
    intro many W A c s hB hF hc hm hm4 hx
    exact choose_step g1 g2 A0 A1 A2 c0 c1 c2 l0 l1 l2 w0 hG hr0 hc0 hr1 hr2 hc2 hok hg1 hg2 f many (ih many) W A c s hB hF hc hm hm4 hx
/-- The looks that must be wrong. -/
def wrongF (ls : List S92) (ds : List S90) (ks : List S43) : List Int × Int := if okBook ls ds ks then ((chooseAll (okBut ls ds ks) ks.length (ks.length + 1) 0).getD [], 0) else ([], 70)
def SliceOf (L : List Int) (v : Value) (W : World) : Prop := ∃ A c, v = .slice A L.length c ∧ FRow eI 1 W A L ∧ L.length ≤ c
set_option maxHeartbeats 4000000 in
set_option maxRecDepth 100000 in
theorem wrong_calls (A0 A1 A2 : Option Addr) (c0 c1 c2 : Nat) (l0 : List S92) (l1 : List S90) (l2 : List S43) (w : World) (hG : GOK w) (hr0 : Kd.C k92 w A0 l0.length l0) (hc0 : l0.length ≤ c0) (hr1 : Kd.C k90 w A1 l1.length l1) (hc1 : l1.length ≤ c1) (hr2 : Kd.C k43 w A2 l2.length l2) (hc2 : l2.length ≤ c2) :
    Calls Tryd.prog 40 #[.agg #[.slice A0 l0.length c0, .slice A1 l1.length c1, .slice A2 l2.length c2]] w fun e w' => ∃ v, e = .returned (.tuple #[v, .int .i64 (wrongF l0 l1 l2).2]) ∧ SliceOf (wrongF l0 l1 l2).1 v w' ∧ Below w.heap.size w w' := by
  have h0 : (l0.length : Int) ≤ 9223372036854775807 := by have := hr0.2.1; omega
  have h1 : (l1.length : Int) ≤ 9223372036854775807 := by have := hr1.2.1; omega
  have h2 : (l2.length : Int) ≤ 9223372036854775807 := by have := hr2.2.1; omega
  obtain ⟨ok, hok⟩ : ∃ b, b = okBook l0 l1 l2 := ⟨_, rfl⟩
  have HCC : ∀ W, Below w.heap.size w W → Calls Tryd.prog 19 #[.agg #[.slice A0 l0.length c0, .slice A1 l1.length c1, .slice A2 l2.length c2]] W fun e w' => e = .returned (.int .i64 (if ok then 0 else 70)) ∧ Below W.heap.size W w' := by
    intro W hW
    rw [hok]
    exact check_calls A0 A1 A2 c0 c1 c2 l0 l1 l2 W (Kd.C_below hr0 hW) hc0 (Kd.C_below hr1 hW) hc1 (Kd.C_below hr2 hW) hc2 h0 h1 h2
  unfold wrongF
  rw [← hok]
  have HOK := Lib.hid hok
  have HG := Lib.hid hG
  have H0 := Lib.hid (row92 hr0)
  have H1 := Lib.hid (row90 hr1)
  have H2 := Lib.hid (row43 hr2)
  clear hok hG hr0 hr1 hr2 h0 h1 h2
  cases ok
  · simp only [Bool.false_eq_true, if_false] at HCC ⊢
    go_enter Tryd.func40, Tryd.ntmps40
    go_wp2_with (go_at_call 19; refine (HCC _ ?hw).mono ?_; (case hw => exact by repeat (first | exact Below.refl _ _ | refine Below.alloc ?_ (by simp <;> omega) _ | refine Below.setCell ?_ (by simp <;> omega) _ | apply Below.drew)); rintro e w1 ⟨rfl, hB1⟩)
    go_ret2
    exact ⟨_, rfl, ⟨none, 0, rfl, .inl rfl, Nat.le_refl _⟩, ((Below.refl w.heap.size w).alloc (Nat.le_refl _) _).trans (below_weaken hB1 (by simp))⟩
  · simp only [if_true] at HCC ⊢
    have hl24 : l2.length ≤ 4 := (ok_facts HOK.out.symm).2.2.2.2.1
    obtain ⟨RR, hRR⟩ : ∃ R, R = chooseAll (okBut l0 l1 l2) l2.length (l2.length + 1) 0 := ⟨_, rfl⟩
    rw [← hRR]
    have HRR := Lib.hid hRR
    clear hRR
    obtain ⟨RD, hRD⟩ : ∃ R, R = RR.getD [] := ⟨_, rfl⟩
    rw [← hRD]
    have HRD := Lib.hid hRD
    clear hRD
    go_enter Tryd.func40, Tryd.ntmps40
    go_wp2_with fail
    refine (HCC _ ?hw).mono ?_
    (case hw => exact by repeat (first | exact Below.refl _ _ | refine Below.alloc ?_ (by simp <;> omega) _ | refine Below.setCell ?_ (by simp <;> omega) _ | apply Below.drew))
    rintro e w1 ⟨rfl, hB1⟩
    have hg1 : w1.heap[w.heap.size]? = some (.cells #[.slice A0 l0.length c0, .slice A1 l1.length c1, .slice A2 l2.length c2] 26 (0, 0)) := blk_below (blk_new w _) hB1
    have HG1 := Lib.hid hg1
    have k2 := (blk_cell hg1 2).trans rfl
    have l1' := blk_lt hg1
    have HB1 := Lib.hid ((show Below w.heap.size w _ from by repeat (first | exact Below.refl _ _ | refine Below.alloc ?_ (by simp <;> omega) _ | refine Below.setCell ?_ (by simp <;> omega) _ | apply Below.drew)).trans (below_weaken hB1 (by simp)))
    have hCH : ∀ (WC : World), Below w1.heap.size w1 WC → WC.heap[w1.heap.size]? = some (.cells #[.func (.func 102) #[] #[.pointer (some ⟨w.heap.size, 0, none⟩), .pointer (some ⟨w1.heap.size, 0, none⟩)]] 146 (0, 0)) → ∀ (many : Nat) (W : World), Below WC.heap.size WC W → many ≤ 4 →
        Calls Tryd.prog 102 #[.slice none 0 0, .int .i64 (many : Int), .pointer (some ⟨w.heap.size, 0, none⟩), .pointer (some ⟨w1.heap.size, 0, none⟩)] W fun e w' => ∃ v, e = .returned (.tuple #[v, .bool (chooseF (okBut l0 l1 l2) l2.length many []).isSome]) ∧ ChP (chooseF (okBut l0 l1 l2) l2.length many []) v w' ∧ Below W.heap.size W w' := by
      intro WC hWC hcl many W hW hm4
      have hww := HB1.out.trans (below_weaken hWC HB1.out.size)
      exact choose_calls w.heap.size w1.heap.size A0 A1 A2 c0 c1 c2 l0 l1 l2 WC (HG.out.below hww) (H0.out.below hww) hc0 (H1.out.below hww) (H2.out.below hww) hc2 HOK.out.symm (blk_below HG1.out hWC) hcl many many W none 0 [] hW (.inl rfl) (Nat.le_refl _) (by simp) hm4 (fun x hx => by simp at hx)
    have HCH := Lib.hid hCH
    clear hg1 hB1 hCH HCC
    go_wp2
    obtain ⟨WC, hWC⟩ : ∃ W, W = w1.alloc (.cells #[.func (.func 102) #[] #[.pointer (some ⟨w.heap.size, 0, none⟩), .pointer (some ⟨w1.heap.size, 0, none⟩)]] 146) := ⟨_, rfl⟩
    rw [← hWC]
    have hBC : Below w1.heap.size w1 WC := by rw [hWC]; exact by repeat (first | exact Below.refl _ _ | refine Below.alloc ?_ (by simp <;> omega) _ | refine Below.setCell ?_ (by simp <;> omega) _ | apply Below.drew)
    have HCL := Lib.hid (show WC.heap[w1.heap.size]? = some (.cells #[.func (.func 102) #[] #[.pointer (some ⟨w.heap.size, 0, none⟩), .pointer (some ⟨w1.heap.size, 0, none⟩)]] 146 (0, 0)) by rw [hWC]; exact blk_new _ _)
    have HCHW := Lib.hid (HCH.out WC hBC HCL.out)
    have HBC := Lib.hid (HB1.out.trans (below_weaken hBC HB1.out.size))
    clear hWC hBC HCH k2
    go_loopg [19] (l2.length + 1) (fun gk v19 wr => ∃ (k : Nat), v19 = .int .i64 k ∧ Aside0 (k + gk = l2.length + 1) ∧ Aside0 (RR = chooseAll (okBut l0 l1 l2) l2.length gk k) ∧ Aside0 (Below WC.heap.size WC wr))
    case atStart => exact ⟨0, rfl, ⟨by omega⟩, ⟨HRR.out⟩, ⟨Below.refl _ _⟩⟩
    case round =>
      obtain ⟨k, rfl, HK, HS, HBR⟩ := hrel
      cases gk with
      | zero =>
        have hge : ¬ (k : Int) < (l2.length : Int) + 1 := by have := HK.out; omega
        have HNO : Hid (RD = []) := Lib.hid (by rw [HRD.out, HS.out]; rfl)
        go_wp2
        go_ret2
        exact ⟨_, rfl, by rw [HNO.out]; exact ⟨none, 0, rfl, .inl rfl, Nat.le_refl _⟩, HBC.out.trans (below_weaken HBR.out HBC.out.size)⟩
      | succ g1 =>
        have hlt : (k : Int) < (l2.length : Int) + 1 := by have := HK.out; omega
        have hk4 : k ≤ 4 := by omega
        have hclc := (blk_cell (blk_below HCL.out HBR.out) 0).trans rfl
        obtain ⟨R9, hR9⟩ : ∃ R, R = chooseF (okBut l0 l1 l2) l2.length k [] := ⟨_, rfl⟩
        have HIH := Lib.hid (HCHW.out k wr HBR.out hk4)
        rw [← hR9] at HIH
        cases R9 with
        | none =>
          have HSN : Hid (RR = chooseAll (okBut l0 l1 l2) l2.length g1 (k + 1)) := by
            refine Lib.hid ?_
            rw [HS.out]
            show (match chooseF (okBut l0 l1 l2) l2.length k [] with | some l => some l | none => _) = _
            rw [← hR9]
          clear hR9
          go_wp2_with fail
          refine HIH.out.mono ?_
          rintro e w9 ⟨v, rfl, _, hB9⟩
          have HB9 := Lib.hid (HBR.out.trans (below_weaken hB9 HBR.out.size))
          clear hB9 hclc
          go_wp2
          go_roundg g1
          case measure => omega
          case rel => exact ⟨k + 1, by go_num, ⟨by have := HK.out; omega⟩, ⟨HSN.out⟩, ⟨HB9.out⟩⟩
        | some L =>
          have HSS : Hid (RD = L) := by
            refine Lib.hid ?_
            rw [HRD.out, HS.out]
            show (match chooseF (okBut l0 l1 l2) l2.length k [] with | some l => some l | none => _).getD [] = _
            rw [← hR9]
            rfl
          clear hR9
          go_wp2_with fail
          refine HIH.out.mono ?_
          rintro e w9 ⟨v, rfl, hP, hB9⟩
          obtain ⟨A9, c9, rfl, hF9, hc9⟩ := hP L rfl
          have HB9 := Lib.hid (HBR.out.trans (below_weaken hB9 HBR.out.size))
          have HF9 := Lib.hid hF9
          have hcI : ((L.length : Int) ≤ (c9 : Int)) = True := eq_true (by omega)
          clear hB9 hclc hF9 hP hc9
          go_wp2
          go_ret2
          exact ⟨_, rfl, by rw [HSS.out]; exact ⟨A9, L.length, rfl, HF9.out, Nat.le_refl _⟩, HBC.out.trans (below_weaken HB9.out HBC.out.size)⟩
end Go.Proofs.YthgjedagbgmgmaaDoor.Pr
namespace Go.Proofs.YthgjedagbgmgmaaDoor.Pr
open Go.RowKit Go.Proofs.YthgjedagbgmgmaaDoorW.PrintWords Go.Proofs.YthgjedagbgmgmaaDoorW.PrintLast Go.Proofs.YthgjedagbgmgmaaDoorW.PrintMore
attribute [local go_sem] max2_int min2_int max_two min_two -- for this text's walks alone
set_option linter.unusedVariables false
set_option linter.unusedSimpArgs false
def macadamref00_Reach.f (a0 : Int) (a1 : Int) : Option (Int × Int) := some (a0, a1)
set_option maxHeartbeats 8000000 in
set_option maxRecDepth 100000 in
theorem macadamref00_Reach.calls (a0 : Int) (a1 : Int) (r1 : Int) (r2 : Int) (w : World) (h : macadamref00_Reach.f a0 a1 = some (r1, r2)) :
    Calls Tryd.prog 55 #[.int .i64 a0, .int .i64 a1] w fun e w' => e = .returned (.agg #[.int .i64 r1, .int .i64 r2]) ∧ Below w.heap.size w w' := by
  have hu32 := Tryd.underlying32
  have HB := Aside0.mk (Below.refl w.heap.size w)
  have H : (some (a0, a1)) = some (r1, r2) := h
  clear h
  simp only [Option.some.injEq, Prod.mk.injEq] at H
  obtain ⟨rfl, rfl⟩ := H
  go_enter Tryd.func55, Tryd.ntmps55
  go_wp2_with (first | ((with_reducible refine gate_dst (N := 4) rfl ?_); refine box_event ?hg (N := 4) ?hd (cs := #[.int .i64 0, .int .i64 0]) (t := 32) ?hr ?_; (case hd => rfl); (case hg => rfl); (case hr => first | (go_simp; done) | (go_simp; rfl)); intro gb121 hg w3 hbox hb; have n0_ := Aside0.mk (below_step (by repeat (first | (with_reducible first | exact HB.out | apply below_alloc | apply pw_below_drewN | apply below_drew1) | exact HB.out)) hb); have n1_ := Aside0.mk (hbox); have n2_ := Aside0.mk ((by rw [hg]; exact (below_size (by repeat (first | (with_reducible first | exact HB.out | apply below_alloc | apply pw_below_drewN | apply below_drew1) | exact HB.out))) : w.heap.size ≤ gb121)); have n3_ := Aside0.mk ((by rw [hg]; exact (below_size (by repeat (first | (with_reducible first | exact HB.out | apply below_alloc | apply pw_below_drewN | apply below_drew1) | exact HB.out))) : w.heap.size ≤ gb121)); clear HB; have HB := n0_; have BK121 := n1_; have GW121 := n2_; have GE121 := n3_; clear n0_ n1_ n2_ n3_; clear hb hbox hg; have hcz4_0 : w3.cell? ⟨gb121, 0, none⟩ = some (.int .i64 0) := (blk_cell BK121.out 0).trans rfl; have hcz4_1 : w3.cell? ⟨gb121, 1, none⟩ = some (.int .i64 0) := (blk_cell BK121.out 1).trans rfl; have hfz4_0 := blk_frozen BK121.out 0; have hfz4_1 := blk_frozen BK121.out 1))
  refine bodyPost_ret (results_cell_row rfl _ _ gb121 32 #[.int .i64 a0, .int .i64 a1] (0, 0) _ rfl (by (with_reducible repeat (first | refine blk_drewN ?_ _ | refine blk_drew ?_ | refine blk_alloc ?_ _)); refine blk_put (cs := #[.int .i64 a0, .int .i64 0]) ?_ 1 _ rfl; (with_reducible repeat (first | refine blk_drewN ?_ _ | refine blk_drew ?_ | refine blk_alloc ?_ _)); refine blk_put (cs := #[.int .i64 0, .int .i64 0]) ?_ 0 _ rfl; (with_reducible repeat (first | refine blk_drewN ?_ _ | refine blk_drew ?_ | refine blk_alloc ?_ _)); exact BK121.out) Tryd.underlying32 rfl (by kernel_rfl)) rfl ?_
  exact ⟨by first | rfl | exact congrArg (fun b_ => Ending.returned (.bool b_)) HT.out | (simp [errW_none, errW_some] <;> rfl) | (simp [*, errW_none, errW_some] <;> rfl), by repeat (first | (with_reducible first | exact HB.out | apply below_alloc | apply pw_below_drewN | apply below_drew1 | refine below_set ?_ GE121.out) | exact HB.out)⟩
def macadamlaw07_day.f (a0 : Int) (a1 : Int) (a2 : Int) : Option (Int × Int × Int) := (macadamref00_Reach.f a0 a1).bind fun bt123 => (some (bt123.1, bt123.2, a2))
set_option maxHeartbeats 8000000 in
set_option maxRecDepth 100000 in
theorem macadamlaw07_day.calls (a0 : Int) (a1 : Int) (a2 : Int) (r1 : Int) (r2 : Int) (r3 : Int) (w : World) (h : macadamlaw07_day.f a0 a1 a2 = some (r1, r2, r3)) :
    Calls Tryd.prog 120 #[.int .i64 a0, .int .i64 a1, .int .i64 a2] w fun e w' => e = .returned (.agg #[.int .i64 r1, .int .i64 r2, .int .i64 r3]) ∧ Below w.heap.size w w' := by
  have hu90 := Tryd.underlying90
  have HB := Aside0.mk (Below.refl w.heap.size w)
  have H : ((macadamref00_Reach.f a0 a1).bind fun bt123 => (some (bt123.1, bt123.2, a2))) = some (r1, r2, r3) := h
  clear h
  replace H := Option.bind_eq_some_iff.mp H
  obtain ⟨⟨t123, t124⟩, A40, H⟩ := H
  replace H : (some (t123, t124, a2)) = some (r1, r2, r3) := H
  have A4 := Aside0.mk A40
  clear A40
  simp only [Option.some.injEq, Prod.mk.injEq] at H
  obtain ⟨rfl, rfl, rfl⟩ := H
  go_enter Tryd.func120, Tryd.ntmps120
  go_wp2_with (first | ((with_reducible refine gate_dst (N := 6) rfl ?_); refine box_event ?hg (N := 6) ?hd (cs := #[.int .i64 0, .int .i64 0, .int .i64 0]) (t := 90) ?hr ?_; (case hd => rfl); (case hg => rfl); (case hr => first | (go_simp; done) | (go_simp; rfl)); intro gb122 hg w5 hbox hb; have n0_ := Aside0.mk (below_step (by repeat (first | (with_reducible first | exact HB.out | apply below_alloc | apply pw_below_drewN | apply below_drew1) | exact HB.out)) hb); have n1_ := Aside0.mk (hbox); have n2_ := Aside0.mk ((by rw [hg]; exact (below_size (by repeat (first | (with_reducible first | exact HB.out | apply below_alloc | apply pw_below_drewN | apply below_drew1) | exact HB.out))) : w.heap.size ≤ gb122)); have n3_ := Aside0.mk ((by rw [hg]; exact (below_size (by repeat (first | (with_reducible first | exact HB.out | apply below_alloc | apply pw_below_drewN | apply below_drew1) | exact HB.out))) : w.heap.size ≤ gb122)); clear HB; have HB := n0_; have BK122 := n1_; have GW122 := n2_; have GE122 := n3_; clear n0_ n1_ n2_ n3_; clear hb hbox hg) | ((with_reducible refine gate_callee (f := 55) rfl ?_); refine goesL_ (some 9) rfl rfl Tryd.func55 (by kernel_rfl) rfl #[.int .i64 a0, .int .i64 a1] rfl (by (try simp only [List.map_toArray, List.map_cons, List.map_nil]); first | done | rfl | (simp only [List.length_drop, List.length_take]; rfl)) ?_; (with_reducible refine (macadamref00_Reach.calls a0 a1 t123 t124 _ A4.out).mono ?_); rintro e w6 ⟨rfl, hb⟩; refine ⟨_, rfl, ?_⟩; have n0_ := Aside0.mk (blk_below (g := gb122) (o := .cells #[.int .i64 0, .int .i64 0, .int .i64 0] 90 (0, 0)) (by (with_reducible repeat (first | refine blk_drewN ?_ _ | refine blk_drew ?_ | refine blk_alloc ?_ _)); exact BK122.out) hb); have n1_ := Aside0.mk (below_step (by repeat (first | (with_reducible first | exact HB.out | apply below_alloc | apply pw_below_drewN | apply below_drew1 | refine below_set ?_ GE122.out) | exact HB.out)) hb); clear BK122; clear HB; have BK122 := n0_; have HB := n1_; clear n0_ n1_; (try clear hb); (try clear hb2); (try clear hk); (try clear hi); have hcz7_0 : w6.cell? ⟨gb122, 0, none⟩ = some (.int .i64 0) := (blk_cell BK122.out 0).trans rfl; have hcz7_1 : w6.cell? ⟨gb122, 1, none⟩ = some (.int .i64 0) := (blk_cell BK122.out 1).trans rfl; have hcz7_2 : w6.cell? ⟨gb122, 2, none⟩ = some (.int .i64 0) := (blk_cell BK122.out 2).trans rfl; have hfz7_0 := blk_frozen BK122.out 0; have hfz7_1 := blk_frozen BK122.out 1; have hfz7_2 := blk_frozen BK122.out 2))
  refine bodyPost_ret (results_cell_row rfl _ _ gb122 90 #[.int .i64 t123, .int .i64 t124, .int .i64 a2] (0, 0) _ rfl (by (with_reducible repeat (first | refine blk_drewN ?_ _ | refine blk_drew ?_ | refine blk_alloc ?_ _)); refine blk_put (cs := #[.int .i64 t123, .int .i64 t124, .int .i64 0]) ?_ 2 _ rfl; (with_reducible repeat (first | refine blk_drewN ?_ _ | refine blk_drew ?_ | refine blk_alloc ?_ _)); refine blk_put (cs := #[.int .i64 t123, .int .i64 0, .int .i64 0]) ?_ 1 _ rfl; (with_reducible repeat (first | refine blk_drewN ?_ _ | refine blk_drew ?_ | refine blk_alloc ?_ _)); refine blk_put (cs := #[.int .i64 0, .int .i64 0, .int .i64 0]) ?_ 0 _ rfl; (with_reducible repeat (first | refine blk_drewN ?_ _ | refine blk_drew ?_ | refine blk_alloc ?_ _)); exact BK122.out) Tryd.underlying90 rfl (by kernel_rfl)) rfl ?_
  exact ⟨by first | rfl | exact congrArg (fun b_ => Ending.returned (.bool b_)) HT.out | (simp [errW_none, errW_some] <;> rfl) | (simp [*, errW_none, errW_some] <;> rfl), by repeat (first | (with_reducible first | exact HB.out | apply below_alloc | apply pw_below_drewN | apply below_drew1 | refine below_set ?_ GE122.out) | exact HB.out)⟩
def macadamlaw07_book.f (l0 : List (S43)) : Option ((List (S92)) × (List (S90)) × (List (S43))) := (macadamlaw07_day.f 3 4 2).bind fun bt129 => ((macadamlaw07_day.f 2 3 3).bind fun bt132 => ((macadamlaw07_day.f 3 3 6).bind fun bt135 => ((macadamlaw07_day.f 4 4 2).bind fun bt138 => (some ((([(⟨5, 4⟩ : S92), (⟨4, 3⟩ : S92)] : List (S92))), (([(⟨(⟨bt129.1, bt129.2.1⟩ : S32), bt129.2.2⟩ : S90), (⟨(⟨bt132.1, bt132.2.1⟩ : S32), bt132.2.2⟩ : S90), (⟨(⟨bt135.1, bt135.2.1⟩ : S32), bt135.2.2⟩ : S90), (⟨(⟨bt138.1, bt138.2.1⟩ : S32), bt138.2.2⟩ : S90)] : List (S90))), l0)))))
set_option maxHeartbeats 8000000 in
set_option maxRecDepth 100000 in
theorem macadamlaw07_book.calls (P0_ : Nat → Prop) (u9000_ : Value) (l0 : List (S43)) (r1 : List (S92)) (r2 : List (S90)) (r3 : List (S43)) (w0 w : World) (hB : Below w0.heap.size w0 w) (ho0 : Kd.R k43 43 w w0.heap.size P0_ u9000_ l0) (h : macadamlaw07_book.f l0 = some (r1, r2, r3)) :
    Calls Tryd.prog 71 #[u9000_] w fun e w' => ∃ v0_ v1_ v2_ : Value, e = .returned (.agg #[v0_, v1_, v2_]) ∧ Kd.R k92 92 w' w0.heap.size (fun k_ => (P0_ k_ ∨ w.heap.size ≤ k_)) v0_ r1 ∧ Kd.R k90 90 w' w0.heap.size (fun k_ => (P0_ k_ ∨ w.heap.size ≤ k_)) v1_ r2 ∧ Kd.R k43 43 w' w0.heap.size (fun k_ => (P0_ k_ ∨ w.heap.size ≤ k_)) v2_ r3 ∧ Below w0.heap.size w0 w' ∧ Kept w w' (fun k_ => P0_ k_) := by
  have hu26 := Tryd.underlying26
  have hu92 := Tryd.underlying92
  have HO0 := Aside0.mk (show Kd.R k43 43 w w0.heap.size (fun k_ => (P0_ k_ ∨ w.heap.size ≤ k_)) u9000_ l0 from Kd.R_mono ho0 (fun k_ hk => (.inl hk)))
  have HK := Aside0.mk (Kept.refl w (fun k_ => P0_ k_))
  have HW0 := Aside0.mk hB.size
  have HB := Aside0.mk hB
  clear hB
  have H : ((macadamlaw07_day.f 3 4 2).bind fun bt129 => ((macadamlaw07_day.f 2 3 3).bind fun bt132 => ((macadamlaw07_day.f 3 3 6).bind fun bt135 => ((macadamlaw07_day.f 4 4 2).bind fun bt138 => (some ((([(⟨5, 4⟩ : S92), (⟨4, 3⟩ : S92)] : List (S92))), (([(⟨(⟨bt129.1, bt129.2.1⟩ : S32), bt129.2.2⟩ : S90), (⟨(⟨bt132.1, bt132.2.1⟩ : S32), bt132.2.2⟩ : S90), (⟨(⟨bt135.1, bt135.2.1⟩ : S32), bt135.2.2⟩ : S90), (⟨(⟨bt138.1, bt138.2.1⟩ : S32), bt138.2.2⟩ : S90)] : List (S90))), l0)))))) = some (r1, r2, r3) := h
  clear h
  obtain ⟨y126, hy126⟩ : ∃ y_ : List (S92), y_ = (([(⟨5, 4⟩ : S92), (⟨4, 3⟩ : S92)] : List (S92))) := ⟨_, rfl⟩
  replace H : ((macadamlaw07_day.f 3 4 2).bind fun bt129 => ((macadamlaw07_day.f 2 3 3).bind fun bt132 => ((macadamlaw07_day.f 3 3 6).bind fun bt135 => ((macadamlaw07_day.f 4 4 2).bind fun bt138 => (some (y126, (([(⟨(⟨bt129.1, bt129.2.1⟩ : S32), bt129.2.2⟩ : S90), (⟨(⟨bt132.1, bt132.2.1⟩ : S32), bt132.2.2⟩ : S90), (⟨(⟨bt135.1, bt135.2.1⟩ : S32), bt135.2.2⟩ : S90), (⟨(⟨bt138.1, bt138.2.1⟩ : S32), bt138.2.2⟩ : S90)] : List (S90))), l0)))))) = some (r1, r2, r3) := by first | (rw [hy126]; with_reducible exact H) | (have H2_ := (Option.bind_some _ _).symm.trans H; rw [hy126]; with_reducible exact H2_) | (have H2_ := (Option.bind_some _ _).symm.trans H; with_reducible exact H2_) | with_reducible exact H | (rw [hy126]; exact H) | exact H
  have Ny126 := Aside0.mk hy126
  clear hy126
  replace H := Option.bind_eq_some_iff.mp H
  obtain ⟨⟨t129, t130, t131⟩, A20, H⟩ := H
  replace H : ((macadamlaw07_day.f 2 3 3).bind fun bt132 => ((macadamlaw07_day.f 3 3 6).bind fun bt135 => ((macadamlaw07_day.f 4 4 2).bind fun bt138 => (some (y126, (([(⟨(⟨t129, t130⟩ : S32), t131⟩ : S90), (⟨(⟨bt132.1, bt132.2.1⟩ : S32), bt132.2.2⟩ : S90), (⟨(⟨bt135.1, bt135.2.1⟩ : S32), bt135.2.2⟩ : S90), (⟨(⟨bt138.1, bt138.2.1⟩ : S32), bt138.2.2⟩ : S90)] : List (S90))), l0))))) = some (r1, r2, r3) := H
  have A2 := Aside0.mk A20
  clear A20
  replace H := Option.bind_eq_some_iff.mp H
  obtain ⟨⟨t132, t133, t134⟩, A30, H⟩ := H
  replace H : ((macadamlaw07_day.f 3 3 6).bind fun bt135 => ((macadamlaw07_day.f 4 4 2).bind fun bt138 => (some (y126, (([(⟨(⟨t129, t130⟩ : S32), t131⟩ : S90), (⟨(⟨t132, t133⟩ : S32), t134⟩ : S90), (⟨(⟨bt135.1, bt135.2.1⟩ : S32), bt135.2.2⟩ : S90), (⟨(⟨bt138.1, bt138.2.1⟩ : S32), bt138.2.2⟩ : S90)] : List (S90))), l0)))) = some (r1, r2, r3) := H
  have A3 := Aside0.mk A30
  clear A30
  replace H := Option.bind_eq_some_iff.mp H
  obtain ⟨⟨t135, t136, t137⟩, A40, H⟩ := H
  replace H : ((macadamlaw07_day.f 4 4 2).bind fun bt138 => (some (y126, (([(⟨(⟨t129, t130⟩ : S32), t131⟩ : S90), (⟨(⟨t132, t133⟩ : S32), t134⟩ : S90), (⟨(⟨t135, t136⟩ : S32), t137⟩ : S90), (⟨(⟨bt138.1, bt138.2.1⟩ : S32), bt138.2.2⟩ : S90)] : List (S90))), l0))) = some (r1, r2, r3) := H
  have A4 := Aside0.mk A40
  clear A40
  replace H := Option.bind_eq_some_iff.mp H
  obtain ⟨⟨t138, t139, t140⟩, A50, H⟩ := H
  replace H : (some (y126, (([(⟨(⟨t129, t130⟩ : S32), t131⟩ : S90), (⟨(⟨t132, t133⟩ : S32), t134⟩ : S90), (⟨(⟨t135, t136⟩ : S32), t137⟩ : S90), (⟨(⟨t138, t139⟩ : S32), t140⟩ : S90)] : List (S90))), l0)) = some (r1, r2, r3) := H
  have A5 := Aside0.mk A50
  clear A50
  obtain ⟨y141, hy141⟩ : ∃ y_ : List (S90), y_ = (([(⟨(⟨t129, t130⟩ : S32), t131⟩ : S90), (⟨(⟨t132, t133⟩ : S32), t134⟩ : S90), (⟨(⟨t135, t136⟩ : S32), t137⟩ : S90), (⟨(⟨t138, t139⟩ : S32), t140⟩ : S90)] : List (S90))) := ⟨_, rfl⟩
  replace H : (some (y126, y141, l0)) = some (r1, r2, r3) := by first | (rw [hy141]; with_reducible exact H) | (have H2_ := (Option.bind_some _ _).symm.trans H; rw [hy141]; with_reducible exact H2_) | (have H2_ := (Option.bind_some _ _).symm.trans H; with_reducible exact H2_) | with_reducible exact H | (rw [hy141]; exact H) | exact H
  have Ny141 := Aside0.mk hy141
  clear hy141
  simp only [Option.some.injEq, Prod.mk.injEq] at H
  obtain ⟨rfl, rfl, rfl⟩ := H
  go_enter Tryd.func71, Tryd.ntmps71
  go_wp2_with (first | ((with_reducible refine gate_dst (N := 2) rfl ?_); refine box_event ?hg (N := 2) ?hd (cs := #[.slice none 0 0, .slice none 0 0, .slice none 0 0]) (t := 26) ?hr ?_; (case hd => rfl); (case hg => rfl); (case hr => first | (go_simp; done) | (go_simp; rfl)); intro gb125 hg w6 hbox hb; have n0_ := Aside0.mk (Kd.R_below (by (with_reducible repeat (first | apply Kd.R_alloc | apply Kd.R_drewN | apply Kd.R_drew)); exact HO0.out) hb); have n1_ := Aside0.mk (Kept.below (S := (fun k_ => P0_ k_)) (by repeat (first | (with_reducible first | exact HK.out | apply Kept.alloc | apply Kept.drewN | apply Kept.drew) | exact HK.out)) hb); have n2_ := Aside0.mk (below_step (by repeat (first | (with_reducible first | exact HB.out | apply below_alloc | apply pw_below_drewN | apply below_drew1) | exact HB.out)) hb); have n3_ := Aside0.mk (hbox); have n4_ := Aside0.mk ((by rw [hg]; exact (by first | exact HK.out.1 | exact (show Kept w _ (fun k_ => P0_ k_) from by repeat (first | (with_reducible first | exact HK.out | apply Kept.alloc | apply Kept.drewN | apply Kept.drew) | exact HK.out)).1) : w.heap.size ≤ gb125)); have n5_ := Aside0.mk ((by rw [hg]; exact (below_size (by repeat (first | (with_reducible first | exact HB.out | apply below_alloc | apply pw_below_drewN | apply below_drew1) | exact HB.out))) : w0.heap.size ≤ gb125)); clear HO0; clear HK; clear HB; have HO0 := n0_; have HK := n1_; have HB := n2_; have BK125 := n3_; have GW125 := n4_; have GE125 := n5_; clear n0_ n1_ n2_ n3_ n4_ n5_; clear hb hbox hg) | ((with_reducible refine gate_dst (N := 5) rfl ?_); refine Kd.R_lit k92 _ 92 ?hg (N := 5) ?hd (xs := ([(⟨5, 4⟩ : S92), (⟨4, 3⟩ : S92)] : List (S92))) (inner := [.int .i64 5, .int .i64 4, .int .i64 4, .int .i64 3]) (ok := fun _ => True) (okp := fun _ => True) ?hr ?hp (fun _ hk => hk) trivial (Below.refl _ _) (Nat.le_refl _) (by simp) ?_; (case hd => rfl); (case hg => rfl); (case hr => first | (go_simp; done) | (go_simp; rfl)); (case hp => exact (Reps.c2 (show Kd.M k92 _ _ _ (⟨5, 4⟩ : S92) [.int .i64 5, .int .i64 4] from (k92_mkM _ _ _ (⟨5, 4⟩ : S92) )) (Reps.c2 (show Kd.M k92 _ _ _ (⟨4, 3⟩ : S92) [.int .i64 4, .int .i64 3] from (k92_mkM _ _ _ (⟨4, 3⟩ : S92) )) (Reps.none _ _)))); intro v127 w7 ho8 hb hg_ hnew_; clear hg_ hnew_; (first | rw [← Ny126.out] at ho8 | (simp only [Int.reduceToNat] at ho8; rw [← Ny126.out] at ho8)); have n0_ := Aside0.mk (Kd.R_below (by (with_reducible repeat (first | apply Kd.R_alloc | apply Kd.R_drewN | apply Kd.R_drew)); exact HO0.out) hb); have n1_ := Aside0.mk (Kd.R_lower (Kd.R_newM (M := fun k_ => (P0_ k_ ∨ w.heap.size ≤ k_)) ho8 (by first | exact HK.out.1 | exact (show Kept w _ (fun k_ => P0_ k_) from by repeat (first | (with_reducible first | exact HK.out | apply Kept.alloc | apply Kept.drewN | apply Kept.drew | refine Kept.setCell ?_ (.inr GW125.out) _) | exact HK.out)).1) (fun k_ h_ => .inr h_)) (below_size (by repeat (first | (with_reducible first | exact HB.out | apply below_alloc | apply pw_below_drewN | apply below_drew1 | refine below_set ?_ GE125.out) | exact HB.out)))); have n2_ := Aside0.mk (blk_below (g := gb125) (o := .cells #[.slice none 0 0, .slice none 0 0, .slice none 0 0] 26 (0, 0)) (by (with_reducible repeat (first | refine blk_drewN ?_ _ | refine blk_drew ?_ | refine blk_alloc ?_ _)); exact BK125.out) hb); have n3_ := Aside0.mk (Kept.below (S := (fun k_ => P0_ k_)) (by repeat (first | (with_reducible first | exact HK.out | apply Kept.alloc | apply Kept.drewN | apply Kept.drew | refine Kept.setCell ?_ (.inr GW125.out) _) | exact HK.out)) hb); have n4_ := Aside0.mk (below_step (by repeat (first | (with_reducible first | exact HB.out | apply below_alloc | apply pw_below_drewN | apply below_drew1 | refine below_set ?_ GE125.out) | exact HB.out)) hb); clear HO0; clear BK125; clear HK; clear HB; have HO0 := n0_; have HO128 := n1_; have BK125 := n2_; have HK := n3_; have HB := n4_; clear n0_ n1_ n2_ n3_ n4_; clear hb ho8) | ((with_reducible refine gate_callee (f := 120) rfl ?_); refine goesL_ (some 6) rfl rfl Tryd.func120 (by kernel_rfl) rfl #[.int .i64 3, .int .i64 4, .int .i64 2] rfl (by (try simp only [List.map_toArray, List.map_cons, List.map_nil]); first | done | rfl | (simp only [List.length_drop, List.length_take]; rfl)) ?_; (with_reducible refine (macadamlaw07_day.calls 3 4 2 t129 t130 t131 _ A2.out).mono ?_); rintro e w9 ⟨rfl, hb⟩; refine ⟨_, rfl, ?_⟩; have n0_ := Aside0.mk (Kd.R_below (by (with_reducible repeat (first | apply Kd.R_alloc | apply Kd.R_drewN | apply Kd.R_drew)); exact HO0.out) hb); have n1_ := Aside0.mk (Kd.R_below (by (with_reducible repeat (first | apply Kd.R_alloc | apply Kd.R_drewN | apply Kd.R_drew)); exact HO128.out) hb); have n2_ := Aside0.mk (blk_below (g := gb125) (o := .cells #[.slice none 0 0, .slice none 0 0, .slice none 0 0] 26 (0, 0)) (by (with_reducible repeat (first | refine blk_drewN ?_ _ | refine blk_drew ?_ | refine blk_alloc ?_ _)); exact BK125.out) hb); have n3_ := Aside0.mk (Kept.below (S := (fun k_ => P0_ k_)) (by repeat (first | (with_reducible first | exact HK.out | apply Kept.alloc | apply Kept.drewN | apply Kept.drew | refine Kept.setCell ?_ (.inr GW125.out) _) | exact HK.out)) hb); have n4_ := Aside0.mk (below_step (by repeat (first | (with_reducible first | exact HB.out | apply below_alloc | apply pw_below_drewN | apply below_drew1 | refine below_set ?_ GE125.out) | exact HB.out)) hb); clear HO0; clear HO128; clear BK125; clear HK; clear HB; have HO0 := n0_; have HO128 := n1_; have BK125 := n2_; have HK := n3_; have HB := n4_; clear n0_ n1_ n2_ n3_ n4_; (try clear hb); (try clear hb2); (try clear hk); (try clear hi)) | ((with_reducible refine gate_callee (f := 120) rfl ?_); refine goesL_ (some 7) rfl rfl Tryd.func120 (by kernel_rfl) rfl #[.int .i64 2, .int .i64 3, .int .i64 3] rfl (by (try simp only [List.map_toArray, List.map_cons, List.map_nil]); first | done | rfl | (simp only [List.length_drop, List.length_take]; rfl)) ?_; (with_reducible refine (macadamlaw07_day.calls 2 3 3 t132 t133 t134 _ A3.out).mono ?_); rintro e w10 ⟨rfl, hb⟩; refine ⟨_, rfl, ?_⟩; have n0_ := Aside0.mk (Kd.R_below (by (with_reducible repeat (first | apply Kd.R_alloc | apply Kd.R_drewN | apply Kd.R_drew)); exact HO0.out) hb); have n1_ := Aside0.mk (Kd.R_below (by (with_reducible repeat (first | apply Kd.R_alloc | apply Kd.R_drewN | apply Kd.R_drew)); exact HO128.out) hb); have n2_ := Aside0.mk (blk_below (g := gb125) (o := .cells #[.slice none 0 0, .slice none 0 0, .slice none 0 0] 26 (0, 0)) (by (with_reducible repeat (first | refine blk_drewN ?_ _ | refine blk_drew ?_ | refine blk_alloc ?_ _)); exact BK125.out) hb); have n3_ := Aside0.mk (Kept.below (S := (fun k_ => P0_ k_)) (by repeat (first | (with_reducible first | exact HK.out | apply Kept.alloc | apply Kept.drewN | apply Kept.drew | refine Kept.setCell ?_ (.inr GW125.out) _) | exact HK.out)) hb); have n4_ := Aside0.mk (below_step (by repeat (first | (with_reducible first | exact HB.out | apply below_alloc | apply pw_below_drewN | apply below_drew1 | refine below_set ?_ GE125.out) | exact HB.out)) hb); clear HO0; clear HO128; clear BK125; clear HK; clear HB; have HO0 := n0_; have HO128 := n1_; have BK125 := n2_; have HK := n3_; have HB := n4_; clear n0_ n1_ n2_ n3_ n4_; (try clear hb); (try clear hb2); (try clear hk); (try clear hi)) | ((with_reducible refine gate_callee (f := 120) rfl ?_); refine goesL_ (some 8) rfl rfl Tryd.func120 (by kernel_rfl) rfl #[.int .i64 3, .int .i64 3, .int .i64 6] rfl (by (try simp only [List.map_toArray, List.map_cons, List.map_nil]); first | done | rfl | (simp only [List.length_drop, List.length_take]; rfl)) ?_; (with_reducible refine (macadamlaw07_day.calls 3 3 6 t135 t136 t137 _ A4.out).mono ?_); rintro e w11 ⟨rfl, hb⟩; refine ⟨_, rfl, ?_⟩; have n0_ := Aside0.mk (Kd.R_below (by (with_reducible repeat (first | apply Kd.R_alloc | apply Kd.R_drewN | apply Kd.R_drew)); exact HO0.out) hb); have n1_ := Aside0.mk (Kd.R_below (by (with_reducible repeat (first | apply Kd.R_alloc | apply Kd.R_drewN | apply Kd.R_drew)); exact HO128.out) hb); have n2_ := Aside0.mk (blk_below (g := gb125) (o := .cells #[.slice none 0 0, .slice none 0 0, .slice none 0 0] 26 (0, 0)) (by (with_reducible repeat (first | refine blk_drewN ?_ _ | refine blk_drew ?_ | refine blk_alloc ?_ _)); exact BK125.out) hb); have n3_ := Aside0.mk (Kept.below (S := (fun k_ => P0_ k_)) (by repeat (first | (with_reducible first | exact HK.out | apply Kept.alloc | apply Kept.drewN | apply Kept.drew | refine Kept.setCell ?_ (.inr GW125.out) _) | exact HK.out)) hb); have n4_ := Aside0.mk (below_step (by repeat (first | (with_reducible first | exact HB.out | apply below_alloc | apply pw_below_drewN | apply below_drew1 | refine below_set ?_ GE125.out) | exact HB.out)) hb); clear HO0; clear HO128; clear BK125; clear HK; clear HB; have HO0 := n0_; have HO128 := n1_; have BK125 := n2_; have HK := n3_; have HB := n4_; clear n0_ n1_ n2_ n3_ n4_; (try clear hb); (try clear hb2); (try clear hk); (try clear hi)) | ((with_reducible refine gate_callee (f := 120) rfl ?_); refine goesL_ (some 9) rfl rfl Tryd.func120 (by kernel_rfl) rfl #[.int .i64 4, .int .i64 4, .int .i64 2] rfl (by (try simp only [List.map_toArray, List.map_cons, List.map_nil]); first | done | rfl | (simp only [List.length_drop, List.length_take]; rfl)) ?_; (with_reducible refine (macadamlaw07_day.calls 4 4 2 t138 t139 t140 _ A5.out).mono ?_); rintro e w12 ⟨rfl, hb⟩; refine ⟨_, rfl, ?_⟩; have n0_ := Aside0.mk (Kd.R_below (by (with_reducible repeat (first | apply Kd.R_alloc | apply Kd.R_drewN | apply Kd.R_drew)); exact HO0.out) hb); have n1_ := Aside0.mk (Kd.R_below (by (with_reducible repeat (first | apply Kd.R_alloc | apply Kd.R_drewN | apply Kd.R_drew)); exact HO128.out) hb); have n2_ := Aside0.mk (blk_below (g := gb125) (o := .cells #[.slice none 0 0, .slice none 0 0, .slice none 0 0] 26 (0, 0)) (by (with_reducible repeat (first | refine blk_drewN ?_ _ | refine blk_drew ?_ | refine blk_alloc ?_ _)); exact BK125.out) hb); have n3_ := Aside0.mk (Kept.below (S := (fun k_ => P0_ k_)) (by repeat (first | (with_reducible first | exact HK.out | apply Kept.alloc | apply Kept.drewN | apply Kept.drew | refine Kept.setCell ?_ (.inr GW125.out) _) | exact HK.out)) hb); have n4_ := Aside0.mk (below_step (by repeat (first | (with_reducible first | exact HB.out | apply below_alloc | apply pw_below_drewN | apply below_drew1 | refine below_set ?_ GE125.out) | exact HB.out)) hb); clear HO0; clear HO128; clear BK125; clear HK; clear HB; have HO0 := n0_; have HO128 := n1_; have BK125 := n2_; have HK := n3_; have HB := n4_; clear n0_ n1_ n2_ n3_ n4_; (try clear hb); (try clear hb2); (try clear hk); (try clear hi)) | ((with_reducible refine gate_dst (N := 10) rfl ?_); refine Kd.R_lit k90 _ 90 ?hg (N := 10) ?hd (xs := ([(⟨(⟨t129, t130⟩ : S32), t131⟩ : S90), (⟨(⟨t132, t133⟩ : S32), t134⟩ : S90), (⟨(⟨t135, t136⟩ : S32), t137⟩ : S90), (⟨(⟨t138, t139⟩ : S32), t140⟩ : S90)] : List (S90))) (inner := [.int .i64 t129, .int .i64 t130, .int .i64 t131, .int .i64 t132, .int .i64 t133, .int .i64 t134, .int .i64 t135, .int .i64 t136, .int .i64 t137, .int .i64 t138, .int .i64 t139, .int .i64 t140]) (ok := fun _ => True) (okp := fun _ => True) ?hr ?hp (fun _ hk => hk) trivial (Below.refl _ _) (Nat.le_refl _) (by simp) ?_; (case hd => rfl); (case hg => rfl); (case hr => first | (go_simp; done) | (go_simp; rfl)); (case hp => exact (Reps.c3 (show Kd.M k90 _ _ _ (⟨(⟨t129, t130⟩ : S32), t131⟩ : S90) [.int .i64 t129, .int .i64 t130, .int .i64 t131] from (k90_mkM _ _ _ (⟨(⟨t129, t130⟩ : S32), t131⟩ : S90) )) (Reps.c3 (show Kd.M k90 _ _ _ (⟨(⟨t132, t133⟩ : S32), t134⟩ : S90) [.int .i64 t132, .int .i64 t133, .int .i64 t134] from (k90_mkM _ _ _ (⟨(⟨t132, t133⟩ : S32), t134⟩ : S90) )) (Reps.c3 (show Kd.M k90 _ _ _ (⟨(⟨t135, t136⟩ : S32), t137⟩ : S90) [.int .i64 t135, .int .i64 t136, .int .i64 t137] from (k90_mkM _ _ _ (⟨(⟨t135, t136⟩ : S32), t137⟩ : S90) )) (Reps.c3 (show Kd.M k90 _ _ _ (⟨(⟨t138, t139⟩ : S32), t140⟩ : S90) [.int .i64 t138, .int .i64 t139, .int .i64 t140] from (k90_mkM _ _ _ (⟨(⟨t138, t139⟩ : S32), t140⟩ : S90) )) (Reps.none _ _)))))); intro v142 w13 ho14 hb hg_ hnew_; clear hg_ hnew_; (first | rw [← Ny141.out] at ho14 | (simp only [Int.reduceToNat] at ho14; rw [← Ny141.out] at ho14)); have n0_ := Aside0.mk (Kd.R_below (by (with_reducible repeat (first | apply Kd.R_alloc | apply Kd.R_drewN | apply Kd.R_drew)); exact HO0.out) hb); have n1_ := Aside0.mk (Kd.R_below (by (with_reducible repeat (first | apply Kd.R_alloc | apply Kd.R_drewN | apply Kd.R_drew)); exact HO128.out) hb); have n2_ := Aside0.mk (Kd.R_lower (Kd.R_newM (M := fun k_ => (P0_ k_ ∨ w.heap.size ≤ k_)) ho14 (by first | exact HK.out.1 | exact (show Kept w _ (fun k_ => P0_ k_) from by repeat (first | (with_reducible first | exact HK.out | apply Kept.alloc | apply Kept.drewN | apply Kept.drew | refine Kept.setCell ?_ (.inr GW125.out) _) | exact HK.out)).1) (fun k_ h_ => .inr h_)) (below_size (by repeat (first | (with_reducible first | exact HB.out | apply below_alloc | apply pw_below_drewN | apply below_drew1 | refine below_set ?_ GE125.out) | exact HB.out)))); have n3_ := Aside0.mk (blk_below (g := gb125) (o := .cells #[.slice none 0 0, .slice none 0 0, .slice none 0 0] 26 (0, 0)) (by (with_reducible repeat (first | refine blk_drewN ?_ _ | refine blk_drew ?_ | refine blk_alloc ?_ _)); exact BK125.out) hb); have n4_ := Aside0.mk (Kept.below (S := (fun k_ => P0_ k_)) (by repeat (first | (with_reducible first | exact HK.out | apply Kept.alloc | apply Kept.drewN | apply Kept.drew | refine Kept.setCell ?_ (.inr GW125.out) _) | exact HK.out)) hb); have n5_ := Aside0.mk (below_step (by repeat (first | (with_reducible first | exact HB.out | apply below_alloc | apply pw_below_drewN | apply below_drew1 | refine below_set ?_ GE125.out) | exact HB.out)) hb); clear HO0; clear HO128; clear BK125; clear HK; clear HB; have HO0 := n0_; have HO128 := n1_; have HO143 := n2_; have BK125 := n3_; have HK := n4_; have HB := n5_; clear n0_ n1_ n2_ n3_ n4_ n5_; clear hb ho14; obtain ⟨Ao15, co15, eo15⟩ := Kd.R_slice HO0.out; subst eo15; obtain ⟨Ao16, co16, eo16⟩ := Kd.R_slice HO143.out; subst eo16; obtain ⟨Ao17, co17, eo17⟩ := Kd.R_slice HO128.out; subst eo17; have hcz18_0 : w13.cell? ⟨gb125, 0, none⟩ = some (.slice none 0 0) := (blk_cell BK125.out 0).trans rfl; have hcz18_1 : w13.cell? ⟨gb125, 1, none⟩ = some (.slice none 0 0) := (blk_cell BK125.out 1).trans rfl; have hcz18_2 : w13.cell? ⟨gb125, 2, none⟩ = some (.slice none 0 0) := (blk_cell BK125.out 2).trans rfl; have hfz18_0 := blk_frozen BK125.out 0; have hfz18_1 := blk_frozen BK125.out 1; have hfz18_2 := blk_frozen BK125.out 2))
  refine bodyPost_ret (results_cell_row rfl _ _ gb125 26 #[.slice Ao17 y126.length co17, .slice Ao16 y141.length co16, .slice Ao15 l0.length co15] (0, 0) _ rfl (by (with_reducible repeat (first | refine blk_drewN ?_ _ | refine blk_drew ?_ | refine blk_alloc ?_ _)); refine blk_put (cs := #[.slice Ao17 y126.length co17, .slice Ao16 y141.length co16, .slice none 0 0]) ?_ 2 _ rfl; (with_reducible repeat (first | refine blk_drewN ?_ _ | refine blk_drew ?_ | refine blk_alloc ?_ _)); refine blk_put (cs := #[.slice Ao17 y126.length co17, .slice none 0 0, .slice none 0 0]) ?_ 1 _ rfl; (with_reducible repeat (first | refine blk_drewN ?_ _ | refine blk_drew ?_ | refine blk_alloc ?_ _)); refine blk_put (cs := #[.slice none 0 0, .slice none 0 0, .slice none 0 0]) ?_ 0 _ rfl; (with_reducible repeat (first | refine blk_drewN ?_ _ | refine blk_drew ?_ | refine blk_alloc ?_ _)); exact BK125.out) Tryd.underlying26 rfl (by kernel_rfl)) rfl ?_
  exact ⟨_, _, _, by first | rfl | exact congrArg (fun b_ => Ending.returned (.bool b_)) HT.out | (simp [errW_none, errW_some] <;> rfl) | (simp [*, errW_none, errW_some] <;> rfl), by (with_reducible repeat (first | apply Kd.R_alloc | apply Kd.R_drewN | apply Kd.R_drew)); exact Kd.R_mono (Kd.R_far (p := ⟨gb125, 2, none⟩) (Kd.R_far (p := ⟨gb125, 1, none⟩) (Kd.R_far (p := ⟨gb125, 0, none⟩) (Kd.R_types HO128.out BK125.out (by decide)) (fun _ hk => hk.2) (.slice Ao17 y126.length co17)) (fun _ hk => hk.2) (.slice Ao16 y141.length co16)) (fun _ hk => hk.2) (.slice Ao15 l0.length co15)) (fun _ hk => hk.1.1), by (with_reducible repeat (first | apply Kd.R_alloc | apply Kd.R_drewN | apply Kd.R_drew)); exact Kd.R_mono (Kd.R_far (p := ⟨gb125, 2, none⟩) (Kd.R_far (p := ⟨gb125, 1, none⟩) (Kd.R_far (p := ⟨gb125, 0, none⟩) (Kd.R_types HO143.out BK125.out (by decide)) (fun _ hk => hk.2) (.slice Ao17 y126.length co17)) (fun _ hk => hk.2) (.slice Ao16 y141.length co16)) (fun _ hk => hk.2) (.slice Ao15 l0.length co15)) (fun _ hk => hk.1.1), by (with_reducible repeat (first | apply Kd.R_alloc | apply Kd.R_drewN | apply Kd.R_drew)); exact Kd.R_mono (Kd.R_far (p := ⟨gb125, 2, none⟩) (Kd.R_far (p := ⟨gb125, 1, none⟩) (Kd.R_far (p := ⟨gb125, 0, none⟩) (Kd.R_types HO0.out BK125.out (by decide)) (fun _ hk => hk.2) (.slice Ao17 y126.length co17)) (fun _ hk => hk.2) (.slice Ao16 y141.length co16)) (fun _ hk => hk.2) (.slice Ao15 l0.length co15)) (fun _ hk => hk.1), by repeat (first | (with_reducible first | exact HB.out | apply below_alloc | apply pw_below_drewN | apply below_drew1 | refine below_set ?_ GE125.out) | exact HB.out), by repeat (first | (with_reducible first | exact HK.out | apply Kept.alloc | apply Kept.drewN | apply Kept.drew | refine Kept.setCell ?_ (.inr GW125.out) _) | exact HK.out)⟩
def macadamlaw07_own.f  : Option ((List (S92)) × (List (S90)) × (List (S43))) := (macadamlaw07_book.f ([] : List (S43))).bind fun bt145 => (some (bt145.1, bt145.2.1, bt145.2.2))
set_option maxHeartbeats 8000000 in
set_option maxRecDepth 100000 in
theorem macadamlaw07_own.calls  (r1 : List (S92)) (r2 : List (S90)) (r3 : List (S43)) (w : World) (h : macadamlaw07_own.f  = some (r1, r2, r3)) :
    Calls Tryd.prog 70 #[] w fun e w' => ∃ v0_ v1_ v2_ : Value, e = .returned (.agg #[v0_, v1_, v2_]) ∧ Kd.R k92 92 w' w.heap.size (fun _ => True) v0_ r1 ∧ Kd.R k90 90 w' w.heap.size (fun _ => True) v1_ r2 ∧ Kd.R k43 43 w' w.heap.size (fun _ => True) v2_ r3 ∧ Below w.heap.size w w' := by
  have hu26 := Tryd.underlying26
  have HB := Aside0.mk (Below.refl w.heap.size w)
  have H : ((macadamlaw07_book.f ([] : List (S43))).bind fun bt145 => (some (bt145.1, bt145.2.1, bt145.2.2))) = some (r1, r2, r3) := h
  clear h
  replace H := Option.bind_eq_some_iff.mp H
  obtain ⟨⟨t145, t148, t151⟩, A10, H⟩ := H
  replace H : (some (t145, t148, t151)) = some (r1, r2, r3) := H
  have A1 := Aside0.mk A10
  clear A10
  simp only [Option.some.injEq, Prod.mk.injEq] at H
  obtain ⟨rfl, rfl, rfl⟩ := H
  go_enter Tryd.func70, Tryd.ntmps70
  go_wp2_with (first | ((with_reducible refine gate_dst (N := 0) rfl ?_); refine box_event ?hg (N := 0) ?hd (cs := #[.slice none 0 0, .slice none 0 0, .slice none 0 0]) (t := 26) ?hr ?_; (case hd => rfl); (case hg => rfl); (case hr => first | (go_simp; done) | (go_simp; rfl)); intro gb144 hg w2 hbox hb; have n0_ := Aside0.mk (below_step (by repeat (first | (with_reducible first | exact HB.out | apply below_alloc | apply pw_below_drewN | apply below_drew1) | exact HB.out)) hb); have n1_ := Aside0.mk (hbox); have n2_ := Aside0.mk ((by rw [hg]; exact (below_size (by repeat (first | (with_reducible first | exact HB.out | apply below_alloc | apply pw_below_drewN | apply below_drew1) | exact HB.out))) : w.heap.size ≤ gb144)); have n3_ := Aside0.mk ((by rw [hg]; exact (below_size (by repeat (first | (with_reducible first | exact HB.out | apply below_alloc | apply pw_below_drewN | apply below_drew1) | exact HB.out))) : w.heap.size ≤ gb144)); clear HB; have HB := n0_; have BK144 := n1_; have GW144 := n2_; have GE144 := n3_; clear n0_ n1_ n2_ n3_; clear hb hbox hg) | ((with_reducible refine gate_callee (f := 71) rfl ?_); refine goesL_ (some 1) rfl rfl Tryd.func71 (by kernel_rfl) rfl #[.slice none 0 0] rfl (by (try simp only [List.map_toArray, List.map_cons, List.map_nil]); first | done | rfl | (simp only [List.length_drop, List.length_take]; rfl)) ?_; (refine (macadamlaw07_book.calls (fun k_ => some k_ = (.slice none 0 0 : Value).ownBlock) (.slice none 0 0) ([] : List (S43)) t145 t148 t151 w _ ?side1 ?side2 A1.out).mono ?_); (case side1 => repeat (first | (with_reducible first | exact HB.out | apply below_alloc | apply pw_below_drewN | apply below_drew1 | refine below_set ?_ GE144.out) | exact HB.out)); (case side2 => exact Kd.R_nil _ _ _ _ _); rintro e w3 ⟨v146, v149, v152, rfl, ho0, ho1, ho2, hb, hkp⟩; refine ⟨_, rfl, ?_⟩; have n0_ := Aside0.mk (blk_kept (by (with_reducible repeat (first | refine blk_drewN ?_ _ | refine blk_drew ?_ | refine blk_alloc ?_ _)); exact BK144.out) hkp (fun hs_ => (fun e_ => by simp [Value.ownBlock] at e_) hs_)); have n1_ := Aside0.mk (Kd.R_mono (ok' := fun k_ => True) ho0 (fun k_ hk_ => trivial)); have n2_ := Aside0.mk (Kd.R_mono (ok' := fun k_ => True) ho1 (fun k_ hk_ => trivial)); have n3_ := Aside0.mk (Kd.R_mono (ok' := fun k_ => True) ho2 (fun k_ hk_ => trivial)); have n4_ := Aside0.mk (hb); clear BK144; clear HB; have BK144 := n0_; have HO147 := n1_; have HO150 := n2_; have HO153 := n3_; have HB := n4_; clear n0_ n1_ n2_ n3_ n4_; (try clear hb); (try clear hkp); (try clear ho0); (try clear ho1); (try clear ho2); obtain ⟨Ao4, co4, eo4⟩ := Kd.R_slice HO147.out; subst eo4; have hcz5_0 : w3.cell? ⟨gb144, 0, none⟩ = some (.slice none 0 0) := (blk_cell BK144.out 0).trans rfl; have hcz5_1 : w3.cell? ⟨gb144, 1, none⟩ = some (.slice none 0 0) := (blk_cell BK144.out 1).trans rfl; have hcz5_2 : w3.cell? ⟨gb144, 2, none⟩ = some (.slice none 0 0) := (blk_cell BK144.out 2).trans rfl; have hfz5_0 := blk_frozen BK144.out 0; have hfz5_1 := blk_frozen BK144.out 1; have hfz5_2 := blk_frozen BK144.out 2; obtain ⟨Ao6, co6, eo6⟩ := Kd.R_slice HO150.out; subst eo6; obtain ⟨Ao7, co7, eo7⟩ := Kd.R_slice HO153.out; subst eo7))
  refine bodyPost_ret (results_cell_row rfl _ _ gb144 26 #[.slice Ao4 t145.length co4, .slice Ao6 t148.length co6, .slice Ao7 t151.length co7] (0, 0) _ rfl (by (with_reducible repeat (first | refine blk_drewN ?_ _ | refine blk_drew ?_ | refine blk_alloc ?_ _)); refine blk_put (cs := #[.slice Ao4 t145.length co4, .slice Ao6 t148.length co6, .slice none 0 0]) ?_ 2 _ rfl; (with_reducible repeat (first | refine blk_drewN ?_ _ | refine blk_drew ?_ | refine blk_alloc ?_ _)); refine blk_put (cs := #[.slice Ao4 t145.length co4, .slice none 0 0, .slice none 0 0]) ?_ 1 _ rfl; (with_reducible repeat (first | refine blk_drewN ?_ _ | refine blk_drew ?_ | refine blk_alloc ?_ _)); refine blk_put (cs := #[.slice none 0 0, .slice none 0 0, .slice none 0 0]) ?_ 0 _ rfl; (with_reducible repeat (first | refine blk_drewN ?_ _ | refine blk_drew ?_ | refine blk_alloc ?_ _)); exact BK144.out) Tryd.underlying26 rfl (by kernel_rfl)) rfl ?_
  exact ⟨_, _, _, by first | rfl | exact congrArg (fun b_ => Ending.returned (.bool b_)) HT.out | (simp [errW_none, errW_some] <;> rfl) | (simp [*, errW_none, errW_some] <;> rfl), by (with_reducible repeat (first | apply Kd.R_alloc | apply Kd.R_drewN | apply Kd.R_drew)); exact Kd.R_mono (Kd.R_far (p := ⟨gb144, 2, none⟩) (Kd.R_far (p := ⟨gb144, 1, none⟩) (Kd.R_far (p := ⟨gb144, 0, none⟩) (Kd.R_types HO147.out BK144.out (by decide)) (fun _ hk => hk.2) (.slice Ao4 t145.length co4)) (fun _ hk => hk.2) (.slice Ao6 t148.length co6)) (fun _ hk => hk.2) (.slice Ao7 t151.length co7)) (fun _ hk => trivial), by (with_reducible repeat (first | apply Kd.R_alloc | apply Kd.R_drewN | apply Kd.R_drew)); exact Kd.R_mono (Kd.R_far (p := ⟨gb144, 2, none⟩) (Kd.R_far (p := ⟨gb144, 1, none⟩) (Kd.R_far (p := ⟨gb144, 0, none⟩) (Kd.R_types HO150.out BK144.out (by decide)) (fun _ hk => hk.2) (.slice Ao4 t145.length co4)) (fun _ hk => hk.2) (.slice Ao6 t148.length co6)) (fun _ hk => hk.2) (.slice Ao7 t151.length co7)) (fun _ hk => trivial), by (with_reducible repeat (first | apply Kd.R_alloc | apply Kd.R_drewN | apply Kd.R_drew)); exact Kd.R_mono (Kd.R_far (p := ⟨gb144, 2, none⟩) (Kd.R_far (p := ⟨gb144, 1, none⟩) (Kd.R_far (p := ⟨gb144, 0, none⟩) (Kd.R_types HO153.out BK144.out (by decide)) (fun _ hk => hk.2) (.slice Ao4 t145.length co4)) (fun _ hk => hk.2) (.slice Ao6 t148.length co6)) (fun _ hk => hk.2) (.slice Ao7 t151.length co7)) (fun _ hk => trivial), by repeat (first | (with_reducible first | exact HB.out | apply below_alloc | apply pw_below_drewN | apply below_drew1 | refine below_set ?_ GE144.out) | exact HB.out)⟩
def macadamlaw07_early.f  : Option ((List (S92)) × (List (S90)) × (List (S43))) := (macadamlaw07_book.f (([(⟨1, 1⟩ : S43)] : List (S43)))).bind fun bt158 => (some (bt158.1, bt158.2.1, bt158.2.2))
set_option maxHeartbeats 8000000 in
set_option maxRecDepth 100000 in
theorem macadamlaw07_early.calls  (r1 : List (S92)) (r2 : List (S90)) (r3 : List (S43)) (w : World) (h : macadamlaw07_early.f  = some (r1, r2, r3)) :
    Calls Tryd.prog 74 #[] w fun e w' => ∃ v0_ v1_ v2_ : Value, e = .returned (.agg #[v0_, v1_, v2_]) ∧ Kd.R k92 92 w' w.heap.size (fun _ => True) v0_ r1 ∧ Kd.R k90 90 w' w.heap.size (fun _ => True) v1_ r2 ∧ Kd.R k43 43 w' w.heap.size (fun _ => True) v2_ r3 ∧ Below w.heap.size w w' := by
  have hu26 := Tryd.underlying26
  have hu43 := Tryd.underlying43
  have HB := Aside0.mk (Below.refl w.heap.size w)
  have H : ((macadamlaw07_book.f (([(⟨1, 1⟩ : S43)] : List (S43)))).bind fun bt158 => (some (bt158.1, bt158.2.1, bt158.2.2))) = some (r1, r2, r3) := h
  clear h
  obtain ⟨y155, hy155⟩ : ∃ y_ : List (S43), y_ = (([(⟨1, 1⟩ : S43)] : List (S43))) := ⟨_, rfl⟩
  replace H : ((macadamlaw07_book.f y155).bind fun bt158 => (some (bt158.1, bt158.2.1, bt158.2.2))) = some (r1, r2, r3) := by first | (rw [hy155]; with_reducible exact H) | (have H2_ := (Option.bind_some _ _).symm.trans H; rw [hy155]; with_reducible exact H2_) | (have H2_ := (Option.bind_some _ _).symm.trans H; with_reducible exact H2_) | with_reducible exact H | (rw [hy155]; exact H) | exact H
  have Ny155 := Aside0.mk hy155
  clear hy155
  replace H := Option.bind_eq_some_iff.mp H
  obtain ⟨⟨t158, t161, t164⟩, A10, H⟩ := H
  replace H : (some (t158, t161, t164)) = some (r1, r2, r3) := H
  have A1 := Aside0.mk A10
  clear A10
  simp only [Option.some.injEq, Prod.mk.injEq] at H
  obtain ⟨rfl, rfl, rfl⟩ := H
  go_enter Tryd.func74, Tryd.ntmps74
  go_wp2_with (first | ((with_reducible refine gate_dst (N := 0) rfl ?_); refine box_event ?hg (N := 0) ?hd (cs := #[.slice none 0 0, .slice none 0 0, .slice none 0 0]) (t := 26) ?hr ?_; (case hd => rfl); (case hg => rfl); (case hr => first | (go_simp; done) | (go_simp; rfl)); intro gb154 hg w2 hbox hb; have n0_ := Aside0.mk (below_step (by repeat (first | (with_reducible first | exact HB.out | apply below_alloc | apply pw_below_drewN | apply below_drew1) | exact HB.out)) hb); have n1_ := Aside0.mk (hbox); have n2_ := Aside0.mk ((by rw [hg]; exact (below_size (by repeat (first | (with_reducible first | exact HB.out | apply below_alloc | apply pw_below_drewN | apply below_drew1) | exact HB.out))) : w.heap.size ≤ gb154)); have n3_ := Aside0.mk ((by rw [hg]; exact (below_size (by repeat (first | (with_reducible first | exact HB.out | apply below_alloc | apply pw_below_drewN | apply below_drew1) | exact HB.out))) : w.heap.size ≤ gb154)); clear HB; have HB := n0_; have BK154 := n1_; have GW154 := n2_; have GE154 := n3_; clear n0_ n1_ n2_ n3_; clear hb hbox hg) | ((with_reducible refine gate_dst (N := 2) rfl ?_); refine Kd.R_lit k43 _ 43 ?hg (N := 2) ?hd (xs := ([(⟨1, 1⟩ : S43)] : List (S43))) (inner := [.int .i64 1, .int .i64 1]) (ok := fun _ => True) (okp := fun _ => True) ?hr ?hp (fun _ hk => hk) trivial (Below.refl _ _) (Nat.le_refl _) (by simp) ?_; (case hd => rfl); (case hg => rfl); (case hr => first | (go_simp; done) | (go_simp; rfl)); (case hp => exact (Reps.c2 (show Kd.M k43 _ _ _ (⟨1, 1⟩ : S43) [.int .i64 1, .int .i64 1] from (k43_mkM _ _ _ (⟨1, 1⟩ : S43) )) (Reps.none _ _))); intro v156 w3 ho4 hb hg_ hnew_; clear hg_ hnew_; (first | rw [← Ny155.out] at ho4 | (simp only [Int.reduceToNat] at ho4; rw [← Ny155.out] at ho4)); have n0_ := Aside0.mk (Kd.R_lower ho4 (below_size (by repeat (first | (with_reducible first | exact HB.out | apply below_alloc | apply pw_below_drewN | apply below_drew1 | refine below_set ?_ GE154.out) | exact HB.out)))); have n1_ := Aside0.mk (blk_below (g := gb154) (o := .cells #[.slice none 0 0, .slice none 0 0, .slice none 0 0] 26 (0, 0)) (by (with_reducible repeat (first | refine blk_drewN ?_ _ | refine blk_drew ?_ | refine blk_alloc ?_ _)); exact BK154.out) hb); have n2_ := Aside0.mk (below_step (by repeat (first | (with_reducible first | exact HB.out | apply below_alloc | apply pw_below_drewN | apply below_drew1 | refine below_set ?_ GE154.out) | exact HB.out)) hb); clear BK154; clear HB; have HO157 := n0_; have BK154 := n1_; have HB := n2_; clear n0_ n1_ n2_; clear hb ho4; obtain ⟨Ao5, co5, eo5⟩ := Kd.R_slice HO157.out; subst eo5) | ((with_reducible refine gate_callee (f := 71) rfl ?_); refine goesL_ (some 3) rfl rfl Tryd.func71 (by kernel_rfl) rfl #[.slice Ao5 y155.length co5] rfl (by (try simp only [List.map_toArray, List.map_cons, List.map_nil]); first | done | rfl | (simp only [List.length_drop, List.length_take]; rfl)) ?_; (with_reducible refine (macadamlaw07_book.calls (fun k_ => some k_ = (.slice Ao5 y155.length co5 : Value).ownBlock) (.slice Ao5 y155.length co5) y155 t158 t161 t164 w _ ?side1 ?side2 A1.out).mono ?_); (case side1 => repeat (first | (with_reducible first | exact HB.out | apply below_alloc | apply pw_below_drewN | apply below_drew1 | refine below_set ?_ GE154.out) | exact HB.out)); (case side2 => exact Kd.R_tight rfl HO157.out); rintro e w6 ⟨v159, v162, v165, rfl, ho0, ho1, ho2, hb, hkp⟩; refine ⟨_, rfl, ?_⟩; have n0_ := Aside0.mk (blk_kept (by (with_reducible repeat (first | refine blk_drewN ?_ _ | refine blk_drew ?_ | refine blk_alloc ?_ _)); exact BK154.out) hkp (fun hs_ => (fun e_ => (Kd.R_ne HO157.out BK154.out (by decide)) e_) hs_)); have n1_ := Aside0.mk (Kd.R_mono (ok' := fun k_ => True) ho0 (fun k_ hk_ => trivial)); have n2_ := Aside0.mk (Kd.R_mono (ok' := fun k_ => True) ho1 (fun k_ hk_ => trivial)); have n3_ := Aside0.mk (Kd.R_mono (ok' := fun k_ => True) ho2 (fun k_ hk_ => trivial)); have n4_ := Aside0.mk (hb); clear BK154; clear HB; clear HO157; have BK154 := n0_; have HO160 := n1_; have HO163 := n2_; have HO166 := n3_; have HB := n4_; clear n0_ n1_ n2_ n3_ n4_; (try clear hb); (try clear hkp); (try clear ho0); (try clear ho1); (try clear ho2); obtain ⟨Ao7, co7, eo7⟩ := Kd.R_slice HO160.out; subst eo7; have hcz8_0 : w6.cell? ⟨gb154, 0, none⟩ = some (.slice none 0 0) := (blk_cell BK154.out 0).trans rfl; have hcz8_1 : w6.cell? ⟨gb154, 1, none⟩ = some (.slice none 0 0) := (blk_cell BK154.out 1).trans rfl; have hcz8_2 : w6.cell? ⟨gb154, 2, none⟩ = some (.slice none 0 0) := (blk_cell BK154.out 2).trans rfl; have hfz8_0 := blk_frozen BK154.out 0; have hfz8_1 := blk_frozen BK154.out 1; have hfz8_2 := blk_frozen BK154.out 2; obtain ⟨Ao9, co9, eo9⟩ := Kd.R_slice HO163.out; subst eo9; obtain ⟨Ao10, co10, eo10⟩ := Kd.R_slice HO166.out; subst eo10))
  refine bodyPost_ret (results_cell_row rfl _ _ gb154 26 #[.slice Ao7 t158.length co7, .slice Ao9 t161.length co9, .slice Ao10 t164.length co10] (0, 0) _ rfl (by (with_reducible repeat (first | refine blk_drewN ?_ _ | refine blk_drew ?_ | refine blk_alloc ?_ _)); refine blk_put (cs := #[.slice Ao7 t158.length co7, .slice Ao9 t161.length co9, .slice none 0 0]) ?_ 2 _ rfl; (with_reducible repeat (first | refine blk_drewN ?_ _ | refine blk_drew ?_ | refine blk_alloc ?_ _)); refine blk_put (cs := #[.slice Ao7 t158.length co7, .slice none 0 0, .slice none 0 0]) ?_ 1 _ rfl; (with_reducible repeat (first | refine blk_drewN ?_ _ | refine blk_drew ?_ | refine blk_alloc ?_ _)); refine blk_put (cs := #[.slice none 0 0, .slice none 0 0, .slice none 0 0]) ?_ 0 _ rfl; (with_reducible repeat (first | refine blk_drewN ?_ _ | refine blk_drew ?_ | refine blk_alloc ?_ _)); exact BK154.out) Tryd.underlying26 rfl (by kernel_rfl)) rfl ?_
  exact ⟨_, _, _, by first | rfl | exact congrArg (fun b_ => Ending.returned (.bool b_)) HT.out | (simp [errW_none, errW_some] <;> rfl) | (simp [*, errW_none, errW_some] <;> rfl), by (with_reducible repeat (first | apply Kd.R_alloc | apply Kd.R_drewN | apply Kd.R_drew)); exact Kd.R_mono (Kd.R_far (p := ⟨gb154, 2, none⟩) (Kd.R_far (p := ⟨gb154, 1, none⟩) (Kd.R_far (p := ⟨gb154, 0, none⟩) (Kd.R_types HO160.out BK154.out (by decide)) (fun _ hk => hk.2) (.slice Ao7 t158.length co7)) (fun _ hk => hk.2) (.slice Ao9 t161.length co9)) (fun _ hk => hk.2) (.slice Ao10 t164.length co10)) (fun _ hk => trivial), by (with_reducible repeat (first | apply Kd.R_alloc | apply Kd.R_drewN | apply Kd.R_drew)); exact Kd.R_mono (Kd.R_far (p := ⟨gb154, 2, none⟩) (Kd.R_far (p := ⟨gb154, 1, none⟩) (Kd.R_far (p := ⟨gb154, 0, none⟩) (Kd.R_types HO163.out BK154.out (by decide)) (fun _ hk => hk.2) (.slice Ao7 t158.length co7)) (fun _ hk => hk.2) (.slice Ao9 t161.length co9)) (fun _ hk => hk.2) (.slice Ao10 t164.length co10)) (fun _ hk => trivial), by (with_reducible repeat (first | apply Kd.R_alloc | apply Kd.R_drewN | apply Kd.R_drew)); exact Kd.R_mono (Kd.R_far (p := ⟨gb154, 2, none⟩) (Kd.R_far (p := ⟨gb154, 1, none⟩) (Kd.R_far (p := ⟨gb154, 0, none⟩) (Kd.R_types HO166.out BK154.out (by decide)) (fun _ hk => hk.2) (.slice Ao7 t158.length co7)) (fun _ hk => hk.2) (.slice Ao9 t161.length co9)) (fun _ hk => hk.2) (.slice Ao10 t164.length co10)) (fun _ hk => trivial), by repeat (first | (with_reducible first | exact HB.out | apply below_alloc | apply pw_below_drewN | apply below_drew1 | refine below_set ?_ GE154.out) | exact HB.out)⟩
def macadamlaw07_late.f  : Option ((List (S92)) × (List (S90)) × (List (S43))) := (macadamlaw07_book.f (([(⟨2, 0⟩ : S43)] : List (S43)))).bind fun bt171 => (some (bt171.1, bt171.2.1, bt171.2.2))
set_option maxHeartbeats 8000000 in
set_option maxRecDepth 100000 in
theorem macadamlaw07_late.calls  (r1 : List (S92)) (r2 : List (S90)) (r3 : List (S43)) (w : World) (h : macadamlaw07_late.f  = some (r1, r2, r3)) :
    Calls Tryd.prog 73 #[] w fun e w' => ∃ v0_ v1_ v2_ : Value, e = .returned (.agg #[v0_, v1_, v2_]) ∧ Kd.R k92 92 w' w.heap.size (fun _ => True) v0_ r1 ∧ Kd.R k90 90 w' w.heap.size (fun _ => True) v1_ r2 ∧ Kd.R k43 43 w' w.heap.size (fun _ => True) v2_ r3 ∧ Below w.heap.size w w' := by
  have hu26 := Tryd.underlying26
  have hu43 := Tryd.underlying43
  have HB := Aside0.mk (Below.refl w.heap.size w)
  have H : ((macadamlaw07_book.f (([(⟨2, 0⟩ : S43)] : List (S43)))).bind fun bt171 => (some (bt171.1, bt171.2.1, bt171.2.2))) = some (r1, r2, r3) := h
  clear h
  obtain ⟨y168, hy168⟩ : ∃ y_ : List (S43), y_ = (([(⟨2, 0⟩ : S43)] : List (S43))) := ⟨_, rfl⟩
  replace H : ((macadamlaw07_book.f y168).bind fun bt171 => (some (bt171.1, bt171.2.1, bt171.2.2))) = some (r1, r2, r3) := by first | (rw [hy168]; with_reducible exact H) | (have H2_ := (Option.bind_some _ _).symm.trans H; rw [hy168]; with_reducible exact H2_) | (have H2_ := (Option.bind_some _ _).symm.trans H; with_reducible exact H2_) | with_reducible exact H | (rw [hy168]; exact H) | exact H
  have Ny168 := Aside0.mk hy168
  clear hy168
  replace H := Option.bind_eq_some_iff.mp H
  obtain ⟨⟨t171, t174, t177⟩, A10, H⟩ := H
  replace H : (some (t171, t174, t177)) = some (r1, r2, r3) := H
  have A1 := Aside0.mk A10
  clear A10
  simp only [Option.some.injEq, Prod.mk.injEq] at H
  obtain ⟨rfl, rfl, rfl⟩ := H
  go_enter Tryd.func73, Tryd.ntmps73
  go_wp2_with (first | ((with_reducible refine gate_dst (N := 0) rfl ?_); refine box_event ?hg (N := 0) ?hd (cs := #[.slice none 0 0, .slice none 0 0, .slice none 0 0]) (t := 26) ?hr ?_; (case hd => rfl); (case hg => rfl); (case hr => first | (go_simp; done) | (go_simp; rfl)); intro gb167 hg w2 hbox hb; have n0_ := Aside0.mk (below_step (by repeat (first | (with_reducible first | exact HB.out | apply below_alloc | apply pw_below_drewN | apply below_drew1) | exact HB.out)) hb); have n1_ := Aside0.mk (hbox); have n2_ := Aside0.mk ((by rw [hg]; exact (below_size (by repeat (first | (with_reducible first | exact HB.out | apply below_alloc | apply pw_below_drewN | apply below_drew1) | exact HB.out))) : w.heap.size ≤ gb167)); have n3_ := Aside0.mk ((by rw [hg]; exact (below_size (by repeat (first | (with_reducible first | exact HB.out | apply below_alloc | apply pw_below_drewN | apply below_drew1) | exact HB.out))) : w.heap.size ≤ gb167)); clear HB; have HB := n0_; have BK167 := n1_; have GW167 := n2_; have GE167 := n3_; clear n0_ n1_ n2_ n3_; clear hb hbox hg) | ((with_reducible refine gate_dst (N := 2) rfl ?_); refine Kd.R_lit k43 _ 43 ?hg (N := 2) ?hd (xs := ([(⟨2, 0⟩ : S43)] : List (S43))) (inner := [.int .i64 2, .int .i64 0]) (ok := fun _ => True) (okp := fun _ => True) ?hr ?hp (fun _ hk => hk) trivial (Below.refl _ _) (Nat.le_refl _) (by simp) ?_; (case hd => rfl); (case hg => rfl); (case hr => first | (go_simp; done) | (go_simp; rfl)); (case hp => exact (Reps.c2 (show Kd.M k43 _ _ _ (⟨2, 0⟩ : S43) [.int .i64 2, .int .i64 0] from (k43_mkM _ _ _ (⟨2, 0⟩ : S43) )) (Reps.none _ _))); intro v169 w3 ho4 hb hg_ hnew_; clear hg_ hnew_; (first | rw [← Ny168.out] at ho4 | (simp only [Int.reduceToNat] at ho4; rw [← Ny168.out] at ho4)); have n0_ := Aside0.mk (Kd.R_lower ho4 (below_size (by repeat (first | (with_reducible first | exact HB.out | apply below_alloc | apply pw_below_drewN | apply below_drew1 | refine below_set ?_ GE167.out) | exact HB.out)))); have n1_ := Aside0.mk (blk_below (g := gb167) (o := .cells #[.slice none 0 0, .slice none 0 0, .slice none 0 0] 26 (0, 0)) (by (with_reducible repeat (first | refine blk_drewN ?_ _ | refine blk_drew ?_ | refine blk_alloc ?_ _)); exact BK167.out) hb); have n2_ := Aside0.mk (below_step (by repeat (first | (with_reducible first | exact HB.out | apply below_alloc | apply pw_below_drewN | apply below_drew1 | refine below_set ?_ GE167.out) | exact HB.out)) hb); clear BK167; clear HB; have HO170 := n0_; have BK167 := n1_; have HB := n2_; clear n0_ n1_ n2_; clear hb ho4; obtain ⟨Ao5, co5, eo5⟩ := Kd.R_slice HO170.out; subst eo5) | ((with_reducible refine gate_callee (f := 71) rfl ?_); refine goesL_ (some 3) rfl rfl Tryd.func71 (by kernel_rfl) rfl #[.slice Ao5 y168.length co5] rfl (by (try simp only [List.map_toArray, List.map_cons, List.map_nil]); first | done | rfl | (simp only [List.length_drop, List.length_take]; rfl)) ?_; (with_reducible refine (macadamlaw07_book.calls (fun k_ => some k_ = (.slice Ao5 y168.length co5 : Value).ownBlock) (.slice Ao5 y168.length co5) y168 t171 t174 t177 w _ ?side1 ?side2 A1.out).mono ?_); (case side1 => repeat (first | (with_reducible first | exact HB.out | apply below_alloc | apply pw_below_drewN | apply below_drew1 | refine below_set ?_ GE167.out) | exact HB.out)); (case side2 => exact Kd.R_tight rfl HO170.out); rintro e w6 ⟨v172, v175, v178, rfl, ho0, ho1, ho2, hb, hkp⟩; refine ⟨_, rfl, ?_⟩; have n0_ := Aside0.mk (blk_kept (by (with_reducible repeat (first | refine blk_drewN ?_ _ | refine blk_drew ?_ | refine blk_alloc ?_ _)); exact BK167.out) hkp (fun hs_ => (fun e_ => (Kd.R_ne HO170.out BK167.out (by decide)) e_) hs_)); have n1_ := Aside0.mk (Kd.R_mono (ok' := fun k_ => True) ho0 (fun k_ hk_ => trivial)); have n2_ := Aside0.mk (Kd.R_mono (ok' := fun k_ => True) ho1 (fun k_ hk_ => trivial)); have n3_ := Aside0.mk (Kd.R_mono (ok' := fun k_ => True) ho2 (fun k_ hk_ => trivial)); have n4_ := Aside0.mk (hb); clear BK167; clear HB; clear HO170; have BK167 := n0_; have HO173 := n1_; have HO176 := n2_; have HO179 := n3_; have HB := n4_; clear n0_ n1_ n2_ n3_ n4_; (try clear hb); (try clear hkp); (try clear ho0); (try clear ho1); (try clear ho2); obtain ⟨Ao7, co7, eo7⟩ := Kd.R_slice HO173.out; subst eo7; have hcz8_0 : w6.cell? ⟨gb167, 0, none⟩ = some (.slice none 0 0) := (blk_cell BK167.out 0).trans rfl; have hcz8_1 : w6.cell? ⟨gb167, 1, none⟩ = some (.slice none 0 0) := (blk_cell BK167.out 1).trans rfl; have hcz8_2 : w6.cell? ⟨gb167, 2, none⟩ = some (.slice none 0 0) := (blk_cell BK167.out 2).trans rfl; have hfz8_0 := blk_frozen BK167.out 0; have hfz8_1 := blk_frozen BK167.out 1; have hfz8_2 := blk_frozen BK167.out 2; obtain ⟨Ao9, co9, eo9⟩ := Kd.R_slice HO176.out; subst eo9; obtain ⟨Ao10, co10, eo10⟩ := Kd.R_slice HO179.out; subst eo10))
  refine bodyPost_ret (results_cell_row rfl _ _ gb167 26 #[.slice Ao7 t171.length co7, .slice Ao9 t174.length co9, .slice Ao10 t177.length co10] (0, 0) _ rfl (by (with_reducible repeat (first | refine blk_drewN ?_ _ | refine blk_drew ?_ | refine blk_alloc ?_ _)); refine blk_put (cs := #[.slice Ao7 t171.length co7, .slice Ao9 t174.length co9, .slice none 0 0]) ?_ 2 _ rfl; (with_reducible repeat (first | refine blk_drewN ?_ _ | refine blk_drew ?_ | refine blk_alloc ?_ _)); refine blk_put (cs := #[.slice Ao7 t171.length co7, .slice none 0 0, .slice none 0 0]) ?_ 1 _ rfl; (with_reducible repeat (first | refine blk_drewN ?_ _ | refine blk_drew ?_ | refine blk_alloc ?_ _)); refine blk_put (cs := #[.slice none 0 0, .slice none 0 0, .slice none 0 0]) ?_ 0 _ rfl; (with_reducible repeat (first | refine blk_drewN ?_ _ | refine blk_drew ?_ | refine blk_alloc ?_ _)); exact BK167.out) Tryd.underlying26 rfl (by kernel_rfl)) rfl ?_
  exact ⟨_, _, _, by first | rfl | exact congrArg (fun b_ => Ending.returned (.bool b_)) HT.out | (simp [errW_none, errW_some] <;> rfl) | (simp [*, errW_none, errW_some] <;> rfl), by (with_reducible repeat (first | apply Kd.R_alloc | apply Kd.R_drewN | apply Kd.R_drew)); exact Kd.R_mono (Kd.R_far (p := ⟨gb167, 2, none⟩) (Kd.R_far (p := ⟨gb167, 1, none⟩) (Kd.R_far (p := ⟨gb167, 0, none⟩) (Kd.R_types HO173.out BK167.out (by decide)) (fun _ hk => hk.2) (.slice Ao7 t171.length co7)) (fun _ hk => hk.2) (.slice Ao9 t174.length co9)) (fun _ hk => hk.2) (.slice Ao10 t177.length co10)) (fun _ hk => trivial), by (with_reducible repeat (first | apply Kd.R_alloc | apply Kd.R_drewN | apply Kd.R_drew)); exact Kd.R_mono (Kd.R_far (p := ⟨gb167, 2, none⟩) (Kd.R_far (p := ⟨gb167, 1, none⟩) (Kd.R_far (p := ⟨gb167, 0, none⟩) (Kd.R_types HO176.out BK167.out (by decide)) (fun _ hk => hk.2) (.slice Ao7 t171.length co7)) (fun _ hk => hk.2) (.slice Ao9 t174.length co9)) (fun _ hk => hk.2) (.slice Ao10 t177.length co10)) (fun _ hk => trivial), by (with_reducible repeat (first | apply Kd.R_alloc | apply Kd.R_drewN | apply Kd.R_drew)); exact Kd.R_mono (Kd.R_far (p := ⟨gb167, 2, none⟩) (Kd.R_far (p := ⟨gb167, 1, none⟩) (Kd.R_far (p := ⟨gb167, 0, none⟩) (Kd.R_types HO179.out BK167.out (by decide)) (fun _ hk => hk.2) (.slice Ao7 t171.length co7)) (fun _ hk => hk.2) (.slice Ao9 t174.length co9)) (fun _ hk => hk.2) (.slice Ao10 t177.length co10)) (fun _ hk => trivial), by repeat (first | (with_reducible first | exact HB.out | apply below_alloc | apply pw_below_drewN | apply below_drew1 | refine below_set ?_ GE167.out) | exact HB.out)⟩
def macadamlaw07_torn.f  : Option ((List (S92)) × (List (S90)) × (List (S43))) := (macadamlaw07_book.f (([(⟨1, 1⟩ : S43), (⟨2, 0⟩ : S43)] : List (S43)))).bind fun bt184 => (some (bt184.1, bt184.2.1, bt184.2.2))
set_option maxHeartbeats 8000000 in
set_option maxRecDepth 100000 in
theorem macadamlaw07_torn.calls  (r1 : List (S92)) (r2 : List (S90)) (r3 : List (S43)) (w : World) (h : macadamlaw07_torn.f  = some (r1, r2, r3)) :
    Calls Tryd.prog 72 #[] w fun e w' => ∃ v0_ v1_ v2_ : Value, e = .returned (.agg #[v0_, v1_, v2_]) ∧ Kd.R k92 92 w' w.heap.size (fun _ => True) v0_ r1 ∧ Kd.R k90 90 w' w.heap.size (fun _ => True) v1_ r2 ∧ Kd.R k43 43 w' w.heap.size (fun _ => True) v2_ r3 ∧ Below w.heap.size w w' := by
  have hu26 := Tryd.underlying26
  have hu43 := Tryd.underlying43
  have HB := Aside0.mk (Below.refl w.heap.size w)
  have H : ((macadamlaw07_book.f (([(⟨1, 1⟩ : S43), (⟨2, 0⟩ : S43)] : List (S43)))).bind fun bt184 => (some (bt184.1, bt184.2.1, bt184.2.2))) = some (r1, r2, r3) := h
  clear h
  obtain ⟨y181, hy181⟩ : ∃ y_ : List (S43), y_ = (([(⟨1, 1⟩ : S43), (⟨2, 0⟩ : S43)] : List (S43))) := ⟨_, rfl⟩
  replace H : ((macadamlaw07_book.f y181).bind fun bt184 => (some (bt184.1, bt184.2.1, bt184.2.2))) = some (r1, r2, r3) := by first | (rw [hy181]; with_reducible exact H) | (have H2_ := (Option.bind_some _ _).symm.trans H; rw [hy181]; with_reducible exact H2_) | (have H2_ := (Option.bind_some _ _).symm.trans H; with_reducible exact H2_) | with_reducible exact H | (rw [hy181]; exact H) | exact H
  have Ny181 := Aside0.mk hy181
  clear hy181
  replace H := Option.bind_eq_some_iff.mp H
  obtain ⟨⟨t184, t187, t190⟩, A10, H⟩ := H
  replace H : (some (t184, t187, t190)) = some (r1, r2, r3) := H
  have A1 := Aside0.mk A10
  clear A10
  simp only [Option.some.injEq, Prod.mk.injEq] at H
  obtain ⟨rfl, rfl, rfl⟩ := H
  go_enter Tryd.func72, Tryd.ntmps72
  go_wp2_with (first | ((with_reducible refine gate_dst (N := 0) rfl ?_); refine box_event ?hg (N := 0) ?hd (cs := #[.slice none 0 0, .slice none 0 0, .slice none 0 0]) (t := 26) ?hr ?_; (case hd => rfl); (case hg => rfl); (case hr => first | (go_simp; done) | (go_simp; rfl)); intro gb180 hg w2 hbox hb; have n0_ := Aside0.mk (below_step (by repeat (first | (with_reducible first | exact HB.out | apply below_alloc | apply pw_below_drewN | apply below_drew1) | exact HB.out)) hb); have n1_ := Aside0.mk (hbox); have n2_ := Aside0.mk ((by rw [hg]; exact (below_size (by repeat (first | (with_reducible first | exact HB.out | apply below_alloc | apply pw_below_drewN | apply below_drew1) | exact HB.out))) : w.heap.size ≤ gb180)); have n3_ := Aside0.mk ((by rw [hg]; exact (below_size (by repeat (first | (with_reducible first | exact HB.out | apply below_alloc | apply pw_below_drewN | apply below_drew1) | exact HB.out))) : w.heap.size ≤ gb180)); clear HB; have HB := n0_; have BK180 := n1_; have GW180 := n2_; have GE180 := n3_; clear n0_ n1_ n2_ n3_; clear hb hbox hg) | ((with_reducible refine gate_dst (N := 3) rfl ?_); refine Kd.R_lit k43 _ 43 ?hg (N := 3) ?hd (xs := ([(⟨1, 1⟩ : S43), (⟨2, 0⟩ : S43)] : List (S43))) (inner := [.int .i64 1, .int .i64 1, .int .i64 2, .int .i64 0]) (ok := fun _ => True) (okp := fun _ => True) ?hr ?hp (fun _ hk => hk) trivial (Below.refl _ _) (Nat.le_refl _) (by simp) ?_; (case hd => rfl); (case hg => rfl); (case hr => first | (go_simp; done) | (go_simp; rfl)); (case hp => exact (Reps.c2 (show Kd.M k43 _ _ _ (⟨1, 1⟩ : S43) [.int .i64 1, .int .i64 1] from (k43_mkM _ _ _ (⟨1, 1⟩ : S43) )) (Reps.c2 (show Kd.M k43 _ _ _ (⟨2, 0⟩ : S43) [.int .i64 2, .int .i64 0] from (k43_mkM _ _ _ (⟨2, 0⟩ : S43) )) (Reps.none _ _)))); intro v182 w3 ho4 hb hg_ hnew_; clear hg_ hnew_; (first | rw [← Ny181.out] at ho4 | (simp only [Int.reduceToNat] at ho4; rw [← Ny181.out] at ho4)); have n0_ := Aside0.mk (Kd.R_lower ho4 (below_size (by repeat (first | (with_reducible first | exact HB.out | apply below_alloc | apply pw_below_drewN | apply below_drew1 | refine below_set ?_ GE180.out) | exact HB.out)))); have n1_ := Aside0.mk (blk_below (g := gb180) (o := .cells #[.slice none 0 0, .slice none 0 0, .slice none 0 0] 26 (0, 0)) (by (with_reducible repeat (first | refine blk_drewN ?_ _ | refine blk_drew ?_ | refine blk_alloc ?_ _)); exact BK180.out) hb); have n2_ := Aside0.mk (below_step (by repeat (first | (with_reducible first | exact HB.out | apply below_alloc | apply pw_below_drewN | apply below_drew1 | refine below_set ?_ GE180.out) | exact HB.out)) hb); clear BK180; clear HB; have HO183 := n0_; have BK180 := n1_; have HB := n2_; clear n0_ n1_ n2_; clear hb ho4; obtain ⟨Ao5, co5, eo5⟩ := Kd.R_slice HO183.out; subst eo5) | ((with_reducible refine gate_callee (f := 71) rfl ?_); refine goesL_ (some 4) rfl rfl Tryd.func71 (by kernel_rfl) rfl #[.slice Ao5 y181.length co5] rfl (by (try simp only [List.map_toArray, List.map_cons, List.map_nil]); first | done | rfl | (simp only [List.length_drop, List.length_take]; rfl)) ?_; (with_reducible refine (macadamlaw07_book.calls (fun k_ => some k_ = (.slice Ao5 y181.length co5 : Value).ownBlock) (.slice Ao5 y181.length co5) y181 t184 t187 t190 w _ ?side1 ?side2 A1.out).mono ?_); (case side1 => repeat (first | (with_reducible first | exact HB.out | apply below_alloc | apply pw_below_drewN | apply below_drew1 | refine below_set ?_ GE180.out) | exact HB.out)); (case side2 => exact Kd.R_tight rfl HO183.out); rintro e w6 ⟨v185, v188, v191, rfl, ho0, ho1, ho2, hb, hkp⟩; refine ⟨_, rfl, ?_⟩; have n0_ := Aside0.mk (blk_kept (by (with_reducible repeat (first | refine blk_drewN ?_ _ | refine blk_drew ?_ | refine blk_alloc ?_ _)); exact BK180.out) hkp (fun hs_ => (fun e_ => (Kd.R_ne HO183.out BK180.out (by decide)) e_) hs_)); have n1_ := Aside0.mk (Kd.R_mono (ok' := fun k_ => True) ho0 (fun k_ hk_ => trivial)); have n2_ := Aside0.mk (Kd.R_mono (ok' := fun k_ => True) ho1 (fun k_ hk_ => trivial)); have n3_ := Aside0.mk (Kd.R_mono (ok' := fun k_ => True) ho2 (fun k_ hk_ => trivial)); have n4_ := Aside0.mk (hb); clear BK180; clear HB; clear HO183; have BK180 := n0_; have HO186 := n1_; have HO189 := n2_; have HO192 := n3_; have HB := n4_; clear n0_ n1_ n2_ n3_ n4_; (try clear hb); (try clear hkp); (try clear ho0); (try clear ho1); (try clear ho2); obtain ⟨Ao7, co7, eo7⟩ := Kd.R_slice HO186.out; subst eo7; have hcz8_0 : w6.cell? ⟨gb180, 0, none⟩ = some (.slice none 0 0) := (blk_cell BK180.out 0).trans rfl; have hcz8_1 : w6.cell? ⟨gb180, 1, none⟩ = some (.slice none 0 0) := (blk_cell BK180.out 1).trans rfl; have hcz8_2 : w6.cell? ⟨gb180, 2, none⟩ = some (.slice none 0 0) := (blk_cell BK180.out 2).trans rfl; have hfz8_0 := blk_frozen BK180.out 0; have hfz8_1 := blk_frozen BK180.out 1; have hfz8_2 := blk_frozen BK180.out 2; obtain ⟨Ao9, co9, eo9⟩ := Kd.R_slice HO189.out; subst eo9; obtain ⟨Ao10, co10, eo10⟩ := Kd.R_slice HO192.out; subst eo10))
  refine bodyPost_ret (results_cell_row rfl _ _ gb180 26 #[.slice Ao7 t184.length co7, .slice Ao9 t187.length co9, .slice Ao10 t190.length co10] (0, 0) _ rfl (by (with_reducible repeat (first | refine blk_drewN ?_ _ | refine blk_drew ?_ | refine blk_alloc ?_ _)); refine blk_put (cs := #[.slice Ao7 t184.length co7, .slice Ao9 t187.length co9, .slice none 0 0]) ?_ 2 _ rfl; (with_reducible repeat (first | refine blk_drewN ?_ _ | refine blk_drew ?_ | refine blk_alloc ?_ _)); refine blk_put (cs := #[.slice Ao7 t184.length co7, .slice none 0 0, .slice none 0 0]) ?_ 1 _ rfl; (with_reducible repeat (first | refine blk_drewN ?_ _ | refine blk_drew ?_ | refine blk_alloc ?_ _)); refine blk_put (cs := #[.slice none 0 0, .slice none 0 0, .slice none 0 0]) ?_ 0 _ rfl; (with_reducible repeat (first | refine blk_drewN ?_ _ | refine blk_drew ?_ | refine blk_alloc ?_ _)); exact BK180.out) Tryd.underlying26 rfl (by kernel_rfl)) rfl ?_
  exact ⟨_, _, _, by first | rfl | exact congrArg (fun b_ => Ending.returned (.bool b_)) HT.out | (simp [errW_none, errW_some] <;> rfl) | (simp [*, errW_none, errW_some] <;> rfl), by (with_reducible repeat (first | apply Kd.R_alloc | apply Kd.R_drewN | apply Kd.R_drew)); exact Kd.R_mono (Kd.R_far (p := ⟨gb180, 2, none⟩) (Kd.R_far (p := ⟨gb180, 1, none⟩) (Kd.R_far (p := ⟨gb180, 0, none⟩) (Kd.R_types HO186.out BK180.out (by decide)) (fun _ hk => hk.2) (.slice Ao7 t184.length co7)) (fun _ hk => hk.2) (.slice Ao9 t187.length co9)) (fun _ hk => hk.2) (.slice Ao10 t190.length co10)) (fun _ hk => trivial), by (with_reducible repeat (first | apply Kd.R_alloc | apply Kd.R_drewN | apply Kd.R_drew)); exact Kd.R_mono (Kd.R_far (p := ⟨gb180, 2, none⟩) (Kd.R_far (p := ⟨gb180, 1, none⟩) (Kd.R_far (p := ⟨gb180, 0, none⟩) (Kd.R_types HO189.out BK180.out (by decide)) (fun _ hk => hk.2) (.slice Ao7 t184.length co7)) (fun _ hk => hk.2) (.slice Ao9 t187.length co9)) (fun _ hk => hk.2) (.slice Ao10 t190.length co10)) (fun _ hk => trivial), by (with_reducible repeat (first | apply Kd.R_alloc | apply Kd.R_drewN | apply Kd.R_drew)); exact Kd.R_mono (Kd.R_far (p := ⟨gb180, 2, none⟩) (Kd.R_far (p := ⟨gb180, 1, none⟩) (Kd.R_far (p := ⟨gb180, 0, none⟩) (Kd.R_types HO192.out BK180.out (by decide)) (fun _ hk => hk.2) (.slice Ao7 t184.length co7)) (fun _ hk => hk.2) (.slice Ao9 t187.length co9)) (fun _ hk => hk.2) (.slice Ao10 t190.length co10)) (fun _ hk => trivial), by repeat (first | (with_reducible first | exact HB.out | apply below_alloc | apply pw_below_drewN | apply below_drew1 | refine below_set ?_ GE180.out) | exact HB.out)⟩
def macadamref00_Like.l0 : Nat → List Int → List Int → Bool → Int → Option (Bool)
  | 0, _, _, _, _ => none
  | k + 1, x0, x1, x5, x6 => if x5 = true then (if x6 < (x0.length : Int) then (if 0 ≤ x6 then (if x6 < (x1.length : Int) then (macadamref00_Like.l0 k x0 x1 ((rd x0 x6) == (rd x1 x6)) (wrap64 (x6 + 1))) else (none)) else (none)) else (some x5)) else (some x5)
def macadamref00_Like.f (k : Nat) (l0 : List Int) (l1 : List Int) : Option (Bool) := macadamref00_Like.l0 k l0 l1 ((l0.length : Int) == (l1.length : Int)) 0
set_option maxHeartbeats 8000000 in
set_option maxRecDepth 100000 in
theorem macadamref00_Like.calls (k : Nat) (A0 : Option Addr) (c0 : Nat) (l0 : List Int) (A1 : Option Addr) (c1 : Nat) (l1 : List Int) (r : Bool) (w : World) (hr0 : Kd.C (Kd.int .i64) w A0 l0.length l0) (hc0 : l0.length ≤ c0) (hr1 : Kd.C (Kd.int .i64) w A1 l1.length l1) (hc1 : l1.length ≤ c1) (h : macadamref00_Like.f k l0 l1 = some r) :
    Calls Tryd.prog 42 #[.slice A0 l0.length c0, .slice A1 l1.length c1] w fun e w' => e = .returned (.bool r) ∧ Drawn0 w w' := by
  have HR0 := Aside0.mk hr0
  have HC0 := Aside0.mk hc0
  clear hr0 hc0
  have HR1 := Aside0.mk hr1
  have HC1 := Aside0.mk hc1
  clear hr1 hc1
  have H : (macadamref00_Like.l0 k l0 l1 ((l0.length : Int) == (l1.length : Int)) 0) = some r := h
  clear h
  have H' := Aside0.mk H
  clear H
  go_enter Tryd.func42, Tryd.ntmps42
  go_wp2
  repeat (go_quiet (fail); try go_wp2)
  go_loopg [5, 6] k (fun kq v5 v6 w' => ∃ (x5_1 : Bool) (x6_1 : Int), v5 = .bool x5_1 ∧ v6 = .int .i64 x6_1 ∧ Aside0 (macadamref00_Like.l0 kq l0 l1 x5_1 x6_1 = some r) ∧ Aside0 (kq ≤ k) ∧ Drawn0 w w')
  case atStart => exact ⟨(((l0.length : Int) == (l1.length : Int))), (0), (by first | rfl | (simp; done) | (simp [*]; done)), (by first | rfl | (simp; done) | (simp [*]; done)), H', ⟨Nat.le_refl _⟩, by repeat (first | exact Drawn0.refl _ | apply Drawn0.step)⟩
  case round =>
    clear H'
    try clear c1
    try clear p2
    obtain ⟨x5_1, x6_1, rfl, rfl, HA, HK1, ⟨m1, rfl⟩⟩ := hrel
    cases gk with
    | zero => exact absurd HA.out (by simp [macadamref00_Like.l0])
    | succ k1 =>
      have H := HA.out
      clear HA
      simp only [macadamref00_Like.l0] at H
      by_cases c3 : x5_1 = true
      · subst c3
        have H1 : (if x6_1 < (l0.length : Int) then (if 0 ≤ x6_1 then (if x6_1 < (l1.length : Int) then (macadamref00_Like.l0 k1 l0 l1 ((rd l0 x6_1) == (rd l1 x6_1)) (wrap64 (x6_1 + 1))) else (none)) else (none)) else (some true)) = some r := by rw [if_pos rfl] at H; exact H
        clear H
        have H := H1
        clear H1
        by_cases c4 : x6_1 < (l0.length : Int)
        · rw [if_pos c4] at H
          have c4b0 : decide (x6_1 < (l0.length : Int)) = true := decide_eq_true c4
          clear c4
          by_cases c5 : 0 ≤ x6_1
          · rw [if_pos c5] at H
            have c5b0 : decide (0 ≤ x6_1) = true := decide_eq_true c5
            clear c5
            by_cases c6 : x6_1 < (l1.length : Int)
            · rw [if_pos c6] at H
              have c6b0 : decide (x6_1 < (l1.length : Int)) = true := decide_eq_true c6
              clear c6
              have H' := Aside0.mk H
              clear H
              have p193 : 0 ≤ (x6_1 : Int) := of_decide_eq_true (by first | (with_reducible assumption) | assumption)
              have q193 : x6_1 < (l0.length : Int) := of_decide_eq_true (by first | (with_reducible assumption) | assumption)
              obtain ⟨ad193, e193, hx193_0⟩ := Kd.at_int HR0.out x6_1 p193 q193
              cases e193
              replace p193 := eq_true p193
              replace q193 := eq_true q193
              have p194 : 0 ≤ (x6_1 : Int) := of_decide_eq_true (by first | (with_reducible assumption) | assumption)
              have q194 : x6_1 < (l1.length : Int) := of_decide_eq_true (by first | (with_reducible assumption) | assumption)
              obtain ⟨ad194, e194, hx194_0⟩ := Kd.at_int HR1.out x6_1 p194 q194
              cases e194
              replace p194 := eq_true p194
              replace q194 := eq_true q194
              go_wp2
              repeat (go_quiet (fail); try go_wp2)
              go_roundg k1
              case measure => have := HK1.out; omega
              case rel => exact ⟨(((rd l0 x6_1) == (rd l1 x6_1))), (wrap64 (x6_1 + 1)), (by first | rfl | (simp; done) | (simp [*]; done)), (by first | rfl | (simp; done) | (simp [*]; done)), H', ⟨by have := HK1.out; omega⟩, by repeat (first | exact Drawn0.refl _ | apply Drawn0.step)⟩
            · rw [if_neg c6] at H
              exact absurd H (by simp)
          · rw [if_neg c5] at H
            exact absurd H (by simp)
        · rw [if_neg c4] at H
          have c4b0 : decide (x6_1 < (l0.length : Int)) = false := decide_eq_false c4
          clear c4
          obtain rfl := Option.some.inj H
          go_wp2
          repeat (go_quiet (fail); try go_wp2)
          go_ret
          exact ⟨by first | rfl | (simp; done) | (simp [*]; done), by repeat (first | exact Drawn0.refl _ | apply Drawn0.step)⟩
      · replace c3 := Bool.eq_false_iff.mpr c3
        subst c3
        have H1 : (some false) = some r := by rw [if_neg (show ¬ (false = true) by decide)] at H; exact H
        clear H
        have H := H1
        clear H1
        obtain rfl := Option.some.inj H
        go_wp2
        repeat (go_quiet (fail); try go_wp2)
        go_ret
        exact ⟨by first | rfl | (simp; done) | (simp [*]; done), by repeat (first | exact Drawn0.refl _ | apply Drawn0.step)⟩
def macadamref00_Wrap.f (a0 : Int) (a1 : Int) : Option (Int) := if a1 ≤ 0 then (some 0) else (if a1 = 0 then (none) else (if (Int.tmod a0 a1) < 0 then (some (wrap64 ((Int.tmod a0 a1) + a1))) else (some (Int.tmod a0 a1))))
set_option maxHeartbeats 8000000 in
set_option maxRecDepth 100000 in
theorem macadamref00_Wrap.calls (a0 : Int) (a1 : Int) (r : Int) (w : World) (h : macadamref00_Wrap.f a0 a1 = some r) :
    Calls Tryd.prog 47 #[.int .i64 a0, .int .i64 a1] w fun e w' => e = .returned (.int .i64 r) ∧ Drawn0 w w' := by
  have H : (if a1 ≤ 0 then (some 0) else (if a1 = 0 then (none) else (if (Int.tmod a0 a1) < 0 then (some (wrap64 ((Int.tmod a0 a1) + a1))) else (some (Int.tmod a0 a1))))) = some r := h
  clear h
  by_cases c3 : a1 ≤ 0
  · rw [if_pos c3] at H
    have c3b0 : decide (a1 ≤ 0) = true := decide_eq_true c3
    clear c3
    obtain rfl := Option.some.inj H
    go_enter Tryd.func47, Tryd.ntmps47
    go_wp2
    go_ret
    exact ⟨by first | rfl | (simp; done) | (simp [*]; done), by repeat (first | exact Drawn0.refl _ | apply Drawn0.step)⟩
  · rw [if_neg c3] at H
    have c3b0 : decide (a1 ≤ 0) = false := decide_eq_false c3
    clear c3
    by_cases c4 : a1 = 0
    · rw [if_pos c4] at H
      exact absurd H (by simp)
    · rw [if_neg c4] at H
      have c4b0 : (a1 == 0) = false := beq_eq_false_iff_ne.mpr c4
      have c4b1 : (a1 != 0) = true := bne_iff_ne.mpr c4
      by_cases c5 : (Int.tmod a0 a1) < 0
      · rw [if_pos c5] at H
        have c5b0 : decide ((Int.tmod a0 a1) < 0) = true := decide_eq_true c5
        clear c5
        obtain rfl := Option.some.inj H
        go_enter Tryd.func47, Tryd.ntmps47
        go_wp2
        go_ret
        exact ⟨by first | rfl | (simp; done) | (simp [*]; done), by repeat (first | exact Drawn0.refl _ | apply Drawn0.step)⟩
      · rw [if_neg c5] at H
        have c5b0 : decide ((Int.tmod a0 a1) < 0) = false := decide_eq_false c5
        clear c5
        obtain rfl := Option.some.inj H
        go_enter Tryd.func47, Tryd.ntmps47
        go_wp2
        go_ret
        exact ⟨by first | rfl | (simp; done) | (simp [*]; done), by repeat (first | exact Drawn0.refl _ | apply Drawn0.step)⟩
def macadamref00_Amid.f (a0 : Int) (a1 : Int) (a2 : Int) : Option (Bool) := if a1 ≤ a0 then (some (decide (a0 ≤ a2))) else (some false)
set_option maxHeartbeats 8000000 in
set_option maxRecDepth 100000 in
theorem macadamref00_Amid.calls (a0 : Int) (a1 : Int) (a2 : Int) (r : Bool) (w : World) (h : macadamref00_Amid.f a0 a1 a2 = some r) :
    Calls Tryd.prog 60 #[.int .i64 a0, .int .i64 a1, .int .i64 a2] w fun e w' => e = .returned (.bool r) ∧ Drawn0 w w' := by
  have H : (if a1 ≤ a0 then (some (decide (a0 ≤ a2))) else (some false)) = some r := h
  clear h
  by_cases c4 : a1 ≤ a0
  · rw [if_pos c4] at H
    have c4b0 : decide (a1 ≤ a0) = true := decide_eq_true c4
    clear c4
    obtain rfl := Option.some.inj H
    go_enter Tryd.func60, Tryd.ntmps60
    go_wp2
    go_ret
    exact ⟨by first | rfl | (simp; done) | (simp [*]; done), by repeat (first | exact Drawn0.refl _ | apply Drawn0.step)⟩
  · rw [if_neg c4] at H
    have c4b0 : decide (a1 ≤ a0) = false := decide_eq_false c4
    clear c4
    obtain rfl := Option.some.inj H
    go_enter Tryd.func60, Tryd.ntmps60
    go_wp2
    go_ret
    exact ⟨by first | rfl | (simp; done) | (simp [*]; done), by repeat (first | exact Drawn0.refl _ | apply Drawn0.step)⟩
def macadamref00_Sane.f (a0_0 : Int) (a0_1 : Int) (a1 : Int) (a2 : Int) (a3 : Int) : Option (Bool) := if a1 ≤ a0_0 then (if a0_0 ≤ a0_1 then (if a0_1 ≤ a2 then (some (decide ((wrap64 (a0_1 - a0_0)) ≤ a3))) else (some false)) else (some false)) else (some false)
set_option maxHeartbeats 8000000 in
set_option maxRecDepth 100000 in
theorem macadamref00_Sane.calls (a0_0 : Int) (a0_1 : Int) (a1 : Int) (a2 : Int) (a3 : Int) (r : Bool) (w : World) (h : macadamref00_Sane.f a0_0 a0_1 a1 a2 a3 = some r) :
    Calls Tryd.prog 62 #[.agg #[.int .i64 a0_0, .int .i64 a0_1], .int .i64 a1, .int .i64 a2, .int .i64 a3] w fun e w' => e = .returned (.bool r) ∧ Below w.heap.size w w' := by
  have hu32 := Tryd.underlying32
  have HB := Aside0.mk (Below.refl w.heap.size w)
  have H : (if a1 ≤ a0_0 then (if a0_0 ≤ a0_1 then (if a0_1 ≤ a2 then (some (decide ((wrap64 (a0_1 - a0_0)) ≤ a3))) else (some false)) else (some false)) else (some false)) = some r := h
  clear h
  by_cases c5 : a1 ≤ a0_0
  · rw [if_pos c5] at H
    have c5b0 : decide (a1 ≤ a0_0) = true := decide_eq_true c5
    clear c5
    by_cases c6 : a0_0 ≤ a0_1
    · rw [if_pos c6] at H
      have c6b0 : decide (a0_0 ≤ a0_1) = true := decide_eq_true c6
      clear c6
      by_cases c7 : a0_1 ≤ a2
      · rw [if_pos c7] at H
        have c7b0 : decide (a0_1 ≤ a2) = true := decide_eq_true c7
        clear c7
        obtain rfl := Option.some.inj H
        go_enter Tryd.func62, Tryd.ntmps62
        go_wp2_with (first | ((with_reducible refine gate_dst (N := 4) rfl ?_); refine box_event ?hg (N := 4) ?hd (cs := #[.int .i64 a0_0, .int .i64 a0_1]) (t := 32) ?hr ?_; (case hd => rfl); (case hg => rfl); (case hr => first | (go_simp; done) | (go_simp; rfl)); intro gb195 hg w8 hbox hb; have n0_ := Aside0.mk (below_step (by repeat (first | (with_reducible first | exact HB.out | apply below_alloc | apply pw_below_drewN | apply below_drew1) | exact HB.out)) hb); have n1_ := Aside0.mk (hbox); have n2_ := Aside0.mk ((by rw [hg]; exact (below_size (by repeat (first | (with_reducible first | exact HB.out | apply below_alloc | apply pw_below_drewN | apply below_drew1) | exact HB.out))) : w.heap.size ≤ gb195)); have n3_ := Aside0.mk ((by rw [hg]; exact (below_size (by repeat (first | (with_reducible first | exact HB.out | apply below_alloc | apply pw_below_drewN | apply below_drew1) | exact HB.out))) : w.heap.size ≤ gb195)); clear HB; have HB := n0_; have BK195 := n1_; have GW195 := n2_; have GE195 := n3_; clear n0_ n1_ n2_ n3_; clear hb hbox hg; have hcz9_0 : w8.cell? ⟨gb195, 0, none⟩ = some (.int .i64 a0_0) := (blk_cell BK195.out 0).trans rfl; have hcz9_1 : w8.cell? ⟨gb195, 1, none⟩ = some (.int .i64 a0_1) := (blk_cell BK195.out 1).trans rfl; have hfz9_0 := blk_frozen BK195.out 0; have hfz9_1 := blk_frozen BK195.out 1))
        go_ret
        exact ⟨by first | rfl | exact congrArg (fun b_ => Ending.returned (.bool b_)) HT.out | (simp [errW_none, errW_some] <;> rfl) | (simp [*, errW_none, errW_some] <;> rfl), by repeat (first | (with_reducible first | exact HB.out | apply below_alloc | apply pw_below_drewN | apply below_drew1 | refine below_set ?_ GE195.out) | exact HB.out)⟩
      · rw [if_neg c7] at H
        have c7b0 : decide (a0_1 ≤ a2) = false := decide_eq_false c7
        clear c7
        obtain rfl := Option.some.inj H
        go_enter Tryd.func62, Tryd.ntmps62
        go_wp2_with (first | ((with_reducible refine gate_dst (N := 4) rfl ?_); refine box_event ?hg (N := 4) ?hd (cs := #[.int .i64 a0_0, .int .i64 a0_1]) (t := 32) ?hr ?_; (case hd => rfl); (case hg => rfl); (case hr => first | (go_simp; done) | (go_simp; rfl)); intro gb195 hg w10 hbox hb; have n0_ := Aside0.mk (below_step (by repeat (first | (with_reducible first | exact HB.out | apply below_alloc | apply pw_below_drewN | apply below_drew1) | exact HB.out)) hb); have n1_ := Aside0.mk (hbox); have n2_ := Aside0.mk ((by rw [hg]; exact (below_size (by repeat (first | (with_reducible first | exact HB.out | apply below_alloc | apply pw_below_drewN | apply below_drew1) | exact HB.out))) : w.heap.size ≤ gb195)); have n3_ := Aside0.mk ((by rw [hg]; exact (below_size (by repeat (first | (with_reducible first | exact HB.out | apply below_alloc | apply pw_below_drewN | apply below_drew1) | exact HB.out))) : w.heap.size ≤ gb195)); clear HB; have HB := n0_; have BK195 := n1_; have GW195 := n2_; have GE195 := n3_; clear n0_ n1_ n2_ n3_; clear hb hbox hg; have hcz11_0 : w10.cell? ⟨gb195, 0, none⟩ = some (.int .i64 a0_0) := (blk_cell BK195.out 0).trans rfl; have hcz11_1 : w10.cell? ⟨gb195, 1, none⟩ = some (.int .i64 a0_1) := (blk_cell BK195.out 1).trans rfl; have hfz11_0 := blk_frozen BK195.out 0; have hfz11_1 := blk_frozen BK195.out 1))
        go_ret
        exact ⟨by first | rfl | exact congrArg (fun b_ => Ending.returned (.bool b_)) HT.out | (simp [errW_none, errW_some] <;> rfl) | (simp [*, errW_none, errW_some] <;> rfl), by repeat (first | (with_reducible first | exact HB.out | apply below_alloc | apply pw_below_drewN | apply below_drew1 | refine below_set ?_ GE195.out) | exact HB.out)⟩
    · rw [if_neg c6] at H
      have c6b0 : decide (a0_0 ≤ a0_1) = false := decide_eq_false c6
      clear c6
      obtain rfl := Option.some.inj H
      go_enter Tryd.func62, Tryd.ntmps62
      go_wp2_with (first | ((with_reducible refine gate_dst (N := 4) rfl ?_); refine box_event ?hg (N := 4) ?hd (cs := #[.int .i64 a0_0, .int .i64 a0_1]) (t := 32) ?hr ?_; (case hd => rfl); (case hg => rfl); (case hr => first | (go_simp; done) | (go_simp; rfl)); intro gb195 hg w12 hbox hb; have n0_ := Aside0.mk (below_step (by repeat (first | (with_reducible first | exact HB.out | apply below_alloc | apply pw_below_drewN | apply below_drew1) | exact HB.out)) hb); have n1_ := Aside0.mk (hbox); have n2_ := Aside0.mk ((by rw [hg]; exact (below_size (by repeat (first | (with_reducible first | exact HB.out | apply below_alloc | apply pw_below_drewN | apply below_drew1) | exact HB.out))) : w.heap.size ≤ gb195)); have n3_ := Aside0.mk ((by rw [hg]; exact (below_size (by repeat (first | (with_reducible first | exact HB.out | apply below_alloc | apply pw_below_drewN | apply below_drew1) | exact HB.out))) : w.heap.size ≤ gb195)); clear HB; have HB := n0_; have BK195 := n1_; have GW195 := n2_; have GE195 := n3_; clear n0_ n1_ n2_ n3_; clear hb hbox hg; have hcz13_0 : w12.cell? ⟨gb195, 0, none⟩ = some (.int .i64 a0_0) := (blk_cell BK195.out 0).trans rfl; have hcz13_1 : w12.cell? ⟨gb195, 1, none⟩ = some (.int .i64 a0_1) := (blk_cell BK195.out 1).trans rfl; have hfz13_0 := blk_frozen BK195.out 0; have hfz13_1 := blk_frozen BK195.out 1))
      go_ret
      exact ⟨by first | rfl | exact congrArg (fun b_ => Ending.returned (.bool b_)) HT.out | (simp [errW_none, errW_some] <;> rfl) | (simp [*, errW_none, errW_some] <;> rfl), by repeat (first | (with_reducible first | exact HB.out | apply below_alloc | apply pw_below_drewN | apply below_drew1 | refine below_set ?_ GE195.out) | exact HB.out)⟩
  · rw [if_neg c5] at H
    have c5b0 : decide (a1 ≤ a0_0) = false := decide_eq_false c5
    clear c5
    obtain rfl := Option.some.inj H
    go_enter Tryd.func62, Tryd.ntmps62
    go_wp2_with (first | ((with_reducible refine gate_dst (N := 4) rfl ?_); refine box_event ?hg (N := 4) ?hd (cs := #[.int .i64 a0_0, .int .i64 a0_1]) (t := 32) ?hr ?_; (case hd => rfl); (case hg => rfl); (case hr => first | (go_simp; done) | (go_simp; rfl)); intro gb195 hg w14 hbox hb; have n0_ := Aside0.mk (below_step (by repeat (first | (with_reducible first | exact HB.out | apply below_alloc | apply pw_below_drewN | apply below_drew1) | exact HB.out)) hb); have n1_ := Aside0.mk (hbox); have n2_ := Aside0.mk ((by rw [hg]; exact (below_size (by repeat (first | (with_reducible first | exact HB.out | apply below_alloc | apply pw_below_drewN | apply below_drew1) | exact HB.out))) : w.heap.size ≤ gb195)); have n3_ := Aside0.mk ((by rw [hg]; exact (below_size (by repeat (first | (with_reducible first | exact HB.out | apply below_alloc | apply pw_below_drewN | apply below_drew1) | exact HB.out))) : w.heap.size ≤ gb195)); clear HB; have HB := n0_; have BK195 := n1_; have GW195 := n2_; have GE195 := n3_; clear n0_ n1_ n2_ n3_; clear hb hbox hg; have hcz15_0 : w14.cell? ⟨gb195, 0, none⟩ = some (.int .i64 a0_0) := (blk_cell BK195.out 0).trans rfl; have hcz15_1 : w14.cell? ⟨gb195, 1, none⟩ = some (.int .i64 a0_1) := (blk_cell BK195.out 1).trans rfl; have hfz15_0 := blk_frozen BK195.out 0; have hfz15_1 := blk_frozen BK195.out 1))
    go_ret
    exact ⟨by first | rfl | exact congrArg (fun b_ => Ending.returned (.bool b_)) HT.out | (simp [errW_none, errW_some] <;> rfl) | (simp [*, errW_none, errW_some] <;> rfl), by repeat (first | (with_reducible first | exact HB.out | apply below_alloc | apply pw_below_drewN | apply below_drew1 | refine below_set ?_ GE195.out) | exact HB.out)⟩
end Go.Proofs.YthgjedagbgmgmaaDoor.Pr
namespace Go.Proofs.YthgjedagbgmgmaaDoor.Pr
open Go.RowKit Go.Proofs.YthgjedagbgmgmaaDoorW.PrintWords Go.Proofs.YthgjedagbgmgmaaDoorW.PrintLast Go.Proofs.YthgjedagbgmgmaaDoorW.PrintMore
set_option linter.unusedVariables false
set_option linter.unusedSimpArgs false
def ownL : List S92 := [⟨5, 4⟩, ⟨4, 3⟩]
def ownD : List S90 := [⟨⟨3, 4⟩, 2⟩, ⟨⟨2, 3⟩, 3⟩, ⟨⟨3, 3⟩, 6⟩, ⟨⟨4, 4⟩, 2⟩]
def ownK : List S43 := []
def earlyK : List S43 := [⟨1, 1⟩]
def lateK : List S43 := [⟨2, 0⟩]
def tornK : List S43 := [⟨1, 1⟩, ⟨2, 0⟩]
/-- A book lies in memory. -/
structure BookAt (W : World) (A0 A1 A2 : Option Addr) (c0 c1 c2 : Nat) (l0 : List S92) (l1 : List S90) (l2 : List S43) : Prop where
  r0 : Kd.C k92 W A0 l0.length l0
  c0 : l0.length ≤ c0
  r1 : Kd.C k90 W A1 l1.length l1
  c1 : l1.length ≤ c1
  r2 : Kd.C k43 W A2 l2.length l2
  c2 : l2.length ≤ c2
theorem BookAt.below {W W' : World} {A0 A1 A2 : Option Addr} {c0 c1 c2 : Nat} {l0 : List S92} {l1 : List S90} {l2 : List S43} (h : BookAt W A0 A1 A2 c0 c1 c2 l0 l1 l2) (hb : Below W.heap.size W W') : BookAt W' A0 A1 A2 c0 c1 c2 l0 l1 l2 :=
  ⟨Kd.C_below h.r0 hb, h.c0, Kd.C_below h.r1 hb, h.c1, Kd.C_below h.r2 hb, h.c2⟩
theorem book_of {W : World} {base : Nat} {p0 p1 p2 : Nat → Prop} {v0 v1 v2 : Value} {l0 : List S92} {l1 : List S90} {l2 : List S43} (h0 : Kd.R k92 92 W base p0 v0 l0) (h1 : Kd.R k90 90 W base p1 v1 l1) (h2 : Kd.R k43 43 W base p2 v2 l2) :
    ∃ A0 A1 A2 c0 c1 c2, v0 = .slice A0 l0.length c0 ∧ v1 = .slice A1 l1.length c1 ∧ v2 = .slice A2 l2.length c2 ∧ BookAt W A0 A1 A2 c0 c1 c2 l0 l1 l2 := by
  obtain ⟨A0, c0, rfl⟩ := Kd.R_slice h0
  obtain ⟨A1, c1, rfl⟩ := Kd.R_slice h1
  obtain ⟨A2, c2, rfl⟩ := Kd.R_slice h2
  obtain ⟨_, a2, a3⟩ := Kd.R_reads' h0
  obtain ⟨_, b2, b3⟩ := Kd.R_reads' h1
  obtain ⟨_, d2, d3⟩ := Kd.R_reads' h2
  exact ⟨A0, A1, A2, c0, c1, c2, rfl, rfl, rfl, a3, a2, b3, b2, d3, d2⟩
theorem ownB_calls (w : World) : Calls Tryd.prog 70 #[] w fun e w' => ∃ A0 A1 A2 c0 c1 c2, e = .returned (.agg #[.slice A0 2 c0, .slice A1 4 c1, .slice A2 0 c2]) ∧ BookAt w' A0 A1 A2 c0 c1 c2 ownL ownD ownK ∧ Below w.heap.size w w' :=
  (macadamlaw07_own.calls ownL ownD ownK w (by rfl)).mono (by
    rintro e w' ⟨v0, v1, v2, rfl, h0, h1, h2, hb⟩
    obtain ⟨A0, A1, A2, c0, c1, c2, rfl, rfl, rfl, hk⟩ := book_of h0 h1 h2
    exact ⟨A0, A1, A2, c0, c1, c2, rfl, hk, hb⟩)
theorem earlyB_calls (w : World) : Calls Tryd.prog 74 #[] w fun e w' => ∃ A0 A1 A2 c0 c1 c2, e = .returned (.agg #[.slice A0 2 c0, .slice A1 4 c1, .slice A2 1 c2]) ∧ BookAt w' A0 A1 A2 c0 c1 c2 ownL ownD earlyK ∧ Below w.heap.size w w' :=
  (macadamlaw07_early.calls ownL ownD earlyK w (by rfl)).mono (by
    rintro e w' ⟨v0, v1, v2, rfl, h0, h1, h2, hb⟩
    obtain ⟨A0, A1, A2, c0, c1, c2, rfl, rfl, rfl, hk⟩ := book_of h0 h1 h2
    exact ⟨A0, A1, A2, c0, c1, c2, rfl, hk, hb⟩)
theorem lateB_calls (w : World) : Calls Tryd.prog 73 #[] w fun e w' => ∃ A0 A1 A2 c0 c1 c2, e = .returned (.agg #[.slice A0 2 c0, .slice A1 4 c1, .slice A2 1 c2]) ∧ BookAt w' A0 A1 A2 c0 c1 c2 ownL ownD lateK ∧ Below w.heap.size w w' :=
  (macadamlaw07_late.calls ownL ownD lateK w (by rfl)).mono (by
    rintro e w' ⟨v0, v1, v2, rfl, h0, h1, h2, hb⟩
    obtain ⟨A0, A1, A2, c0, c1, c2, rfl, rfl, rfl, hk⟩ := book_of h0 h1 h2
    exact ⟨A0, A1, A2, c0, c1, c2, rfl, hk, hb⟩)
theorem tornB_calls (w : World) : Calls Tryd.prog 72 #[] w fun e w' => ∃ A0 A1 A2 c0 c1 c2, e = .returned (.agg #[.slice A0 2 c0, .slice A1 4 c1, .slice A2 2 c2]) ∧ BookAt w' A0 A1 A2 c0 c1 c2 ownL ownD tornK ∧ Below w.heap.size w w' :=
  (macadamlaw07_torn.calls ownL ownD tornK w (by rfl)).mono (by
    rintro e w' ⟨v0, v1, v2, rfl, h0, h1, h2, hb⟩
    obtain ⟨A0, A1, A2, c0, c1, c2, rfl, rfl, rfl, hk⟩ := book_of h0 h1 h2
    exact ⟨A0, A1, A2, c0, c1, c2, rfl, hk, hb⟩)
theorem ev0 : boundF ownL ownD ownK 3 = (0, 2, 0) := by decide +kernel
theorem ev1 : laidF ownL ownD ownK = (7, 10, 0) := by decide +kernel
theorem ev2 : skyF ownL ownD lateK 2 = (4, 0) := by decide +kernel
theorem ev3 : doneF ownL ownD earlyK = (3, 0) := by decide +kernel
theorem ev4 : waterF ownL ownD ownK = (1, 0) := by decide +kernel
theorem ev5 : lostF ownL ownD earlyK = (0, 3, 0) := by decide +kernel
theorem ev6 : wagonsF ownL ownD ownK 1 = (2, 3, 0) := by decide +kernel
theorem ev7 : perhapsF ownL ownD ownK = (3, 0) := by decide +kernel
theorem ev8 : fitsF ownL ownD ownK ⟨3, 0⟩ = (true, 0) := by decide +kernel
theorem ev9 : wrongF ownL ownD tornK = ([0], 0) := by decide +kernel
theorem ev10 : rightF ownL ownD ownK = (true, 0) := by decide +kernel
end Go.Proofs.YthgjedagbgmgmaaDoor.Pr
namespace Go.Proofs.YthgjedagbgmgmaaDoor.Pr
open Go.ChangeShapes Go.WideShapes Go.ChangeAt Go.RowKit Go.Joins Go.Deep
open Go.Proofs.YthgjedagbgmgmaaDoorW.PrintWords Go.Proofs.YthgjedagbgmgmaaDoorW.PrintLast Go.Proofs.YthgjedagbgmgmaaDoorW.PrintMore
set_option linter.unusedVariables false
set_option linter.unusedSimpArgs false
theorem own : ownKnob Tryd.prog.godebug = none := by kernel_rfl
theorem laidOut : laidOutB Tryd.prog = true := by kernel_rfl
theorem gBegin : Tryd.prog.globalNamed "macadam/roll.begin" = some 0 := by kernel_rfl
theorem gSkies : Tryd.prog.globalNamed "macadam/roll.skies" = some 3 := by kernel_rfl
theorem tBegin : (Tryd.prog.globals[0]?).map (·.type) = some 116 := by kernel_rfl
theorem tSkies : (Tryd.prog.globals[3]?).map (·.type) = some 217 := by kernel_rfl
theorem cells2 : Tryd.prog.cellsOf 3 = 1 ∧ Tryd.prog.cellsOf 116 = 2 ∧ Tryd.prog.cellsOf 216 = 1 ∧ Tryd.prog.cellsOf 217 = 3 ∧ Tryd.prog.cellsOf 92 = 2 ∧ Tryd.prog.cellsOf 43 = 2 ∧ Tryd.prog.cellsOf 90 = 3 ∧ Tryd.prog.cellsOf 32 = 2 := by
  refine ⟨?_, ?_, ?_, ?_, ?_, ?_, ?_, ?_⟩ <;> kernel_rfl
def rollLaid : List (String × DataW Unit) := [("macadam/roll.begin", Rows.laid_macadam_roll_begin), ("macadam/roll.skies", Rows.laid_macadam_roll_skies)]
/-- What the rows' list gives. -/
theorem gok_of_laid {W : World} (h : laidMetH Tryd.prog rollLaid W) : GOK W := by
  have hd := (laidMetH_iff.1 h).1
  obtain ⟨g, t, cs, fuel, p, hg, ht, hv, htr⟩ := Go.Lib.laidMet.reads hd (n := "macadam/roll.begin") (d := Rows.laid_macadam_roll_begin) (by simp [rollLaid, Rows.laid_macadam_roll_begin, Rows.laid_macadam_roll_skies, DataW.handleName?])
  obtain rfl := Option.some.inj (gBegin.symm.trans hg)
  obtain rfl := Option.some.inj (tBegin.symm.trans ht)
  obtain ⟨y0, y1, n, hx, hl, h0, h1⟩ := trod_struct2 Tryd.underlying116 htr
  have hcs : cs.toList = [.int .i64 0, .int .i64 (-1)] := by
    rw [cells2.2.1] at hl
    rw [cells2.1] at h0 h1
    obtain ⟨a, ha, ea, _⟩ := DataW.trod_int Tryd.underlying3 h0
    obtain ⟨b, hb, eb, _⟩ := DataW.trod_int Tryd.underlying3 h1
    have hx1 := congrArg Prod.fst hx
    simp only [Rows.laid_macadam_roll_begin, ea, eb] at hx1
    injection hx1 with hx1
    injection hx1 with e0 hx1
    injection hx1 with e1 _
    injection e0 with e0
    injection e0 with _ e0
    injection e1 with e1
    injection e1 with _ e1
    subst e0
    subst e1
    match hm : cs.toList, hl with
    | [c0, c1], _ =>
      rw [hm] at ha hb
      simp at ha hb
      rw [ha, hb]
  obtain ⟨g, t, cs3, fuel, p, hg3, ht3, hv3, htr3⟩ := h.funcs (n := "macadam/roll.skies") (List.mem_cons_of_mem _ (List.mem_singleton.2 rfl))
  obtain rfl := Option.some.inj (gSkies.symm.trans hg3)
  obtain rfl := Option.some.inj (tSkies.symm.trans ht3)
  obtain ⟨xs, m, _, hx3, hl3, hxl, hall⟩ := DataW.trod_array Tryd.underlying217 htr3
  rw [cells2.2.2.2.1] at hl3
  have hfs : cs3.toList = [.func (.func 198) #[] #[], .func (.func 193) #[] #[], .func (.func 199) #[] #[]] := by
    rw [cells2.2.2.1] at hall
    match hm : cs3.toList, hl3, hxs : xs, hxl with
    | [c0, c1, c2], _, [x0, x1, x2], _ =>
      rw [hm] at hall
      have a0 := hall 0 (by omega)
      have a1 := hall 1 (by omega)
      have a2 := hall 2 (by omega)
      simp at a0 a1 a2
      have hf := congrArg Prod.fst hx3
      simp only [List.map_cons, List.map_nil] at hf
      have hf' : (DataW.agg [DataW.held [40, 109, 97, 99, 97, 100, 97, 109, 47, 114, 111, 108, 108, 46, 115, 116, 97, 116, 101, 41, 46, 100, 114, 121], DataW.held [40, 109, 97, 99, 97, 100, 97, 109, 47, 114, 111, 108, 108, 46, 115, 116, 97, 116, 101, 41, 46, 100, 97, 109, 112], DataW.held [40, 109, 97, 99, 97, 100, 97, 109, 47, 114, 111, 108, 108, 46, 115, 116, 97, 116, 101, 41, 46, 119, 101, 116]] : DataW (List UInt8)) = DataW.agg [x0.1, x1.1, x2.1] := hf
      injection hf' with hf'
      injection hf' with e0 hf'
      injection hf' with e1 hf'
      injection hf' with e2 _
      obtain ⟨d0, q0⟩ := x0
      obtain ⟨d1, q1⟩ := x1
      obtain ⟨d2, q2⟩ := x2
      simp only at e0 e1 e2
      subst e0
      subst e1
      subst e2
      rw [func_of_trod (f0 := 198) Tryd.underlying216 (by kernel_rfl) a0, func_of_trod (f0 := 193) Tryd.underlying216 (by kernel_rfl) a1, func_of_trod (f0 := 199) Tryd.underlying216 (by kernel_rfl) a2]
  have c0 := World.var?_cell hg hv
  have c3 := World.var?_cell hg3 hv3
  have e0 : cs = #[.int .i64 0, .int .i64 (-1)] := by rw [← Array.toList_inj]; exact hcs
  have e3 : cs3 = #[.func (.func 198) #[] #[], .func (.func 193) #[] #[], .func (.func 199) #[] #[]] := by rw [← Array.toList_inj]; exact hfs
  subst e0
  subst e3
  have s0 := c3 0
  exact ⟨World.block_lt_of_cell? W ⟨3, 0, none⟩ (c3 0), c0 0, c0 1, c3 0, c3 1, c3 2⟩
section
variable {H : Type} {enc : TypeId × Value → H} {w : World} {base : Nat} {spare : Nat → Bool} {held : Bool}
theorem cells_at {P : Program} {b n : Nat} {a : Addr} {cs : List Value} (h : w.cells? b a n = some cs) : cs.length = n ∧ ∀ j, j < n → w.cell? (a.add j) = cs[j]? := by
  obtain ⟨_, hl, hat⟩ := World.cells?_some h
  exact ⟨hl, hat⟩
theorem elem92 {fuel : Nat} {cs : List Value} {y : DataW H × List MemPlace} (h : DataW.trod enc Tryd.prog w base spare held fuel 92 cs = some y) : ∃ x : S92, cs = e92 x := by
  obtain ⟨y0, y1, n, hx, hl, h0, h1⟩ := trod_struct2 Tryd.underlying92 h
  rw [cells2.2.2.2.2.1] at hl
  rw [cells2.1] at h0 h1
  obtain ⟨a, ha, _, _⟩ := DataW.trod_int Tryd.underlying3 h0
  obtain ⟨b, hb, _, _⟩ := DataW.trod_int Tryd.underlying3 h1
  match cs, hl with
  | [c0, c1], _ =>
    simp at ha hb
    exact ⟨⟨a, b⟩, by rw [ha, hb]; rfl⟩
theorem elem43 {fuel : Nat} {cs : List Value} {y : DataW H × List MemPlace} (h : DataW.trod enc Tryd.prog w base spare held fuel 43 cs = some y) : ∃ x : S43, cs = e43 x := by
  obtain ⟨y0, y1, n, hx, hl, h0, h1⟩ := trod_struct2 Tryd.underlying43 h
  rw [cells2.2.2.2.2.2.1] at hl
  rw [cells2.1] at h0 h1
  obtain ⟨a, ha, _, _⟩ := DataW.trod_int Tryd.underlying3 h0
  obtain ⟨b, hb, _, _⟩ := DataW.trod_int Tryd.underlying3 h1
  match cs, hl with
  | [c0, c1], _ =>
    simp at ha hb
    exact ⟨⟨a, b⟩, by rw [ha, hb]; rfl⟩
set_option maxRecDepth 100000 in
theorem elem90 {fuel : Nat} {cs : List Value} {y : DataW H × List MemPlace} (h : DataW.trod enc Tryd.prog w base spare held fuel 90 cs = some y) : ∃ x : S90, cs = e90 x := by
  obtain ⟨y0, y1, n, hx, hl, h0, h1⟩ := trod_struct2 Tryd.underlying90 h
  rw [cells2.2.2.2.2.2.2.1] at hl
  obtain ⟨b, hb, _, _⟩ := DataW.trod_int Tryd.underlying3 h1
  obtain ⟨z0, z1, n, hz, hlz, g0, g1⟩ := trod_struct2 Tryd.underlying32 h0
  rw [cells2.1] at g0 g1
  obtain ⟨a, ha, _, _⟩ := DataW.trod_int Tryd.underlying3 g0
  obtain ⟨d, hd, _, _⟩ := DataW.trod_int Tryd.underlying3 g1
  match cs, hl with
  | [c0, c1, c2], _ =>
    simp [cells2.2.2.2.2.2.2.2, cells2.1] at ha hb hd
    exact ⟨⟨⟨a, d⟩, b⟩, by rw [ha, hb, hd]; rfl⟩
/-- A slice of elements that came in, as a row. -/
theorem open_rowOf {α : Type} {d : Kd α} {enc' : α → List Value} {t e sz : Nat} {v : Value} {y : DataW H × List MemPlace} {n : Nat} (ht : Tryd.prog.underlying t = some (.slice e)) (hsz : Tryd.prog.cellsOf e = sz) (hd : d.sz = sz) (hl : ∀ x, (enc' x).length = sz) (hK : ∀ x, d.K w x (enc' x))
    (he : ∀ {fuel : Nat} {cs : List Value} {y : DataW H × List MemPlace}, DataW.trod enc Tryd.prog w base spare held fuel e cs = some y → ∃ x : α, cs = enc' x) (h : DataW.trod enc Tryd.prog w base spare held n t [v] = some y) :
    ∃ A l c, v = .slice A l.length c ∧ Kd.C d w A l.length l ∧ l.length ≤ c := by
  rcases open_slice ht h with ⟨hcs, _⟩ | ⟨a, len, cap, m, n', D, Pl, hcs, hb, hl1, hm, hmm, hx, hi⟩
  · injection hcs with hcs
    exact ⟨none, [], 0, hcs, ⟨rfl, by simp, fun h => by simp at h⟩, Nat.le_refl _⟩
  · injection hcs with hcs
    subst hcs
    have hml : len ≤ m := by
      rw [hmm]
      split <;> omega
    have hel : ∀ i, i < len → ∃ x : α, ∀ j, j < sz → w.cell? ((a.add (i * sz)).add j) = (enc' x)[j]? := by
      intro i hil
      obtain ⟨cs', hc, htr⟩ := hi i (by omega)
      obtain ⟨x, rfl⟩ := he htr
      rw [hsz] at hc
      exact ⟨x, (cells_at (P := Tryd.prog) hc).2⟩
    obtain ⟨l, hll, hat⟩ : ∃ l : List α, l.length = len ∧ ∀ i (h : i < l.length), ∀ j, j < sz → w.cell? ((a.add (i * sz)).add j) = (enc' l[i])[j]? := by
      clear hi hx hmm hm hl1 h hml
      induction len with
      | zero => exact ⟨[], rfl, fun i h => by simp at h⟩
      | succ k ih =>
        obtain ⟨l, hl', hat⟩ := ih (fun i hi => hel i (by omega))
        obtain ⟨x, hx⟩ := hel k (by omega)
        refine ⟨l ++ [x], by simp [hl'], fun i h j hj => ?_⟩
        by_cases hik : i < l.length
        · rw [List.getElem_append_left hik]
          exact hat i hik j hj
        · have : i = l.length := by simp at h; omega
          subst this
          rw [List.getElem_append_right (Nat.le_refl _)]
          simp only [Nat.sub_self, List.getElem_singleton]
          rw [hl']
          exact hx j hj
    subst hll
    refine ⟨some a, l, cap, rfl, ⟨rfl, by unfold maxLen at hm; omega, fun hp => ⟨a, rfl, fun j p hj => ?_⟩⟩, hl1⟩
    have hjl : j < l.length := (List.getElem?_eq_some_iff.1 hj).1
    have hpe : l[j] = p := (List.getElem?_eq_some_iff.1 hj).2
    refine ⟨enc' p, by rw [hl, hd], hK p, fun i u hu => ?_⟩
    have hil : i < sz := by
      have := (List.getElem?_eq_some_iff.1 hu).1
      rwa [hl] at this
    rw [hd, ← Go.Deep.add_add, hat j hjl i hil, hpe]
    exact hu
set_option maxRecDepth 100000 in
theorem open_book {r : Reach} {b0 : Nat} {v : Value} {d : DataW H} {p : List MemPlace} (hv : Value.okWide Tryd.prog w r b0 26 v) (h : DataW.Trod enc Tryd.prog w base spare held 26 v d p) :
    ∃ A0 A1 A2 c0 c1 c2 l0 l1 l2, v = .agg #[.slice A0 (l0 : List S92).length c0, .slice A1 (l1 : List S90).length c1, .slice A2 (l2 : List S43).length c2] ∧ BookAt w A0 A1 A2 c0 c1 c2 l0 l1 l2 := by
  obtain ⟨v0, v1, v2, y0, y1, y2, n, rfl, _, _, h0, h1, h2⟩ := open_agg3 Tryd.underlying26 (by kernel_rfl) (by kernel_rfl) hv h
  obtain ⟨A0, l0, c0, rfl, r0, q0⟩ := open_rowOf (d := k92) (enc' := e92) Tryd.underlying22 cells2.2.2.2.2.1 rfl (fun _ => rfl) (fun x => k92_mk w x) (fun h => elem92 h) h0
  obtain ⟨A1, l1, c1, rfl, r1, q1⟩ := open_rowOf (d := k90) (enc' := e90) Tryd.underlying23 cells2.2.2.2.2.2.2.1 rfl (fun _ => rfl) (fun x => k90_mk w x) (fun h => elem90 h) h1
  obtain ⟨A2, l2, c2, rfl, r2, q2⟩ := open_rowOf (d := k43) (enc' := e43) Tryd.underlying24 cells2.2.2.2.2.2.1 rfl (fun _ => rfl) (fun x => k43_mk w x) (fun h => elem43 h) h2
  exact ⟨A0, A1, A2, c0, c1, c2, l0, l1, l2, rfl, r0, q0, r1, q1, r2, q2⟩
end
theorem door_met (os : Os) (args : Array Value) : laidMetH Tryd.prog rollLaid ((World.doorLaid Tryd.prog 600 os).forCall (fun _ _ => 0) ⟨#[], args, []⟩).memory :=
  laidMetH_of_parts3 (fuel := 8) (laidMet_of_run' 8 (by kernel_rfl) (by kernel_rfl)) (by kernel_rfl) (by kernel_rfl)
end Go.Proofs.YthgjedagbgmgmaaDoor.Pr
namespace Go.Proofs.YthgjedagbgmgmaaDoor.Pr
open Go.ChangeShapes Go.WideShapes Go.ChangeAt Go.RowKit Go.Joins Go.Deep
open Go.Proofs.YthgjedagbgmgmaaDoorW.PrintWords Go.Proofs.YthgjedagbgmgmaaDoorW.PrintLast Go.Proofs.YthgjedagbgmgmaaDoorW.PrintMore
set_option linter.unusedVariables false
set_option linter.unusedSimpArgs false
theorem elemI {H : Type} {enc : TypeId × Value → H} {w : World} {base : Nat} {spare : Nat → Bool} {held : Bool} {fuel : Nat} {cs : List Value} {y : DataW H × List MemPlace} (h : DataW.trod enc Tryd.prog w base spare held fuel 3 cs = some y) : ∃ x : Int, cs = eI x := by
  obtain ⟨a, ha, _, _⟩ := DataW.trod_int Tryd.underlying3 h
  exact ⟨a, ha⟩
set_option maxRecDepth 100000 in
theorem open_ints1 {H : Type} {enc : TypeId × Value → H} {w : World} {base : Nat} {spare : Nat → Bool} {held : Bool} {r : Reach} {b0 : Nat} {v : Value} {d : DataW H} {p : List MemPlace} (hv : Value.okWide Tryd.prog w r b0 45 v) (h : DataW.Trod enc Tryd.prog w base spare held 45 v d p) :
    ∃ A l c, v = .slice A (l : List Int).length c ∧ Kd.C (Kd.int .i64) w A l.length l ∧ l.length ≤ c := by
  obtain ⟨a, n, c, rfl⟩ := okWide_slice Tryd.underlying45 hv
  obtain ⟨fuel, hf⟩ := h
  have hf' : DataW.trod enc Tryd.prog w base spare held fuel 45 [.slice a n c] = some (d, p) := by simpa [Value.cells] using hf
  exact open_rowOf (d := Kd.int .i64) (enc' := eI) Tryd.underlying45 cells2.1 rfl (fun _ => rfl) (fun x => rfl) (fun h => elemI h) hf'
end Go.Proofs.YthgjedagbgmgmaaDoor.Pr
namespace Go.Proofs.YthgjedagbgmgmaaDoor.Pr
open Go.RowKit Go.Proofs.YthgjedagbgmgmaaDoorW.PrintWords Go.Proofs.YthgjedagbgmgmaaDoorW.PrintLast Go.Proofs.YthgjedagbgmgmaaDoorW.PrintMore
set_option linter.unusedVariables false
set_option linter.unusedSimpArgs false
theorem C_of_frow {w : World} {A : Option Addr} {xs : List Int} (h : FRow eI 1 w A xs) (hn : xs.length ≤ 1000) : Kd.C (Kd.int .i64) w A xs.length xs := by
  refine ⟨rfl, by omega, fun hp => ?_⟩
  rcases h with rfl | ⟨b, o, e, _, hc⟩
  · simp at hp
  · refine ⟨_, e, fun j p hj => ⟨eI p, rfl, rfl, fun i u hu => ?_⟩⟩
    rw [Addr.add_mid, ← Nat.add_assoc]
    exact hc j p hj i u hu
theorem rl0 (W : World) (A0 A1 A2 : Option Addr) (c0 c1 c2 : Nat) (hG : GOK W) (h : BookAt W A0 A1 A2 c0 c1 c2 ownL ownD ownK) : Calls Tryd.prog 21 #[.agg #[.slice A0 2 c0, .slice A1 4 c1, .slice A2 0 c2], .int .i64 3] W fun e w' => e = .returned (.tuple #[.agg #[.int .i64 0, .int .i64 2], .int .i64 0]) ∧ Below W.heap.size W w' := by
  have hc := bound_calls A0 A1 A2 c0 c1 c2 ownL ownD ownK W hG h.r0 h.c0 h.r1 h.c1 h.r2 h.c2 3
  rw [ev0] at hc
  exact hc
theorem rl1 (W : World) (A0 A1 A2 : Option Addr) (c0 c1 c2 : Nat) (hG : GOK W) (h : BookAt W A0 A1 A2 c0 c1 c2 ownL ownD ownK) : Calls Tryd.prog 30 #[.agg #[.slice A0 2 c0, .slice A1 4 c1, .slice A2 0 c2]] W fun e w' => e = .returned (.tuple #[.agg #[.int .i64 7, .int .i64 10], .int .i64 0]) ∧ Below W.heap.size W w' := by
  have hc := laid_calls A0 A1 A2 c0 c1 c2 ownL ownD ownK W hG h.r0 h.c0 h.r1 h.c1 h.r2 h.c2
  rw [ev1] at hc
  exact hc
theorem rl2 (W : World) (A0 A1 A2 : Option Addr) (c0 c1 c2 : Nat) (hG : GOK W) (h : BookAt W A0 A1 A2 c0 c1 c2 ownL ownD lateK) : Calls Tryd.prog 25 #[.agg #[.slice A0 2 c0, .slice A1 4 c1, .slice A2 1 c2], .int .i64 2] W fun e w' => e = .returned (.tuple #[.int .i64 4, .int .i64 0]) ∧ Below W.heap.size W w' := by
  have hc := sky_calls A0 A1 A2 c0 c1 c2 ownL ownD lateK W hG h.r0 h.c0 h.r1 h.c1 h.r2 h.c2 2
  rw [ev2] at hc
  exact hc
theorem rl3 (W : World) (A0 A1 A2 : Option Addr) (c0 c1 c2 : Nat) (hG : GOK W) (h : BookAt W A0 A1 A2 c0 c1 c2 ownL ownD earlyK) : Calls Tryd.prog 32 #[.agg #[.slice A0 2 c0, .slice A1 4 c1, .slice A2 1 c2]] W fun e w' => e = .returned (.tuple #[.int .i64 3, .int .i64 0]) ∧ Below W.heap.size W w' := by
  have hc := done_calls A0 A1 A2 c0 c1 c2 ownL ownD earlyK W hG h.r0 h.c0 h.r1 h.c1 h.r2 h.c2
  rw [ev3] at hc
  exact hc
theorem rl4 (W : World) (A0 A1 A2 : Option Addr) (c0 c1 c2 : Nat) (hG : GOK W) (h : BookAt W A0 A1 A2 c0 c1 c2 ownL ownD ownK) : Calls Tryd.prog 36 #[.agg #[.slice A0 2 c0, .slice A1 4 c1, .slice A2 0 c2]] W fun e w' => e = .returned (.tuple #[.int .i64 1, .int .i64 0]) ∧ Below W.heap.size W w' := by
  have hc := water_calls A0 A1 A2 c0 c1 c2 ownL ownD ownK W hG h.r0 h.c0 h.r1 h.c1 h.r2 h.c2
  rw [ev4] at hc
  exact hc
theorem rl5 (W : World) (A0 A1 A2 : Option Addr) (c0 c1 c2 : Nat) (hG : GOK W) (h : BookAt W A0 A1 A2 c0 c1 c2 ownL ownD earlyK) : Calls Tryd.prog 28 #[.agg #[.slice A0 2 c0, .slice A1 4 c1, .slice A2 1 c2]] W fun e w' => e = .returned (.tuple #[.agg #[.int .i64 0, .int .i64 3], .int .i64 0]) ∧ Below W.heap.size W w' := by
  have hc := lost_calls A0 A1 A2 c0 c1 c2 ownL ownD earlyK W hG h.r0 h.c0 h.r1 h.c1 h.r2 h.c2
  rw [ev5] at hc
  exact hc
theorem rl6 (W : World) (A0 A1 A2 : Option Addr) (c0 c1 c2 : Nat) (hG : GOK W) (h : BookAt W A0 A1 A2 c0 c1 c2 ownL ownD ownK) : Calls Tryd.prog 23 #[.agg #[.slice A0 2 c0, .slice A1 4 c1, .slice A2 0 c2], .int .i64 1] W fun e w' => e = .returned (.tuple #[.agg #[.int .i64 2, .int .i64 3], .int .i64 0]) ∧ Below W.heap.size W w' := by
  have hc := wagons_calls A0 A1 A2 c0 c1 c2 ownL ownD ownK W hG h.r0 h.c0 h.r1 h.c1 h.r2 h.c2 1
  rw [ev6] at hc
  exact hc
theorem rl7 (W : World) (A0 A1 A2 : Option Addr) (c0 c1 c2 : Nat) (hG : GOK W) (h : BookAt W A0 A1 A2 c0 c1 c2 ownL ownD ownK) : Calls Tryd.prog 34 #[.agg #[.slice A0 2 c0, .slice A1 4 c1, .slice A2 0 c2]] W fun e w' => e = .returned (.tuple #[.int .i64 3, .int .i64 0]) ∧ Below W.heap.size W w' := by
  have hc := perhaps_calls A0 A1 A2 c0 c1 c2 ownL ownD ownK W hG h.r0 h.c0 h.r1 h.c1 h.r2 h.c2
  rw [ev7] at hc
  exact hc
theorem rl8 (W : World) (A0 A1 A2 : Option Addr) (c0 c1 c2 : Nat) (hG : GOK W) (h : BookAt W A0 A1 A2 c0 c1 c2 ownL ownD ownK) : Calls Tryd.prog 38 #[.agg #[.slice A0 2 c0, .slice A1 4 c1, .slice A2 0 c2], .agg #[.int .i64 3, .int .i64 0]] W fun e w' => e = .returned (.tuple #[.bool true, .int .i64 0]) ∧ Below W.heap.size W w' := by
  have hc := fits_calls A0 A1 A2 c0 c1 c2 ownL ownD ownK W hG h.r0 h.c0 h.r1 h.c1 h.r2 h.c2 ⟨3, 0⟩
  rw [ev8] at hc
  exact hc
theorem rl9 (W : World) (A0 A1 A2 : Option Addr) (c0 c1 c2 : Nat) (hG : GOK W) (h : BookAt W A0 A1 A2 c0 c1 c2 ownL ownD tornK) : Calls Tryd.prog 40 #[.agg #[.slice A0 2 c0, .slice A1 4 c1, .slice A2 2 c2]] W fun e w' => ∃ A c, e = .returned (.tuple #[.slice A 1 c, .int .i64 0]) ∧ Kd.C (Kd.int .i64) w' A 1 [0] ∧ 1 ≤ c ∧ Below W.heap.size W w' := by
  have hc := wrong_calls A0 A1 A2 c0 c1 c2 ownL ownD tornK W hG h.r0 h.c0 h.r1 h.c1 h.r2 h.c2
  rw [ev9] at hc
  refine hc.mono ?_
  rintro e w' ⟨v, rfl, ⟨A, c, rfl, hF, hcc⟩, hb⟩
  exact ⟨A, c, rfl, C_of_frow hF (by decide), hcc, hb⟩
theorem rl10 (W : World) (A0 A1 A2 : Option Addr) (c0 c1 c2 : Nat) (hG : GOK W) (h : BookAt W A0 A1 A2 c0 c1 c2 ownL ownD ownK) : Calls Tryd.prog 17 #[.agg #[.slice A0 2 c0, .slice A1 4 c1, .slice A2 0 c2]] W fun e w' => e = .returned (.tuple #[.bool true, .int .i64 0]) ∧ Below W.heap.size W w' := by
  have hc := rightX_calls A0 A1 A2 c0 c1 c2 ownL ownD ownK W hG h.r0 h.c0 h.r1 h.c1 h.r2 h.c2
  rw [ev10] at hc
  exact hc
theorem C_new (W : World) : Kd.C (Kd.int .i64) (W.alloc (.cells #[.int .i64 0] 3)) (some ⟨W.heap.size, 0, none⟩) 1 [0] := by
  have h : FRow eI 1 (W.alloc (.cells #[.int .i64 0] 3)) (some ⟨W.heap.size, 0, none⟩) [0] := by
    refine .inr ⟨W.heap.size, 0, rfl, by simp, fun i x hx j v hv => ?_⟩
    rcases i with _ | i
    · rcases j with _ | j
      · injection hx with hx
        subst hx
        injection hv with hv
        subst hv
        exact (blk_cell (blk_new W _) 0).trans rfl
      · simp [eI] at hv
    · simp at hx
  exact C_of_frow h (by decide)
set_option maxHeartbeats 4000000 in
set_option maxRecDepth 100000 in
theorem rolled_calls (w : World) (hG : GOK w) : Calls Tryd.prog 27 #[] w fun e w' => e = .returned (.bool true) ∧ Below w.heap.size w w' := by
  go_enter Tryd.func27, Tryd.ntmps27
  have HG := Lib.hid hG
  clear hG
  have HB0 := Lib.hid (Below.refl w.heap.size w)
  go_wp2_with fail
  refine (ownB_calls _).mono ?_
  rintro e w1 ⟨A0, A1, A2, c0, c1, c2, rfl, hk, hb⟩
  have HB1 := Lib.hid (HB0.out.trans (below_weaken hb (HB0.out.size)))
  have HK := Lib.hid hk
  clear hk
  clear hb
  go_wp2_with fail
  refine (rl0 _ A0 A1 A2 c0 c1 c2 (HG.out.below HB1.out) HK.out).mono ?_
  rintro e w2 ⟨rfl, hb⟩
  have HB2 := Lib.hid (HB1.out.trans (below_weaken hb (HB1.out.size)))
  clear HK
  clear hb
  go_wp2_with fail
  refine (ownB_calls _).mono ?_
  rintro e w3 ⟨A0, A1, A2, c0, c1, c2, rfl, hk, hb⟩
  have K3 := Lib.hid (blk_below (blk_new w2 (.cells #[.int .i64 0, .int .i64 2] 32)) hb)
  have HB3 := Lib.hid ((HB2.out.alloc HB2.out.size (.cells #[.int .i64 0, .int .i64 2] 32)).trans (below_weaken hb ((HB2.out.alloc HB2.out.size (.cells #[.int .i64 0, .int .i64 2] 32)).size)))
  have HK := Lib.hid hk
  clear hk
  clear hb
  go_wp2_with fail
  refine (rl1 _ A0 A1 A2 c0 c1 c2 (HG.out.below HB3.out) HK.out).mono ?_
  rintro e w4 ⟨rfl, hb⟩
  have K3n := Lib.hid (blk_below K3.out hb)
  clear K3
  have K3 := K3n
  clear K3n
  have HB4 := Lib.hid (HB3.out.trans (below_weaken hb (HB3.out.size)))
  clear HK
  clear hb
  go_wp2_with fail
  refine (lateB_calls _).mono ?_
  rintro e w5 ⟨A0, A1, A2, c0, c1, c2, rfl, hk, hb⟩
  have K3n := Lib.hid (blk_below (blk_alloc K3.out (.cells #[.int .i64 7, .int .i64 10] 32)) hb)
  clear K3
  have K3 := K3n
  clear K3n
  have K5 := Lib.hid (blk_below (blk_new w4 (.cells #[.int .i64 7, .int .i64 10] 32)) hb)
  have HB5 := Lib.hid ((HB4.out.alloc HB4.out.size (.cells #[.int .i64 7, .int .i64 10] 32)).trans (below_weaken hb ((HB4.out.alloc HB4.out.size (.cells #[.int .i64 7, .int .i64 10] 32)).size)))
  have HK := Lib.hid hk
  clear hk
  clear hb
  go_wp2_with fail
  refine (rl2 _ A0 A1 A2 c0 c1 c2 (HG.out.below HB5.out) HK.out).mono ?_
  rintro e w6 ⟨rfl, hb⟩
  have K3n := Lib.hid (blk_below K3.out hb)
  clear K3
  have K3 := K3n
  clear K3n
  have K5n := Lib.hid (blk_below K5.out hb)
  clear K5
  have K5 := K5n
  clear K5n
  have HB6 := Lib.hid (HB5.out.trans (below_weaken hb (HB5.out.size)))
  clear HK
  clear hb
  go_wp2_with fail
  refine (earlyB_calls _).mono ?_
  rintro e w7 ⟨A0, A1, A2, c0, c1, c2, rfl, hk, hb⟩
  have K3n := Lib.hid (blk_below K3.out hb)
  clear K3
  have K3 := K3n
  clear K3n
  have K5n := Lib.hid (blk_below K5.out hb)
  clear K5
  have K5 := K5n
  clear K5n
  have HB7 := Lib.hid (HB6.out.trans (below_weaken hb (HB6.out.size)))
  have HK := Lib.hid hk
  clear hk
  clear hb
  go_wp2_with fail
  refine (rl3 _ A0 A1 A2 c0 c1 c2 (HG.out.below HB7.out) HK.out).mono ?_
  rintro e w8 ⟨rfl, hb⟩
  have K3n := Lib.hid (blk_below K3.out hb)
  clear K3
  have K3 := K3n
  clear K3n
  have K5n := Lib.hid (blk_below K5.out hb)
  clear K5
  have K5 := K5n
  clear K5n
  have HB8 := Lib.hid (HB7.out.trans (below_weaken hb (HB7.out.size)))
  clear HK
  clear hb
  go_wp2_with fail
  refine (ownB_calls _).mono ?_
  rintro e w9 ⟨A0, A1, A2, c0, c1, c2, rfl, hk, hb⟩
  have K3n := Lib.hid (blk_below K3.out hb)
  clear K3
  have K3 := K3n
  clear K3n
  have K5n := Lib.hid (blk_below K5.out hb)
  clear K5
  have K5 := K5n
  clear K5n
  have HB9 := Lib.hid (HB8.out.trans (below_weaken hb (HB8.out.size)))
  have HK := Lib.hid hk
  clear hk
  clear hb
  go_wp2_with fail
  refine (rl4 _ A0 A1 A2 c0 c1 c2 (HG.out.below HB9.out) HK.out).mono ?_
  rintro e w10 ⟨rfl, hb⟩
  have K3n := Lib.hid (blk_below K3.out hb)
  clear K3
  have K3 := K3n
  clear K3n
  have K5n := Lib.hid (blk_below K5.out hb)
  clear K5
  have K5 := K5n
  clear K5n
  have HB10 := Lib.hid (HB9.out.trans (below_weaken hb (HB9.out.size)))
  clear HK
  clear hb
  go_upto_region 6 with fail
  have hBD : Below w10.heap.size w10 w10.drew := by repeat (first | exact Below.refl _ _ | refine Below.alloc ?_ (by simp <;> omega) _ | refine Below.setCell ?_ (by simp <;> omega) _ | apply Below.drew)
  have K3D := Lib.hid (blk_below K3.out hBD)
  have K5D := Lib.hid (blk_below K5.out hBD)
  have HBD := Lib.hid (HB10.out.trans (below_weaken hBD HB10.out.size))
  clear hBD
  refine start_ (n := 40) (S := fun w' => w'.cell? ⟨w2.heap.size, 0, none⟩ = some (.int .i64 0) ∧ w'.cell? ⟨w2.heap.size, 1, none⟩ = some (.int .i64 2) ∧ w'.cell? ⟨w4.heap.size, 0, none⟩ = some (.int .i64 7) ∧ w'.cell? ⟨w4.heap.size, 1, none⟩ = some (.int .i64 10)) (ds := []) #[false, false, false, false, false, false, false, false, false, false, false, false, false, false, false, false, false, false, false, false, false, false, false, false, false, false, false, false, false, false, false, false, false, false, false, false, false, false, false, false] (by kernel_rfl) rfl rfl ⟨(blk_cell (K3D.out) 0).trans rfl, (blk_cell (K3D.out) 1).trans rfl, (blk_cell (K5D.out) 0).trans rfl, (blk_cell (K5D.out) 1).trans rfl⟩ (fun hHeld => ?_)
  refine pu_ 0 (some 43) ?_
  refine pu_ 1 (some 44) ?_
  refine pu_ 2 (some 45) ?_
  refine pu_ 3 (some 46) ?_
  refine pu_ 4 (some 47) ?_
  refine pu_ 5 (some 48) ?_
  refine pu_ 6 (some 49) ?_
  refine pu_ 7 (some 50) ?_
  refine pu_ 8 (some 51) ?_
  refine pu_ 9 (some 52) ?_
  refine pu_ 10 (some 53) ?_
  refine pu_ 11 (some 54) ?_
  refine pu_ 12 (some 55) ?_
  refine pu_ 13 (some 56) ?_
  refine pu_ 14 (some 57) ?_
  refine pu_ 15 (some 58) ?_
  refine pu_ 16 (some 59) ?_
  refine pu_ 17 (some 60) ?_
  refine pu_ 18 (some 61) ?_
  refine ta_ 19 (some 62) (s := hHeld) (y := by rintro w' ⟨s0, s1, s2, s3⟩; go_simp; with_reducible rfl) (h := ?_)
  refine one_ (i := 20) (N := some 63) #[true, true, true, true, true, true, true, true, true, true, true, true, true, true, true, true, true, true, true, true, true, false, false, false, false, false, false, false, false, false, false, false, false, false, false, false, false, false, false, false] rfl rfl (by kernel_rfl) (by decide) (fun K hK => ?_)
  refine goes_ Tryd.func55 (by kernel_rfl) rfl #[.int .i64 0, .int .i64 2] (by rfl) rfl rfl (by simp only [List.map_toArray, List.map_cons, List.map_nil]; rfl) ?_
  refine (macadamref00_Reach.calls 0 2 0 2 _ rfl).mono ?_
  rintro e wr6_0 ⟨rfl, hb⟩
  refine ⟨_, rfl, ?_⟩
  have K3r0 := Lib.hid (blk_below K3D.out hb)
  have K5r0 := Lib.hid (blk_below K5D.out hb)
  have HBr0 := Lib.hid (HBD.out.trans (below_weaken hb HBD.out.size))
  refine hK.out _ _ ⟨(blk_cell (K3r0.out) 0).trans rfl, (blk_cell (K3r0.out) 1).trans rfl, (blk_cell (K5r0.out) 0).trans rfl, (blk_cell (K5r0.out) 1).trans rfl⟩ (fun hHeld => ?_)
  clear hK K
  refine no_ 63 ?_
  refine pu_ 21 (some 64) ?_
  refine pu_ 22 (some 65) ?_
  refine pu_ 23 (some 66) ?_
  refine ta_ 24 (some 67) (s := hHeld) (y := by rintro w' ⟨s0, s1, s2, s3⟩; go_simp; with_reducible rfl) (h := ?_)
  refine one_ (i := 25) (N := some 68) #[true, true, true, true, true, true, true, true, true, true, true, true, true, true, true, true, true, true, true, true, true, true, true, true, true, true, false, false, false, false, false, false, false, false, false, false, false, false, false, false] rfl rfl (by kernel_rfl) (by decide) (fun K hK => ?_)
  refine goes_ Tryd.func55 (by kernel_rfl) rfl #[.int .i64 7, .int .i64 10] (by rfl) rfl rfl (by simp only [List.map_toArray, List.map_cons, List.map_nil]; rfl) ?_
  refine (macadamref00_Reach.calls 7 10 7 10 _ rfl).mono ?_
  rintro e w90 ⟨rfl, hb⟩
  refine ⟨_, rfl, ?_⟩
  have K3r1 := Lib.hid (blk_below K3r0.out hb)
  have K5r1 := Lib.hid (blk_below K5r0.out hb)
  have HBr1 := Lib.hid (HBr0.out.trans (below_weaken hb HBr0.out.size))
  refine hK.out _ _ ⟨(blk_cell (K3r1.out) 0).trans rfl, (blk_cell (K3r1.out) 1).trans rfl, (blk_cell (K5r1.out) 0).trans rfl, (blk_cell (K5r1.out) 1).trans rfl⟩ (fun hHeld => ?_)
  clear hK K
  refine no_ 68 ?_
  refine pu_ 26 (some 69) ?_
  refine pu_ 27 (some 70) ?_
  refine pu_ 28 (some 71) ?_
  refine pu_ 29 (some 72) ?_
  refine pu_ 30 (some 73) ?_
  refine pu_ 31 (some 74) ?_
  refine pu_ 32 (some 75) ?_
  refine pu_ 33 (some 76) ?_
  refine pu_ 34 (some 77) ?_
  refine pu_ 35 (some 78) ?_
  refine pu_ 36 (some 79) ?_
  refine pu_ 37 (some 80) ?_
  refine pu_ 38 (some 81) ?_
  refine pu_ 39 (some 82) ?_
  refine done_ (by kernel_rfl) ?_

  have HB90 := HBr1
  go_wp2_with fail
  refine (earlyB_calls _).mono ?_
  rintro e w11 ⟨A0, A1, A2, c0, c1, c2, rfl, hk, hb⟩
  have HB11 := Lib.hid (HB90.out.trans (below_weaken hb (HB90.out.size)))
  have HK := Lib.hid hk
  clear hk
  clear hb
  go_wp2_with fail
  refine (rl5 _ A0 A1 A2 c0 c1 c2 (HG.out.below HB11.out) HK.out).mono ?_
  rintro e w12 ⟨rfl, hb⟩
  have HB12 := Lib.hid (HB11.out.trans (below_weaken hb (HB11.out.size)))
  clear HK
  clear hb
  go_wp2_with fail
  refine (ownB_calls _).mono ?_
  rintro e w13 ⟨A0, A1, A2, c0, c1, c2, rfl, hk, hb⟩
  have K13 := Lib.hid (blk_below (blk_new w12 (.cells #[.int .i64 0, .int .i64 3] 32)) hb)
  have HB13 := Lib.hid ((HB12.out.alloc HB12.out.size (.cells #[.int .i64 0, .int .i64 3] 32)).trans (below_weaken hb ((HB12.out.alloc HB12.out.size (.cells #[.int .i64 0, .int .i64 3] 32)).size)))
  have HK := Lib.hid hk
  clear hk
  clear hb
  go_wp2_with fail
  refine (rl6 _ A0 A1 A2 c0 c1 c2 (HG.out.below HB13.out) HK.out).mono ?_
  rintro e w14 ⟨rfl, hb⟩
  have K13n := Lib.hid (blk_below K13.out hb)
  clear K13
  have K13 := K13n
  clear K13n
  have HB14 := Lib.hid (HB13.out.trans (below_weaken hb (HB13.out.size)))
  clear HK
  clear hb
  go_wp2_with fail
  refine (ownB_calls _).mono ?_
  rintro e w15 ⟨A0, A1, A2, c0, c1, c2, rfl, hk, hb⟩
  have K13n := Lib.hid (blk_below (blk_alloc K13.out (.cells #[.int .i64 2, .int .i64 3] 32)) hb)
  clear K13
  have K13 := K13n
  clear K13n
  have K15 := Lib.hid (blk_below (blk_new w14 (.cells #[.int .i64 2, .int .i64 3] 32)) hb)
  have HB15 := Lib.hid ((HB14.out.alloc HB14.out.size (.cells #[.int .i64 2, .int .i64 3] 32)).trans (below_weaken hb ((HB14.out.alloc HB14.out.size (.cells #[.int .i64 2, .int .i64 3] 32)).size)))
  have HK := Lib.hid hk
  clear hk
  clear hb
  go_wp2_with fail
  refine (rl7 _ A0 A1 A2 c0 c1 c2 (HG.out.below HB15.out) HK.out).mono ?_
  rintro e w16 ⟨rfl, hb⟩
  have K13n := Lib.hid (blk_below K13.out hb)
  clear K13
  have K13 := K13n
  clear K13n
  have K15n := Lib.hid (blk_below K15.out hb)
  clear K15
  have K15 := K15n
  clear K15n
  have HB16 := Lib.hid (HB15.out.trans (below_weaken hb (HB15.out.size)))
  clear HK
  clear hb
  go_wp2_with fail
  refine (ownB_calls _).mono ?_
  rintro e w17 ⟨A0, A1, A2, c0, c1, c2, rfl, hk, hb⟩
  have K13n := Lib.hid (blk_below K13.out hb)
  clear K13
  have K13 := K13n
  clear K13n
  have K15n := Lib.hid (blk_below K15.out hb)
  clear K15
  have K15 := K15n
  clear K15n
  have HB17 := Lib.hid (HB16.out.trans (below_weaken hb (HB16.out.size)))
  have HK := Lib.hid hk
  clear hk
  clear hb
  go_wp2_with fail
  refine (rl8 _ A0 A1 A2 c0 c1 c2 (HG.out.below HB17.out) HK.out).mono ?_
  rintro e w18 ⟨rfl, hb⟩
  have K13n := Lib.hid (blk_below K13.out hb)
  clear K13
  have K13 := K13n
  clear K13n
  have K15n := Lib.hid (blk_below K15.out hb)
  clear K15
  have K15 := K15n
  clear K15n
  have HB18 := Lib.hid (HB17.out.trans (below_weaken hb (HB17.out.size)))
  clear HK
  clear hb
  go_wp2_with fail
  refine (tornB_calls _).mono ?_
  rintro e w19 ⟨A0, A1, A2, c0, c1, c2, rfl, hk, hb⟩
  have K13n := Lib.hid (blk_below K13.out hb)
  clear K13
  have K13 := K13n
  clear K13n
  have K15n := Lib.hid (blk_below K15.out hb)
  clear K15
  have K15 := K15n
  clear K15n
  have HB19 := Lib.hid (HB18.out.trans (below_weaken hb (HB18.out.size)))
  have HK := Lib.hid hk
  clear hk
  clear hb
  go_wp2_with fail
  refine (rl9 _ A0 A1 A2 c0 c1 c2 (HG.out.below HB19.out) HK.out).mono ?_
  rintro e w20 ⟨A9, c9, rfl, hw9, hc9, hb⟩
  have K13n := Lib.hid (blk_below K13.out hb)
  clear K13
  have K13 := K13n
  clear K13n
  have K15n := Lib.hid (blk_below K15.out hb)
  clear K15
  have K15 := K15n
  clear K15n
  have HB20 := Lib.hid (HB19.out.trans (below_weaken hb (HB19.out.size)))
  have HW9 := Lib.hid hw9
  have HC9 := Lib.hid hc9
  clear hw9 hc9 HK
  clear hb
  go_wp2_with fail
  refine (ownB_calls _).mono ?_
  rintro e w21 ⟨A0, A1, A2, c0, c1, c2, rfl, hk, hb⟩
  have K13n := Lib.hid (blk_below K13.out hb)
  clear K13
  have K13 := K13n
  clear K13n
  have K15n := Lib.hid (blk_below K15.out hb)
  clear K15
  have K15 := K15n
  clear K15n
  have HB21 := Lib.hid (HB20.out.trans (below_weaken hb (HB20.out.size)))
  have HW9n := Lib.hid (Kd.C_below HW9.out hb)
  clear HW9
  have HW9 := HW9n
  clear HW9n
  have HK := Lib.hid hk
  clear hk
  clear hb
  go_wp2_with fail
  refine (rl10 _ A0 A1 A2 c0 c1 c2 (HG.out.below HB21.out) HK.out).mono ?_
  rintro e w22 ⟨rfl, hb⟩
  have K13n := Lib.hid (blk_below K13.out hb)
  clear K13
  have K13 := K13n
  clear K13n
  have K15n := Lib.hid (blk_below K15.out hb)
  clear K15
  have K15 := K15n
  clear K15n
  have HB22 := Lib.hid (HB21.out.trans (below_weaken hb (HB21.out.size)))
  have HW9n := Lib.hid (Kd.C_below HW9.out hb)
  clear HW9
  have HW9 := HW9n
  clear HW9n
  clear HK
  clear hb
  go_upto_region 14 with fail
  have hBD : Below w22.heap.size w22 w22.drew := by repeat (first | exact Below.refl _ _ | refine Below.alloc ?_ (by simp <;> omega) _ | refine Below.setCell ?_ (by simp <;> omega) _ | apply Below.drew)
  have K13D := Lib.hid (blk_below K13.out hBD)
  have K15D := Lib.hid (blk_below K15.out hBD)
  have HBD := Lib.hid (HB22.out.trans (below_weaken hBD HB22.out.size))
  have hcD := Kd.C_below HW9.out hBD
  clear hBD
  refine start_ (n := 48) (S := fun w' => w'.cell? ⟨w12.heap.size, 0, none⟩ = some (.int .i64 0) ∧ w'.cell? ⟨w12.heap.size, 1, none⟩ = some (.int .i64 3) ∧ w'.cell? ⟨w14.heap.size, 0, none⟩ = some (.int .i64 2) ∧ w'.cell? ⟨w14.heap.size, 1, none⟩ = some (.int .i64 3)) (ds := []) #[false, false, false, false, false, false, false, false, false, false, false, false, false, false, false, false, false, false, false, false, false, false, false, false, false, false, false, false, false, false, false, false, false, false, false, false, false, false, false, false, false, false, false, false, false, false, false, false] (by kernel_rfl) rfl rfl ⟨(blk_cell (K13D.out) 0).trans rfl, (blk_cell (K13D.out) 1).trans rfl, (blk_cell (K15D.out) 0).trans rfl, (blk_cell (K15D.out) 1).trans rfl⟩ (fun hHeld => ?_)
  refine pu_ 0 (some 114) ?_
  refine pu_ 1 (some 115) ?_
  refine pu_ 2 (some 116) ?_
  refine pu_ 3 (some 117) ?_
  refine pu_ 4 (some 118) ?_
  refine pu_ 5 (some 119) ?_
  refine pu_ 6 (some 120) ?_
  refine pu_ 7 (some 121) ?_
  refine pu_ 8 (some 122) ?_
  refine pu_ 9 (some 123) ?_
  refine pu_ 10 (some 124) ?_
  refine pu_ 11 (some 125) ?_
  refine pu_ 12 (some 126) ?_
  refine pu_ 13 (some 127) ?_
  refine pu_ 14 (some 128) ?_
  refine pu_ 15 (some 129) ?_
  refine pu_ 16 (some 130) ?_
  refine pu_ 17 (some 131) ?_
  refine pu_ 18 (some 132) ?_
  refine pu_ 19 (some 133) ?_
  refine pu_ 20 (some 134) ?_
  refine pu_ 21 (some 135) ?_
  refine pu_ 22 (some 136) ?_
  refine ta_ 23 (some 137) (s := hHeld) (y := by rintro w' ⟨s0, s1, s2, s3⟩; go_simp; with_reducible rfl) (h := ?_)
  refine one_ (i := 24) (N := some 138) #[true, true, true, true, true, true, true, true, true, true, true, true, true, true, true, true, true, true, true, true, true, true, true, true, true, false, false, false, false, false, false, false, false, false, false, false, false, false, false, false, false, false, false, false, false, false, false, false] rfl rfl (by kernel_rfl) (by decide) (fun K hK => ?_)
  refine goes_ Tryd.func55 (by kernel_rfl) rfl #[.int .i64 0, .int .i64 3] (by rfl) rfl rfl (by simp only [List.map_toArray, List.map_cons, List.map_nil]; rfl) ?_
  refine (macadamref00_Reach.calls 0 3 0 3 _ rfl).mono ?_
  rintro e wr14_0 ⟨rfl, hb⟩
  refine ⟨_, rfl, ?_⟩
  have K13r0 := Lib.hid (blk_below K13D.out hb)
  have K15r0 := Lib.hid (blk_below K15D.out hb)
  have HBr0 := Lib.hid (HBD.out.trans (below_weaken hb HBD.out.size))
  have hcr0 := Kd.C_below hcD hb
  refine hK.out _ _ ⟨(blk_cell (K13r0.out) 0).trans rfl, (blk_cell (K13r0.out) 1).trans rfl, (blk_cell (K15r0.out) 0).trans rfl, (blk_cell (K15r0.out) 1).trans rfl⟩ (fun hHeld => ?_)
  clear hK K
  refine no_ 138 ?_
  refine pu_ 25 (some 139) ?_
  refine pu_ 26 (some 140) ?_
  refine pu_ 27 (some 141) ?_
  refine ta_ 28 (some 142) (s := hHeld) (y := by rintro w' ⟨s0, s1, s2, s3⟩; go_simp; with_reducible rfl) (h := ?_)
  refine one_ (i := 29) (N := some 143) #[true, true, true, true, true, true, true, true, true, true, true, true, true, true, true, true, true, true, true, true, true, true, true, true, true, true, true, true, true, true, false, false, false, false, false, false, false, false, false, false, false, false, false, false, false, false, false, false] rfl rfl (by kernel_rfl) (by decide) (fun K hK => ?_)
  refine goes_ Tryd.func55 (by kernel_rfl) rfl #[.int .i64 2, .int .i64 3] (by rfl) rfl rfl (by simp only [List.map_toArray, List.map_cons, List.map_nil]; rfl) ?_
  refine (macadamref00_Reach.calls 2 3 2 3 _ rfl).mono ?_
  rintro e wr14_1 ⟨rfl, hb⟩
  refine ⟨_, rfl, ?_⟩
  have K13r1 := Lib.hid (blk_below K13r0.out hb)
  have K15r1 := Lib.hid (blk_below K15r0.out hb)
  have HBr1 := Lib.hid (HBr0.out.trans (below_weaken hb HBr0.out.size))
  have hcr1 := Kd.C_below hcr0 hb
  refine hK.out _ _ ⟨(blk_cell (K13r1.out) 0).trans rfl, (blk_cell (K13r1.out) 1).trans rfl, (blk_cell (K15r1.out) 0).trans rfl, (blk_cell (K15r1.out) 1).trans rfl⟩ (fun hHeld => ?_)
  clear hK K
  refine no_ 143 ?_
  refine pu_ 30 (some 144) ?_
  refine pu_ 31 (some 145) ?_
  refine pu_ 32 (some 146) ?_
  refine pu_ 33 (some 147) ?_
  refine pu_ 34 (some 148) ?_
  refine pu_ 35 (some 149) ?_
  refine pu_ 36 (some 150) ?_
  refine pu_ 37 (some 151) ?_
  refine pu_ 38 (some 152) ?_
  refine pu_ 39 (some 153) ?_
  refine pu_ 40 (some 154) ?_
  refine one_ (i := 41) (N := some 155) #[true, true, true, true, true, true, true, true, true, true, true, true, true, true, true, true, true, true, true, true, true, true, true, true, true, true, true, true, true, true, true, true, true, true, true, true, true, true, true, true, true, true, false, false, false, false, false, false] rfl rfl (by kernel_rfl) (by decide) (fun K hK => ?_)
  refine value_ (w1 := ?_) (v := ?_) (by rfl) rfl ?_ ?_
  rotate_left 2
  · go_simp
    constructor
    · rfl
    · rfl
  have hal : Below (wr14_1).heap.size (wr14_1) ((wr14_1).alloc (.cells #[.int .i64 0] 3)) := (Below.refl _ _).alloc (Nat.le_refl _) _
  have HBb := Lib.hid (HBr1.out.trans (below_weaken hal HBr1.out.size))
  have hcb := Kd.C_below hcr1 hal
  have hnb := C_new wr14_1
  have K13b := Lib.hid (blk_below K13r1.out hal)
  have K15b := Lib.hid (blk_below K15r1.out hal)
  refine hK.out _ _ ⟨(blk_cell (K13b.out) 0).trans rfl, (blk_cell (K13b.out) 1).trans rfl, (blk_cell (K15b.out) 0).trans rfl, (blk_cell (K15b.out) 1).trans rfl⟩ (fun hHeld => ?_)
  clear hK K
  refine no_ 155 ?_
  refine one_ (i := 42) (N := some 156) #[true, true, true, true, true, true, true, true, true, true, true, true, true, true, true, true, true, true, true, true, true, true, true, true, true, true, true, true, true, true, true, true, true, true, true, true, true, true, true, true, true, true, true, false, false, false, false, false] rfl rfl (by kernel_rfl) (by decide) (fun K hK => ?_)
  refine goes_ Tryd.func42 (by kernel_rfl) rfl #[.slice A9 1 c9, .slice (some ⟨(wr14_1).heap.size, 0, none⟩) 1 1] (by rfl) rfl rfl (by simp only [List.map_toArray, List.map_cons, List.map_nil]; rfl) ?_
  refine (macadamref00_Like.calls 5 A9 c9 [0] (some ⟨(wr14_1).heap.size, 0, none⟩) 1 [0] true _ hcb HC9.out hnb (Nat.le_refl _) (by decide +kernel)).mono ?_
  rintro e wl ⟨rfl, hd⟩
  refine ⟨_, rfl, ?_⟩
  have hb := hd.below
  have HBl := Lib.hid (HBb.out.trans (below_weaken hb HBb.out.size))
  have K13l := Lib.hid (blk_below K13b.out hb)
  have K15l := Lib.hid (blk_below K15b.out hb)
  refine hK.out _ _ ⟨(blk_cell (K13l.out) 0).trans rfl, (blk_cell (K13l.out) 1).trans rfl, (blk_cell (K15l.out) 0).trans rfl, (blk_cell (K15l.out) 1).trans rfl⟩ (fun hHeld => ?_)
  clear hK K
  refine no_ 156 ?_
  refine pu_ 43 (some 157) ?_
  refine pu_ 44 (some 158) ?_
  refine pu_ 45 (some 159) ?_
  refine pu_ 46 (some 160) ?_
  refine pu_ 47 (some 0) ?_
  refine done_ (by kernel_rfl) ?_

  go_wp2
  go_ret
  exact ⟨rfl, HBl.out⟩
end Go.Proofs.YthgjedagbgmgmaaDoor.Pr
namespace Go.Proofs.YthgjedagbgmgmaaDoor.Pr
open Go.RowKit Go.Proofs.YthgjedagbgmgmaaDoorW.PrintWords Go.Proofs.YthgjedagbgmgmaaDoorW.PrintLast Go.Proofs.YthgjedagbgmgmaaDoorW.PrintMore
set_option linter.unusedVariables false
set_option linter.unusedSimpArgs false
theorem amid_calls (n a b : Int) (w : World) : Calls Tryd.prog 60 #[.int .i64 n, .int .i64 a, .int .i64 b] w fun e w' => e = .returned (.bool (decide (a ≤ n ∧ n ≤ b))) ∧ Below w.heap.size w w' := by
  have h : macadamref00_Amid.f n a b = some (decide (a ≤ n ∧ n ≤ b)) := by
    unfold macadamref00_Amid.f
    by_cases h : a ≤ n
    · rw [if_pos h]; simp [h]
    · rw [if_neg h]; simp [h]
  exact (macadamref00_Amid.calls n a b _ w h).mono (by rintro e w' ⟨rfl, hd⟩; exact ⟨rfl, hd.below⟩)
theorem amid_true {n a b : Int} (h0 : a ≤ n) (h1 : n ≤ b) (w : World) : Calls Tryd.prog 60 #[.int .i64 n, .int .i64 a, .int .i64 b] w fun e w' => e = .returned (.bool true) ∧ Below w.heap.size w w' := by
  have h := amid_calls n a b w
  rw [decide_eq_true ⟨h0, h1⟩] at h
  exact h
theorem sane_true {lo hi a b c : Int} (h0 : a ≤ lo) (h1 : lo ≤ hi) (h2 : hi ≤ b) (h3 : hi - lo ≤ c) (hb : b ≤ 1000) (ha : 0 ≤ a) (w : World) : Calls Tryd.prog 62 #[.agg #[.int .i64 lo, .int .i64 hi], .int .i64 a, .int .i64 b, .int .i64 c] w fun e w' => e = .returned (.bool true) ∧ Below w.heap.size w w' := by
  refine macadamref00_Sane.calls lo hi a b c true w ?_
  unfold macadamref00_Sane.f
  rw [if_pos h0, if_pos h1, if_pos h2, wrap64_id (by omega) (by omega), decide_eq_true h3]
set_option maxHeartbeats 4000000 in
set_option maxRecDepth 100000 in
theorem sound_no (A0 A1 A2 : Option Addr) (c0 c1 c2 : Nat) (l0 : List S92) (l1 : List S90) (l2 : List S43) (w : World) (h : BookAt w A0 A1 A2 c0 c1 c2 l0 l1 l2) (hok : okBook l0 l1 l2 = false) :
    Calls Tryd.prog 56 #[.agg #[.slice A0 l0.length c0, .slice A1 l1.length c1, .slice A2 l2.length c2]] w fun e w' => e = .returned (.bool false) ∧ Below w.heap.size w w' := by
  have HCC : Hid (∀ W, Below w.heap.size w W → Calls Tryd.prog 19 #[.agg #[.slice A0 l0.length c0, .slice A1 l1.length c1, .slice A2 l2.length c2]] W fun e w' => e = .returned (.int .i64 70) ∧ Below W.heap.size W w') := by
    refine Lib.hid fun W hW => ?_
    have hc := check_calls A0 A1 A2 c0 c1 c2 l0 l1 l2 W (Kd.C_below h.r0 hW) h.c0 (Kd.C_below h.r1 hW) h.c1 (Kd.C_below h.r2 hW) h.c2 (by have := h.r0.2.1; omega) (by have := h.r1.2.1; omega) (by have := h.r2.2.1; omega)
    rw [hok] at hc
    exact hc
  clear h hok
  go_enter Tryd.func56, Tryd.ntmps56
  go_wp2_with (go_at_call 19; refine (HCC.out _ ?hw).mono ?_; (case hw => exact by repeat (first | exact Below.refl _ _ | refine Below.alloc ?_ (by simp <;> omega) _ | refine Below.setCell ?_ (by simp <;> omega) _ | apply Below.drew)); rintro e w1 ⟨rfl, hB1⟩)
  have HB1 := Lib.hid ((show Below w.heap.size w _ from by repeat (first | exact Below.refl _ _ | refine Below.alloc ?_ (by simp <;> omega) _ | refine Below.setCell ?_ (by simp <;> omega) _ | apply Below.drew)).trans (below_weaken hB1 (by simp)))
  clear hB1
  go_loopg [3, 4] (0) (fun gk v3 v4 wr => v3 = .bool false ∧ v4 = .int .i64 0 ∧ Aside0 (Below w.heap.size w wr))
  case atStart => exact ⟨rfl, rfl, ⟨HB1.out⟩⟩
  case round =>
    obtain ⟨rfl, rfl, HBR⟩ := hrel
    go_wp2
    obtain ⟨wo, rfl⟩ : ∃ wo : World, wo = wr := ⟨_, rfl⟩
    go_loopg [3, 5] (0) (fun gk v3 v5 wr => v3 = .bool false ∧ v5 = .int .i64 0 ∧ Aside0 (Below w.heap.size w wr))
    case atStart => exact ⟨rfl, rfl, ⟨HBR.out⟩⟩
    case round =>
      obtain ⟨rfl, rfl, HBR2⟩ := hrel
      go_wp2
      go_ret
      exact ⟨rfl, HBR2.out⟩
set_option maxHeartbeats 4000000 in
set_option maxRecDepth 100000 in
theorem sound_yes (A0 A1 A2 : Option Addr) (c0 c1 c2 : Nat) (l0 : List S92) (l1 : List S90) (l2 : List S43) (w : World) (h : BookAt w A0 A1 A2 c0 c1 c2 l0 l1 l2) (hok : okBook l0 l1 l2 = true) :
    Calls Tryd.prog 56 #[.agg #[.slice A0 l0.length c0, .slice A1 l1.length c1, .slice A2 l2.length c2]] w fun e w' => e = .returned (.bool true) ∧ Below w.heap.size w w' := by
  have HCC : Hid (∀ W, Below w.heap.size w W → Calls Tryd.prog 19 #[.agg #[.slice A0 l0.length c0, .slice A1 l1.length c1, .slice A2 l2.length c2]] W fun e w' => e = .returned (.int .i64 0) ∧ Below W.heap.size W w') := by
    refine Lib.hid fun W hW => ?_
    have hc := check_calls A0 A1 A2 c0 c1 c2 l0 l1 l2 W (Kd.C_below h.r0 hW) h.c0 (Kd.C_below h.r1 hW) h.c1 (Kd.C_below h.r2 hW) h.c2 (by have := h.r0.2.1; omega) (by have := h.r1.2.1; omega) (by have := h.r2.2.1; omega)
    rw [hok] at hc
    exact hc
  obtain ⟨o1, o2, o3, o4, o5, o6, o7⟩ := ok_facts hok
  have hlk : ∀ x ∈ l2, 0 ≤ x.f0 ∧ x.f0 ≤ (l1.length : Int) - 1 ∧ 0 ≤ x.f1 ∧ x.f1 ≤ (l0.length : Int) := by
    intro x hx
    unfold okBook at hok
    simp only [Bool.and_eq_true, List.all_eq_true] at hok
    have := hok.2 x hx
    unfold okLook at this
    simp only [Bool.and_eq_true, decide_eq_true_eq] at this
    omega
  have hdy : ∀ x ∈ l1, okDay x = true := by
    unfold okBook at hok
    simp only [Bool.and_eq_true, List.all_eq_true] at hok
    exact hok.1.2
  have HLK := Lib.hid hlk
  have HDY := Lib.hid hdy
  have HR1 := Lib.hid (row90 h.r1)
  have HR2 := Lib.hid (row43 h.r2)
  have HA0 := Lib.hid (amid_true (n := (l0.length : Int)) (a := 1) (b := 4) (by omega) (by omega))
  have HA1 := Lib.hid (amid_true (n := (l1.length : Int)) (a := 1) (b := 5) (by omega) (by omega))
  have l2I : (l2.length : Int) ≤ 4 := by omega
  have l1I : (1 : Int) ≤ (l1.length : Int) := by omega
  have l1J : (l1.length : Int) ≤ 5 := by omega
  clear h hok o6 o7 hlk hdy
  go_enter Tryd.func56, Tryd.ntmps56
  go_wp2_with fail
  refine (HCC.out _ ?hw).mono ?_
  (case hw => exact by repeat (first | exact Below.refl _ _ | refine Below.alloc ?_ (by simp <;> omega) _ | refine Below.setCell ?_ (by simp <;> omega) _ | apply Below.drew))
  rintro e w1 ⟨rfl, hB1⟩
  have hk := blk_below (blk_new w (.cells #[.slice A0 l0.length c0, .slice A1 l1.length c1, .slice A2 l2.length c2] 26)) hB1
  have HB1 := Lib.hid ((show Below w.heap.size w _ from by repeat (first | exact Below.refl _ _ | refine Below.alloc ?_ (by simp <;> omega) _ | refine Below.setCell ?_ (by simp <;> omega) _ | apply Below.drew)).trans (below_weaken hB1 (by simp)))
  have k0 := (blk_cell hk 0).trans rfl
  have HK := Lib.hid hk
  clear hB1 hk
  go_wp2_with fail
  clear k0
  refine (HA0.out _).mono ?_
  rintro e w2 ⟨rfl, hB2⟩
  have hk := blk_below HK.out hB2
  have HB2 := Lib.hid (HB1.out.trans (below_weaken hB2 HB1.out.size))
  have k0 := (blk_cell hk 1).trans rfl
  have HK2 := Lib.hid hk
  clear hB2 hk
  go_wp2_with fail
  clear k0
  refine (HA1.out _).mono ?_
  rintro e w3 ⟨rfl, hB3⟩
  have hk := blk_below HK2.out hB3
  have HB3 := Lib.hid (HB2.out.trans (below_weaken hB3 HB2.out.size))
  have k0 := (blk_cell hk 2).trans rfl
  have HK3 := Lib.hid hk
  clear hB3 hk
  go_wp2
  clear k0
  go_loopg [3, 4] (l1.length) (fun gk v3 v4 wr => ∃ k : Nat, v3 = .bool true ∧ v4 = .int .i64 k ∧ Aside0 (k + gk = l1.length) ∧ Aside0 (wr.heap[w.heap.size]? = some (.cells #[.slice A0 l0.length c0, .slice A1 l1.length c1, .slice A2 l2.length c2] 26 (0, 0))) ∧ Aside0 (Below w.heap.size w wr))
  case atStart => exact ⟨0, rfl, rfl, ⟨by omega⟩, ⟨HK3.out⟩, ⟨HB3.out⟩⟩
  case round =>
    obtain ⟨k, rfl, rfl, HKK, HKB, HBR⟩ := hrel
    have k1 := (blk_cell HKB.out 1).trans rfl
    cases gk with
    | zero =>
      have hge : ¬ k < l1.length := by have := HKK.out; omega
      go_wp2
      clear k1
      obtain ⟨wo, rfl⟩ : ∃ wo : World, wo = wr := ⟨_, rfl⟩
      have HKB2 := Lib.hid HKB.out
      have HBR2 := Lib.hid HBR.out
      clear HKB HBR hge HKK
      go_loopg [3, 5] (l2.length) (fun gk v3 v5 wr => ∃ k : Nat, v3 = .bool true ∧ v5 = .int .i64 k ∧ Aside0 (k + gk = l2.length) ∧ Aside0 (wr.heap[w.heap.size]? = some (.cells #[.slice A0 l0.length c0, .slice A1 l1.length c1, .slice A2 l2.length c2] 26 (0, 0))) ∧ Aside0 (Below w.heap.size w wr))
      case atStart => exact ⟨0, rfl, rfl, ⟨by omega⟩, ⟨HKB2.out⟩, ⟨HBR2.out⟩⟩
      case round =>
        obtain ⟨k, rfl, rfl, HKK, HKB, HBR⟩ := hrel
        have k2 := (blk_cell HKB.out 2).trans rfl
        cases gk with
        | zero =>
          have hge : ¬ k < l2.length := by have := HKK.out; omega
          go_wp2
          go_ret
          exact ⟨rfl, HBR.out⟩
        | succ g1 =>
          have hlt : k < l2.length := by have := HKK.out; omega
          obtain ⟨b, o, rfl, hbl, q0, q1⟩ := at43 HR2.out k hlt
          have hlkk := HLK.out _ (List.getElem_mem hlt)
          obtain ⟨x0, hx0⟩ : ∃ x, x = l2[k].f0 := ⟨_, rfl⟩
          obtain ⟨x1, hx1⟩ : ∃ x, x = l2[k].f1 := ⟨_, rfl⟩
          rw [← hx0] at q0 hlkk
          rw [← hx1] at q1 hlkk
          obtain ⟨hx00, hx01, hx10, hx11⟩ := hlkk
          have QC0 := Lib.hid q0
          have QC1 := Lib.hid q1
          have hk4 : (k : Int) < (l2.length : Int) := by omega
          clear hx0 hx1 q0 q1
          go_upto_region 9 with fail
          clear k2
          have hwl : IntKind.i64.wrap ((l1.length : Int) - 1) = (l1.length : Int) - 1 := IntWalk.i64_in _ (by omega)
          have hBD : Below wr.heap.size wr wr.drew := by repeat (first | exact Below.refl _ _ | refine Below.alloc ?_ (by simp <;> omega) _ | refine Below.setCell ?_ (by simp <;> omega) _ | apply Below.drew)
          have HKD := Lib.hid (blk_below HKB.out hBD)
          have HWD := Lib.hid (HBR.out.trans (below_weaken hBD HBR.out.size))
          clear hBD
          refine start_ (n := 24) (S := fun w' => w'.cell? ⟨w.heap.size, 0, none⟩ = some (.slice A0 l0.length c0) ∧ w'.cell? ⟨w.heap.size, 1, none⟩ = some (.slice A1 l1.length c1) ∧ w'.cell? ⟨w.heap.size, 2, none⟩ = some (.slice (some ⟨b, o, none⟩) l2.length c2) ∧ w'.cell? ⟨b, o + k * 2, none⟩ = some (.int .i64 x0) ∧ w'.cell? ⟨b, o + k * 2 + 1, none⟩ = some (.int .i64 x1)) (ds := []) #[false, false, false, false, false, false, false, false, false, false, false, false, false, false, false, false, false, false, false, false, false, false, false, false] (by kernel_rfl) rfl rfl ⟨(blk_cell HKD.out 0).trans rfl, (blk_cell HKD.out 1).trans rfl, (blk_cell HKD.out 2).trans rfl, (HWD.out.cell (p := ⟨b, o + k * 2, none⟩) hbl).trans QC0.out, (HWD.out.cell (p := ⟨b, o + k * 2 + 1, none⟩) hbl).trans QC1.out⟩ (fun hHeld => ?_)
          refine pu_ 0 (some 63) ?_
          refine pu_ 2 (some 65) ?_
          refine pu_ 6 (some 69) ?_
          refine ta_ 1 (some 64) (s := hHeld) (y := by rintro w' ⟨s0, s1, s2, s3, s4⟩; go_simp; with_reducible rfl) (h := ?_)
          refine pu_ 3 (some 66) ?_
          refine pu_ 4 (some 67) ?_
          refine ta_ 5 (some 68) (s := hHeld) (y := by rintro w' ⟨s0, s1, s2, s3, s4⟩; go_simp; with_reducible rfl) (h := ?_)
          refine ta_ 7 (some 70) (s := hHeld) (y := by rintro w' ⟨s0, s1, s2, s3, s4⟩; go_simp; with_reducible rfl) (h := ?_)
          refine pu_ 8 (some 71) ?_
          refine pu_ 9 (some 72) ?_
          refine one_ (i := 10) (N := some 73) #[true, true, true, true, true, true, true, true, true, true, true, false, false, false, false, false, false, false, false, false, false, false, false, false] rfl rfl (by kernel_rfl) (by decide) (fun K hK => ?_)
          refine goes_ Tryd.func60 (by kernel_rfl) rfl #[.int .i64 x0, .int .i64 0, .int .i64 ((l1.length : Int) - 1)] (by rfl) rfl rfl (by simp only [List.map_toArray, List.map_cons, List.map_nil]; rfl) ?_
          refine (amid_true hx00 hx01 _).mono ?_
          rintro e w7 ⟨rfl, hb⟩
          refine ⟨_, rfl, ?_⟩
          have h7 := blk_below HKD.out hb
          have HW7 := Lib.hid (HWD.out.trans (below_weaken hb HWD.out.size))
          refine hK.out _ _ ⟨(blk_cell h7 0).trans rfl, (blk_cell h7 1).trans rfl, (blk_cell h7 2).trans rfl, (HW7.out.cell (p := ⟨b, o + k * 2, none⟩) hbl).trans QC0.out, (HW7.out.cell (p := ⟨b, o + k * 2 + 1, none⟩) hbl).trans QC1.out⟩ (fun hHeld => ?_)
          clear hK K
          refine no_ 73 ?_
          refine pu_ 11 (some 74) ?_
          refine pu_ 12 (some 75) ?_
          refine pu_ 14 (some 77) ?_
          refine pu_ 18 (some 81) ?_
          refine ta_ 13 (some 76) (s := hHeld) (y := by rintro w' ⟨s0, s1, s2, s3, s4⟩; go_simp; with_reducible rfl) (h := ?_)
          refine pu_ 15 (some 78) ?_
          refine pu_ 16 (some 79) ?_
          refine ta_ 17 (some 80) (s := hHeld) (y := by rintro w' ⟨s0, s1, s2, s3, s4⟩; go_simp; with_reducible rfl) (h := ?_)
          refine ta_ 19 (some 82) (s := hHeld) (y := by rintro w' ⟨s0, s1, s2, s3, s4⟩; go_simp; with_reducible rfl) (h := ?_)
          refine pu_ 20 (some 83) ?_
          refine one_ (i := 21) (N := some 84) #[true, true, true, true, true, true, true, true, true, true, true, true, true, true, true, true, true, true, true, true, true, true, false, false] rfl rfl (by kernel_rfl) (by decide) (fun K hK => ?_)
          refine goes_ Tryd.func60 (by kernel_rfl) rfl #[.int .i64 x1, .int .i64 0, .int .i64 (l0.length : Int)] (by rfl) rfl rfl (by simp only [List.map_toArray, List.map_cons, List.map_nil]; rfl) ?_
          refine (amid_true hx10 hx11 _).mono ?_
          rintro e w8 ⟨rfl, hb8⟩
          refine ⟨_, rfl, ?_⟩
          have h8 := blk_below h7 hb8
          have HW8 := Lib.hid (HW7.out.trans (below_weaken hb8 HW7.out.size))
          refine hK.out _ _ ⟨(blk_cell h8 0).trans rfl, (blk_cell h8 1).trans rfl, (blk_cell h8 2).trans rfl, (HW8.out.cell (p := ⟨b, o + k * 2, none⟩) hbl).trans QC0.out, (HW8.out.cell (p := ⟨b, o + k * 2 + 1, none⟩) hbl).trans QC1.out⟩ (fun hHeld => ?_)
          clear hK K
          refine no_ 84 ?_
          refine pu_ 22 (some 85) ?_
          refine pu_ 23 (some 3) ?_
          refine done_ (by kernel_rfl) ?_

          go_wp2
          go_roundg g1
          case measure => omega
          case rel => exact ⟨k + 1, rfl, by go_num, ⟨by have := HKK.out; omega⟩, ⟨h8⟩, ⟨HW8.out⟩⟩
    | succ g1 =>
      have hlt : k < l1.length := by have := HKK.out; omega
      obtain ⟨b, o, rfl, hbl, q0, q1, q2⟩ := at90 HR1.out k hlt
      have hd := HDY.out _ (List.getElem_mem hlt)
      obtain ⟨lo, hlo⟩ : ∃ x, x = l1[k].f0.f0 := ⟨_, rfl⟩
      obtain ⟨hi, hhi⟩ : ∃ x, x = l1[k].f0.f1 := ⟨_, rfl⟩
      obtain ⟨sk, hsk⟩ : ∃ x, x = l1[k].f1 := ⟨_, rfl⟩
      unfold okDay at hd
      simp only [Bool.and_eq_true, decide_eq_true_eq] at hd
      rw [← hlo] at q0 hd
      rw [← hhi] at q1 hd
      rw [← hsk] at q2 hd
      obtain ⟨⟨d1, d2, d3, d4⟩, d5, d6⟩ := hd
      have HS := Lib.hid (sane_true (a := 0) (b := 20) (c := 1) d1 d2 d3 d4 (by omega) (by omega))
      have HA := Lib.hid (amid_true d5 d6)
      have QC2 := Lib.hid q2
      have c0' := (HBR.out.cell (p := ⟨b, o + k * 3, none⟩) hbl).trans q0
      have c1' := (HBR.out.cell (p := ⟨b, o + k * 3 + 1, none⟩) hbl).trans q1
      clear hlo hhi hsk q0 q1 q2 d1 d2 d3 d4 d5 d6
      go_wp2_with fail
      refine (HS.out _).mono ?_
      rintro e w7 ⟨rfl, hb7⟩
      clear c0' c1' k1
      have h7 := blk_below HKB.out hb7
      have HB7 := Lib.hid (HBR.out.trans (below_weaken hb7 HBR.out.size))
      have k1 := (blk_cell h7 1).trans rfl
      have c2' := (HB7.out.cell (p := ⟨b, o + k * 3 + 2, none⟩) hbl).trans QC2.out
      have HK7 := Lib.hid h7
      clear hb7 h7
      go_wp2_with fail
      refine (HA.out _).mono ?_
      rintro e w8 ⟨rfl, hb8⟩
      have h8 := blk_below HK7.out hb8
      have HB8 := Lib.hid (HB7.out.trans (below_weaken hb8 HB7.out.size))
      have HK8 := Lib.hid h8
      clear hb8 h8 k1 c2'
      go_wp2
      go_roundg g1
      case measure => omega
      case rel => exact ⟨k + 1, rfl, by go_num, ⟨by have := HKK.out; omega⟩, ⟨HK8.out⟩, ⟨HB8.out⟩⟩
theorem sound_calls (A0 A1 A2 : Option Addr) (c0 c1 c2 : Nat) (l0 : List S92) (l1 : List S90) (l2 : List S43) (w : World) (h : BookAt w A0 A1 A2 c0 c1 c2 l0 l1 l2) :
    Calls Tryd.prog 56 #[.agg #[.slice A0 l0.length c0, .slice A1 l1.length c1, .slice A2 l2.length c2]] w fun e w' => e = .returned (.bool (okBook l0 l1 l2)) ∧ Below w.heap.size w w' := by
  cases hok : okBook l0 l1 l2
  · exact sound_no A0 A1 A2 c0 c1 c2 l0 l1 l2 w h hok
  · exact sound_yes A0 A1 A2 c0 c1 c2 l0 l1 l2 w h hok
end Go.Proofs.YthgjedagbgmgmaaDoor.Pr
namespace Go.Proofs.YthgjedagbgmgmaaDoor.Pr
open Go.RowKit Go.Proofs.YthgjedagbgmgmaaDoorW.PrintWords Go.Proofs.YthgjedagbgmgmaaDoorW.PrintLast Go.Proofs.YthgjedagbgmgmaaDoorW.PrintMore
set_option linter.unusedVariables false
set_option linter.unusedSimpArgs false
/-- The state of a road alone: how many layers are bound, and by how many wagons the next one was rolled. -/
def stepS (ls : List S92) (q : Int × Int) (s k : Int) : Int × Int :=
  if q.1 = ls.length then q else
  if s = 1 then (if (ls.getD q.1.toNat z92).f0 ≤ (if q.2 = -1 then 0 else q.2) + k then (q.1 + 1, -1) else (q.1, (if q.2 = -1 then 0 else q.2) + k))
  else if s = 2 then (q.1, -1) else (q.1, if q.2 = -1 then 0 else q.2)
theorem start_rolled (r : Rd) : r.start.rolled = if r.rolled = -1 then 0 else r.rolled := by
  unfold Rd.start
  split <;> rfl
theorem afterR_state (ls : List S92) (r : Rd) (s k : Int) : ((afterR ls r s k).bound, (afterR ls r s k).rolled) = stepS ls (r.bound, r.rolled) s k := by
  unfold afterR stepS
  rw [← start_rolled]
  repeat' split
  all_goals first | rfl | (exfalso; simp_all; done)
/-- All states at the ends of the days. -/
def states (ls : List S92) : Ch → Int × Int → List (Int × Int)
  | [], _ => []
  | p :: c, q => stepS ls q p.2 p.1 :: states ls c (stepS ls q p.2 p.1)
theorem states_road (ls : List S92) : ∀ (c : Ch) (r : Rd), (roadFrom ls c r).map (fun r => (r.bound, r.rolled)) = states ls c (r.bound, r.rolled) := by
  intro c
  induction c with
  | nil => intro r; rfl
  | cons p c ih =>
    intro r
    show ((afterR ls r p.2 p.1).bound, (afterR ls r p.2 p.1).rolled) :: (roadFrom ls c (afterR ls r p.2 p.1)).map (fun r => (r.bound, r.rolled)) = _
    rw [ih, afterR_state]
    rfl
/-- The state at the end of a day. -/
def stAt (ls : List S92) (c : Ch) (d : Nat) : Int × Int := (states ls c (0, -1)).getD d (0, -1)
theorem stAt_bound (ls : List S92) (c : Ch) (d : Nat) : (rdAt ls c d).bound = (stAt ls c d).1 := by
  unfold rdAt stAt
  rw [List.getD_eq_getElem?_getD, List.getD_eq_getElem?_getD]
  have := states_road ls c r00
  rw [show ((0 : Int), (-1 : Int)) = (r00.bound, r00.rolled) from rfl, ← this, List.getElem?_map]
  cases (roadFrom ls c r00)[d]? <;> rfl
end Go.Proofs.YthgjedagbgmgmaaDoor.Pr
namespace Go.Proofs.YthgjedagbgmgmaaDoor.Pr
open Go.RowKit Go.Proofs.YthgjedagbgmgmaaDoorW.PrintWords Go.Proofs.YthgjedagbgmgmaaDoorW.PrintLast Go.Proofs.YthgjedagbgmgmaaDoorW.PrintMore
set_option linter.unusedVariables false
set_option linter.unusedSimpArgs false
theorem rdAt_get {ls : List S92} {c : Ch} {d : Nat} (h : d < c.length) : rdAt ls c d = (roadFrom ls c r00)[d]'(by rw [roadFrom_length]; exact h) := by
  unfold rdAt
  rw [List.getD_eq_getElem?_getD, List.getElem?_eq_getElem]
  rfl
section
variable {ls : List S92} {ds : List S90} {ks : List S43}
theorem bspan_told (hok : okBook ls ds ks = true) (hT : 0 < (truthsAll ls ds ks []).length) {d : Nat} (hd : d < ds.length) :
    Told (good ls ds ks []) (fun c => (rdAt ls c d).bound) (bspan (truthsAll ls ds ks []) d).1 (bspan (truthsAll ls ds ks []) d).2 :=
  told_span hT (fun c hc => enc0_bound (mem_good.1 hc).1 (ok_facts hok).2.2.1 d hd)
end
section
variable {ls : List S92} {ds : List S90} {ks : List S43}
theorem askCode_true_zero (hok : okBook ls ds ks = true) (hT : 0 < (truthsAll ls ds ks []).length) : askCode ls ds ks true = 0 := by
  unfold askCode
  rw [if_pos hok, if_pos rfl, if_neg (by omega)]
end
end Go.Proofs.YthgjedagbgmgmaaDoor.Pr
namespace Go.Proofs.YthgjedagbgmgmaaDoor.Pr
open Go.RowKit Go.Proofs.YthgjedagbgmgmaaDoorW.PrintWords Go.Proofs.YthgjedagbgmgmaaDoorW.PrintLast Go.Proofs.YthgjedagbgmgmaaDoorW.PrintMore
set_option linter.unusedVariables false
set_option linter.unusedSimpArgs false
theorem ret_true {b : Bool} (h : b = true) : Ending.returned (.bool b) = .returned (.bool true) := by rw [h]
theorem isDay_true {d n : Nat} (h : d < n) : decide (0 ≤ (d : Int) ∧ (d : Int) ≤ (n : Int) - 1) = true := decide_eq_true (by omega)
theorem boundF_eq {ls : List S92} {ds : List S90} {ks : List S43} (hok : okBook ls ds ks = true) (hT : 0 < (truthsAll ls ds ks []).length) {d : Nat} (hd : d < ds.length) :
    boundF ls ds ks d = ((bspan (truthsAll ls ds ks []) d).1, (bspan (truthsAll ls ds ks []) d).2, 0) := by
  unfold boundF
  rw [isDay_true hd, if_pos (askCode_true_zero hok hT)]
  rfl
end Go.Proofs.YthgjedagbgmgmaaDoor.Pr
namespace Go.Proofs.YthgjedagbgmgmaaDoor.Pr
open Go.RowKit Go.Proofs.YthgjedagbgmgmaaDoorW.PrintWords Go.Proofs.YthgjedagbgmgmaaDoorW.PrintLast Go.Proofs.YthgjedagbgmgmaaDoorW.PrintMore
set_option linter.unusedVariables false
set_option linter.unusedSimpArgs false
/-- Is a look right, or one of some? -/
def rightLook (x : S43) (day bound : Int) (but : List Int) (k : Nat) : Bool := !(x.f0 == day && x.f1 != bound && !decide ((k : Int) ∈ but))
theorem rightFrom_cons (x : S43) (xs : List S43) (day bound : Int) (but : List Int) (k : Nat) : rightFrom (x :: xs) day bound but k = (rightLook x day bound but k && rightFrom xs day bound but (k + 1)) := rfl
theorem rightFrom_iff (but : List Int) (day bound : Int) : ∀ (ks : List S43) (k : Nat), rightFrom ks day bound but k = true ↔ ∀ i (h : i < ks.length), ks[i].f0 = day → ((k + i : Nat) : Int) ∉ but → ks[i].f1 = bound := by
  intro ks
  induction ks with
  | nil => intro k; simp [rightFrom]
  | cons x xs ih =>
    intro k
    rw [rightFrom_cons, Bool.and_eq_true, ih]
    have h0 : rightLook x day bound but k = true ↔ (x.f0 = day → (k : Int) ∉ but → x.f1 = bound) := by
      unfold rightLook
      by_cases h1 : x.f0 = day
      · by_cases h2 : (k : Int) ∈ but
        · simp [h1, h2]
        · by_cases h3 : x.f1 = bound <;> simp [h1, h2, h3]
      · simp [h1]
    rw [h0]
    constructor
    · rintro ⟨a, b⟩ i hi
      cases i with
      | zero => exact a
      | succ i =>
        have := b i (by simpa using hi)
        rw [show k + 1 + i = k + (i + 1) by omega] at this
        exact this
    · intro h
      refine ⟨h 0 (by simp), fun i hi => ?_⟩
      have := h (i + 1) (by simpa using hi)
      rw [show k + (i + 1) = k + 1 + i by omega] at this
      exact this
/-- What a choice in which the looks are right is. -/
theorem mem_good' {ls : List S92} {ds : List S90} {looks : List S43} {but : List Int} {c : Ch} : c ∈ good ls ds looks but ↔ OkCh ds c ∧ ∀ i (h : i < looks.length), (i : Int) ∉ but → ∀ d : Nat, d < ds.length → looks[i].f0 = d → looks[i].f1 = (rdAt ls c d).bound := by
  rw [mem_good]
  constructor
  · rintro ⟨h1, h2⟩
    refine ⟨h1, fun i hi hb d hd e => ?_⟩
    have hl : d < (roadFrom ls c r00).length := by rw [roadFrom_length, h1.1]; exact hd
    have h3 := (okRoad_iff looks but _ 0).1 h2 d hl
    rw [Nat.zero_add] at h3
    have h4 := (rightFrom_iff but d _ looks 0).1 h3 i hi e (by rwa [Nat.zero_add])
    rw [h4, rdAt_get (by rw [h1.1]; exact hd)]
  · rintro ⟨h1, h2⟩
    refine ⟨h1, (okRoad_iff looks but _ 0).2 fun d hl => (rightFrom_iff but _ _ looks 0).2 fun i hi e hb => ?_⟩
    have hd : d < ds.length := by rw [roadFrom_length, h1.1] at hl; exact hl
    rw [Nat.zero_add] at e hb
    have := h2 i hi hb d hd e
    rwa [rdAt_get (by rw [h1.1]; exact hd)] at this
theorem truths_pos {ls : List S92} {ds : List S90} {ks : List S43} {but : List Int} : 0 < (truthsAll ls ds ks but).length ↔ ∃ c, c ∈ good ls ds ks but := by
  rw [truthsAll_length]
  constructor
  · intro h
    exact ⟨_, List.getElem_mem h⟩
  · rintro ⟨c, hc⟩
    exact List.length_pos_of_mem hc
section
variable {ls : List S92} {ds : List S90} {ks : List S43}
end
end Go.Proofs.YthgjedagbgmgmaaDoor.Pr
namespace Go.Proofs.YthgjedagbgmgmaaDoor.Pr
open Go.RowKit Go.Proofs.YthgjedagbgmgmaaDoorW.PrintWords Go.Proofs.YthgjedagbgmgmaaDoorW.PrintLast Go.Proofs.YthgjedagbgmgmaaDoorW.PrintMore
set_option linter.unusedVariables false
set_option linter.unusedSimpArgs false
theorem orI_bit {set s j : Int} (h0 : 0 ≤ set) (h7 : set ≤ 7) (s0 : 0 ≤ s) (s2 : s ≤ 2) (j0 : 0 ≤ j) (j2 : j ≤ 2) : orI set s / 2 ^ j.toNat % 2 = 1 ↔ set / 2 ^ j.toNat % 2 = 1 ∨ s = j := by
  have hs : s = 0 ∨ s = 1 ∨ s = 2 := by omega
  have hj : j = 0 ∨ j = 1 ∨ j = 2 := by omega
  rcases hs with rfl | rfl | rfl <;> rcases hj with rfl | rfl | rfl <;> rcases cases8 h0 h7 with rfl | rfl | rfl | rfl | rfl | rfl | rfl | rfl <;> decide +kernel
/-- What a set of skies holds. -/
theorem skySet_law {d : Nat} : ∀ (T : List (List Int)) (q : Int), (∀ t ∈ T, 0 ≤ t.getD (5 + d) 0 ∧ t.getD (5 + d) 0 ≤ 2) → 0 ≤ q → q ≤ 7 →
    0 ≤ skySet T d q ∧ skySet T d q ≤ 7 ∧ ∀ j : Int, 0 ≤ j → j ≤ 2 → (skySet T d q / 2 ^ j.toNat % 2 = 1 ↔ q / 2 ^ j.toNat % 2 = 1 ∨ ∃ t ∈ T, t.getD (5 + d) 0 = j) := by
  intro T
  induction T with
  | nil => intro q _ h0 h7; exact ⟨h0, h7, fun j _ _ => by simp [skySet]⟩
  | cons t T ih =>
    intro q hT h0 h7
    have ht := hT t (by simp)
    obtain ⟨b0, b7⟩ := orI_bounds (s := t.getD (5 + d) 0) h0 h7
    obtain ⟨i0, i7, i⟩ := ih (orI q (t.getD (5 + d) 0)) (fun x hx => hT x (by simp [hx])) b0 b7
    refine ⟨i0, i7, fun j j0 j2 => ?_⟩
    refine (i j j0 j2).trans ?_
    rw [orI_bit h0 h7 ht.1 ht.2 j0 j2, or_assoc]
    simp
theorem mem_truths {ls : List S92} {ds : List S90} {ks : List S43} {but : List Int} {t : List Int} : t ∈ truthsAll ls ds ks but ↔ ∃ c ∈ good ls ds ks but, enc0 ls c = t := by
  rw [truthsAll_good]
  exact List.mem_map
end Go.Proofs.YthgjedagbgmgmaaDoor.Pr
namespace Go.Proofs.YthgjedagbgmgmaaDoor.Pr
open Go.RowKit Go.Proofs.YthgjedagbgmgmaaDoorW.PrintWords Go.Proofs.YthgjedagbgmgmaaDoorW.PrintLast Go.Proofs.YthgjedagbgmgmaaDoorW.PrintMore
set_option linter.unusedVariables false
set_option linter.unusedSimpArgs false
/-- What a day can be. -/
def DayIn (x : S90) (p : Int × Int) : Prop := x.f0.f0 ≤ p.1 ∧ p.1 ≤ x.f0.f1 ∧ 0 ≤ p.2 ∧ p.2 ≤ 2 ∧ hasSky x.f1 p.2.toNat = true
section
variable {ls : List S92} {ds : List S90} {ks : List S43}
theorem okBook_parts (h : okBook ls ds ks = true) : (1 ≤ ls.length ∧ ls.length ≤ 4) ∧ (1 ≤ ds.length ∧ ds.length ≤ 5) ∧ ks.length ≤ 4 ∧ (∀ x ∈ ls, okLayer x = true) ∧ (∀ x ∈ ds, okDay x = true) ∧ ∀ x ∈ ks, okLook ls.length ds.length x = true := by
  unfold okBook at h
  simp only [Bool.and_eq_true, decide_eq_true_eq, List.all_eq_true] at h
  obtain ⟨⟨⟨⟨⟨a, b⟩, c⟩, d⟩, e⟩, f⟩ := h
  exact ⟨a, b, c, d, e, f⟩
theorem okBook_mk (h1 : 1 ≤ ls.length ∧ ls.length ≤ 4) (h2 : 1 ≤ ds.length ∧ ds.length ≤ 5) (h3 : ks.length ≤ 4) (h4 : ∀ x ∈ ls, okLayer x = true) (h5 : ∀ x ∈ ds, okDay x = true) (h6 : ∀ x ∈ ks, okLook ls.length ds.length x = true) : okBook ls ds ks = true := by
  unfold okBook
  rw [decide_eq_true h1, decide_eq_true h2, decide_eq_true h3, List.all_eq_true.2 h4, List.all_eq_true.2 h5, List.all_eq_true.2 h6]
  rfl
theorem okBook_set (h : okBook ls ds ks = true) (j : Nat) {y : S90} (hy : okDay y = true) : okBook ls (ds.set j y) [] = true := by
  obtain ⟨a, b, c, d, e, f⟩ := okBook_parts h
  refine okBook_mk a (by simpa using b) (by simp) d (fun x hx => ?_) (by simp)
  rcases List.mem_or_eq_of_mem_set hx with h | h
  · exact e x h
  · rw [h]; exact hy
end
theorem okCh_zero {ds : List S90} {c : Ch} (hd : ∀ x ∈ ds, okDay x = true) (h : OkCh ds c) : ∀ i (hi : i < c.length), 0 ≤ c[i].1 := by
  intro i hi
  have hi' : i < ds.length := by rw [← h.1]; exact hi
  have h1 := (h.2 i hi hi').1
  have h2 := hd _ (List.getElem_mem hi')
  unfold okDay at h2
  simp only [Bool.and_eq_true, decide_eq_true_eq] at h2
  omega
section
variable {ls : List S92} {ds : List S90} {ks : List S43}
end
end Go.Proofs.YthgjedagbgmgmaaDoor.Pr
namespace Go.Proofs.YthgjedagbgmgmaaDoor.Pr
open Go.RowKit Go.Proofs.YthgjedagbgmgmaaDoorW.PrintWords Go.Proofs.YthgjedagbgmgmaaDoorW.PrintLast Go.Proofs.YthgjedagbgmgmaaDoorW.PrintMore
set_option linter.unusedVariables false
set_option linter.unusedSimpArgs false
/-- The state after some days. -/
def runS (ls : List S92) : Ch → Int × Int → Int × Int
  | [], q => q
  | p :: c, q => runS ls c (stepS ls q p.2 p.1)
/-- The choice, if the road is watered. -/
def wetC (wf : Int → Int → Int) : Nat → Ch → Ch
  | _, [] => []
  | i, p :: c => (p.1, wf (i : Int) p.2) :: wetC wf (i + 1) c
theorem wetC_length (wf : Int → Int → Int) : ∀ (c : Ch) (i : Nat), (wetC wf i c).length = c.length := by
  intro c
  induction c with
  | nil => intro i; rfl
  | cons p c ih => intro i; simp [wetC, ih]
theorem wetC_get (wf : Int → Int → Int) : ∀ (c : Ch) (i k : Nat) (h : k < c.length) (h' : k < (wetC wf i c).length), (wetC wf i c)[k] = (c[k].1, wf ((i + k : Nat) : Int) c[k].2) := by
  intro c
  induction c with
  | nil => intro i k h; exact absurd h (by simp)
  | cons p c ih =>
    intro i k h h'
    cases k with
    | zero => rfl
    | succ k =>
      have := ih (i + 1) k (by simpa using h) (by simpa [wetC] using h')
      simp only [wetC, List.getElem_cons_succ]
      rw [this, show i + 1 + k = i + (k + 1) by omega]
theorem runS_states (ls : List S92) : ∀ (c : Ch) (q : Int × Int) (n : Nat), c.length = n + 1 → (states ls c q).getD n (0, -1) = runS ls c q := by
  intro c
  induction c with
  | nil => intro q n h; simp at h
  | cons p c ih =>
    intro q n h
    cases n with
    | zero =>
      have : c = [] := List.eq_nil_of_length_eq_zero (by simpa using h)
      subst this
      rfl
    | succ n =>
      show (states ls c _).getD n (0, -1) = runS ls c _
      exact ih _ n (by simpa using h)
theorem stAt_last {ls : List S92} {c : Ch} {n : Nat} (h : c.length = n + 1) : stAt ls c n = runS ls c (0, -1) := runS_states ls c _ n h
theorem waterFrom_run (ls : List S92) (wf : Int → Int → Int) (t : List Int) : ∀ (c : Ch) (day : Nat) (r : Rd), (∀ i (h : i < c.length), t.getD (day + i) 0 = c[i].1 ∧ t.getD (5 + (day + i)) 0 = c[i].2) →
    ((waterFrom ls wf t c.length day r).bound, (waterFrom ls wf t c.length day r).rolled) = runS ls (wetC wf day c) (r.bound, r.rolled) := by
  intro c
  induction c with
  | nil => intro day r _; rfl
  | cons p c ih =>
    intro day r h
    have h0 := h 0 (by simp)
    rw [Nat.add_zero] at h0
    simp only [List.getElem_cons_zero] at h0
    show ((waterFrom ls wf t c.length (day + 1) _).bound, (waterFrom ls wf t c.length (day + 1) _).rolled) = runS ls (wetC wf (day + 1) c) _
    rw [ih (day + 1) _ fun i hi => by
      have := h (i + 1) (by simpa using hi)
      rw [show day + (i + 1) = day + 1 + i by omega] at this
      simpa using this]
    rw [h0.1, h0.2, afterR_state]
theorem worst1_run {ls : List S92} {ds : List S90} {c : Ch} (hc : OkCh ds c) (h5 : ds.length ≤ 5) (wf : Int → Int → Int) : worst1F ls ds.length wf (enc0 ls c) = (runS ls (wetC wf 0 c) (0, -1)).1 := by
  have h := waterFrom_run ls wf (enc0 ls c) c 0 r00 fun i hi => by
    have hi' : i < ds.length := by rw [← hc.1]; exact hi
    rw [Nat.zero_add, enc0_wagons hc h5 i hi', enc0_sky hc h5 i hi', List.getD_eq_getElem?_getD, List.getElem?_eq_getElem hi]
    exact ⟨rfl, rfl⟩
  rw [hc.1] at h
  unfold worst1F
  exact congrArg Prod.fst h
theorem wetC_never : ∀ (c : Ch) (i : Nat), wetC neverF i c = c := by
  intro c
  induction c with
  | nil => intro i; rfl
  | cons p c ih => intro i; simp only [wetC, ih]; rfl
theorem wetC_on {at_ : Nat} (c : Ch) {k : Nat} (h : k < c.length) (h' : k < (wetC (onF at_) 0 c).length) : (wetC (onF at_) 0 c)[k] = (c[k].1, if k = at_ ∧ c[k].2 = 0 then 1 else c[k].2) := by
  rw [wetC_get _ _ _ _ h h']
  unfold onF
  rw [Nat.zero_add]
  by_cases e : k = at_
  · subst e
    by_cases z : c[k].2 = 0
    · rw [if_pos ⟨rfl, z⟩, if_pos ⟨rfl, z⟩]
    · rw [if_neg (fun h => z h.2), if_neg (fun h => z h.2)]
  · rw [if_neg (fun h => e (by have := h.1; omega)), if_neg (fun h => e h.1)]
/-- The best day, and how good it is. -/
theorem waterBest_law (g : Int → Int) : ∀ (k d : Nat) (s : Int × Int),
    (waterBest g k d s = s ∧ ∀ i : Nat, d ≤ i → i < d + k → g i ≤ s.2) ∨
    ∃ b : Nat, waterBest g k d s = ((b : Int), g b) ∧ d ≤ b ∧ b < d + k ∧ s.2 < g b ∧ (∀ i : Nat, d ≤ i → i < d + k → g i ≤ g b) ∧ ∀ i : Nat, d ≤ i → i < b → g i < g b := by
  intro k
  induction k with
  | zero => intro d s; exact .inl ⟨rfl, fun i h1 h2 => by omega⟩
  | succ k ih =>
    intro d s
    unfold waterBest
    by_cases h : s.2 < g (d : Int)
    · rw [if_pos h]
      rcases ih (d + 1) ((d : Int), g (d : Int)) with ⟨e, h1⟩ | ⟨b, e, h1, h2, h3, h4, h5⟩
      · refine .inr ⟨d, e, Nat.le_refl _, by omega, h, fun i hi hi2 => ?_, fun i hi hi2 => by omega⟩
        by_cases q : i = d
        · rw [q]; exact Int.le_refl _
        · exact h1 i (by omega) (by omega)
      · dsimp only at h3
        refine .inr ⟨b, e, by omega, by omega, by omega, fun i hi hi2 => ?_, fun i hi hi2 => ?_⟩
        · by_cases q : i = d
          · rw [q]; omega
          · exact h4 i (by omega) (by omega)
        · by_cases q : i = d
          · rw [q]; exact h3
          · exact h5 i (by omega) hi2
    · rw [if_neg h]
      rcases ih (d + 1) s with ⟨e, h1⟩ | ⟨b, e, h1, h2, h3, h4, h5⟩
      · refine .inl ⟨e, fun i hi hi2 => ?_⟩
        by_cases q : i = d
        · rw [q]; omega
        · exact h1 i (by omega) (by omega)
      · refine .inr ⟨b, e, by omega, by omega, h3, fun i hi hi2 => ?_, fun i hi hi2 => ?_⟩
        · by_cases q : i = d
          · rw [q]; omega
          · exact h4 i (by omega) (by omega)
        · by_cases q : i = d
          · rw [q]; omega
          · exact h5 i (by omega) hi2
/-- A day that is damp where it could be dry. -/
def dampSky (s : Int) : Int := if s % 2 = 1 then (if s / 2 % 2 = 1 then s - 1 else s + 1) else s
def dampDay (x : S90) : S90 := ⟨x.f0, dampSky x.f1⟩
theorem dampSky_b {s : Int} (h1 : 1 ≤ s) (h7 : s ≤ 7) : 1 ≤ dampSky s ∧ dampSky s ≤ 7 := by
  unfold dampSky
  repeat' split
  all_goals omega
theorem dampDay_ok {x : S90} (h : okDay x = true) : okDay (dampDay x) = true := by
  unfold okDay at h ⊢
  simp only [Bool.and_eq_true, decide_eq_true_eq] at h ⊢
  exact ⟨h.1, dampSky_b h.2.1 h.2.2⟩
theorem dampSky_has {s p : Int} (h1 : 1 ≤ s) (h7 : s ≤ 7) (p0 : 0 ≤ p) (p2 : p ≤ 2) (h : hasSky s p.toNat = true) : hasSky (dampSky s) (if p = 0 then 1 else p).toNat = true := by
  have hs : s = 1 ∨ s = 2 ∨ s = 3 ∨ s = 4 ∨ s = 5 ∨ s = 6 ∨ s = 7 := by omega
  have hp : p = 0 ∨ p = 1 ∨ p = 2 := by omega
  rcases hs with rfl | rfl | rfl | rfl | rfl | rfl | rfl <;> rcases hp with rfl | rfl | rfl <;> first | rfl | decide | exact absurd h (by decide)
section
variable {ls : List S92} {ds : List S90} {ks : List S43}
theorem damp_up (hok : okBook ls ds ks = true) {j : Nat} (hj : j < ds.length) {c : Ch} (hc : OkCh ds c) : OkCh (ds.set j (dampDay ds[j])) (wetC (onF j) 0 c) := by
  have hjc : j < c.length := by rw [hc.1]; exact hj
  have hd := (okBook_parts hok).2.2.2.2.1 _ (List.getElem_mem hj)
  unfold okDay at hd
  simp only [Bool.and_eq_true, decide_eq_true_eq] at hd
  refine ⟨by rw [wetC_length]; simpa using hc.1, fun i h1 h2 => ?_⟩
  have h1' : i < c.length := by rw [wetC_length] at h1; exact h1
  have h2' : i < ds.length := by simpa using h2
  rw [wetC_on c h1' h1, List.getElem_set]
  obtain ⟨d1, d2, d3, d4, d5⟩ := hc.2 i h1' h2'
  by_cases e : j = i
  · subst e
    rw [if_pos rfl]
    refine ⟨d1, d2, ?_, ?_, ?_⟩
    · dsimp only; split <;> omega
    · dsimp only; split <;> omega
    · have := dampSky_has hd.2.1 hd.2.2 d3 d4 d5
      by_cases z : c[j].2 = 0
      · rw [if_pos z] at this
        rw [if_pos ⟨rfl, z⟩]
        exact this
      · rw [if_neg z] at this
        rw [if_neg (fun h => z h.2)]
        exact this
  · rw [if_neg e]
    rw [if_neg (fun h => e h.1.symm)]
    exact ⟨d1, d2, d3, d4, d5⟩
theorem wet_same {c : Ch} {j : Nat} (h : ∀ hj : j < c.length, c[j].2 ≠ 0) : wetC (onF j) 0 c = c := by
  refine List.ext_getElem (wetC_length _ _ _) fun i h1 h2 => ?_
  rw [wetC_on c h2 h1]
  by_cases e : i = j
  · subst e
    rw [if_neg (fun q => h h2 q.2)]
  · rw [if_neg (fun q => e q.1)]
theorem worst_told (hok : okBook ls ds ks = true) (hT : 0 < (truthsAll ls ds ks []).length) (wf : Int → Int → Int) : ∃ hi, Told (good ls ds ks []) (fun c => (runS ls (wetC wf 0 c) (0, -1)).1) (worstF ls ds.length wf (truthsAll ls ds ks [])) hi :=
  ⟨_, told_span hT fun c hc => worst1_run (mem_good.1 hc).1 (ok_facts hok).2.2.1 wf⟩
theorem never_low (hok : okBook ls ds ks = true) (hT : 0 < (truthsAll ls ds ks []).length) : worstF ls ds.length neverF (truthsAll ls ds ks []) = (bspan (truthsAll ls ds ks []) (ds.length - 1)).1 := by
  obtain ⟨hi, t⟩ := worst_told hok hT neverF
  have hd := (okBook_parts hok).2.1
  refine (t.eq (bspan_told hok hT (show ds.length - 1 < ds.length by omega)) (fun c hc => ⟨c, hc, ?_⟩) (fun c hc => ⟨c, hc, ?_⟩)).1
  · rw [stAt_bound, stAt_last (by rw [(mem_good.1 hc).1.1]; omega), wetC_never]
  · rw [stAt_bound, stAt_last (by rw [(mem_good.1 hc).1.1]; omega), wetC_never]
end
end Go.Proofs.YthgjedagbgmgmaaDoor.Pr
